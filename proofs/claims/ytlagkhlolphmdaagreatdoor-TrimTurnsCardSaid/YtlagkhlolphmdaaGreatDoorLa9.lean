/- Own work: part of the proof; the first line of each part says what it tells. -/
import Derived.Test.YtlagkhlolphmdaaGreatDoorLa8


namespace Go.Proofs.YtlagkhlolphmdaaGreatDoor.X
open Go
set_option linter.unusedVariables false
set_option linter.unusedSimpArgs false
theorem qkT (a:RAT):qbC a=some (cutR 4 a):=by
 obtain⟨⟨s,x⟩,y⟩:=a;unfold qbC cutR;by_cases h1:4<x.length
 · have c1 : ((x.length : Nat) : Int) > 4 := by omega
   have c2:(4:Int)<=((x.length:Nat):Int):=by omega
   by_cases h2:4<y.length
   · have c3 : ((y.length : Nat) : Int) > 4 := by omega
     have c4:(4:Int)<=((y.length:Nat):Int):=by omega
     rw[cnd c1,cnd c2,cnd c3,cnd c4]
   · have c3 : ¬ ((y.length : Nat) : Int) > 4 := by omega
     rw[cnd c1,cnd c2,cnd' c3,List.take_of_length_le (l:=y) (by omega)]
 · have c1 : ¬ ((x.length : Nat) : Int) > 4 := by omega
   by_cases h2:4<y.length
   · have c3 : ((y.length : Nat) : Int) > 4 := by omega
     have c4:(4:Int)<=((y.length:Nat):Int):=by omega
     rw[cnd' c1,cnd c3,cnd c4,List.take_of_length_le (l:=x) (by omega)]
   · have c3 : ¬ ((y.length : Nat) : Int) > 4 := by omega
     rw[cnd' c1,cnd' c3,List.take_of_length_le (l:=x) (by omega),List.take_of_length_le (l:=y) (by omega)]
def qqw (n:NODE):NODE:=(n.1,n.2.1,cutR 4 n.2.2.1,n.2.2.2.1,n.2.2.2.2.1,n.2.2.2.2.2.1,cutR 4 n.2.2.2.2.2.2.1,cutR 4 n.2.2.2.2.2.2.2)
def qhf (t:List NODE):List NODE:=(t.take 15).map qqw
def cutM (m:qak):qak:=(m.1,(m.2.take 6).map qhf)
theorem qvp (n:NODE):NSz (qqw n) 4:=⟨qol 4 _,qol 4 _,qol 4 _⟩
theorem qvo (t:List NODE):TSz (qhf t) 4:=by
 intro n hn;obtain⟨x,_,rfl⟩:=List.mem_map.1 hn;exact qvp x
theorem qtg (t:List NODE):(qhf t).length<=15:=by simp [qhf];omega
theorem qAu (m:qak):MSz (cutM m) 4:=by
 intro t ht;obtain⟨x,_,rfl⟩:=List.mem_map.1 ht;exact qvo x
theorem qw8 (m:qak):∀ t∈(cutM m).2,t.length<=15:=by
 intro t ht;obtain⟨x,_,rfl⟩:=List.mem_map.1 ht;exact qtg x
theorem qtq {m:qak} {i:Nat} (hi:i<m.2.length) (hl:m.2[i].length<=9223372036854775807) (hi2:i<4611686018427387904) (z w:Int×List (List NODE)) :
  lp qaK K0 (((i:Int),[],0,()),((m.1,m.2,()),(z.1,z.2,()),(w.1,w.2,()),()))=some (((i:Int),qhf m.2[i],()),((m.1,m.2,()),(z.1,z.2,()),(w.1,w.2,()),())):=by
 have hn:min m.2[i].length 15<=m.2[i].length:=Nat.min_le_left _ _;exact qf3 (step:=qaK) (fun k=>(((i:Int),(m.2[i].take k).map qqw,(k:Int),()),((m.1,m.2,()),(z.1,z.2,()),(w.1,w.2,()),()))) (min m.2[i].length 15) (by omega) (by
  intro g k hk;have h1:k<m.2[i].length:=by omega
  have d0:(0:Int)<=(i:Int):=by omega
  have d1:(k:Int)<((m.2[i].length:Nat):Int):=by omega
  have d2:(k:Int)<15:=by omega
  have d3:(0:Int)<=(k:Int):=by omega
  have d4:(((m.2[i].take k).map qqw).length+1)*208<=140737488355328:=by simp;omega
  rw[qaK,cnd d0,tN0,gE0 hi,bS0,cnd d1,cnd d2,cnd d0,bS0,cnd d3,tN0,gE0 h1,bS0,qkT,bS0,qkT,bS0,qkT,bS0,blt d4,cond_true,qbp (by omega),qcm _ h1];rfl) (by
  intro g;have d0:(0:Int)<=(i:Int):=by omega
  by_cases h:m.2[i].length<=15
  · have c1 : ¬ ((min m.2[i].length 15 : Nat) : Int) < ((m.2[i].length : Nat) : Int) := by omega
    rw[qaK,cnd d0,tN0,gE0 hi,bS0,cnd' c1,Nat.min_eq_left h,List.take_of_length_le (Nat.le_refl _),qhf,List.take_of_length_le h]
  · have c1 : ((min m.2[i].length 15 : Nat) : Int) < ((m.2[i].length : Nat) : Int) := by omega
    have c2:¬ ((min m.2[i].length 15:Nat):Int)<15:=by omega
    rw[qaK,cnd d0,tN0,gE0 hi,bS0,cnd c1,cnd' c2,Nat.min_eq_right (by omega),qhf])
theorem qyZ (m:qak) (hl:m.2.length<=9223372036854775807) (ht:∀ t∈m.2,t.length<=9223372036854775807):qdC m=some (cutM m):=by
 have hn:min m.2.length 6<=m.2.length:=Nat.min_le_left _ _;have key:=qf3 (step:=qaL) (fun i=>(((i:Int),()),((m.1,m.2,()),(0,[],()),(m.1,(m.2.take i).map qhf,()),()))) (min m.2.length 6) (r:=((),((0,[],()),(m.1,(m.2.take 6).map qhf,()),()))) (by omega) (by
  intro g i hi;have h1:i<m.2.length:=by omega
  have d0:(i:Int)<((m.2.length:Nat):Int):=by omega
  have d1:(i:Int)<6:=by omega
  have hin:=qtq h1 (ht _ (gM0 h1)) (by omega) (0,[]) (m.1,(m.2.take i).map qhf);have d4:(((m.2.take i).map qhf).length+1)*24<=140737488355328:=by simp;omega
  rw[qaL,cnd d0,cnd d1,hin,bS0,blt d4,cond_true,qbp (by omega),qcm _ h1];rfl) (by
  intro g;by_cases h:m.2.length<=6
  · have c1 : ¬ ((min m.2.length 6 : Nat) : Int) < ((m.2.length : Nat) : Int) := by omega
    rw[qaL,cnd' c1,Nat.min_eq_left h,List.take_of_length_le (Nat.le_refl _),List.take_of_length_le h]
  · have c1 : ((min m.2.length 6 : Nat) : Int) < ((m.2.length : Nat) : Int) := by omega
    have c2:¬ ((min m.2.length 6:Nat):Int)<6:=by omega
    rw[qaL,cnd c1,cnd' c2,Nat.min_eq_right (by omega)])
 have key':lp qaL K0 ((0,()),((m.1,m.2,()),(0,[],()),(m.1,[],()),()))=_:=key;rw[qdC,key'];rfl
inductive TR where
 | leaf (i:Nat)
 | split (i:Nat) (l r:TR)
def TR.top:TR->Nat
 | .leaf i=>i
 | .split i _ _=>i
def TR.size:TR->Nat
 | .leaf _=>1
 | .split _ l r=>1+l.size+r.size
def TR.deep:TR->Nat
 | .leaf _=>1
 | .split _ l r=>1+max l.deep r.deep
def Is (t:List NODE) (f:Int):TR->Prop
 | .leaf i=>∃ h:i<t.length,qby t[i]=true
 | .split i l r=>∃ h:i<t.length,qby t[i]=false/\0<=qaM t[i]/\qaM t[i]<f/\nL t[i]=(l.top:Int)/\nR t[i]=(r.top:Int)/\Is t f l/\Is t f r
theorem qzI {t:List NODE} {f:Int} (hr:qf5 t f) (hrk:qum t):∀ i,i<t.length->∃ T,Is t f T/\T.top=i/\T.deep<=t.length+1:=by
 obtain⟨rk,hrk⟩:=hrk;have key:∀ (d i:Nat),i<t.length->rk i<=d->∃ T,Is t f T/\T.top=i/\T.deep<=rk i+1:=by
  intro d
  induction d with
  | zero =>
   intro i hi hd;cases hl:qby t[i] with
   | true=>exact⟨.leaf i,⟨hi,hl⟩,rfl,by simp [TR.deep]⟩
   | false =>
    have:=(hrk i hi).2 (nL t[i]).toNat (by rw[qeq hi hl];simp);omega
  | succ d ih =>
   intro i hi hd;cases hl:qby t[i] with
   | true=>exact⟨.leaf i,⟨hi,hl⟩,rfl,by simp [TR.deep]⟩
   | false =>
    obtain⟨r1,r2,r3,r4,r5,r6⟩:=hr i hi hl;have k1:=(hrk i hi).2 (nL t[i]).toNat (by rw[qeq hi hl];simp);have k2:=(hrk i hi).2 (nR t[i]).toNat (by rw[qeq hi hl];simp);obtain⟨L,hL,hLt,hLd⟩:=ih (nL t[i]).toNat (by omega) (by omega);obtain⟨R,hR,hRt,hRd⟩:=ih (nR t[i]).toNat (by omega) (by omega);refine⟨.split i L R,⟨hi,hl,r1,r2,by rw[hLt];omega,by rw[hRt];omega,hL,hR⟩,rfl,?_⟩
    simp only[TR.deep];omega
 intro i hi;obtain⟨T,h1,h2,h3⟩:=key (rk i) i hi (Nat.le_refl _);have:=(hrk i hi).1;exact⟨T,h1,h2,by omega⟩
theorem Good.tree {m:qak} (h:Good m) {i:Nat} (hi:i<m.2.length):∃ T,Is m.2[i] m.1 T/\T.top=0/\T.deep<=m.2[i].length+1 :=
 qzI (h.ranges hi) (h.shape hi).2 0 (h.1.2.2.2 i hi).1
abbrev zR:RAT:=((false,[]),[])
abbrev zN:NODE:=(false,0,zR,0,0,false,zR,zR)
def qcj (t:List NODE) (i:Nat):NODE:=(t[i]?).getD zN
theorem qcf {t:List NODE} {i:Nat} (h:i<t.length):qcj t i=t[i]:=by simp [qcj,h]
def qj9 (row:List CELL) (i:Nat):CELL:=(row[i]?).getD (false,zR)
theorem qkl {row:List CELL} {i:Nat} (h:i<row.length):qj9 row i=row[i]:=by simp [qj9,h]
def goes (n:NODE) (c:CELL):Bool:=if c.1 then qrI n else decide (rv c.2<rv (nCut n))
def goL (t:List NODE) (row:List CELL) (i:Nat):Bool:=goes (qcj t i) (qj9 row (qaM (qcj t i)).toNat)
def wayT (t:List NODE) (row:List CELL):TR->List Nat
 | .leaf i=>[i]
 | .split i l r=>i::if goL t row i then wayT t row l else wayT t row r
def endT (t:List NODE) (row:List CELL):TR->Nat
 | .leaf i=>i
 | .split i l r=>if goL t row i then endT t row l else endT t row r
theorem qvD (t:List NODE) (row:List CELL) (T:TR):(wayT t row T).getLast?=some (endT t row T):=by
 induction T with
 | leaf i=>rfl
 | split i l r ihl ihr =>
  simp only[wayT,endT,List.getLast?_cons];by_cases h:goL t row i=true
  · rw[if_pos h,if_pos h,ihl];rfl
  · rw[if_neg h,if_neg h,ihr];rfl
theorem qpz (t:List NODE) (row:List CELL) (T:TR):(wayT t row T).length<=T.deep:=by
 induction T with
 | leaf i=>simp [wayT,TR.deep]
 | split i l r ihl ihr =>
  simp only[wayT,TR.deep,List.length_cons];split<;>omega
theorem qwV {t:List NODE} {f:Int} {row:List CELL} {T:TR} (h:Is t f T):endT t row T<t.length:=by
 induction T with
 | leaf i=>exact h.1
 | split i l r ihl ihr =>
  obtain⟨h1,_,_,_,_,_,h2,h3⟩:=h;simp only[endT];split
  · exact ihl h2
  · exact ihr h3
theorem Is.top_lt {t:List NODE} {f:Int} {T:TR} (h:Is t f T):T.top<t.length:=by
 cases T with
 | leaf i=>exact h.1
 | split i l r=>exact h.1
theorem TR.deep_pos (T:TR):0<T.deep:=by cases T<;>simp [TR.deep]<;>omega
def expT (t:List NODE) (row:List CELL) (set:Nat):TR->Rat
 | .leaf i=>rv (nVal (qcj t i))
 | .split i l r=>if set.testBit (qaM (qcj t i)).toNat then (if goL t row i then expT t row set l else expT t row set r)
  else (cov t l.top*expT t row set l+cov t r.top*expT t row set r)/cov t i
def qp2 (t:List NODE) (row:List CELL) (T:TR):Rat:=rv (nVal (qcj t (endT t row T)))
theorem TSz.at {t:List NODE} {k:Nat} (h:TSz t k) {i:Nat} (hi:i<t.length):NSz (qcj t i) k:=by rw[qcf hi];exact h _ (gM0 hi)
theorem qtN {t:List NODE} {f:Int} {row:List CELL} {T:TR} (hs:TSz t 4) (h:Is t f T):SzQ (qp2 t row T) 4:=(hs.at (qwV h)).2.1.szQ (by decide)
theorem qzq {t:List NODE} (hs:TSz t 4) {i:Nat} (hi:i<t.length):SzQ (cov t i) 4:=(hs.at hi).2.2.szQ (by decide)
theorem qyu {t:List NODE} {f:Int} {row:List CELL} {set:Nat} {T:TR} (h:Is t f T) (hall:∀ j:Nat,(j:Int)<f->set.testBit j=true):expT t row set T=qp2 t row T:=by
 induction T with
 | leaf i=>rfl
 | split i l r ihl ihr =>
  obtain⟨h1,_,f0,f1,_,_,h2,h3⟩:=h;rw[<- qcf h1] at f0 f1;have hb:=hall (qaM (qcj t i)).toNat (by omega);simp only[expT,qp2,endT,hb,if_true];split
  · exact ihl h2
  · exact ihr h3
def mkT (t:List NODE):Nat->Nat->TR
 | 0,i=>.leaf i
 | d+1,i=>if qby (qcj t i) then .leaf i else .split i (mkT t d (nL (qcj t i)).toNat) (mkT t d (nR (qcj t i)).toNat)
theorem qzc {t:List NODE} {f:Int}:∀ (d:Nat) (T:TR),Is t f T->T.deep<=d->mkT t d T.top=T:=by
 intro d
 induction d with
 | zero=>intro T _ h;have:=T.deep_pos;omega
 | succ d ih =>
  intro T h hd;cases T with
  | leaf i =>
   obtain⟨h1,h2⟩:=h;simp only[TR.top,mkT,qcf h1,h2,if_true]
  | split i l r =>
   obtain⟨h1,h2,_,_,h3,h4,h5,h6⟩:=h;simp only[TR.deep] at hd;show mkT t (d+1) i=_;rw[mkT,qcf h1,h2,h3,h4,tN0,tN0,ih l h5 (by omega),ih r h6 (by omega)];rfl
def treeOf (t:List NODE):TR:=mkT t (t.length+1) 0
theorem Good.treeOf {m:qak} (h:Good m) {i:Nat} (hi:i<m.2.length):Is m.2[i] m.1 (treeOf m.2[i])/\(treeOf m.2[i]).top=0/\(treeOf m.2[i]).deep<=m.2[i].length+1:=by
 obtain⟨T,h1,h2,h3⟩:=h.tree hi;have:X.treeOf m.2[i]=T:=by rw[X.treeOf,<- h2];exact qzc _ T h1 h3
 rw[this];exact⟨h1,h2,h3⟩
def qcC (m:qak) (i:Nat):List NODE:=(m.2[i]?).getD []
theorem qfS {m:qak} {i:Nat} (h:i<m.2.length):qcC m i=m.2[i]:=by simp [qcC,h]
def qsJ (m:qak) (row:List CELL):Rat:=rsum (fun i=>qp2 (qcC m i) row (treeOf (qcC m i))) m.2.length
def sayM (m:qak) (row:List CELL) (set:Nat):Rat:=rsum (fun i=>expT (qcC m i) row set (treeOf (qcC m i))) m.2.length
theorem MSz.at {m:qak} {k:Nat} (h:MSz m k) {i:Nat} (hi:i<m.2.length):TSz (qcC m i) k:=by rw[qfS hi];exact h _ (gM0 hi)
theorem Good.isAt {m:qak} (h:Good m) {i:Nat} (hi:i<m.2.length):Is (qcC m i) m.1 (X.treeOf (qcC m i)):=by rw[qfS hi];exact(h.treeOf hi).1
theorem qxY {m:qak} {row:List CELL} (h:Good m) (hs:MSz m 4) {i:Nat} (hi:i<m.2.length):SzQ (qp2 (qcC m i) row (treeOf (qcC m i))) 4:=qtN (hs.at hi) (h.isAt hi)
theorem qBe {m:qak} (h:Good m) (hl:∀ t∈m.2,t.length<=15) {i:Nat} (hi:i<m.2.length):(treeOf (qcC m i)).deep<=16:=by
 rw[qfS hi];have:=(h.treeOf hi).2.2;have:=hl _ (gM0 hi);omega
theorem qxZ {m:qak} {row:List CELL} (h:Good m) (hs:MSz m 4) {n:Nat} (hn:n<=m.2.length):SzQ (rsum (fun i=>qp2 (qcC m i) row (treeOf (qcC m i))) n) (1+n*5) :=
 qsD fun i hi=>qxY h hs (by omega)
theorem qtI {m:qak} {row:List CELL} {set:Nat} (h:Good m) (hall:∀ j:Nat,(j:Int)<m.1->set.testBit j=true):sayM m row set=qsJ m row :=
 qcd fun i hi=>qyu (h.isAt hi) hall
def qaZ (n:NODE):NODE :=
 if qby n then (qby n,0,zR,0,0,false,canQ (rv (nVal n)),canQ (rv (nCov n)))
 else (qby n,qaM n,canQ (rv (nCut n)),nL n,nR n,qrI n,zR,canQ (rv (nCov n)))
def qcs (t:List NODE):List NODE:=t.map qaZ
theorem qn9 {α:Type} {a b:List α} (hl:a.length=b.length):a=b ↔ ∀ i,(h:i<a.length)->a[i]=b[i]:=by
 constructor
 · rintro rfl i h;rfl
 · intro h;exact List.ext_getElem hl (fun i h1 h2=>h i h1)
theorem qqn {a b:RAT} (h1:a.1.2.length<4611686018427387904) (h2:a.2.length<4611686018427387904):qb0 a b=some (decide (a=b)):=by
 obtain⟨⟨s,x⟩,y⟩:=a;obtain⟨⟨s',x'⟩,y'⟩:=b;dsimp only at h1 h2;unfold qb0;dsimp only;by_cases e1:s=s'
 · subst e1;rw[show(!(s == s))=false by simp,cond_false];by_cases e2:x.length=x'.length
   · rw [show decide ((x.length : Int) = (x'.length : Int)) = true from decide_eq_true (by omega), Bool.not_true, cond_false];by_cases e3:y.length=y'.length
     · rw [show decide ((y.length : Int) = (y'.length : Int)) = true from decide_eq_true (by omega), Bool.not_true, cond_false];rcases qkK (step:=qaw) (fun i=>(((i:Int),()),((s,x,y,()),(s,x',y',()),()))) x.length (fun i=>∀ h:i<x.length,x[i]=x'[i]) (fun i=>.inr ((false,()),())) (.inl ((),((s,x,y,()),(s,x',y',()),()))) (by omega) (by
           intro i hi;have hi':i<x'.length:=by omega
           have d0:(i:Int)<((x.length:Nat):Int):=by omega
           have d1:(0:Int)<=(i:Int):=by omega
           by_cases h:x[i]=x'[i]
           · refine .inl ⟨fun _ => h, fun g => ?_⟩;rw[qaw,cnd d0,cnd d1,tN0,gE0 hi,bS0,cnd d1,gE0 hi',bS0,decide_eq_true h,qbp (by omega)];rfl
           · refine .inr ⟨fun h' => h (h' hi), fun g => ?_⟩;rw[qaw,cnd d0,cnd d1,tN0,gE0 hi,bS0,cnd d1,gE0 hi',bS0,decide_eq_false h];rfl) (by
           intro g;rw[qaw,cnd' (by omega)]) with ⟨h,hlp⟩ | ⟨i,hi,h,hlp⟩
       · have hlp : lp qaw K0 ((0, ()), ((s, x, y, ()), (s, x', y', ()), ())) = _ := hlp;have ex:x=x':=(qn9 e2).2 (fun i hi=>h i hi hi);subst ex;rw[hlp,bS0];dsimp only;rcases qkK (step:=qav) (fun i=>(((i:Int),()),((s,x,y,()),(s,x,y',()),()))) y.length (fun i=>∀ h:i<y.length,y[i]=y'[i]) (fun i=>.inr ((false,()),())) (.inl ((),())) (by omega) (by
             intro i hi;have hi':i<y'.length:=by omega
             have d0:(i:Int)<((y.length:Nat):Int):=by omega
             have d1:(0:Int)<=(i:Int):=by omega
             by_cases h:y[i]=y'[i]
             · refine .inl ⟨fun _ => h, fun g => ?_⟩;rw[qav,cnd d0,cnd d1,tN0,gE0 hi,bS0,cnd d1,gE0 hi',bS0,decide_eq_true h,qbp (by omega)];rfl
             · refine .inr ⟨fun h' => h (h' hi), fun g => ?_⟩;rw[qav,cnd d0,cnd d1,tN0,gE0 hi,bS0,cnd d1,gE0 hi',bS0,decide_eq_false h];rfl) (by
             intro g;rw[qav,cnd' (by omega)]) with ⟨h,hlp⟩ | ⟨i,hi,h,hlp⟩
         · have hlp : lp qav K0 ((0, ()), ((s, x, y, ()), (s, x, y', ()), ())) = _ := hlp;have ey:y=y':=(qn9 e3).2 (fun i hi=>h i hi hi);subst ey;rw[hlp,decide_eq_true rfl];rfl
         · have hlp : lp qav K0 ((0, ()), ((s, x, y, ()), (s, x, y', ()), ())) = _ := hlp;rw[hlp,decide_eq_false (fun e=>h (fun hh=>by injection e with _ e;subst e;rfl))];rfl
       · have hlp : lp qaw K0 ((0, ()), ((s, x, y, ()), (s, x', y', ()), ())) = _ := hlp;rw[hlp,decide_eq_false (fun e=>h (fun hh=>by injection e with e _;injection e with _ e;subst e;rfl))];rfl
     · rw[show decide ((y.length:Int)=(y'.length:Int))=false from decide_eq_false (by omega),Bool.not_false,cond_true,decide_eq_false (fun e=>e3 (by injection e with _ e;rw[e]))]
   · rw[show decide ((x.length:Int)=(x'.length:Int))=false from decide_eq_false (by omega),Bool.not_false,cond_true,decide_eq_false (fun e=>e2 (by injection e with e _;injection e with _ e;rw[e]))]
 · rw[show(!(s == s'))=true by simp [e1],cond_true,decide_eq_false (fun e=>e1 (by injection e with e _;injection e with e _))]
def qzf (v c:RAT):NODE:=(true,0,zR,0,0,false,v,c)
theorem qjj {n:NODE} (h:qby n=true):qaZ n=qzf (canQ (rv (nVal n))) (canQ (rv (nCov n))):=by rw[qaZ,if_pos h,h];rfl
theorem qgL {n:NODE} (h:qby n=false):qaZ n=(false,qaM n,canQ (rv (nCut n)),nL n,nR n,qrI n,zR,canQ (rv (nCov n))):=by rw[qaZ,if_neg (by rw[h];decide),h]
theorem qvz {m:qak} {i:Nat} (hi:i<m.2.length) (hl:m.2[i].length<4294967296) (hs:∀ n∈m.2[i],NSz n 4611686018427387903) (hi2:i<4611686018427387904) :
  lp qaP K0 (((i:Int),0,()),((m.1,m.2,()),(m.1,m.2,()),()))=some (.inl (((i:Int),()),((m.1,m.2,()),(m.1,m.2,()),()))):=by
 exact qf3 (step:=qaP) (fun k=>(((i:Int),(k:Int),()),((m.1,m.2,()),(m.1,m.2,()),()))) m.2[i].length (by omega) (by
  intro g k hk;have d0:(0:Int)<=(i:Int):=by omega
  have d1:(k:Int)<((m.2[i].length:Nat):Int):=by omega
  have d3:(0:Int)<=(k:Int):=by omega
  have z:=hs _ (gM0 hk);have e1:=qqn (a:=m.2[i][k].2.2.1) (b:=m.2[i][k].2.2.1) (Nat.lt_of_le_of_lt z.1.1 (by decide)) (Nat.lt_of_le_of_lt z.1.2 (by decide));have e2:=qqn (a:=m.2[i][k].2.2.2.2.2.2.1) (b:=m.2[i][k].2.2.2.2.2.2.1) (Nat.lt_of_le_of_lt z.2.1.1 (by decide)) (Nat.lt_of_le_of_lt z.2.1.2 (by decide));have e3:=qqn (a:=m.2[i][k].2.2.2.2.2.2.2) (b:=m.2[i][k].2.2.2.2.2.2.2) (Nat.lt_of_le_of_lt z.2.2.1 (by decide)) (Nat.lt_of_le_of_lt z.2.2.2 (by decide));rw[decide_eq_true rfl] at e1 e2 e3;have bb:∀ b:Bool,(!(b == b))=false:=by intro b;cases b<;>rfl
  have ii:∀ b:Int,(!decide (b=b))=false:=by intro b;rw[decide_eq_true rfl];rfl
  rw[qaP,cnd d0,tN0,gE0 hi,bS0,cnd d1,cnd d0,bS0,cnd d3,tN0,gE0 hk,bS0,cnd d0,bS0,cnd d3,gE0 hk,bS0,bb,cond_false,ii,cond_false,ii,cond_false,ii,cond_false,bb,cond_false,e1,bS0,Bool.not_true,cond_false,e2,bS0,Bool.not_true,cond_false,e3,bS0,Bool.not_true,cond_false,qbp (by omega)];rfl) (by
  intro g;have d0:(0:Int)<=(i:Int):=by omega
  rw[qaP,cnd d0,tN0,gE0 hi,bS0,cnd' (by omega)])
theorem qxr {m:qak} (hl:m.2.length<4294967296) (ht:∀ t∈m.2,t.length<4294967296) (hs:MSz m 4611686018427387903):qbj m m=some true:=by
 have ii:∀ b:Int,(!decide (b=b))=false:=by intro b;rw[decide_eq_true rfl];rfl
 have key:=qf3 (step:=qaQ) (fun i=>(((i:Int),()),((m.1,m.2,()),(m.1,m.2,()),()))) m.2.length (r:=.inl ((),())) (by omega) (by
  intro g i hi;have d0:(i:Int)<((m.2.length:Nat):Int):=by omega
  have d1:(0:Int)<=(i:Int):=by omega
  rw[qaQ,cnd d0,cnd d1,tN0,gE0 hi,bS0,cnd d1,bS0,ii,cond_false,qvz hi (ht _ (gM0 hi)) (hs _ (gM0 hi)) (by omega),bS0];dsimp only;rw[qbp (by omega)];rfl) (by
  intro g;rw[qaQ,cnd' (by omega)])
 have key':lp qaQ K0 ((0,()),((m.1,m.2,()),(m.1,m.2,()),()))=_:=key;rw[qbj,ii,cond_false,ii,cond_false,key'];rfl
theorem qkL:qah=some true:=by decide +kernel
theorem qsx {n:NODE} {k:Nat} (h:NSz n k) (hk:0<k):NSz (qaZ n) k:=by
 have c:∀ {a:RAT},SzR a k->SzR (canQ (rv a)) k:=fun h=>(h.szQ hk).szR
 have z:SzR zR k:=⟨Nat.zero_le _,Nat.zero_le _⟩;unfold qaZ;split
 · exact⟨z,c h.2.1,c h.2.2⟩
 · exact⟨c h.1,z,c h.2.2⟩
def CSz (row:List CELL) (k:Nat):Prop:=∀ c∈row,SzR c.2 k
theorem qwK {n:NODE} {c:CELL} {k j:Nat} (hn:SzR (nCut n) k) (hk:k<1099511627776) (hc:SzR c.2 j) (hj:j<1099511627776):qgM n c=some (goes n c):=by
 unfold qgM goes;cases h:c.1 with
 | true=>rfl
 | false =>
  rw[cond_false,qmM (hc.sm hj) (hn.sm hk),bS0,if_neg (by decide)];congr 1;by_cases h:rv c.2<rv (nCut n)
  · rw[decide_eq_true (qtM.2 h),decide_eq_true h]
  · rw[decide_eq_false (fun e=>h (qtM.1 e)),decide_eq_false h]
theorem qAF {n:NODE} {c:CELL} {k j:Nat} (hn:SzR (nCut n) k) (hk:k<1099511627776) (hc:SzR c.2 j) (hj:j<1099511627776):qhQ n c=some (!qby n&&goes n c):=by
 unfold qhQ;rw[qwK hn hk hc hj];show _=some (!n.1&&goes n c);cases h:n.1 with
 | true=>rfl
 | false=>rfl
theorem qwC {n:NODE} {c:CELL} {k j:Nat} (hn:SzR (nCut n) k) (hk:k<1099511627776) (hc:SzR c.2 j) (hj:j<1099511627776):qdi n c=some (!qby n&&goes n c):=by
 have h1:∀ b,c.1=false->goes n c=b->(qfs c.2 (nCut n)).bind (fun r1=>some (decide (r1<0)))=some b:=by
  intro b hf h;have:=qwK hn hk hc hj;rw[qgM,hf,cond_false,h] at this;exact this
 unfold qdi;show _=some (!n.1&&goes n c);cases h:n.1 with
 | true=>rfl
 | false =>
  rw[cond_false];cases hc1:c.1 with
  | true =>
   rw[cond_true];have hg:goes n c=qrI n:=by rw[goes,hc1];rfl
   rw[hg];show _=some (!false&&n.2.2.2.2.2.1);cases hm:n.2.2.2.2.2.1 with
   | true=>rfl
   | false=>rfl
  | false =>
   rw[cond_false,Bool.not_false,cond_true,h1 _ hc1 rfl];rfl
theorem qzl {t:List NODE} {f:Int} {row:List CELL} {i:Nat} (hs:TSz t 4) (hc:CSz row 9) (hi:i<t.length) (h0:0<=qaM t[i]) (h1:qaM t[i]<(row.length:Int)) :
  ∃ c,row[(qaM t[i]).toNat]?=some c/\SzR c.2 9/\goes t[i] c=goL t row i:=by
 have hlt:(qaM t[i]).toNat<row.length:=by omega
 refine⟨row[(qaM t[i]).toNat],gE0 hlt,hc _ (gM0 hlt),?_⟩;rw[goL,qcf hi,qkl hlt]
theorem qyO {t:List NODE} {row:List CELL} (hs:TSz t 4) (hc:CSz row 9):∀ (n:Nat) (T:TR),Is t (row.length:Int) T->T.deep<=n->T.deep<=1000000->qbz n t (T.top:Int) row=some (ints (wayT t row T)):=by
 intro n
 induction n with
 | zero=>intro T _ hd;have:=T.deep_pos;omega
 | succ n ih =>
  intro T h hd hdd;show qdW (qbz n) t T.top row=_;cases T with
  | leaf i =>
   obtain⟨h1,h2⟩:=h;have d0:(0:Int)<=(i:Int):=by omega
   rw[qdW,show((TR.leaf i).top:Int)=(i:Int) from rfl,cnd d0,tN0,gE0 h1,bS0,show t[i].1=true from h2];rfl
  | split i l r =>
   obtain⟨h1,h2,f0,f1,h3,h4,h5,h6⟩:=h;have d0:(0:Int)<=(i:Int):=by omega
   simp only[TR.deep] at hd hdd;obtain⟨c,g1,g2,g3⟩:=qzl (f:=0) hs hc h1 f0 f1;have hz:=hs _ (gM0 h1);have wl:=qpz t row l;have wr:=qpz t row r;rw[qdW,show((TR.split i l r).top:Int)=(i:Int) from rfl,cnd d0,tN0,gE0 h1,bS0,show t[i].1=false from h2,cond_false,cnd f0,g1,bS0,qwC hz.1 (by decide) g2 (by decide),bS0,g3,show(!qby t[i])=true by rw[h2];rfl,Bool.true_and];have el:qbz n t t[i].2.2.2.1 row=some (ints (wayT t row l)):=by rw[show t[i].2.2.2.1=_ from h3];exact ih l h5 (by omega) (by omega)
   have er:qbz n t t[i].2.2.2.2.1 row=some (ints (wayT t row r)):=by rw[show t[i].2.2.2.2.1=_ from h4];exact ih r h6 (by omega) (by omega)
   rw[el,er];simp only[wayT];cases goL t row i with
   | true =>
    rw[cond_true,bS0,blt (by simp [ints];omega),cond_true,if_pos rfl];rfl
   | false =>
    rw[cond_false,bS0,blt (by simp [ints];omega),cond_true,if_neg (by decide)];rfl
theorem qvE (t:List NODE) (row:List CELL) (T:TR):wayT t row T=T.top::(wayT t row T).tail:=by cases T<;>rfl
theorem qw7 (l:List CELL):CSz (l.map qhz) 9:=by
 intro c hc;obtain⟨x,_,rfl⟩:=List.mem_map.1 hc;exact⟨Nat.le_trans (qol 3 _).1 (by decide),Nat.le_trans (qol 3 _).2 (by decide)⟩
theorem qBc {m:qak} {row:List CELL} (hl:m.2.length<4294967296) (ht:∀ t∈m.2,t.length<4294967296) (hs:MSz m 4) :
  ∃ e:Int,qe6 m row=some e/\qhR m row=some e/\(e=0 ↔ Good m/\(row.length:Int)=m.1):=by
 obtain⟨b,h1,h2⟩:=qAD hl ht hs (by decide);have key:∃ e:Int,qe6 m row=some e/\(e=0 ↔ Good m/\(row.length:Int)=m.1):=by
  cases b with
  | false=>exact⟨1,by rw[qe6,h1];rfl,⟨fun h=>absurd h (by decide),fun h=>by have:=h2.2 h.1;simp at this⟩⟩
  | true =>
   by_cases h:(row.length:Int)=m.1
   · exact⟨0,by rw[qe6,h1,bS0,Bool.not_true,cond_false,decide_eq_true h];rfl,by simp [h2.1 rfl,h]⟩
   · exact⟨14,by rw[qe6,h1,bS0,Bool.not_true,cond_false,decide_eq_false h];rfl,by simp [h]⟩
 obtain⟨e,h3,h4⟩:=key;exact⟨e,h3,by rw[qhR,h3];rfl,h4⟩
structure Askd (m:qak) (row:List CELL):Prop where
 good:Good m
 len:(row.length:Int)=m.1
 ms:MSz m 4
 ml:m.2.length<=6
 mt:∀ t∈m.2,t.length<=15
 cs:CSz row 9
theorem Askd.tree {m:qak} {row:List CELL} (h:Askd m row) {i:Nat} (hi:i<m.2.length):TSz m.2[i] 4/\Is m.2[i] (row.length:Int) (treeOf (qcC m i))/\(treeOf (qcC m i)).top=0/\(treeOf (qcC m i)).deep<=16/\qcC m i=m.2[i]:=by
 have h1:=h.good.treeOf hi;have h2:=qBe h.good h.mt hi;rw[qfS hi] at h2 ⊢;exact⟨h.ms _ (gM0 hi),by rw[h.len];exact h1.1,h1.2.1,h2,rfl⟩
theorem qxL {f:Nat->Rat} {n k:Nat} {q:RAT} (hs:SzQ (rsum f n) k) (hk:k<1099511627776) (hq:Sm q) (e:rv q=f n):qcT (((canQ (rsum f n)).1.1,(canQ (rsum f n)).1.2),(canQ (rsum f n)).2) q=some (canQ (rsum f (n+1))):=by
 have h1:=qdl (hs.sm hk) hq;rw[qas,e] at h1;exact h1
theorem qqA {m:qak} {row:List CELL} (f:Nat->Rat) (ml:m.2.length<=6) (cs:CSz row 9) (ht:∀ i (h:i<m.2.length),TSz m.2[i] 4/\∃ T,Is m.2[i] (row.length:Int) T/\T.top=0/\T.deep<=16/\f i=qp2 m.2[i] row T) :
  qan m row=some (canQ (rsum f m.2.length)):=by
 have hsz:∀ n,n<=m.2.length->SzQ (rsum f n) (1+n*5):=fun n hn=>qsD fun i hi=>by
  obtain⟨t1,T,t2,t3,t4,t5⟩:=ht i (by omega);rw[t5];exact qtN t1 t2
 have key:=qf3 (step:=qaA) (fun i=>((row,(i:Int),()),((m.1,m.2,()),(false,[],[],()),((canQ (rsum f i)).1.1,(canQ (rsum f i)).1.2,(canQ (rsum f i)).2,()),()))) m.2.length (by omega) (by
  intro g i hi;have d0:(i:Int)<((m.2.length:Nat):Int):=by omega
  have d1:(0:Int)<=(i:Int):=by omega
  obtain⟨t1,T,t2,t3,t4,t5⟩:=ht i hi;have hw:=qyO t1 cs R0 T t2 (by unfold R0;omega) (by omega);rw[t3] at hw;have hw:qbz R0 m.2[i] 0 row=_:=hw;have hl:=qvD m.2[i] row T;have hn:=qpz m.2[i] row T;have hp:0<(wayT m.2[i] row T).length:=by rw[qvE];simp
  have hx:(ints (wayT m.2[i] row T))[(wayT m.2[i] row T).length-1]?=some ((endT m.2[i] row T:Nat):Int):=by
   rw[List.getLast?_eq_getElem?] at hl;rw[ints,List.getElem?_map,hl];rfl
  have li:(ints (wayT m.2[i] row T)).length=(wayT m.2[i] row T).length:=by simp [ints]
  have i1:isub .i64 ((ints (wayT m.2[i] row T)).length:Int) 1=(((wayT m.2[i] row T).length-1:Nat):Int):=by rw[li,qdB]<;>omega
  have hlt:=qwV (row:=row) t2;have hz:=t1 _ (gM0 hlt);have ha:=qxL (hsz i (by omega)) (by omega) (hz.2.1.sm (by decide)) (by rw[t5,qp2,qcf hlt]);rw[qaA,cnd d0,cnd d1,tN0,gE0 hi,bS0,hw,bS0,cnd d1,bS0,i1,cnd2 (by omega) (by rw[li];omega),tN0,hx,bS0,cnd (by omega),tN0,gE0 hlt,bS0,ha,bS0,qbp (by omega)];rfl) (by
  intro g;rw[qaA,cnd' (by omega)])
 rw[qan,qfq,bS0];have key':lp qaA K0 ((row,0,()),((m.1,m.2,()),(false,[],[],()),((canQ 0).1.1,(canQ 0).1.2,(canQ 0).2,()),()))=_:=key;rw[key'];rfl
theorem qm2 {m:qak} {row:List CELL} (h:Askd m row):qan m row=some (canQ (qsJ m row)) :=
 qqA (fun i=>qp2 (qcC m i) row (treeOf (qcC m i))) h.ml h.cs (fun i hi=>by
  obtain⟨t1,t2,t3,t4,t5⟩:=h.tree hi;exact⟨t1,_,t2,t3,t4,by rw[<- t5]⟩)
theorem Askd.cov {m:qak} {row:List CELL} (h:Askd m row) {i:Nat} (hi:i<m.2.length):qhg m.2[i]:=h.good.covers hi
theorem Askd.f64 {m:qak} {row:List CELL} (h:Askd m row):row.length<=64:=by
 have:=h.good.1.2.1;have:=h.len;omega
theorem qyT (m0:qak) (row0:List CELL) (hl:m0.2.length<=9223372036854775807) (ht:∀ t∈m0.2,t.length<=9223372036854775807) (hr:row0.length<=9223372036854775807) :
   ∃ m row,qb1 m0 row0=some (m,row)/\MSz m 4/\m.2.length<=3/\(∀ t∈m.2,t.length<=15)/\CSz row 9:=by
 have hf:=qyZ m0 hl ht;have ms:=qAu m0;have mt:=qw8 m0;have h9:=qyY row0 70 hr (by decide);have h9:qcv row0 70=some ((row0.take 70).map qhz):=h9;have cs:=qw7 (row0.take 70);by_cases h3:((cutM m0).2.length:Int)>3
 · refine ⟨((cutM m0).1, (cutM m0).2.take 3), (row0.take 70).map qhz, ?_, fun t h => ms t (List.mem_of_mem_take h), by simp; omega, fun t h => mt t (List.mem_of_mem_take h), cs⟩
   rw[qb1,hf,bS0,cnd h3,cnd (by omega),h9];rfl
 · refine ⟨cutM m0, (row0.take 70).map qhz, ?_, ms, by omega, mt, cs⟩;rw[qb1,hf,bS0,cnd' h3,h9];rfl
def qio (f:Nat->Rat):Nat->Rat
 | 0=>1
 | n+1=>qio f n*f n
def qcan (qs:List Rat):List RAT:=qs.map canQ
@[simp] theorem qBp (qs:List Rat):(qcan qs).length=qs.length:=by simp [qcan]
def lsum:List Rat->Rat
 | []=>0
 | x::r=>x+lsum r
theorem qeY (a b:List Rat):lsum (a++b)=lsum a+lsum b:=by
 induction a with
 | nil=>simp [lsum,Rat.zero_add]
 | cons x a ih=>simp only[List.cons_append,lsum,ih,Rat.add_assoc]
theorem qhg.ne {t:List NODE} (h:qhg t):∀ i,i<t.length->cov t i≠0:=by
 intro i hi e;have:=h i hi;rw[qgv hi] at e;rw[e] at this;exact absurd this (by decide)
abbrev AP:=Nat×Rat×Bool
def encP (p:AP):PART:=((p.1:Int),canQ p.2.1,p.2.2)
def encW (w:List AP):List PART:=w.map encP
theorem qng (w:List AP):(encW w).length=w.length:=by simp [encW]
theorem qyw {w:List AP} {i:Nat} (h:i<w.length):(encW w)[i]?=some (encP w[i]):=by simp [encW,h]
def qih (f:Nat) (q:Rat) (ok:Bool):List AP->List AP
 | []=>[(f,q,ok)]
 | p::w=>if p.1<f then p::qih f q ok w else if p.1=f then (f,p.2.1*q,p.2.2&&ok)::w else (f,q,ok)::p::w
def ASz (w:List AP) (k:Nat):Prop:=∀ p∈w,SzQ p.2.1 k
abbrev AL:=Nat×Rat×List AP
def qrY (t:List NODE) (i:Nat):Nat:=(qaM (qcj t i)).toNat
def qrN (t:List NODE) (row:List CELL):TR->List AP->List AL
 | .leaf i,w=>[(i,rv (nVal (qcj t i)),w)]
 | .split i l r,w=>qrN t row l (qih (qrY t i) (cov t l.top/cov t i) (goL t row i) w)++qrN t row r (qih (qrY t i) (cov t r.top/cov t i) (!goL t row i) w)
theorem qxm {f:Nat} {q:Rat} {ok:Bool} {w:List AP}:∀ p∈qih f q ok w,p.1=f\/∃ p'∈w,p'.1=p.1:=by
 induction w with
 | nil=>intro p hp;simp [qih] at hp;subst hp;exact .inl rfl
 | cons a w ih =>
  intro p hp;simp only[qih] at hp;split at hp
  · rcases List.mem_cons.1 hp with rfl | hp
    · exact .inr ⟨p,List.mem_cons_self,rfl⟩
    · rcases ih p hp with h | ⟨p', h1, h2⟩
      · exact .inl h
      · exact .inr ⟨p',List.mem_cons_of_mem _ h1,h2⟩
  · split at hp
    · rcases List.mem_cons.1 hp with rfl | hp
      · exact .inl rfl
      · exact .inr ⟨p,List.mem_cons_of_mem _ hp,rfl⟩
    · rcases List.mem_cons.1 hp with rfl | hp
      · exact .inl rfl
      · exact .inr ⟨p,hp,rfl⟩
theorem qtG {t:List NODE} (hs:TSz t 4) {a i:Nat} (ha:a<t.length) (hi:i<t.length):SzQ (cov t a/cov t i) 8:=(qzq hs ha).div (qzq hs hi)
def qgB:List Rat->Rat
 | []=>1
 | x::r=>x*qgB r
theorem qmZ (a b:List Rat):qgB (a++b)=qgB a*qgB b:=by
 induction a with
 | nil=>simp [qgB,Rat.one_mul]
 | cons x a ih=>simp only[List.cons_append,qgB,ih,Rat.mul_assoc]
def facP (set:Nat) (p:AP):Rat:=if set.testBit p.1 then (if p.2.2 then 1 else 0) else p.2.1
def qes (set:Nat) (w:List AP):Rat:=qgB (w.map (facP set))
theorem qq0 (set f:Nat) (q:Rat) (ok:Bool) (w:List AP):qes set (qih f q ok w)=qes set w*facP set (f,q,ok):=by
 induction w with
 | nil=>simp [qes,qih,qgB,Rat.mul_one,Rat.one_mul]
 | cons p w ih =>
  simp only[qes] at ih;simp only[qih];split
  · simp only[qes,List.map_cons,qgB,ih];grind
  · split
    · rename_i e;simp only[qes,List.map_cons,qgB];have:facP set (f,p.2.1*q,p.2.2&&ok)=facP set p*facP set (f,q,ok):=by
       simp only[facP,e];cases set.testBit f<;>cases p.2.2<;>cases ok<;>simp<;>grind
      rw[this];grind
    · simp only[qes,List.map_cons,qgB];grind
def legV (set:Nat) (x:AL):Rat:=qes set x.2.2*x.2.1
theorem qyf {t:List NODE} {f:Int} {row:List CELL} {set:Nat} {T:TR} (hc:∀ i,i<t.length->cov t i≠0) (h:Is t f T):∀ w,lsum ((qrN t row T w).map (legV set))=qes set w*expT t row set T:=by
 induction T with
 | leaf i=>intro w;simp only[qrN,List.map_cons,List.map_nil,lsum,legV,expT,Rat.add_zero]
 | split i l r ihl ihr =>
  intro w;obtain⟨h1,h2,f0,f1,h3,h4,h5,h6⟩:=h;have c:=hc i h1;simp only[qrN,List.map_append,qeY,ihl h5,ihr h6,qq0,expT];have e:(qaM (qcj t i)).toNat=qrY t i:=rfl;rw[e];simp only[facP];obtain⟨a,ea⟩:∃ a,a=expT t row set l:=⟨_,rfl⟩;obtain⟨b,eb⟩:∃ b,b=expT t row set r:=⟨_,rfl⟩;obtain⟨p,ep⟩:∃ p,p=cov t l.top:=⟨_,rfl⟩;obtain⟨q,eq⟩:∃ q,q=cov t r.top:=⟨_,rfl⟩;obtain⟨d,ed⟩:∃ d,d=cov t i:=⟨_,rfl⟩;obtain⟨z,ez⟩:∃ z,z=qes set w:=⟨_,rfl⟩;rw[<- ea,<- eb,<- ep,<- eq,<- ed,<- ez];cases set.testBit (qrY t i)<;>cases goL t row i<;>simp<;>grind
def qdO:TR->List Nat
 | .leaf i=>[i]
 | .split i l r=>i::(qdO l++qdO r)
theorem quO (T:TR):(qdO T).length=T.size:=by
 induction T with
 | leaf i=>rfl
 | split i l r ihl ihr=>simp only[qdO,TR.size,List.length_cons,List.length_append,ihl,ihr];omega
theorem qh5 {t:List NODE} {f:Int} {T:TR} (h:Is t f T):∀ j∈qdO T,j<t.length:=by
 induction T with
 | leaf i=>intro j hj;simp [qdO] at hj;subst hj;exact h.1
 | split i l r ihl ihr =>
  obtain⟨h1,_,_,_,_,_,h2,h3⟩:=h;intro j hj;simp only[qdO,List.mem_cons,List.mem_append] at hj;rcases hj with rfl | hj | hj
  · exact h1
  · exact ihl h2 j hj
  · exact ihr h3 j hj
theorem Is.kids {t:List NODE} {f:Int} {i:Nat} {l r:TR} (h:Is t f (.split i l r)):kids t i=[l.top,r.top]:=by
 obtain⟨h1,h2,_,_,h3,h4,_,_⟩:=h;rw[qeq h1 h2,h3,h4,tN0,tN0]
theorem qiD {t:List NODE} {f:Int} {T:TR} (h:Is t f T):∀ j∈qdO T,j=T.top\/∃ p∈qdO T,j∈kids t p:=by
 induction T with
 | leaf i=>intro j hj;simp [qdO] at hj;exact .inl hj
 | split i l r ihl ihr =>
  have hk:=h.kids;obtain⟨h1,_,_,_,_,_,h2,h3⟩:=h;intro j hj;simp only[qdO,List.mem_cons,List.mem_append] at hj;have hi:i∈qdO (.split i l r):=by simp [qdO]
  rcases hj with rfl | hj | hj
  · exact .inl rfl
  · refine .inr ?_;rcases ihl h2 j hj with rfl | ⟨p,hp,hm⟩
    · exact⟨i,hi,by rw[hk];simp⟩
    · exact⟨p,by simp [qdO,hp],hm⟩
  · refine .inr ?_;rcases ihr h3 j hj with rfl | ⟨p,hp,hm⟩
    · exact⟨i,hi,by rw[hk];simp⟩
    · exact⟨p,by simp [qdO,hp],hm⟩
theorem qn1 {t:List NODE} {f:Int} {rk:Nat->Nat} (hrk:∀ i,i<t.length->rk i<=t.length/\∀ c∈kids t i,rk c<rk i) {T:TR} (h:Is t f T):∀ j∈qdO T,rk j<=rk T.top:=by
 induction T with
 | leaf i=>intro j hj;simp [qdO] at hj;subst hj;exact Nat.le_refl _
 | split i l r ihl ihr =>
  have hk:=h.kids;obtain⟨h1,_,_,_,_,_,h2,h3⟩:=h;have a:=(hrk i h1).2 l.top (by rw[hk];simp);have b:=(hrk i h1).2 r.top (by rw[hk];simp);intro j hj;simp only[qdO,List.mem_cons,List.mem_append] at hj;show rk j<=rk i;rcases hj with rfl | hj | hj
  · exact Nat.le_refl _
  · have:=ihl h2 j hj;omega
  · have:=ihr h3 j hj;omega
theorem qql {t:List NODE} {n j p p':Nat} (hp:p<n) (hp':p'<n) (hne:p≠p') (h:j∈kids t p) (h':j∈kids t p'):2<=((List.range n).flatMap (kids t)).count j:=by
 have key:∀ {a b n:Nat},a<b->b<n->j∈kids t a->j∈kids t b->2<=((List.range n).flatMap (kids t)).count j:=by
   intro a b n hab hb ha hbm;have e:List.range n=List.range b++(List.range (n-b)).map (·+b):=by
    have h1:n=b+(n-b):=by omega
    conv=>lhs;rw[h1,List.range_add]
    congr 1;refine List.map_congr_left fun x _=>Nat.add_comm _ _
   rw[e,List.flatMap_append,List.count_append];have c1:0<((List.range b).flatMap (kids t)).count j:=List.count_pos_iff.2 (List.mem_flatMap.2 ⟨a,by simpa using hab,ha⟩);have c2:0<(((List.range (n-b)).map (·+b)).flatMap (kids t)).count j:=List.count_pos_iff.2 (List.mem_flatMap.2 ⟨b,List.mem_map.2 ⟨0,by simp;omega,by simp⟩,hbm⟩);omega
 rcases Nat.lt_or_gt_of_ne hne with hlt | hlt
 · exact key hlt hp' h h'
 · exact key hlt hp h' h
theorem qrn {t:List NODE} {f:Int} (hs:qpt t) {T:TR} (h:Is t f T):(qdO T).Nodup:=by
 obtain⟨hc,rk,hrk⟩:=hs;have one:∀ j p p',p<t.length->p'<t.length->0<j->j<t.length->j∈kids t p->j∈kids t p'->p=p':=by
  intro j p p' hp hp' h0 hj hm hm';refine Classical.byContradiction fun hne=>?_
  have h1:=qql hp hp' hne hm hm';have h2:=hc j h0 hj;rw[cnt] at h2;omega
 induction T with
 | leaf i=>simp [qdO]
 | split i l r ihl ihr =>
  have hk:=h.kids;obtain⟨h1,g1,g2,g3,g4,g5,h2,h3⟩:=h;have ra:=(hrk i h1).2 l.top (by rw[hk];simp);have rb:=(hrk i h1).2 r.top (by rw[hk];simp);have nl:=qn1 hrk h2;have nr:=qn1 hrk h3;have top0:∀ j∈kids t i,0<j->True:=fun _ _ _=>trivial
  refine List.nodup_cons.2 ⟨fun hm=>?_,List.nodup_append.2 ⟨ihl h2,ihr h3,?_⟩⟩
  · rcases List.mem_append.1 hm with hm | hm
    · have:=nl i hm;omega
    · have:=nr i hm;omega
  ·
    have key:∀ (d j:Nat),t.length-rk j<=d->j∈qdO l->j∈qdO r->False:=by
      intro d
      induction d with
      | zero =>
       intro j hd hl hr;have:=nl j hl;have:=(hrk i h1).1;omega
      | succ d ih =>
       intro j hd hl hr;have hjl:=qh5 h2 j hl;have par:∃ p p',p<t.length/\p'<t.length/\j∈kids t p/\j∈kids t p'/\((p=i/\j=l.top)\/p∈qdO l)/\((p'=i/\j=r.top)\/p'∈qdO r):=by
         have hk1:l.top∈kids t i:=by rw[hk];simp
         have hk2:r.top∈kids t i:=by rw[hk];simp
         rcases qiD h2 j hl with e | ⟨p,hp,hm⟩
         · rcases qiD h3 j hr with e' | ⟨p', hp', hm'⟩
           · exact⟨i,i,h1,h1,by rw[e];exact hk1,by rw[e];exact hk1,.inl ⟨rfl,e⟩,.inl ⟨rfl,e'⟩⟩
           · exact⟨i,p',h1,qh5 h3 p' hp',by rw[e];exact hk1,hm',.inl ⟨rfl,e⟩,.inr hp'⟩
         · rcases qiD h3 j hr with e' | ⟨p', hp', hm'⟩
           · exact⟨p,i,qh5 h2 p hp,h1,hm,by rw[e'];exact hk2,.inr hp,.inl ⟨rfl,e'⟩⟩
           · exact⟨p,p',qh5 h2 p hp,qh5 h3 p' hp',hm,hm',.inr hp,.inr hp'⟩
       obtain⟨p,p',q1,q2,q3,q4,q5,q6⟩:=par;by_cases h0:0<j
       · have e := one j p p' q1 q2 h0 hjl q3 q4;subst e;rcases q5 with ⟨e1,e2⟩ | q5
         · rcases q6 with ⟨_, e3⟩ | q6
           ·
             have h5:=hc j h0 hjl;rw[cnt] at h5;have:((List.range t.length).flatMap (kids t)).count j>=(kids t i).count j:=by
               have hi:i∈List.range t.length:=by simpa using h1
               obtain⟨a,b,eab⟩:=List.append_of_mem hi;rw[eab,List.flatMap_append,List.flatMap_cons,List.count_append,List.count_append];omega
             rw[hk,<- e2,<- e3] at this;simp at this;omega
           · rw [e1] at q6;have:=nr i q6;omega
         · rcases q6 with ⟨e1, _⟩ | q6
           · rw [e1] at q5;have:=nl i q5;omega
           · have := (hrk p q1).2 j q3;have:=(hrk p q1).1;exact ih p (by omega) q5 q6
       ·
         have j0:j=0:=by omega
         have nokid:∀ (d q:Nat),t.length-rk q<=d->q<t.length->j∈kids t q->False:=by
           intro d
           induction d with
           | zero =>
             intro q hd hq hm;have:=(hrk q hq).2 j hm;by_cases hq0:q=0
             · rw[j0,hq0] at this;omega
             · obtain ⟨p, hp, hpm⟩ := qie hc (by omega) hq;have a:=(hrk p hp).2 q hpm;have b:=(hrk p hp).1;omega
           | succ d ihd =>
             intro q hd hq hm;have hlt:=(hrk q hq).2 j hm;by_cases hq0:q=0
             · rw[j0,hq0] at hlt;omega
             ·
               have up:∀ (d2 u:Nat),t.length-rk u<=d2->u<t.length->rk q<=rk u->False:=by
                intro d2
                induction d2 with
                | zero =>
                 intro u hu hu2 hqu;by_cases hu0:u=0
                 · rw[hu0] at hqu;rw[j0] at hlt;omega
                 · obtain ⟨p, hp, hpm⟩ := qie hc (by omega) hu2;have a:=(hrk p hp).2 u hpm;have b:=(hrk p hp).1;omega
                | succ d2 ihd2 =>
                 intro u hu hu2 hqu;by_cases hu0:u=0
                 · rw[hu0] at hqu;rw[j0] at hlt;omega
                 · obtain ⟨p, hp, hpm⟩ := qie hc (by omega) hu2;have a:=(hrk p hp).2 u hpm;have b:=(hrk p hp).1;exact ihd2 p (by omega) hp (by omega)
               exact up _ q (Nat.le_refl _) hq (Nat.le_refl _)
         exact nokid _ p (Nat.le_refl _) q1 q3
    intro a ha b hb e;subst e;exact key _ a (Nat.le_refl _) ha hb
theorem qvV {t:List NODE} {f:Int} (hs:qpt t) {T:TR} (h:Is t f T):T.size<=t.length:=by
 rw[<- quO];exact qjw (qrn hs h) (qh5 h)
theorem TR.size_pos (T:TR):0<T.size:=by cases T<;>simp [TR.size]<;>omega
theorem qw3 (T:TR):2*T.deep<=T.size+1:=by
 induction T with
 | leaf i=>simp [TR.deep,TR.size]
 | split i l r ihl ihr =>
  have:=l.size_pos;have:=r.size_pos;simp only[TR.deep,TR.size];omega
def qoZ (w:List AP):Prop:=w.Pairwise fun a b=>a.1<b.1
theorem qvx {f:Nat} {q:Rat} {ok:Bool} {w:List AP} (h:qoZ w):qoZ (qih f q ok w):=by
 induction w with
 | nil=>simp [qih,qoZ]
 | cons p w ih =>
  have h1:=List.pairwise_cons.1 h;simp only[qih];split
  · rename_i hp;refine List.pairwise_cons.2 ⟨fun a ha=>?_,ih h1.2⟩;rcases qxm a ha with e | ⟨p',h3,h4⟩
    · omega
    · have:=h1.1 p' h3;omega
  · split
    · rename_i e;exact List.pairwise_cons.2 ⟨fun a ha=>by have:=h1.1 a ha;show f<a.1;omega,h1.2⟩
    · refine List.pairwise_cons.2 ⟨fun a ha => ?_, h⟩;show f<a.1;rcases List.mem_cons.1 ha with rfl | ha
      · omega
      · have:=h1.1 a ha;omega
def flo (n:Nat) (o:Nat->Rat):List RAT:=(List.range n).map fun f=>canQ (o f)
theorem qcJ (n:Nat) (o:Nat->Rat):(flo n o).length=n:=by simp [flo]
theorem qk0 {n f:Nat} (o:Nat->Rat) (h:f<n):(flo n o)[f]?=some (canQ (o f)):=by simp [flo,h]
theorem qrV {n:Nat} {o p:Nat->Rat} (h:∀ f,f<n->o f=p f):flo n o=flo n p:=by
 rw[flo,flo];exact List.map_congr_left fun f hf=>by rw[h f (List.mem_range.1 hf)]
theorem qAn {n i:Nat} {o p:Nat->Rat} {x:Rat} (hx:p i=x) (hp:∀ f,f≠i->p f=o f):(flo n o).set i (canQ x)=flo n p:=by
 apply List.ext_getElem?;intro f;rw[List.getElem?_set];by_cases hf:f<n
 · rw [qk0 _ hf, qk0 _ hf, qcJ];by_cases e:i=f
   · rw[if_pos e,if_pos (by omega),<- e,hx]
   · rw[if_neg e,hp f (fun h=>e h.symm)]
 · have h1 : (flo n o)[f]? = none := List.getElem?_eq_none (by rw [qcJ]; omega);have h2:(flo n p)[f]?=none:=List.getElem?_eq_none (by rw[qcJ];omega);rw[h1,h2];split
   · rw[if_neg (by rw[qcJ];omega)]
   · rfl
theorem ql3 {f:Nat->Rat} {n:Nat} (h:∀ i,i<n->f i=0):rsum f n=0:=by
 induction n with
 | zero=>rfl
 | succ n ih=>rw[rsum,ih fun i hi=>h i (by omega),h n (by omega),Rat.add_zero]
theorem qlc {S f:Nat} (h:S.testBit f=false):∀ j,(S+2 ^ f).testBit j=(decide (j=f) || S.testBit j):=by
 induction f generalizing S with
 | zero =>
  intro j;have h0:S % 2=0:=by rw[Nat.testBit_zero] at h;simpa using h
  cases j with
  | zero=>rw[Nat.testBit_zero];simp;omega
  | succ j =>
   rw[Nat.testBit_succ,Nat.testBit_succ,show(S+2 ^ 0)/2=S/2 by omega];simp
 | succ f ih =>
  intro j;rw[Nat.testBit_succ] at h;have e1:(S+2 ^ (f+1))/2=S/2+2 ^ f:=by rw[Nat.pow_succ];omega
  have e2:(S+2 ^ (f+1)) % 2=S % 2:=by rw[Nat.pow_succ];omega
  cases j with
  | zero=>rw[Nat.testBit_zero,Nat.testBit_zero,e2];simp
  | succ j =>
   rw[Nat.testBit_succ,Nat.testBit_succ,e1,ih h];simp
theorem qmt {S f n:Nat} (h:S.testBit f=false) (hS:S<2 ^ n) (hf:f<n):S+2 ^ f<2 ^ n:=by
 refine Nat.lt_pow_two_of_testBit _ fun i hi=>?_
 rw[qlc h,decide_eq_false (by omega),Bool.false_or];exact Nat.testBit_lt_two_pow (Nat.lt_of_lt_of_le hS (Nat.pow_le_pow_right (by decide) hi))
def popc:Nat->Nat->Nat
 | 0,_=>0
 | n+1,S=>popc n S+(if S.testBit n then 1 else 0)
theorem quK {n S S':Nat} (h:∀ j,j<n->S.testBit j=S'.testBit j):popc n S=popc n S':=by
 induction n with
 | zero=>rfl
 | succ n ih=>rw[popc,popc,ih fun j hj=>h j (by omega),h n (by omega)]
theorem quF (f:Nat->Rat) (a b:Nat):rsum f (a+b)=rsum f a+rsum (fun i=>f (i+a)) b:=by
 induction b with
 | zero=>simp [rsum,Rat.add_zero]
 | succ b ih=>rw[<- Nat.add_assoc,rsum,ih,rsum,Rat.add_assoc,Nat.add_comm a b]
theorem qsF {f g:Nat->Rat} {n:Nat} (h:∀ i,i<n->f i=g i):qio f n=qio g n:=by
 induction n with
 | zero=>rfl
 | succ n ih=>rw[qio,qio,ih fun i hi=>h i (by omega),h n (by omega)]
abbrev BA:=Rat×Rat
def pick (x:BA) (b:Bool):Rat:=if b then x.2 else x.1
def EE:List BA->(Nat->Rat)->Rat
 | [],c=>c 0
 | x::L,c=>x.1*EE L c+x.2*EE L fun k=>c (k+1)
theorem qqB {L:List BA}:∀ {c d:Nat->Rat},(∀ k,k<=L.length->c k=d k)->EE L c=EE L d:=by
 induction L with
 | nil=>intro c d h;exact h 0 (Nat.le_refl _)
 | cons x L ih =>
  intro c d h;rw[EE,EE,ih fun k hk=>h k (by simp only[List.length_cons];omega),ih fun k hk=>h (k+1) (by simp only[List.length_cons];omega)]
theorem qBm {L:List BA}:∀ {c d:Nat->Rat},EE L (fun k=>c k+d k)=EE L c+EE L d:=by
 induction L with
 | nil=>intro c d;rfl
 | cons x L ih=>intro c d;rw[EE,EE,EE,ih,ih];grind
theorem qBl {L:List BA}:∀ {c:Nat->Rat} {q:Rat},EE L (fun k=>q*c k)=q*EE L c:=by
 induction L with
 | nil=>intro c q;rfl
 | cons x L ih=>intro c q;rw[EE,EE,ih,ih];grind
theorem qtr {L M:List BA} (h:L.Perm M):∀ c,EE L c=EE M c:=by
 induction h with
 | nil=>intro c;rfl
 | cons x _ ih=>intro c;rw[EE,EE,ih,ih]
 | swap x y L=>intro c;simp only[EE];grind
 | trans _ _ ih1 ih2=>intro c;rw[ih1,ih2]
theorem qBi {L:List BA} {x:BA}:∀ c,EE (x::L) c=EE (L++[x]) c:=fun c=>qtr (by
 have:=(List.perm_append_comm (l₁:=[x]) (l₂:=L));simpa using this) c
theorem qBj (L:List BA) (c:Nat->Rat):EE ((1,1)::L) c=EE L fun k=>c k+c (k+1):=by
 rw[EE,qBm];grind
theorem qBk (L:List BA) (c:Nat->Rat):EE ((1,0)::L) c=EE L c:=by rw[EE];grind
theorem qxP (g:Nat->BA) (n:Nat):∀ c:Nat->Rat,rsum (fun S=>c (popc n S)*qio (fun j=>pick (g j) (S.testBit j)) n) (2 ^ n)=EE ((List.range n).map g) c:=by
 induction n with
 | zero=>intro c;simp [rsum,popc,qio,EE,Rat.mul_one,Rat.zero_add]
 | succ n ih =>
  intro c;have hb:∀ S,S<2 ^ n->S.testBit n=false:=fun S hS=>Nat.testBit_lt_two_pow hS
  have e1:rsum (fun S=>c (popc (n+1) S)*qio (fun j=>pick (g j) (S.testBit j)) (n+1)) (2 ^ n)=(g n).1*rsum (fun S=>c (popc n S)*qio (fun j=>pick (g j) (S.testBit j)) n) (2 ^ n):=by
   rw[Rat.mul_comm (g n).1,<- qin];refine qcd fun S hS=>?_
   rw[popc,qio,hb S hS,if_neg (by decide),Nat.add_zero,pick,if_neg (by decide)];grind
  have e2:rsum (fun S=>c (popc (n+1) (S+2 ^ n))*qio (fun j=>pick (g j) ((S+2 ^ n).testBit j)) (n+1)) (2 ^ n)=(g n).2*rsum (fun S=>c (popc n S+1)*qio (fun j=>pick (g j) (S.testBit j)) n) (2 ^ n):=by
   rw[Rat.mul_comm (g n).2,<- qin];refine qcd fun S hS=>?_
   have hj:=qlc (hb S hS);have hp:popc n (S+2 ^ n)=popc n S:=quK fun j hj'=>by rw[hj j,decide_eq_false (by omega),Bool.false_or]
   have hr:qio (fun j=>pick (g j) ((S+2 ^ n).testBit j)) n=qio (fun j=>pick (g j) (S.testBit j)) n:=qsF fun j hj'=>by rw[hj j,decide_eq_false (by omega),Bool.false_or]
   rw[popc,qio,hp,hr,hj n,decide_eq_true rfl,Bool.true_or,if_pos rfl,pick,if_pos rfl];grind
  rw[Nat.pow_succ,Nat.mul_two,quF,e1,e2,ih c,ih fun k=>c (k+1),List.range_succ,List.map_append];show _=EE (_++[g n]) c;rw[<- qBi,EE]
theorem qAP {k n:Nat} (h:k<n):wq k (n+1)+wq (k+1) (n+1)=wq k n:=by
 unfold wq quo;have e1:n+1-k-1=(n-k-1)+1:=by omega
 have e2:n+1-(k+1)-1=n-k-1:=by omega
 rw[e1,e2];obtain⟨j,hj⟩:∃ j,j=n-k-1:=⟨_,rfl⟩;rw[<- hj];have hn:((n:Nat):Rat)=(j:Rat)+(k:Rat)+1:=by
  have:n=j+k+1:=by omega
  rw[this];push_cast;rfl
 have f1:((fac (j+1):Nat):Rat)=((j:Rat)+1)*((fac j:Nat):Rat):=by rw[fac];push_cast;rfl
 have f2:((fac (k+1):Nat):Rat)=((k:Rat)+1)*((fac k:Nat):Rat):=by rw[fac];push_cast;rfl
 have f3:((fac (n+1):Nat):Rat)=((n:Rat)+1)*((fac n:Nat):Rat):=by rw[fac];push_cast;rfl
 have p1:((fac n:Nat):Rat)≠0:=by
  have:=qwR n;intro e;have:(fac n:Nat)=0:=by exact_mod_cast e
  omega
 have p2:(n:Rat)+1≠0:=by
  intro e;have:((n+1:Nat):Rat)=0:=by push_cast;exact e
  have:(n+1:Nat)=0:=by exact_mod_cast this
  omega
 rw[f1,f2,f3];obtain⟨a,ha⟩:∃ a,a=((fac k:Nat):Rat):=⟨_,rfl⟩;obtain⟨b,hb⟩:∃ b,b=((fac j:Nat):Rat):=⟨_,rfl⟩;obtain⟨d,hd⟩:∃ d,d=((fac n:Nat):Rat):=⟨_,rfl⟩;obtain⟨x,hx⟩:∃ x,x=(j:Rat):=⟨_,rfl⟩;obtain⟨y,hy⟩:∃ y,y=(k:Rat):=⟨_,rfl⟩;rw[<- hd] at p1 ⊢;rw[hn,<- hx,<- hy] at p2;rw[hn,<- ha,<- hb,<- hx,<- hy]
 grind
theorem qy0 (L:List BA) (d:Nat):EE (List.replicate d (1,1)++L) (fun k=>wq k (L.length+1+d))=EE L fun k=>wq k (L.length+1):=by
 induction d with
 | zero=>rfl
 | succ d ih =>
  rw[List.replicate_succ,List.cons_append,qBj,<- ih];refine qqB fun k hk=>?_
  simp only[List.length_append,List.length_replicate] at hk;exact qAP (k:=k) (n:=L.length+1+d) (by omega)
def qpM (v:Nat->Rat) (n f S:Nat):Rat:=if S.testBit f then 0 else wq (popc n S) n*(v (S+2 ^ f)-v S)
def qeW (v:Nat->Rat) (n f:Nat):Rat:=rsum (qpM v n f) (2 ^ n)
theorem qnH {v w:Nat->Rat} {n f:Nat} (hf:f<n) (h:∀ S,S<2 ^ n->v S=w S):qeW v n f=qeW w n f:=by
 refine qcd fun S hS=>?_
 unfold qpM;cases hb:S.testBit f with
 | true=>rfl
 | false=>rw[if_neg (by decide),if_neg (by decide),h S hS,h _ (qmt hb hS hf)]
theorem qqY (f g:Nat->Rat) (n:Nat):rsum (fun i=>f i+g i) n=rsum f n+rsum g n:=by
 induction n with
 | zero=>simp [rsum,Rat.add_zero]
 | succ n ih=>rw[rsum,rsum,rsum,ih];grind
theorem qqV (v w:Nat->Rat) (n f:Nat):qeW (fun S=>v S+w S) n f=qeW v n f+qeW w n f:=by
 unfold qeW;rw[<- qqY];refine qcd fun S _=>?_
 unfold qpM;split
 · simp [Rat.add_zero]
 · grind
theorem qv5 (v:Nat->Rat) (n f:Nat) (q:Rat):qeW (fun S=>v S*q) n f=qeW v n f*q:=by
 unfold qeW;rw[<- qin];refine qcd fun S _=>?_
 unfold qpM;split
 · rw[Rat.zero_mul]
 · grind
theorem qo5 (n f:Nat):qeW (fun _=>0) n f=0:=by
 unfold qeW;refine ql3 fun S _=>?_
 unfold qpM;split
 · rfl
 · grind
theorem quA (v:Nat->Nat->Rat) (n f:Nat):∀ k,qeW (fun S=>rsum (fun i=>v i S) k) n f=rsum (fun i=>qeW (v i) n f) k:=by
 intro k
 induction k with
 | zero=>exact qo5 n f
 | succ k ih=>rw[rsum,<- ih,<- qqV];rfl
theorem quB {α:Type} (v:α->Nat->Rat) (n f:Nat):∀ l:List α,qeW (fun S=>lsum (l.map fun x=>v x S)) n f=lsum (l.map fun x=>qeW (v x) n f):=by
 intro l
 induction l with
 | nil=>exact qo5 n f
 | cons x l ih=>rw[List.map_cons,lsum,<- ih,<- qqV];rfl
abbrev FP:=Nat×BA
def lkG:List FP->Nat->BA
 | [],_=>(1,1)
 | p::P,j=>if p.1=j then p.2 else lkG P j
theorem qAc {P:List FP} {j:Nat} (h:j ∉ P.map (·.1)):lkG P j=(1,1):=by
 induction P with
 | nil=>rfl
 | cons p P ih =>
  simp only[List.map_cons,List.mem_cons,not_or] at h;rw[lkG,if_neg (fun e=>h.1 e.symm),ih h.2]
theorem qAd {P:List FP} (hnd:(P.map (·.1)).Nodup):(P.map (·.1)).map (lkG P)=P.map (·.2):=by
 induction P with
 | nil=>rfl
 | cons p P ih =>
  have h:=List.nodup_cons.1 hnd;have ih:=ih h.2;simp only[List.map_cons,lkG,if_true,List.cons.injEq,true_and];rw[<- ih];refine List.map_congr_left fun j hj=>?_
  exact if_neg (fun e=>h.1 (by subst e;exact hj))
theorem qkg {n:Nat} {F:List Nat} (hnd:F.Nodup) (hlt:∀ j∈F,j<n):∃ R:List Nat,(List.range n).Perm (F++R)/\∀ j∈R,j ∉ F:=by
 refine⟨(List.range n).filter fun j=>!F.contains j,?_,fun j hj=>by simpa using (List.mem_filter.1 hj).2⟩;refine(List.perm_ext_iff_of_nodup List.nodup_range ?_).2 fun a=>?_
 · refine List.nodup_append.2 ⟨hnd, List.Nodup.sublist List.filter_sublist List.nodup_range, fun a ha b hb e => ?_⟩;subst e;have:=(List.mem_filter.1 hb).2;simp at this;exact this ha
 · simp only [List.mem_append, List.mem_filter, List.mem_range];constructor
   · intro h;by_cases ha:a∈F
     · exact .inl ha
     · exact .inr ⟨h,by simpa using ha⟩
   · rintro (h | h)
     · exact hlt a h
     · exact h.1
theorem qpe {a b:List Rat} (h:a.Perm b):qgB a=qgB b:=by
 induction h with
 | nil=>rfl
 | cons x _ ih=>rw[qgB,qgB,ih]
 | swap x y l=>simp only[qgB];grind
 | trans _ _ h1 h2=>rw[h1,h2]
theorem qsE (h:Nat->Rat) (n:Nat):qio h n=qgB ((List.range n).map h):=by
 induction n with
 | zero=>rfl
 | succ n ih=>rw[qio,ih,List.range_succ,List.map_append,qmZ];simp [qgB,Rat.mul_one]
theorem qu8 {l:List Rat} (h:∀ x∈l,x=1):qgB l=1:=by
 induction l with
 | nil=>rfl
 | cons x l ih=>rw[qgB,h x List.mem_cons_self,ih fun y hy=>h y (List.mem_cons_of_mem _ hy),Rat.mul_one]
def qkS (P:List FP) (S:Nat):Rat:=qgB (P.map fun p=>pick p.2 (S.testBit p.1))
theorem qv3 {n f:Nat} {x:BA} {P:List FP} (hf:f<n) (hnd:(P.map (·.1)).Nodup) (hlt:∀ p∈P,p.1<n) (hnf:f ∉ P.map (·.1)) :
  qeW (fun S=>pick x (S.testBit f)*qkS P S) n f=(x.2-x.1)*EE (P.map (·.2)) fun k=>wq k (P.length+1):=by
 obtain⟨R,hR,hRF⟩:=qkg (n:=n) (F:=f::P.map (·.1)) (List.nodup_cons.2 ⟨hnf,hnd⟩) (fun j hj=>by
  rcases List.mem_cons.1 hj with rfl | hj
  · exact hf
  · obtain⟨p,hp,rfl⟩:=List.mem_map.1 hj;exact hlt p hp)
 obtain⟨g,hg⟩:∃ g:Nat->BA,g=fun j=>if j=f then (1,0) else lkG P j:=⟨_,rfl⟩
 have gf:g f=(1,0):=by rw[hg];exact if_pos rfl
 have gP:(P.map (·.1)).map g=P.map (·.2):=by
  rw[<- qAd hnd];refine List.map_congr_left fun j hj=>?_
  rw[hg];exact if_neg fun e=>hnf (by rw[<- e];exact hj)
 have gR:∀ j∈R,g j=(1,1):=fun j hj=>by
  have:=hRF j hj;simp only[List.mem_cons,not_or] at this;rw[hg];show(if j=f then _ else _)=_;rw[if_neg this.1,qAc this.2]
 have hlen:n=P.length+1+R.length:=by
  have:=hR.length_eq;simp only[List.length_range,List.length_append,List.length_cons,List.length_map] at this;omega
 have hprod:∀ S,qio (fun j=>pick (g j) (S.testBit j)) n=if S.testBit f then 0 else qkS P S:=fun S=>by
  rw[qsE,qpe (hR.map _),List.map_append,qmZ,List.map_cons,qgB,gf,qu8 (l:=R.map _) (fun y hy=>by
    obtain⟨j,hj,rfl⟩:=List.mem_map.1 hy;rw[gR j hj];unfold pick;split<;>rfl)]
  have e:((P.map (·.1)).map fun j=>pick (g j) (S.testBit j))=P.map fun p=>pick p.2 (S.testBit p.1):=by
    rw[List.map_map];refine List.map_congr_left fun p hp=>?_
    show pick (g p.1) _=_;have:g p.1=p.2:=by
     obtain⟨i,hi,rfl⟩:=List.mem_iff_getElem.1 hp;have:=congrArg (fun l=>l[i]?) gP;simp only[List.getElem?_map,gE0 hi,Option.map_some,Option.some.injEq] at this;exact this
    rw[this]
  rw[e];unfold pick qkS;split
  · simp [Rat.zero_mul]
  · simp [Rat.one_mul,Rat.mul_one];rfl
 have hsum:qeW (fun S=>pick x (S.testBit f)*qkS P S) n f=(x.2-x.1)*rsum (fun S=>wq (popc n S) n*qio (fun j=>pick (g j) (S.testBit j)) n) (2 ^ n):=by
  unfold qeW;rw[Rat.mul_comm,<- qin];refine qcd fun S hS=>?_
  rw[hprod];unfold qpM;cases hb:S.testBit f with
  | true=>simp [Rat.mul_zero,Rat.zero_mul]
  | false =>
    have hb':=qlc hb;have e1:qkS P (S+2 ^ f)=qkS P S:=by
     unfold qkS;congr 1;refine List.map_congr_left fun p hp=>?_
     rw[hb' p.1,decide_eq_false (fun e=>hnf (List.mem_map.2 ⟨p,hp,e⟩)),Bool.false_or]
    dsimp only;rw[if_neg (by decide),if_neg (by decide),e1,hb' f,decide_eq_true rfl,Bool.true_or];simp only[pick,if_true,Bool.false_eq_true,if_false]
    grind
 have hss:=qxP g n fun k=>wq k n
 rw[hsum,hss];congr 1;have hp2:((List.range n).map g).Perm ((1,0)::(List.replicate R.length (1,1)++P.map (·.2))):=by
  refine(hR.map g).trans ?_;rw[List.map_append,List.map_cons,gf,gP,List.cons_append];have:R.map g=List.replicate R.length (1,1):=by
    rw[List.eq_replicate_iff];exact⟨by simp,fun y hy=>by obtain⟨j,hj,rfl⟩:=List.mem_map.1 hy;exact gR j hj⟩
  rw[this];exact List.Perm.cons _ List.perm_append_comm
 rw[qtr hp2,qBk];have:=qy0 (P.map (·.2)) R.length;rw[List.length_map] at this;rw[<- this,<- hlen]
theorem qv4 {n f:Nat} {P:List FP} (hnf:f ∉ P.map (·.1)):qeW (qkS P) n f=0:=by
 unfold qeW;refine ql3 fun S _=>?_
 unfold qpM;cases hb:S.testBit f with
 | true=>rfl
 | false =>
  have e1:qkS P (S+2 ^ f)=qkS P S:=by
   unfold qkS;congr 1;refine List.map_congr_left fun p hp=>?_
   rw[qlc hb p.1,decide_eq_false (fun e=>hnf (List.mem_map.2 ⟨p,hp,e⟩)),Bool.false_or]
  rw[if_neg (by decide),e1];grind
def one0 (b:Bool):Rat:=if b then 1 else 0
def mulF (x:BA) (P:Nat->Rat) (k:Nat):Rat:=x.1*P k+(if k=0 then 0 else x.2*P (k-1))
def polF:List BA->Nat->Rat
 | []=>fun k=>if k=0 then 1 else 0
 | x::L=>mulF x (polF L)
theorem qwi (L:List BA):∀ k,polF L k=EE L fun j=>if j=k then 1 else 0:=by
 induction L with
 | nil => intro k; show (if k = 0 then (1 : Rat) else 0) = if 0 = k then 1 else 0
          by_cases h:k=0
          · subst h;rfl
          · rw[if_neg h,if_neg (fun e=>h e.symm)]
 | cons x L ih =>
  intro k;show mulF x (polF L) k=_;rw[mulF,EE,ih];congr 1;by_cases h:k=0
  · subst h;rw[if_pos rfl];have:EE L (fun j=>if j+1=0 then (1:Rat) else 0)=EE L fun j=>0*0:=qqB fun j _=>by rw[if_neg (by omega),Rat.mul_zero]
    rw[this,qBl,Rat.zero_mul,Rat.mul_zero]
  · rw [if_neg h, ih];congr 1;refine qqB fun j _=>?_
    by_cases e:j=k-1
    · rw[if_pos e,if_pos (by omega)]
    · rw[if_neg e,if_neg (by omega)]
theorem qtP (L:List BA):∀ k,L.length+1<=k->polF L k=0:=by
 induction L with
 | nil=>intro k h;exact if_neg (by simp at h;omega)
 | cons x L ih =>
  intro k h;simp only[List.length_cons] at h;show mulF x (polF L) k=0;rw[mulF,ih k (by omega),if_neg (by omega),ih (k-1) (by omega),Rat.mul_zero,Rat.mul_zero,Rat.add_zero]
theorem qwh {L M:List BA} (h:L.Perm M):polF L=polF M:=by
 funext k;rw[qwi,qwi];exact qtr h _
theorem quG (f:Nat->Rat) (n:Nat):rsum f (n+1)=f 0+rsum (fun i=>f (i+1)) n:=by
 induction n with
 | zero=>simp [rsum,Rat.add_zero,Rat.zero_add]
 | succ n ih=>rw[rsum,ih,rsum,Rat.add_assoc]
theorem qxT {f:Nat->Rat} {n m:Nat} (h:∀ i,n<=i->f i=0) (hm:n<=m):rsum f m=rsum f n:=by
 induction m with
 | zero => have : n = 0 := by omega
           subst this;rfl
 | succ m ih =>
  by_cases e:n=m+1
  · rw[e]
  · rw[rsum,h m (by omega),ih (by omega),Rat.add_zero]
theorem qAI (L:List BA):∀ c,EE L c=rsum (fun j=>polF L j*c j) (L.length+1):=by
 induction L with
 | nil=>intro c;show c 0=0+1*c 0;rw[Rat.one_mul,Rat.zero_add]
 | cons x L ih =>
  intro c;have e1:rsum (fun j=>polF (x::L) j*c j) ((x::L).length+1)=x.1*rsum (fun j=>polF L j*c j) (L.length+1)+x.2*rsum (fun j=>polF L j*c (j+1)) (L.length+1):=by
   have a:∀ j,polF (x::L) j*c j=(polF L j*c j)*x.1+(if j=0 then 0 else polF L (j-1)*c j)*x.2:=fun j=>by
    show mulF x (polF L) j*c j=_;rw[mulF];split<;>grind
   have b:rsum (fun j=>polF (x::L) j*c j) (L.length+2)=rsum (fun j=>(polF L j*c j)*x.1+(if j=0 then 0 else polF L (j-1)*c j)*x.2) (L.length+2):=qcd fun j _=>a j
   show rsum _ (L.length+2)=_;rw[b,qqY,qin,qin];have e2:rsum (fun j=>polF L j*c j) (L.length+2)=rsum (fun j=>polF L j*c j) (L.length+1):=qxT (fun j hj=>by rw[qtP L j hj,Rat.zero_mul]) (by omega);have e3:rsum (fun j=>if j=0 then 0 else polF L (j-1)*c j) (L.length+2)=rsum (fun j=>polF L j*c (j+1)) (L.length+1):=by
    rw[quG,if_pos rfl,Rat.zero_add];exact qcd fun j _=>by rw[if_neg (by omega),Nat.add_sub_cancel]
   rw[e2,e3];grind
  rw[e1,EE,ih,ih]
theorem qme {n:Nat} (h:0<n):((n:Nat):Rat)≠0:=by
 intro e;have:(n:Nat)=0:=by exact_mod_cast e
 omega
theorem qpw {i n:Nat} (h:i<n):wq i (n+1)=wq i n*(((n-i:Nat):Rat)/((n+1:Nat):Rat)):=by
 obtain⟨j,rfl⟩:∃ j,n=i+j+1:=⟨n-i-1,by omega⟩;have e1:i+j+1+1-i-1=j+1:=by omega
 have e2:i+j+1-i-1=j:=by omega
 have e3:i+j+1-i=j+1:=by omega
 have a1:((fac (j+1):Nat):Rat)=((j+1:Nat):Rat)*((fac j:Nat):Rat):=by rw[fac];push_cast;rfl
 have a2:((fac (i+j+1+1):Nat):Rat)=((i+j+1+1:Nat):Rat)*((fac (i+j+1):Nat):Rat):=by rw[fac];push_cast;rfl
 have n1:=qme (qwR (i+j+1));have n2:=qme (show 0<i+j+1+1 by omega);simp only[wq,quo];rw[e1,e2,e3,a1,a2];generalize ((fac i:Nat):Rat)=x;generalize ((fac j:Nat):Rat)=y;generalize ((fac (i+j+1):Nat):Rat)=z at *;generalize ((j+1:Nat):Rat)=u;generalize ((i+j+1+1:Nat):Rat)=v at *;rw[Rat.div_def,Rat.div_def,Rat.div_def,Rat.inv_mul_rev]
 grind
theorem qvA {i n:Nat} (h:i<n):wq (i+1) (n+1)=wq i n*(((i+1:Nat):Rat)/((n+1:Nat):Rat)):=by
 obtain⟨j,rfl⟩:∃ j,n=i+j+1:=⟨n-i-1,by omega⟩;have e1:i+j+1+1-(i+1)-1=j:=by omega
 have e2:i+j+1-i-1=j:=by omega
 have a1:((fac (i+1):Nat):Rat)=((i+1:Nat):Rat)*((fac i:Nat):Rat):=by rw[fac];push_cast;rfl
 have a2:((fac (i+j+1+1):Nat):Rat)=((i+j+1+1:Nat):Rat)*((fac (i+j+1):Nat):Rat):=by rw[fac];push_cast;rfl
 simp only[wq,quo];rw[e1,e2,a1,a2];generalize ((fac i:Nat):Rat)=x;generalize ((fac j:Nat):Rat)=y;generalize ((fac (i+j+1):Nat):Rat)=z at *;generalize ((i+1:Nat):Rat)=u;generalize ((i+j+1+1:Nat):Rat)=v at *;rw[Rat.div_def,Rat.div_def,Rat.div_def,Rat.inv_mul_rev]
 grind
def fcP (p:AP):BA:=(p.2.1,one0 p.2.2)
def ekP (P:List AP):Nat->Rat:=polF (P.map fcP)
def wtP (P:List AP) (k:Nat):Rat:=wq k (P.length+1)*ekP P k
theorem qub {P Q:List AP} (h:P.Perm Q):ekP P=ekP Q:=qwh (h.map fcP)
theorem qyy (P:List AP) (p:AP):ekP (P++[p])=mulF (fcP p) (ekP P):=by
 have:(P++[p]).Perm (p::P):=List.perm_append_comm.trans (List.Perm.refl _);rw[qub this];rfl
theorem qwX (P:List AP) {k:Nat} (h:P.length<k):ekP P k=0:=qtP _ k (by simp;omega)
theorem qzy:wtP [] 0=1:=by
 show wq 0 1*1=1;rw[Rat.mul_one];decide +kernel
abbrev LK:=Int×RAT×CELL
def lkF (P:List AP) (w:Nat->Rat) (i:Nat):LK :=
 if i=0 then (-1,canQ 1,true,canQ (w 0)) else
  let p:=(P[i-1]?).getD (0,0,false)
  ((p.1:Int),canQ p.2.1,p.2.2,canQ (w i))
def encK (P:List AP) (w:Nat->Rat):List LK:=(List.range (P.length+1)).map (lkF P w)
theorem qcX (P:List AP) (w:Nat->Rat):(encK P w).length=P.length+1:=by simp [encK]
theorem qcP {P:List AP} {w:Nat->Rat} {i:Nat} (h:i<P.length+1):(encK P w)[i]?=some (lkF P w i):=by simp [encK,h]
theorem qf4 {P:List AP} {w w':Nat->Rat} (h:∀ i,i<=P.length->w i=w' i):encK P w=encK P w':=by
 refine List.map_congr_left fun i hi=>?_
 have hi:=List.mem_range.1 hi;unfold lkF;split
 · rename_i e;subst e;rw[h 0 (by omega)]
 · rw[h i (by omega)]
theorem qwy (P:List AP) (w:Nat->Rat) (i:Nat):(lkF P w i).2.2.2=canQ (w i):=by
 unfold lkF;split
 · rename_i e;subst e;rfl
 · rfl
theorem qAe (P:List AP) (w:Nat->Rat) (i:Nat) (q:Rat):((lkF P w i).1,(lkF P w i).2.1,(lkF P w i).2.2.1,canQ q)=lkF P (fun j=>if j=i then q else w j) i:=by
 unfold lkF;split
 · rename_i e;subst e;simp
 · simp
theorem qnh {P:List AP} {w:Nat->Rat} {i:Nat} (q:Rat):(encK P w).set i ((lkF P w i).1,(lkF P w i).2.1,(lkF P w i).2.2.1,canQ q)=encK P fun j=>if j=i then q else w j:=by
 rw[qAe];refine List.ext_getElem? fun j=>?_
 rw[List.getElem?_set];by_cases e:i=j
 · subst e;rw[if_pos rfl];by_cases hi:i<P.length+1
   · rw[if_pos (by rw[qcX];exact hi),qcP hi]
   · rw[if_neg (by rw[qcX];exact hi),List.getElem?_eq_none (by rw[qcX];omega)]
 · rw [if_neg e];by_cases hj:j<P.length+1
   · rw [qcP hj, qcP hj];have:(if j=i then q else w j)=w j:=if_neg fun h=>e h.symm
     unfold lkF;split
     · rename_i e0;subst e0;simp only[this]
     · simp only[this]
   · rw[List.getElem?_eq_none (by rw[qcX];omega),List.getElem?_eq_none (by rw[qcX];omega)]
theorem qlK {P:List AP} {w:Nat->Rat} {i:Nat} (h:i<P.length):lkF P w (i+1)=((P[i].1:Int),canQ P[i].2.1,P[i].2.2,canQ (w (i+1))):=by
 simp [lkF,gE0 h]
theorem qwW (P:List AP) (w:Nat->Rat) (p:AP) (q:Rat):encK P w++[((p.1:Int),canQ p.2.1,p.2.2,canQ q)]=encK (P++[p]) fun j=>if j=P.length+1 then q else w j:=by
 have e:encK (P++[p]) (fun j=>if j=P.length+1 then q else w j)=(List.range (P.length+1)).map (lkF (P++[p]) fun j=>if j=P.length+1 then q else w j)++[lkF (P++[p]) (fun j=>if j=P.length+1 then q else w j) (P.length+1)]:=by
   unfold encK;rw[List.length_append,List.length_singleton,List.range_succ,List.map_append];rfl
 rw[e];congr 1
 · refine List.map_congr_left fun i hi => ?_
   have hi:=List.mem_range.1 hi;unfold lkF;split
   · rename_i e;subst e;simp
   · have : ¬ i = P.length + 1 := by omega
     rw[List.getElem?_append_left (by omega)];simp only[if_neg this]
 · simp [lkF]
structure qf6 (P:List AP) (k g:Nat):Prop where
 nd:(P.map (·.1)).Nodup
 sz:ASz P k
 len:P.length<=20
 lt:∀ p∈P,p.1<g
 pos:∀ p∈P,0<p.2.1
theorem qyU:qgg=some (encK [] (wtP [])):=by
 rw[qgg,qjp,bS0,bS0];show some [_]=some [lkF [] (wtP []) 0];simp only[lkF,if_true,qzy]
theorem qAH {P:List AP} {w:Nat->Rat} {f i:Nat} (hi:i<P.length) (he:P[i].1=f) (hn:∀ j (hj:j<P.length),j<i->P[j].1≠f) (hl:P.length<=1000000):qbq (f:Int) (encK P w)=some (((i+1:Nat):Int),encK P w):=by
 have el:=qcX P w;have key:=qf3 (step:=qaj) (fun k=>(((f:Int),((P.length+1:Nat):Int),(k:Int),()),((encK P w,()),()))) (i+1) (r:=.inr ((((i+1:Nat):Int),()),((encK P w,()),()))) (by omega) (by
  intro g k hk;have d0:(k:Int)<((P.length+1:Nat):Int):=by omega
  have d1:(0:Int)<=(k:Int):=by omega
  have d2:(k:Int)<((encK P w).length:Int):=by omega
  rw[qaj,cnd d0,cnd2 d1 d2,tN0,qcP (by omega),bS0];cases k with
  | zero=>rw[cnd' (by omega),qbp (by omega)];rfl
  | succ k =>
   have hne:¬ (lkF P w (k+1)).1=(f:Int):=by
    rw[qlK (by omega)];have:=hn k (by omega) (by omega);show ¬ ((P[k].1:Nat):Int)=_;omega
   rw[cnd (by omega),cnd' hne,qbp (by omega)];rfl) (by
  intro g;have d0:((i+1:Nat):Int)<((P.length+1:Nat):Int):=by omega
  have d1:(0:Int)<=((i+1:Nat):Int):=by omega
  have d2:((i+1:Nat):Int)<((encK P w).length:Int):=by omega
  have he':(lkF P w (i+1)).1=(f:Int):=by rw[qlK hi];show((P[i].1:Nat):Int)=_;omega
  rw[qaj,cnd d0,cnd2 d1 d2,tN0,qcP (by omega),bS0,cnd (by omega),cnd he'])
 have key:lp qaj K0 (((f:Int),((P.length+1:Nat):Int),0,()),((encK P w,()),()))=_:=key;rw[qbq,el,key];rfl
theorem qup {P:List AP} {w:Nat->Rat} {f:Nat} (hn:∀ p∈P,p.1≠f) (hl:P.length<=1000000):qbq (f:Int) (encK P w)=some (0,encK P w):=by
 have el:=qcX P w;have key:=qf3 (step:=qaj) (fun k=>(((f:Int),((P.length+1:Nat):Int),(k:Int),()),((encK P w,()),()))) (P.length+1) (r:=.inl ((),((encK P w,()),()))) (by omega) (by
  intro g k hk;have d0:(k:Int)<((P.length+1:Nat):Int):=by omega
  have d1:(0:Int)<=(k:Int):=by omega
  have d2:(k:Int)<((encK P w).length:Int):=by omega
  rw[qaj,cnd d0,cnd2 d1 d2,tN0,qcP (by omega),bS0];cases k with
  | zero=>rw[cnd' (by omega),qbp (by omega)];rfl
  | succ k =>
   have hne:¬ (lkF P w (k+1)).1=(f:Int):=by
    rw[qlK (by omega)];have:=hn P[k] (gM0 (by omega));show ¬ ((P[k].1:Nat):Int)=_;omega
   rw[cnd (by omega),cnd' hne,qbp (by omega)];rfl) (by
  intro g;rw[qaj,cnd' (by omega)])
 have key:lp qaj K0 (((f:Int),((P.length+1:Nat):Int),0,()),((encK P w,()),()))=_:=key;rw[qbq,el,key];rfl
theorem qpu {P:List AP} {w:Nat->Rat} (hl:P.length<=1000000):qce (encK P w)=some (encW P,encK P w):=by
 have el:=qcX P w;have key:=qf3 (step:=qaE) (fun k=>((encW (P.take (k-1)),((P.length+1:Nat):Int),(k:Int),()),((encK P w,()),()))) (P.length+1) (r:=((encW P,()),((encK P w,()),()))) (by omega) (by
  intro g k hk;have d0:(k:Int)<((P.length+1:Nat):Int):=by omega
  have d1:(0:Int)<=(k:Int):=by omega
  have d2:(k:Int)<((encK P w).length:Int):=by omega
  rw[qaE,cnd d0,cnd2 d1 d2,tN0,qcP (by omega),bS0];cases k with
  | zero=>rw[cnd' (by omega),qbp (by omega)];rfl
  | succ k =>
   have hk':k<P.length:=by omega
   have e:encW (P.take (k+1))=encW (P.take k)++[((lkF P w (k+1)).1,(lkF P w (k+1)).2.1,(lkF P w (k+1)).2.2.1)]:=by
    rw[qlK hk'];exact qcm encP hk'
   rw[cnd (by omega),blt (by rw[qng,List.length_take];omega),cond_true,qbp (by omega)];show g ((encW (P.take k)++_,_,_,_),_)=g ((encW (P.take (k+1)),_,_,_),_);rw[e];rfl) (by
  intro g;rw[qaE,cnd' (by omega),Nat.add_sub_cancel,List.take_of_length_le (Nat.le_refl _)])
 have key:lp qaE K0 (([],((P.length+1:Nat):Int),0,()),((encK P w,()),()))=_:=key;rw[qce,el,key];rfl
theorem qoe {a b:Nat} (ha:a<1000000) (hb:b<1000000):qdc (a:Int) (b:Int)=some (canQ ((a:Rat)/(b:Rat))):=by
 have:=qpZ (n:=(a:Int)) (d:=(b:Int)) (by omega) (by omega) (by omega) (by omega);rw[this];rfl
theorem qml {a b:Nat} (ha:a<1000000) (hb:b<1000000):SzQ ((a:Rat)/(b:Rat)) 2:=by
 have h:∀ {n:Nat},n<1000000->SzQ (n:Rat) 1:=fun {n} hn=>by
  have:=SzQ.int (z:=(n:Int)) (by omega);exact this
 exact(h ha).div (h hb)
theorem qwq (b:Bool):SzQ (one0 b) 1:=by cases b;exact SzQ.zero;exact SzQ.one
def ekS (k:Nat):Nat->Nat
 | 0=>1
 | n+1=>2*ekS k n+k+2
theorem qua (k:Nat) {n m:Nat} (h:n<=m):ekS k n<=ekS k m:=by
 induction h with
 | refl=>exact Nat.le_refl _
 | step _ ih=>simp only[ekS];omega
theorem qr2 {k n:Nat} (hk:k<=70) (hn:n<=20):ekS k n<=76546048:=by
 have h1:=qua k hn;have h2:ekS k 20<=ekS 70 20:=by
  have:∀ n,ekS k n<=ekS 70 n:=by
   intro n
   induction n with
   | zero=>exact Nat.le_refl _
   | succ n ih=>simp only[ekS];omega
  exact this 20
 have h3:ekS 70 20<=76546048:=by decide +kernel
 omega
theorem qzo {P:List AP} {k:Nat} (h:ASz P k):∀ i,SzQ (ekP P i) (ekS k P.length):=by
 induction P with
 | nil =>
  intro i;show SzQ (if i=0 then (1:Rat) else 0) 1;split
  · exact SzQ.one
  · exact SzQ.zero
 | cons p P ih =>
  intro i;have h1:SzQ p.2.1 k:=h p List.mem_cons_self;have ih:=ih fun x hx=>h x (List.mem_cons_of_mem _ hx)
  show SzQ (mulF (fcP p) (ekP P) i) _;unfold mulF;have a:SzQ ((fcP p).1*ekP P i) (k+ekS k P.length):=h1.mul (ih i);have b:SzQ (if i=0 then 0 else (fcP p).2*ekP P (i-1)) (1+ekS k P.length):=by
    split
    · exact SzQ.zero.mono (by omega)
    · exact(qwq p.2.2).mul (ih _)
  exact(a.add b).mono (by simp only[List.length_cons,ekS];omega)
theorem qts {P:List AP} {k:Nat} (h:ASz P k) (hl:P.length<=20) {i:Nat} (hi:i<=P.length):SzQ (wtP P i) (30+ekS k P.length) :=
 (qAO (by omega) (by omega)).mul (qzo h i)
def extW (P:List AP) (p:AP) (i:Nat) (j:Nat):Rat :=
 if j<i then wtP P j else if j=i then (if j=P.length+1 then 0 else (p.2.1*wtP P j)*(((P.length+1-j:Nat):Rat)/((P.length+1+1:Nat):Rat))) else wtP (P++[p]) j
theorem qpv {P:List AP} {p:AP} {j:Nat} (hj:j<=P.length+1):wtP (P++[p]) j =
  (if j=P.length+1 then 0 else (p.2.1*wtP P j)*(((P.length+1-j:Nat):Rat)/((P.length+1+1:Nat):Rat))) +
  (if j=0 then 0 else one0 p.2.2*(wtP P (j-1)*(((j-1+1:Nat):Rat)/((P.length+1+1:Nat):Rat)))):=by
 unfold wtP;rw[qyy,mulF,List.length_append,List.length_singleton];show wq j (P.length+1+1)*(p.2.1*ekP P j+_)=_;have a:(if j=P.length+1 then (0:Rat) else (p.2.1*(wq j (P.length+1)*ekP P j))*(((P.length+1-j:Nat):Rat)/((P.length+1+1:Nat):Rat)))=wq j (P.length+1+1)*(p.2.1*ekP P j):=by
  split
  · rw[qwX P (by omega),Rat.mul_zero,Rat.mul_zero]
  · rw[qpw (i:=j) (n:=P.length+1) (by omega)];grind
 have b:(if j=0 then (0:Rat) else one0 p.2.2*(wq (j-1) (P.length+1)*ekP P (j-1)*(((j-1+1:Nat):Rat)/((P.length+1+1:Nat):Rat))))=wq j (P.length+1+1)*(if j=0 then 0 else (fcP p).2*ekP P (j-1)):=by
  split
  · rw[Rat.mul_zero]
  · have := qvA (i := j - 1) (n := P.length + 1) (by omega);rw[show j-1+1=j by omega] at this;rw[this,show j-1+1=j by omega];show one0 p.2.2*_=_*(one0 p.2.2*_)
    grind
 rw[a,b];grind
theorem qsq {P:List AP} {k g:Nat} (h:qf6 P k g) {f:Nat} {q:Rat} {ok:Bool} (hf:∀ p∈P,p.1≠f) (hq:SzQ q k) (hq0:0<q) (hk:k<=70) (hl:P.length<20) (hfl:f<1000000) :
  qaO (f:Int) (canQ q) ok (encK P (wtP P))=some (0,encK (P++[(f,q,ok)]) (wtP (P++[(f,q,ok)]))):=by
 obtain⟨p,ep⟩:∃ p:AP,p=(f,q,ok):=⟨_,rfl⟩;have hl2:=h.len;have el:=qcX P (wtP P);have hS:=qr2 (k:=k) (n:=P.length) hk (by omega);have wsz:∀ i,i<=P.length->SzQ (wtP P i) 100000000:=fun i hi=>(qts h.sz hl2 hi).mono (by omega)
 obtain⟨N,eN⟩:∃ N,N=P.length+1:=⟨_,rfl⟩;have hsnoc:=qwW P (wtP P) p 0;have e0:encK (P++[p]) (fun j=>if j=P.length+1 then 0 else wtP P j)=encK (P++[p]) (extW P p N):=by
  refine qf4 fun j hj=>?_
  simp only[List.length_append,List.length_singleton] at hj;show(if j=P.length+1 then 0 else wtP P j)=extW P p N j;unfold extW;by_cases e:j=P.length+1
  · rw[if_pos e,if_neg (by omega),if_pos (by omega),if_pos e]
  · rw[if_neg e,if_pos (by omega)]
 have ell:∀ w,(encK (P++[p]) w).length=N+1:=fun w=>by rw[qcX,List.length_append];simp [eN]
 have pn1:iadd .i64 ((N:Nat):Int) 1=((N+1:Nat):Int):=qbp (by omega);have key:=qf3 (step:=qaq) (fun m=>((ok,(N:Int),((N:Nat):Int)-1-(m:Int),()),(((canQ q).1.1,(canQ q).1.2,(canQ q).2,()),(encK (P++[p]) (extW P p (N-m)),()),()))) N
  (r:=((),((encK (P++[p]) (extW P p 0),()),()))) (by omega) (by
  intro g m hm;obtain⟨i,hi⟩:∃ i,N=i+m+1:=⟨N-m-1,by omega⟩;have ei:((N:Nat):Int)-1-(m:Int)=(i:Int):=by omega
  have ei2:((N:Nat):Int)-1-((m+1:Nat):Int)=(i:Int)-1:=by omega
  have en1:N-m=i+1:=by omega
  have en2:N-(m+1)=i:=by omega
  have hiN:i<N:=by omega
  have d0:((i:Nat):Int)>=0:=by omega
  have d1:(0:Int)<=(i:Int):=by omega
  have d2:(i:Int)<((encK (P++[p]) (extW P p (i+1))).length:Int):=by rw[ell];omega
  have g1:=qcP (P:=P++[p]) (w:=extW P p (i+1)) (i:=i) (by rw[List.length_append];simp;omega);have wi:(lkF (P++[p]) (extW P p (i+1)) i).2.2.2=canQ (wtP P i):=by rw[qwy,extW,if_pos (by omega)]
  have hw:=wsz i (by omega);have q1:iadd .i64 (i:Int) 1=((i+1:Nat):Int):=qbp (by omega);have q2:isub .i64 (N:Int) (i:Int)=((N-i:Nat):Int):=by rw[qdB (by omega) (by omega)];omega
  have q3:isub .i64 (i:Int) 1=(i:Int)-1:=by rw[qdB (by omega) (by omega)]
  have f1:=qoe (a:=i+1) (b:=N+1) (by omega) (by omega);have f2:=qoe (a:=N-i) (b:=N+1) (by omega) (by omega);have s1:=qml (a:=i+1) (b:=N+1) (by omega) (by omega);have s2:=qml (a:=N-i) (b:=N+1) (by omega) (by omega);have m1:=qa0 (hq.sm (by omega)) (hw.sm (by decide));rw[qas,qas] at m1;have m1:qay (((canQ q).1.1,(canQ q).1.2),(canQ q).2) (canQ (wtP P i))=some (canQ (q*wtP P i)):=m1;have z1:SzQ (q*wtP P i) 200000000:=(hq.mul hw).mono (by omega);have m2:=qa0 (z1.sm (by decide)) (s2.sm (by decide));rw[qas,qas] at m2;have fin0:extW P p i i=q*wtP P i*(((N-i:Nat):Rat)/((N+1:Nat):Rat)):=by
    rw[extW,if_neg (by omega),if_pos rfl,if_neg (by omega),ep,eN]
  show qaq g ((ok,(N:Int),((N:Nat):Int)-1-(m:Int),()),(((canQ q).1.1,(canQ q).1.2,(canQ q).2,()),(encK (P++[p]) (extW P p (N-m)),()),()))=g ((ok,(N:Int),((N:Nat):Int)-1-((m+1:Nat):Int),()),(((canQ q).1.1,(canQ q).1.2,(canQ q).2,()),(encK (P++[p]) (extW P p (N-(m+1))),()),()));rw[ei,ei2,en1,en2,qaq,cnd d0,cnd2 d1 d2,tN0,g1,bS0,wi];cases hok:ok with
  | true =>
    have a1:(0:Int)<=((i+1:Nat):Int):=by omega
    have a2:((i+1:Nat):Int)<((encK (P++[p]) (extW P p (i+1))).length:Int):=by rw[ell];omega
    have g2:=qcP (P:=P++[p]) (w:=extW P p (i+1)) (i:=i+1) (by rw[List.length_append];simp;omega);have m3:=qa0 (hw.sm (by decide)) (s1.sm (by decide));rw[qas,qas] at m3;have z3:SzQ (wtP P i*(((i+1:Nat):Rat)/((N+1:Nat):Rat))) 200000000:=(hw.mul s1).mono (by omega);have z4:SzQ (extW P p (i+1) (i+1)) 400000000:=by
     rw[extW,if_neg (by omega),if_pos rfl];split
     · exact SzQ.zero.mono (by decide)
     · have hw' := wsz (i + 1) (by omega);have s3:=qml (a:=P.length+1-(i+1)) (b:=P.length+1+1) (by omega) (by omega);rw[ep];exact((hq.mul hw').mul s3).mono (by omega)
    have m4:=qdl (z4.sm (by decide)) (z3.sm (by decide));rw[qas,qas] at m4;have fin1:extW P p (i+1) (i+1)+wtP P i*(((i+1:Nat):Rat)/((N+1:Nat):Rat))=extW P p i (i+1):=by
     have hs:=qpv (P:=P) (p:=p) (j:=i+1) (by omega);rw[if_neg (show ¬ i+1=0 by omega),Nat.add_sub_cancel,show one0 p.2.2=1 by rw[ep,hok];rfl,Rat.one_mul] at hs;have e1:extW P p i (i+1)=wtP (P++[p]) (i+1):=by rw[extW,if_neg (by omega),if_neg (by omega)]
     have e2:extW P p (i+1) (i+1)=if i+1=P.length+1 then 0 else (p.2.1*wtP P (i+1))*(((P.length+1-(i+1):Nat):Rat)/((P.length+1+1:Nat):Rat)):=by rw[extW,if_neg (by omega),if_pos rfl]
     rw[e1,e2,hs,eN]
    have u1:=qnh (P:=P++[p]) (w:=extW P p (i+1)) (i:=i+1) (extW P p i (i+1));have d3:(i:Int)<(((encK (P++[p]) (fun j=>if j=i+1 then extW P p i (i+1) else extW P p (i+1) j))).length:Int):=by rw[ell];omega
    have g3:=qcP (P:=P++[p]) (w:=fun j=>if j=i+1 then extW P p i (i+1) else extW P p (i+1) j) (i:=i) (by rw[List.length_append];simp;omega);have u2:=qnh (P:=P++[p]) (w:=fun j=>if j=i+1 then extW P p i (i+1) else extW P p (i+1) j) (i:=i) (extW P p i i);rw[cond_true,q1,cnd2 a1 a2,tN0,g2,bS0,pn1,f1,bS0,m3,bS0,qwy,m4,bS0,fin1,cnd2 a1 a2,bS0,m1,bS0,q2,f2,bS0,m2,bS0,u1,cnd2 d1 d3,g3,bS0,<- fin0,u2,q3];have:encK (P++[p]) (fun j=>if j=i then extW P p i i else if j=i+1 then extW P p i (i+1) else extW P p (i+1) j)=encK (P++[p]) (extW P p i):=by
     refine qf4 fun j hj=>?_
     by_cases e1:j=i
     · rw[if_pos e1,e1]
     · rw [if_neg e1];by_cases e2:j=i+1
       · rw[if_pos e2,e2]
       · rw [if_neg e2];unfold extW;by_cases e3:j<i
         · rw[if_pos (by omega),if_pos e3]
         · rw[if_neg (by omega),if_neg (by omega),if_neg (by omega),if_neg (by omega)]
    rw[this]
  | false =>
    have u2:=qnh (P:=P++[p]) (w:=extW P p (i+1)) (i:=i) (extW P p i i);rw[cond_false,m1,bS0,q2,pn1,f2,bS0,m2,bS0,cnd2 d1 d2,bS0,<- fin0,u2,q3];have:encK (P++[p]) (fun j=>if j=i then extW P p i i else extW P p (i+1) j)=encK (P++[p]) (extW P p i):=by
     refine qf4 fun j hj=>?_
     simp only[List.length_append,List.length_singleton] at hj;by_cases e1:j=i
     · rw[if_pos e1,e1]
     · rw [if_neg e1];unfold extW;by_cases e3:j<i
       · rw[if_pos (by omega),if_pos e3]
       · by_cases e2 : j = i + 1
         · subst e2;have hs:=qpv (P:=P) (p:=p) (j:=i+1) (by omega);rw[show one0 p.2.2=0 by rw[ep,hok];rfl,Rat.zero_mul,if_neg (show ¬ i+1=0 by omega),Rat.add_zero] at hs
           rw[if_neg (show ¬ i+1<i+1 by omega),if_pos rfl,if_neg (show ¬ i+1<i by omega),if_neg (show ¬ i+1=i by omega),hs]
         · rw[if_neg (by omega),if_neg e2,if_neg (by omega),if_neg (by omega)]
    rw[this]) (by
  intro g;rw[Nat.sub_self,qaq,cnd' (by omega)])
 have efin:encK (P++[p]) (extW P p 0)=encK (P++[p]) (wtP (P++[p])):=by
  refine qf4 fun j hj=>?_
  unfold extW;rw[if_neg (by omega)];by_cases e:j=0
  · subst e;have hs:=qpv (P:=P) (p:=p) (j:=0) (by omega);rw[if_pos rfl,Rat.add_zero] at hs;rw[if_pos rfl,hs]
  · rw[if_neg e]
 rw[efin] at key;have qn:isub .i64 ((P.length+1:Nat):Int) 1=((N:Nat):Int)-1-((0:Nat):Int):=by rw[qdB (by omega) (by omega)];omega
 have c0:¬ ((P.length+1:Nat):Int)=0:=by omega
 have hsg:rcmp q 0>0:=qtL.2 hq0;have hsign:=qls (hq.sm (by omega));rw[qas] at hsign;have hcl:=qaJ (hq.sm (by omega));rw[qas] at hcl;rw[qaO,el,cnd' c0,cnd' (by omega),qup hf (by omega),bS0];dsimp only;rw[cnd' (by omega),hsign,bS0,cnd' (by omega),hcl,bS0,qfq,bS0,blt (by rw[el];omega),cond_true];have e1:encK P (wtP P)++[((f:Int),(canQ q,(ok,canQ 0)))]=encK (P++[p]) (extW P p N):=by
  rw[<- e0,<- hsnoc,ep]
 rw[e1,el,qn];have key:lp qaq K0 ((ok,((P.length+1:Nat):Int),((N:Nat):Int)-1-((0:Nat):Int),()),(((canQ q).1.1,(canQ q).1.2,(canQ q).2,()),(encK (P++[p]) (extW P p N),()),()))=some ((),(encK (P++[p]) (wtP (P++[p])),()),()):=by
  rw[<- eN];exact key
 rw[key,ep];rfl
def qbB (P:List AP) (a:Nat):List AP:=P.take a++P.drop (a+1)
theorem qdh {P:List AP} {a:Nat} (h:a<P.length):(qbB P a).length+1=P.length:=by simp [qbB];omega
theorem qh4 {P:List AP} {a:Nat} (h:a<P.length):P.Perm (P[a]::qbB P a):=by
 have e:P=P.take a++P[a]::P.drop (a+1):=by rw[<- List.drop_eq_getElem_cons h,List.take_append_drop]
 have:(P.take a++P[a]::P.drop (a+1)).Perm (P[a]::(P.take a++P.drop (a+1))):=List.perm_middle;exact(List.Perm.of_eq e).trans this
theorem qnZ {P:List AP} {a:Nat}:∀ p∈qbB P a,p∈P:=fun p hp=>by
 rcases List.mem_append.1 hp with h | h
 · exact List.mem_of_mem_take h
 · exact List.mem_of_mem_drop h
theorem qqo {P:List AP} {a:Nat} (h:a<P.length) (k:Nat):ekP P k=P[a].2.1*ekP (qbB P a) k+(if k=0 then 0 else one0 P[a].2.2*ekP (qbB P a) (k-1)):=by
 rw[qub (qh4 h)];rfl
theorem qf6.out {P:List AP} {k g:Nat} (h:qf6 P k g) {a:Nat} (ha:a<P.length):qf6 (qbB P a) k g:=by
 have hp:=(qh4 ha).map (·.1);have hn:=hp.nodup_iff.1 h.nd;exact⟨(List.nodup_cons.1 hn).2,fun p hp=>h.sz p (qnZ p hp),by have:=qdh ha;have:=h.len;omega,fun p hp=>h.lt p (qnZ p hp),fun p hp=>h.pos p (qnZ p hp)⟩
theorem qf6.notin {P:List AP} {k g:Nat} (h:qf6 P k g) {a:Nat} (ha:a<P.length):∀ p∈qbB P a,p.1≠P[a].1:=by
 have hp:=(qh4 ha).map (·.1);have hn:=List.nodup_cons.1 (hp.nodup_iff.1 h.nd);intro p hp e;exact hn.1 (List.mem_map.2 ⟨p,hp,e⟩)
theorem qAN {P:List AP} {a i:Nat} (ha:a<P.length) (hi:i<P.length) (hz:P[a].2.1≠0) (hok:P[a].2.2=false) :
  wtP P i*(((P.length+1:Nat):Rat)/((P.length-i:Nat):Rat))*P[a].2.1⁻¹=wtP (qbB P a) i:=by
 have hl:=qdh ha;unfold wtP;rw[qqo ha,hok,qpw (i:=i) (n:=P.length) hi,show(qbB P a).length+1=P.length by omega];have n1:=qme (show 0<P.length-i by omega);have n2:=qme (show 0<P.length+1 by omega);generalize wq i P.length=x;generalize ekP (qbB P a) i=y;generalize ekP (qbB P a) (i-1)=y2;generalize ((P.length-i:Nat):Rat)=u at *;generalize ((P.length+1:Nat):Rat)=v at *;generalize P[a].2.1=z at *;simp only[one0,Bool.false_eq_true,if_false,Rat.zero_mul,ite_self,Rat.add_zero]
 grind
def nxP (P:List AP) (a i:Nat):Rat:=wq (i+1) (P.length+1)*ekP (qbB P a) i
theorem qz3 {P:List AP} {a i:Nat} (ha:a<P.length) (hi:i<P.length):nxP P a i*(((P.length+1:Nat):Rat)/((i+1:Nat):Rat))=wtP (qbB P a) i:=by
 have hl:=qdh ha;unfold wtP nxP;rw[qvA (i:=i) (n:=P.length) hi,show(qbB P a).length+1=P.length by omega];have n1:=qme (show 0<i+1 by omega);have n2:=qme (show 0<P.length+1 by omega);generalize wq i P.length=x;generalize ekP (qbB P a) i=y;generalize ((i+1:Nat):Rat)=u at *;generalize ((P.length+1:Nat):Rat)=v at *
 grind
theorem qx6 {P:List AP} {a i:Nat} (ha:a<P.length) (hi:i<P.length) (hok:P[a].2.2=true) :
  wtP P i-wtP (qbB P a) i*P[a].2.1*(((P.length-i:Nat):Rat)/((P.length+1:Nat):Rat))=if i=0 then 0 else nxP P a (i-1):=by
 have hl:=qdh ha;unfold wtP nxP;rw[qqo ha,hok,qpw (i:=i) (n:=P.length) hi,show(qbB P a).length+1=P.length by omega];cases i with
 | zero =>
  simp only[if_true];generalize wq 0 P.length=x;generalize ekP (qbB P a) 0=y;generalize P[a].2.1=z at *
  grind
 | succ i =>
  rw[if_neg (by omega),if_neg (by omega),Nat.add_sub_cancel,qpw (i:=i+1) (n:=P.length) hi];generalize wq (i+1) P.length=x;generalize ekP (qbB P a) (i+1)=y;generalize ekP (qbB P a) i=y2;generalize P[a].2.1=z at *;simp only[one0,if_true]
  grind
theorem qz2 {P:List AP} {a:Nat} (ha:a<P.length) (hok:P[a].2.2=true):wtP P P.length=nxP P a (P.length-1):=by
 have hl:=qdh ha;unfold wtP nxP;rw[qqo ha,hok,qwX (qbB P a) (by omega),if_neg (by omega),show P.length-1+1=P.length by omega];simp only[one0,if_true]
 grind
theorem qA2 {P:List AP} {k g a:Nat} (h:qf6 P k g) (ha:a<P.length) (hk:k<=70) {i:Nat} (hi:i<P.length):SzQ (nxP P a i) 100000000:=by
 have hl:=qdh ha;have h2:=h.out ha;have hS:=qr2 (k:=k) (n:=(qbB P a).length) hk h2.len;have:=h.len;exact((qAO (s:=i+1) (n:=P.length+1) (by omega) (by omega)).mul (qzo h2.sz i)).mono (by omega)
def bkL (n i:Nat) (w:Nat->Rat):List RAT:=(List.range n).map fun j=>if i<=j then canQ (w j) else zR
theorem qka (n i:Nat) (w:Nat->Rat):(bkL n i w).length=n:=by simp [bkL]
theorem qoq {n i j:Nat} (w:Nat->Rat) (h:j<n):(bkL n i w)[j]?=some (if i<=j then canQ (w j) else zR):=by simp [bkL,h]
theorem qAx {n i:Nat} (w:Nat->Rat):(bkL n (i+1) w).set i (canQ (w i))=bkL n i w:=by
 refine List.ext_getElem? fun j=>?_
 rw[List.getElem?_set];by_cases e:i=j
 · subst e;by_cases hi:i<n
   · rw[if_pos rfl,if_pos (by rw[qka];exact hi),qoq w hi,if_pos (Nat.le_refl _)]
   · rw[if_pos rfl,if_neg (by rw[qka];exact hi),List.getElem?_eq_none (by rw[qka];omega)]
 · rw [if_neg e];by_cases hj:j<n
   · rw [qoq w hj, qoq w hj];by_cases h:i<=j
     · rw[if_pos (by omega),if_pos h]
     · rw[if_neg (by omega),if_neg h]
   · rw[List.getElem?_eq_none (by rw[qka];omega),List.getElem?_eq_none (by rw[qka];omega)]
theorem qyK (n:Nat) (w:Nat->Rat):bkL n n w=List.replicate n zR:=by
 rw[List.eq_replicate_iff];refine⟨qka _ _ _,fun x hx=>?_⟩;obtain⟨j,hj,rfl⟩:=List.mem_map.1 hx;have:=List.mem_range.1 hj;exact if_neg (by omega)
theorem qAy (n:Nat) (w:Nat->Rat):bkL n 0 w=flo n w:=List.map_congr_left fun j _=>if_pos (Nat.zero_le _)
theorem qo2 {P:List AP} {k g:Nat} (h:qf6 P k g) (hk:k<=70) {a:Nat} (ha:a<P.length) :
  qbG ((a+1:Nat):Int) (encK P (wtP P))=some (flo P.length (wtP (qbB P a)),encK P (wtP P)):=by
 have hl:=qdh ha;have hl2:=h.len;have el:=qcX P (wtP P);obtain⟨n,en⟩:∃ n,n=P.length:=⟨_,rfl⟩;have hS:=qr2 (k:=k) (n:=P.length) hk (by omega);have wsz:∀ i,i<=P.length->SzQ (wtP P i) 100000000:=fun i hi=>(qts h.sz hl2 hi).mono (by omega)
 have hQ:=h.out ha;have hS2:=qr2 (k:=k) (n:=(qbB P a).length) hk hQ.len;have qsz:∀ i,i<P.length->SzQ (wtP (qbB P a) i) 100000000:=fun i hi=>(qts hQ.sz hQ.len (by omega)).mono (by omega)
 have hz:SzQ P[a].2.1 k:=h.sz _ (gM0 ha);have hpos:=h.pos _ (gM0 ha);have hz0:P[a].2.1≠0:=by intro e;rw[e] at hpos;exact absurd hpos (by decide)
 obtain⟨L,eL⟩:∃ L,L=lkF P (wtP P) (a+1):=⟨_,rfl⟩;have eL':=eL;rw[qlK ha] at eL';have L1:L.2.1=canQ P[a].2.1:=by rw[eL']
 have L2:L.2.2.1=P[a].2.2:=by rw[eL']
 obtain⟨nx,hnx⟩:∃ nx:Nat->Rat,nx=fun m=>if P[a].2.2 then (if m<n then nxP P a (n-1-m) else 0) else wtP P n:=⟨_,rfl⟩
 obtain⟨ov,hov⟩:∃ ov:Rat,ov=P[a].2.1⁻¹:=⟨_,rfl⟩;have pn1:iadd .i64 ((n:Nat):Int) 1=((n+1:Nat):Int):=qbp (by omega);have key:=qf3 (step:=qap) (fun m=>(((n:Int),bkL n (n-m) (wtP (qbB P a)),((n:Nat):Int)-1-(m:Int),()),((L.1,L.2.1.1.1,L.2.1.1.2,L.2.1.2,L.2.2.1,L.2.2.2.1.1,L.2.2.2.1.2,L.2.2.2.2,()),((canQ ov).1.1,(canQ ov).1.2,(canQ ov).2,()),((canQ (nx m)).1.1,(canQ (nx m)).1.2,(canQ (nx m)).2,()),(encK P (wtP P),()),()))) n
  (r:=((bkL n 0 (wtP (qbB P a)),()),((encK P (wtP P),()),()))) (by omega) (by
  intro g m hm;obtain⟨i,hi⟩:∃ i,n=i+m+1:=⟨n-m-1,by omega⟩;have ei:((n:Nat):Int)-1-(m:Int)=(i:Int):=by omega
  have ei2:((n:Nat):Int)-1-((m+1:Nat):Int)=(i:Int)-1:=by omega
  have en1:n-m=i+1:=by omega
  have en2:n-(m+1)=i:=by omega
  have d0:((i:Nat):Int)>=0:=by omega
  have d1:(0:Int)<=(i:Int):=by omega
  have d2:(i:Int)<((encK P (wtP P)).length:Int):=by rw[el];omega
  have d3:(i:Int)<((bkL n (i+1) (wtP (qbB P a))).length:Int):=by rw[qka];omega
  have g1:=qcP (P:=P) (w:=wtP P) (i:=i) (by omega);have g2:=qoq (n:=n) (i:=i+1) (j:=i) (wtP (qbB P a)) (by omega);have q2:isub .i64 (n:Int) (i:Int)=((n-i:Nat):Int):=by rw[qdB (by omega) (by omega)];omega
  have q3:isub .i64 (i:Int) 1=(i:Int)-1:=by rw[qdB (by omega) (by omega)]
  have q1:iadd .i64 (i:Int) 1=((i+1:Nat):Int):=qbp (by omega);have hset:=qAx (n:=n) (i:=i) (wtP (qbB P a));show qap g (((n:Int),bkL n (n-m) (wtP (qbB P a)),((n:Nat):Int)-1-(m:Int),()),((L.1,L.2.1.1.1,L.2.1.1.2,L.2.1.2,L.2.2.1,L.2.2.2.1.1,L.2.2.2.1.2,L.2.2.2.2,()),((canQ ov).1.1,(canQ ov).1.2,(canQ ov).2,()),((canQ (nx m)).1.1,(canQ (nx m)).1.2,(canQ (nx m)).2,()),(encK P (wtP P),()),()))=g (((n:Int),bkL n (n-(m+1)) (wtP (qbB P a)),((n:Nat):Int)-1-((m+1:Nat):Int),()),((L.1,L.2.1.1.1,L.2.1.1.2,L.2.1.2,L.2.2.1,L.2.2.2.1.1,L.2.2.2.1.2,L.2.2.2.2,()),((canQ ov).1.1,(canQ ov).1.2,(canQ ov).2,()),((canQ (nx (m+1))).1.1,(canQ (nx (m+1))).1.2,(canQ (nx (m+1))).2,()),(encK P (wtP P),()),()));rw[ei,ei2,en1,en2,qap,cnd d0,L2];cases hok:P[a].2.2 with
  | false =>
   have f1:=qoe (a:=n+1) (b:=n-i) (by omega) (by omega);have s1:=qml (a:=n+1) (b:=n-i) (by omega) (by omega);have hw:=wsz i (by omega);have m1:=qa0 (hw.sm (by decide)) (s1.sm (by decide));rw[qas,qas] at m1;have z1:SzQ (wtP P i*(((n+1:Nat):Rat)/((n-i:Nat):Rat))) 200000000:=(hw.mul s1).mono (by omega);have hi2:SzQ ov k:=by rw[hov];exact hz.inv
   have m2:=qa0 (z1.sm (by decide)) (hi2.sm (by omega));rw[qas,qas] at m2;have m2:qay (canQ (wtP P i*(((n+1:Nat):Rat)/((n-i:Nat):Rat)))) (((canQ ov).1.1,(canQ ov).1.2),(canQ ov).2)=_:=m2;have e1:=qAN ha (i:=i) (by omega) hz0 hok;rw[<- en,<- hov] at e1;have e2:nx (m+1)=nx m:=by rw[hnx];simp only[hok,Bool.false_eq_true,if_false]
   rw[Bool.not_false,cond_true,cnd2 d1 d2,tN0,g1,bS0,pn1,q2,f1,bS0,qwy,m1,bS0,m2,bS0,cnd2 d1 d3,g2,bS0,e1,hset,q3,e2]
  | true =>
   have f1:=qoe (a:=n+1) (b:=i+1) (by omega) (by omega);have s1:=qml (a:=n+1) (b:=i+1) (by omega) (by omega);have enx:nx m=nxP P a i:=by rw[hnx];simp only[hok,if_true];rw[if_pos hm,show n-1-m=i by omega]
   have nsz:=qA2 h ha hk (i:=i) (by omega);have m1:=qa0 (nsz.sm (by decide)) (s1.sm (by decide));rw[qas,qas] at m1;have e1:=qz3 ha (i:=i) (by omega);rw[<- en] at e1;rw[e1] at m1;have m1:qay (((canQ (nxP P a i)).1.1,(canQ (nxP P a i)).1.2),(canQ (nxP P a i)).2) (canQ (((n+1:Nat):Rat)/((i+1:Nat):Rat)))=some (canQ (wtP (qbB P a) i)):=m1;have d4:(i:Int)<((bkL n i (wtP (qbB P a))).length:Int):=by rw[qka];omega
   have g3:=qoq (n:=n) (i:=i) (j:=i) (wtP (qbB P a)) (by omega);rw[if_pos (Nat.le_refl _)] at g3;have hq:=qsz i (by omega);have m2:=qa0 (hq.sm (by decide)) (hz.sm (by omega));rw[qas,qas] at m2;have m2:qay (canQ (wtP (qbB P a) i)) ((L.2.1.1.1,L.2.1.1.2),L.2.1.2)=some (canQ (wtP (qbB P a) i*P[a].2.1)):=by
    show qay _ L.2.1=_;rw[L1];exact m2
   have f2:=qoe (a:=n-i) (b:=n+1) (by omega) (by omega);have s2:=qml (a:=n-i) (b:=n+1) (by omega) (by omega);have z2:SzQ (wtP (qbB P a) i*P[a].2.1) 200000000:=(hq.mul hz).mono (by omega);have m3:=qa0 (z2.sm (by decide)) (s2.sm (by decide));rw[qas,qas] at m3;have z3:SzQ (wtP (qbB P a) i*P[a].2.1*(((n-i:Nat):Rat)/((n+1:Nat):Rat))) 300000000:=(z2.mul s2).mono (by omega);have hw:=wsz i (by omega);have m4:=qq6 (hw.sm (by decide)) (z3.sm (by decide));rw[qas,qas] at m4;have e2:=qx6 ha (i:=i) (by omega) hok;rw[<- en] at e2;rw[e2] at m4;have e3:nx (m+1)=if i=0 then 0 else nxP P a (i-1):=by
    rw[hnx];simp only[hok,if_true];by_cases h0:i=0
    · rw[if_neg (by omega),if_pos h0]
    · rw[if_pos (by omega),if_neg h0,show n-1-(m+1)=i-1 by omega]
   rw[Bool.not_true,cond_false,pn1,q1,f1,bS0,enx,m1,bS0,cnd2 d1 d3,tN0,g2,bS0,cnd2 d1 d2,g1,bS0,hset,cnd2 d1 d4,g3,bS0,m2,bS0,q2,f2,bS0,m3,bS0,qwy,m4,bS0,q3,e3]) (by
  intro g;rw[Nat.sub_self,qap,cnd' (by omega)])
 have i1:isub .i64 ((P.length+1:Nat):Int) 1=(n:Int):=by rw[qdB (by omega) (by omega)];omega
 have i2:isub .i64 (n:Int) 1=((n:Nat):Int)-1-((0:Nat):Int):=by rw[qdB (by omega) (by omega)];omega
 have c0:(0:Int)<=((a+1:Nat):Int):=by omega
 have c1:((a+1:Nat):Int)<((P.length+1:Nat):Int):=by omega
 have hinv:=qmJ (hz.sm (by omega));rw[qas,if_neg hz0,<- hov] at hinv;have c2:(decide ((n:Int)=(n:Int))&&decide ((0:Int)<=(n:Int))&&decide ((((56:Nat):Int)*(n:Int))<=281474976710656)&&decide ((n:Int)<=9223372036854775807))=true:=by
  simp only[Bool.and_eq_true,decide_eq_true_eq];refine⟨⟨⟨trivial,by omega⟩,?_⟩,by omega⟩;show(56:Int)*(n:Int)<=281474976710656;omega
 have ev:nx 0=wtP P n:=by
  rw[hnx];cases hok:P[a].2.2 with
  | false=>simp
  | true=>simp only[if_true];rw[if_pos (by omega),en,qz2 ha hok,Nat.sub_zero]
 have gn:=qcP (P:=P) (w:=wtP P) (i:=n) (by omega);rw[qbG,el,cnd2 c0 c1,tN0,qcP (by omega),bS0,i1,c2,cond_true,<- eL,L1,hinv,bS0,cnd2 (by omega) (by omega),tN0,gn,bS0,i2];dsimp only;rw[qwy,<- ev];have key:lp qap K0 (((n:Int),List.replicate n (((false,[]),[]):RAT),((n:Nat):Int)-1-((0:Nat):Int),()),((L.1,(canQ P[a].2.1).1.1,(canQ P[a].2.1).1.2,(canQ P[a].2.1).2,L.2.2.1,L.2.2.2.1.1,L.2.2.2.1.2,L.2.2.2.2,()),((canQ ov).1.1,(canQ ov).1.2,(canQ ov).2,()),((canQ (nx 0)).1.1,(canQ (nx 0)).1.2,(canQ (nx 0)).2,()),(encK P (wtP P),()),()))=some ((bkL n 0 (wtP (qbB P a)),()),((encK P (wtP P),()),())):=by
  have k2:=key;rw[Nat.sub_zero,qyK,L1] at k2;exact k2
 rw[key,qAy,en];rfl
theorem qwO {n k:Nat} {w:Nat->Rat} (hw:∀ i,i<n->SzQ (w i) k) (hk:1+n*(k+1)<1099511627776) (hn:n<1000000):qhS (flo n w)=some (canQ (rsum w n)):=by
 have hv:∀ i,i<n->vals (flo n w) i=w i:=fun i hi=>by
  rw[vals,qk0 w hi];show rv (canQ (w i))=w i;exact qas _
 have h:=qq3 (l:=flo n w) (k:=k) (fun x hx=>by
  obtain⟨i,hi,rfl⟩:=List.mem_map.1 hx;have hi:=List.mem_range.1 hi;refine(hw i hi).sm ?_;have:1*(k+1)<=n*(k+1):=Nat.mul_le_mul_right _ (by omega);omega) (fun i hi=>by rw[qcJ] at hi;rw[hv i hi];exact hw i hi) (by rw[qcJ];exact hk) (by rw[qcJ];omega)
 rw[h,qcJ];congr 2;exact qcd fun i hi=>hv i hi
def sumP (P:List AP) (a:Nat):Rat:=rsum (wtP (qbB P a)) P.length
theorem qwk {P:List AP} {k g:Nat} (h:qf6 P k g) (hk:k<=70) {a:Nat} (ha:a<P.length):∀ i,i<P.length->SzQ (wtP (qbB P a) i) (30+ekS k (qbB P a).length):=fun i hi=>by
 have:=qdh ha;exact qts (h.out ha).sz (h.out ha).len (by omega)
theorem qyR {P:List AP} {k g:Nat} (h:qf6 P k g) (hk:k<=70) {a:Nat} (ha:a<P.length) :
  qdg ((a+1:Nat):Int) (encK P (wtP P))=some (canQ (sumP P a),0,encK P (wtP P)):=by
 have el:=qcX P (wtP P);have hl2:=h.len;have hS2:=qr2 (k:=k) (n:=(qbB P a).length) hk (h.out ha).len;have hs:=qwO (n:=P.length) (w:=wtP (qbB P a)) (k:=100000000) (fun i hi=>(qwk h hk ha i hi).mono (by omega)) (by omega) (by omega);rw[qdg,el,cnd' (by omega),cnd' (by omega),cnd' (by omega),qo2 h hk ha,bS0];dsimp only;rw[hs];rfl
theorem qyx {P:List AP} {w:Nat->Rat} {a:Nat} (ha:a<P.length):(encK P w).take (a+1)++(encK P w).drop (a+2)=encK (qbB P a) fun j=>if j<=a then w j else w (j+1):=by
 have el:=qcX P w;have hl:=qdh ha;have ho:∀ j,(qbB P a)[j]?=if j<a then P[j]? else P[j+1]?:=fun j=>by
   unfold qbB;by_cases hj:j<a
   · rw[if_pos hj,List.getElem?_append_left (by rw[List.length_take];omega),List.getElem?_take,if_pos hj]
   · rw [if_neg hj, List.getElem?_append_right (by rw [List.length_take]; omega), List.length_take, Nat.min_eq_left (by omega), List.getElem?_drop];congr 1;omega
 refine List.ext_getElem? fun j=>?_
 by_cases hj:j<a+1
 · rw [List.getElem?_append_left (by rw [List.length_take]; omega), List.getElem?_take, if_pos hj, qcP (by omega), qcP (by omega)];unfold lkF;split
   · rename_i e;subst e;simp
   · have e1 : (qbB P a)[j - 1]? = P[j - 1]? := by rw [ho, if_pos (by omega)]
     have e2:(if j<=a then w j else w (j+1))=w j:=if_pos (by omega);simp only[e1,e2]
 · rw [List.getElem?_append_right (by rw [List.length_take]; omega), List.length_take, Nat.min_eq_left (by omega), List.getElem?_drop, show a + 2 + (j - (a + 1)) = j + 1 by omega];by_cases hj2:j+1<P.length+1
   · rw [qcP hj2, qcP (by omega)];unfold lkF;have e1:(qbB P a)[j-1]?=P[j]?:=by rw[ho,if_neg (by omega)];congr 1;omega
     have e2:(if j<=a then w j else w (j+1))=w (j+1):=if_neg (by omega);rw[if_neg (by omega),if_neg (by omega)];simp only[e1,e2,Nat.add_sub_cancel]
   · rw[List.getElem?_eq_none (by omega),List.getElem?_eq_none (by rw[qcX];omega)]
theorem qxp {P:List AP} {k g:Nat} (h:qf6 P k g) (hk:k<=70) {a:Nat} (ha:a<P.length) :
  qb5 ((a+1:Nat):Int) (encK P (wtP P))=some (0,encK (qbB P a) (wtP (qbB P a))):=by
 have el:=qcX P (wtP P);have hl2:=h.len;have hl:=qdh ha;obtain⟨Q,eQ⟩:∃ Q,Q=qbB P a:=⟨_,rfl⟩;have eo:=qyx (w:=wtP P) ha;rw[<- eQ] at eo hl;obtain⟨w0,hw0⟩:∃ w0:Nat->Rat,w0=fun j=>if j<=a then wtP P j else wtP P (j+1):=⟨_,rfl⟩
 rw[<- hw0] at eo;obtain⟨F,eF⟩:∃ F,F=flo P.length (wtP Q):=⟨_,rfl⟩;have lF:F.length=P.length:=by rw[eF,qcJ]
 have lQ:∀ w,(encK Q w).length=P.length:=fun w=>by rw[qcX];exact hl
 have key:=qf3 (step:=qaz) (fun i=>((F,encK Q (fun j=>if j<i then wtP Q j else w0 j),((P.length:Nat):Int),(i:Int),()),((encK P (wtP P),()),()))) P.length
  (r:=((encK Q (fun j=>if j<P.length then wtP Q j else w0 j),()),((encK P (wtP P),()),()))) (by omega) (by
  intro gg i hi;have d0:(i:Int)<((P.length:Nat):Int):=by omega
  have d1:(0:Int)<=(i:Int):=by omega
  have d2:(i:Int)<(F.length:Int):=by rw[lF];exact d0
  have d3:(i:Int)<((encK Q (fun j=>if j<i then wtP Q j else w0 j)).length:Int):=by rw[lQ];exact d0
  have g1:F[i]?=some (canQ (wtP Q i)):=by rw[eF];exact qk0 _ hi
  have g2:=qcP (P:=Q) (w:=fun j=>if j<i then wtP Q j else w0 j) (i:=i) (by omega);have u:=qnh (P:=Q) (w:=fun j=>if j<i then wtP Q j else w0 j) (i:=i) (wtP Q i);have e:encK Q (fun j=>if j=i then wtP Q i else if j<i then wtP Q j else w0 j)=encK Q (fun j=>if j<i+1 then wtP Q j else w0 j):=by
   refine qf4 fun j _=>?_
   by_cases e1:j=i
   · rw[if_pos e1,if_pos (by omega),e1]
   · rw [if_neg e1];by_cases e2:j<i
     · rw[if_pos e2,if_pos (by omega)]
     · rw[if_neg e2,if_neg (by omega)]
  rw[qaz,cnd d0,cnd2 d1 d2,tN0,g1,bS0,cnd2 d1 d3,g2,bS0,u,e,qbp (by omega)];rfl) (by
  intro gg;rw[qaz,cnd' (by omega)])
 have e0:encK Q (fun j=>if j<0 then wtP Q j else w0 j)=encK Q w0:=qf4 fun j _=>if_neg (by omega)
 have e1:encK Q (fun j=>if j<P.length then wtP Q j else w0 j)=encK Q (wtP Q):=qf4 fun j hj=>if_pos (by omega)
 rw[e0,e1] at key;have key:lp qaz K0 ((F,encK Q w0,((P.length:Nat):Int),0,()),((encK P (wtP P),()),()))=some ((encK Q (wtP Q),()),((encK P (wtP P),()),())):=key;have i1:iadd .i64 ((a+1:Nat):Int) 1=((a+2:Nat):Int):=qbp (by omega);have hw:=qo2 h hk ha;rw[<- eQ,<- eF] at hw;have t1:(((a+1:Nat):Int)-0).toNat=a+1:=by omega
 have t2:(((a+2:Nat):Int)).toNat=a+2:=by omega
 have c1:(decide ((0:Int)<=((a+1:Nat):Int))&&decide ((((a+1:Nat):Int):Int)<=((a+1:Nat):Int))&&decide ((((a+1:Nat):Int):Int)<=((P.length+1:Nat):Int)))=true:=by
  simp only[Bool.and_eq_true,decide_eq_true_eq];omega
 rw[qb5,el,cnd' (by omega),cnd' (by omega),cnd' (by omega),hw,bS0];dsimp only;rw[el,c1,cond_true,t1,blt (by rw[List.length_take,el];simp;omega),cond_true,i1,cnd2 (by omega) (by omega),t2,List.nil_append,blt (by rw[List.length_take,List.length_drop,el];omega),cond_true,eo,lQ,key,eQ];rfl
theorem qxl {f:Nat} {q:Rat} {ok:Bool} {w:List AP} (h:∀ p∈w,p.1≠f):(qih f q ok w).Perm ((f,q,ok)::w):=by
 induction w with
 | nil=>exact List.Perm.refl _
 | cons p w ih =>
  have h1:p.1≠f:=h p List.mem_cons_self;have ih:=ih fun x hx=>h x (List.mem_cons_of_mem _ hx)
  simp only[qih];split
  · exact(List.Perm.cons _ ih).trans (List.Perm.swap _ _ _)
  · first | exact List.Perm.refl _ | (rw[if_neg h1])
theorem qxk {f:Nat} {q s:Rat} {ok o:Bool} {w:List AP} (hs:qoZ w) (hm:(f,s,o)∈w):∃ r:List AP,w.Perm ((f,s,o)::r)/\(qih f q ok w).Perm ((f,s*q,o&&ok)::r):=by
 induction w with
 | nil=>cases hm
 | cons p w ih =>
  have hs2:=List.pairwise_cons.1 hs;rcases List.mem_cons.1 hm with e | hm
  · subst e;refine⟨w,List.Perm.refl _,?_⟩;simp only[qih];simp
  · obtain ⟨r, h1, h2⟩ := ih hs2.2 hm;have hlt:p.1<f:=hs2.1 _ hm;refine⟨p::r,(List.Perm.cons _ h1).trans (List.Perm.swap _ _ _),?_⟩;simp only[qih];rw[if_pos hlt];exact(List.Perm.cons _ h2).trans (List.Perm.swap _ _ _)
theorem qwP {P:List AP} {f:Nat}:(∀ p∈P,p.1≠f)\/∃ a,∃ ha:a<P.length,P[a].1=f/\∀ j (hj:j<P.length),j<a->P[j].1≠f:=by
 induction P with
 | nil=>exact .inl (by simp)
 | cons p P ih =>
  by_cases e:p.1=f
  · exact .inr ⟨0,by simp,e,fun j _ hj=>by omega⟩
  · rcases ih with h | ⟨a, ha, h1, h2⟩
    · exact .inl fun x hx=>by rcases List.mem_cons.1 hx with rfl | hx;exact e;exact h x hx
    · refine .inr ⟨a + 1, by simpa using ha, by simpa using h1, fun j hj hja => ?_⟩;cases j with
      | zero=>exact e
      | succ j=>simpa using h2 j (by simpa using hj) (by omega)
theorem qf6.mono {P:List AP} {k k' g:Nat} (h:qf6 P k g) (hk:k<=k'):qf6 P k' g:=⟨h.nd,fun p hp=>(h.sz p hp).mono hk,h.len,h.lt,h.pos⟩
theorem qf6.snoc {P:List AP} {k g:Nat} (h:qf6 P k g) {f:Nat} {q:Rat} {ok:Bool} (hf:∀ p∈P,p.1≠f) (hq:SzQ q k) (hq0:0<q) (hl:P.length<20) (hfg:f<g):qf6 (P++[(f,q,ok)]) k g:=by
 have hp:(P++[((f,q,ok):AP)]).Perm ((f,q,ok)::P):=List.perm_append_comm.trans (List.Perm.refl _);have hmem:∀ p∈P++[((f,q,ok):AP)],p=(f,q,ok)\/p∈P:=fun p hp=>by
   rcases List.mem_append.1 hp with h | h
   · exact .inr h
   · exact .inl (List.mem_singleton.1 h)
 refine⟨?_,fun p hp=>?_,by rw[List.length_append];simp;omega,fun p hp=>?_,fun p hp=>?_⟩
 · rw [(hp.map (·.1)).nodup_iff];refine List.nodup_cons.2 ⟨fun hm=>?_,h.nd⟩;obtain⟨p,hp,e⟩:=List.mem_map.1 hm;exact hf p hp e
 · rcases hmem p hp with rfl | h'
   · exact hq
   · exact h.sz p h'
 · rcases hmem p hp with rfl | h'
   · exact hfg
   · exact h.lt p h'
 · rcases hmem p hp with rfl | h'
   · exact hq0
   · exact h.pos p h'
theorem qAj {P w:List AP} {m g:Nat} (h:qf6 P (8*m+1) g) (hw:P.Perm w) (hs:qoZ w) {f:Nat} {q:Rat} {ok:Bool} (hf:f<g) (hg:g<1000000) (hq:SzQ q 8) (hq0:0<q) (hl:P.length<=m) (hm:m<8)
   (at0:Int) (b1:Bool) (b2 b3:List Int) :
   ∃ P',P'.Perm (qih f q ok w)/\qf6 P' (8*(m+1)+1) g/\P'.length<=m+1 /\
     qaU at0 b1 b2 b3 (f:Int) (canQ q).1.1 (canQ q).1.2 (canQ q).2 ok (encK P (wtP P))=some (at0,b1,b2,b3,(f:Int),(canQ q).1.1,(canQ q).1.2,(canQ q).2,ok,encK P' (wtP P')):=by
 have c0:¬ (f:Int)<0:=by omega
 rcases qwP (P:=P) (f:=f) with hn | ⟨a,ha,he,hn⟩
 · have h1 := h.mono (show 8 * m + 1 <= 8 * (m + 1) + 1 by omega);have hq1:=hq.mono (show 8<=8*(m+1)+1 by omega);refine⟨P++[(f,q,ok)],?_,h1.snoc hn hq1 hq0 (by omega) hf,by rw[List.length_append];simp;omega,?_⟩
   · have hn2 : ∀ p ∈ w, p.1 ≠ f := fun p hp => hn p (hw.symm.mem_iff.1 hp)
     have:(P++[((f,q,ok):AP)]).Perm ((f,q,ok)::P):=List.perm_append_comm.trans (List.Perm.refl _);exact(this.trans (List.Perm.cons _ hw)).trans (qxl hn2).symm
   · have he := qsq h1 (f := f) (q := q) (ok := ok) hn hq1 hq0 (by omega) (by omega) (by omega);rw[qaU,cnd' c0,qup hn (by omega),bS0];dsimp only;rw[cnd' (by omega)];show(qaO (f:Int) (canQ q) ok (encK P (wtP P))).bind _=_;rw[he];rfl
 · have ho := (h.out ha).mono (show 8 * m + 1 <= 8 * (m + 1) + 1 by omega);have hno:=h.notin ha;rw[he] at hno;have hz:SzQ P[a].2.1 (8*m+1):=h.sz _ (gM0 ha);have hz0:0<P[a].2.1:=h.pos _ (gM0 ha);have hq1:SzQ (q*P[a].2.1) (8*(m+1)+1):=(hq.mul hz).mono (by omega);have hqz:0<q*P[a].2.1:=Rat.mul_pos hq0 hz0;have hol:=qdh ha;have hm1:=qa0 (hq.sm (by omega)) (hz.sm (by omega));rw[qas,qas] at hm1;have hm1:qay (((canQ q).1.1,(canQ q).1.2),(canQ q).2) (canQ P[a].2.1)=some (canQ (q*P[a].2.1)):=hm1;refine⟨qbB P a++[(f,q*P[a].2.1,P[a].2.2&&ok)],?_,ho.snoc hno hq1 hqz (by omega) hf,by rw[List.length_append];simp;omega,?_⟩
   · have hmem : (f, P[a].2.1, P[a].2.2) ∈ w := by
      have:(P[a]:AP)=(f,P[a].2.1,P[a].2.2):=by rw[<- he]
      rw[<- this];exact hw.mem_iff.1 (gM0 ha)
     obtain⟨r,r1,r2⟩:=qxk (q:=q) (ok:=ok) hs hmem;have e1:(P[a]:AP)=(f,P[a].2.1,P[a].2.2):=by rw[<- he]
     have p1:((f,P[a].2.1,P[a].2.2)::qbB P a).Perm ((f,P[a].2.1,P[a].2.2)::r):=by
      have:=qh4 ha;rw[e1] at this;exact(this.symm.trans hw).trans r1
     have p2:=List.Perm.cons_inv p1;have p3:(qbB P a++[((f,q*P[a].2.1,P[a].2.2&&ok):AP)]).Perm ((f,q*P[a].2.1,P[a].2.2&&ok)::qbB P a):=List.perm_append_comm.trans (List.Perm.refl _);refine(p3.trans ?_).trans r2.symm;rw[Rat.mul_comm];exact List.Perm.cons _ p2
   · have hE := qsq ho (f := f) (q := q * P[a].2.1) (ok := P[a].2.2 && ok) hno hq1 hqz (by omega) (by omega) (by omega);have hU:=qxp h (by omega) ha;have c1:((a+1:Nat):Int)>0:=by omega
     have i1:isub .i64 ((a+1:Nat):Int) 1=(a:Int):=by rw[qdB (by omega) (by omega)];omega
     have d1:(0:Int)<=(a:Int):=by omega
     have d2:(a:Int)<((encW P).length:Int):=by rw[qng];omega
     have g1:(encW P)[a]?=some (encP P[a]):=by simp [encW,ha]
     rw[qaU,cnd' c0,qAH ha he hn (by omega),bS0];dsimp only;rw[cnd c1,qpu (by omega),bS0,i1];dsimp only;rw[cnd2 d1 d2,tN0,g1,bS0];show(qay (((canQ q).1.1,(canQ q).1.2),(canQ q).2) (canQ P[a].2.1)).bind _=_;rw[hm1,bS0];cases ok with
     | true =>
      rw[Bool.and_true] at hE ⊢;rw[cond_true,hU,bS0];dsimp only;show(qaO (f:Int) (canQ (q*P[a].2.1)) P[a].2.2 _).bind _=_;rw[hE];rfl
     | false =>
      rw[Bool.and_false] at hE ⊢;rw[cond_false,hU,bS0];dsimp only;rw[hE];rfl
def lfT (P:List AP) (v:Rat) (f i:Nat):Rat:=match P[i]? with
 | some p=>if p.1=f then sumP P i*(one0 p.2.2-p.2.1)*v else 0
 | none=>0
def qvc (P:List AP) (v:Rat) (f:Nat):Rat:=rsum (lfT P v f) P.length
theorem qob {P:List AP} {v:Rat} {f i:Nat} (h:i<P.length):lfT P v f i=if P[i].1=f then sumP P i*(one0 P[i].2.2-P[i].2.1)*v else 0:=by
 simp only[lfT,gE0 h]
def apF (p:AP):FP:=(p.1,fcP p)
theorem qnN (P:List AP) (S:Nat):qes S P=qkS (P.map apF) S:=by
 unfold qes qkS;rw[List.map_map];congr 1
theorem qzL {P:List AP} {a:Nat} (h:a<P.length):sumP P a=EE ((qbB P a).map fcP) fun k=>wq k ((qbB P a).length+1):=by
 have hl:=qdh h;rw[qAI,List.length_map,hl];unfold sumP;refine qcd fun i _=>?_
 unfold wtP ekP;rw[Rat.mul_comm,hl]
theorem qnO {P Q:List AP} (h:P.Perm Q) (S:Nat):qes S P=qes S Q:=qpe (h.map _)
theorem qvb {P:List AP} {k n f:Nat} (h:qf6 P k n) (hf:f<n) (v:Rat):qvc P v f=qeW (fun S=>qes S P*v) n f:=by
 rw[qv5];rcases qwP (P:=P) (f:=f) with hn | ⟨a,ha,he,_⟩
 · have e1 : qeW (fun S => qes S P) n f = 0 := by
    have:(fun S=>qes S P)=qkS (P.map apF):=funext fun S=>qnN P S
    rw[this];refine qv4 fun hm=>?_
    rw[List.map_map] at hm;obtain⟨p,hp,e⟩:=List.mem_map.1 hm;exact hn p hp e
   rw[e1,Rat.zero_mul];refine ql3 fun i hi=>?_
   rw[qob hi,if_neg (hn _ (gM0 hi))]
 · have hno := h.notin ha;rw[he] at hno;have ho:=h.out ha;have e1:qeW (fun S=>qes S P) n f=(one0 P[a].2.2-P[a].2.1)*sumP P a:=by
    have e2:(fun S=>qes S P)=fun S=>pick (fcP P[a]) (S.testBit f)*qkS ((qbB P a).map apF) S:=funext fun S=>by
      rw[qnO (qh4 ha) S];show facP S P[a]*qes S (qbB P a)=_;rw[qnN,<- he];rfl
    rw[e2,qv3 hf (by rw[List.map_map];exact ho.nd) (fun p hp=>by
      obtain⟨x,hx,rfl⟩:=List.mem_map.1 hp;exact ho.lt x hx) (fun hm=>by
      rw[List.map_map] at hm;obtain⟨p,hp,e⟩:=List.mem_map.1 hm;exact hno p hp e),qzL ha]
    rw[List.map_map,List.length_map];rfl
   rw[e1];have hone:∀ i,i<P.length->i≠a->lfT P v f i=0:=fun i hi hne=>by
    rw[qob hi];refine if_neg fun e=>hne ?_
    have hnd:=h.nd;have hpw:=List.pairwise_iff_getElem.1 (show(P.map (·.1)).Pairwise (·≠·) from hnd);rcases Nat.lt_trichotomy i a with hlt | heq | hlt
    · have h5 := hpw i a (by simpa using hi) (by simpa using ha) hlt;simp [e,he] at h5
    · exact heq
    · have h5 := hpw a i (by simpa using ha) (by simpa using hi) hlt;simp [e,he] at h5
   have key:∀ n,n<=P.length->rsum (lfT P v f) n=if a<n then lfT P v f a else 0:=by
    intro n
    induction n with
    | zero=>intro _;rw[if_neg (by omega)];rfl
    | succ n ih =>
      intro hn;rw[rsum,ih (by omega)];by_cases e:n=a
      · subst e;rw[if_neg (by omega),if_pos (by omega),Rat.zero_add]
      · rw [hone n (by omega) e, Rat.add_zero];by_cases h1:a<n
        · rw[if_pos h1,if_pos (by omega)]
        · rw[if_neg h1,if_neg (by omega)]
   unfold qvc;rw[key _ (Nat.le_refl _),if_pos ha,qob ha,if_pos he]
   grind
theorem ekS8 {k n:Nat} (hk:k<=70) (hn:n<=8):ekS k n<=20000:=by
 have h1:=qua k hn;have h2:ekS k 8<=ekS 70 8:=by
  have:∀ n,ekS k n<=ekS 70 n:=by
   intro n
   induction n with
   | zero=>exact Nat.le_refl _
   | succ n ih=>simp only[ekS];omega
  exact this 8
 have h3:ekS 70 8<=20000:=by decide +kernel
 omega
theorem qll {f:Nat->Rat} {k:Nat}:∀ n,(∀ i,i<n->SzQ (f i) k)->SzQ (rsum f n) (1+n*(k+1)):=by
 intro n
 induction n with
 | zero=>intro _;exact SzQ.zero.mono (by omega)
 | succ n ih =>
  intro h;have h1:=ih fun i hi=>h i (by omega)
  have e:(n+1)*(k+1)=n*(k+1)+(k+1):=Nat.succ_mul _ _;exact(h1.add (h n (by omega))).mono (by omega)
theorem qvZ {P:List AP} {k g a:Nat} (h:qf6 P k g) (hk:k<=70) (hl:P.length<=8) (ha:a<P.length):SzQ (sumP P a) 170000:=by
 have hS:=ekS8 (k:=k) (n:=(qbB P a).length) hk (by have:=qdh ha;omega);have:=qll (k:=20030) P.length (fun i hi=>(qwk h hk ha i hi).mono (by omega));refine this.mono ?_;have:P.length*(20030+1)<=8*(20030+1):=Nat.mul_le_mul_right _ hl;omega
theorem qze {P:List AP} {k g:Nat} {v:Rat} (h:qf6 P k g) (hk:k<=70) (hl:P.length<=8) (hv:SzQ v 200) (f:Nat) {i:Nat} (hi:i<P.length):SzQ (lfT P v f i) 180000:=by
 rw[qob hi];split
 · have h1 := qvZ h hk hl hi;have h2:SzQ P[i].2.1 k:=h.sz _ (gM0 hi);have h3:=(qwq P[i].2.2).sub h2;exact((h1.mul h3).mul hv).mono (by omega)
 · exact SzQ.zero.mono (by omega)
theorem qAg {t:List NODE} {row:List CELL} {fx:Int} {on:Bool} {n k:Nat} {P:List AP} (h:qf6 P k n) (hk:k<=70) (hl:P.length<=8) {i:Nat} (hi:i<t.length) {gn:Rat} (hg:SzQ gn 100) (hs:TSz t 4)
  {o:Nat->Rat} (ho:∀ f,f<n->SzQ (o f) 100000000000) (hn:n<1000000) (a4:Int) (a5:Bool) (a6 a7:List Int) (a8:Bool) :
  qbo (i:Int) (canQ gn).1.1 (canQ gn).1.2 (canQ gn).2 a4 a5 a6 a7 a8 t row fx on (flo n o) (encK P (wtP P)) =
   some (flo n (fun f=>o f+qvc P (gn*rv (nVal (qcj t i))) f),t,row,fx,on,encK P (wtP P)):=by
 obtain⟨v,hv⟩:∃ v,v=gn*rv (nVal (qcj t i)):=⟨_,rfl⟩;have zv:=(hs.at hi).2.1;have m0:=qa0 (a:=canQ gn) (b:=nVal (qcj t i)) (hg.sm (by decide)) (zv.sm (by decide));rw[qas,<- hv] at m0;have vsz:SzQ v 200:=by rw[hv];exact(hg.mul (zv.szQ (by decide))).mono (by decide)
 rw[<- hv];have key:=qf3 (step:=qau) (fun j=>((encW P,(P.length:Int),(j:Int),()),(((i:Int),(canQ gn).1.1,(canQ gn).1.2,(canQ gn).2,a4,a5,a6,a7,a8,()),((canQ v).1.1,(canQ v).1.2,(canQ v).2,()),(t,row,fx,on,flo n (fun f=>o f+rsum (lfT P v f) j),()),(encK P (wtP P),()),()))) P.length
  (r:=((),((t,row,fx,on,flo n (fun f=>o f+rsum (lfT P v f) P.length),()),(encK P (wtP P),()),()))) (by omega) (by
  intro g j hj;have d0:(j:Int)<(P.length:Int):=by omega
  have d1:(0:Int)<=(j:Int):=by omega
  have d2:(j:Int)<((encW P).length:Int):=by rw[qng];exact d0
  have g1:=qyw hj;have q1:iadd .i64 (j:Int) 1=((j+1:Nat):Int):=qbp (by omega);have s1:=qyR h hk hj;have zp:SzQ P[j].2.1 k:=h.sz _ (gM0 hj);have n1:=qmG (zp.sm (by omega));rw[qas] at n1;have hfl:P[j].1<n:=h.lt _ (gM0 hj);obtain⟨F,hF⟩:∃ F,F=P[j].1:=⟨_,rfl⟩;rw[<- hF] at hfl;have zn:SzQ (-P[j].2.1) (k+4):=by
   have:=SzQ.zero.sub zp;rw[Rat.sub_eq_add_neg,Rat.zero_add] at this;exact this.mono (by omega)
  have c1:(0:Int)<=((F:Nat):Int):=by omega
  have c2:((F:Nat):Int)<((flo n (fun f=>o f+rsum (lfT P v f) j)).length:Int):=by rw[qcJ];omega
  have g2:=qk0 (n:=n) (f:=F) (fun f=>o f+rsum (lfT P v f) j) hfl;have zs:=qvZ h hk hl hj;have zr:SzQ (o F+rsum (lfT P v F) j) 100010000000:=by
   have h1:SzQ (rsum (lfT P v F) j) (1+j*(180000+1)):=qll j (fun i hi=>qze h hk hl vsz F (by omega));have:j*(180000+1)<=8*(180000+1):=Nat.mul_le_mul_right _ (by omega);exact((ho F hfl).add h1).mono (by omega)
  have hset:∀ x,x=o F+rsum (lfT P v F) (j+1)->(flo n (fun f=>o f+rsum (lfT P v f) j)).set F (canQ x)=flo n (fun f=>o f+rsum (lfT P v f) (j+1)):=fun x hx=>by
   refine qAn hx.symm fun f hf=>?_
   rw[rsum,qob hj,if_neg (by rw[<- hF];exact fun e=>hf e.symm),Rat.add_zero]
  show qau g ((encW P,(P.length:Int),(j:Int),()),_)=_;rw[qau,cnd d0,cnd2 d1 d2,tN0,g1,bS0,q1,s1,bS0];show(qg2 (canQ P[j].2.1)).bind _=_;rw[n1,bS0];have e1:(encP P[j]).1=(F:Int):=by rw[hF];rfl
  have e2:(encP P[j]).2.2=P[j].2.2:=rfl;rw[e1,e2];cases hok:P[j].2.2 with
  | true =>
   have a1:=qdl (SzQ.one.sm (by decide)) (zn.sm (by omega));rw[qas,qas,<- Rat.sub_eq_add_neg] at a1;have z1:SzQ (1-P[j].2.1) 100:=(SzQ.one.sub zp).mono (by omega);have m1:=qa0 (zs.sm (by decide)) (z1.sm (by decide));rw[qas,qas] at m1;have z2:SzQ (sumP P j*(1-P[j].2.1)) 170100:=(zs.mul z1).mono (by omega);have m2:=qa0 (z2.sm (by decide)) (vsz.sm (by decide));rw[qas,qas] at m2;have m2:qay (canQ (sumP P j*(1-P[j].2.1))) (((canQ v).1.1,(canQ v).1.2),(canQ v).2)=_:=m2;have z3:SzQ (sumP P j*(1-P[j].2.1)*v) 170300:=(z2.mul vsz).mono (by omega);have a2:=qdl (zr.sm (by decide)) (z3.sm (by decide));rw[qas,qas] at a2;have hx:=hset (o F+rsum (lfT P v F) j+sumP P j*(1-P[j].2.1)*v) (by
    rw[rsum,qob hj,if_pos hF.symm,hok];simp only[one0,if_true];grind)
   rw[cond_true,qjp,bS0,a1,bS0,cnd2 c1 c2,tN0,g2,bS0,m1,bS0,m2,bS0,a2,bS0,cnd2 c1 c2,bS0,hx]
  | false =>
   have m1:=qa0 (zs.sm (by decide)) (zn.sm (by omega));rw[qas,qas] at m1;have z2:SzQ (sumP P j*(-P[j].2.1)) 170100:=(zs.mul zn).mono (by omega);have m2:=qa0 (z2.sm (by decide)) (vsz.sm (by decide));rw[qas,qas] at m2;have m2:qay (canQ (sumP P j*(-P[j].2.1))) (((canQ v).1.1,(canQ v).1.2),(canQ v).2)=_:=m2;have z3:SzQ (sumP P j*(-P[j].2.1)*v) 170300:=(z2.mul vsz).mono (by omega);have a2:=qdl (zr.sm (by decide)) (z3.sm (by decide));rw[qas,qas] at a2;have hx:=hset (o F+rsum (lfT P v F) j+sumP P j*(-P[j].2.1)*v) (by
    rw[rsum,qob hj,if_pos hF.symm,hok];simp only[one0,Bool.false_eq_true,if_false];grind)
   rw[cond_false,cnd2 c1 c2,tN0,g2,bS0,m1,bS0,m2,bS0,a2,bS0,cnd2 c1 c2,bS0,hx]) (by
  intro g;rw[qau,cnd' (by omega)])
 have e0:flo n (fun f=>o f+rsum (lfT P v f) 0)=flo n o:=qrV fun f _=>Rat.add_zero _
 rw[e0] at key;have key:lp qau K0 ((encW P,(P.length:Int),0,()),(((i:Int),(canQ gn).1.1,(canQ gn).1.2,(canQ gn).2,a4,a5,a6,a7,a8,()),((canQ v).1.1,(canQ v).1.2,(canQ v).2,()),(t,row,fx,on,flo n o,()),(encK P (wtP P),()),()))=_:=key;have m0:qay (((canQ gn).1.1,(canQ gn).1.2),(canQ gn).2) t[i].2.2.2.2.2.2.1=some (canQ v):=by
  rw[qcf hi] at m0;exact m0
 rw[qbo,cnd (by omega),tN0,gE0 hi,bS0,m0,bS0,qpu (by omega),bS0];dsimp only;rw[qng,key,bS0];dsimp only;rw[qcJ,qcJ,Nat.beq_refl,cond_true,bS0];rfl
def kOn (t:List NODE) (row:List CELL) (fx:Int) (on:Bool) (i:Nat) (side:Bool):Bool:=if qaM (qcj t i)=fx then (if on then goL t row i == side else true) else true
def kG (t:List NODE) (fx:Int) (on:Bool) (i c:Nat) (g:Rat):Rat:=if qaM (qcj t i)=fx then (if on then g else g*(cov t c/cov t i)) else g
def kF (t:List NODE) (fx:Int) (i:Nat):Int:=if qaM (qcj t i)=fx then -1 else qaM (qcj t i)
def kW (t:List NODE) (row:List CELL) (fx:Int) (i c:Nat) (side:Bool) (w:List AP):List AP:=if qaM (qcj t i)=fx then w else qih (qrY t i) (cov t c/cov t i) (goL t row i == side) w
abbrev PL:=Rat×List AP
def qm3 (t:List NODE) (row:List CELL) (fx:Int) (on:Bool):TR->List AP->Rat->List PL
 | .leaf i,w,g=>[(g*rv (nVal (qcj t i)),w)]
 | .split i l r,w,g =>
  (if kOn t row fx on i true then qm3 t row fx on l (kW t row fx i l.top true w) (kG t fx on i l.top g) else []) ++
  (if kOn t row fx on i false then qm3 t row fx on r (kW t row fx i r.top false w) (kG t fx on i r.top g) else [])
def visF (t:List NODE) (row:List CELL) (fx:Int) (on:Bool):TR->Nat
 | .leaf i=>1
 | .split i l r=>1+(if kOn t row fx on i true then visF t row fx on l else 0)+(if kOn t row fx on i false then visF t row fx on r else 0)
theorem qtx (t:List NODE) (row:List CELL) (fx:Int) (on:Bool) (T:TR):0<visF t row fx on T:=by cases T<;>simp [visF];omega
theorem qzB (t:List NODE) (row:List CELL) (fx:Int) (on:Bool) (T:TR):visF t row fx on T<=T.size:=by
 induction T with
 | leaf i=>simp [visF,TR.size]
 | split i l r ihl ihr =>
  simp only[visF,TR.size];split<;>split<;>omega
structure IT where
 T:TR
 P:List AP
 g:Rat
 s:PART
 w:List AP
abbrev ITE:=Int×(Option ((Option (List (Int×RAT×CELL)))×Unit))×RAT×PART
def encI (x:IT):ITE:=((x.T.top:Int),some (some (encK x.P (wtP x.P)),()),canQ x.g,x.s)
def qsp (t:List NODE) (n:Nat) (x:IT):Prop:=∃ m,Is t (n:Int) x.T/\m+x.T.deep<=8/\SzQ x.g (8*m+1)/\qoZ x.w /\
 ((x.s.1 = -1 /\ qf6 x.P (8 * m + 1) n /\ x.P.length <= m /\ x.P.Perm x.w) \/
  ∃ (m' f:Nat) (q:Rat) (ok:Bool) (w0:List AP),m=m'+1/\x.s=((f:Int),canQ q,ok)/\f<n/\SzQ q 8/\0<q/\qf6 x.P (8*m'+1) n/\x.P.length<=m'/\x.P.Perm w0/\qoZ w0/\x.w=qih f q ok w0)
theorem qsp.join {t:List NODE} {n:Nat} {x:IT} (h:qsp t n x) (hn:n<1000000):∃ (m:Nat) (P':List AP),Is t (n:Int) x.T/\m+x.T.deep<=8/\SzQ x.g (8*m+1)/\qoZ x.w/\qf6 P' (8*m+1) n/\P'.length<=m/\P'.Perm x.w /\
   qaU (x.T.top:Int) (canQ x.g).1.1 (canQ x.g).1.2 (canQ x.g).2 x.s.1 x.s.2.1.1.1 x.s.2.1.1.2 x.s.2.1.2 x.s.2.2 (encK x.P (wtP x.P)) =
    some ((x.T.top:Int),(canQ x.g).1.1,(canQ x.g).1.2,(canQ x.g).2,x.s.1,x.s.2.1.1.1,x.s.2.1.1.2,x.s.2.1.2,x.s.2.2,encK P' (wtP P')):=by
 obtain⟨m,h1,h2,h3,h4,h5⟩:=h;have hd:=x.T.deep_pos;rcases h5 with ⟨a1,a2,a3,a4⟩ | ⟨m',f,q,ok,w0,b1,b2,b3,b4,b5,b6,b7,b8,b9,b10⟩
 · refine ⟨m, x.P, h1, h2, h3, h4, a2, a3, a4, ?_⟩;rw[a1,qaU,cnd (by omega)]
 · subst b1;obtain⟨P',p1,p2,p3,p4⟩:=qAj b6 b8 b9 (ok:=ok) b3 hn b4 b5 b7 (by omega) (x.T.top:Int) (canQ x.g).1.1 (canQ x.g).1.2 (canQ x.g).2;refine⟨m'+1,P',h1,h2,h3,h4,p2,p3,by rw[b10];exact p1,?_⟩;rw[b2];exact p4
def kid (t:List NODE) (row:List CELL) (fx:Int) (on:Bool) (i:Nat) (side:Bool) (c:TR) (P w:List AP) (g:Rat):IT :=
 ⟨c,P,kG t fx on i c.top g,(kF t fx i,canQ (cov t c.top/cov t i),goL t row i == side),kW t row fx i c.top side w⟩
theorem qtW {t:List NODE} {row:List CELL} {fx:Int} {on:Bool} {n i m:Nat} {side:Bool} {c:TR} {P w:List AP} {g:Rat} (hs:TSz t 4) (hcov:qhg t) (hi:i<t.length) (f0:0<=qaM t[i]) (f1:qaM t[i]<(n:Int)) (hc:Is t (n:Int) c)
   (hm:m+1+c.deep<=8) (hg:SzQ g (8*m+1)) (hw:qoZ w) (hP:qf6 P (8*m+1) n) (hl:P.length<=m) (hpw:P.Perm w):qsp t n (kid t row fx on i side c P w g):=by
 have hsh:=qtG hs hc.top_lt hi;refine⟨m+1,hc,hm,?_,?_,?_⟩
 · show SzQ (kG t fx on i c.top g) _;unfold kG;split
   · split
     · exact hg.mono (by omega)
     · exact(hg.mul hsh).mono (by omega)
   · exact hg.mono (by omega)
 · show qoZ (kW t row fx i c.top side w);unfold kW;split
   · exact hw
   · exact qvx hw
 · by_cases hf : qaM (qcj t i) = fx
   · refine .inl ⟨?_, hP.mono (by omega), by show P.length <= _; omega, ?_⟩
     · show kF t fx i = -1;exact if_pos hf
     · show P.Perm (kW t row fx i c.top side w);rw[kW,if_pos hf];exact hpw
   · refine .inr ⟨m, qrY t i, cov t c.top / cov t i, goL t row i == side, w, rfl, ?_, ?_, hsh, ?_, hP, hl, hpw, hw, ?_⟩
     · show (kF t fx i, _, _) = _;rw[kF,if_neg hf,qrY,qcf hi];rw[show((((qaM t[i]).toNat:Nat)):Int)=qaM t[i] by omega]
     · rw[qrY,qcf hi];omega
     · have h1 : 0 < cov t c.top := by have := hcov c.top hc.top_lt; rwa [<- qgv hc.top_lt] at this
       have h2:0<cov t i:=by have:=hcov i hi;rwa [<- qgv hi] at this
       rw[Rat.div_def];exact Rat.mul_pos h1 (Rat.inv_pos.2 h2)
     · show kW t row fx i c.top side w = _;exact if_neg hf
theorem qxy {P:List AP} {w:Nat->Rat} (hl:P.length<=1000000):qcU (encK P w)=some (encK P w,encK P w):=by
 rw[qcU,blt (by rw[qcX];simp;omega),cond_true,List.nil_append]
theorem qug {t:List NODE} {row:List CELL} {fx:Int} {on:Bool} {i:Nat} {c:TR} {P w:List AP} {W:Nat->Rat} {g:Rat} {m:Nat} (hs:TSz t 4) (hc:CSz row 9) (hcov:qhg t) (hi:i<t.length) (hleaf:qby t[i]=false) (f0:0<=qaM t[i]) (f1:qaM t[i]<(row.length:Int))
   (hl:c.top<t.length) (hP:P.length<=1000000) (hg:SzQ g 1000) (side:Bool) (out:List RAT) (a4:Int) (a5:Bool) (a6 a7:List Int) (a8:Bool) :
   qbE (i:Int) (canQ g).1.1 (canQ g).1.2 (canQ g).2 a4 a5 a6 a7 a8 (c.top:Int) side t row fx on out (encK P W) =
    some (out,(c.top:Int),(canQ (kG t fx on i c.top g)).1.1,(canQ (kG t fx on i c.top g)).1.2,(canQ (kG t fx on i c.top g)).2,kF t fx i,(canQ (cov t c.top/cov t i)).1.1,(canQ (cov t c.top/cov t i)).1.2,(canQ (cov t c.top/cov t i)).2,(goL t row i == side),kOn t row fx on i side,t,row,fx,on,encK P W,encK P W):=by
 obtain⟨cc,g1,g2,g3⟩:=qzl (f:=0) hs hc hi f0 f1;have z:=hs _ (gM0 hi);have zl:=hs _ (gM0 hl);have hne:rv (nCov t[i])≠0:=by have:=hcov.ne i hi;rwa [qgv hi] at this
 have d1:=qrc (a:=nCov t[c.top]) (b:=nCov t[i]) (zl.2.2.sm (by decide)) (z.2.2.sm (by decide));rw[if_neg hne,<- qgv hl,<- qgv hi] at d1;have hsh:=qtG hs hl hi;have hb:∀ {α:Type} {a b:α},(bif Nat.beq out.length out.length then a else b)=a:=fun {α a b}=>by rw[Nat.beq_refl,cond_true]
 have hfe:qaM (qcj t i)=t[i].2.1:=by rw[qcf hi]
 have hgl:(!qby t[i]&&goes t[i] cc)=goL t row i:=by rw[hleaf,Bool.not_false,Bool.true_and,g3]
 rw[qbE,cnd (by omega),tN0,gE0 hi,bS0,cnd (by omega),tN0,gE0 hl,bS0];show(qhU (nCov t[c.top]) (nCov t[i])).bind _=_;rw[d1,bS0,cnd (by exact f0)];show((row[(qaM t[i]).toNat]?).bind _)=_;rw[g1,bS0,qAF z.1 (by decide) g2 (by decide),bS0,hgl,qxy hP,bS0];by_cases hf:qaM (qcj t i)=fx
 · have e1 : (!decide (t[i].2.1 = fx)) = false := by rw [<- hfe, decide_eq_true hf]; rfl
   have e2:kF t fx i=-1:=if_pos hf;rw[e1,cond_false,e2];cases on with
   | true =>
    have e3:kG t fx true i c.top g=g:=by rw[kG,if_pos hf];rfl
    have e4:kOn t row fx true i side=(goL t row i == side):=by rw[kOn,if_pos hf];rfl
    rw[cond_true,hb,bS0,e3,e4]
   | false =>
    have e3:kG t fx false i c.top g=g*(cov t c.top/cov t i):=by rw[kG,if_pos hf];rfl
    have e4:kOn t row fx false i side=true:=by rw[kOn,if_pos hf];rfl
    have m1:=qa0 (hg.sm (by decide)) (hsh.sm (by decide));rw[qas,qas] at m1;have m1:qay (((canQ g).1.1,(canQ g).1.2),(canQ g).2) (canQ (cov t c.top/cov t i))=_:=m1;rw[cond_false,m1,bS0,hb,bS0,e3,e4]
 · have e1 : (!decide (t[i].2.1 = fx)) = true := by rw [<- hfe, decide_eq_false hf]; rfl
   have e2:kF t fx i=t[i].2.1:=by rw[kF,if_neg hf,hfe]
   have e3:kG t fx on i c.top g=g:=if_neg hf;have e4:kOn t row fx on i side=true:=if_neg hf;rw[e1,cond_true,hb,bS0,e2,e3,e4]
def qqi (t:List NODE) (row:List CELL) (fx:Int) (on:Bool) (i:Nat) (l r:TR) (P w:List AP) (g:Rat):List IT :=
 (if kOn t row fx on i false then [kid t row fx on i false r P w g] else [])++(if kOn t row fx on i true then [kid t row fx on i true l P w g] else [])
theorem qAi {t:List NODE} {row:List CELL} {fx:Int} {on:Bool} {i:Nat} {l r:TR} {P w:List AP} {g:Rat} (hs:TSz t 4) (hc:CSz row 9) (hcov:qhg t) (hi:i<t.length) (hleaf:qby t[i]=false) (f0:0<=qaM t[i]) (f1:qaM t[i]<(row.length:Int))
  (hl:l.top<t.length) (hr:r.top<t.length) (hP:P.length<=1000000) (hg:SzQ g 1000) (out:List RAT) (a4:Int) (a5:Bool) (a6 a7:List Int) (a8:Bool) (c0:Bool) (c1:Int) (c2:Bool) (c3 c4:List Int) (c7 c8:Bool) (c9 c10:List Int) (c11:Bool) (c12 c13:List Int)
  (base:List ITE) (hb:base.length<=1000000) :
  lp qam K0 (((false,(true,())),0,()),(((i:Int),(canQ g).1.1,(canQ g).1.2,(canQ g).2,a4,a5,a6,a7,a8,()),(c0,c1,c2,c3,c4,(l.top:Int),(r.top:Int),c7,c8,c9,c10,c11,c12,c13,()),(encK P (wtP P),()),(t,row,fx,on,out,base,()),())) =
    some ((),((t,row,fx,on,out,base++(qqi t row fx on i l r P w g).map encI,()),())):=by
 obtain⟨A,eA⟩:∃ A:List IT,A=if kOn t row fx on i false then [kid t row fx on i false r P w g] else []:=⟨_,rfl⟩
 obtain⟨B,eB⟩:∃ B:List IT,B=if kOn t row fx on i true then [kid t row fx on i true l P w g] else []:=⟨_,rfl⟩
 have eK:qqi t row fx on i l r P w g=A++B:=by rw[eA,eB];rfl
 have lA:A.length<=1:=by rw[eA];split<;>simp
 obtain⟨K,hK⟩:∃ K:Nat->List ITE,K=fun j=>if j=0 then [] else if j=1 then A.map encI else (A++B).map encI:=⟨_,rfl⟩
 have K0':K 0=[]:=by rw[hK];rfl
 have K1:K 1=A.map encI:=by rw[hK];rfl
 have K2:K 2=(A++B).map encI:=by rw[hK];rfl
 have ov:over out 0 out=out:=qlA rfl;have hc1:=fun side=>qug (fx:=fx) (on:=on) (c:=r) (P:=P) (w:=w) (W:=wtP P) (g:=g) (m:=0) hs hc hcov hi hleaf f0 f1 hr hP hg side out a4 a5 a6 a7 a8
 have hc2:=fun side=>qug (fx:=fx) (on:=on) (c:=l) (P:=P) (w:=w) (W:=wtP P) (g:=g) (m:=0) hs hc hcov hi hleaf f0 f1 hl hP hg side out a4 a5 a6 a7 a8
 have key:=qf3 (step:=qam) (fun j=>(((false,(true,())),(j:Int),()),(((i:Int),(canQ g).1.1,(canQ g).1.2,(canQ g).2,a4,a5,a6,a7,a8,()),(c0,c1,c2,c3,c4,(l.top:Int),(r.top:Int),c7,c8,c9,c10,c11,c12,c13,()),(encK P (wtP P),()),(t,row,fx,on,out,base++K j,()),()))) 2
  (r:=((),((t,row,fx,on,out,base++K 2,()),()))) (by omega) (by
  intro g' j hj;have hj2:j=0\/j=1:=by omega
  rcases hj2 with rfl | rfl
  · rw [qam, cnd (by omega), cnd (by omega)];show((([false,true]:List Bool)[0]?).bind _)=_;rw[show(([false,true]:List Bool)[0]?)=some false from rfl,bS0,cond_false,hc1 false,bS0];dsimp only;rw[K0',List.append_nil,show((0+1:Nat))=1 from rfl,K1,ov];cases hk:kOn t row fx on i false with
    | true =>
     have eA':A=[kid t row fx on i false r P w g]:=by rw[eA,hk];rfl
     rw[cond_true,blt (by simp;omega),cond_true,eA'];rfl
    | false =>
     have eA':A=[]:=by rw[eA,hk];rfl
     rw[cond_false,eA',List.map_nil,List.append_nil];rfl
  · rw [qam, cnd (by omega), cnd (by omega)];show((([false,true]:List Bool)[1]?).bind _)=_;rw[show(([false,true]:List Bool)[1]?)=some true from rfl,bS0,cond_true,hc2 true,bS0];dsimp only;rw[show((1+1:Nat))=2 from rfl,K1,K2,ov];cases hk:kOn t row fx on i true with
    | true =>
     have eB':B=[kid t row fx on i true l P w g]:=by rw[eB,hk];rfl
     rw[cond_true,blt (by simp;omega),cond_true,eB',List.map_append,<- List.append_assoc];rfl
    | false =>
     have eB':B=[]:=by rw[eB,hk];rfl
     rw[cond_false,eB',List.append_nil];rfl) (by
  intro g';rw[qam,cnd' (by omega)])
 rw[K0',K2,<- eK,List.append_nil] at key;exact key
def totL (n f:Nat) (l:List PL):Rat:=lsum (l.map fun y=>qeW (fun S=>qes S y.2*y.1) n f)
theorem qsw (n f:Nat) (a b:List PL):totL n f (a++b)=totL n f a+totL n f b:=by rw[totL,List.map_append,qeY];rfl
def totI (t:List NODE) (row:List CELL) (fx:Int) (on:Bool) (n f:Nat) (x:IT):Rat:=totL n f (qm3 t row fx on x.T x.w x.g)
def visL (t:List NODE) (row:List CELL) (fx:Int) (on:Bool):List IT->Nat
 | []=>0
 | x::L=>visF t row fx on x.T+visL t row fx on L
theorem qkP (t:List NODE) (row:List CELL) (fx:Int) (on:Bool) (a b:List IT):visL t row fx on (a++b)=visL t row fx on a+visL t row fx on b:=by
 induction a with
 | nil=>simp [visL]
 | cons x a ih=>simp only[List.cons_append,visL,ih];omega
theorem qtw (t:List NODE) (row:List CELL) (fx:Int) (on:Bool) (a:List IT):a.length<=visL t row fx on a:=by
 induction a with
 | nil=>simp [visL]
 | cons x a ih=>have:=qtx t row fx on x.T;simp only[List.length_cons,visL];omega
theorem qyk (t:List NODE) (row:List CELL) (fx:Int) (on:Bool) (i:Nat) (l r:TR) (P w:List AP) (g:Rat) :
  visF t row fx on (.split i l r)=1+visL t row fx on (qqi t row fx on i l r P w g):=by
 rw[qqi,qkP];simp only[visF];cases kOn t row fx on i true<;>cases kOn t row fx on i false<;>simp [visL,kid]<;>omega
theorem qyl (t:List NODE) (row:List CELL) (fx:Int) (on:Bool) (n f i:Nat) (l r:TR) (P w:List AP) (g:Rat) :
   totL n f (qm3 t row fx on (.split i l r) w g)=lsum ((qqi t row fx on i l r P w g).map (totI t row fx on n f)):=by
 rw[qqi,List.map_append,qeY];simp only[qm3];rw[qsw,Rat.add_comm];congr 1
 · cases kOn t row fx on i false
   · rfl
   · simp only[if_true,List.map_cons,List.map_nil,lsum,Rat.add_zero];rfl
 · cases kOn t row fx on i true
   · rfl
   · simp only[if_true,List.map_cons,List.map_nil,lsum,Rat.add_zero];rfl
theorem qvF {t:List NODE} {row:List CELL} {fx:Int} {on:Bool} {T:TR} {o:Nat->Rat} (hs:TSz t 4) (hc:CSz row 9) (hcov:qhg t) (hT:Is t (row.length:Int) T) (h0:T.top=0) (hd:T.deep<=8) (hz:T.size<=100) (hrl:row.length<=64)
  {S:Nat} (ho:∀ f,f<row.length->SzQ (o f) S) (hS:S<=50000000000) :
  (∃ st,qb4 t row fx on (flo row.length o) []=some (flo row.length (fun f=>o f+totL row.length f (qm3 t row fx on T [] 1)),t,row,fx,on,st))/\∀ f,f<row.length->SzQ (o f+totL row.length f (qm3 t row fx on T [] 1)) (S+200000000):=by
 obtain⟨n,hn⟩:∃ n,n=row.length:=⟨_,rfl⟩;obtain⟨N,hN⟩:∃ N,N=visF t row fx on T:=⟨_,rfl⟩;have hN2:N<=100:=by rw[hN];exact Nat.le_trans (qzB _ _ _ _ _) hz
 obtain⟨x0,hx0⟩:∃ x0:IT,x0=⟨T,[],1,(-1,(((false,[]),[]),false)),[]⟩:=⟨_,rfl⟩;have t0:∀ f,totI t row fx on n f x0=totL n f (qm3 t row fx on T [] 1):=fun f=>by rw[hx0];rfl
 have hg0:qsp t n x0:=by
  refine⟨0,by rw[hx0,hn];exact hT,by rw[hx0];show 0+T.deep<=8;omega,by rw[hx0];exact SzQ.one,by rw[hx0];exact List.Pairwise.nil,.inl ⟨by rw[hx0],?_,by simp [hx0],by simp [hx0]⟩⟩
  rw[hx0];exact⟨List.Pairwise.nil,fun p hp=>absurd hp (by simp),by simp,fun p hp=>absurd hp (by simp),fun p hp=>absurd hp (by simp)⟩
 rw[<- hn];obtain⟨res,hres,hlp⟩:=qkJ (step:=qat)
  (fun j v=>∃ (L:List IT) (o':Nat->Rat),v=((),((t,row,fx,on,flo n o',L.map encI,()),()))/\(∀ x∈L,qsp t n x)/\j+visL t row fx on L=N/\(∀ f,f<n->SzQ (o' f) (S+2000000*j))/\∀ f,f<n->o' f+lsum (L.map (totI t row fx on n f))=o f+totI t row fx on n f x0)
  (fun r=>(∃ (st:List ITE),r=((),((t,row,fx,on,flo n (fun f=>o f+totI t row fx on n f x0),st,()),())))/\∀ f,f<n->SzQ (o f+totI t row fx on n f x0) (S+200000000)) N
  (v:=((),((t,row,fx,on,flo n o,[x0].map encI,()),())))
  ⟨[x0],o,rfl,fun x hx=>by rw[List.mem_singleton.1 hx];exact hg0,by simp only[visL,hx0];omega,fun f hf=>(ho f (by omega)).mono (by omega),fun f hf=>by simp only[List.map_cons,List.map_nil,lsum,Rat.add_zero]⟩
  (by omega)
  (by
   rintro j v hj ⟨L,o',rfl,hL,hv,hsz,htot⟩;rcases List.eq_nil_or_concat L with rfl | ⟨L0,x,rfl⟩
   · simp only[visL] at hv;omega
   rw[List.concat_eq_append] at *;have hx:qsp t n x:=hL x (by simp);obtain⟨m,P',j1,j2,j3,j4,j5,j6,j7,j8⟩:=hx.join (by omega);rw[qkP] at hv;simp only[visL,Nat.add_zero] at hv;have hvp:=qtx t row fx on x.T;have hvl:=qtw t row fx on L0;obtain⟨base,hbase⟩:∃ base,base=L0.map encI:=⟨_,rfl⟩;have lb:base.length=L0.length:=by rw[hbase];simp
   have eS:(L0++[x]).map encI=base++[encI x]:=by rw[hbase];simp
   have hi:=j1.top_lt;have qS:∀ y:ITE,isub .i64 ((base++[y]).length:Int) 1=(base.length:Int):=fun y=>by
     rw[List.length_append,List.length_singleton,qdB (by omega) (by omega)];omega
   have gS:(base++[encI x])[base.length]?=some (encI x):=by simp
   have sS:∀ y,(base++[encI x]).set base.length y=base++[y]:=fun y=>by simp
   have cS:∀ y:ITE,(decide ((0:Int)<=(base.length:Int))&&decide (((base.length:Int):Int)<=(base.length:Int))&&decide (((base.length:Int):Int)<=((base++[y]).length:Int)))=true:=fun y=>by
     simp only[Bool.and_eq_true,decide_eq_true_eq,List.length_append,List.length_singleton];omega
   have tS:∀ y:ITE,(base++[y]).take (((base.length:Int)-0).toNat)=base:=fun y=>by
     rw[show((base.length:Int)-0).toNat=base.length by omega];simp
   have hpos:(((base++[encI x]).length:Nat):Int)>0:=by rw[List.length_append,List.length_singleton];omega
   have d2:(base.length:Int)<(((base++[encI x]).length:Nat):Int):=by rw[List.length_append,List.length_singleton];omega
   have walkE:∀ g,qat g ((),((t,row,fx,on,flo n o',(L0++[x]).map encI,()),())) =
       bif t[x.T.top].1 then ((qbo (x.T.top:Int) (canQ x.g).1.1 (canQ x.g).1.2 (canQ x.g).2 x.s.1 x.s.2.1.1.1 x.s.2.1.1.2 x.s.2.1.2 x.s.2.2 t row fx on (flo n o') (encK P' (wtP P'))).bind fun r8=>g ((()),((r8.2.1,r8.2.2.1,r8.2.2.2.1,r8.2.2.2.2.1,(over (flo n o') 0 r8.1),base,()),())))
       else ((lp qam K0 (((false,(true,())),0,()),(((x.T.top:Int),(canQ x.g).1.1,(canQ x.g).1.2,(canQ x.g).2,x.s.1,x.s.2.1.1.1,x.s.2.1.1.2,x.s.2.1.2,x.s.2.2,()),(t[x.T.top].1,t[x.T.top].2.1,t[x.T.top].2.2.1.1.1,t[x.T.top].2.2.1.1.2,t[x.T.top].2.2.1.2,t[x.T.top].2.2.2.1,t[x.T.top].2.2.2.2.1,t[x.T.top].2.2.2.2.2.1,t[x.T.top].2.2.2.2.2.2.1.1.1,t[x.T.top].2.2.2.2.2.2.1.1.2,t[x.T.top].2.2.2.2.2.2.1.2,t[x.T.top].2.2.2.2.2.2.2.1.1,t[x.T.top].2.2.2.2.2.2.2.1.2,t[x.T.top].2.2.2.2.2.2.2.2,()),(encK P' (wtP P'),()),(t,row,fx,on,flo n o',base,()),()))).bind fun t12=>g ((()),((t12.2.1.1,t12.2.1.2.1,t12.2.1.2.2.1,t12.2.1.2.2.2.1,t12.2.1.2.2.2.2.1,t12.2.1.2.2.2.2.2.1,()),()))):=fun g=>by
     rw[qat,eS,cnd hpos,qS,cnd2 (by omega) d2,tN0,gS,bS0];show((some (some (encK x.P (wtP x.P)),()):Option ((Option (List (Int×RAT×CELL)))×Unit)).bind _)=_;rw[bS0];show((some (encK x.P (wtP x.P)):Option (List (Int×RAT×CELL))).bind _)=_;rw[bS0,sS,qS,cS,cond_true,tS];show(qaU (x.T.top:Int) (canQ x.g).1.1 (canQ x.g).1.2 (canQ x.g).2 x.s.1 x.s.2.1.1.1 x.s.2.1.1.2 x.s.2.1.2 x.s.2.2 (encK x.P (wtP x.P))).bind _=_;rw[j8,bS0];dsimp only;rw[cnd (by omega),tN0,gE0 hi,bS0]
   have hm7:m<=7:=by have:=x.T.deep_pos;omega
   cases hxT:x.T with
   | leaf i =>
     rw[hxT] at j1 j2 hi hv;simp only[hxT] at walkE;obtain⟨i1,i2⟩:=j1;have hlf:=qAg (t:=t) (row:=row) (fx:=fx) (on:=on) j5 (by omega) (by omega) i1 (j3.mono (by omega)) hs (o:=o') (fun f hf=>(hsz f hf).mono (by omega)) (by omega) x.s.1 x.s.2.1.1.1 x.s.2.1.1.2 x.s.2.1.2 x.s.2.2;obtain⟨v,hv'⟩:∃ v,v=x.g*rv (nVal (qcj t i)):=⟨_,rfl⟩;rw[<- hv'] at hlf;have hvz:SzQ v 200:=by rw[hv'];exact((j3.mono (show 8*m+1<=100 by omega)).mul ((hs.at i1).2.1.szQ (by decide))).mono (by decide)
     refine⟨((),((t,row,fx,on,flo n (fun f=>o' f+qvc P' v f),L0.map encI,()),())),⟨L0,_,rfl,fun y hy=>hL y (by simp [hy]),by simp only[visF] at hv;omega,fun f hf=>?_,fun f hf=>?_⟩,fun g=>?_⟩
     · have h1 := qll (k := 180000) P'.length (fun i hi => qze j5 (by omega) (by omega) hvz f hi);have h1:SzQ (qvc P' v f) _:=h1;have:P'.length*(180000+1)<=8*(180000+1):=Nat.mul_le_mul_right _ (by omega);exact((hsz f hf).add h1).mono (by omega)
     · have e := htot f hf;rw[List.map_append,qeY] at e;simp only[List.map_cons,List.map_nil,lsum,Rat.add_zero] at e;have e2:totI t row fx on n f x=qvc P' v f:=by
         rw[totI,hxT,qvb j5 hf];simp only[qm3,totL,List.map_cons,List.map_nil,lsum,Rat.add_zero];rw[<- hv'];refine qnH hf fun S _=>?_
         rw[qnO j7]
       rw[e2] at e;rw[<- e];grind
     · rw [walkE g];show(bif t[i].1 then _ else _)=_;rw[show t[i].1=true from i2,cond_true];show(qbo (i:Int) _ _ _ _ _ _ _ _ _ _ _ _ _ _).bind _=_;rw[hlf,bS0];dsimp only;rw[qlA (by rw[qcJ,qcJ]),hbase]
   | split i l r =>
     rw[hxT] at j1 j2 hi hv;simp only[hxT,TR.top] at walkE;obtain⟨i1,i2,f0,f1,i3,i4,i5,i6⟩:=j1;simp only[TR.deep] at j2;have hkd:=qAi (t:=t) (row:=row) (fx:=fx) (on:=on) (i:=i) (l:=l) (r:=r) (P:=P') (w:=x.w) (g:=x.g) hs hc hcov i1 i2 f0 (by omega) i5.top_lt i6.top_lt (by omega) (j3.mono (by omega)) (flo n o') x.s.1 x.s.2.1.1.1 x.s.2.1.1.2 x.s.2.1.2 x.s.2.2
       false t[i].2.1 t[i].2.2.1.1.1 t[i].2.2.1.1.2 t[i].2.2.1.2 t[i].2.2.2.2.2.1 t[i].2.2.2.2.2.2.1.1.1 t[i].2.2.2.2.2.2.1.1.2 t[i].2.2.2.2.2.2.1.2 t[i].2.2.2.2.2.2.2.1.1 t[i].2.2.2.2.2.2.2.1.2 t[i].2.2.2.2.2.2.2.2 base (by omega)
     refine⟨((),((t,row,fx,on,flo n o',(L0++qqi t row fx on i l r P' x.w x.g).map encI,()),())),⟨L0++qqi t row fx on i l r P' x.w x.g,o',rfl,fun y hy=>?_,?_,fun f hf=>(hsz f hf).mono (by omega),fun f hf=>?_⟩,fun g=>?_⟩
     · rcases List.mem_append.1 hy with hy | hy
       · exact hL y (by simp [hy])
       · have hgl : ∀ side, qsp t n (kid t row fx on i side l P' x.w x.g) := fun side => qtW hs hcov i1 f0 f1 i5 (by omega) j3 j4 j5 j6 j7
         have hgr:∀ side,qsp t n (kid t row fx on i side r P' x.w x.g):=fun side=>qtW hs hcov i1 f0 f1 i6 (by omega) j3 j4 j5 j6 j7
         rcases List.mem_append.1 hy with hy | hy
         · split at hy
           · rw[List.mem_singleton.1 hy];exact hgr _
           · cases hy
         · split at hy
           · rw[List.mem_singleton.1 hy];exact hgl _
           · cases hy
     · have := qyk t row fx on i l r P' x.w x.g;rw[qkP];omega
     · have e := htot f hf;rw[List.map_append,qeY] at e;simp only[List.map_cons,List.map_nil,lsum,Rat.add_zero] at e;have e2:totI t row fx on n f x=lsum ((qqi t row fx on i l r P' x.w x.g).map (totI t row fx on n f)):=by
         rw[totI,hxT];exact qyl t row fx on n f i l r P' x.w x.g
       rw[e2] at e;rw[List.map_append,qeY];exact e
     · rw [walkE g];show(bif t[i].1 then _ else _)=_;rw[show t[i].1=false from i2,cond_false];rw[show t[i].2.2.2.1=(l.top:Int) from i3,show t[i].2.2.2.2.1=(r.top:Int) from i4,hkd,bS0];dsimp only;rw[hbase,<- List.map_append])
  (by
   rintro v ⟨L,o',rfl,hL,hv,hsz,htot⟩;have hl:=qtw t row fx on L;have:L=[]:=by
     cases L with
     | nil=>rfl
     | cons x L=>simp only[List.length_cons] at hl;omega
   subst this;refine⟨((),((t,row,fx,on,flo n o',List.map encI [],()),())),⟨⟨List.map encI [],?_⟩,fun f hf=>?_⟩,fun g=>?_⟩
   · have : flo n o' = flo n (fun f => o f + totI t row fx on n f x0) := qrV fun f hf => by
       rw[<- htot f hf];simp only[List.map_nil,lsum,Rat.add_zero]
     rw[this]
   · rw [<- htot f hf];simp only[List.map_nil,lsum,Rat.add_zero];exact(hsz f hf).mono (by omega)
   · rw[qat,cnd' (by simp)])
 obtain⟨⟨st,rfl⟩,hrs⟩:=hres;refine⟨⟨st,?_⟩,fun f hf=>by have:=hrs f hf;rwa [t0] at this⟩
 have e0:[x0].map encI=[((0:Int),(some (some (encK [] (wtP [])),()):Option ((Option (List (Int×RAT×CELL)))×Unit)),canQ 1,((-1:Int),(((false,[]),[]),false)))]:=by
  rw[hx0];simp only[List.map_cons,List.map_nil,encI,h0];rfl
 rw[e0] at hlp;rw[qb4,qyU,bS0,qjp,bS0];have hlp:lp qat K0 (((),((t,row,fx,on,flo n o,[(0,((some ((some (encK [] (wtP []))),())),(canQ 1,((-1),(((false,[]),[]),false)))))],()),())))=_:=hlp;rw[hlp,bS0];dsimp only;rw[qcJ,qcJ,Nat.beq_refl,cond_true,bS0];simp only[t0]
def trV (t:List NODE) (row:List CELL) (fx:Int) (on:Bool) (f:Nat):Rat:=totL row.length f (qm3 t row fx on (treeOf t) [] 1)
def qkn (m:qak) (row:List CELL) (fx:Int) (on:Bool) (f:Nat):Rat:=rsum (fun j=>trV (qcC m j) row fx on f) m.2.length
theorem Askd.deep8 {m:qak} {row:List CELL} (h:Askd m row) {i:Nat} (hi:i<m.2.length):(treeOf m.2[i]).deep<=8/\(treeOf m.2[i]).size<=15:=by
 have h1:=h.good.treeOf hi;have hsh:qpt m.2[i]:=h.good.2 1 (by decide) i hi;have h2:=qvV hsh h1.1;have h3:=qw3 (treeOf m.2[i]);have h4:=h.mt _ (gM0 hi);omega
theorem Askd.walk {m:qak} {row:List CELL} (h:Askd m row) {i:Nat} (hi:i<m.2.length) (fx:Int) (on:Bool) {o:Nat->Rat} {S:Nat} (ho:∀ f,f<row.length->SzQ (o f) S) (hS:S<=50000000000) :
  (∃ st,qb4 m.2[i] row fx on (flo row.length o) []=some (flo row.length (fun f=>o f+trV (qcC m i) row fx on f),m.2[i],row,fx,on,st))/\∀ f,f<row.length->SzQ (o f+trV (qcC m i) row fx on f) (S+200000000):=by
 obtain⟨t1,t2,t3,t4,t5⟩:=h.tree hi;rw[t5] at t2 t3 ⊢;obtain⟨d1,d2⟩:=h.deep8 hi;exact qvF t1 h.cs (h.cov hi) t2 t3 d1 (by omega) h.f64 ho hS
theorem qy6 {m:qak} {row:List CELL} (h:Askd m row) {i:Nat} (hi:i<m.2.length) (fx:Int) (on:Bool) {f:Nat} (hf:f<row.length):SzQ (trV (qcC m i) row fx on f) 200000010:=by
 have:=(h.walk hi fx on (o:=fun _=>0) (S:=1) (fun _ _=>SzQ.zero) (by decide)).2 f hf;rw[Rat.zero_add] at this;exact this.mono (by decide)
theorem qxW {m:qak} {row:List CELL} (h:Askd m row) (fx:Int) (on:Bool) {f:Nat} (hf:f<row.length):SzQ (qkn m row fx on f) 1500000000:=by
 have h1:=qll (f:=fun j=>trV (qcC m j) row fx on f) (k:=200000010) m.2.length (fun i hi=>qy6 h hi fx on hf);have:m.2.length*(200000010+1)<=6*(200000010+1):=Nat.mul_le_mul_right _ h.ml;exact h1.mono (by omega)
theorem qwd {n:Nat} (h:n<=1000000):qeF (n:Int)=some (flo n fun _=>0):=by
 have key:=qf3 (step:=qbd) (fun i=>((flo i (fun _=>0),(n:Int),(i:Int),()),())) n (r:=((flo n (fun _=>0),()),())) (by omega) (by
  intro g i hi;have d0:(i:Int)<(n:Int):=by omega
  rw[qbd,cnd d0,qfq,bS0,blt (by rw[qcJ];omega),cond_true,qbp (by omega)];simp only[flo,List.range_succ,List.map_append];rfl) (by
  intro g;rw[qbd,cnd' (by omega)])
 have key:lp qbd K0 (([],(n:Int),0,()),())=_:=key;rw[qeF,key];rfl
theorem qyN {m:qak} {row:List CELL} (h:Askd m row) (fx:Int) (on:Bool):qge m row fx on=some (flo row.length (qkn m row fx on)):=by
 have ml:=h.ml;have h64:=h.f64;have hsz:∀ j,j<=m.2.length->∀ f,f<row.length->SzQ (rsum (fun j=>trV (qcC m j) row fx on f) j) 1500000000:=fun j hj f hf=>by
  have h1:=qll (f:=fun j=>trV (qcC m j) row fx on f) (k:=200000010) j (fun i hi=>qy6 h (by omega) fx on hf);have:j*(200000010+1)<=6*(200000010+1):=Nat.mul_le_mul_right _ (by omega);exact h1.mono (by omega)
 have key:=qf3 (step:=qbU) (fun j=>((row,fx,on,flo row.length (fun f=>rsum (fun j=>trV (qcC m j) row fx on f) j),m.2,(m.2.length:Int),(j:Int),()),())) m.2.length (r:=((flo row.length (qkn m row fx on),()),())) (by omega) (by
  intro g j hj;have d0:(j:Int)<(m.2.length:Int):=by omega
  obtain⟨st,hw⟩:=(h.walk hj fx on (hsz j (by omega)) (by decide)).1;rw[qbU,cnd d0,cnd (by omega),tN0,gE0 hj,bS0,hw,bS0];dsimp only;rw[qlA (by rw[qcJ,qcJ]),qbp (by omega)];rfl) (by
  intro g;rw[qbU,cnd' (by omega)];rfl)
 have key:lp qbU K0 ((row,fx,on,flo row.length (fun _=>0),m.2,(m.2.length:Int),0,()),())=_:=key;rw[qge,show m.1=((row.length:Nat):Int) by have:=h.len;omega,qwd (by omega),bS0,key];rfl
theorem qot {m:qak} {row:List CELL} (h:Askd m row):qaX m row=some (flo row.length (qkn m row (-1) false),0):=by
 obtain⟨e,_,h1,h2⟩:=qBc (row:=row) (by have:=h.ml;omega) (fun t ht=>by have:=h.mt t ht;omega) h.ms;have e0:e=0:=h2.2 ⟨h.good,h.len⟩;subst e0;rw[qaX,h1,bS0,show(!decide ((0:Int)=0))=false by decide,cond_false,qyN h];rfl
theorem qve {t:List NODE} {row:List CELL} {n:Nat} {T:TR} (h:Is t (n:Int) T):∀ (w:List AP) (g:Rat),qm3 t row (-1) false T w g=(qrN t row T w).map fun x=>(g*x.2.1,x.2.2):=by
 induction T with
 | leaf i=>intro w g;rfl
 | split i l r ihl ihr =>
  intro w g;obtain⟨h1,h2,f0,f1,h3,h4,h5,h6⟩:=h;have hne:¬ qaM (qcj t i)=-1:=by rw[qcf h1];omega
  have e1:(goL t row i == true)=goL t row i:=by cases goL t row i<;>rfl
  have e2:(goL t row i == false)=!goL t row i:=by cases goL t row i<;>rfl
  simp only[qm3,qrN,List.map_append];rw[kOn,if_neg hne,if_pos rfl,kOn,if_neg hne,if_pos rfl,kW,if_neg hne,kG,if_neg hne,kW,if_neg hne,kG,if_neg hne,e1,e2,ihl h5,ihr h6]
theorem qxI {t:List NODE} {row:List CELL} (hc:qhg t) (h:Is t (row.length:Int) (treeOf t)) {f:Nat} (hf:f<row.length) :
  trV t row (-1) false f=qeW (fun S=>expT t row S (treeOf t)) row.length f:=by
 have e1:∀ S,expT t row S (treeOf t)=lsum ((qrN t row (treeOf t) []).map (legV S)):=fun S=>by
  rw[qyf hc.ne h []];show _=qgB []*_;rw[qgB,Rat.one_mul]
 rw[qnH hf fun S _=>e1 S,quB (fun x S=>legV S x)];unfold trV totL;rw[qve h,List.map_map];congr 1;refine List.map_congr_left fun x _=>?_
 show qeW (fun S=>qes S x.2.2*(1*x.2.1)) _ _=_;rw[Rat.one_mul];rfl
theorem qo7 {m:qak} {row:List CELL} (h:Askd m row) {f:Nat} (hf:f<row.length):qkn m row (-1) false f=qeW (sayM m row) row.length f:=by
 have e:=quA (fun j S=>expT (qcC m j) row S (treeOf (qcC m j))) row.length f m.2.length;have e:qeW (sayM m row) row.length f=_:=e;rw[e];refine qcd fun j hj=>?_
 obtain⟨t1,t2,t3,t4,t5⟩:=h.tree hj;rw[t5] at t2 ⊢;exact qxI (h.cov hj) t2 hf
structure qm7 (g:NODE->NODE) (f f':Int) (c:Rat):Prop where
 leaf:∀ n,qby (g n)=qby n
 l:∀ n,qby n=false->nL (g n)=nL n
 r:∀ n,qby n=false->nR (g n)=nR n
 feat:∀ n,qby n=false->0<=qaM n->qaM n<f->0<=qaM (g n)/\qaM (g n)<f'
 fits:∀ n,qby n=true->qgI n->qgI (g n)
 cov:∀ n,rv (nCov (g n))=c*rv (nCov n)
 pos:0<c
 low:0<=f'
 high:f'<=64
variable {g:NODE->NODE} {f f':Int} {c:Rat}
theorem ql8 (hk:qm7 g f f' c) {t:List NODE} {i:Nat} (hi:i<t.length):qcj (t.map g) i=g (qcj t i):=by
 rw[qcf hi,qcf (by simpa using hi),List.getElem_map]
theorem qom (hk:qm7 g f f' c) {t:List NODE} {i:Nat} (hi:i<t.length):cov (t.map g) i=c*cov t i:=by
 rw[qgv hi,qgv (by simpa using hi),List.getElem_map,hk.cov]
theorem qtV (hk:qm7 g f f' c) (t:List NODE):kids (t.map g)=kids t:=by
 funext i;by_cases hi:i<t.length
 · cases hl : qby t[i] with
   | true=>rw[qjO hi hl,qjO (t:=t.map g) (by simpa using hi) (by rw[List.getElem_map,hk.leaf];exact hl)]
   | false=>rw[qeq hi hl,qeq (t:=t.map g) (by simpa using hi) (by rw[List.getElem_map,hk.leaf];exact hl),List.getElem_map,hk.l _ hl,hk.r _ hl]
 · unfold kids;rw[List.getElem?_eq_none (by simpa using hi),List.getElem?_eq_none (by omega)]
theorem qAv (hk:qm7 g f f' c) (t:List NODE) (i j:Nat):cnt (t.map g) i j=cnt t i j:=by
 unfold cnt;rw[qtV hk]
theorem Is.map (hk:qm7 g f f' c) {t:List NODE}:∀ {T:TR},Is t f T->Is (t.map g) f' T:=by
 intro T
 induction T with
 | leaf i =>
  rintro⟨h,hl⟩;exact⟨by simpa using h,by rw[List.getElem_map,hk.leaf];exact hl⟩
 | split i l r ihl ihr =>
  rintro⟨h,hl,f0,f1,h1,h2,h3,h4⟩;have hf:=hk.feat _ hl f0 f1;refine⟨by simpa using h,?_,?_,?_,?_,?_,ihl h3,ihr h4⟩
  · rw[List.getElem_map,hk.leaf];exact hl
  · rw[List.getElem_map];exact hf.1
  · rw[List.getElem_map];exact hf.2
  · rw[List.getElem_map,hk.l _ hl];exact h1
  · rw[List.getElem_map,hk.r _ hl];exact h2
theorem Good.map {m:qak} (h:Good m) (hk:qm7 g m.1 f' c):Good (f',m.2.map (List.map g)):=by
 have len:∀ i,i<(m.2.map (List.map g)).length->i<m.2.length:=fun i hi=>by simpa using hi
 have get:∀ i (hi:i<(m.2.map (List.map g)).length),(m.2.map (List.map g))[i]=(m.2[i]'(len i hi)).map g:=fun i hi=>by rw[List.getElem_map]
 refine⟨⟨hk.low,hk.high,by simpa using h.1.2.2.1,fun i hi=>?_⟩,fun r hr i hi=>?_⟩
 · rw [show ((f', m.2.map (List.map g)) : qak).2[i] = _ from get i hi];have hi':=len i hi;obtain⟨t1,t2,t3⟩:=h.1.2.2.2 i hi';refine⟨by simpa using t1,by simpa using t2,fun j hj=>?_⟩;have hj':j<m.2[i].length:=by simpa using hj
   rw[List.getElem_map];have hn:=t3 j hj';cases hl:qby m.2[i][j] with
   | true=>exact hk.fits _ hl hn
   | false =>
    obtain⟨r1,r2,r3,r4,r5,r6⟩:=h.ranges hi' j hj' hl;have hf:=hk.feat _ hl r1 r2;have:=hk.high;have a:=hk.l _ hl;have b:=hk.r _ hl;obtain⟨n1,n2,n3,n4,n5,n6⟩:=hn;exact⟨hf.1,by omega,by omega,by omega,by omega,by omega⟩
 · rw [show ((f', m.2.map (List.map g)) : qak).2[i] = _ from get i hi];have hi':=len i hi;have hr':qf5 (m.2[i].map g) f':=by
    intro j hj hl;have hj':j<m.2[i].length:=by simpa using hj
    rw[List.getElem_map] at hl ⊢;rw[hk.leaf] at hl;obtain⟨r1,r2,r3,r4,r5,r6⟩:=h.ranges hi' j hj' hl;have hf:=hk.feat _ hl r1 r2;rw[hk.l _ hl,hk.r _ hl];have e:(((m.2[i].map g).length:Nat):Int)=((m.2[i].length:Nat):Int):=by rw[List.length_map]
    exact⟨hf.1,hf.2,r3,e ▸ r4,r5,e ▸ r6⟩
   match r,hr with
   | 0,_=>exact hr'
   | 1,_ =>
    obtain⟨s1,rk,s2⟩:=h.shape hi';refine⟨fun j h0 hj=>?_,rk,fun j hj=>?_⟩
    · rw [qAv hk, List.length_map];exact s1 j h0 (by simpa using hj)
    · rw [qtV hk, List.length_map];exact s2 j (by simpa using hj)
   | 2,_ =>
    intro j hj;rw[List.getElem_map,hk.cov];exact Rat.mul_pos hk.pos (h.covers hi' j (by simpa using hj))
   | 3,_ =>
    intro j hj hl;have hj':j<m.2[i].length:=by simpa using hj
    rw[List.getElem_map] at hl ⊢;rw[hk.leaf] at hl;obtain⟨r1,r2,r3,r4,r5,r6⟩:=h.ranges hi' j hj' hl;rw[hk.l _ hl,hk.r _ hl,hk.cov,qom hk (by omega),qom hk (by omega),h.sums hi' j hj' hl,Rat.mul_add]
theorem quv {m:qak} (h:Good m) (hk:qm7 g m.1 f' c) {i:Nat} (hi:i<m.2.length):treeOf (m.2[i].map g)=treeOf m.2[i]:=by
 obtain⟨h1,h2,h3⟩:=h.treeOf hi;have:=qzc (m.2[i].length+1) _ (h1.map hk) h3;rw[h2] at this;rw[treeOf,List.length_map];exact this
theorem qyt (hk:qm7 g f f' c) {v:Rat} {t:List NODE} {row row':List CELL} {set set':Nat}
  (hv:∀ n,qby n=true->rv (nVal (g n))=v*rv (nVal n)) (hgo:∀ i,i<t.length->qby (qcj t i)=false->0<=qaM (qcj t i)->qaM (qcj t i)<f->goL (t.map g) row' i=goL t row i/\set'.testBit (qaM (g (qcj t i))).toNat=set.testBit (qaM (qcj t i)).toNat) :
  ∀ {T:TR},Is t f T->expT (t.map g) row' set' T=v*expT t row set T:=by
 intro T
 induction T with
 | leaf i =>
  rintro⟨h,hl⟩;simp only[expT];rw[ql8 hk h,hv _ (by rw[qcf h];exact hl)]
 | split i l r ihl ihr =>
  rintro⟨h,hl,f0,f1,h1,h2,h3,h4⟩;rw[<- qcf h] at hl f0 f1;obtain⟨q1,q2⟩:=hgo i h hl f0 f1;simp only[expT];rw[ql8 hk h,q1,q2,qom hk h,qom hk h3.top_lt,qom hk h4.top_lt,ihl h3,ihr h4];split
  · split<;>rfl
  · have hc : c ≠ 0 := fun e => by have := hk.pos; rw [e] at this; exact absurd this (by decide)
    rw[show c*cov t l.top*(v*expT t row set l)+c*cov t r.top*(v*expT t row set r)=c*(v*(cov t l.top*expT t row set l+cov t r.top*expT t row set r)) by grind,Rat.div_def,Rat.div_def,Rat.inv_mul_rev];rw[show c*(v*(cov t l.top*expT t row set l+cov t r.top*expT t row set r))*((cov t i)⁻¹*c⁻¹)=(c*c⁻¹)*(v*((cov t l.top*expT t row set l+cov t r.top*expT t row set r)*(cov t i)⁻¹)) by grind,Rat.mul_inv_cancel _ hc,Rat.one_mul]
theorem qv8 (f:Nat->Rat) (v:Rat) (n:Nat):rsum (fun i=>v*f i) n=v*rsum f n:=by
 have:=qin f v n;rw[Rat.mul_comm,<- this];exact qcd fun i _=>Rat.mul_comm _ _
theorem quw (m:qak) (f':Int) (g:NODE->NODE) {i:Nat} (hi:i<m.2.length):qcC (f',m.2.map (List.map g)) i=(qcC m i).map g:=by
 rw[qfS hi,qfS (m:=(f',m.2.map (List.map g))) (by simpa using hi),List.getElem_map]
theorem qxS {m:qak} (h:Good m) (hk:qm7 g m.1 f' c) {v:Rat} {row row':List CELL} {set set':Nat}
  (hv:∀ n,qby n=true->rv (nVal (g n))=v*rv (nVal n)) (hgo:∀ n,qby n=false->0<=qaM n->qaM n<m.1->goes (g n) (qj9 row' (qaM (g n)).toNat)=goes n (qj9 row (qaM n).toNat)/\set'.testBit (qaM (g n)).toNat=set.testBit (qaM n).toNat) :
  sayM (f',m.2.map (List.map g)) row' set'=v*sayM m row set:=by
 rw[sayM,sayM,<- qv8,List.length_map];refine qcd fun i hi=>?_
 rw[quw m f' g hi];have e:=quv h hk hi;rw[qfS hi,e];exact qyt hk hv (fun j hj hl f0 f1=>by
  obtain⟨a,b⟩:=hgo _ hl f0 f1;refine⟨?_,b⟩;rw[goL,goL,ql8 hk hj,a]) (h.treeOf hi).1
theorem qvW {n:NODE} (hl:qby n=false) (c:CELL):goes (qaZ n) c=goes n c:=by
 rw[qgL hl,goes,goes];show(if c.1=true then qrI n else decide (rv c.2<rv (canQ (rv (nCut n)))))=_;rw[qas]
theorem qsm:qbj ((0,[]):qak) (0,[])=some true:=qxr (by decide) (by simp) (by intro t h;cases h)
theorem qzt {x y:RAT} (hx:Sm x) (hy:Sm y) (h:rv x=rv y):qct x y=some true:=by
 rw[qlu hx hy,decide_eq_true h]
theorem qzm {α:Type} {p u:List α} {i:Nat} (hp:p.length=i) (hi:i<u.length):(p++u.drop i)[i]?=some u[i]:=by
 subst hp;rw[List.getElem?_append_right (Nat.le_refl _),Nat.sub_self,List.getElem?_drop,Nat.add_zero,gE0 hi]
theorem qto {t:List NODE} {k:Nat} (hl:t.length<4294967296) (hs:TSz t k) (hk:k<1099511627776) (a:List (List NODE)) (b c:Int) (z w:Int×List (Option (List NODE))) :
  lp qck K0 (([],a,b,c,t,((t.length:Nat):Int),0,()),((z.1,z.2,()),(w.1,w.2,()),()))=some ((qcs t,a,b,c,()),((z.1,z.2,()),(w.1,w.2,()),())):=by
 have key:=qf3 (step:=qck) (fun i=>(((t.take i).map qaZ,a,b,c,t,((t.length:Nat):Int),(i:Int),()),((z.1,z.2,()),(w.1,w.2,()),()))) t.length (r:=((qcs t,a,b,c,()),((z.1,z.2,()),(w.1,w.2,()),()))) (by omega) (by
  intro g i hi;have d0:(i:Int)<((t.length:Nat):Int):=by omega
  have d1:(0:Int)<=(i:Int):=by omega
  have hz:=hs _ (gM0 hi);have q1:=qaJ (hz.2.2.sm hk);have d4:(((t.take i).map qaZ).length+1)*208<=140737488355328:=by simp;omega
  rw[qck,cnd d0,cnd d1,tN0,gE0 hi,bS0,q1,bS0];cases hleaf:qby t[i] with
  | true =>
   have q2:=qaJ (hz.2.1.sm hk);have ht:qaZ t[i]=(true,0,zR,0,0,false,canQ (rv (nVal t[i])),canQ (rv (nCov t[i]))):=by rw[qaZ,hleaf];rfl
   rw[show t[i].1=true from hleaf,cond_true,q2,bS0,blt d4,cond_true,qbp (by omega),qcm _ hi,ht];rfl
  | false =>
   have q2:=qaJ (hz.1.sm hk);have ht:qaZ t[i]=(false,qaM t[i],canQ (rv (nCut t[i])),nL t[i],nR t[i],qrI t[i],zR,canQ (rv (nCov t[i]))):=by rw[qaZ,hleaf];rfl
   rw[show t[i].1=false from hleaf,cond_false,q2,bS0,blt d4,cond_true,qbp (by omega),qcm _ hi,ht];rfl) (by
  intro g;rw[qck,cnd' (by omega),List.take_length];rfl)
 exact key
def qkR {α:Type} (l:List α):List (Option α):=l.map some
theorem qyQ {m:qak} {k:Nat} (hl:m.2.length<4294967296) (ht:∀ t∈m.2,t.length<4294967296) (hs:MSz m k) (hk:k<1099511627776):qf2 m=some (m.1,qkR (m.2.map qcs)):=by
 have key:=qf3 (step:=qcl) (fun i=>((m.2,((m.2.length:Nat):Int),(i:Int),()),((0,[],()),(m.1,qkR ((m.2.take i).map qcs),()),()))) m.2.length (r:=((),((0,[],()),(m.1,qkR (m.2.map qcs),()),()))) (by omega) (by
  intro g i hi;have d0:(i:Int)<((m.2.length:Nat):Int):=by omega
  have d1:(0:Int)<=(i:Int):=by omega
  have hin:=qto (ht _ (gM0 hi)) (hs _ (gM0 hi)) hk m.2 ((m.2.length:Nat):Int) (i:Int) (0,[]) (m.1,qkR ((m.2.take i).map qcs));have d4:(((qkR ((m.2.take i).map qcs)).length+([some (qcs m.2[i])]:List (Option (List NODE))).length)*24)<=140737488355328:=by simp [qkR];omega
  rw[qcl,cnd d0,cnd d1,tN0,gE0 hi,bS0,hin,bS0,blt d4,cond_true,qbp (by omega),qcm _ hi];simp only[qkR,List.map_append,List.map_cons,List.map_nil];rfl) (by
  intro g;rw[qcl,cnd' (by omega),List.take_length])
 have key':lp qcl K0 ((m.2,((m.2.length:Nat):Int),0,()),((0,[],()),(m.1,[],()),()))=_:=key;rw[qf2,key'];rfl
def qfl (f:NODE->NODE) (m:qak):qak:=(m.1,m.2.map (List.map fun n=>f (qaZ n)))
theorem qw2 (f:NODE->NODE) (t:List NODE):(qcs t).map f=t.map fun n=>f (qaZ n):=by
 rw[qcs,List.map_map];rfl
theorem quc {f:NODE->NODE} {m:qak} {k k':Nat} (hs:MSz m k) (h0:0<k) (hf:∀ n,NSz n k->NSz (f n) k'):MSz (qfl f m) k':=by
 intro t ht;obtain⟨u,hu,rfl⟩:=List.mem_map.1 ht;intro n hn;obtain⟨x,hx,rfl⟩:=List.mem_map.1 hn;exact hf _ (qsx (hs u hu x hx) h0)
theorem qsa (f:NODE->NODE) (m:qak):(qfl f m).2.length=m.2.length:=by simp [qfl]
theorem qpm {f:NODE->NODE} {m:qak} {k:Nat} (h:∀ t∈m.2,t.length<=k):∀ t∈(qfl f m).2,t.length<=k:=by
 intro t ht;obtain⟨u,hu,rfl⟩:=List.mem_map.1 ht;rw[List.length_map];exact h u hu
theorem qqM {n:NODE} (hl:qby n=false):qaM (qaZ n)=qaM n:=by rw[qgL hl]
def wake:Option Bool:=qah.bind fun r=>some r
theorem qnn:wake=some true:=by rw[wake,qkL];rfl
def qsk (b:Nat->Bool):Nat->Nat
 | 0=>0
 | n+1=>qsk b n+if b n then 2 ^ n else 0
theorem qui (b:Nat->Bool):∀ n,qsk b n<2 ^ n:=by
 intro n
 induction n with
 | zero=>exact Nat.one_pos
 | succ n ih =>
  rw[qsk,Nat.pow_succ];split<;>omega
theorem qvt (b:Nat->Bool):∀ n j,(qsk b n).testBit j=(decide (j<n)&&b j):=by
 intro n
 induction n with
 | zero=>intro j;simp [qsk]
 | succ n ih =>
  intro j;rw[qsk];cases hb:b n with
  | false =>
   rw[if_neg (by decide),Nat.add_zero,ih];by_cases e:j=n
   · subst e;rw[hb,Bool.and_false,Bool.and_false]
   · rw[show decide (j<n+1)=decide (j<n) by rw[decide_eq_decide];omega]
  | true =>
   have hf:(qsk b n).testBit n=false:=Nat.testBit_lt_two_pow (qui b n);rw[if_pos rfl,qlc hf,ih];by_cases e:j=n
   · subst e;rw[hb];simp
   · rw[decide_eq_false e,Bool.false_or,show decide (j<n+1)=decide (j<n) by rw[decide_eq_decide];omega]
structure Turn (n:Nat) (s t:Nat->Nat):Prop where
 slt:∀ i,i<n->s i<n
 tlt:∀ f,f<n->t f<n
 st:∀ f,f<n->s (t f)=f
 ts:∀ i,i<n->t (s i)=i
def ql0 (s:Nat->Nat) (n S:Nat):Nat:=qsk (fun j=>S.testBit (s j)) n
variable {n:Nat} {s t:Nat->Nat}
theorem qpF (S:Nat):ql0 s n S<2 ^ n:=qui _ _
theorem qlh {S i:Nat} (h:i<n):(ql0 s n S).testBit i=S.testBit (s i):=by
 rw[ql0,qvt,decide_eq_true h,Bool.true_and]
theorem qli (ht:Turn n s t) {S f:Nat} (h:f<n):(ql0 s n S).testBit (t f)=S.testBit f:=by
 rw[qlh (ht.tlt f h),ht.st f h]
theorem qwU {a b:Nat} (ha:a<2 ^ n) (hb:b<2 ^ n) (h:∀ j,j<n->a.testBit j=b.testBit j):a=b:=by
 refine Nat.eq_of_testBit_eq fun j=>?_
 by_cases hj:j<n
 · exact h j hj
 · have hp : 2 ^ n <= 2 ^ j := Nat.pow_le_pow_right (by decide) (by omega);rw[Nat.testBit_lt_two_pow (Nat.lt_of_lt_of_le ha hp),Nat.testBit_lt_two_pow (Nat.lt_of_lt_of_le hb hp)]
theorem qvR (ht:Turn n s t) {S S':Nat} (h:S<2 ^ n) (h':S'<2 ^ n) (e:ql0 s n S=ql0 s n S'):S=S' :=
 qwU h h' fun f hf=>by rw[<- qli ht hf,e,qli ht hf]
theorem qvS (ht:Turn n s t) {S f:Nat} (hf:f<n) (h:S.testBit f=false) (hS:S<2 ^ n):ql0 s n (S+2 ^ f)=ql0 s n S+2 ^ t f:=by
 have h':(ql0 s n S).testBit (t f)=false:=by rw[qli ht hf,h]
 refine qwU (n:=n) (qpF _) (qmt h' (qpF _) (ht.tlt f hf)) fun j hj=>?_
 rw[qlh hj,qlc h,qlc h',qlh hj];congr 1;rw[decide_eq_decide];constructor
 · intro e;rw[<- e,ht.ts j hj]
 · intro e;rw[e,ht.st f hf]
theorem qvQ (ht:Turn n s t):((List.range n).map s).Perm (List.range n):=by
 have hnd:((List.range n).map s).Nodup:=by
  refine List.pairwise_iff_getElem.2 fun i j hi hj hij=>?_
  simp only[List.length_map,List.length_range] at hi hj;simp only[List.getElem_map,List.getElem_range];intro e;have:=ht.ts i hi;rw[e,ht.ts j hj] at this;omega
 obtain⟨R,hp,_⟩:=qkg hnd (n:=n) (fun j hj=>by
  obtain⟨i,hi,rfl⟩:=List.mem_map.1 hj;exact ht.slt i (List.mem_range.1 hi))
 have hl:=hp.length_eq;simp only[List.length_range,List.length_append,List.length_map] at hl;have:R=[]:=List.eq_nil_of_length_eq_zero (by omega);rw[this,List.append_nil] at hp;exact hp.symm
theorem qnS (S:Nat):∀ n,popc n S=((List.range n).filter fun j=>S.testBit j).length:=by
 intro n
 induction n with
 | zero=>rfl
 | succ n ih =>
  rw[popc,ih,List.range_succ,List.filter_append,List.length_append];cases h:S.testBit n with
  | true=>rw[if_pos rfl];simp [h]
  | false=>rw[if_neg (by decide)];simp [h]
theorem qwg (ht:Turn n s t) (S:Nat):popc n (ql0 s n S)=popc n S:=by
 rw[qnS,qnS,<- ((qvQ ht).filter fun j=>S.testBit j).length_eq,List.filter_map,List.length_map];congr 1;refine List.filter_congr fun i hi=>?_
 exact qlh (List.mem_range.1 hi)
theorem qqX (F:Nat->Rat):∀ N,rsum F N=lsum ((List.range N).map F):=by
 intro N
 induction N with
 | zero=>rfl
 | succ N ih =>
  rw[List.range_succ,List.map_append,qeY,<- ih];show rsum F N+F N=rsum F N+(F N+0);rw[Rat.add_zero]
theorem qu7 {a b:List Rat} (h:a.Perm b):lsum a=lsum b:=by
 induction h with
 | nil=>rfl
 | cons x _ ih=>show x+lsum _=x+lsum _;rw[ih]
 | swap x y l=>show y+(x+lsum l)=x+(y+lsum l);grind
 | trans _ _ h1 h2=>rw[h1,h2]
theorem qv7 (F:Nat->Rat) {N:Nat} {p:Nat->Nat} (hp:∀ i,i<N->p i<N) (hi:∀ i j,i<N->j<N->p i=p j->i=j):rsum F N=rsum (fun i=>F (p i)) N:=by
 have hnd:((List.range N).map p).Nodup:=by
  refine List.pairwise_iff_getElem.2 fun i j h1 h2 hij=>?_
  simp only[List.length_map,List.length_range] at h1 h2;simp only[List.getElem_map,List.getElem_range];intro e;have:=hi i j h1 h2 e;omega
 obtain⟨R,hr,_⟩:=qkg hnd (n:=N) (fun j hj=>by
  obtain⟨i,h,rfl⟩:=List.mem_map.1 hj;exact hp i (List.mem_range.1 h))
 have hl:=hr.length_eq;simp only[List.length_range,List.length_append,List.length_map] at hl;have:R=[]:=List.eq_nil_of_length_eq_zero (by omega);rw[this,List.append_nil] at hr;rw[qqX,qqX,qu7 (hr.map F),List.map_map];rfl
theorem quz (ht:Turn n s t) {v v':Nat->Rat} (hv:∀ S,S<2 ^ n->v' (ql0 s n S)=v S) {f:Nat} (hf:f<n):qeW v' n (t f)=qeW v n f:=by
 unfold qeW;rw[qv7 (qpM v' n (t f)) (p:=ql0 s n) (fun S _=>qpF S) (fun S S' h h' e=>qvR ht h h' e)];refine qcd fun S hS=>?_
 unfold qpM;rw[qli ht hf,qwg ht];cases h:S.testBit f with
 | true=>rw[if_pos rfl,if_pos rfl]
 | false =>
  rw[if_neg (by decide),if_neg (by decide),<- qvS ht hf h hS,hv _ (qmt h hS hf),hv S hS]
theorem qxa:∀ (n:Nat) (M:List Int),(∀ v:Nat,v<n->(v:Int)∈M)->n<=M.length:=by
 intro n
 induction n with
 | zero=>intro M _;omega
 | succ n ih =>
  intro M h;have hm:=h n (by omega);have:=ih (M.erase (n:Int)) (fun v hv=>(List.mem_erase_of_ne (by omega)).2 (h v (by omega)));have hl:=List.length_erase_of_mem hm;have:=List.length_pos_of_mem hm;omega
end Go.Proofs.YtlagkhlolphmdaaGreatDoor.X
