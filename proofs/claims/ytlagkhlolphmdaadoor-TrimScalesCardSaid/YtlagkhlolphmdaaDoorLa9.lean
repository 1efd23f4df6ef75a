/- Own work: part of the proof; the first line of each part says what it tells. -/
import Derived.Test.YtlagkhlolphmdaaDoorLa8


namespace Go.Proofs.YtlagkhlolphmdaaDoor.X
open Go
set_option linter.unusedVariables false
set_option linter.unusedSimpArgs false
theorem qh6 (a:RAT):qa9 a=some (cutR 4 a):=by
 obtain⟨⟨s,x⟩,y⟩:=a;unfold qa9 cutR;by_cases h1:4<x.length
 · have c1 : ((x.length : Nat) : Int) > 4 := by omega
   have c2:(4:Int)<=((x.length:Nat):Int):=by omega
   by_cases h2:4<y.length
   · have c3 : ((y.length : Nat) : Int) > 4 := by omega
     have c4:(4:Int)<=((y.length:Nat):Int):=by omega
     rw[cnd c1,cnd c2,cnd c3,cnd c4]
   · have c3 : ¬ ((y.length : Nat) : Int) > 4 := by omega
     rw[cnd c1,cnd c2,cnd' c3,List.take_of_length_le (l:=y) (by omega)]
 · have c1 : ¬ ((x.length : Nat) : Int) > 4 := by omega
   by_cases h2:4<y.length
   · have c3 : ((y.length : Nat) : Int) > 4 := by omega
     have c4:(4:Int)<=((y.length:Nat):Int):=by omega
     rw[cnd' c1,cnd c3,cnd c4,List.take_of_length_le (l:=x) (by omega)]
   · have c3 : ¬ ((y.length : Nat) : Int) > 4 := by omega
     rw[cnd' c1,cnd' c3,List.take_of_length_le (l:=x) (by omega),List.take_of_length_le (l:=y) (by omega)]
def qni (n:NODE):NODE:=(n.1,n.2.1,cutR 4 n.2.2.1,n.2.2.2.1,n.2.2.2.2.1,n.2.2.2.2.2.1,cutR 4 n.2.2.2.2.2.2.1,cutR 4 n.2.2.2.2.2.2.2)
def qfw (t:List NODE):List NODE:=(t.take 15).map qni
def cutM (m:qak):qak:=(m.1,(m.2.take 6).map qfw)
theorem qri (n:NODE):NSz (qni n) 4:=⟨qju 4 _,qju 4 _,qju 4 _⟩
theorem qrh (t:List NODE):TSz (qfw t) 4:=by
 intro n hn;obtain⟨x,_,rfl⟩:=List.mem_map.1 hn;exact qri x
theorem qpw (t:List NODE):(qfw t).length<=15:=by simp [qfw];omega
theorem qu7 (m:qak):MSz (cutM m) 4:=by
 intro t ht;obtain⟨x,_,rfl⟩:=List.mem_map.1 ht;exact qrh x
theorem qsu (m:qak):∀ t∈(cutM m).2,t.length<=15:=by
 intro t ht;obtain⟨x,_,rfl⟩:=List.mem_map.1 ht;exact qpw x
theorem qpI {m:qak} {i:Nat} (hi:i<m.2.length) (hl:m.2[i].length<=9223372036854775807) (hi2:i<4611686018427387904) (z w:Int×List (List NODE)) :
  lp qaz K0 (((i:Int),[],0,()),((m.1,m.2,()),(z.1,z.2,()),(w.1,w.2,()),()))=some (((i:Int),qfw m.2[i],()),((m.1,m.2,()),(z.1,z.2,()),(w.1,w.2,()),())):=by
 have hn:min m.2[i].length 15<=m.2[i].length:=Nat.min_le_left _ _;exact qhg (step:=qaz) (fun k=>(((i:Int),(m.2[i].take k).map qni,(k:Int),()),((m.1,m.2,()),(z.1,z.2,()),(w.1,w.2,()),()))) (min m.2[i].length 15) (by omega) (by
  intro g k hk;have h1:k<m.2[i].length:=by omega
  have d0:(0:Int)<=(i:Int):=by omega
  have d1:(k:Int)<((m.2[i].length:Nat):Int):=by omega
  have d2:(k:Int)<15:=by omega
  have d3:(0:Int)<=(k:Int):=by omega
  have d4:(((m.2[i].take k).map qni).length+1)*208<=140737488355328:=by simp;omega
  rw[qaz,cnd d0,tN0,gE0 hi,bS0,cnd d1,cnd d2,cnd d0,bS0,cnd d3,tN0,gE0 h1,bS0,qh6,bS0,qh6,bS0,qh6,bS0,blt d4,cond_true,qbO (by omega),qbo _ h1];rfl) (by
  intro g;have d0:(0:Int)<=(i:Int):=by omega
  by_cases h:m.2[i].length<=15
  · have c1 : ¬ ((min m.2[i].length 15 : Nat) : Int) < ((m.2[i].length : Nat) : Int) := by omega
    rw[qaz,cnd d0,tN0,gE0 hi,bS0,cnd' c1,Nat.min_eq_left h,List.take_of_length_le (Nat.le_refl _),qfw,List.take_of_length_le h]
  · have c1 : ((min m.2[i].length 15 : Nat) : Int) < ((m.2[i].length : Nat) : Int) := by omega
    have c2:¬ ((min m.2[i].length 15:Nat):Int)<15:=by omega
    rw[qaz,cnd d0,tN0,gE0 hi,bS0,cnd c1,cnd' c2,Nat.min_eq_right (by omega),qfw])
theorem qtW (m:qak) (hl:m.2.length<=9223372036854775807) (ht:∀ t∈m.2,t.length<=9223372036854775807):qcD m=some (cutM m):=by
 have hn:min m.2.length 6<=m.2.length:=Nat.min_le_left _ _;have key:=qhg (step:=qaA) (fun i=>(((i:Int),()),((m.1,m.2,()),(0,[],()),(m.1,(m.2.take i).map qfw,()),()))) (min m.2.length 6) (r:=((),((0,[],()),(m.1,(m.2.take 6).map qfw,()),()))) (by omega) (by
  intro g i hi;have h1:i<m.2.length:=by omega
  have d0:(i:Int)<((m.2.length:Nat):Int):=by omega
  have d1:(i:Int)<6:=by omega
  have hin:=qpI h1 (ht _ (gM0 h1)) (by omega) (0,[]) (m.1,(m.2.take i).map qfw);have d4:(((m.2.take i).map qfw).length+1)*24<=140737488355328:=by simp;omega
  rw[qaA,cnd d0,cnd d1,hin,bS0,blt d4,cond_true,qbO (by omega),qbo _ h1];rfl) (by
  intro g;by_cases h:m.2.length<=6
  · have c1 : ¬ ((min m.2.length 6 : Nat) : Int) < ((m.2.length : Nat) : Int) := by omega
    rw[qaA,cnd' c1,Nat.min_eq_left h,List.take_of_length_le (Nat.le_refl _),List.take_of_length_le h]
  · have c1 : ((min m.2.length 6 : Nat) : Int) < ((m.2.length : Nat) : Int) := by omega
    have c2:¬ ((min m.2.length 6:Nat):Int)<6:=by omega
    rw[qaA,cnd c1,cnd' c2,Nat.min_eq_right (by omega)])
 have key':lp qaA K0 ((0,()),((m.1,m.2,()),(0,[],()),(m.1,[],()),()))=_:=key;rw[qcD,key'];rfl
inductive TR where
 | leaf (i:Nat)
 | split (i:Nat) (l r:TR)
def TR.top:TR->Nat
 | .leaf i=>i
 | .split i _ _=>i
def TR.size:TR->Nat
 | .leaf _=>1
 | .split _ l r=>1+l.size+r.size
def TR.deep:TR->Nat
 | .leaf _=>1
 | .split _ l r=>1+max l.deep r.deep
def Is (t:List NODE) (f:Int):TR->Prop
 | .leaf i=>∃ h:i<t.length,qbJ t[i]=true
 | .split i l r=>∃ h:i<t.length,qbJ t[i]=false/\0<=qaZ t[i]/\qaZ t[i]<f/\nL t[i]=(l.top:Int)/\nR t[i]=(r.top:Int)/\Is t f l/\Is t f r
theorem qus {t:List NODE} {f:Int} (hr:qeu t f) (hrk:qqu t):∀ i,i<t.length->∃ T,Is t f T/\T.top=i/\T.deep<=t.length+1:=by
 obtain⟨rk,hrk⟩:=hrk;have key:∀ (d i:Nat),i<t.length->rk i<=d->∃ T,Is t f T/\T.top=i/\T.deep<=rk i+1:=by
  intro d
  induction d with
  | zero =>
   intro i hi hd;cases hl:qbJ t[i] with
   | true=>exact⟨.leaf i,⟨hi,hl⟩,rfl,by simp [TR.deep]⟩
   | false =>
    have:=(hrk i hi).2 (nL t[i]).toNat (by rw[qdQ hi hl];simp);omega
  | succ d ih =>
   intro i hi hd;cases hl:qbJ t[i] with
   | true=>exact⟨.leaf i,⟨hi,hl⟩,rfl,by simp [TR.deep]⟩
   | false =>
    obtain⟨r1,r2,r3,r4,r5,r6⟩:=hr i hi hl;have k1:=(hrk i hi).2 (nL t[i]).toNat (by rw[qdQ hi hl];simp);have k2:=(hrk i hi).2 (nR t[i]).toNat (by rw[qdQ hi hl];simp);obtain⟨L,hL,hLt,hLd⟩:=ih (nL t[i]).toNat (by omega) (by omega);obtain⟨R,hR,hRt,hRd⟩:=ih (nR t[i]).toNat (by omega) (by omega);refine⟨.split i L R,⟨hi,hl,r1,r2,by rw[hLt];omega,by rw[hRt];omega,hL,hR⟩,rfl,?_⟩
    simp only[TR.deep];omega
 intro i hi;obtain⟨T,h1,h2,h3⟩:=key (rk i) i hi (Nat.le_refl _);have:=(hrk i hi).1;exact⟨T,h1,h2,by omega⟩
theorem Good.tree {m:qak} (h:Good m) {i:Nat} (hi:i<m.2.length):∃ T,Is m.2[i] m.1 T/\T.top=0/\T.deep<=m.2[i].length+1 :=
 qus (h.ranges hi) (h.shape hi).2 0 (h.1.2.2.2 i hi).1
abbrev zR:RAT:=((false,[]),[])
abbrev zN:NODE:=(false,0,zR,0,0,false,zR,zR)
def qeC (t:List NODE) (i:Nat):NODE:=(t[i]?).getD zN
theorem qbS {t:List NODE} {i:Nat} (h:i<t.length):qeC t i=t[i]:=by simp [qeC,h]
def qlc (row:List CELL) (i:Nat):CELL:=(row[i]?).getD (false,zR)
theorem qmf {row:List CELL} {i:Nat} (h:i<row.length):qlc row i=row[i]:=by simp [qlc,h]
def goes (n:NODE) (c:CELL):Bool:=if c.1 then qoe n else decide (rv c.2<rv (nCut n))
def goL (t:List NODE) (row:List CELL) (i:Nat):Bool:=goes (qeC t i) (qlc row (qaZ (qeC t i)).toNat)
def wayT (t:List NODE) (row:List CELL):TR->List Nat
 | .leaf i=>[i]
 | .split i l r=>i::if goL t row i then wayT t row l else wayT t row r
theorem Is.top_lt {t:List NODE} {f:Int} {T:TR} (h:Is t f T):T.top<t.length:=by
 cases T with
 | leaf i=>exact h.1
 | split i l r=>exact h.1
theorem TR.size_lt (T:TR):T.size<2 ^ T.deep:=by
 induction T with
 | leaf i=>simp [TR.size,TR.deep]
 | split i l r ihl ihr =>
  simp only[TR.size,TR.deep];have h1:2 ^ l.deep<=2 ^ max l.deep r.deep:=Nat.pow_le_pow_right (by decide) (Nat.le_max_left _ _);have h2:2 ^ r.deep<=2 ^ max l.deep r.deep:=Nat.pow_le_pow_right (by decide) (Nat.le_max_right _ _);rw[Nat.add_comm 1 (max l.deep r.deep),Nat.pow_succ];omega
theorem TR.size_le {T:TR} (h:T.deep<=16):T.size<65536:=by
 have h1:=T.size_lt;have h2:2 ^ T.deep<=2 ^ 16:=Nat.pow_le_pow_right (by decide) h;omega
theorem TR.deep_pos (T:TR):0<T.deep:=by cases T<;>simp [TR.deep]<;>omega
def expT (t:List NODE) (row:List CELL) (set:Nat):TR->Rat
 | .leaf i=>rv (nVal (qeC t i))
 | .split i l r=>if set.testBit (qaZ (qeC t i)).toNat then (if goL t row i then expT t row set l else expT t row set r)
  else (cov t l.top*expT t row set l+cov t r.top*expT t row set r)/cov t i
theorem TSz.at {t:List NODE} {k:Nat} (h:TSz t k) {i:Nat} (hi:i<t.length):NSz (qeC t i) k:=by rw[qbS hi];exact h _ (gM0 hi)
theorem qsw {t:List NODE} (hs:TSz t 4) {i:Nat} (hi:i<t.length):SzQ (cov t i) 4:=(hs.at hi).2.2.szQ (by decide)
theorem qpo {t:List NODE} {f:Int} {row:List CELL} {set:Nat} {T:TR} (hs:TSz t 4) (h:Is t f T):SzQ (expT t row set T) (16*T.size):=by
 induction T with
 | leaf i=>exact((hs.at h.1).2.1.szQ (by decide)).mono (by simp [TR.size])
 | split i l r ihl ihr =>
  obtain⟨h1,_,_,_,_,_,h2,h3⟩:=h;have a:=ihl h2;have b:=ihr h3;simp only[expT,TR.size];split
  · split
    · exact a.mono (by omega)
    · exact b.mono (by omega)
  · have := (((qsw hs h2.top_lt).mul a).add ((qsw hs h3.top_lt).mul b)).div (qsw hs h1);exact this.mono (by omega)
def mkT (t:List NODE):Nat->Nat->TR
 | 0,i=>.leaf i
 | d+1,i=>if qbJ (qeC t i) then .leaf i else .split i (mkT t d (nL (qeC t i)).toNat) (mkT t d (nR (qeC t i)).toNat)
theorem qt7 {t:List NODE} {f:Int}:∀ (d:Nat) (T:TR),Is t f T->T.deep<=d->mkT t d T.top=T:=by
 intro d
 induction d with
 | zero=>intro T _ h;have:=T.deep_pos;omega
 | succ d ih =>
  intro T h hd;cases T with
  | leaf i =>
   obtain⟨h1,h2⟩:=h;simp only[TR.top,mkT,qbS h1,h2,if_true]
  | split i l r =>
   obtain⟨h1,h2,_,_,h3,h4,h5,h6⟩:=h;simp only[TR.deep] at hd;show mkT t (d+1) i=_;rw[mkT,qbS h1,h2,h3,h4,tN0,tN0,ih l h5 (by omega),ih r h6 (by omega)];rfl
def treeOf (t:List NODE):TR:=mkT t (t.length+1) 0
theorem Good.treeOf {m:qak} (h:Good m) {i:Nat} (hi:i<m.2.length):Is m.2[i] m.1 (treeOf m.2[i])/\(treeOf m.2[i]).top=0/\(treeOf m.2[i]).deep<=m.2[i].length+1:=by
 obtain⟨T,h1,h2,h3⟩:=h.tree hi;have:X.treeOf m.2[i]=T:=by rw[X.treeOf,<- h2];exact qt7 _ T h1 h3
 rw[this];exact⟨h1,h2,h3⟩
def qbP (m:qak) (i:Nat):List NODE:=(m.2[i]?).getD []
theorem qdE {m:qak} {i:Nat} (h:i<m.2.length):qbP m i=m.2[i]:=by simp [qbP,h]
def sayM (m:qak) (row:List CELL) (set:Nat):Rat:=rsum (fun i=>expT (qbP m i) row set (treeOf (qbP m i))) m.2.length
theorem MSz.at {m:qak} {k:Nat} (h:MSz m k) {i:Nat} (hi:i<m.2.length):TSz (qbP m i) k:=by rw[qdE hi];exact h _ (gM0 hi)
theorem Good.isAt {m:qak} (h:Good m) {i:Nat} (hi:i<m.2.length):Is (qbP m i) m.1 (X.treeOf (qbP m i)):=by rw[qdE hi];exact(h.treeOf hi).1
theorem qqn {m:qak} (h:Good m) (hl:∀ t∈m.2,t.length<=15) {i:Nat} (hi:i<m.2.length):(treeOf (qbP m i)).deep<=16:=by
 rw[qdE hi];have:=(h.treeOf hi).2.2;have:=hl _ (gM0 hi);omega
theorem qu1 {m:qak} {row:List CELL} {set:Nat} (h:Good m) (hs:MSz m 4) (hl:∀ t∈m.2,t.length<=15) {i:Nat} (hi:i<m.2.length):SzQ (expT (qbP m i) row set (treeOf (qbP m i))) 1048576:=by
 have:=TR.size_le (qqn h hl hi);exact(qpo (hs.at hi) (h.isAt hi)).mono (by omega)
theorem qrK {m:qak} {row:List CELL} {set:Nat} (h:Good m) (hs:MSz m 4) (hl:∀ t∈m.2,t.length<=15) {n:Nat} (hn:n<=m.2.length):SzQ (rsum (fun i=>expT (qbP m i) row set (treeOf (qbP m i))) n) (1+n*1048577) :=
 qrL fun i hi=>qu1 h hs hl (by omega)
def qau (n:NODE):NODE :=
 if qbJ n then (qbJ n,0,zR,0,0,false,canQ (rv (nVal n)),canQ (rv (nCov n)))
 else (qbJ n,qaZ n,canQ (rv (nCut n)),nL n,nR n,qoe n,zR,canQ (rv (nCov n)))
def qaI (t:List NODE):List NODE:=t.map qau
theorem qkZ {α:Type} {a b:List α} (hl:a.length=b.length):a=b ↔ ∀ i,(h:i<a.length)->a[i]=b[i]:=by
 constructor
 · rintro rfl i h;rfl
 · intro h;exact List.ext_getElem hl (fun i h1 h2=>h i h1)
theorem qm7 {a b:RAT} (h1:a.1.2.length<4611686018427387904) (h2:a.2.length<4611686018427387904):qbp a b=some (decide (a=b)):=by
 obtain⟨⟨s,x⟩,y⟩:=a;obtain⟨⟨s',x'⟩,y'⟩:=b;dsimp only at h1 h2;unfold qbp;dsimp only;by_cases e1:s=s'
 · subst e1;rw[show(!(s == s))=false by simp,cond_false];by_cases e2:x.length=x'.length
   · rw [show decide ((x.length : Int) = (x'.length : Int)) = true from decide_eq_true (by omega), Bool.not_true, cond_false];by_cases e3:y.length=y'.length
     · rw [show decide ((y.length : Int) = (y'.length : Int)) = true from decide_eq_true (by omega), Bool.not_true, cond_false];rcases qh1 (step:=qan) (fun i=>(((i:Int),()),((s,x,y,()),(s,x',y',()),()))) x.length (fun i=>∀ h:i<x.length,x[i]=x'[i]) (fun i=>.inr ((false,()),())) (.inl ((),((s,x,y,()),(s,x',y',()),()))) (by omega) (by
           intro i hi;have hi':i<x'.length:=by omega
           have d0:(i:Int)<((x.length:Nat):Int):=by omega
           have d1:(0:Int)<=(i:Int):=by omega
           by_cases h:x[i]=x'[i]
           · refine .inl ⟨fun _ => h, fun g => ?_⟩;rw[qan,cnd d0,cnd d1,tN0,gE0 hi,bS0,cnd d1,gE0 hi',bS0,decide_eq_true h,qbO (by omega)];rfl
           · refine .inr ⟨fun h' => h (h' hi), fun g => ?_⟩;rw[qan,cnd d0,cnd d1,tN0,gE0 hi,bS0,cnd d1,gE0 hi',bS0,decide_eq_false h];rfl) (by
           intro g;rw[qan,cnd' (by omega)]) with ⟨h,hlp⟩ | ⟨i,hi,h,hlp⟩
       · have hlp : lp qan K0 ((0, ()), ((s, x, y, ()), (s, x', y', ()), ())) = _ := hlp;have ex:x=x':=(qkZ e2).2 (fun i hi=>h i hi hi);subst ex;rw[hlp,bS0];dsimp only;rcases qh1 (step:=qam) (fun i=>(((i:Int),()),((s,x,y,()),(s,x,y',()),()))) y.length (fun i=>∀ h:i<y.length,y[i]=y'[i]) (fun i=>.inr ((false,()),())) (.inl ((),())) (by omega) (by
             intro i hi;have hi':i<y'.length:=by omega
             have d0:(i:Int)<((y.length:Nat):Int):=by omega
             have d1:(0:Int)<=(i:Int):=by omega
             by_cases h:y[i]=y'[i]
             · refine .inl ⟨fun _ => h, fun g => ?_⟩;rw[qam,cnd d0,cnd d1,tN0,gE0 hi,bS0,cnd d1,gE0 hi',bS0,decide_eq_true h,qbO (by omega)];rfl
             · refine .inr ⟨fun h' => h (h' hi), fun g => ?_⟩;rw[qam,cnd d0,cnd d1,tN0,gE0 hi,bS0,cnd d1,gE0 hi',bS0,decide_eq_false h];rfl) (by
             intro g;rw[qam,cnd' (by omega)]) with ⟨h,hlp⟩ | ⟨i,hi,h,hlp⟩
         · have hlp : lp qam K0 ((0, ()), ((s, x, y, ()), (s, x, y', ()), ())) = _ := hlp;have ey:y=y':=(qkZ e3).2 (fun i hi=>h i hi hi);subst ey;rw[hlp,decide_eq_true rfl];rfl
         · have hlp : lp qam K0 ((0, ()), ((s, x, y, ()), (s, x, y', ()), ())) = _ := hlp;rw[hlp,decide_eq_false (fun e=>h (fun hh=>by injection e with _ e;subst e;rfl))];rfl
       · have hlp : lp qan K0 ((0, ()), ((s, x, y, ()), (s, x', y', ()), ())) = _ := hlp;rw[hlp,decide_eq_false (fun e=>h (fun hh=>by injection e with e _;injection e with _ e;subst e;rfl))];rfl
     · rw[show decide ((y.length:Int)=(y'.length:Int))=false from decide_eq_false (by omega),Bool.not_false,cond_true,decide_eq_false (fun e=>e3 (by injection e with _ e;rw[e]))]
   · rw[show decide ((x.length:Int)=(x'.length:Int))=false from decide_eq_false (by omega),Bool.not_false,cond_true,decide_eq_false (fun e=>e2 (by injection e with e _;injection e with _ e;rw[e]))]
 · rw[show(!(s == s'))=true by simp [e1],cond_true,decide_eq_false (fun e=>e1 (by injection e with e _;injection e with e _))]
def qr8 (v c:RAT):NODE:=(true,0,zR,0,0,false,v,c)
theorem qeA {n:NODE} (h:qbJ n=true):qau n=qr8 (canQ (rv (nVal n))) (canQ (rv (nCov n))):=by rw[qau,if_pos h,h];rfl
theorem qbR {n:NODE} (h:qbJ n=false):qau n=(false,qaZ n,canQ (rv (nCut n)),nL n,nR n,qoe n,zR,canQ (rv (nCov n))):=by rw[qau,if_neg (by rw[h];decide),h]
theorem qrq {m:qak} {i:Nat} (hi:i<m.2.length) (hl:m.2[i].length<4294967296) (hs:∀ n∈m.2[i],NSz n 4611686018427387903) (hi2:i<4611686018427387904) :
  lp qaC K0 (((i:Int),0,()),((m.1,m.2,()),(m.1,m.2,()),()))=some (.inl (((i:Int),()),((m.1,m.2,()),(m.1,m.2,()),()))):=by
 exact qhg (step:=qaC) (fun k=>(((i:Int),(k:Int),()),((m.1,m.2,()),(m.1,m.2,()),()))) m.2[i].length (by omega) (by
  intro g k hk;have d0:(0:Int)<=(i:Int):=by omega
  have d1:(k:Int)<((m.2[i].length:Nat):Int):=by omega
  have d3:(0:Int)<=(k:Int):=by omega
  have z:=hs _ (gM0 hk);have e1:=qm7 (a:=m.2[i][k].2.2.1) (b:=m.2[i][k].2.2.1) (Nat.lt_of_le_of_lt z.1.1 (by decide)) (Nat.lt_of_le_of_lt z.1.2 (by decide));have e2:=qm7 (a:=m.2[i][k].2.2.2.2.2.2.1) (b:=m.2[i][k].2.2.2.2.2.2.1) (Nat.lt_of_le_of_lt z.2.1.1 (by decide)) (Nat.lt_of_le_of_lt z.2.1.2 (by decide));have e3:=qm7 (a:=m.2[i][k].2.2.2.2.2.2.2) (b:=m.2[i][k].2.2.2.2.2.2.2) (Nat.lt_of_le_of_lt z.2.2.1 (by decide)) (Nat.lt_of_le_of_lt z.2.2.2 (by decide));rw[decide_eq_true rfl] at e1 e2 e3;have bb:∀ b:Bool,(!(b == b))=false:=by intro b;cases b<;>rfl
  have ii:∀ b:Int,(!decide (b=b))=false:=by intro b;rw[decide_eq_true rfl];rfl
  rw[qaC,cnd d0,tN0,gE0 hi,bS0,cnd d1,cnd d0,bS0,cnd d3,tN0,gE0 hk,bS0,cnd d0,bS0,cnd d3,gE0 hk,bS0,bb,cond_false,ii,cond_false,ii,cond_false,ii,cond_false,bb,cond_false,e1,bS0,Bool.not_true,cond_false,e2,bS0,Bool.not_true,cond_false,e3,bS0,Bool.not_true,cond_false,qbO (by omega)];rfl) (by
  intro g;have d0:(0:Int)<=(i:Int):=by omega
  rw[qaC,cnd d0,tN0,gE0 hi,bS0,cnd' (by omega)])
theorem qsK {m:qak} (hl:m.2.length<4294967296) (ht:∀ t∈m.2,t.length<4294967296) (hs:MSz m 4611686018427387903):qaj m m=some true:=by
 have ii:∀ b:Int,(!decide (b=b))=false:=by intro b;rw[decide_eq_true rfl];rfl
 have key:=qhg (step:=qaD) (fun i=>(((i:Int),()),((m.1,m.2,()),(m.1,m.2,()),()))) m.2.length (r:=.inl ((),())) (by omega) (by
  intro g i hi;have d0:(i:Int)<((m.2.length:Nat):Int):=by omega
  have d1:(0:Int)<=(i:Int):=by omega
  rw[qaD,cnd d0,cnd d1,tN0,gE0 hi,bS0,cnd d1,bS0,ii,cond_false,qrq hi (ht _ (gM0 hi)) (hs _ (gM0 hi)) (by omega),bS0];dsimp only;rw[qbO (by omega)];rfl) (by
  intro g;rw[qaD,cnd' (by omega)])
 have key':lp qaD K0 ((0,()),((m.1,m.2,()),(m.1,m.2,()),()))=_:=key;rw[qaj,ii,cond_false,ii,cond_false,key'];rfl
theorem qlH:qaa=some true:=by decide +kernel
theorem qkF {n:NODE} {k:Nat} (h:NSz n k) (hk:0<k):NSz (qau n) k:=by
 have c:∀ {a:RAT},SzR a k->SzR (canQ (rv a)) k:=fun h=>(h.szQ hk).szR
 have z:SzR zR k:=⟨Nat.zero_le _,Nat.zero_le _⟩;unfold qau;split
 · exact⟨z,c h.2.1,c h.2.2⟩
 · exact⟨c h.1,z,c h.2.2⟩
theorem qkE {t:List NODE} {k:Nat} (h:TSz t k) (hk:0<k):TSz (qaI t) k:=by
 intro n hn;obtain⟨x,hx,rfl⟩:=List.mem_map.1 hn;exact qkF (h x hx) hk
def CSz (row:List CELL) (k:Nat):Prop:=∀ c∈row,SzR c.2 k
theorem quW {n:NODE} {c:CELL} {k j:Nat} (hn:SzR (nCut n) k) (hk:k<1099511627776) (hc:SzR c.2 j) (hj:j<1099511627776):qfY n c=some (goes n c):=by
 unfold qfY goes;cases h:c.1 with
 | true=>rfl
 | false =>
  rw[cond_false,qjN (hc.sm hj) (hn.sm hk),bS0,if_neg (by decide)];congr 1;by_cases h:rv c.2<rv (nCut n)
  · rw[decide_eq_true (qpY.2 h),decide_eq_true h]
  · rw[decide_eq_false (fun e=>h (qpY.1 e)),decide_eq_false h]
theorem qsP {n:NODE} {c:CELL} {k j:Nat} (hn:SzR (nCut n) k) (hk:k<1099511627776) (hc:SzR c.2 j) (hj:j<1099511627776):qfZ n c=some (!qbJ n&&goes n c):=by
 unfold qfZ;rw[quW hn hk hc hj];show _=some (!n.1&&goes n c);cases h:n.1 with
 | true=>rfl
 | false=>rfl
theorem qvD {t:List NODE} {f:Int} {row:List CELL} {i:Nat} (hs:TSz t 4) (hc:CSz row 9) (hi:i<t.length) (h0:0<=qaZ t[i]) (h1:qaZ t[i]<(row.length:Int)) :
  ∃ c,row[(qaZ t[i]).toNat]?=some c/\SzR c.2 9/\goes t[i] c=goL t row i:=by
 have hlt:(qaZ t[i]).toNat<row.length:=by omega
 refine⟨row[(qaZ t[i]).toNat],gE0 hlt,hc _ (gM0 hlt),?_⟩;rw[goL,qbS hi,qmf hlt]
theorem qst (l:List CELL):CSz (l.map qfM) 9:=by
 intro c hc;obtain⟨x,_,rfl⟩:=List.mem_map.1 hc;exact⟨Nat.le_trans (qju 3 _).1 (by decide),Nat.le_trans (qju 3 _).2 (by decide)⟩
structure Askd (m:qak) (row:List CELL):Prop where
 good:Good m
 len:(row.length:Int)=m.1
 ms:MSz m 4
 ml:m.2.length<=6
 mt:∀ t∈m.2,t.length<=15
 cs:CSz row 9
theorem Askd.tree {m:qak} {row:List CELL} (h:Askd m row) {i:Nat} (hi:i<m.2.length):TSz m.2[i] 4/\Is m.2[i] (row.length:Int) (treeOf (qbP m i))/\(treeOf (qbP m i)).top=0/\(treeOf (qbP m i)).deep<=16/\qbP m i=m.2[i]:=by
 have h1:=h.good.treeOf hi;have h2:=qqn h.good h.mt hi;rw[qdE hi] at h2 ⊢;exact⟨h.ms _ (gM0 hi),by rw[h.len];exact h1.1,h1.2.1,h2,rfl⟩
theorem qpN {f:Nat->Rat} {n k:Nat} {q:RAT} (hs:SzQ (rsum f n) k) (hk:k<1099511627776) (hq:Sm q) (e:rv q=f n):qeB (((canQ (rsum f n)).1.1,(canQ (rsum f n)).1.2),(canQ (rsum f n)).2) q=some (canQ (rsum f (n+1))):=by
 have h1:=qfD (hs.sm hk) hq;rw[qbN,e] at h1;exact h1
theorem qoR (n k:Nat):(n/2 ^ k) % 2=1 ↔ n.testBit k=true:=by
 rw[Nat.testBit_eq_decide_div_mod_eq,decide_eq_true_iff]
theorem qvB {set k:Nat} (hs:set<18446744073709551616) (hk:k<1000000):qc3 (set:Int) (k:Int)=some (set.testBit k):=by
 have key:=qhg (step:=qaK) (fun i=>((((set/2 ^ i:Nat):Int),(k:Int),(i:Int),()),())) k (r:=((((set/2 ^ k:Nat):Int),()),())) (by omega) (by
   intro g i hi;have d0:(i:Int)<(k:Int):=by omega
   have h2:(set/2 ^ i:Nat)<18446744073709551616:=Nat.lt_of_le_of_lt (Nat.div_le_self _ _) hs;obtain⟨x,hx⟩:∃ x,x=set/2 ^ i:=⟨_,rfl⟩;have e:set/2 ^ (i+1)=x/2:=by rw[hx,Nat.pow_succ,Nat.div_div_eq_div_mul]
   rw[e,<- hx];rw[<- hx] at h2;rw[qaK,cnd d0,qbO (by omega),qsb (by omega) (by omega) (by omega)];rfl) (by
   intro g;rw[qaK,cnd' (by omega)])
 have e0:set/2 ^ 0=set:=by simp
 have key':lp qaK K0 ((((set/2 ^ 0:Nat):Int),(k:Int),0,()),())=_:=key;rw[e0] at key';rw[qc3,key',bS0,ql5 (Int.natCast_nonneg _)];congr 1;obtain⟨x,hx⟩:∃ x,x=set/2 ^ k:=⟨_,rfl⟩;have tb:=qoR set k;rw[<- hx] at tb ⊢;by_cases h:set.testBit k=true
 · rw [h, decide_eq_true];have:=tb.2 h;omega
 · have h' : set.testBit k = false := by simpa using h
   rw[h',decide_eq_false];intro e;exact h (tb.1 (by omega))
theorem qtP {t:List NODE} {row:List CELL} {set:Nat} (hs:TSz t 4) (hc:CSz row 9) (hcov:qin t) (hset:set<18446744073709551616) (hf64:row.length<=64):∀ (n:Nat) (T:TR),Is t (row.length:Int) T->T.deep<=n->T.size<=1000000 ->
  ∃ x,qal n t (T.top:Int) row (set:Int)=some x/\rv x=expT t row set T/\SzR x (16*T.size):=by
 intro n
 induction n with
 | zero=>intro T _ hd;have:=T.deep_pos;omega
 | succ n ih =>
  intro T h hd hz;show ∃ x,qaX (qal n) t T.top row set=some x/\_;cases T with
  | leaf i =>
   obtain⟨h1,h2⟩:=h;have d0:(0:Int)<=(i:Int):=by omega
   have z:=(hs _ (gM0 h1)).2.1;refine⟨nVal t[i],?_,?_,⟨by have:=z.1;simp only[TR.size];omega,by have:=z.2;simp only[TR.size];omega⟩⟩
   · rw[qaX,show((TR.leaf i).top:Int)=(i:Int) from rfl,cnd d0,tN0,gE0 h1,bS0,show t[i].1=true from h2,cond_true]
   · rw[expT,qbS h1]
  | split i l r =>
   obtain⟨h1,h2,f0,f1,h3,h4,h5,h6⟩:=h;have d0:(0:Int)<=(i:Int):=by omega
   simp only[TR.deep] at hd;simp only[TR.size] at hz ⊢;obtain⟨c,g1,g2,g3⟩:=qvD (f:=0) hs hc h1 f0 f1;have z:=hs _ (gM0 h1);obtain⟨xl,el,vl,zl⟩:=ih l h5 (by omega) (by omega);obtain⟨xr,er,vr,zr⟩:=ih r h6 (by omega) (by omega);have el':qal n t t[i].2.2.2.1 row set=some xl:=by rw[show t[i].2.2.2.1=_ from h3];exact el
   have er':qal n t t[i].2.2.2.2.1 row set=some xr:=by rw[show t[i].2.2.2.2.1=_ from h4];exact er
   have hft:((qaZ t[i]).toNat:Int)=qaZ t[i]:=by omega
   have hkn:=qvB (k:=(qaZ t[i]).toNat) hset (by omega);rw[hft] at hkn;rw[qaX,show((TR.split i l r).top:Int)=(i:Int) from rfl,cnd d0,tN0,gE0 h1,bS0,show t[i].1=false from h2,cond_false,hkn,bS0];simp only[expT,qbS h1];cases hb:set.testBit (qaZ t[i]).toNat with
   | true =>
     rw[cond_true,cnd f0,g1,bS0,qsP z.1 (by decide) g2 (by decide),bS0,g3,show(!qbJ t[i])=true by rw[h2];rfl,Bool.true_and,if_pos rfl];cases goL t row i with
     | true=>exact⟨xl,by rw[cond_true,el',bS0],by rw[if_pos rfl];exact vl,⟨by have:=zl.1;omega,by have:=zl.2;omega⟩⟩
     | false=>exact⟨xr,by rw[cond_false,er',bS0],by rw[if_neg (by decide)];exact vr,⟨by have:=zr.1;omega,by have:=zr.2;omega⟩⟩
   | false =>
     have al:=h5.top_lt;have ar:=h6.top_lt;have za:=(hs _ (gM0 al)).2.2;have zb:=(hs _ (gM0 ar)).2.2;have zi:=z.2.2;have m1:=qcn (za.sm (by decide)) (zl.sm (by omega));have m2:=qcn (zb.sm (by decide)) (zr.sm (by omega));rw[vl] at m1;rw[vr] at m2;have sl:=qpo (row:=row) (set:=set) hs h5;have sr:=qpo (row:=row) (set:=set) hs h6;have s1:=(za.szQ (by decide)).mul sl;have s2:=(zb.szQ (by decide)).mul sr;have s3:=s1.add s2;have m3:=qfD (s1.sm (by omega)) (s2.sm (by omega));rw[qbN,qbN] at m3;have hne:rv (nCov t[i])≠0:=by
       have:=hcov i h1;intro e;rw[e] at this;exact absurd this (by decide)
     have m4:=qjL (s3.sm (by omega)) (zi.sm (by decide));rw[if_neg hne,qbN] at m4;have s4:=s3.div (zi.szQ (by decide));refine⟨_,?_,?_,(s4.mono (m:=16*(1+l.size+r.size)) (by omega)).szR⟩
     · rw[cond_false,show t[i].2.2.2.1=_ from h3,cnd (by omega),tN0,gE0 al,bS0,el,bS0,m1,bS0,show t[i].2.2.2.2.1=_ from h4,cnd (by omega),tN0,gE0 ar,bS0,er,bS0,m2,bS0,m3,bS0,m4,bS0]
     · rw[qbN,if_neg (by decide),qeV al,qeV ar,qeV h1]
theorem Askd.cov {m:qak} {row:List CELL} (h:Askd m row) {i:Nat} (hi:i<m.2.length):qin m.2[i]:=h.good.covers hi
theorem Askd.f64 {m:qak} {row:List CELL} (h:Askd m row):row.length<=64:=by
 have:=h.good.1.2.1;have:=h.len;omega
theorem qrp {m:qak} {row:List CELL} (h:Askd m row) {set:Nat} (hset:set<18446744073709551616):qab m row (set:Int)=some (canQ (sayM m row set)):=by
 have ml:=h.ml;obtain⟨F,eF⟩:∃ F:Nat->Rat,F=fun i=>expT (qbP m i) row set (treeOf (qbP m i)):=⟨_,rfl⟩
 have hF:∀ n,n<=m.2.length->SzQ (rsum F n) (1+n*1048577):=fun n hn=>by rw[eF];exact qrK h.good h.ms h.mt hn
 have key:=qhg (step:=qai) (fun i=>((row,(set:Int),(i:Int),()),((m.1,m.2,()),(false,[],[],()),((canQ (rsum F i)).1.1,(canQ (rsum F i)).1.2,(canQ (rsum F i)).2,()),()))) m.2.length (by omega) (by
  intro g i hi;have d0:(i:Int)<((m.2.length:Nat):Int):=by omega
  have d1:(0:Int)<=(i:Int):=by omega
  obtain⟨t1,t2,t3,t4,t5⟩:=h.tree hi;have hz:=TR.size_le t4;obtain⟨x,hv,vx,zx⟩:=qtP t1 h.cs (h.cov hi) hset h.f64 R0 _ t2 (by unfold R0;omega) (by omega);rw[t3] at hv;have hv:qal R0 m.2[i] 0 row set=some x:=hv;have ha:=qpN (hF i (by omega)) (by omega) (zx.sm (by omega)) (by rw[vx,eF];show _=expT (qbP m i) row set _;rw[t5])
  rw[qai,cnd d0,cnd d1,tN0,gE0 hi,bS0,hv,bS0,ha,bS0,qbO (by omega)];rfl) (by
  intro g;rw[qai,cnd' (by omega)])
 rw[qab,qgp,bS0];have key':lp qai K0 ((row,(set:Int),0,()),((m.1,m.2,()),(false,[],[],()),((canQ 0).1.1,(canQ 0).1.2,(canQ 0).2,()),()))=_:=key;rw[key'];rw[sayM,<- eF];rfl
theorem qtR (m0:qak) (row0:List CELL) (hl:m0.2.length<=9223372036854775807) (ht:∀ t∈m0.2,t.length<=9223372036854775807) (hr:row0.length<=9223372036854775807) :
   ∃ m row,qbG m0 row0=some (m,row)/\MSz m 4/\m.2.length<=3/\(∀ t∈m.2,t.length<=15)/\CSz row 9:=by
 have hf:=qtW m0 hl ht;have ms:=qu7 m0;have mt:=qsu m0;have h9:=qqw row0 70 hr (by decide);have h9:qa6 row0 70=some ((row0.take 70).map qfM):=h9;have cs:=qst (row0.take 70);by_cases h3:((cutM m0).2.length:Int)>3
 · refine ⟨((cutM m0).1, (cutM m0).2.take 3), (row0.take 70).map qfM, ?_, fun t h => ms t (List.mem_of_mem_take h), by simp; omega, fun t h => mt t (List.mem_of_mem_take h), cs⟩
   rw[qbG,hf,bS0,cnd h3,cnd (by omega),h9];rfl
 · refine ⟨cutM m0, (row0.take 70).map qfM, ?_, ms, by omega, mt, cs⟩;rw[qbG,hf,bS0,cnd' h3,h9];rfl
def qcan (qs:List Rat):List RAT:=qs.map canQ
@[simp] theorem qvK (qs:List Rat):(qcan qs).length=qs.length:=by simp [qcan]
structure qlk (g:NODE->NODE) (f f':Int) (c:Rat):Prop where
 leaf:∀ n,qbJ (g n)=qbJ n
 l:∀ n,qbJ n=false->nL (g n)=nL n
 r:∀ n,qbJ n=false->nR (g n)=nR n
 feat:∀ n,qbJ n=false->0<=qaZ n->qaZ n<f->0<=qaZ (g n)/\qaZ (g n)<f'
 fits:∀ n,qbJ n=true->qez n->qez (g n)
 cov:∀ n,rv (nCov (g n))=c*rv (nCov n)
 pos:0<c
 low:0<=f'
 high:f'<=64
variable {g:NODE->NODE} {f f':Int} {c:Rat}
theorem qjc (hk:qlk g f f' c) {t:List NODE} {i:Nat} (hi:i<t.length):qeC (t.map g) i=g (qeC t i):=by
 rw[qbS hi,qbS (by simpa using hi),List.getElem_map]
theorem qla (hk:qlk g f f' c) {t:List NODE} {i:Nat} (hi:i<t.length):cov (t.map g) i=c*cov t i:=by
 rw[qeV hi,qeV (by simpa using hi),List.getElem_map,hk.cov]
theorem qp6 (hk:qlk g f f' c) (t:List NODE):kids (t.map g)=kids t:=by
 funext i;by_cases hi:i<t.length
 · cases hl : qbJ t[i] with
   | true=>rw[qhh hi hl,qhh (t:=t.map g) (by simpa using hi) (by rw[List.getElem_map,hk.leaf];exact hl)]
   | false=>rw[qdQ hi hl,qdQ (t:=t.map g) (by simpa using hi) (by rw[List.getElem_map,hk.leaf];exact hl),List.getElem_map,hk.l _ hl,hk.r _ hl]
 · unfold kids;rw[List.getElem?_eq_none (by simpa using hi),List.getElem?_eq_none (by omega)]
theorem qu8 (hk:qlk g f f' c) (t:List NODE) (i j:Nat):cnt (t.map g) i j=cnt t i j:=by
 unfold cnt;rw[qp6 hk]
theorem Is.map (hk:qlk g f f' c) {t:List NODE}:∀ {T:TR},Is t f T->Is (t.map g) f' T:=by
 intro T
 induction T with
 | leaf i =>
  rintro⟨h,hl⟩;exact⟨by simpa using h,by rw[List.getElem_map,hk.leaf];exact hl⟩
 | split i l r ihl ihr =>
  rintro⟨h,hl,f0,f1,h1,h2,h3,h4⟩;have hf:=hk.feat _ hl f0 f1;refine⟨by simpa using h,?_,?_,?_,?_,?_,ihl h3,ihr h4⟩
  · rw[List.getElem_map,hk.leaf];exact hl
  · rw[List.getElem_map];exact hf.1
  · rw[List.getElem_map];exact hf.2
  · rw[List.getElem_map,hk.l _ hl];exact h1
  · rw[List.getElem_map,hk.r _ hl];exact h2
theorem Good.map {m:qak} (h:Good m) (hk:qlk g m.1 f' c):Good (f',m.2.map (List.map g)):=by
 have len:∀ i,i<(m.2.map (List.map g)).length->i<m.2.length:=fun i hi=>by simpa using hi
 have get:∀ i (hi:i<(m.2.map (List.map g)).length),(m.2.map (List.map g))[i]=(m.2[i]'(len i hi)).map g:=fun i hi=>by rw[List.getElem_map]
 refine⟨⟨hk.low,hk.high,by simpa using h.1.2.2.1,fun i hi=>?_⟩,fun r hr i hi=>?_⟩
 · rw [show ((f', m.2.map (List.map g)) : qak).2[i] = _ from get i hi];have hi':=len i hi;obtain⟨t1,t2,t3⟩:=h.1.2.2.2 i hi';refine⟨by simpa using t1,by simpa using t2,fun j hj=>?_⟩;have hj':j<m.2[i].length:=by simpa using hj
   rw[List.getElem_map];have hn:=t3 j hj';cases hl:qbJ m.2[i][j] with
   | true=>exact hk.fits _ hl hn
   | false =>
    obtain⟨r1,r2,r3,r4,r5,r6⟩:=h.ranges hi' j hj' hl;have hf:=hk.feat _ hl r1 r2;have:=hk.high;have a:=hk.l _ hl;have b:=hk.r _ hl;obtain⟨n1,n2,n3,n4,n5,n6⟩:=hn;exact⟨hf.1,by omega,by omega,by omega,by omega,by omega⟩
 · rw [show ((f', m.2.map (List.map g)) : qak).2[i] = _ from get i hi];have hi':=len i hi;have hr':qeu (m.2[i].map g) f':=by
    intro j hj hl;have hj':j<m.2[i].length:=by simpa using hj
    rw[List.getElem_map] at hl ⊢;rw[hk.leaf] at hl;obtain⟨r1,r2,r3,r4,r5,r6⟩:=h.ranges hi' j hj' hl;have hf:=hk.feat _ hl r1 r2;rw[hk.l _ hl,hk.r _ hl];have e:(((m.2[i].map g).length:Nat):Int)=((m.2[i].length:Nat):Int):=by rw[List.length_map]
    exact⟨hf.1,hf.2,r3,e ▸ r4,r5,e ▸ r6⟩
   match r,hr with
   | 0,_=>exact hr'
   | 1,_ =>
    obtain⟨s1,rk,s2⟩:=h.shape hi';refine⟨fun j h0 hj=>?_,rk,fun j hj=>?_⟩
    · rw [qu8 hk, List.length_map];exact s1 j h0 (by simpa using hj)
    · rw [qp6 hk, List.length_map];exact s2 j (by simpa using hj)
   | 2,_ =>
    intro j hj;rw[List.getElem_map,hk.cov];exact Rat.mul_pos hk.pos (h.covers hi' j (by simpa using hj))
   | 3,_ =>
    intro j hj hl;have hj':j<m.2[i].length:=by simpa using hj
    rw[List.getElem_map] at hl ⊢;rw[hk.leaf] at hl;obtain⟨r1,r2,r3,r4,r5,r6⟩:=h.ranges hi' j hj' hl;rw[hk.l _ hl,hk.r _ hl,hk.cov,qla hk (by omega),qla hk (by omega),h.sums hi' j hj' hl,Rat.mul_add]
theorem qqB {m:qak} (h:Good m) (hk:qlk g m.1 f' c) {i:Nat} (hi:i<m.2.length):treeOf (m.2[i].map g)=treeOf m.2[i]:=by
 obtain⟨h1,h2,h3⟩:=h.treeOf hi;have:=qt7 (m.2[i].length+1) _ (h1.map hk) h3;rw[h2] at this;rw[treeOf,List.length_map];exact this
theorem qtz (hk:qlk g f f' c) {v:Rat} {t:List NODE} {row row':List CELL} {set set':Nat}
  (hv:∀ n,qbJ n=true->rv (nVal (g n))=v*rv (nVal n)) (hgo:∀ i,i<t.length->qbJ (qeC t i)=false->0<=qaZ (qeC t i)->qaZ (qeC t i)<f->goL (t.map g) row' i=goL t row i/\set'.testBit (qaZ (g (qeC t i))).toNat=set.testBit (qaZ (qeC t i)).toNat) :
  ∀ {T:TR},Is t f T->expT (t.map g) row' set' T=v*expT t row set T:=by
 intro T
 induction T with
 | leaf i =>
  rintro⟨h,hl⟩;simp only[expT];rw[qjc hk h,hv _ (by rw[qbS h];exact hl)]
 | split i l r ihl ihr =>
  rintro⟨h,hl,f0,f1,h1,h2,h3,h4⟩;rw[<- qbS h] at hl f0 f1;obtain⟨q1,q2⟩:=hgo i h hl f0 f1;simp only[expT];rw[qjc hk h,q1,q2,qla hk h,qla hk h3.top_lt,qla hk h4.top_lt,ihl h3,ihr h4];split
  · split<;>rfl
  · have hc : c ≠ 0 := fun e => by have := hk.pos; rw [e] at this; exact absurd this (by decide)
    rw[show c*cov t l.top*(v*expT t row set l)+c*cov t r.top*(v*expT t row set r)=c*(v*(cov t l.top*expT t row set l+cov t r.top*expT t row set r)) by grind,Rat.div_def,Rat.div_def,Rat.inv_mul_rev];rw[show c*(v*(cov t l.top*expT t row set l+cov t r.top*expT t row set r))*((cov t i)⁻¹*c⁻¹)=(c*c⁻¹)*(v*((cov t l.top*expT t row set l+cov t r.top*expT t row set r)*(cov t i)⁻¹)) by grind,Rat.mul_inv_cancel _ hc,Rat.one_mul]
theorem qrM (f:Nat->Rat) (v:Rat) (n:Nat):rsum (fun i=>v*f i) n=v*rsum f n:=by
 have:=qs5 f v n;rw[Rat.mul_comm,<- this];exact qlV fun i _=>Rat.mul_comm _ _
theorem qqC (m:qak) (f':Int) (g:NODE->NODE) {i:Nat} (hi:i<m.2.length):qbP (f',m.2.map (List.map g)) i=(qbP m i).map g:=by
 rw[qdE hi,qdE (m:=(f',m.2.map (List.map g))) (by simpa using hi),List.getElem_map]
theorem qpV {m:qak} (h:Good m) (hk:qlk g m.1 f' c) {v:Rat} {row row':List CELL} {set set':Nat}
  (hv:∀ n,qbJ n=true->rv (nVal (g n))=v*rv (nVal n)) (hgo:∀ n,qbJ n=false->0<=qaZ n->qaZ n<m.1->goes (g n) (qlc row' (qaZ (g n)).toNat)=goes n (qlc row (qaZ n).toNat)/\set'.testBit (qaZ (g n)).toNat=set.testBit (qaZ n).toNat) :
  sayM (f',m.2.map (List.map g)) row' set'=v*sayM m row set:=by
 rw[sayM,sayM,<- qrM,List.length_map];refine qlV fun i hi=>?_
 rw[qqC m f' g hi];have e:=qqB h hk hi;rw[qdE hi,e];exact qtz hk hv (fun j hj hl f0 f1=>by
  obtain⟨a,b⟩:=hgo _ hl f0 f1;refine⟨?_,b⟩;rw[goL,goL,qjc hk hj,a]) (h.treeOf hi).1
theorem qns {n:NODE} (hl:qbJ n=false) (c:CELL):goes (qau n) c=goes n c:=by
 rw[qbR hl,goes,goes];show(if c.1=true then qoe n else decide (rv c.2<rv (canQ (rv (nCut n)))))=_;rw[qbN]
theorem qlj:qaj ((0,[]):qak) (0,[])=some true:=qsK (by decide) (by simp) (by intro t h;cases h)
theorem quh {x y:RAT} (hx:Sm x) (hy:Sm y) (h:rv x=rv y):qah x y=some true:=by
 rw[qiC hx hy,decide_eq_true h]
theorem qpx {t:List NODE} (hs:TSz t 16) {i:Nat} (hi:i<t.length):SzQ (cov t i) 16:=(hs.at hi).2.2.szQ (by decide)
theorem qm5 {t:List NODE} {f:Int} {row:List CELL} {set:Nat} {T:TR} (hs:TSz t 16) (h:Is t f T):SzQ (expT t row set T) (64*T.size):=by
 induction T with
 | leaf i=>exact((hs.at h.1).2.1.szQ (by decide)).mono (by simp [TR.size])
 | split i l r ihl ihr =>
  obtain⟨h1,_,_,_,_,_,h2,h3⟩:=h;have a:=ihl h2;have b:=ihr h3;simp only[expT,TR.size];split
  · split
    · exact a.mono (by omega)
    · exact b.mono (by omega)
  · have := (((qpx hs h2.top_lt).mul a).add ((qpx hs h3.top_lt).mul b)).div (qpx hs h1);exact this.mono (by omega)
theorem qtA {m:qak} {row:List CELL} {set:Nat} (h:Good m) (hs:MSz m 16) (hl:∀ t∈m.2,t.length<=15) {i:Nat} (hi:i<m.2.length):SzQ (expT (qbP m i) row set (treeOf (qbP m i))) 4194304:=by
 have:=TR.size_le (qqn h hl hi);exact(qm5 (hs.at hi) (h.isAt hi)).mono (by omega)
theorem qpU {m:qak} {row:List CELL} {set:Nat} (h:Good m) (hs:MSz m 16) (hl:∀ t∈m.2,t.length<=15) {n:Nat} (hn:n<=m.2.length):SzQ (rsum (fun i=>expT (qbP m i) row set (treeOf (qbP m i))) n) (1+n*4194305) :=
 qrL fun i hi=>qtA h hs hl (by omega)
theorem quX {t:List NODE} {f:Int} {row:List CELL} {i:Nat} (hs:TSz t 16) (hc:CSz row 9) (hi:i<t.length) (h0:0<=qaZ t[i]) (h1:qaZ t[i]<(row.length:Int)) :
  ∃ c,row[(qaZ t[i]).toNat]?=some c/\SzR c.2 9/\goes t[i] c=goL t row i:=by
 have hlt:(qaZ t[i]).toNat<row.length:=by omega
 refine⟨row[(qaZ t[i]).toNat],gE0 hlt,hc _ (gM0 hlt),?_⟩;rw[goL,qbS hi,qmf hlt]
structure qnl (m:qak) (row:List CELL):Prop where
 good:Good m
 len:(row.length:Int)=m.1
 ms:MSz m 16
 ml:m.2.length<=6
 mt:∀ t∈m.2,t.length<=15
 cs:CSz row 9
theorem qnl.tree {m:qak} {row:List CELL} (h:qnl m row) {i:Nat} (hi:i<m.2.length):TSz m.2[i] 16/\Is m.2[i] (row.length:Int) (treeOf (qbP m i))/\(treeOf (qbP m i)).top=0/\(treeOf (qbP m i)).deep<=16/\qbP m i=m.2[i]:=by
 have h1:=h.good.treeOf hi;have h2:=qqn h.good h.mt hi;rw[qdE hi] at h2 ⊢;exact⟨h.ms _ (gM0 hi),by rw[h.len];exact h1.1,h1.2.1,h2,rfl⟩
theorem qnl.cov {m:qak} {row:List CELL} (h:qnl m row) {i:Nat} (hi:i<m.2.length):qin m.2[i]:=h.good.covers hi
theorem qnl.f64 {m:qak} {row:List CELL} (h:qnl m row):row.length<=64:=by
 have:=h.good.1.2.1;have:=h.len;omega
theorem qsF {t:List NODE} {row:List CELL} {set:Nat} (hs:TSz t 16) (hc:CSz row 9) (hcov:qin t) (hset:set<18446744073709551616) (hf64:row.length<=64):∀ (n:Nat) (T:TR),Is t (row.length:Int) T->T.deep<=n->T.size<=1000000 ->
  ∃ x,qal n t (T.top:Int) row (set:Int)=some x/\rv x=expT t row set T/\SzR x (64*T.size):=by
 intro n
 induction n with
 | zero=>intro T _ hd;have:=T.deep_pos;omega
 | succ n ih =>
  intro T h hd hz;show ∃ x,qaX (qal n) t T.top row set=some x/\_;cases T with
  | leaf i =>
   obtain⟨h1,h2⟩:=h;have d0:(0:Int)<=(i:Int):=by omega
   have z:=(hs _ (gM0 h1)).2.1;refine⟨nVal t[i],?_,?_,⟨by have:=z.1;simp only[TR.size];omega,by have:=z.2;simp only[TR.size];omega⟩⟩
   · rw[qaX,show((TR.leaf i).top:Int)=(i:Int) from rfl,cnd d0,tN0,gE0 h1,bS0,show t[i].1=true from h2,cond_true]
   · rw[expT,qbS h1]
  | split i l r =>
   obtain⟨h1,h2,f0,f1,h3,h4,h5,h6⟩:=h;have d0:(0:Int)<=(i:Int):=by omega
   simp only[TR.deep] at hd;simp only[TR.size] at hz ⊢;obtain⟨c,g1,g2,g3⟩:=quX (f:=0) hs hc h1 f0 f1;have z:=hs _ (gM0 h1);obtain⟨xl,el,vl,zl⟩:=ih l h5 (by omega) (by omega);obtain⟨xr,er,vr,zr⟩:=ih r h6 (by omega) (by omega);have el':qal n t t[i].2.2.2.1 row set=some xl:=by rw[show t[i].2.2.2.1=_ from h3];exact el
   have er':qal n t t[i].2.2.2.2.1 row set=some xr:=by rw[show t[i].2.2.2.2.1=_ from h4];exact er
   have hft:((qaZ t[i]).toNat:Int)=qaZ t[i]:=by omega
   have hkn:=qvB (k:=(qaZ t[i]).toNat) hset (by omega);rw[hft] at hkn;rw[qaX,show((TR.split i l r).top:Int)=(i:Int) from rfl,cnd d0,tN0,gE0 h1,bS0,show t[i].1=false from h2,cond_false,hkn,bS0];simp only[expT,qbS h1];cases hb:set.testBit (qaZ t[i]).toNat with
   | true =>
     rw[cond_true,cnd f0,g1,bS0,qsP z.1 (by decide) g2 (by decide),bS0,g3,show(!qbJ t[i])=true by rw[h2];rfl,Bool.true_and,if_pos rfl];cases goL t row i with
     | true=>exact⟨xl,by rw[cond_true,el',bS0],by rw[if_pos rfl];exact vl,⟨by have:=zl.1;omega,by have:=zl.2;omega⟩⟩
     | false=>exact⟨xr,by rw[cond_false,er',bS0],by rw[if_neg (by decide)];exact vr,⟨by have:=zr.1;omega,by have:=zr.2;omega⟩⟩
   | false =>
     have al:=h5.top_lt;have ar:=h6.top_lt;have za:=(hs _ (gM0 al)).2.2;have zb:=(hs _ (gM0 ar)).2.2;have zi:=z.2.2;have m1:=qcn (za.sm (by decide)) (zl.sm (by omega));have m2:=qcn (zb.sm (by decide)) (zr.sm (by omega));rw[vl] at m1;rw[vr] at m2;have sl:=qm5 (row:=row) (set:=set) hs h5;have sr:=qm5 (row:=row) (set:=set) hs h6;have s1:=(za.szQ (by decide)).mul sl;have s2:=(zb.szQ (by decide)).mul sr;have s3:=s1.add s2;have m3:=qfD (s1.sm (by omega)) (s2.sm (by omega));rw[qbN,qbN] at m3;have hne:rv (nCov t[i])≠0:=by
       have:=hcov i h1;intro e;rw[e] at this;exact absurd this (by decide)
     have m4:=qjL (s3.sm (by omega)) (zi.sm (by decide));rw[if_neg hne,qbN] at m4;have s4:=s3.div (zi.szQ (by decide));refine⟨_,?_,?_,(s4.mono (m:=64*(1+l.size+r.size)) (by omega)).szR⟩
     · rw[cond_false,show t[i].2.2.2.1=_ from h3,cnd (by omega),tN0,gE0 al,bS0,el,bS0,m1,bS0,show t[i].2.2.2.2.1=_ from h4,cnd (by omega),tN0,gE0 ar,bS0,er,bS0,m2,bS0,m3,bS0,m4,bS0]
     · rw[qbN,if_neg (by decide),qeV al,qeV ar,qeV h1]
theorem qlh {m:qak} {row:List CELL} (h:qnl m row) {set:Nat} (hset:set<18446744073709551616):qab m row (set:Int)=some (canQ (sayM m row set)):=by
 have ml:=h.ml;obtain⟨F,eF⟩:∃ F:Nat->Rat,F=fun i=>expT (qbP m i) row set (treeOf (qbP m i)):=⟨_,rfl⟩
 have hF:∀ n,n<=m.2.length->SzQ (rsum F n) (1+n*4194305):=fun n hn=>by rw[eF];exact qpU h.good h.ms h.mt hn
 have key:=qhg (step:=qai) (fun i=>((row,(set:Int),(i:Int),()),((m.1,m.2,()),(false,[],[],()),((canQ (rsum F i)).1.1,(canQ (rsum F i)).1.2,(canQ (rsum F i)).2,()),()))) m.2.length (by omega) (by
  intro g i hi;have d0:(i:Int)<((m.2.length:Nat):Int):=by omega
  have d1:(0:Int)<=(i:Int):=by omega
  obtain⟨t1,t2,t3,t4,t5⟩:=h.tree hi;have hz:=TR.size_le t4;obtain⟨x,hv,vx,zx⟩:=qsF t1 h.cs (h.cov hi) hset h.f64 R0 _ t2 (by unfold R0;omega) (by omega);rw[t3] at hv;have hv:qal R0 m.2[i] 0 row set=some x:=hv;have ha:=qpN (hF i (by omega)) (by omega) (zx.sm (by omega)) (by rw[vx,eF];show _=expT (qbP m i) row set _;rw[t5])
  rw[qai,cnd d0,cnd d1,tN0,gE0 hi,bS0,hv,bS0,ha,bS0,qbO (by omega)];rfl) (by
  intro g;rw[qai,cnd' (by omega)])
 rw[qab,qgp,bS0];have key':lp qai K0 ((row,(set:Int),0,()),((m.1,m.2,()),(false,[],[],()),((canQ 0).1.1,(canQ 0).1.2,(canQ 0).2,()),()))=_:=key;rw[key'];rw[sayM,<- eF];rfl
def scl1 (q:Rat) (x:NODE):NODE:=if qbJ x then (qbJ x,qaZ x,nCut x,nL x,nR x,qoe x,canQ (rv (nVal x)*q),nCov x) else x
def wgh1 (q:Rat) (x:NODE):NODE:=(qbJ x,qaZ x,nCut x,nL x,nR x,qoe x,nVal x,canQ (rv (nCov x)*q))
theorem qqe {α:Type} {p u:List α} {i:Nat} (hp:p.length=i) (hi:i<u.length):(p++u.drop i)[i]?=some u[i]:=by
 subst hp;rw[List.getElem?_append_right (Nat.le_refl _),Nat.sub_self,List.getElem?_drop,Nat.add_zero,gE0 hi]
theorem qpH {t:List NODE} {y:RAT} {k:Nat} (hl:t.length<4294967296) (hs:TSz t k) (hk:k<1099511627776) (hy:Sm y) :
  qdT t y.1.1 y.1.2 y.2=some (t.map (scl1 (rv y)),y.1.1,y.1.2,y.2):=by
 have key:=qhg (step:=qa5) (fun i=>(((t.take i).map (scl1 (rv y))++t.drop i,((t.length:Nat):Int),(i:Int),()),((y.1.1,y.1.2,y.2,()),()))) t.length (r:=((t.map (scl1 (rv y)),()),((y.1.1,y.1.2,y.2,()),()))) (by omega) (by
  intro g i hi;have d0:(i:Int)<((t.length:Nat):Int):=by omega
  have d1:(0:Int)<=(i:Int):=by omega
  have pl:((t.take i).map (scl1 (rv y))).length=i:=by simp;omega
  have dl:(i:Int)<(((((t.take i).map (scl1 (rv y)))++t.drop i).length:Nat):Int):=by rw[List.length_append,pl,List.length_drop];omega
  have hz:=hs _ (gM0 hi);rw[qa5,cnd d0,cnd2 d1 dl,tN0,qqe pl hi,bS0];cases hleaf:qbJ t[i] with
  | true =>
   have q1:=qcn (hz.2.1.sm hk) hy;have q1:qaJ t[i].2.2.2.2.2.2.1 ((y.1.1,y.1.2),y.2)=_:=q1;have ht:scl1 (rv y) t[i]=(qbJ t[i],qaZ t[i],nCut t[i],nL t[i],nR t[i],qoe t[i],canQ (rv (nVal t[i])*rv y),nCov t[i]):=by rw[scl1,hleaf];rfl
   rw[show t[i].1=true from hleaf,cond_true,cnd2 d1 dl,bS0,q1,bS0,cnd2 d1 dl,bS0,qlU _ pl hi,qbO (by omega),qbo _ hi,ht,hleaf];rw[show t[i].1=true from hleaf];rfl
  | false =>
   have ht:scl1 (rv y) t[i]=t[i]:=by rw[scl1,hleaf];rfl
   rw[show t[i].1=false from hleaf,cond_false,qbO (by omega),qbo _ hi,ht,List.append_assoc,List.singleton_append,<- List.drop_eq_getElem_cons hi];rfl) (by
  intro g;rw[qa5,cnd' (by omega),List.take_length,List.drop_length,List.append_nil])
 have key':lp qa5 K0 ((t,((t.length:Nat):Int),0,()),((y.1.1,y.1.2,y.2,()),()))=_:=key;rw[qdT,key'];rfl
theorem qpF {t:List NODE} {y:RAT} {k:Nat} (hl:t.length<4294967296) (hs:TSz t k) (hk:k<1099511627776) (hy:Sm y) :
  qdS t y.1.1 y.1.2 y.2=some (t.map (wgh1 (rv y)),y.1.1,y.1.2,y.2):=by
 have key:=qhg (step:=qa4) (fun i=>(((t.take i).map (wgh1 (rv y))++t.drop i,((t.length:Nat):Int),(i:Int),()),((y.1.1,y.1.2,y.2,()),()))) t.length (r:=((t.map (wgh1 (rv y)),()),((y.1.1,y.1.2,y.2,()),()))) (by omega) (by
  intro g i hi;have d0:(i:Int)<((t.length:Nat):Int):=by omega
  have d1:(0:Int)<=(i:Int):=by omega
  have pl:((t.take i).map (wgh1 (rv y))).length=i:=by simp;omega
  have dl:(i:Int)<(((((t.take i).map (wgh1 (rv y)))++t.drop i).length:Nat):Int):=by rw[List.length_append,pl,List.length_drop];omega
  have hz:=hs _ (gM0 hi);have q1:=qcn (hz.2.2.sm hk) hy;have q1:qaJ t[i].2.2.2.2.2.2.2 ((y.1.1,y.1.2),y.2)=_:=q1;rw[qa4,cnd d0,cnd2 d1 dl,tN0,qqe pl hi,bS0,q1,bS0,cnd2 d1 dl,bS0,qlU _ pl hi,qbO (by omega),qbo _ hi];rfl) (by
  intro g;rw[qa4,cnd' (by omega),List.take_length,List.drop_length,List.append_nil])
 have key':lp qa4 K0 ((t,((t.length:Nat):Int),0,()),((y.1.1,y.1.2,y.2,()),()))=_:=key;rw[qdS,key'];rfl
theorem qpG {t:List NODE} {k:Nat} (hl:t.length<4294967296) (hs:TSz t k) (hk:k<1099511627776) (a:List (List NODE)) (b c:Int) (z w:Int×List (Option (List NODE))) :
  lp qbA K0 (([],a,b,c,t,((t.length:Nat):Int),0,()),((z.1,z.2,()),(w.1,w.2,()),()))=some ((qaI t,a,b,c,()),((z.1,z.2,()),(w.1,w.2,()),())):=by
 have key:=qhg (step:=qbA) (fun i=>(((t.take i).map qau,a,b,c,t,((t.length:Nat):Int),(i:Int),()),((z.1,z.2,()),(w.1,w.2,()),()))) t.length (r:=((qaI t,a,b,c,()),((z.1,z.2,()),(w.1,w.2,()),()))) (by omega) (by
  intro g i hi;have d0:(i:Int)<((t.length:Nat):Int):=by omega
  have d1:(0:Int)<=(i:Int):=by omega
  have hz:=hs _ (gM0 hi);have q1:=qa1 (hz.2.2.sm hk);have d4:(((t.take i).map qau).length+1)*208<=140737488355328:=by simp;omega
  rw[qbA,cnd d0,cnd d1,tN0,gE0 hi,bS0,q1,bS0];cases hleaf:qbJ t[i] with
  | true =>
   have q2:=qa1 (hz.2.1.sm hk);have ht:qau t[i]=(true,0,zR,0,0,false,canQ (rv (nVal t[i])),canQ (rv (nCov t[i]))):=by rw[qau,hleaf];rfl
   rw[show t[i].1=true from hleaf,cond_true,q2,bS0,blt d4,cond_true,qbO (by omega),qbo _ hi,ht];rfl
  | false =>
   have q2:=qa1 (hz.1.sm hk);have ht:qau t[i]=(false,qaZ t[i],canQ (rv (nCut t[i])),nL t[i],nR t[i],qoe t[i],zR,canQ (rv (nCov t[i]))):=by rw[qau,hleaf];rfl
   rw[show t[i].1=false from hleaf,cond_false,q2,bS0,blt d4,cond_true,qbO (by omega),qbo _ hi,ht];rfl) (by
  intro g;rw[qbA,cnd' (by omega),List.take_length];rfl)
 exact key
def qfi {α:Type} (l:List α):List (Option α):=l.map some
theorem qqt {m:qak} {k:Nat} (hl:m.2.length<4294967296) (ht:∀ t∈m.2,t.length<4294967296) (hs:MSz m k) (hk:k<1099511627776):qdy m=some (m.1,qfi (m.2.map qaI)):=by
 have key:=qhg (step:=qbB) (fun i=>((m.2,((m.2.length:Nat):Int),(i:Int),()),((0,[],()),(m.1,qfi ((m.2.take i).map qaI),()),()))) m.2.length (r:=((),((0,[],()),(m.1,qfi (m.2.map qaI),()),()))) (by omega) (by
  intro g i hi;have d0:(i:Int)<((m.2.length:Nat):Int):=by omega
  have d1:(0:Int)<=(i:Int):=by omega
  have hin:=qpG (ht _ (gM0 hi)) (hs _ (gM0 hi)) hk m.2 ((m.2.length:Nat):Int) (i:Int) (0,[]) (m.1,qfi ((m.2.take i).map qaI));have d4:(((qfi ((m.2.take i).map qaI)).length+([some (qaI m.2[i])]:List (Option (List NODE))).length)*24)<=140737488355328:=by simp [qfi];omega
  rw[qbB,cnd d0,cnd d1,tN0,gE0 hi,bS0,hin,bS0,blt d4,cond_true,qbO (by omega),qbo _ hi];simp only[qfi,List.map_append,List.map_cons,List.map_nil];rfl) (by
  intro g;rw[qbB,cnd' (by omega),List.take_length])
 have key':lp qbB K0 ((m.2,((m.2.length:Nat):Int),0,()),((0,[],()),(m.1,[],()),()))=_:=key;rw[qdy,key'];rfl
def qeU (f:NODE->NODE) (m:qak):qak:=(m.1,m.2.map (List.map fun n=>f (qau n)))
theorem qoA (f:NODE->NODE) (t:List NODE):(qaI t).map f=t.map fun n=>f (qau n):=by
 rw[qaI,List.map_map];rfl
theorem qm9 {m:qak} {y:RAT} {k:Nat} (hv:qaB m=some true) (hl:m.2.length<4294967296) (ht:∀ t∈m.2,t.length<4294967296) (hs:MSz m k) (h0:0<k) (hk:k<1099511627776) (hy:Sm y) :
  qbs m y.1.1 y.1.2 y.2=some (qeU (scl1 (rv y)) m,0,y.1.1,y.1.2,y.2):=by
 have tl:(qfi (m.2.map qaI)).length=m.2.length:=by simp [qfi]
 have key:=qhg (step:=qar) (fun i=>((List.replicate i none++(qfi (m.2.map qaI)).drop i,((m.2.length:Nat):Int),(i:Int),()),((0,[],()),(m.1,(m.2.take i).map (List.map fun n=>scl1 (rv y) (qau n)),()),(y.1.1,y.1.2,y.2,()),()))) m.2.length (r:=((),((0,[],()),(m.1,m.2.map (List.map fun n=>scl1 (rv y) (qau n)),()),(y.1.1,y.1.2,y.2,()),()))) (by omega) (by
  intro g i hi;have d0:(i:Int)<((m.2.length:Nat):Int):=by omega
  have d1:(0:Int)<=(i:Int):=by omega
  have hi':i<(qfi (m.2.map qaI)).length:=by omega
  have pl:(List.replicate i (none:Option (List NODE))).length=i:=List.length_replicate;have dl:(i:Int)<(((List.replicate i none++(qfi (m.2.map qaI)).drop i).length:Nat):Int):=by rw[List.length_append,pl,List.length_drop,tl];omega
  have hg:(qfi (m.2.map qaI))[i]=some (qaI m.2[i]):=by simp [qfi]
  have hc:=qpH (t:=qaI m.2[i]) (y:=y) (k:=k) (by rw[qaI,List.length_map];exact ht _ (gM0 hi)) (qkE (hs _ (gM0 hi)) h0) hk hy
  have d4:(((m.2.take i).map (List.map fun n=>scl1 (rv y) (qau n))).length+1)*24<=140737488355328:=by simp;omega
  rw[qar,cnd d0,cnd2 d1 dl,tN0,qqe pl hi',bS0,hg,bS0,hc,bS0,blt d4,cond_true,qlU _ pl hi',qbO (by omega),qbo _ hi,qoA,<- List.replicate_succ'];rfl) (by
  intro g;rw[qar,cnd' (by omega),List.take_length])
 have key1:lp qar K0 ((qfi (m.2.map qaI),((m.2.length:Nat):Int),0,()),((0,[],()),(m.1,[],()),(y.1.1,y.1.2,y.2,()),()))=_:=key;have key':=key1;rw[<- tl] at key';rw[qbs,hv,bS0,Bool.not_true,cond_false,qqt hl ht hs hk,bS0,key'];rfl
theorem qm8 {m:qak} {y:RAT} {k:Nat} (hv:qaB m=some true) (hl:m.2.length<4294967296) (ht:∀ t∈m.2,t.length<4294967296) (hs:MSz m k) (h0:0<k) (hk:k<1099511627776) (hy:Sm y) :
  qbr m y.1.1 y.1.2 y.2=some (qeU (wgh1 (rv y)) m,0,y.1.1,y.1.2,y.2):=by
 have tl:(qfi (m.2.map qaI)).length=m.2.length:=by simp [qfi]
 have key:=qhg (step:=qaq) (fun i=>((List.replicate i none++(qfi (m.2.map qaI)).drop i,((m.2.length:Nat):Int),(i:Int),()),((0,[],()),(m.1,(m.2.take i).map (List.map fun n=>wgh1 (rv y) (qau n)),()),(y.1.1,y.1.2,y.2,()),()))) m.2.length (r:=((),((0,[],()),(m.1,m.2.map (List.map fun n=>wgh1 (rv y) (qau n)),()),(y.1.1,y.1.2,y.2,()),()))) (by omega) (by
  intro g i hi;have d0:(i:Int)<((m.2.length:Nat):Int):=by omega
  have d1:(0:Int)<=(i:Int):=by omega
  have hi':i<(qfi (m.2.map qaI)).length:=by omega
  have pl:(List.replicate i (none:Option (List NODE))).length=i:=List.length_replicate;have dl:(i:Int)<(((List.replicate i none++(qfi (m.2.map qaI)).drop i).length:Nat):Int):=by rw[List.length_append,pl,List.length_drop,tl];omega
  have hg:(qfi (m.2.map qaI))[i]=some (qaI m.2[i]):=by simp [qfi]
  have hc:=qpF (t:=qaI m.2[i]) (y:=y) (k:=k) (by rw[qaI,List.length_map];exact ht _ (gM0 hi)) (qkE (hs _ (gM0 hi)) h0) hk hy
  have d4:(((m.2.take i).map (List.map fun n=>wgh1 (rv y) (qau n))).length+1)*24<=140737488355328:=by simp;omega
  rw[qaq,cnd d0,cnd2 d1 dl,tN0,qqe pl hi',bS0,hg,bS0,hc,bS0,blt d4,cond_true,qlU _ pl hi',qbO (by omega),qbo _ hi,qoA,<- List.replicate_succ'];rfl) (by
  intro g;rw[qaq,cnd' (by omega),List.take_length])
 have key1:lp qaq K0 ((qfi (m.2.map qaI),((m.2.length:Nat):Int),0,()),((0,[],()),(m.1,[],()),(y.1.1,y.1.2,y.2,()),()))=_:=key;have key':=key1;rw[<- tl] at key';rw[qbr,hv,bS0,Bool.not_true,cond_false,qqt hl ht hs hk,bS0,key'];rfl
theorem qnC {f:Int} (h0:0<=f) (h1:f<=64) (q:Rat):qlk (fun n=>scl1 q (qau n)) f f 1 where
 leaf n:=by
  cases hl:qbJ n with
  | true=>rw[qeA hl];rfl
  | false=>rw[qbR hl];rfl
 l n hl:=by rw[qbR hl];rfl
 r n hl:=by rw[qbR hl];rfl
 feat n hl a b:=by rw[qbR hl];exact⟨a,b⟩
 fits n hl _:=by rw[qeA hl];exact(show qez (qr8 (canQ (rv (canQ (rv (nVal n)))*q)) (canQ (rv (nCov n)))) from⟨Int.le_refl 0,(by decide:(0:Int)<=64),Int.le_refl 0,(by decide:(0:Int)<=255),Int.le_refl 0,(by decide:(0:Int)<=255)⟩)
 cov n:=by
  rw[Rat.one_mul];cases hl:qbJ n with
  | true=>rw[qeA hl];exact qbN _
  | false=>rw[qbR hl];exact qbN _
 pos:=by decide
 low:=h0
 high:=h1
theorem qko {f:Int} (h0:0<=f) (h1:f<=64) {q:Rat} (hq:0<q):qlk (fun n=>wgh1 q (qau n)) f f q where
 leaf n:=by
  cases hl:qbJ n with
  | true=>rw[qeA hl];rfl
  | false=>rw[qbR hl];rfl
 l n hl:=by rw[qbR hl];rfl
 r n hl:=by rw[qbR hl];rfl
 feat n hl a b:=by rw[qbR hl];exact⟨a,b⟩
 fits n hl _:=by rw[qeA hl];exact(show qez (qr8 (canQ (rv (nVal n))) (canQ (rv (canQ (rv (nCov n)))*q))) from⟨Int.le_refl 0,(by decide:(0:Int)<=64),Int.le_refl 0,(by decide:(0:Int)<=255),Int.le_refl 0,(by decide:(0:Int)<=255)⟩)
 cov n:=by
  rw[Rat.mul_comm];cases hl:qbJ n with
  | true=>rw[qeA hl];show rv (canQ (rv (canQ (rv (nCov n)))*q))=_;rw[qbN,qbN]
  | false=>rw[qbR hl];show rv (canQ (rv (canQ (rv (nCov n)))*q))=_;rw[qbN,qbN]
 pos:=hq
 low:=h0
 high:=h1
theorem qnh {f:NODE->NODE} {m:qak} {k k':Nat} (hs:MSz m k) (h0:0<k) (hf:∀ n,NSz n k->NSz (f n) k'):MSz (qeU f m) k':=by
 intro t ht;obtain⟨u,hu,rfl⟩:=List.mem_map.1 ht;intro n hn;obtain⟨x,hx,rfl⟩:=List.mem_map.1 hn;exact hf _ (qkF (hs u hu x hx) h0)
theorem NSz.mono {n:NODE} {k k':Nat} (h:NSz n k) (hk:k<=k'):NSz n k' :=
 ⟨⟨Nat.le_trans h.1.1 hk,Nat.le_trans h.1.2 hk⟩,⟨Nat.le_trans h.2.1.1 hk,Nat.le_trans h.2.1.2 hk⟩,⟨Nat.le_trans h.2.2.1 hk,Nat.le_trans h.2.2.2 hk⟩⟩
theorem quy {q:Rat} (hq:SzQ q 4) (n:NODE) (h:NSz n 4):NSz (scl1 q n) 16:=by
 unfold scl1;split
 · have := (((h.2.1.szQ (by decide)).mul hq).mono (m := 16) (by decide)).szR;exact⟨(h.mono (by decide)).1,this,(h.mono (by decide)).2.2⟩
 · exact h.mono (by decide)
theorem qrt {q:Rat} (hq:SzQ q 4) (n:NODE) (h:NSz n 4):NSz (wgh1 q n) 16:=by
 have:=(((h.2.2.szQ (by decide)).mul hq).mono (m:=16) (by decide)).szR;exact⟨(h.mono (by decide)).1,(h.mono (by decide)).2.1,this⟩
theorem qk9 (f:NODE->NODE) (m:qak):(qeU f m).2.length=m.2.length:=by simp [qeU]
theorem qjs {f:NODE->NODE} {m:qak} {k:Nat} (h:∀ t∈m.2,t.length<=k):∀ t∈(qeU f m).2,t.length<=k:=by
 intro t ht;obtain⟨u,hu,rfl⟩:=List.mem_map.1 ht;rw[List.length_map];exact h u hu
theorem qnt {n:NODE} (hl:qbJ n=false):qaZ (qau n)=qaZ n:=by rw[qbR hl]
theorem qs4 {m:qak} (h:Good m) (q:Rat) (row:List CELL) (set:Nat):sayM (qeU (scl1 q) m) row set=q*sayM m row set:=by
 refine qpV (row:=row) (row':=row) (set:=set) (set':=set) h (qnC h.1.1 h.1.2.1 q) (v:=q) (fun n hl=>?_) (fun n hl f0 f1=>?_)
 · rw [qeA hl];show rv (canQ (rv (canQ (rv (nVal n)))*q))=_;rw[qbN,qbN,Rat.mul_comm]
 · have e : scl1 q (qau n) = qau n := by rw [qbR hl]; rfl
   show goes (scl1 q (qau n)) (qlc row (qaZ (scl1 q (qau n))).toNat)=_/\set.testBit (qaZ (scl1 q (qau n))).toNat=_;rw[e,qns hl,qnt hl];exact⟨rfl,rfl⟩
theorem qs3 {m:qak} (h:Good m) {q:Rat} (hq:0<q) (row:List CELL) (set:Nat):sayM (qeU (wgh1 q) m) row set=sayM m row set:=by
 have:=qpV (row:=row) (row':=row) (set:=set) (set':=set) h (qko h.1.1 h.1.2.1 hq) (v:=1) (fun n hl=>by
  rw[Rat.one_mul,qeA hl];exact qbN _) (fun n hl f0 f1=>by
  have e:goes (wgh1 q (qau n))=goes (qau n):=rfl;have e2:qaZ (wgh1 q (qau n))=qaZ (qau n):=rfl;show goes (wgh1 q (qau n)) (qlc row (qaZ (wgh1 q (qau n))).toNat)=_/\set.testBit (qaZ (wgh1 q (qau n))).toNat=_;rw[e,e2,qns hl,qnt hl];exact⟨rfl,rfl⟩)
 rw[Rat.one_mul] at this;exact this
def wake:Option Bool:=qaa.bind fun r=>some r
theorem qmn:wake=some true:=by rw[wake,qlH];rfl
def valL (m:qak) (row:List CELL) (set:Int) (y:RAT) (r4 r5:qak×Int):Option Bool :=
 bif (!decide ((row.length:Int)=m.1)) then wake else ((qab m row set).bind fun r14=>(qab r4.1 row set).bind fun r15=>(qaJ r14 y).bind fun r16=>(qah r15 r16).bind fun r17=>bif r17 then (bif (!decide (r5.2=0)) then wake else ((qab r5.1 row set).bind fun r19=>(qah r19 r14).bind fun r20=>bif r20 then wake else (some false))) else (some false))
def scL (m:qak) (row:List CELL) (set:Int) (y:RAT) (r4 r5:qak×Int):Option Bool :=
 (qaB m).bind fun r8=>bif (!r8) then (bif (decide (r4.2=1)) then ((qaj r4.1 (0,[])).bind fun r9=>bif r9 then wake else (some false)) else (some false)) else (bif (!decide (r4.2=0)) then (some false) else ((qaB r4.1).bind fun r11=>bif (!r11) then (some false) else (bif (decide (r5.2=0)) then ((qaB r5.1).bind fun r12=>bif (!r12) then (some false) else valL m row set y r4 r5) else valL m row set y r4 r5)))
def nilL (m:qak) (row:List CELL) (set:Int) (y:RAT) (r4 r5:qak×Int):Option Bool :=
 bif (!decide (r5.2=0)) then ((qaj r5.1 (0,[])).bind fun r7=>bif (!r7) then (some false) else scL m row set y r4 r5) else scL m row set y r4 r5
def qrJ (m:qak) (row:List CELL) (set:Int) (y:RAT):Option Bool :=
 (qdD m y).bind fun r4=>(qb1 m y).bind fun r5=>(qdF y).bind fun r6=>bif (decide (r6<=0)) then (bif (!decide (r5.2=8)) then (some false) else nilL m row set y r4 r5) else ((qaB m).bind fun r31=>bif (!r31) then (bif (!decide (r5.2=1)) then (some false) else nilL m row set y r4 r5) else (bif (!decide (r5.2=0)) then (some false) else nilL m row set y r4 r5))
theorem qli (m0:qak) (row0:List CELL) (set0:Int) (by0:RAT) (hl:m0.2.length<=9223372036854775807) (ht:∀ t∈m0.2,t.length<=9223372036854775807) (hr:row0.length<=9223372036854775807) (s0:0<=set0) (s1:set0<18446744073709551616):qbq m0 row0 set0 by0=some true:=by
 obtain⟨set,rfl⟩:=Int.eq_ofNat_of_zero_le s0;have hset:set<18446744073709551616:=by omega
 obtain⟨m,row,hs,ms,ml,mt,cs⟩:=qtR m0 row0 hl ht hr;obtain⟨b,hv,hb⟩:=qve (m:=m) (by omega) (fun t h=>by have:=mt t h;omega) ms (by decide);have hf:=qqw [((false,by0):CELL)] 1 (by simp) (by decide);have hf:qa6 [((false,by0):CELL)] 1=some [((false,cutR 3 by0):CELL)]:=hf;obtain⟨y,ey⟩:∃ y,y=cutR 3 by0:=⟨_,rfl⟩;have zy:SzR y 3:=by rw[ey];exact qju 3 by0
 rw[<- ey] at hf;have hy:Sm y:=zy.sm (by decide);have qy:SzQ (rv y) 4:=(zy.szQ (by decide)).mono (by decide);have law:qbq m0 row0 (set:Int) by0=qrJ m row (set:Int) y:=by
  rw[qbq,hs,bS0,hf,bS0];rfl
 rw[law,qrJ];have hsign:=qiA hy;cases b with
 | false =>
  have e1:qdD m y=some ((0,[]),1):=by rw[qdD,qbs,hv];rfl
  have fin:∀ c:Int,c≠0->nilL m row (set:Int) y ((0,[]),1) ((0,[]),c)=some true:=by
    intro c hc;rw[nilL,decide_eq_false hc,Bool.not_false,cond_true,qlj,bS0,Bool.not_true,cond_false,scL,hv,bS0,Bool.not_false,cond_true,cnd rfl,qlj,bS0,cond_true,qmn]
  rw[e1,bS0];by_cases h0:rcmp (rv y) 0<=0
  · have e2 : qb1 m y = some ((0, []), 8) := by rw [qb1, hsign, bS0, cnd h0]
    rw[e2,bS0,hsign,bS0,cnd h0,show(!decide ((8:Int)=8))=false by decide,cond_false,fin 8 (by decide)]
  · have e2 : qb1 m y = some ((0, []), 1) := by rw [qb1, hsign, bS0, cnd' h0, qbr, hv]; rfl
    rw[e2,bS0,hsign,bS0,cnd' h0,hv,bS0,Bool.not_false,cond_true,show(!decide ((1:Int)=1))=false by decide,cond_false,fin 1 (by decide)]
 | true =>
  have g:=hb.1 rfl;have e1:qdD m y=some (qeU (scl1 (rv y)) m,0):=by
    rw[qdD,qm9 hv (by omega) (fun t h=>by have:=mt t h;omega) ms (by decide) (by decide) hy];rfl
  have g1:Good (qeU (scl1 (rv y)) m):=g.map (qnC g.1.1 g.1.2.1 (rv y));have sz1:MSz (qeU (scl1 (rv y)) m) 16:=qnh ms (by decide) (quy qy);have ml1:=qk9 (scl1 (rv y)) m;have mt1:=qjs (f:=scl1 (rv y)) mt;obtain⟨b1,hv1,hb1⟩:=qve (m:=qeU (scl1 (rv y)) m) (by omega) (fun t h=>by have:=mt1 t h;omega) sz1 (by decide);rw[hb1.2 g1] at hv1;have val:∀ r5:qak×Int,(r5.2=0->0<rv y/\r5.1=qeU (wgh1 (rv y)) m)->valL m row (set:Int) y (qeU (scl1 (rv y)) m,0) r5=some true:=by
    intro r5 h5;rw[valL];by_cases hrow:(row.length:Int)=m.1
    · have a0 : Askd m row := ⟨g, hrow, ms, by omega, mt, cs⟩;have a1:qnl (qeU (scl1 (rv y)) m) row:=⟨g1,hrow,sz1,by omega,mt1,cs⟩;have x0:=qrp a0 hset;have x1:=qlh a1 hset;have q0:SzQ (sayM m row set) (1+m.2.length*1048577):=qrK g ms mt (Nat.le_refl _);have q1:SzQ (sayM (qeU (scl1 (rv y)) m) row set) (1+(qeU (scl1 (rv y)) m).2.length*4194305):=qpU g1 sz1 mt1 (Nat.le_refl _);have e:=qs4 g (rv y) row set;have q01:=q0.mul qy;have hmul:=qcn (q0.sm (by omega)) hy;rw[qbN] at hmul;have hsame:=quh (x:=canQ (sayM (qeU (scl1 (rv y)) m) row set)) (y:=canQ (sayM m row set*rv y)) (q1.sm (by omega)) (q01.sm (by omega)) (by rw[qbN,qbN,e,Rat.mul_comm]);rw[decide_eq_true hrow,Bool.not_true,cond_false,x0,bS0];dsimp only;rw[x1,bS0,hmul,bS0,hsame,bS0,cond_true];by_cases h0:r5.2=0
      · obtain ⟨hpos, er⟩ := h5 h0;have g2:Good (qeU (wgh1 (rv y)) m):=g.map (qko g.1.1 g.1.2.1 hpos);have sz2:MSz (qeU (wgh1 (rv y)) m) 16:=qnh ms (by decide) (qrt qy);have ml2:=qk9 (wgh1 (rv y)) m;have mt2:=qjs (f:=wgh1 (rv y)) mt;have a2:qnl (qeU (wgh1 (rv y)) m) row:=⟨g2,hrow,sz2,by omega,mt2,cs⟩;have x2:=qlh a2 hset;rw[qs3 g hpos row set] at x2;have hs2:=quh (x:=canQ (sayM m row set)) (y:=canQ (sayM m row set)) (q0.sm (by omega)) (q0.sm (by omega)) rfl;rw[decide_eq_true h0,Bool.not_true,cond_false,er,x2,bS0,hs2,bS0,cond_true,qmn]
      · rw[decide_eq_false h0,Bool.not_false,cond_true,qmn]
    · rw[decide_eq_false hrow,Bool.not_false,cond_true,qmn]
  rw[e1,bS0];by_cases h0:rcmp (rv y) 0<=0
  · have e2 : qb1 m y = some ((0, []), 8) := by rw [qb1, hsign, bS0, cnd h0]
    rw[e2,bS0,hsign,bS0,cnd h0,show(!decide ((8:Int)=8))=false by decide,cond_false,nilL,show(!decide ((8:Int)=0))=true by decide,cond_true,qlj,bS0,Bool.not_true,cond_false,scL,hv,bS0,Bool.not_true,cond_false,show(!decide ((0:Int)=0))=false by decide,cond_false,hv1,bS0,Bool.not_true,cond_false,cnd' (by decide),val _ (fun h=>absurd h (by decide))]
  · have hpos : 0 < rv y := by
      exact Rat.not_le.1 fun h=>h0 ((qoX (p:=rv y) (q:=0)).2 h)
    have e2:qb1 m y=some (qeU (wgh1 (rv y)) m,0):=by
      rw[qb1,hsign,bS0,cnd' h0,qm8 hv (by omega) (fun t h=>by have:=mt t h;omega) ms (by decide) (by decide) hy];rfl
    have g2:Good (qeU (wgh1 (rv y)) m):=g.map (qko g.1.1 g.1.2.1 hpos);have sz2:MSz (qeU (wgh1 (rv y)) m) 16:=qnh ms (by decide) (qrt qy);have ml2:=qk9 (wgh1 (rv y)) m;have mt2:=qjs (f:=wgh1 (rv y)) mt;obtain⟨b2,hv2,hb2⟩:=qve (m:=qeU (wgh1 (rv y)) m) (by omega) (fun t h=>by have:=mt2 t h;omega) sz2 (by decide);rw[hb2.2 g2] at hv2;rw[e2,bS0,hsign,bS0,cnd' h0,hv,bS0,Bool.not_true,cond_false,show(!decide ((0:Int)=0))=false by decide,cond_false,nilL,show(!decide ((0:Int)=0))=false by decide,cond_false,scL,hv,bS0,Bool.not_true,cond_false,show(!decide ((0:Int)=0))=false by decide,cond_false,hv1,bS0,Bool.not_true,cond_false,cnd rfl,hv2,bS0,Bool.not_true,cond_false,val _ (fun _=>⟨hpos,rfl⟩)]
end Go.Proofs.YtlagkhlolphmdaaDoor.X
