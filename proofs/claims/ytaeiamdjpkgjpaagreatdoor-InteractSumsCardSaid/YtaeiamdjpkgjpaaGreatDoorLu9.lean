/- Own work: part of the proof; the first line of each part says what it tells. -/
import Derived.Test.YtaeiamdjpkgjpaaGreatDoorLu8


namespace Go.Proofs.YtaeiamdjpkgjpaaGreatDoor.X
open Go
set_option linter.unusedVariables false
set_option linter.unusedSimpArgs false
theorem qkG (a:RAT):qbx a=some (cutR 4 a):=by
 obtain⟨⟨s,x⟩,y⟩:=a;unfold qbx cutR;by_cases h1:4<x.length
 · have c1 : ((x.length : Nat) : Int) > 4 := by omega
   have c2:(4:Int)<=((x.length:Nat):Int):=by omega
   by_cases h2:4<y.length
   · have c3 : ((y.length : Nat) : Int) > 4 := by omega
     have c4:(4:Int)<=((y.length:Nat):Int):=by omega
     rw[cnd c1,cnd c2,cnd c3,cnd c4]
   · have c3 : ¬ ((y.length : Nat) : Int) > 4 := by omega
     rw[cnd c1,cnd c2,cnd' c3,List.take_of_length_le (l:=y) (by omega)]
 · have c1 : ¬ ((x.length : Nat) : Int) > 4 := by omega
   by_cases h2:4<y.length
   · have c3 : ((y.length : Nat) : Int) > 4 := by omega
     have c4:(4:Int)<=((y.length:Nat):Int):=by omega
     rw[cnd' c1,cnd c3,cnd c4,List.take_of_length_le (l:=x) (by omega)]
   · have c3 : ¬ ((y.length : Nat) : Int) > 4 := by omega
     rw[cnd' c1,cnd' c3,List.take_of_length_le (l:=x) (by omega),List.take_of_length_le (l:=y) (by omega)]
def qqB (n:NODE):NODE:=(n.1,n.2.1,cutR 4 n.2.2.1,n.2.2.2.1,n.2.2.2.2.1,n.2.2.2.2.2.1,cutR 4 n.2.2.2.2.2.2.1,cutR 4 n.2.2.2.2.2.2.2)
def qht (t:List NODE):List NODE:=(t.take 15).map qqB
def cutM (m:qam):qam:=(m.1,(m.2.take 6).map qht)
theorem qvg (n:NODE):NSz (qqB n) 4:=⟨qoy 4 _,qoy 4 _,qoy 4 _⟩
theorem qvf (t:List NODE):TSz (qht t) 4:=by
 intro n hn;obtain⟨x,_,rfl⟩:=List.mem_map.1 hn;exact qvg x
theorem qtb (t:List NODE):(qht t).length<=15:=by simp [qht];omega
theorem qAx (m:qam):MSz (cutM m) 4:=by
 intro t ht;obtain⟨x,_,rfl⟩:=List.mem_map.1 ht;exact qvf x
theorem qxg (m:qam):∀ t∈(cutM m).2,t.length<=15:=by
 intro t ht;obtain⟨x,_,rfl⟩:=List.mem_map.1 ht;exact qtb x
theorem qtl {m:qam} {i:Nat} (hi:i<m.2.length) (hl:m.2[i].length<=9223372036854775807) (hi2:i<4611686018427387904) (z w:Int×List (List NODE)) :
  lp qaI K0 (((i:Int),[],0,()),((m.1,m.2,()),(z.1,z.2,()),(w.1,w.2,()),()))=some (((i:Int),qht m.2[i],()),((m.1,m.2,()),(z.1,z.2,()),(w.1,w.2,()),())):=by
 have hn:min m.2[i].length 15<=m.2[i].length:=Nat.min_le_left _ _;exact qft (step:=qaI) (fun k=>(((i:Int),(m.2[i].take k).map qqB,(k:Int),()),((m.1,m.2,()),(z.1,z.2,()),(w.1,w.2,()),()))) (min m.2[i].length 15) (by omega) (by
  intro g k hk;have h1:k<m.2[i].length:=by omega
  have d0:(0:Int)<=(i:Int):=by omega
  have d1:(k:Int)<((m.2[i].length:Nat):Int):=by omega
  have d2:(k:Int)<15:=by omega
  have d3:(0:Int)<=(k:Int):=by omega
  have d4:(((m.2[i].take k).map qqB).length+1)*208<=140737488355328:=by simp;omega
  rw[qaI,cnd d0,tN0,gE0 hi,bS0,cnd d1,cnd d2,cnd d0,bS0,cnd d3,tN0,gE0 h1,bS0,qkG,bS0,qkG,bS0,qkG,bS0,blt d4,cond_true,qbv (by omega),qgF _ h1];rfl) (by
  intro g;have d0:(0:Int)<=(i:Int):=by omega
  by_cases h:m.2[i].length<=15
  · have c1 : ¬ ((min m.2[i].length 15 : Nat) : Int) < ((m.2[i].length : Nat) : Int) := by omega
    rw[qaI,cnd d0,tN0,gE0 hi,bS0,cnd' c1,Nat.min_eq_left h,List.take_of_length_le (Nat.le_refl _),qht,List.take_of_length_le h]
  · have c1 : ((min m.2[i].length 15 : Nat) : Int) < ((m.2[i].length : Nat) : Int) := by omega
    have c2:¬ ((min m.2[i].length 15:Nat):Int)<15:=by omega
    rw[qaI,cnd d0,tN0,gE0 hi,bS0,cnd c1,cnd' c2,Nat.min_eq_right (by omega),qht])
theorem qy8 (m:qam) (hl:m.2.length<=9223372036854775807) (ht:∀ t∈m.2,t.length<=9223372036854775807):qdD m=some (cutM m):=by
 have hn:min m.2.length 6<=m.2.length:=Nat.min_le_left _ _;have key:=qft (step:=qaJ) (fun i=>(((i:Int),()),((m.1,m.2,()),(0,[],()),(m.1,(m.2.take i).map qht,()),()))) (min m.2.length 6) (r:=((),((0,[],()),(m.1,(m.2.take 6).map qht,()),()))) (by omega) (by
  intro g i hi;have h1:i<m.2.length:=by omega
  have d0:(i:Int)<((m.2.length:Nat):Int):=by omega
  have d1:(i:Int)<6:=by omega
  have hin:=qtl h1 (ht _ (gM0 h1)) (by omega) (0,[]) (m.1,(m.2.take i).map qht);have d4:(((m.2.take i).map qht).length+1)*24<=140737488355328:=by simp;omega
  rw[qaJ,cnd d0,cnd d1,hin,bS0,blt d4,cond_true,qbv (by omega),qgF _ h1];rfl) (by
  intro g;by_cases h:m.2.length<=6
  · have c1 : ¬ ((min m.2.length 6 : Nat) : Int) < ((m.2.length : Nat) : Int) := by omega
    rw[qaJ,cnd' c1,Nat.min_eq_left h,List.take_of_length_le (Nat.le_refl _),List.take_of_length_le h]
  · have c1 : ((min m.2.length 6 : Nat) : Int) < ((m.2.length : Nat) : Int) := by omega
    have c2:¬ ((min m.2.length 6:Nat):Int)<6:=by omega
    rw[qaJ,cnd c1,cnd' c2,Nat.min_eq_right (by omega)])
 have key':lp qaJ K0 ((0,()),((m.1,m.2,()),(0,[],()),(m.1,[],()),()))=_:=key;rw[qdD,key'];rfl
inductive TR where
 | leaf (i:Nat)
 | split (i:Nat) (l r:TR)
def TR.top:TR->Nat
 | .leaf i=>i
 | .split i _ _=>i
def TR.size:TR->Nat
 | .leaf _=>1
 | .split _ l r=>1+l.size+r.size
def TR.deep:TR->Nat
 | .leaf _=>1
 | .split _ l r=>1+max l.deep r.deep
def Is (t:List NODE) (f:Int):TR->Prop
 | .leaf i=>∃ h:i<t.length,qgD t[i]=true
 | .split i l r=>∃ h:i<t.length,qgD t[i]=false/\0<=qbY t[i]/\qbY t[i]<f/\nL t[i]=(l.top:Int)/\nR t[i]=(r.top:Int)/\Is t f l/\Is t f r
theorem qzL {t:List NODE} {f:Int} (hr:qgv t f) (hrk:que t):∀ i,i<t.length->∃ T,Is t f T/\T.top=i/\T.deep<=t.length+1:=by
 obtain⟨rk,hrk⟩:=hrk;have key:∀ (d i:Nat),i<t.length->rk i<=d->∃ T,Is t f T/\T.top=i/\T.deep<=rk i+1:=by
  intro d
  induction d with
  | zero =>
   intro i hi hd;cases hl:qgD t[i] with
   | true=>exact⟨.leaf i,⟨hi,hl⟩,rfl,by simp [TR.deep]⟩
   | false =>
    have:=(hrk i hi).2 (nL t[i]).toNat (by rw[qfS hi hl];simp);omega
  | succ d ih =>
   intro i hi hd;cases hl:qgD t[i] with
   | true=>exact⟨.leaf i,⟨hi,hl⟩,rfl,by simp [TR.deep]⟩
   | false =>
    obtain⟨r1,r2,r3,r4,r5,r6⟩:=hr i hi hl;have k1:=(hrk i hi).2 (nL t[i]).toNat (by rw[qfS hi hl];simp);have k2:=(hrk i hi).2 (nR t[i]).toNat (by rw[qfS hi hl];simp);obtain⟨L,hL,hLt,hLd⟩:=ih (nL t[i]).toNat (by omega) (by omega);obtain⟨R,hR,hRt,hRd⟩:=ih (nR t[i]).toNat (by omega) (by omega);refine⟨.split i L R,⟨hi,hl,r1,r2,by rw[hLt];omega,by rw[hRt];omega,hL,hR⟩,rfl,?_⟩
    simp only[TR.deep];omega
 intro i hi;obtain⟨T,h1,h2,h3⟩:=key (rk i) i hi (Nat.le_refl _);have:=(hrk i hi).1;exact⟨T,h1,h2,by omega⟩
theorem Good.tree {m:qam} (h:Good m) {i:Nat} (hi:i<m.2.length):∃ T,Is m.2[i] m.1 T/\T.top=0/\T.deep<=m.2[i].length+1 :=
 qzL (h.ranges hi) (h.shape hi).2 0 (h.1.2.2.2 i hi).1
abbrev zR:RAT:=((false,[]),[])
abbrev zN:NODE:=(false,0,zR,0,0,false,zR,zR)
def qcd (t:List NODE) (i:Nat):NODE:=(t[i]?).getD zN
theorem qbX {t:List NODE} {i:Nat} (h:i<t.length):qcd t i=t[i]:=by simp [qcd,h]
def qxm (row:List CELL) (i:Nat):CELL:=(row[i]?).getD (false,zR)
theorem qvh {row:List CELL} {i:Nat} (h:i<row.length):qxm row i=row[i]:=by simp [qxm,h]
def goes (n:NODE) (c:CELL):Bool:=if c.1 then qBY n else decide (rv c.2<rv (nCut n))
def goL (t:List NODE) (row:List CELL) (i:Nat):Bool:=goes (qcd t i) (qxm row (qbY (qcd t i)).toNat)
def wayT (t:List NODE) (row:List CELL):TR->List Nat
 | .leaf i=>[i]
 | .split i l r=>i::if goL t row i then wayT t row l else wayT t row r
def endT (t:List NODE) (row:List CELL):TR->Nat
 | .leaf i=>i
 | .split i l r=>if goL t row i then endT t row l else endT t row r
theorem qw3 {t:List NODE} {f:Int} {row:List CELL} {T:TR} (h:Is t f T):endT t row T<t.length:=by
 induction T with
 | leaf i=>exact h.1
 | split i l r ihl ihr =>
  obtain⟨h1,_,_,_,_,_,h2,h3⟩:=h;simp only[endT];split
  · exact ihl h2
  · exact ihr h3
theorem Is.top_lt {t:List NODE} {f:Int} {T:TR} (h:Is t f T):T.top<t.length:=by
 cases T with
 | leaf i=>exact h.1
 | split i l r=>exact h.1
theorem TR.size_lt (T:TR):T.size<2 ^ T.deep:=by
 induction T with
 | leaf i=>simp [TR.size,TR.deep]
 | split i l r ihl ihr =>
  simp only[TR.size,TR.deep];have h1:2 ^ l.deep<=2 ^ max l.deep r.deep:=Nat.pow_le_pow_right (by decide) (Nat.le_max_left _ _);have h2:2 ^ r.deep<=2 ^ max l.deep r.deep:=Nat.pow_le_pow_right (by decide) (Nat.le_max_right _ _);rw[Nat.add_comm 1 (max l.deep r.deep),Nat.pow_succ];omega
theorem TR.size_le {T:TR} (h:T.deep<=16):T.size<65536:=by
 have h1:=T.size_lt;have h2:2 ^ T.deep<=2 ^ 16:=Nat.pow_le_pow_right (by decide) h;omega
theorem TR.deep_pos (T:TR):0<T.deep:=by cases T<;>simp [TR.deep]<;>omega
def expT (t:List NODE) (row:List CELL) (set:Nat):TR->Rat
 | .leaf i=>rv (nVal (qcd t i))
 | .split i l r=>if set.testBit (qbY (qcd t i)).toNat then (if goL t row i then expT t row set l else expT t row set r)
  else (cov t l.top*expT t row set l+cov t r.top*expT t row set r)/cov t i
def qkn (t:List NODE) (row:List CELL) (T:TR):Rat:=rv (nVal (qcd t (endT t row T)))
theorem TSz.at {t:List NODE} {k:Nat} (h:TSz t k) {i:Nat} (hi:i<t.length):NSz (qcd t i) k:=by rw[qbX hi];exact h _ (gM0 hi)
theorem qtF {t:List NODE} {f:Int} {row:List CELL} {T:TR} (hs:TSz t 4) (h:Is t f T):SzQ (qkn t row T) 4:=(hs.at (qw3 h)).2.1.szQ (by decide)
theorem qr7 {t:List NODE} (hs:TSz t 4) {i:Nat} (hi:i<t.length):SzQ (cov t i) 4:=(hs.at hi).2.2.szQ (by decide)
theorem qqr {t:List NODE} {f:Int} {row:List CELL} {set:Nat} {T:TR} (hs:TSz t 4) (h:Is t f T):SzQ (expT t row set T) (16*T.size):=by
 induction T with
 | leaf i=>exact((hs.at h.1).2.1.szQ (by decide)).mono (by simp [TR.size])
 | split i l r ihl ihr =>
  obtain⟨h1,_,_,_,_,_,h2,h3⟩:=h;have a:=ihl h2;have b:=ihr h3;simp only[expT,TR.size];split
  · split
    · exact a.mono (by omega)
    · exact b.mono (by omega)
  · have := (((qr7 hs h2.top_lt).mul a).add ((qr7 hs h3.top_lt).mul b)).div (qr7 hs h1);exact this.mono (by omega)
theorem qyF {t:List NODE} {f:Int} {row:List CELL} {set:Nat} {T:TR} (h:Is t f T) (hall:∀ j:Nat,(j:Int)<f->set.testBit j=true):expT t row set T=qkn t row T:=by
 induction T with
 | leaf i=>rfl
 | split i l r ihl ihr =>
  obtain⟨h1,_,f0,f1,_,_,h2,h3⟩:=h;rw[<- qbX h1] at f0 f1;have hb:=hall (qbY (qcd t i)).toNat (by omega);simp only[expT,qkn,endT,hb,if_true];split
  · exact ihl h2
  · exact ihr h3
def mkT (t:List NODE):Nat->Nat->TR
 | 0,i=>.leaf i
 | d+1,i=>if qgD (qcd t i) then .leaf i else .split i (mkT t d (nL (qcd t i)).toNat) (mkT t d (nR (qcd t i)).toNat)
theorem qBl {t:List NODE} {f:Int}:∀ (d:Nat) (T:TR),Is t f T->T.deep<=d->mkT t d T.top=T:=by
 intro d
 induction d with
 | zero=>intro T _ h;have:=T.deep_pos;omega
 | succ d ih =>
  intro T h hd;cases T with
  | leaf i =>
   obtain⟨h1,h2⟩:=h;simp only[TR.top,mkT,qbX h1,h2,if_true]
  | split i l r =>
   obtain⟨h1,h2,_,_,h3,h4,h5,h6⟩:=h;simp only[TR.deep] at hd;show mkT t (d+1) i=_;rw[mkT,qbX h1,h2,h3,h4,tN0,tN0,ih l h5 (by omega),ih r h6 (by omega)];rfl
def treeOf (t:List NODE):TR:=mkT t (t.length+1) 0
theorem Good.treeOf {m:qam} (h:Good m) {i:Nat} (hi:i<m.2.length):Is m.2[i] m.1 (treeOf m.2[i])/\(treeOf m.2[i]).top=0/\(treeOf m.2[i]).deep<=m.2[i].length+1:=by
 obtain⟨T,h1,h2,h3⟩:=h.tree hi;have:X.treeOf m.2[i]=T:=by rw[X.treeOf,<- h2];exact qBl _ T h1 h3
 rw[this];exact⟨h1,h2,h3⟩
def qaA (m:qam) (i:Nat):List NODE:=(m.2[i]?).getD []
theorem qkf {m:qam} {i:Nat} (h:i<m.2.length):qaA m i=m.2[i]:=by simp [qaA,h]
def quC (m:qam) (row:List CELL):Rat:=rsum (fun i=>qkn (qaA m i) row (treeOf (qaA m i))) m.2.length
def sayM (m:qam) (row:List CELL) (set:Nat):Rat:=rsum (fun i=>expT (qaA m i) row set (treeOf (qaA m i))) m.2.length
theorem MSz.at {m:qam} {k:Nat} (h:MSz m k) {i:Nat} (hi:i<m.2.length):TSz (qaA m i) k:=by rw[qkf hi];exact h _ (gM0 hi)
theorem Good.isAt {m:qam} (h:Good m) {i:Nat} (hi:i<m.2.length):Is (qaA m i) m.1 (X.treeOf (qaA m i)):=by rw[qkf hi];exact(h.treeOf hi).1
theorem qx8 {m:qam} {row:List CELL} (h:Good m) (hs:MSz m 4) {i:Nat} (hi:i<m.2.length):SzQ (qkn (qaA m i) row (treeOf (qaA m i))) 4:=qtF (hs.at hi) (h.isAt hi)
theorem qzv {m:qam} (h:Good m) (hl:∀ t∈m.2,t.length<=15) {i:Nat} (hi:i<m.2.length):(treeOf (qaA m i)).deep<=16:=by
 rw[qkf hi];have:=(h.treeOf hi).2.2;have:=hl _ (gM0 hi);omega
theorem qAs {m:qam} {row:List CELL} {set:Nat} (h:Good m) (hs:MSz m 4) (hl:∀ t∈m.2,t.length<=15) {i:Nat} (hi:i<m.2.length):SzQ (expT (qaA m i) row set (treeOf (qaA m i))) 1048576:=by
 have:=TR.size_le (qzv h hl hi);exact(qqr (hs.at hi) (h.isAt hi)).mono (by omega)
theorem qtG {m:qam} {row:List CELL} (h:Good m) (hs:MSz m 4) {n:Nat} (hn:n<=m.2.length):SzQ (rsum (fun i=>qkn (qaA m i) row (treeOf (qaA m i))) n) (1+n*5) :=
 qkE fun i hi=>qx8 h hs (by omega)
theorem qv0 {m:qam} {row:List CELL} {set:Nat} (h:Good m) (hs:MSz m 4) (hl:∀ t∈m.2,t.length<=15) {n:Nat} (hn:n<=m.2.length):SzQ (rsum (fun i=>expT (qaA m i) row set (treeOf (qaA m i))) n) (1+n*1048577) :=
 qkE fun i hi=>qAs h hs hl (by omega)
def CSz (row:List CELL) (k:Nat):Prop:=∀ c∈row,SzR c.2 k
theorem qwP {n:NODE} {c:CELL} {k j:Nat} (hn:SzR (nCut n) k) (hk:k<1099511627776) (hc:SzR c.2 j) (hj:j<1099511627776):qgR n c=some (goes n c):=by
 unfold qgR goes;cases h:c.1 with
 | true=>rfl
 | false =>
  rw[cond_false,qmQ (hc.sm hj) (hn.sm hk),bS0,if_neg (by decide)];congr 1;by_cases h:rv c.2<rv (nCut n)
  · rw[decide_eq_true (qtE.2 h),decide_eq_true h]
  · rw[decide_eq_false (fun e=>h (qtE.1 e)),decide_eq_false h]
theorem qxG {n:NODE} {c:CELL} {k j:Nat} (hn:SzR (nCut n) k) (hk:k<1099511627776) (hc:SzR c.2 j) (hj:j<1099511627776):qgS n c=some (!qgD n&&goes n c):=by
 unfold qgS;rw[qwP hn hk hc hj];show _=some (!n.1&&goes n c);cases h:n.1 with
 | true=>rfl
 | false=>rfl
theorem qwQ {t:List NODE} {f:Int} {row:List CELL} {i:Nat} (hs:TSz t 4) (hc:CSz row 9) (hi:i<t.length) (h0:0<=qbY t[i]) (h1:qbY t[i]<(row.length:Int)) :
  ∃ c,row[(qbY t[i]).toNat]?=some c/\SzR c.2 9/\goes t[i] c=goL t row i:=by
 have hlt:(qbY t[i]).toNat<row.length:=by omega
 refine⟨row[(qbY t[i]).toNat],gE0 hlt,hc _ (gM0 hlt),?_⟩;rw[goL,qbX hi,qvh hlt]
theorem qz7 {t:List NODE} {row:List CELL} {i:Nat} (hs:TSz t 4) (hc:CSz row 9) (hi:i<t.length) (h0:0<=qbY t[i]) (h1:qbY t[i]<(row.length:Int)) :
  qh0 t[i] row=some (if goL t row i then nL t[i] else nR t[i]):=by
 obtain⟨c,h2,h3,h4⟩:=qwQ (f:=0) hs hc hi h0 h1;have hz:=hs _ (gM0 hi);rw[qh0,cnd h0,h2,bS0,qwP hz.1 (by decide) h3 (by decide),bS0,h4];cases goL t row i<;>rfl
theorem qxO {t:List NODE} {row:List CELL} (hs:TSz t 4) (hc:CSz row 9) {z:Bool×List Int×List Int}:∀ (T:TR) (m:Nat),Is t (row.length:Int) T->T.deep<=m ->
  lp qaW m ((t,row,(T.top:Int),()),((z.1,z.2.1,z.2.2,()),()))=some ((t,(endT t row T:Int),()),((z.1,z.2.1,z.2.2,()),())):=by
 intro T
 induction T with
 | leaf i =>
  intro m h hm;obtain⟨h1,h2⟩:=h;obtain⟨m,rfl⟩:∃ k,m=k+1:=⟨m-1,by simp only[TR.deep] at hm;omega⟩;have d0:(0:Int)<=(i:Int):=by omega
  show qaW (lp qaW m) _=_;rw[show((TR.leaf i).top:Int)=(i:Int) from rfl,qaW,cnd d0,tN0,gE0 h1,bS0,show t[i].1=true from h2];rfl
 | split i l r ihl ihr =>
  intro m h hm;obtain⟨h1,h2,f0,f1,h3,h4,h5,h6⟩:=h;simp only[TR.deep] at hm;obtain⟨m,rfl⟩:∃ k,m=k+1:=⟨m-1,by omega⟩;have d0:(0:Int)<=(i:Int):=by omega
  show qaW (lp qaW m) _=_;rw[show((TR.split i l r).top:Int)=(i:Int) from rfl,qaW,cnd d0,tN0,gE0 h1,bS0,show t[i].1=false from h2,Bool.not_false,cond_true,cnd d0,bS0,qz7 hs hc h1 f0 f1,bS0];simp only[endT];cases goL t row i with
  | true=>rw[if_pos rfl,if_pos rfl,h3];exact ihl m h5 (by omega)
  | false=>rw[if_neg (by decide),if_neg (by decide),h4];exact ihr m h6 (by omega)
theorem qv2 {t:List NODE} {row:List CELL} {T:TR} (hs:TSz t 4) (hc:CSz row 9) (h:Is t (row.length:Int) T) (h0:T.top=0) (hd:T.deep<=1000000):qg5 t row=some (canQ (qkn t row T)):=by
 have key:=qxO hs hc (z:=(false,[],[])) T K0 h (by unfold K0;omega);rw[h0] at key;have key:lp qaW K0 ((t,row,0,()),((false,[],[],()),()))=_:=key;have hlt:=qw3 (row:=row) h;have hz:=hs _ (gM0 hlt);rw[qg5,key,bS0];dsimp only;rw[cnd (by omega),tN0,gE0 hlt,bS0,qaM (hz.2.1.sm (by decide)),bS0,qkn,qbX hlt]
theorem qxf (l:List CELL):CSz (l.map qhM) 9:=by
 intro c hc;obtain⟨x,_,rfl⟩:=List.mem_map.1 hc;exact⟨Nat.le_trans (qoy 3 _).1 (by decide),Nat.le_trans (qoy 3 _).2 (by decide)⟩
theorem qwX {m:qam} {row:List CELL} (hl:m.2.length<4294967296) (ht:∀ t∈m.2,t.length<4294967296) (hs:MSz m 4) :
  ∃ e:Int,qc4 m row=some e/\qcc m row=some e/\(e=0 ↔ Good m/\(row.length:Int)=m.1):=by
 obtain⟨b,h1,h2⟩:=qAF hl ht hs (by decide);have key:∃ e:Int,qc4 m row=some e/\(e=0 ↔ Good m/\(row.length:Int)=m.1):=by
  cases b with
  | false=>exact⟨1,by rw[qc4,h1];rfl,⟨fun h=>absurd h (by decide),fun h=>by have:=h2.2 h.1;simp at this⟩⟩
  | true =>
   by_cases h:(row.length:Int)=m.1
   · exact⟨0,by rw[qc4,h1,bS0,Bool.not_true,cond_false,decide_eq_true h];rfl,by simp [h2.1 rfl,h]⟩
   · exact⟨14,by rw[qc4,h1,bS0,Bool.not_true,cond_false,decide_eq_false h];rfl,by simp [h]⟩
 obtain⟨e,h3,h4⟩:=key;exact⟨e,h3,by rw[qcc,h3];rfl,h4⟩
structure Askd (m:qam) (row:List CELL):Prop where
 good:Good m
 len:(row.length:Int)=m.1
 ms:MSz m 4
 ml:m.2.length<=6
 mt:∀ t∈m.2,t.length<=15
 cs:CSz row 9
theorem Askd.tree {m:qam} {row:List CELL} (h:Askd m row) {i:Nat} (hi:i<m.2.length):TSz m.2[i] 4/\Is m.2[i] (row.length:Int) (treeOf (qaA m i))/\(treeOf (qaA m i)).top=0/\(treeOf (qaA m i)).deep<=16/\qaA m i=m.2[i]:=by
 have h1:=h.good.treeOf hi;have h2:=qzv h.good h.mt hi;rw[qkf hi] at h2 ⊢;exact⟨h.ms _ (gM0 hi),by rw[h.len];exact h1.1,h1.2.1,h2,rfl⟩
theorem qtu {f:Nat->Rat} {n k:Nat} {q:RAT} (hs:SzQ (rsum f n) k) (hk:k<1099511627776) (hq:Sm q) (e:rv q=f n):qbz (((canQ (rsum f n)).1.1,(canQ (rsum f n)).1.2),(canQ (rsum f n)).2) q=some (canQ (rsum f (n+1))):=by
 have h1:=qb9 (hs.sm hk) hq;rw[qae,e] at h1;exact h1
theorem qvq {m:qam} {row:List CELL} (h:Askd m row):qfi m row=some (canQ (quC m row),0):=by
 obtain⟨e,h1,_,h2⟩:=qwX (row:=row) (by have:=h.ml;omega) (fun t ht=>by have:=h.mt t ht;omega) h.ms;have e0:e=0:=h2.2 ⟨h.good,h.len⟩;subst e0;have ml:=h.ml;have key:=qft (step:=qbu) (fun i=>((row,m.2,((m.2.length:Nat):Int),(i:Int),()),((false,[],[],()),((canQ (rsum (fun i=>qkn (qaA m i) row (treeOf (qaA m i))) i)).1.1,(canQ (rsum (fun i=>qkn (qaA m i) row (treeOf (qaA m i))) i)).1.2,(canQ (rsum (fun i=>qkn (qaA m i) row (treeOf (qaA m i))) i)).2,()),()))) m.2.length (by omega) (by
  intro g i hi;have d0:(i:Int)<((m.2.length:Nat):Int):=by omega
  have d1:(0:Int)<=(i:Int):=by omega
  obtain⟨t1,t2,t3,t4,t5⟩:=h.tree hi;have hv:=qv2 t1 h.cs t2 t3 (by omega);have hq:SzQ (qkn m.2[i] row (treeOf (qaA m i))) 4:=qtF t1 t2;have ha:=qtu (f:=fun i=>qkn (qaA m i) row (treeOf (qaA m i))) (qtG (row:=row) h.good h.ms (n:=i) (by omega)) (by omega) (hq.sm (by decide)) (by rw[qae];show _=qkn (qaA m i) row _;rw[t5])
  rw[qbu,cnd d0,cnd d1,tN0,gE0 hi,bS0,hv,bS0,ha,bS0,qbv (by omega)];rfl) (by
  intro g;rw[qbu,cnd' (by omega)])
 rw[qfi,h1,bS0,show(!decide ((0:Int)=0))=false by decide,cond_false,qcl,bS0];have key':lp qbu K0 ((row,m.2,((m.2.length:Nat):Int),0,()),((false,[],[],()),((canQ 0).1.1,(canQ 0).1.2,(canQ 0).2,()),()))=_:=key;rw[key'];rfl
theorem qnL (n k:Nat):(n/2 ^ k) % 2=1 ↔ n.testBit k=true:=by
 rw[Nat.testBit_eq_decide_div_mod_eq,decide_eq_true_iff]
theorem qyv {set k:Nat} (hs:set<18446744073709551616) (hk:k<=64):qgg (set:Int) (k:Int)=some (set.testBit k):=by
 have h2:(set/2 ^ k:Nat)<18446744073709551616:=Nat.lt_of_le_of_lt (Nat.div_le_self _ _) hs;have h3:=qtW (x:=set/2 ^ k) (y:=1) h2 (by decide);rw[qgg,cnd' (by omega),qvU set k hk];have h3:iand .u64 ((set/2 ^ k:Nat):Int) 1=((set/2 ^ k &&& 1:Nat):Int):=h3;rw[h3,Nat.and_one_is_mod];congr 1;by_cases h:set.testBit k=true
 · rw [h, decide_eq_true];have:=(qnL set k).2 h;omega
 · have h' : set.testBit k = false := by simpa using h
   rw[h',decide_eq_false];intro e;exact h ((qnL set k).1 (by omega))
theorem qz2 {a b:RAT} (ha:Sm a) (hb:Sm b) (h:rv b≠0):qho a b=some (canQ (rv a/rv b)):=by
 rw[qho,qmO ha hb,if_neg h];rfl
theorem qAa {t:List NODE} {i a b:Nat} {x y:RAT} {p q:Rat} {k:Nat} (hs:TSz t 4) (hcov:qeb t) (hi:i<t.length) (ha:a<t.length) (hb:b<t.length) (hL:nL t[i]=(a:Int)) (hR:nR t[i]=(b:Int)) (hx:rv x=p) (hy:rv y=q) (hxs:Sm x) (hys:Sm y)
  (hp:SzQ p k) (hq:SzQ q k) (hk:k<1000000000):qhp t t[i] x y=some (canQ ((cov t a*p+cov t b*q)/cov t i)):=by
 have za:=(hs _ (gM0 ha)).2.2;have zb:=(hs _ (gM0 hb)).2.2;have zi:=(hs _ (gM0 hi)).2.2;have m1:=qaF (za.sm (by decide)) hxs;have m2:=qaF (zb.sm (by decide)) hys;rw[hx] at m1;rw[hy] at m2;have s1:SzQ (rv (nCov t[a])*p) (4+k):=(za.szQ (by decide)).mul hp;have s2:SzQ (rv (nCov t[b])*q) (4+k):=(zb.szQ (by decide)).mul hq;have s3:=s1.add s2;have m3:=qb9 (s1.sm (by omega)) (s2.sm (by omega));rw[qae,qae] at m3;have hne:rv (nCov t[i])≠0:=by
  have:=hcov i hi;intro e;rw[e] at this;exact absurd this (by decide)
 have m4:=qz2 (s3.sm (by omega)) (zi.sm (by decide)) hne;rw[qae] at m4;rw[qhp,show t[i].2.2.2.1=(a:Int) from hL,cnd (by omega),tN0,gE0 ha,bS0,m1,bS0,show t[i].2.2.2.2.1=(b:Int) from hR,cnd (by omega),tN0,gE0 hb,bS0,m2,bS0,m3,bS0,m4,bS0,qeT ha,qeT hb,qeT hi]
theorem qoq {t:List NODE} {row:List CELL} {set:Nat} (hs:TSz t 4) (hc:CSz row 9) (hcov:qeb t) (hset:set<18446744073709551616) (hf64:row.length<=64):∀ (n:Nat) (T:TR),Is t (row.length:Int) T->T.deep<=n->T.size<=1000000 ->
  qcR n t (T.top:Int) row (set:Int)=some (canQ (expT t row set T)):=by
 intro n
 induction n with
 | zero=>intro T _ hd;have:=T.deep_pos;omega
 | succ n ih =>
  intro T h hd hz;show qfZ (qcR n) t T.top row set=_;cases T with
  | leaf i =>
   obtain⟨h1,h2⟩:=h;have d0:(0:Int)<=(i:Int):=by omega
   have z:=hs _ (gM0 h1);rw[qfZ,show((TR.leaf i).top:Int)=(i:Int) from rfl,cnd d0,tN0,gE0 h1,bS0,show t[i].1=true from h2,cond_true,qaM (z.2.1.sm (by decide)),bS0,expT,qbX h1]
  | split i l r =>
   have h0:=h;obtain⟨h1,h2,f0,f1,h3,h4,h5,h6⟩:=h;have d0:(0:Int)<=(i:Int):=by omega
   simp only[TR.deep] at hd;simp only[TR.size] at hz;obtain⟨c,g1,g2,g3⟩:=qwQ (f:=0) hs hc h1 f0 f1;have z:=hs _ (gM0 h1);have el:qcR n t t[i].2.2.2.1 row set=some (canQ (expT t row set l)):=by rw[show t[i].2.2.2.1=_ from h3];exact ih l h5 (by omega) (by omega)
   have er:qcR n t t[i].2.2.2.2.1 row set=some (canQ (expT t row set r)):=by rw[show t[i].2.2.2.2.1=_ from h4];exact ih r h6 (by omega) (by omega)
   have hft:((qbY t[i]).toNat:Int)=qbY t[i]:=by omega
   have hkn:=qyv (k:=(qbY t[i]).toNat) hset (by omega);rw[hft] at hkn;rw[qfZ,show((TR.split i l r).top:Int)=(i:Int) from rfl,cnd d0,tN0,gE0 h1,bS0,show t[i].1=false from h2,cond_false,hkn,bS0,expT,qbX h1];cases hb:set.testBit (qbY t[i]).toNat with
   | false =>
    have sl:=qqr (row:=row) (set:=set) hs h5;have sr:=qqr (row:=row) (set:=set) hs h6;have sl':=sl.mono (m:=16000000) (by omega);have sr':=sr.mono (m:=16000000) (by omega);rw[Bool.not_false,cond_true,el,bS0,er,bS0,qAa hs hcov h1 h5.top_lt h6.top_lt h3 h4 (qae _) (qae _) (sl'.sm (by decide)) (sr'.sm (by decide)) sl' sr' (by decide),bS0,if_neg (by decide)]
   | true =>
    rw[Bool.not_true,cond_false,cnd f0,g1,bS0,qxG z.1 (by decide) g2 (by decide),bS0,g3,show(!qgD t[i])=true by rw[h2];rfl,Bool.true_and,if_pos rfl];cases goL t row i with
    | true=>rw[cond_true,el,bS0,if_pos rfl]
    | false=>rw[cond_false,er,bS0,if_neg (by decide)]
theorem Askd.cov {m:qam} {row:List CELL} (h:Askd m row) {i:Nat} (hi:i<m.2.length):qeb m.2[i]:=h.good.covers hi
theorem Askd.f64 {m:qam} {row:List CELL} (h:Askd m row):row.length<=64:=by
 have:=h.good.1.2.1;have:=h.len;omega
theorem qxa {m:qam} {row:List CELL} (h:Askd m row) {set:Nat} (hset:set<18446744073709551616):qfc m row (set:Int)=some (canQ (sayM m row set),0):=by
 obtain⟨e,_,h1,h2⟩:=qwX (row:=row) (by have:=h.ml;omega) (fun t ht=>by have:=h.mt t ht;omega) h.ms;have e0:e=0:=h2.2 ⟨h.good,h.len⟩;subst e0;have ml:=h.ml;obtain⟨F,eF⟩:∃ F:Nat->Rat,F=fun i=>expT (qaA m i) row set (treeOf (qaA m i)):=⟨_,rfl⟩
 have hF:∀ n,n<=m.2.length->SzQ (rsum F n) (1+n*1048577):=fun n hn=>by rw[eF];exact qv0 h.good h.ms h.mt hn
 have key:=qft (step:=qbT) (fun i=>((row,(set:Int),m.2,((m.2.length:Nat):Int),(i:Int),()),((false,[],[],()),((canQ (rsum F i)).1.1,(canQ (rsum F i)).1.2,(canQ (rsum F i)).2,()),()))) m.2.length (by omega) (by
  intro g i hi;have d0:(i:Int)<((m.2.length:Nat):Int):=by omega
  have d1:(0:Int)<=(i:Int):=by omega
  obtain⟨t1,t2,t3,t4,t5⟩:=h.tree hi;have hz:=TR.size_le t4;have hv:=qoq t1 h.cs (h.cov hi) hset h.f64 R0 _ t2 (by unfold R0;omega) (by omega);rw[t3] at hv;have hv:qcR R0 m.2[i] 0 row set=some (canQ (expT m.2[i] row set (treeOf (qaA m i)))):=hv;have hq:SzQ (expT m.2[i] row set (treeOf (qaA m i))) 1048576:=(qqr t1 t2).mono (by omega);have ha:=qtu (hF i (by omega)) (by omega) (hq.sm (by decide)) (by rw[qae,eF];show _=expT (qaA m i) row set _;rw[t5])
  rw[qbT,cnd d0,cnd d1,tN0,gE0 hi,bS0,hv,bS0,ha,bS0,qbv (by omega)];rfl) (by
  intro g;rw[qbT,cnd' (by omega)])
 rw[qfc,h1,bS0,show(!decide ((0:Int)=0))=false by decide,cond_false,qcl,bS0];have key':lp qbT K0 ((row,(set:Int),m.2,((m.2.length:Nat):Int),0,()),((false,[],[],()),((canQ 0).1.1,(canQ 0).1.2,(canQ 0).2,()),()))=_:=key;rw[key'];rw[sayM,<- eF];rfl
theorem qw0 (t:List NODE) (row row':List CELL) (T:TR):expT t row 0 T=expT t row' 0 T:=by
 induction T with
 | leaf i=>rfl
 | split i l r ihl ihr=>simp only[expT,Nat.zero_testBit];rw[ihl,ihr,if_neg (by decide),if_neg (by decide)]
theorem qv1 (m:qam) (row row':List CELL):sayM m row 0=sayM m row' 0:=qaB fun i hi=>qw0 _ _ _ _
theorem qAL {m:qam} (hg:Good m) (ms:MSz m 4) (ml:m.2.length<=6) (mt:∀ t∈m.2,t.length<=15) (row:List CELL):qhr m=some (canQ (sayM m row 0),0):=by
 have f0:=hg.1.1;have f1:=hg.1.2.1;obtain⟨b,h1,h2⟩:=qAF (m:=m) (k:=4) (by omega) (fun t ht=>by have:=mt t ht;omega) ms (by decide);have hb:b=true:=h2.2 hg;subst hb;obtain⟨z,ez⟩:∃ z,z=List.replicate m.1.toNat ((false,((false,[]),[])):CELL):=⟨_,rfl⟩;have ha:Askd m z:=⟨hg,by rw[ez];simp;omega,ms,ml,mt,by
  intro c hc;rw[ez] at hc;have:=(List.mem_replicate.1 hc).2;subst this;exact⟨Nat.zero_le _,Nat.zero_le _⟩⟩
 have hv:=qxa ha (set:=0) (by decide);have hv:qfc m z 0=_:=hv;have c1:(decide (m.1=m.1)&&decide (0<=m.1)&&decide (((64:Nat):Int)*m.1<=281474976710656)&&decide (m.1<=9223372036854775807))=true:=by
  rw[decide_eq_true rfl,decide_eq_true f0,decide_eq_true (by omega),decide_eq_true (by omega)];rfl
 rw[qhr,h1,bS0,Bool.not_true,cond_false,c1,cond_true,<- ez,hv,bS0,qv1 m z row]
theorem qy2 (m0:qam) (row0:List CELL) (hl:m0.2.length<=9223372036854775807) (ht:∀ t∈m0.2,t.length<=9223372036854775807) (hr:row0.length<=9223372036854775807) :
   ∃ m row,qcg m0 row0=some (m,row)/\MSz m 4/\m.2.length<=3/\(∀ t∈m.2,t.length<=15)/\CSz row 9:=by
 have hf:=qy8 m0 hl ht;have ms:=qAx m0;have mt:=qxg m0;have h9:=qy7 row0 70 hr (by decide);have h9:qci row0 70=some ((row0.take 70).map qhM):=h9;have cs:=qxf (row0.take 70);by_cases h3:((cutM m0).2.length:Int)>3
 · refine ⟨((cutM m0).1, (cutM m0).2.take 3), (row0.take 70).map qhM, ?_, fun t h => ms t (List.mem_of_mem_take h), by simp; omega, fun t h => mt t (List.mem_of_mem_take h), cs⟩
   rw[qcg,hf,bS0,cnd h3,cnd (by omega),h9];rfl
 · refine ⟨cutM m0, (row0.take 70).map qhM, ?_, ms, by omega, mt, cs⟩;rw[qcg,hf,bS0,cnd' h3,h9];rfl
def qiB (f:Nat->Rat):Nat->Rat
 | 0=>1
 | n+1=>qiB f n*f n
def qcan (qs:List Rat):List RAT:=qs.map canQ
@[simp] theorem qBF (qs:List Rat):(qcan qs).length=qs.length:=by simp [qcan]
def lsum:List Rat->Rat
 | []=>0
 | x::r=>x+lsum r
theorem qeP (a b:List Rat):lsum (a++b)=lsum a+lsum b:=by
 induction a with
 | nil=>simp [lsum,Rat.zero_add]
 | cons x a ih=>simp only[List.cons_append,lsum,ih,Rat.add_assoc]
theorem qeb.ne {t:List NODE} (h:qeb t):∀ i,i<t.length->cov t i≠0:=by
 intro i hi e;have:=h i hi;rw[qeT hi] at e;rw[e] at this;exact absurd this (by decide)
abbrev AP:=Nat×Rat×Bool
def encP (p:AP):PART:=((p.1:Int),canQ p.2.1,p.2.2)
def encW (w:List AP):List PART:=w.map encP
theorem qno (w:List AP):(encW w).length=w.length:=by simp [encW]
theorem qyH {w:List AP} {i:Nat} (h:i<w.length):(encW w)[i]?=some (encP w[i]):=by simp [encW,h]
def along (f:Nat) (q:Rat) (ok:Bool):List AP->List AP
 | []=>[(f,q,ok)]
 | p::w=>if p.1<f then p::along f q ok w else if p.1=f then (f,p.2.1*q,p.2.2&&ok)::w else (f,q,ok)::p::w
theorem qxx (f:Nat) (q:Rat) (ok:Bool) (w:List AP):(along f q ok w).length<=w.length+1:=by
 induction w with
 | nil=>simp [along]
 | cons p w ih => simp only [along]; split
                  · simp only[List.length_cons];omega
                  · split<;>simp
def ASz (w:List AP) (k:Nat):Prop:=∀ p∈w,SzQ p.2.1 k
theorem qyZ {f:Nat} {q:Rat} {ok:Bool} {w:List AP} {k j:Nat} (h:ASz w k) (hq:SzQ q j):ASz (along f q ok w) (k+j):=by
 induction w with
 | nil=>intro p hp;simp [along] at hp;subst hp;exact hq.mono (by omega)
 | cons p w ih =>
  have h1:SzQ p.2.1 k:=h p List.mem_cons_self;have h2:ASz w k:=fun x hx=>h x (List.mem_cons_of_mem _ hx)
  intro x hx;simp only[along] at hx;split at hx
  · rcases List.mem_cons.1 hx with rfl | hx
    · exact h1.mono (by omega)
    · exact ih h2 x hx
  · split at hx
    · rcases List.mem_cons.1 hx with rfl | hx
      · exact h1.mul hq
      · exact(h2 x hx).mono (by omega)
    · rcases List.mem_cons.1 hx with rfl | hx
      · exact hq.mono (by omega)
      · exact(h x hx).mono (by omega)
abbrev AL:=Nat×Rat×List AP
def qnc (t:List NODE) (i:Nat):Nat:=(qbY (qcd t i)).toNat
def qiq (t:List NODE) (row:List CELL):TR->List AP->List AL
 | .leaf i,w=>[(i,rv (nVal (qcd t i)),w)]
 | .split i l r,w=>qiq t row l (along (qnc t i) (cov t l.top/cov t i) (goL t row i) w)++qiq t row r (along (qnc t i) (cov t r.top/cov t i) (!goL t row i) w)
def WSz (w:List AP) (m:Nat) (f:Nat):Prop:=ASz w (8*m+1)/\w.length<=m/\∀ p∈w,p.1<f
theorem qoF {f:Nat} {q:Rat} {ok:Bool} {w:List AP}:∀ p∈along f q ok w,p.1=f\/∃ p'∈w,p'.1=p.1:=by
 induction w with
 | nil=>intro p hp;simp [along] at hp;subst hp;exact .inl rfl
 | cons a w ih =>
  intro p hp;simp only[along] at hp;split at hp
  · rcases List.mem_cons.1 hp with rfl | hp
    · exact .inr ⟨p,List.mem_cons_self,rfl⟩
    · rcases ih p hp with h | ⟨p', h1, h2⟩
      · exact .inl h
      · exact .inr ⟨p',List.mem_cons_of_mem _ h1,h2⟩
  · split at hp
    · rcases List.mem_cons.1 hp with rfl | hp
      · exact .inl rfl
      · exact .inr ⟨p,List.mem_cons_of_mem _ hp,rfl⟩
    · rcases List.mem_cons.1 hp with rfl | hp
      · exact .inl rfl
      · exact .inr ⟨p,hp,rfl⟩
theorem WSz.along {w:List AP} {m f g:Nat} {q:Rat} {ok:Bool} (h:WSz w m g) (hq:SzQ q 8) (hf:f<g):WSz (X.along f q ok w) (m+1) g:=by
 refine⟨fun p hp=>(qyZ h.1 hq p hp).mono (by omega),Nat.le_trans (qxx _ _ _ _) (by have:=h.2.1;omega),fun p hp=>?_⟩;rcases qoF p hp with e | ⟨p',h1,h2⟩
 · omega
 · have:=h.2.2 p' h1;omega
theorem qnj {t:List NODE} (hs:TSz t 4) {a i:Nat} (ha:a<t.length) (hi:i<t.length):SzQ (cov t a/cov t i) 8:=(qr7 hs ha).div (qr7 hs hi)
theorem qyq {t:List NODE} {row:List CELL} {T:TR} {g:Nat} (hs:TSz t 4) (h:Is t (g:Int) T):∀ {w:List AP} {m:Nat},WSz w m g->∀ x∈qiq t row T w,WSz x.2.2 (m+T.deep) g/\SzQ x.2.1 4:=by
 induction T with
 | leaf i =>
  intro w m hw x hx;simp only[qiq,List.mem_singleton] at hx;subst hx;refine⟨⟨fun p hp=>(hw.1 p hp).mono (by simp only[TR.deep];omega),by have:=hw.2.1;simp only[TR.deep];omega,hw.2.2⟩,(hs.at h.1).2.1.szQ (by decide)⟩
 | split i l r ihl ihr =>
  intro w m hw x hx;obtain⟨h1,h2,f0,f1,h3,h4,h5,h6⟩:=h;have hf:qnc t i<g:=by rw[qnc,qbX h1];omega
  simp only[qiq,List.mem_append] at hx;rcases hx with hx | hx
  · have := ihl h5 (hw.along (ok := goL t row i) (qnj hs h5.top_lt h1) hf) x hx;refine⟨⟨fun p hp=>(this.1.1 p hp).mono (by simp only[TR.deep];omega),by have:=this.1.2.1;simp only[TR.deep];omega,this.1.2.2⟩,this.2⟩
  · have := ihr h6 (hw.along (ok := !goL t row i) (qnj hs h6.top_lt h1) hf) x hx;refine⟨⟨fun p hp=>(this.1.1 p hp).mono (by simp only[TR.deep];omega),by have:=this.1.2.1;simp only[TR.deep];omega,this.1.2.2⟩,this.2⟩
def qel:List Rat->Rat
 | []=>1
 | x::r=>x*qel r
theorem qm3 (a b:List Rat):qel (a++b)=qel a*qel b:=by
 induction a with
 | nil=>simp [qel,Rat.one_mul]
 | cons x a ih=>simp only[List.cons_append,qel,ih,Rat.mul_assoc]
def facP (set:Nat) (p:AP):Rat:=if set.testBit p.1 then (if p.2.2 then 1 else 0) else p.2.1
def qbZ (set:Nat) (w:List AP):Rat:=qel (w.map (facP set))
theorem qjw (set f:Nat) (q:Rat) (ok:Bool) (w:List AP):qbZ set (along f q ok w)=qbZ set w*facP set (f,q,ok):=by
 induction w with
 | nil=>simp [qbZ,along,qel,Rat.mul_one,Rat.one_mul]
 | cons p w ih =>
  simp only[qbZ] at ih;simp only[along];split
  · simp only[qbZ,List.map_cons,qel,ih];grind
  · split
    · rename_i e;simp only[qbZ,List.map_cons,qel];have:facP set (f,p.2.1*q,p.2.2&&ok)=facP set p*facP set (f,q,ok):=by
       simp only[facP,e];cases set.testBit f<;>cases p.2.2<;>cases ok<;>simp<;>grind
      rw[this];grind
    · simp only[qbZ,List.map_cons,qel];grind
def legV (set:Nat) (x:AL):Rat:=qbZ set x.2.2*x.2.1
theorem qtO {t:List NODE} {f:Int} {row:List CELL} {set:Nat} {T:TR} (hc:∀ i,i<t.length->cov t i≠0) (h:Is t f T):∀ w,lsum ((qiq t row T w).map (legV set))=qbZ set w*expT t row set T:=by
 induction T with
 | leaf i=>intro w;simp only[qiq,List.map_cons,List.map_nil,lsum,legV,expT,Rat.add_zero]
 | split i l r ihl ihr =>
  intro w;obtain⟨h1,h2,f0,f1,h3,h4,h5,h6⟩:=h;have c:=hc i h1;simp only[qiq,List.map_append,qeP,ihl h5,ihr h6,qjw,expT];have e:(qbY (qcd t i)).toNat=qnc t i:=rfl;rw[e];simp only[facP];obtain⟨a,ea⟩:∃ a,a=expT t row set l:=⟨_,rfl⟩;obtain⟨b,eb⟩:∃ b,b=expT t row set r:=⟨_,rfl⟩;obtain⟨p,ep⟩:∃ p,p=cov t l.top:=⟨_,rfl⟩;obtain⟨q,eq⟩:∃ q,q=cov t r.top:=⟨_,rfl⟩;obtain⟨d,ed⟩:∃ d,d=cov t i:=⟨_,rfl⟩;obtain⟨z,ez⟩:∃ z,z=qbZ set w:=⟨_,rfl⟩;rw[<- ea,<- eb,<- ep,<- eq,<- ed,<- ez];cases set.testBit (qnc t i)<;>cases goL t row i<;>simp<;>grind
theorem WSz.nil (f:Nat):WSz [] 0 f:=⟨fun p hp=>absurd hp (by simp),Nat.le_refl _,fun p hp=>absurd hp (by simp)⟩
def qdP:TR->List Nat
 | .leaf i=>[i]
 | .split i l r=>i::(qdP l++qdP r)
theorem quG (T:TR):(qdP T).length=T.size:=by
 induction T with
 | leaf i=>rfl
 | split i l r ihl ihr=>simp only[qdP,TR.size,List.length_cons,List.length_append,ihl,ihr];omega
theorem qih {t:List NODE} {f:Int} {T:TR} (h:Is t f T):∀ j∈qdP T,j<t.length:=by
 induction T with
 | leaf i=>intro j hj;simp [qdP] at hj;subst hj;exact h.1
 | split i l r ihl ihr =>
  obtain⟨h1,_,_,_,_,_,h2,h3⟩:=h;intro j hj;simp only[qdP,List.mem_cons,List.mem_append] at hj;rcases hj with rfl | hj | hj
  · exact h1
  · exact ihl h2 j hj
  · exact ihr h3 j hj
theorem Is.kids {t:List NODE} {f:Int} {i:Nat} {l r:TR} (h:Is t f (.split i l r)):kids t i=[l.top,r.top]:=by
 obtain⟨h1,h2,_,_,h3,h4,_,_⟩:=h;rw[qfS h1 h2,h3,h4,tN0,tN0]
theorem qiR {t:List NODE} {f:Int} {T:TR} (h:Is t f T):∀ j∈qdP T,j=T.top\/∃ p∈qdP T,j∈kids t p:=by
 induction T with
 | leaf i=>intro j hj;simp [qdP] at hj;exact .inl hj
 | split i l r ihl ihr =>
  have hk:=h.kids;obtain⟨h1,_,_,_,_,_,h2,h3⟩:=h;intro j hj;simp only[qdP,List.mem_cons,List.mem_append] at hj;have hi:i∈qdP (.split i l r):=by simp [qdP]
  rcases hj with rfl | hj | hj
  · exact .inl rfl
  · refine .inr ?_;rcases ihl h2 j hj with rfl | ⟨p,hp,hm⟩
    · exact⟨i,hi,by rw[hk];simp⟩
    · exact⟨p,by simp [qdP,hp],hm⟩
  · refine .inr ?_;rcases ihr h3 j hj with rfl | ⟨p,hp,hm⟩
    · exact⟨i,hi,by rw[hk];simp⟩
    · exact⟨p,by simp [qdP,hp],hm⟩
theorem qn9 {t:List NODE} {f:Int} {rk:Nat->Nat} (hrk:∀ i,i<t.length->rk i<=t.length/\∀ c∈kids t i,rk c<rk i) {T:TR} (h:Is t f T):∀ j∈qdP T,rk j<=rk T.top:=by
 induction T with
 | leaf i=>intro j hj;simp [qdP] at hj;subst hj;exact Nat.le_refl _
 | split i l r ihl ihr =>
  have hk:=h.kids;obtain⟨h1,_,_,_,_,_,h2,h3⟩:=h;have a:=(hrk i h1).2 l.top (by rw[hk];simp);have b:=(hrk i h1).2 r.top (by rw[hk];simp);intro j hj;simp only[qdP,List.mem_cons,List.mem_append] at hj;show rk j<=rk i;rcases hj with rfl | hj | hj
  · exact Nat.le_refl _
  · have:=ihl h2 j hj;omega
  · have:=ihr h3 j hj;omega
theorem qqq {t:List NODE} {n j p p':Nat} (hp:p<n) (hp':p'<n) (hne:p≠p') (h:j∈kids t p) (h':j∈kids t p'):2<=((List.range n).flatMap (kids t)).count j:=by
 have key:∀ {a b n:Nat},a<b->b<n->j∈kids t a->j∈kids t b->2<=((List.range n).flatMap (kids t)).count j:=by
   intro a b n hab hb ha hbm;have e:List.range n=List.range b++(List.range (n-b)).map (·+b):=by
    have h1:n=b+(n-b):=by omega
    conv=>lhs;rw[h1,List.range_add]
    congr 1;refine List.map_congr_left fun x _=>Nat.add_comm _ _
   rw[e,List.flatMap_append,List.count_append];have c1:0<((List.range b).flatMap (kids t)).count j:=List.count_pos_iff.2 (List.mem_flatMap.2 ⟨a,by simpa using hab,ha⟩);have c2:0<(((List.range (n-b)).map (·+b)).flatMap (kids t)).count j:=List.count_pos_iff.2 (List.mem_flatMap.2 ⟨b,List.mem_map.2 ⟨0,by simp;omega,by simp⟩,hbm⟩);omega
 rcases Nat.lt_or_gt_of_ne hne with hlt | hlt
 · exact key hlt hp' h h'
 · exact key hlt hp h' h
theorem qrl {t:List NODE} {f:Int} (hs:qpC t) {T:TR} (h:Is t f T):(qdP T).Nodup:=by
 obtain⟨hc,rk,hrk⟩:=hs;have one:∀ j p p',p<t.length->p'<t.length->0<j->j<t.length->j∈kids t p->j∈kids t p'->p=p':=by
  intro j p p' hp hp' h0 hj hm hm';refine Classical.byContradiction fun hne=>?_
  have h1:=qqq hp hp' hne hm hm';have h2:=hc j h0 hj;rw[cnt] at h2;omega
 induction T with
 | leaf i=>simp [qdP]
 | split i l r ihl ihr =>
  have hk:=h.kids;obtain⟨h1,g1,g2,g3,g4,g5,h2,h3⟩:=h;have ra:=(hrk i h1).2 l.top (by rw[hk];simp);have rb:=(hrk i h1).2 r.top (by rw[hk];simp);have nl:=qn9 hrk h2;have nr:=qn9 hrk h3;have top0:∀ j∈kids t i,0<j->True:=fun _ _ _=>trivial
  refine List.nodup_cons.2 ⟨fun hm=>?_,List.nodup_append.2 ⟨ihl h2,ihr h3,?_⟩⟩
  · rcases List.mem_append.1 hm with hm | hm
    · have:=nl i hm;omega
    · have:=nr i hm;omega
  ·
    have key:∀ (d j:Nat),t.length-rk j<=d->j∈qdP l->j∈qdP r->False:=by
      intro d
      induction d with
      | zero =>
       intro j hd hl hr;have:=nl j hl;have:=(hrk i h1).1;omega
      | succ d ih =>
       intro j hd hl hr;have hjl:=qih h2 j hl;have par:∃ p p',p<t.length/\p'<t.length/\j∈kids t p/\j∈kids t p'/\((p=i/\j=l.top)\/p∈qdP l)/\((p'=i/\j=r.top)\/p'∈qdP r):=by
         have hk1:l.top∈kids t i:=by rw[hk];simp
         have hk2:r.top∈kids t i:=by rw[hk];simp
         rcases qiR h2 j hl with e | ⟨p,hp,hm⟩
         · rcases qiR h3 j hr with e' | ⟨p', hp', hm'⟩
           · exact⟨i,i,h1,h1,by rw[e];exact hk1,by rw[e];exact hk1,.inl ⟨rfl,e⟩,.inl ⟨rfl,e'⟩⟩
           · exact⟨i,p',h1,qih h3 p' hp',by rw[e];exact hk1,hm',.inl ⟨rfl,e⟩,.inr hp'⟩
         · rcases qiR h3 j hr with e' | ⟨p', hp', hm'⟩
           · exact⟨p,i,qih h2 p hp,h1,hm,by rw[e'];exact hk2,.inr hp,.inl ⟨rfl,e'⟩⟩
           · exact⟨p,p',qih h2 p hp,qih h3 p' hp',hm,hm',.inr hp,.inr hp'⟩
       obtain⟨p,p',q1,q2,q3,q4,q5,q6⟩:=par;by_cases h0:0<j
       · have e := one j p p' q1 q2 h0 hjl q3 q4;subst e;rcases q5 with ⟨e1,e2⟩ | q5
         · rcases q6 with ⟨_, e3⟩ | q6
           ·
             have h5:=hc j h0 hjl;rw[cnt] at h5;have:((List.range t.length).flatMap (kids t)).count j>=(kids t i).count j:=by
               have hi:i∈List.range t.length:=by simpa using h1
               obtain⟨a,b,eab⟩:=List.append_of_mem hi;rw[eab,List.flatMap_append,List.flatMap_cons,List.count_append,List.count_append];omega
             rw[hk,<- e2,<- e3] at this;simp at this;omega
           · rw [e1] at q6;have:=nr i q6;omega
         · rcases q6 with ⟨e1, _⟩ | q6
           · rw [e1] at q5;have:=nl i q5;omega
           · have := (hrk p q1).2 j q3;have:=(hrk p q1).1;exact ih p (by omega) q5 q6
       ·
         have j0:j=0:=by omega
         have nokid:∀ (d q:Nat),t.length-rk q<=d->q<t.length->j∈kids t q->False:=by
           intro d
           induction d with
           | zero =>
             intro q hd hq hm;have:=(hrk q hq).2 j hm;by_cases hq0:q=0
             · rw[j0,hq0] at this;omega
             · obtain ⟨p, hp, hpm⟩ := qir hc (by omega) hq;have a:=(hrk p hp).2 q hpm;have b:=(hrk p hp).1;omega
           | succ d ihd =>
             intro q hd hq hm;have hlt:=(hrk q hq).2 j hm;by_cases hq0:q=0
             · rw[j0,hq0] at hlt;omega
             ·
               have up:∀ (d2 u:Nat),t.length-rk u<=d2->u<t.length->rk q<=rk u->False:=by
                intro d2
                induction d2 with
                | zero =>
                 intro u hu hu2 hqu;by_cases hu0:u=0
                 · rw[hu0] at hqu;rw[j0] at hlt;omega
                 · obtain ⟨p, hp, hpm⟩ := qir hc (by omega) hu2;have a:=(hrk p hp).2 u hpm;have b:=(hrk p hp).1;omega
                | succ d2 ihd2 =>
                 intro u hu hu2 hqu;by_cases hu0:u=0
                 · rw[hu0] at hqu;rw[j0] at hlt;omega
                 · obtain ⟨p, hp, hpm⟩ := qir hc (by omega) hu2;have a:=(hrk p hp).2 u hpm;have b:=(hrk p hp).1;exact ihd2 p (by omega) hp (by omega)
               exact up _ q (Nat.le_refl _) hq (Nat.le_refl _)
         exact nokid _ p (Nat.le_refl _) q1 q3
    intro a ha b hb e;subst e;exact key _ a (Nat.le_refl _) ha hb
theorem qvM {t:List NODE} {f:Int} (hs:qpC t) {T:TR} (h:Is t f T):T.size<=t.length:=by
 rw[<- quG];exact qjF (qrl hs h) (qih h)
theorem TR.size_pos (T:TR):0<T.size:=by cases T<;>simp [TR.size]<;>omega
theorem qxb (T:TR):2*T.deep<=T.size+1:=by
 induction T with
 | leaf i=>simp [TR.deep,TR.size]
 | split i l r ihl ihr =>
  have:=l.size_pos;have:=r.size_pos;simp only[TR.deep,TR.size];omega
def qlT (w:List AP):Prop:=w.Pairwise fun a b=>a.1<b.1
theorem qmv {f:Nat} {q:Rat} {ok:Bool} {w:List AP} (h:qlT w):qlT (along f q ok w):=by
 induction w with
 | nil=>simp [along,qlT]
 | cons p w ih =>
  have h1:=List.pairwise_cons.1 h;simp only[along];split
  · rename_i hp;refine List.pairwise_cons.2 ⟨fun a ha=>?_,ih h1.2⟩;rcases qoF a ha with e | ⟨p',h3,h4⟩
    · omega
    · have:=h1.1 p' h3;omega
  · split
    · rename_i e;exact List.pairwise_cons.2 ⟨fun a ha=>by have:=h1.1 a ha;show f<a.1;omega,h1.2⟩
    · refine List.pairwise_cons.2 ⟨fun a ha => ?_, h⟩;show f<a.1;rcases List.mem_cons.1 ha with rfl | ha
      · omega
      · have:=h1.1 a ha;omega
def flo (n:Nat) (o:Nat->Rat):List RAT:=(List.range n).map fun f=>canQ (o f)
theorem qaY (n:Nat) (o:Nat->Rat):(flo n o).length=n:=by simp [flo]
theorem qeR {n f:Nat} (o:Nat->Rat) (h:f<n):(flo n o)[f]?=some (canQ (o f)):=by simp [flo,h]
theorem qlL {n:Nat} {o p:Nat->Rat} (h:∀ f,f<n->o f=p f):flo n o=flo n p:=by
 rw[flo,flo];exact List.map_congr_left fun f hf=>by rw[h f (List.mem_range.1 hf)]
theorem qwV {n i:Nat} {o p:Nat->Rat} {x:Rat} (hx:p i=x) (hp:∀ f,f≠i->p f=o f):(flo n o).set i (canQ x)=flo n p:=by
 apply List.ext_getElem?;intro f;rw[List.getElem?_set];by_cases hf:f<n
 · rw [qeR _ hf, qeR _ hf, qaY];by_cases e:i=f
   · rw[if_pos e,if_pos (by omega),<- e,hx]
   · rw[if_neg e,hp f (fun h=>e h.symm)]
 · have h1 : (flo n o)[f]? = none := List.getElem?_eq_none (by rw [qaY]; omega);have h2:(flo n p)[f]?=none:=List.getElem?_eq_none (by rw[qaY];omega);rw[h1,h2];split
   · rw[if_neg (by rw[qaY];omega)]
   · rfl
theorem qwB {t:List NODE} {row:List CELL} (T:TR):∀ {w:List AP},qlT w->∀ x∈qiq t row T w,qlT x.2.2:=by
 induction T with
 | leaf i=>intro w h x hx;simp only[qiq,List.mem_singleton] at hx;subst hx;exact h
 | split i l r ihl ihr =>
  intro w h x hx;simp only[qiq,List.mem_append] at hx;rcases hx with hx | hx
  · exact ihl (qmv h) x hx
  · exact ihr (qmv h) x hx
def whyR (b:Bool) (m:qam) (row:List CELL):Int:=if b then (if (row.length:Int)=m.1 then 0 else 14) else 1
theorem qzF {b:Bool} {m:qam} (h:qds m=some b) (row:List CELL):qcc m row=some (whyR b m row)/\qeM m row=some (whyR b m row):=by
 have:qc4 m row=some (whyR b m row):=by
  rw[qc4,h,bS0,whyR];cases b with
  | false=>rfl
  | true =>
   rw[Bool.not_true,cond_false,if_pos rfl];by_cases e:(row.length:Int)=m.1
   · rw[decide_eq_true e,if_pos e];rfl
   · rw[decide_eq_false e,if_neg e];rfl
 exact⟨by rw[qcc,this];rfl,this⟩
theorem qfI {f:Nat->Rat} {n:Nat} (h:∀ i,i<n->f i=0):rsum f n=0:=by
 induction n with
 | zero=>rfl
 | succ n ih=>rw[rsum,ih fun i hi=>h i (by omega),h n (by omega),Rat.add_zero]
theorem qfy {S f:Nat} (h:S.testBit f=false):∀ j,(S+2 ^ f).testBit j=(decide (j=f) || S.testBit j):=by
 induction f generalizing S with
 | zero =>
  intro j;have h0:S % 2=0:=by rw[Nat.testBit_zero] at h;simpa using h
  cases j with
  | zero=>rw[Nat.testBit_zero];simp;omega
  | succ j =>
   rw[Nat.testBit_succ,Nat.testBit_succ,show(S+2 ^ 0)/2=S/2 by omega];simp
 | succ f ih =>
  intro j;rw[Nat.testBit_succ] at h;have e1:(S+2 ^ (f+1))/2=S/2+2 ^ f:=by rw[Nat.pow_succ];omega
  have e2:(S+2 ^ (f+1)) % 2=S % 2:=by rw[Nat.pow_succ];omega
  cases j with
  | zero=>rw[Nat.testBit_zero,Nat.testBit_zero,e2];simp
  | succ j =>
   rw[Nat.testBit_succ,Nat.testBit_succ,e1,ih h];simp
theorem qvm {S f n:Nat} (h:S.testBit f=false) (hS:S<2 ^ n) (hf:f<n):S+2 ^ f<2 ^ n:=by
 refine Nat.lt_pow_two_of_testBit _ fun i hi=>?_
 rw[qfy h,decide_eq_false (by omega),Bool.false_or];exact Nat.testBit_lt_two_pow (Nat.lt_of_lt_of_le hS (Nat.pow_le_pow_right (by decide) hi))
def popc:Nat->Nat->Nat
 | 0,_=>0
 | n+1,S=>popc n S+(if S.testBit n then 1 else 0)
theorem qzX (n S:Nat):popc n S<=n:=by
 induction n with
 | zero=>exact Nat.le_refl _
 | succ n ih=>rw[popc];split<;>omega
theorem quD {n S S':Nat} (h:∀ j,j<n->S.testBit j=S'.testBit j):popc n S=popc n S':=by
 induction n with
 | zero=>rfl
 | succ n ih=>rw[popc,popc,ih fun j hj=>h j (by omega),h n (by omega)]
theorem quu (f:Nat->Rat) (a b:Nat):rsum f (a+b)=rsum f a+rsum (fun i=>f (i+a)) b:=by
 induction b with
 | zero=>simp [rsum,Rat.add_zero]
 | succ b ih=>rw[<- Nat.add_assoc,rsum,ih,rsum,Rat.add_assoc,Nat.add_comm a b]
theorem qsx {f g:Nat->Rat} {n:Nat} (h:∀ i,i<n->f i=g i):qiB f n=qiB g n:=by
 induction n with
 | zero=>rfl
 | succ n ih=>rw[qiB,qiB,ih fun i hi=>h i (by omega),h n (by omega)]
abbrev BA:=Rat×Rat
def pick (x:BA) (b:Bool):Rat:=if b then x.2 else x.1
def EE:List BA->(Nat->Rat)->Rat
 | [],c=>c 0
 | x::L,c=>x.1*EE L c+x.2*EE L fun k=>c (k+1)
theorem qgN {L:List BA}:∀ {c d:Nat->Rat},(∀ k,k<=L.length->c k=d k)->EE L c=EE L d:=by
 induction L with
 | nil=>intro c d h;exact h 0 (Nat.le_refl _)
 | cons x L ih =>
  intro c d h;rw[EE,EE,ih fun k hk=>h k (by simp only[List.length_cons];omega),ih fun k hk=>h (k+1) (by simp only[List.length_cons];omega)]
theorem qxK {L:List BA}:∀ {c d:Nat->Rat},EE L (fun k=>c k+d k)=EE L c+EE L d:=by
 induction L with
 | nil=>intro c d;rfl
 | cons x L ih=>intro c d;rw[EE,EE,EE,ih,ih];grind
theorem qxJ {L:List BA}:∀ {c:Nat->Rat} {q:Rat},EE L (fun k=>q*c k)=q*EE L c:=by
 induction L with
 | nil=>intro c q;rfl
 | cons x L ih=>intro c q;rw[EE,EE,ih,ih];grind
theorem qtm {L M:List BA} (h:L.Perm M):∀ c,EE L c=EE M c:=by
 induction h with
 | nil=>intro c;rfl
 | cons x _ ih=>intro c;rw[EE,EE,ih,ih]
 | swap x y L=>intro c;simp only[EE];grind
 | trans _ _ ih1 ih2=>intro c;rw[ih1,ih2]
theorem qBy {L:List BA} {x:BA}:∀ c,EE (x::L) c=EE (L++[x]) c:=fun c=>qtm (by
 have:=(List.perm_append_comm (l₁:=[x]) (l₂:=L));simpa using this) c
theorem qBz (L:List BA) (c:Nat->Rat):EE ((1,1)::L) c=EE L fun k=>c k+c (k+1):=by
 rw[EE,qxK];grind
theorem qBA (L:List BA) (c:Nat->Rat):EE ((1,0)::L) c=EE L c:=by rw[EE];grind
theorem qx1 (g:Nat->BA) (n:Nat):∀ c:Nat->Rat,rsum (fun S=>c (popc n S)*qiB (fun j=>pick (g j) (S.testBit j)) n) (2 ^ n)=EE ((List.range n).map g) c:=by
 induction n with
 | zero=>intro c;simp [rsum,popc,qiB,EE,Rat.mul_one,Rat.zero_add]
 | succ n ih =>
  intro c;have hb:∀ S,S<2 ^ n->S.testBit n=false:=fun S hS=>Nat.testBit_lt_two_pow hS
  have e1:rsum (fun S=>c (popc (n+1) S)*qiB (fun j=>pick (g j) (S.testBit j)) (n+1)) (2 ^ n)=(g n).1*rsum (fun S=>c (popc n S)*qiB (fun j=>pick (g j) (S.testBit j)) n) (2 ^ n):=by
   rw[Rat.mul_comm (g n).1,<- qfW];refine qaB fun S hS=>?_
   rw[popc,qiB,hb S hS,if_neg (by decide),Nat.add_zero,pick,if_neg (by decide)];grind
  have e2:rsum (fun S=>c (popc (n+1) (S+2 ^ n))*qiB (fun j=>pick (g j) ((S+2 ^ n).testBit j)) (n+1)) (2 ^ n)=(g n).2*rsum (fun S=>c (popc n S+1)*qiB (fun j=>pick (g j) (S.testBit j)) n) (2 ^ n):=by
   rw[Rat.mul_comm (g n).2,<- qfW];refine qaB fun S hS=>?_
   have hj:=qfy (hb S hS);have hp:popc n (S+2 ^ n)=popc n S:=quD fun j hj'=>by rw[hj j,decide_eq_false (by omega),Bool.false_or]
   have hr:qiB (fun j=>pick (g j) ((S+2 ^ n).testBit j)) n=qiB (fun j=>pick (g j) (S.testBit j)) n:=qsx fun j hj'=>by rw[hj j,decide_eq_false (by omega),Bool.false_or]
   rw[popc,qiB,hp,hr,hj n,decide_eq_true rfl,Bool.true_or,if_pos rfl,pick,if_pos rfl];grind
  rw[Nat.pow_succ,Nat.mul_two,quu,e1,e2,ih c,ih fun k=>c (k+1),List.range_succ,List.map_append];show _=EE (_++[g n]) c;rw[<- qBy,EE]
theorem qze {k n:Nat} (h:k<n):wq k (n+1)+wq (k+1) (n+1)=wq k n:=by
 unfold wq quo;have e1:n+1-k-1=(n-k-1)+1:=by omega
 have e2:n+1-(k+1)-1=n-k-1:=by omega
 rw[e1,e2];obtain⟨j,hj⟩:∃ j,j=n-k-1:=⟨_,rfl⟩;rw[<- hj];have hn:((n:Nat):Rat)=(j:Rat)+(k:Rat)+1:=by
  have:n=j+k+1:=by omega
  rw[this];push_cast;rfl
 have f1:((fac (j+1):Nat):Rat)=((j:Rat)+1)*((fac j:Nat):Rat):=by rw[fac];push_cast;rfl
 have f2:((fac (k+1):Nat):Rat)=((k:Rat)+1)*((fac k:Nat):Rat):=by rw[fac];push_cast;rfl
 have f3:((fac (n+1):Nat):Rat)=((n:Rat)+1)*((fac n:Nat):Rat):=by rw[fac];push_cast;rfl
 have p1:((fac n:Nat):Rat)≠0:=by
  have:=qs2 n;intro e;have:(fac n:Nat)=0:=by exact_mod_cast e
  omega
 have p2:(n:Rat)+1≠0:=by
  intro e;have:((n+1:Nat):Rat)=0:=by push_cast;exact e
  have:(n+1:Nat)=0:=by exact_mod_cast this
  omega
 rw[f1,f2,f3];obtain⟨a,ha⟩:∃ a,a=((fac k:Nat):Rat):=⟨_,rfl⟩;obtain⟨b,hb⟩:∃ b,b=((fac j:Nat):Rat):=⟨_,rfl⟩;obtain⟨d,hd⟩:∃ d,d=((fac n:Nat):Rat):=⟨_,rfl⟩;obtain⟨x,hx⟩:∃ x,x=(j:Rat):=⟨_,rfl⟩;obtain⟨y,hy⟩:∃ y,y=(k:Rat):=⟨_,rfl⟩;rw[<- hd] at p1 ⊢;rw[hn,<- hx,<- hy] at p2;rw[hn,<- ha,<- hb,<- hx,<- hy]
 grind
theorem qy9 (L:List BA) (d:Nat):EE (List.replicate d (1,1)++L) (fun k=>wq k (L.length+1+d))=EE L fun k=>wq k (L.length+1):=by
 induction d with
 | zero=>rfl
 | succ d ih =>
  rw[List.replicate_succ,List.cons_append,qBz,<- ih];refine qgN fun k hk=>?_
  simp only[List.length_append,List.length_replicate] at hk;exact qze (k:=k) (n:=L.length+1+d) (by omega)
def qsq (v:Nat->Rat) (n f S:Nat):Rat:=if S.testBit f then 0 else wq (popc n S) n*(v (S+2 ^ f)-v S)
def qju (v:Nat->Rat) (n f:Nat):Rat:=rsum (qsq v n f) (2 ^ n)
theorem qsr {v w:Nat->Rat} {n f:Nat} (hf:f<n) (h:∀ S,S<2 ^ n->v S=w S):qju v n f=qju w n f:=by
 refine qaB fun S hS=>?_
 unfold qsq;cases hb:S.testBit f with
 | true=>rfl
 | false=>rw[if_neg (by decide),if_neg (by decide),h S hS,h _ (qvm hb hS hf)]
theorem qfh (f g:Nat->Rat) (n:Nat):rsum (fun i=>f i+g i) n=rsum f n+rsum g n:=by
 induction n with
 | zero=>simp [rsum,Rat.add_zero]
 | succ n ih=>rw[rsum,rsum,rsum,ih];grind
theorem qvY (v:Nat->Rat) (n f:Nat) (q:Rat):qju (fun S=>v S*q) n f=qju v n f*q:=by
 unfold qju;rw[<- qfW];refine qaB fun S _=>?_
 unfold qsq;split
 · rw[Rat.zero_mul]
 · grind
abbrev FP:=Nat×BA
def lkG:List FP->Nat->BA
 | [],_=>(1,1)
 | p::P,j=>if p.1=j then p.2 else lkG P j
theorem qAf {P:List FP} {j:Nat} (h:j ∉ P.map (·.1)):lkG P j=(1,1):=by
 induction P with
 | nil=>rfl
 | cons p P ih =>
  simp only[List.map_cons,List.mem_cons,not_or] at h;rw[lkG,if_neg (fun e=>h.1 e.symm),ih h.2]
theorem qAg {P:List FP} (hnd:(P.map (·.1)).Nodup):(P.map (·.1)).map (lkG P)=P.map (·.2):=by
 induction P with
 | nil=>rfl
 | cons p P ih =>
  have h:=List.nodup_cons.1 hnd;have ih:=ih h.2;simp only[List.map_cons,lkG,if_true,List.cons.injEq,true_and];rw[<- ih];refine List.map_congr_left fun j hj=>?_
  exact if_neg (fun e=>h.1 (by subst e;exact hj))
theorem quB {n:Nat} {F:List Nat} (hnd:F.Nodup) (hlt:∀ j∈F,j<n):∃ R:List Nat,(List.range n).Perm (F++R)/\∀ j∈R,j ∉ F:=by
 refine⟨(List.range n).filter fun j=>!F.contains j,?_,fun j hj=>by simpa using (List.mem_filter.1 hj).2⟩;refine(List.perm_ext_iff_of_nodup List.nodup_range ?_).2 fun a=>?_
 · refine List.nodup_append.2 ⟨hnd, List.Nodup.sublist List.filter_sublist List.nodup_range, fun a ha b hb e => ?_⟩;subst e;have:=(List.mem_filter.1 hb).2;simp at this;exact this ha
 · simp only [List.mem_append, List.mem_filter, List.mem_range];constructor
   · intro h;by_cases ha:a∈F
     · exact .inl ha
     · exact .inr ⟨h,by simpa using ha⟩
   · rintro (h | h)
     · exact hlt a h
     · exact h.1
theorem qpm {a b:List Rat} (h:a.Perm b):qel a=qel b:=by
 induction h with
 | nil=>rfl
 | cons x _ ih=>rw[qel,qel,ih]
 | swap x y l=>simp only[qel];grind
 | trans _ _ h1 h2=>rw[h1,h2]
theorem qsw (h:Nat->Rat) (n:Nat):qiB h n=qel ((List.range n).map h):=by
 induction n with
 | zero=>rfl
 | succ n ih=>rw[qiB,ih,List.range_succ,List.map_append,qm3];simp [qel,Rat.mul_one]
theorem qu0 {l:List Rat} (h:∀ x∈l,x=1):qel l=1:=by
 induction l with
 | nil=>rfl
 | cons x l ih=>rw[qel,h x List.mem_cons_self,ih fun y hy=>h y (List.mem_cons_of_mem _ hy),Rat.mul_one]
def qkF (P:List FP) (S:Nat):Rat:=qel (P.map fun p=>pick p.2 (S.testBit p.1))
theorem qvW {n f:Nat} {x:BA} {P:List FP} (hf:f<n) (hnd:(P.map (·.1)).Nodup) (hlt:∀ p∈P,p.1<n) (hnf:f ∉ P.map (·.1)) :
  qju (fun S=>pick x (S.testBit f)*qkF P S) n f=(x.2-x.1)*EE (P.map (·.2)) fun k=>wq k (P.length+1):=by
 obtain⟨R,hR,hRF⟩:=quB (n:=n) (F:=f::P.map (·.1)) (List.nodup_cons.2 ⟨hnf,hnd⟩) (fun j hj=>by
  rcases List.mem_cons.1 hj with rfl | hj
  · exact hf
  · obtain⟨p,hp,rfl⟩:=List.mem_map.1 hj;exact hlt p hp)
 obtain⟨g,hg⟩:∃ g:Nat->BA,g=fun j=>if j=f then (1,0) else lkG P j:=⟨_,rfl⟩
 have gf:g f=(1,0):=by rw[hg];exact if_pos rfl
 have gP:(P.map (·.1)).map g=P.map (·.2):=by
  rw[<- qAg hnd];refine List.map_congr_left fun j hj=>?_
  rw[hg];exact if_neg fun e=>hnf (by rw[<- e];exact hj)
 have gR:∀ j∈R,g j=(1,1):=fun j hj=>by
  have:=hRF j hj;simp only[List.mem_cons,not_or] at this;rw[hg];show(if j=f then _ else _)=_;rw[if_neg this.1,qAf this.2]
 have hlen:n=P.length+1+R.length:=by
  have:=hR.length_eq;simp only[List.length_range,List.length_append,List.length_cons,List.length_map] at this;omega
 have hprod:∀ S,qiB (fun j=>pick (g j) (S.testBit j)) n=if S.testBit f then 0 else qkF P S:=fun S=>by
  rw[qsw,qpm (hR.map _),List.map_append,qm3,List.map_cons,qel,gf,qu0 (l:=R.map _) (fun y hy=>by
    obtain⟨j,hj,rfl⟩:=List.mem_map.1 hy;rw[gR j hj];unfold pick;split<;>rfl)]
  have e:((P.map (·.1)).map fun j=>pick (g j) (S.testBit j))=P.map fun p=>pick p.2 (S.testBit p.1):=by
    rw[List.map_map];refine List.map_congr_left fun p hp=>?_
    show pick (g p.1) _=_;have:g p.1=p.2:=by
     obtain⟨i,hi,rfl⟩:=List.mem_iff_getElem.1 hp;have:=congrArg (fun l=>l[i]?) gP;simp only[List.getElem?_map,gE0 hi,Option.map_some,Option.some.injEq] at this;exact this
    rw[this]
  rw[e];unfold pick qkF;split
  · simp [Rat.zero_mul]
  · simp [Rat.one_mul,Rat.mul_one];rfl
 have hsum:qju (fun S=>pick x (S.testBit f)*qkF P S) n f=(x.2-x.1)*rsum (fun S=>wq (popc n S) n*qiB (fun j=>pick (g j) (S.testBit j)) n) (2 ^ n):=by
  unfold qju;rw[Rat.mul_comm,<- qfW];refine qaB fun S hS=>?_
  rw[hprod];unfold qsq;cases hb:S.testBit f with
  | true=>simp [Rat.mul_zero,Rat.zero_mul]
  | false =>
    have hb':=qfy hb;have e1:qkF P (S+2 ^ f)=qkF P S:=by
     unfold qkF;congr 1;refine List.map_congr_left fun p hp=>?_
     rw[hb' p.1,decide_eq_false (fun e=>hnf (List.mem_map.2 ⟨p,hp,e⟩)),Bool.false_or]
    dsimp only;rw[if_neg (by decide),if_neg (by decide),e1,hb' f,decide_eq_true rfl,Bool.true_or];simp only[pick,if_true,Bool.false_eq_true,if_false]
    grind
 have hss:=qx1 g n fun k=>wq k n
 rw[hsum,hss];congr 1;have hp2:((List.range n).map g).Perm ((1,0)::(List.replicate R.length (1,1)++P.map (·.2))):=by
  refine(hR.map g).trans ?_;rw[List.map_append,List.map_cons,gf,gP,List.cons_append];have:R.map g=List.replicate R.length (1,1):=by
    rw[List.eq_replicate_iff];exact⟨by simp,fun y hy=>by obtain⟨j,hj,rfl⟩:=List.mem_map.1 hy;exact gR j hj⟩
  rw[this];exact List.Perm.cons _ List.perm_append_comm
 rw[qtm hp2,qBA];have:=qy9 (P.map (·.2)) R.length;rw[List.length_map] at this;rw[<- this,<- hlen]
theorem qvX {n f:Nat} {P:List FP} (hnf:f ∉ P.map (·.1)):qju (qkF P) n f=0:=by
 unfold qju;refine qfI fun S _=>?_
 unfold qsq;cases hb:S.testBit f with
 | true=>rfl
 | false =>
  have e1:qkF P (S+2 ^ f)=qkF P S:=by
   unfold qkF;congr 1;refine List.map_congr_left fun p hp=>?_
   rw[qfy hb p.1,decide_eq_false (fun e=>hnf (List.mem_map.2 ⟨p,hp,e⟩)),Bool.false_or]
  rw[if_neg (by decide),e1];grind
def askT (t:List NODE) (f:Nat):Bool:=t.any fun n=>!n.1&&decide (n.2.1=(f:Int))
def qqI (m:qam) (f:Nat):Bool:=m.2.any fun t=>askT t f
def qnI (m:qam):List Bool:=(List.range m.1.toNat).map (qqI m)
theorem qvC (m:qam):(qnI m).length=m.1.toNat:=by simp [qnI]
theorem qvD {m:qam} {f:Nat} (h:f<m.1.toNat):(qnI m)[f]?=some (qqI m f):=by simp [qnI,h]
theorem qAD {m:qam} (hv:qds m=some true) (hg:Good m):qgQ m=some (qnI m):=by
 obtain⟨f0,f1,f2,f3⟩:=hg.1;have hc:(decide (0<=m.1)&&(decide (m.1<=64)&&(decide (m.2.length<=64)&&m.2.all fun t=>decide (t.length<=255)&&t.all fun n=>n.1 || (decide (0<=n.2.1)&&decide (n.2.1<m.1)))))=true:=by
  simp only[Bool.and_eq_true,decide_eq_true_eq,List.all_eq_true,Bool.or_eq_true];refine⟨f0,f1,f2,fun t ht=>?_⟩;obtain⟨i,hi,rfl⟩:=List.mem_iff_getElem.1 ht;refine⟨(f3 i hi).2.1,fun n hn=>?_⟩;obtain⟨j,hj,rfl⟩:=List.mem_iff_getElem.1 hn;cases hl:qgD m.2[i][j] with
  | true=>exact .inl hl
  | false =>
   have:=hg.ranges hi j hj hl;exact .inr ⟨this.1,this.2.1⟩
 rw[qgQ,hv,bS0,Bool.not_true,cond_false,hc,cond_true];rfl
theorem qpM {t:List NODE} {g:Int} {i f:Nat} {l r:TR} (h:Is t g (.split i l r)) (ha:askT t f=false):(qbY (qcd t i)).toNat≠f:=by
 obtain⟨h1,h2,f0,f1,_⟩:=h;intro e;rw[qbX h1] at e;have:askT t f=true:=by
  rw[askT,List.any_eq_true];refine⟨t[i],gM0 h1,?_⟩;have h2:t[i].1=false:=h2;have e2:t[i].2.1=(f:Int):=by show qbY t[i]=_;omega
  rw[h2,decide_eq_true e2];rfl
 rw[ha] at this;cases this
theorem qsn {m:qam} {f:Nat} (h:qqI m f=false) {t:List NODE} (ht:t∈m.2):askT t f=false:=by
 rw[qqI,List.any_eq_false] at h;simpa using h t ht
theorem qv3 (q:Rat) (j n:Nat):rsum (fun f=>if j=f then q else 0) n=if j<n then q else 0:=by
 induction n with
 | zero=>rw[if_neg (by omega)];rfl
 | succ n ih =>
  rw[rsum,ih];by_cases h:j<n
  · rw[if_pos h,if_neg (by omega),if_pos (by omega),Rat.add_zero]
  · by_cases e : j = n
    · rw[if_neg h,if_pos e,if_pos (by omega),Rat.zero_add]
    · rw[if_neg h,if_neg e,if_neg (by omega),Rat.add_zero]
def one0 (b:Bool):Rat:=if b then 1 else 0
def mulF (x:BA) (P:Nat->Rat) (k:Nat):Rat:=x.1*P k+(if k=0 then 0 else x.2*P (k-1))
def polF:List BA->Nat->Rat
 | []=>fun k=>if k=0 then 1 else 0
 | x::L=>mulF x (polF L)
theorem qwe (L:List BA):∀ k,polF L k=EE L fun j=>if j=k then 1 else 0:=by
 induction L with
 | nil => intro k; show (if k = 0 then (1 : Rat) else 0) = if 0 = k then 1 else 0
          by_cases h:k=0
          · subst h;rfl
          · rw[if_neg h,if_neg (fun e=>h e.symm)]
 | cons x L ih =>
  intro k;show mulF x (polF L) k=_;rw[mulF,EE,ih];congr 1;by_cases h:k=0
  · subst h;rw[if_pos rfl];have:EE L (fun j=>if j+1=0 then (1:Rat) else 0)=EE L fun j=>0*0:=qgN fun j _=>by rw[if_neg (by omega),Rat.mul_zero]
    rw[this,qxJ,Rat.zero_mul,Rat.mul_zero]
  · rw [if_neg h, ih];congr 1;refine qgN fun j _=>?_
    by_cases e:j=k-1
    · rw[if_pos e,if_pos (by omega)]
    · rw[if_neg e,if_neg (by omega)]
theorem qtI (L:List BA):∀ k,L.length+1<=k->polF L k=0:=by
 induction L with
 | nil=>intro k h;exact if_neg (by simp at h;omega)
 | cons x L ih =>
  intro k h;simp only[List.length_cons] at h;show mulF x (polF L) k=0;rw[mulF,ih k (by omega),if_neg (by omega),ih (k-1) (by omega),Rat.mul_zero,Rat.mul_zero,Rat.add_zero]
theorem qwd {L M:List BA} (h:L.Perm M):polF L=polF M:=by
 funext k;rw[qwe,qwe];exact qtm h _
theorem qpe (f:Nat->Rat) (n:Nat):rsum f (n+1)=f 0+rsum (fun i=>f (i+1)) n:=by
 induction n with
 | zero=>simp [rsum,Rat.add_zero,Rat.zero_add]
 | succ n ih=>rw[rsum,ih,rsum,Rat.add_assoc]
theorem qx4 {f:Nat->Rat} {n m:Nat} (h:∀ i,n<=i->f i=0) (hm:n<=m):rsum f m=rsum f n:=by
 induction m with
 | zero => have : n = 0 := by omega
           subst this;rfl
 | succ m ih =>
  by_cases e:n=m+1
  · rw[e]
  · rw[rsum,h m (by omega),ih (by omega),Rat.add_zero]
theorem qAJ (L:List BA):∀ c,EE L c=rsum (fun j=>polF L j*c j) (L.length+1):=by
 induction L with
 | nil=>intro c;show c 0=0+1*c 0;rw[Rat.one_mul,Rat.zero_add]
 | cons x L ih =>
  intro c;have e1:rsum (fun j=>polF (x::L) j*c j) ((x::L).length+1)=x.1*rsum (fun j=>polF L j*c j) (L.length+1)+x.2*rsum (fun j=>polF L j*c (j+1)) (L.length+1):=by
   have a:∀ j,polF (x::L) j*c j=(polF L j*c j)*x.1+(if j=0 then 0 else polF L (j-1)*c j)*x.2:=fun j=>by
    show mulF x (polF L) j*c j=_;rw[mulF];split<;>grind
   have b:rsum (fun j=>polF (x::L) j*c j) (L.length+2)=rsum (fun j=>(polF L j*c j)*x.1+(if j=0 then 0 else polF L (j-1)*c j)*x.2) (L.length+2):=qaB fun j _=>a j
   show rsum _ (L.length+2)=_;rw[b,qfh,qfW,qfW];have e2:rsum (fun j=>polF L j*c j) (L.length+2)=rsum (fun j=>polF L j*c j) (L.length+1):=qx4 (fun j hj=>by rw[qtI L j hj,Rat.zero_mul]) (by omega);have e3:rsum (fun j=>if j=0 then 0 else polF L (j-1)*c j) (L.length+2)=rsum (fun j=>polF L j*c (j+1)) (L.length+1):=by
    rw[qpe,if_pos rfl,Rat.zero_add];exact qaB fun j _=>by rw[if_neg (by omega),Nat.add_sub_cancel]
   rw[e2,e3];grind
  rw[e1,EE,ih,ih]
theorem qkL {n:Nat} (h:0<n):((n:Nat):Rat)≠0:=by
 intro e;have:(n:Nat)=0:=by exact_mod_cast e
 omega
theorem qpG {i n:Nat} (h:i<n):wq i (n+1)=wq i n*(((n-i:Nat):Rat)/((n+1:Nat):Rat)):=by
 obtain⟨j,rfl⟩:∃ j,n=i+j+1:=⟨n-i-1,by omega⟩;have e1:i+j+1+1-i-1=j+1:=by omega
 have e2:i+j+1-i-1=j:=by omega
 have e3:i+j+1-i=j+1:=by omega
 have a1:((fac (j+1):Nat):Rat)=((j+1:Nat):Rat)*((fac j:Nat):Rat):=by rw[fac];push_cast;rfl
 have a2:((fac (i+j+1+1):Nat):Rat)=((i+j+1+1:Nat):Rat)*((fac (i+j+1):Nat):Rat):=by rw[fac];push_cast;rfl
 have n1:=qkL (qs2 (i+j+1));have n2:=qkL (show 0<i+j+1+1 by omega);simp only[wq,quo];rw[e1,e2,e3,a1,a2];generalize ((fac i:Nat):Rat)=x;generalize ((fac j:Nat):Rat)=y;generalize ((fac (i+j+1):Nat):Rat)=z at *;generalize ((j+1:Nat):Rat)=u;generalize ((i+j+1+1:Nat):Rat)=v at *;rw[Rat.div_def,Rat.div_def,Rat.div_def,Rat.inv_mul_rev]
 grind
theorem qvs {i n:Nat} (h:i<n):wq (i+1) (n+1)=wq i n*(((i+1:Nat):Rat)/((n+1:Nat):Rat)):=by
 obtain⟨j,rfl⟩:∃ j,n=i+j+1:=⟨n-i-1,by omega⟩;have e1:i+j+1+1-(i+1)-1=j:=by omega
 have e2:i+j+1-i-1=j:=by omega
 have a1:((fac (i+1):Nat):Rat)=((i+1:Nat):Rat)*((fac i:Nat):Rat):=by rw[fac];push_cast;rfl
 have a2:((fac (i+j+1+1):Nat):Rat)=((i+j+1+1:Nat):Rat)*((fac (i+j+1):Nat):Rat):=by rw[fac];push_cast;rfl
 simp only[wq,quo];rw[e1,e2,a1,a2];generalize ((fac i:Nat):Rat)=x;generalize ((fac j:Nat):Rat)=y;generalize ((fac (i+j+1):Nat):Rat)=z at *;generalize ((i+1:Nat):Rat)=u;generalize ((i+j+1+1:Nat):Rat)=v at *;rw[Rat.div_def,Rat.div_def,Rat.div_def,Rat.inv_mul_rev]
 grind
def fcP (p:AP):BA:=(p.2.1,one0 p.2.2)
def ekP (P:List AP):Nat->Rat:=polF (P.map fcP)
def wtP (P:List AP) (k:Nat):Rat:=wq k (P.length+1)*ekP P k
theorem qt5 {P Q:List AP} (h:P.Perm Q):ekP P=ekP Q:=qwd (h.map fcP)
theorem qyJ (P:List AP) (p:AP):ekP (P++[p])=mulF (fcP p) (ekP P):=by
 have:(P++[p]).Perm (p::P):=List.perm_append_comm.trans (List.Perm.refl _);rw[qt5 this];rfl
theorem qw5 (P:List AP) {k:Nat} (h:P.length<k):ekP P k=0:=qtI _ k (by simp;omega)
theorem qzE:wtP [] 0=1:=by
 show wq 0 1*1=1;rw[Rat.mul_one];decide +kernel
abbrev LK:=Int×RAT×CELL
def lkF (P:List AP) (w:Nat->Rat) (i:Nat):LK :=
 if i=0 then (-1,canQ 1,true,canQ (w 0)) else
  let p:=(P[i-1]?).getD (0,0,false)
  ((p.1:Int),canQ p.2.1,p.2.2,canQ (w i))
def encK (P:List AP) (w:Nat->Rat):List LK:=(List.range (P.length+1)).map (lkF P w)
theorem qcS (P:List AP) (w:Nat->Rat):(encK P w).length=P.length+1:=by simp [encK]
theorem qcE {P:List AP} {w:Nat->Rat} {i:Nat} (h:i<P.length+1):(encK P w)[i]?=some (lkF P w i):=by simp [encK,h]
theorem qfT {P:List AP} {w w':Nat->Rat} (h:∀ i,i<=P.length->w i=w' i):encK P w=encK P w':=by
 refine List.map_congr_left fun i hi=>?_
 have hi:=List.mem_range.1 hi;unfold lkF;split
 · rename_i e;subst e;rw[h 0 (by omega)]
 · rw[h i (by omega)]
theorem qww (P:List AP) (w:Nat->Rat) (i:Nat):(lkF P w i).2.2.2=canQ (w i):=by
 unfold lkF;split
 · rename_i e;subst e;rfl
 · rfl
theorem qAh (P:List AP) (w:Nat->Rat) (i:Nat) (q:Rat):((lkF P w i).1,(lkF P w i).2.1,(lkF P w i).2.2.1,canQ q)=lkF P (fun j=>if j=i then q else w j) i:=by
 unfold lkF;split
 · rename_i e;subst e;simp
 · simp
theorem qnp {P:List AP} {w:Nat->Rat} {i:Nat} (q:Rat):(encK P w).set i ((lkF P w i).1,(lkF P w i).2.1,(lkF P w i).2.2.1,canQ q)=encK P fun j=>if j=i then q else w j:=by
 rw[qAh];refine List.ext_getElem? fun j=>?_
 rw[List.getElem?_set];by_cases e:i=j
 · subst e;rw[if_pos rfl];by_cases hi:i<P.length+1
   · rw[if_pos (by rw[qcS];exact hi),qcE hi]
   · rw[if_neg (by rw[qcS];exact hi),List.getElem?_eq_none (by rw[qcS];omega)]
 · rw [if_neg e];by_cases hj:j<P.length+1
   · rw [qcE hj, qcE hj];have:(if j=i then q else w j)=w j:=if_neg fun h=>e h.symm
     unfold lkF;split
     · rename_i e0;subst e0;simp only[this]
     · simp only[this]
   · rw[List.getElem?_eq_none (by rw[qcS];omega),List.getElem?_eq_none (by rw[qcS];omega)]
theorem qlB {P:List AP} {w:Nat->Rat} {i:Nat} (h:i<P.length):lkF P w (i+1)=((P[i].1:Int),canQ P[i].2.1,P[i].2.2,canQ (w (i+1))):=by
 simp [lkF,gE0 h]
theorem qw4 (P:List AP) (w:Nat->Rat) (p:AP) (q:Rat):encK P w++[((p.1:Int),canQ p.2.1,p.2.2,canQ q)]=encK (P++[p]) fun j=>if j=P.length+1 then q else w j:=by
 have e:encK (P++[p]) (fun j=>if j=P.length+1 then q else w j)=(List.range (P.length+1)).map (lkF (P++[p]) fun j=>if j=P.length+1 then q else w j)++[lkF (P++[p]) (fun j=>if j=P.length+1 then q else w j) (P.length+1)]:=by
   unfold encK;rw[List.length_append,List.length_singleton,List.range_succ,List.map_append];rfl
 rw[e];congr 1
 · refine List.map_congr_left fun i hi => ?_
   have hi:=List.mem_range.1 hi;unfold lkF;split
   · rename_i e;subst e;simp
   · have : ¬ i = P.length + 1 := by omega
     rw[List.getElem?_append_left (by omega)];simp only[if_neg this]
 · simp [lkF]
structure qfz (P:List AP) (k g:Nat):Prop where
 nd:(P.map (·.1)).Nodup
 sz:ASz P k
 len:P.length<=20
 lt:∀ p∈P,p.1<g
 pos:∀ p∈P,0<p.2.1
theorem qy3:qf3=some (encK [] (wtP [])):=by
 rw[qf3,qjy,bS0,bS0];show some [_]=some [lkF [] (wtP []) 0];simp only[lkF,if_true,qzE]
theorem qAI {P:List AP} {w:Nat->Rat} {f i:Nat} (hi:i<P.length) (he:P[i].1=f) (hn:∀ j (hj:j<P.length),j<i->P[j].1≠f) (hl:P.length<=1000000):qbm (f:Int) (encK P w)=some (((i+1:Nat):Int),encK P w):=by
 have el:=qcS P w;have key:=qft (step:=qaj) (fun k=>(((f:Int),((P.length+1:Nat):Int),(k:Int),()),((encK P w,()),()))) (i+1) (r:=.inr ((((i+1:Nat):Int),()),((encK P w,()),()))) (by omega) (by
  intro g k hk;have d0:(k:Int)<((P.length+1:Nat):Int):=by omega
  have d1:(0:Int)<=(k:Int):=by omega
  have d2:(k:Int)<((encK P w).length:Int):=by omega
  rw[qaj,cnd d0,cnd2 d1 d2,tN0,qcE (by omega),bS0];cases k with
  | zero=>rw[cnd' (by omega),qbv (by omega)];rfl
  | succ k =>
   have hne:¬ (lkF P w (k+1)).1=(f:Int):=by
    rw[qlB (by omega)];have:=hn k (by omega) (by omega);show ¬ ((P[k].1:Nat):Int)=_;omega
   rw[cnd (by omega),cnd' hne,qbv (by omega)];rfl) (by
  intro g;have d0:((i+1:Nat):Int)<((P.length+1:Nat):Int):=by omega
  have d1:(0:Int)<=((i+1:Nat):Int):=by omega
  have d2:((i+1:Nat):Int)<((encK P w).length:Int):=by omega
  have he':(lkF P w (i+1)).1=(f:Int):=by rw[qlB hi];show((P[i].1:Nat):Int)=_;omega
  rw[qaj,cnd d0,cnd2 d1 d2,tN0,qcE (by omega),bS0,cnd (by omega),cnd he'])
 have key:lp qaj K0 (((f:Int),((P.length+1:Nat):Int),0,()),((encK P w,()),()))=_:=key;rw[qbm,el,key];rfl
theorem qug {P:List AP} {w:Nat->Rat} {f:Nat} (hn:∀ p∈P,p.1≠f) (hl:P.length<=1000000):qbm (f:Int) (encK P w)=some (0,encK P w):=by
 have el:=qcS P w;have key:=qft (step:=qaj) (fun k=>(((f:Int),((P.length+1:Nat):Int),(k:Int),()),((encK P w,()),()))) (P.length+1) (r:=.inl ((),((encK P w,()),()))) (by omega) (by
  intro g k hk;have d0:(k:Int)<((P.length+1:Nat):Int):=by omega
  have d1:(0:Int)<=(k:Int):=by omega
  have d2:(k:Int)<((encK P w).length:Int):=by omega
  rw[qaj,cnd d0,cnd2 d1 d2,tN0,qcE (by omega),bS0];cases k with
  | zero=>rw[cnd' (by omega),qbv (by omega)];rfl
  | succ k =>
   have hne:¬ (lkF P w (k+1)).1=(f:Int):=by
    rw[qlB (by omega)];have:=hn P[k] (gM0 (by omega));show ¬ ((P[k].1:Nat):Int)=_;omega
   rw[cnd (by omega),cnd' hne,qbv (by omega)];rfl) (by
  intro g;rw[qaj,cnd' (by omega)])
 have key:lp qaj K0 (((f:Int),((P.length+1:Nat):Int),0,()),((encK P w,()),()))=_:=key;rw[qbm,el,key];rfl
theorem qpD {P:List AP} {w:Nat->Rat} (hl:P.length<=1000000):qb2 (encK P w)=some (encW P,encK P w):=by
 have el:=qcS P w;have key:=qft (step:=qax) (fun k=>((encW (P.take (k-1)),((P.length+1:Nat):Int),(k:Int),()),((encK P w,()),()))) (P.length+1) (r:=((encW P,()),((encK P w,()),()))) (by omega) (by
  intro g k hk;have d0:(k:Int)<((P.length+1:Nat):Int):=by omega
  have d1:(0:Int)<=(k:Int):=by omega
  have d2:(k:Int)<((encK P w).length:Int):=by omega
  rw[qax,cnd d0,cnd2 d1 d2,tN0,qcE (by omega),bS0];cases k with
  | zero=>rw[cnd' (by omega),qbv (by omega)];rfl
  | succ k =>
   have hk':k<P.length:=by omega
   have e:encW (P.take (k+1))=encW (P.take k)++[((lkF P w (k+1)).1,(lkF P w (k+1)).2.1,(lkF P w (k+1)).2.2.1)]:=by
    rw[qlB hk'];exact qgF encP hk'
   rw[cnd (by omega),blt (by rw[qno,List.length_take];omega),cond_true,qbv (by omega)];show g ((encW (P.take k)++_,_,_,_),_)=g ((encW (P.take (k+1)),_,_,_),_);rw[e];rfl) (by
  intro g;rw[qax,cnd' (by omega),Nat.add_sub_cancel,List.take_of_length_le (Nat.le_refl _)])
 have key:lp qax K0 (([],((P.length+1:Nat):Int),0,()),((encK P w,()),()))=_:=key;rw[qb2,el,key];rfl
theorem qol {a b:Nat} (ha:a<1000000) (hb:b<1000000):qcq (a:Int) (b:Int)=some (canQ ((a:Rat)/(b:Rat))):=by
 have:=qlo (n:=(a:Int)) (d:=(b:Int)) (by omega) (by omega) (by omega) (by omega);rw[this];rfl
theorem qmm {a b:Nat} (ha:a<1000000) (hb:b<1000000):SzQ ((a:Rat)/(b:Rat)) 2:=by
 have h:∀ {n:Nat},n<1000000->SzQ (n:Rat) 1:=fun {n} hn=>by
  have:=SzQ.int (z:=(n:Int)) (by omega);exact this
 exact(h ha).div (h hb)
theorem qwm (b:Bool):SzQ (one0 b) 1:=by cases b;exact SzQ.zero;exact SzQ.one
def ekS (k:Nat):Nat->Nat
 | 0=>1
 | n+1=>2*ekS k n+k+2
theorem qt4 (k:Nat) {n m:Nat} (h:n<=m):ekS k n<=ekS k m:=by
 induction h with
 | refl=>exact Nat.le_refl _
 | step _ ih=>simp only[ekS];omega
theorem qrW {k n:Nat} (hk:k<=70) (hn:n<=20):ekS k n<=76546048:=by
 have h1:=qt4 k hn;have h2:ekS k 20<=ekS 70 20:=by
  have:∀ n,ekS k n<=ekS 70 n:=by
   intro n
   induction n with
   | zero=>exact Nat.le_refl _
   | succ n ih=>simp only[ekS];omega
  exact this 20
 have h3:ekS 70 20<=76546048:=by decide +kernel
 omega
theorem qzu {P:List AP} {k:Nat} (h:ASz P k):∀ i,SzQ (ekP P i) (ekS k P.length):=by
 induction P with
 | nil =>
  intro i;show SzQ (if i=0 then (1:Rat) else 0) 1;split
  · exact SzQ.one
  · exact SzQ.zero
 | cons p P ih =>
  intro i;have h1:SzQ p.2.1 k:=h p List.mem_cons_self;have ih:=ih fun x hx=>h x (List.mem_cons_of_mem _ hx)
  show SzQ (mulF (fcP p) (ekP P) i) _;unfold mulF;have a:SzQ ((fcP p).1*ekP P i) (k+ekS k P.length):=h1.mul (ih i);have b:SzQ (if i=0 then 0 else (fcP p).2*ekP P (i-1)) (1+ekS k P.length):=by
    split
    · exact SzQ.zero.mono (by omega)
    · exact(qwm p.2.2).mul (ih _)
  exact(a.add b).mono (by simp only[List.length_cons,ekS];omega)
theorem qtn {P:List AP} {k:Nat} (h:ASz P k) (hl:P.length<=20) {i:Nat} (hi:i<=P.length):SzQ (wtP P i) (30+ekS k P.length) :=
 (qAR (by omega) (by omega)).mul (qzu h i)
def extW (P:List AP) (p:AP) (i:Nat) (j:Nat):Rat :=
 if j<i then wtP P j else if j=i then (if j=P.length+1 then 0 else (p.2.1*wtP P j)*(((P.length+1-j:Nat):Rat)/((P.length+1+1:Nat):Rat))) else wtP (P++[p]) j
theorem qpF {P:List AP} {p:AP} {j:Nat} (hj:j<=P.length+1):wtP (P++[p]) j =
  (if j=P.length+1 then 0 else (p.2.1*wtP P j)*(((P.length+1-j:Nat):Rat)/((P.length+1+1:Nat):Rat))) +
  (if j=0 then 0 else one0 p.2.2*(wtP P (j-1)*(((j-1+1:Nat):Rat)/((P.length+1+1:Nat):Rat)))):=by
 unfold wtP;rw[qyJ,mulF,List.length_append,List.length_singleton];show wq j (P.length+1+1)*(p.2.1*ekP P j+_)=_;have a:(if j=P.length+1 then (0:Rat) else (p.2.1*(wq j (P.length+1)*ekP P j))*(((P.length+1-j:Nat):Rat)/((P.length+1+1:Nat):Rat)))=wq j (P.length+1+1)*(p.2.1*ekP P j):=by
  split
  · rw[qw5 P (by omega),Rat.mul_zero,Rat.mul_zero]
  · rw[qpG (i:=j) (n:=P.length+1) (by omega)];grind
 have b:(if j=0 then (0:Rat) else one0 p.2.2*(wq (j-1) (P.length+1)*ekP P (j-1)*(((j-1+1:Nat):Rat)/((P.length+1+1:Nat):Rat))))=wq j (P.length+1+1)*(if j=0 then 0 else (fcP p).2*ekP P (j-1)):=by
  split
  · rw[Rat.mul_zero]
  · have := qvs (i := j - 1) (n := P.length + 1) (by omega);rw[show j-1+1=j by omega] at this;rw[this,show j-1+1=j by omega];show one0 p.2.2*_=_*(one0 p.2.2*_)
    grind
 rw[a,b];grind
theorem qsi {P:List AP} {k g:Nat} (h:qfz P k g) {f:Nat} {q:Rat} {ok:Bool} (hf:∀ p∈P,p.1≠f) (hq:SzQ q k) (hq0:0<q) (hk:k<=70) (hl:P.length<20) (hfl:f<1000000) :
  qaK (f:Int) (canQ q) ok (encK P (wtP P))=some (0,encK (P++[(f,q,ok)]) (wtP (P++[(f,q,ok)]))):=by
 obtain⟨p,ep⟩:∃ p:AP,p=(f,q,ok):=⟨_,rfl⟩;have hl2:=h.len;have el:=qcS P (wtP P);have hS:=qrW (k:=k) (n:=P.length) hk (by omega);have wsz:∀ i,i<=P.length->SzQ (wtP P i) 100000000:=fun i hi=>(qtn h.sz hl2 hi).mono (by omega)
 obtain⟨N,eN⟩:∃ N,N=P.length+1:=⟨_,rfl⟩;have hsnoc:=qw4 P (wtP P) p 0;have e0:encK (P++[p]) (fun j=>if j=P.length+1 then 0 else wtP P j)=encK (P++[p]) (extW P p N):=by
  refine qfT fun j hj=>?_
  simp only[List.length_append,List.length_singleton] at hj;show(if j=P.length+1 then 0 else wtP P j)=extW P p N j;unfold extW;by_cases e:j=P.length+1
  · rw[if_pos e,if_neg (by omega),if_pos (by omega),if_pos e]
  · rw[if_neg e,if_pos (by omega)]
 have ell:∀ w,(encK (P++[p]) w).length=N+1:=fun w=>by rw[qcS,List.length_append];simp [eN]
 have pn1:iadd .i64 ((N:Nat):Int) 1=((N+1:Nat):Int):=qbv (by omega);have key:=qft (step:=qao) (fun m=>((ok,(N:Int),((N:Nat):Int)-1-(m:Int),()),(((canQ q).1.1,(canQ q).1.2,(canQ q).2,()),(encK (P++[p]) (extW P p (N-m)),()),()))) N
  (r:=((),((encK (P++[p]) (extW P p 0),()),()))) (by omega) (by
  intro g m hm;obtain⟨i,hi⟩:∃ i,N=i+m+1:=⟨N-m-1,by omega⟩;have ei:((N:Nat):Int)-1-(m:Int)=(i:Int):=by omega
  have ei2:((N:Nat):Int)-1-((m+1:Nat):Int)=(i:Int)-1:=by omega
  have en1:N-m=i+1:=by omega
  have en2:N-(m+1)=i:=by omega
  have hiN:i<N:=by omega
  have d0:((i:Nat):Int)>=0:=by omega
  have d1:(0:Int)<=(i:Int):=by omega
  have d2:(i:Int)<((encK (P++[p]) (extW P p (i+1))).length:Int):=by rw[ell];omega
  have g1:=qcE (P:=P++[p]) (w:=extW P p (i+1)) (i:=i) (by rw[List.length_append];simp;omega);have wi:(lkF (P++[p]) (extW P p (i+1)) i).2.2.2=canQ (wtP P i):=by rw[qww,extW,if_pos (by omega)]
  have hw:=wsz i (by omega);have q1:iadd .i64 (i:Int) 1=((i+1:Nat):Int):=qbv (by omega);have q2:isub .i64 (N:Int) (i:Int)=((N-i:Nat):Int):=by rw[qdR (by omega) (by omega)];omega
  have q3:isub .i64 (i:Int) 1=(i:Int)-1:=by rw[qdR (by omega) (by omega)]
  have f1:=qol (a:=i+1) (b:=N+1) (by omega) (by omega);have f2:=qol (a:=N-i) (b:=N+1) (by omega) (by omega);have s1:=qmm (a:=i+1) (b:=N+1) (by omega) (by omega);have s2:=qmm (a:=N-i) (b:=N+1) (by omega) (by omega);have m1:=qaF (hq.sm (by omega)) (hw.sm (by decide));rw[qae,qae] at m1;have m1:qaq (((canQ q).1.1,(canQ q).1.2),(canQ q).2) (canQ (wtP P i))=some (canQ (q*wtP P i)):=m1;have z1:SzQ (q*wtP P i) 200000000:=(hq.mul hw).mono (by omega);have m2:=qaF (z1.sm (by decide)) (s2.sm (by decide));rw[qae,qae] at m2;have fin0:extW P p i i=q*wtP P i*(((N-i:Nat):Rat)/((N+1:Nat):Rat)):=by
    rw[extW,if_neg (by omega),if_pos rfl,if_neg (by omega),ep,eN]
  show qao g ((ok,(N:Int),((N:Nat):Int)-1-(m:Int),()),(((canQ q).1.1,(canQ q).1.2,(canQ q).2,()),(encK (P++[p]) (extW P p (N-m)),()),()))=g ((ok,(N:Int),((N:Nat):Int)-1-((m+1:Nat):Int),()),(((canQ q).1.1,(canQ q).1.2,(canQ q).2,()),(encK (P++[p]) (extW P p (N-(m+1))),()),()));rw[ei,ei2,en1,en2,qao,cnd d0,cnd2 d1 d2,tN0,g1,bS0,wi];cases hok:ok with
  | true =>
    have a1:(0:Int)<=((i+1:Nat):Int):=by omega
    have a2:((i+1:Nat):Int)<((encK (P++[p]) (extW P p (i+1))).length:Int):=by rw[ell];omega
    have g2:=qcE (P:=P++[p]) (w:=extW P p (i+1)) (i:=i+1) (by rw[List.length_append];simp;omega);have m3:=qaF (hw.sm (by decide)) (s1.sm (by decide));rw[qae,qae] at m3;have z3:SzQ (wtP P i*(((i+1:Nat):Rat)/((N+1:Nat):Rat))) 200000000:=(hw.mul s1).mono (by omega);have z4:SzQ (extW P p (i+1) (i+1)) 400000000:=by
     rw[extW,if_neg (by omega),if_pos rfl];split
     · exact SzQ.zero.mono (by decide)
     · have hw' := wsz (i + 1) (by omega);have s3:=qmm (a:=P.length+1-(i+1)) (b:=P.length+1+1) (by omega) (by omega);rw[ep];exact((hq.mul hw').mul s3).mono (by omega)
    have m4:=qb9 (z4.sm (by decide)) (z3.sm (by decide));rw[qae,qae] at m4;have fin1:extW P p (i+1) (i+1)+wtP P i*(((i+1:Nat):Rat)/((N+1:Nat):Rat))=extW P p i (i+1):=by
     have hs:=qpF (P:=P) (p:=p) (j:=i+1) (by omega);rw[if_neg (show ¬ i+1=0 by omega),Nat.add_sub_cancel,show one0 p.2.2=1 by rw[ep,hok];rfl,Rat.one_mul] at hs;have e1:extW P p i (i+1)=wtP (P++[p]) (i+1):=by rw[extW,if_neg (by omega),if_neg (by omega)]
     have e2:extW P p (i+1) (i+1)=if i+1=P.length+1 then 0 else (p.2.1*wtP P (i+1))*(((P.length+1-(i+1):Nat):Rat)/((P.length+1+1:Nat):Rat)):=by rw[extW,if_neg (by omega),if_pos rfl]
     rw[e1,e2,hs,eN]
    have u1:=qnp (P:=P++[p]) (w:=extW P p (i+1)) (i:=i+1) (extW P p i (i+1));have d3:(i:Int)<(((encK (P++[p]) (fun j=>if j=i+1 then extW P p i (i+1) else extW P p (i+1) j))).length:Int):=by rw[ell];omega
    have g3:=qcE (P:=P++[p]) (w:=fun j=>if j=i+1 then extW P p i (i+1) else extW P p (i+1) j) (i:=i) (by rw[List.length_append];simp;omega);have u2:=qnp (P:=P++[p]) (w:=fun j=>if j=i+1 then extW P p i (i+1) else extW P p (i+1) j) (i:=i) (extW P p i i);rw[cond_true,q1,cnd2 a1 a2,tN0,g2,bS0,pn1,f1,bS0,m3,bS0,qww,m4,bS0,fin1,cnd2 a1 a2,bS0,m1,bS0,q2,f2,bS0,m2,bS0,u1,cnd2 d1 d3,g3,bS0,<- fin0,u2,q3];have:encK (P++[p]) (fun j=>if j=i then extW P p i i else if j=i+1 then extW P p i (i+1) else extW P p (i+1) j)=encK (P++[p]) (extW P p i):=by
     refine qfT fun j hj=>?_
     by_cases e1:j=i
     · rw[if_pos e1,e1]
     · rw [if_neg e1];by_cases e2:j=i+1
       · rw[if_pos e2,e2]
       · rw [if_neg e2];unfold extW;by_cases e3:j<i
         · rw[if_pos (by omega),if_pos e3]
         · rw[if_neg (by omega),if_neg (by omega),if_neg (by omega),if_neg (by omega)]
    rw[this]
  | false =>
    have u2:=qnp (P:=P++[p]) (w:=extW P p (i+1)) (i:=i) (extW P p i i);rw[cond_false,m1,bS0,q2,pn1,f2,bS0,m2,bS0,cnd2 d1 d2,bS0,<- fin0,u2,q3];have:encK (P++[p]) (fun j=>if j=i then extW P p i i else extW P p (i+1) j)=encK (P++[p]) (extW P p i):=by
     refine qfT fun j hj=>?_
     simp only[List.length_append,List.length_singleton] at hj;by_cases e1:j=i
     · rw[if_pos e1,e1]
     · rw [if_neg e1];unfold extW;by_cases e3:j<i
       · rw[if_pos (by omega),if_pos e3]
       · by_cases e2 : j = i + 1
         · subst e2;have hs:=qpF (P:=P) (p:=p) (j:=i+1) (by omega);rw[show one0 p.2.2=0 by rw[ep,hok];rfl,Rat.zero_mul,if_neg (show ¬ i+1=0 by omega),Rat.add_zero] at hs
           rw[if_neg (show ¬ i+1<i+1 by omega),if_pos rfl,if_neg (show ¬ i+1<i by omega),if_neg (show ¬ i+1=i by omega),hs]
         · rw[if_neg (by omega),if_neg e2,if_neg (by omega),if_neg (by omega)]
    rw[this]) (by
  intro g;rw[Nat.sub_self,qao,cnd' (by omega)])
 have efin:encK (P++[p]) (extW P p 0)=encK (P++[p]) (wtP (P++[p])):=by
  refine qfT fun j hj=>?_
  unfold extW;rw[if_neg (by omega)];by_cases e:j=0
  · subst e;have hs:=qpF (P:=P) (p:=p) (j:=0) (by omega);rw[if_pos rfl,Rat.add_zero] at hs;rw[if_pos rfl,hs]
  · rw[if_neg e]
 rw[efin] at key;have qn:isub .i64 ((P.length+1:Nat):Int) 1=((N:Nat):Int)-1-((0:Nat):Int):=by rw[qdR (by omega) (by omega)];omega
 have c0:¬ ((P.length+1:Nat):Int)=0:=by omega
 have hsg:rcmp q 0>0:=qtD.2 hq0;have hsign:=qlj (hq.sm (by omega));rw[qae] at hsign;have hcl:=qaM (hq.sm (by omega));rw[qae] at hcl;rw[qaK,el,cnd' c0,cnd' (by omega),qug hf (by omega),bS0];dsimp only;rw[cnd' (by omega),hsign,bS0,cnd' (by omega),hcl,bS0,qcl,bS0,blt (by rw[el];omega),cond_true];have e1:encK P (wtP P)++[((f:Int),(canQ q,(ok,canQ 0)))]=encK (P++[p]) (extW P p N):=by
  rw[<- e0,<- hsnoc,ep]
 rw[e1,el,qn];have key:lp qao K0 ((ok,((P.length+1:Nat):Int),((N:Nat):Int)-1-((0:Nat):Int),()),(((canQ q).1.1,(canQ q).1.2,(canQ q).2,()),(encK (P++[p]) (extW P p N),()),()))=some ((),(encK (P++[p]) (wtP (P++[p])),()),()):=by
  rw[<- eN];exact key
 rw[key,ep];rfl
def qbr (P:List AP) (a:Nat):List AP:=P.take a++P.drop (a+1)
theorem qcL {P:List AP} {a:Nat} (h:a<P.length):(qbr P a).length+1=P.length:=by simp [qbr];omega
theorem qig {P:List AP} {a:Nat} (h:a<P.length):P.Perm (P[a]::qbr P a):=by
 have e:P=P.take a++P[a]::P.drop (a+1):=by rw[<- List.drop_eq_getElem_cons h,List.take_append_drop]
 have:(P.take a++P[a]::P.drop (a+1)).Perm (P[a]::(P.take a++P.drop (a+1))):=List.perm_middle;exact(List.Perm.of_eq e).trans this
theorem qn6 {P:List AP} {a:Nat}:∀ p∈qbr P a,p∈P:=fun p hp=>by
 rcases List.mem_append.1 hp with h | h
 · exact List.mem_of_mem_take h
 · exact List.mem_of_mem_drop h
theorem qqt {P:List AP} {a:Nat} (h:a<P.length) (k:Nat):ekP P k=P[a].2.1*ekP (qbr P a) k+(if k=0 then 0 else one0 P[a].2.2*ekP (qbr P a) (k-1)):=by
 rw[qt5 (qig h)];rfl
theorem qfz.out {P:List AP} {k g:Nat} (h:qfz P k g) {a:Nat} (ha:a<P.length):qfz (qbr P a) k g:=by
 have hp:=(qig ha).map (·.1);have hn:=hp.nodup_iff.1 h.nd;exact⟨(List.nodup_cons.1 hn).2,fun p hp=>h.sz p (qn6 p hp),by have:=qcL ha;have:=h.len;omega,fun p hp=>h.lt p (qn6 p hp),fun p hp=>h.pos p (qn6 p hp)⟩
theorem qfz.notin {P:List AP} {k g:Nat} (h:qfz P k g) {a:Nat} (ha:a<P.length):∀ p∈qbr P a,p.1≠P[a].1:=by
 have hp:=(qig ha).map (·.1);have hn:=List.nodup_cons.1 (hp.nodup_iff.1 h.nd);intro p hp e;exact hn.1 (List.mem_map.2 ⟨p,hp,e⟩)
theorem qAP {P:List AP} {a i:Nat} (ha:a<P.length) (hi:i<P.length) (hz:P[a].2.1≠0) (hok:P[a].2.2=false) :
  wtP P i*(((P.length+1:Nat):Rat)/((P.length-i:Nat):Rat))*P[a].2.1⁻¹=wtP (qbr P a) i:=by
 have hl:=qcL ha;unfold wtP;rw[qqt ha,hok,qpG (i:=i) (n:=P.length) hi,show(qbr P a).length+1=P.length by omega];have n1:=qkL (show 0<P.length-i by omega);have n2:=qkL (show 0<P.length+1 by omega);generalize wq i P.length=x;generalize ekP (qbr P a) i=y;generalize ekP (qbr P a) (i-1)=y2;generalize ((P.length-i:Nat):Rat)=u at *;generalize ((P.length+1:Nat):Rat)=v at *;generalize P[a].2.1=z at *;simp only[one0,Bool.false_eq_true,if_false,Rat.zero_mul,ite_self,Rat.add_zero]
 grind
def nxP (P:List AP) (a i:Nat):Rat:=wq (i+1) (P.length+1)*ekP (qbr P a) i
theorem qz5 {P:List AP} {a i:Nat} (ha:a<P.length) (hi:i<P.length):nxP P a i*(((P.length+1:Nat):Rat)/((i+1:Nat):Rat))=wtP (qbr P a) i:=by
 have hl:=qcL ha;unfold wtP nxP;rw[qvs (i:=i) (n:=P.length) hi,show(qbr P a).length+1=P.length by omega];have n1:=qkL (show 0<i+1 by omega);have n2:=qkL (show 0<P.length+1 by omega);generalize wq i P.length=x;generalize ekP (qbr P a) i=y;generalize ((i+1:Nat):Rat)=u at *;generalize ((P.length+1:Nat):Rat)=v at *
 grind
theorem qyg {P:List AP} {a i:Nat} (ha:a<P.length) (hi:i<P.length) (hok:P[a].2.2=true) :
  wtP P i-wtP (qbr P a) i*P[a].2.1*(((P.length-i:Nat):Rat)/((P.length+1:Nat):Rat))=if i=0 then 0 else nxP P a (i-1):=by
 have hl:=qcL ha;unfold wtP nxP;rw[qqt ha,hok,qpG (i:=i) (n:=P.length) hi,show(qbr P a).length+1=P.length by omega];cases i with
 | zero =>
  simp only[if_true];generalize wq 0 P.length=x;generalize ekP (qbr P a) 0=y;generalize P[a].2.1=z at *
  grind
 | succ i =>
  rw[if_neg (by omega),if_neg (by omega),Nat.add_sub_cancel,qpG (i:=i+1) (n:=P.length) hi];generalize wq (i+1) P.length=x;generalize ekP (qbr P a) (i+1)=y;generalize ekP (qbr P a) i=y2;generalize P[a].2.1=z at *;simp only[one0,if_true]
  grind
theorem qz4 {P:List AP} {a:Nat} (ha:a<P.length) (hok:P[a].2.2=true):wtP P P.length=nxP P a (P.length-1):=by
 have hl:=qcL ha;unfold wtP nxP;rw[qqt ha,hok,qw5 (qbr P a) (by omega),if_neg (by omega),show P.length-1+1=P.length by omega];simp only[one0,if_true]
 grind
theorem qBf {P:List AP} {k g a:Nat} (h:qfz P k g) (ha:a<P.length) (hk:k<=70) {i:Nat} (hi:i<P.length):SzQ (nxP P a i) 100000000:=by
 have hl:=qcL ha;have h2:=h.out ha;have hS:=qrW (k:=k) (n:=(qbr P a).length) hk h2.len;have:=h.len;exact((qAR (s:=i+1) (n:=P.length+1) (by omega) (by omega)).mul (qzu h2.sz i)).mono (by omega)
def bkL (n i:Nat) (w:Nat->Rat):List RAT:=(List.range n).map fun j=>if i<=j then canQ (w j) else zR
theorem qkb (n i:Nat) (w:Nat->Rat):(bkL n i w).length=n:=by simp [bkL]
theorem qoC {n i j:Nat} (w:Nat->Rat) (h:j<n):(bkL n i w)[j]?=some (if i<=j then canQ (w j) else zR):=by simp [bkL,h]
theorem qAz {n i:Nat} (w:Nat->Rat):(bkL n (i+1) w).set i (canQ (w i))=bkL n i w:=by
 refine List.ext_getElem? fun j=>?_
 rw[List.getElem?_set];by_cases e:i=j
 · subst e;by_cases hi:i<n
   · rw[if_pos rfl,if_pos (by rw[qkb];exact hi),qoC w hi,if_pos (Nat.le_refl _)]
   · rw[if_pos rfl,if_neg (by rw[qkb];exact hi),List.getElem?_eq_none (by rw[qkb];omega)]
 · rw [if_neg e];by_cases hj:j<n
   · rw [qoC w hj, qoC w hj];by_cases h:i<=j
     · rw[if_pos (by omega),if_pos h]
     · rw[if_neg (by omega),if_neg h]
   · rw[List.getElem?_eq_none (by rw[qkb];omega),List.getElem?_eq_none (by rw[qkb];omega)]
theorem qyW (n:Nat) (w:Nat->Rat):bkL n n w=List.replicate n zR:=by
 rw[List.eq_replicate_iff];refine⟨qkb _ _ _,fun x hx=>?_⟩;obtain⟨j,hj,rfl⟩:=List.mem_map.1 hx;have:=List.mem_range.1 hj;exact if_neg (by omega)
theorem qAA (n:Nat) (w:Nat->Rat):bkL n 0 w=flo n w:=List.map_congr_left fun j _=>if_pos (Nat.zero_le _)
theorem qpa {P:List AP} {k g:Nat} (h:qfz P k g) (hk:k<=70) {a:Nat} (ha:a<P.length) :
  qbC ((a+1:Nat):Int) (encK P (wtP P))=some (flo P.length (wtP (qbr P a)),encK P (wtP P)):=by
 have hl:=qcL ha;have hl2:=h.len;have el:=qcS P (wtP P);obtain⟨n,en⟩:∃ n,n=P.length:=⟨_,rfl⟩;have hS:=qrW (k:=k) (n:=P.length) hk (by omega);have wsz:∀ i,i<=P.length->SzQ (wtP P i) 100000000:=fun i hi=>(qtn h.sz hl2 hi).mono (by omega)
 have hQ:=h.out ha;have hS2:=qrW (k:=k) (n:=(qbr P a).length) hk hQ.len;have qsz:∀ i,i<P.length->SzQ (wtP (qbr P a) i) 100000000:=fun i hi=>(qtn hQ.sz hQ.len (by omega)).mono (by omega)
 have hz:SzQ P[a].2.1 k:=h.sz _ (gM0 ha);have hpos:=h.pos _ (gM0 ha);have hz0:P[a].2.1≠0:=by intro e;rw[e] at hpos;exact absurd hpos (by decide)
 obtain⟨L,eL⟩:∃ L,L=lkF P (wtP P) (a+1):=⟨_,rfl⟩;have eL':=eL;rw[qlB ha] at eL';have L1:L.2.1=canQ P[a].2.1:=by rw[eL']
 have L2:L.2.2.1=P[a].2.2:=by rw[eL']
 obtain⟨nx,hnx⟩:∃ nx:Nat->Rat,nx=fun m=>if P[a].2.2 then (if m<n then nxP P a (n-1-m) else 0) else wtP P n:=⟨_,rfl⟩
 obtain⟨ov,hov⟩:∃ ov:Rat,ov=P[a].2.1⁻¹:=⟨_,rfl⟩;have pn1:iadd .i64 ((n:Nat):Int) 1=((n+1:Nat):Int):=qbv (by omega);have key:=qft (step:=qan) (fun m=>(((n:Int),bkL n (n-m) (wtP (qbr P a)),((n:Nat):Int)-1-(m:Int),()),((L.1,L.2.1.1.1,L.2.1.1.2,L.2.1.2,L.2.2.1,L.2.2.2.1.1,L.2.2.2.1.2,L.2.2.2.2,()),((canQ ov).1.1,(canQ ov).1.2,(canQ ov).2,()),((canQ (nx m)).1.1,(canQ (nx m)).1.2,(canQ (nx m)).2,()),(encK P (wtP P),()),()))) n
  (r:=((bkL n 0 (wtP (qbr P a)),()),((encK P (wtP P),()),()))) (by omega) (by
  intro g m hm;obtain⟨i,hi⟩:∃ i,n=i+m+1:=⟨n-m-1,by omega⟩;have ei:((n:Nat):Int)-1-(m:Int)=(i:Int):=by omega
  have ei2:((n:Nat):Int)-1-((m+1:Nat):Int)=(i:Int)-1:=by omega
  have en1:n-m=i+1:=by omega
  have en2:n-(m+1)=i:=by omega
  have d0:((i:Nat):Int)>=0:=by omega
  have d1:(0:Int)<=(i:Int):=by omega
  have d2:(i:Int)<((encK P (wtP P)).length:Int):=by rw[el];omega
  have d3:(i:Int)<((bkL n (i+1) (wtP (qbr P a))).length:Int):=by rw[qkb];omega
  have g1:=qcE (P:=P) (w:=wtP P) (i:=i) (by omega);have g2:=qoC (n:=n) (i:=i+1) (j:=i) (wtP (qbr P a)) (by omega);have q2:isub .i64 (n:Int) (i:Int)=((n-i:Nat):Int):=by rw[qdR (by omega) (by omega)];omega
  have q3:isub .i64 (i:Int) 1=(i:Int)-1:=by rw[qdR (by omega) (by omega)]
  have q1:iadd .i64 (i:Int) 1=((i+1:Nat):Int):=qbv (by omega);have hset:=qAz (n:=n) (i:=i) (wtP (qbr P a));show qan g (((n:Int),bkL n (n-m) (wtP (qbr P a)),((n:Nat):Int)-1-(m:Int),()),((L.1,L.2.1.1.1,L.2.1.1.2,L.2.1.2,L.2.2.1,L.2.2.2.1.1,L.2.2.2.1.2,L.2.2.2.2,()),((canQ ov).1.1,(canQ ov).1.2,(canQ ov).2,()),((canQ (nx m)).1.1,(canQ (nx m)).1.2,(canQ (nx m)).2,()),(encK P (wtP P),()),()))=g (((n:Int),bkL n (n-(m+1)) (wtP (qbr P a)),((n:Nat):Int)-1-((m+1:Nat):Int),()),((L.1,L.2.1.1.1,L.2.1.1.2,L.2.1.2,L.2.2.1,L.2.2.2.1.1,L.2.2.2.1.2,L.2.2.2.2,()),((canQ ov).1.1,(canQ ov).1.2,(canQ ov).2,()),((canQ (nx (m+1))).1.1,(canQ (nx (m+1))).1.2,(canQ (nx (m+1))).2,()),(encK P (wtP P),()),()));rw[ei,ei2,en1,en2,qan,cnd d0,L2];cases hok:P[a].2.2 with
  | false =>
   have f1:=qol (a:=n+1) (b:=n-i) (by omega) (by omega);have s1:=qmm (a:=n+1) (b:=n-i) (by omega) (by omega);have hw:=wsz i (by omega);have m1:=qaF (hw.sm (by decide)) (s1.sm (by decide));rw[qae,qae] at m1;have z1:SzQ (wtP P i*(((n+1:Nat):Rat)/((n-i:Nat):Rat))) 200000000:=(hw.mul s1).mono (by omega);have hi2:SzQ ov k:=by rw[hov];exact hz.inv
   have m2:=qaF (z1.sm (by decide)) (hi2.sm (by omega));rw[qae,qae] at m2;have m2:qaq (canQ (wtP P i*(((n+1:Nat):Rat)/((n-i:Nat):Rat)))) (((canQ ov).1.1,(canQ ov).1.2),(canQ ov).2)=_:=m2;have e1:=qAP ha (i:=i) (by omega) hz0 hok;rw[<- en,<- hov] at e1;have e2:nx (m+1)=nx m:=by rw[hnx];simp only[hok,Bool.false_eq_true,if_false]
   rw[Bool.not_false,cond_true,cnd2 d1 d2,tN0,g1,bS0,pn1,q2,f1,bS0,qww,m1,bS0,m2,bS0,cnd2 d1 d3,g2,bS0,e1,hset,q3,e2]
  | true =>
   have f1:=qol (a:=n+1) (b:=i+1) (by omega) (by omega);have s1:=qmm (a:=n+1) (b:=i+1) (by omega) (by omega);have enx:nx m=nxP P a i:=by rw[hnx];simp only[hok,if_true];rw[if_pos hm,show n-1-m=i by omega]
   have nsz:=qBf h ha hk (i:=i) (by omega);have m1:=qaF (nsz.sm (by decide)) (s1.sm (by decide));rw[qae,qae] at m1;have e1:=qz5 ha (i:=i) (by omega);rw[<- en] at e1;rw[e1] at m1;have m1:qaq (((canQ (nxP P a i)).1.1,(canQ (nxP P a i)).1.2),(canQ (nxP P a i)).2) (canQ (((n+1:Nat):Rat)/((i+1:Nat):Rat)))=some (canQ (wtP (qbr P a) i)):=m1;have d4:(i:Int)<((bkL n i (wtP (qbr P a))).length:Int):=by rw[qkb];omega
   have g3:=qoC (n:=n) (i:=i) (j:=i) (wtP (qbr P a)) (by omega);rw[if_pos (Nat.le_refl _)] at g3;have hq:=qsz i (by omega);have m2:=qaF (hq.sm (by decide)) (hz.sm (by omega));rw[qae,qae] at m2;have m2:qaq (canQ (wtP (qbr P a) i)) ((L.2.1.1.1,L.2.1.1.2),L.2.1.2)=some (canQ (wtP (qbr P a) i*P[a].2.1)):=by
    show qaq _ L.2.1=_;rw[L1];exact m2
   have f2:=qol (a:=n-i) (b:=n+1) (by omega) (by omega);have s2:=qmm (a:=n-i) (b:=n+1) (by omega) (by omega);have z2:SzQ (wtP (qbr P a) i*P[a].2.1) 200000000:=(hq.mul hz).mono (by omega);have m3:=qaF (z2.sm (by decide)) (s2.sm (by decide));rw[qae,qae] at m3;have z3:SzQ (wtP (qbr P a) i*P[a].2.1*(((n-i:Nat):Rat)/((n+1:Nat):Rat))) 300000000:=(z2.mul s2).mono (by omega);have hw:=wsz i (by omega);have m4:=qf1 (hw.sm (by decide)) (z3.sm (by decide));rw[qae,qae] at m4;have e2:=qyg ha (i:=i) (by omega) hok;rw[<- en] at e2;rw[e2] at m4;have e3:nx (m+1)=if i=0 then 0 else nxP P a (i-1):=by
    rw[hnx];simp only[hok,if_true];by_cases h0:i=0
    · rw[if_neg (by omega),if_pos h0]
    · rw[if_pos (by omega),if_neg h0,show n-1-(m+1)=i-1 by omega]
   rw[Bool.not_true,cond_false,pn1,q1,f1,bS0,enx,m1,bS0,cnd2 d1 d3,tN0,g2,bS0,cnd2 d1 d2,g1,bS0,hset,cnd2 d1 d4,g3,bS0,m2,bS0,q2,f2,bS0,m3,bS0,qww,m4,bS0,q3,e3]) (by
  intro g;rw[Nat.sub_self,qan,cnd' (by omega)])
 have i1:isub .i64 ((P.length+1:Nat):Int) 1=(n:Int):=by rw[qdR (by omega) (by omega)];omega
 have i2:isub .i64 (n:Int) 1=((n:Nat):Int)-1-((0:Nat):Int):=by rw[qdR (by omega) (by omega)];omega
 have c0:(0:Int)<=((a+1:Nat):Int):=by omega
 have c1:((a+1:Nat):Int)<((P.length+1:Nat):Int):=by omega
 have hinv:=qmM (hz.sm (by omega));rw[qae,if_neg hz0,<- hov] at hinv;have c2:(decide ((n:Int)=(n:Int))&&decide ((0:Int)<=(n:Int))&&decide ((((56:Nat):Int)*(n:Int))<=281474976710656)&&decide ((n:Int)<=9223372036854775807))=true:=by
  simp only[Bool.and_eq_true,decide_eq_true_eq];refine⟨⟨⟨trivial,by omega⟩,?_⟩,by omega⟩;show(56:Int)*(n:Int)<=281474976710656;omega
 have ev:nx 0=wtP P n:=by
  rw[hnx];cases hok:P[a].2.2 with
  | false=>simp
  | true=>simp only[if_true];rw[if_pos (by omega),en,qz4 ha hok,Nat.sub_zero]
 have gn:=qcE (P:=P) (w:=wtP P) (i:=n) (by omega);rw[qbC,el,cnd2 c0 c1,tN0,qcE (by omega),bS0,i1,c2,cond_true,<- eL,L1,hinv,bS0,cnd2 (by omega) (by omega),tN0,gn,bS0,i2];dsimp only;rw[qww,<- ev];have key:lp qan K0 (((n:Int),List.replicate n (((false,[]),[]):RAT),((n:Nat):Int)-1-((0:Nat):Int),()),((L.1,(canQ P[a].2.1).1.1,(canQ P[a].2.1).1.2,(canQ P[a].2.1).2,L.2.2.1,L.2.2.2.1.1,L.2.2.2.1.2,L.2.2.2.2,()),((canQ ov).1.1,(canQ ov).1.2,(canQ ov).2,()),((canQ (nx 0)).1.1,(canQ (nx 0)).1.2,(canQ (nx 0)).2,()),(encK P (wtP P),()),()))=some ((bkL n 0 (wtP (qbr P a)),()),((encK P (wtP P),()),())):=by
  have k2:=key;rw[Nat.sub_zero,qyW,L1] at k2;exact k2
 rw[key,qAA,en];rfl
theorem qwW {n k:Nat} {w:Nat->Rat} (hw:∀ i,i<n->SzQ (w i) k) (hk:1+n*(k+1)<1099511627776) (hn:n<1000000):qh3 (flo n w)=some (canQ (rsum w n)):=by
 have hv:∀ i,i<n->vals (flo n w) i=w i:=fun i hi=>by
  rw[vals,qeR w hi];show rv (canQ (w i))=w i;exact qae _
 have h:=qq3 (l:=flo n w) (k:=k) (fun x hx=>by
  obtain⟨i,hi,rfl⟩:=List.mem_map.1 hx;have hi:=List.mem_range.1 hi;refine(hw i hi).sm ?_;have:1*(k+1)<=n*(k+1):=Nat.mul_le_mul_right _ (by omega);omega) (fun i hi=>by rw[qaY] at hi;rw[hv i hi];exact hw i hi) (by rw[qaY];exact hk) (by rw[qaY];omega)
 rw[h,qaY];congr 2;exact qaB fun i hi=>hv i hi
def sumP (P:List AP) (a:Nat):Rat:=rsum (wtP (qbr P a)) P.length
theorem qwg {P:List AP} {k g:Nat} (h:qfz P k g) (hk:k<=70) {a:Nat} (ha:a<P.length):∀ i,i<P.length->SzQ (wtP (qbr P a) i) (30+ekS k (qbr P a).length):=fun i hi=>by
 have:=qcL ha;exact qtn (h.out ha).sz (h.out ha).len (by omega)
theorem qy0 {P:List AP} {k g:Nat} (h:qfz P k g) (hk:k<=70) {a:Nat} (ha:a<P.length) :
  qc9 ((a+1:Nat):Int) (encK P (wtP P))=some (canQ (sumP P a),0,encK P (wtP P)):=by
 have el:=qcS P (wtP P);have hl2:=h.len;have hS2:=qrW (k:=k) (n:=(qbr P a).length) hk (h.out ha).len;have hs:=qwW (n:=P.length) (w:=wtP (qbr P a)) (k:=100000000) (fun i hi=>(qwg h hk ha i hi).mono (by omega)) (by omega) (by omega);rw[qc9,el,cnd' (by omega),cnd' (by omega),cnd' (by omega),qpa h hk ha,bS0];dsimp only;rw[hs];rfl
theorem qyI {P:List AP} {w:Nat->Rat} {a:Nat} (ha:a<P.length):(encK P w).take (a+1)++(encK P w).drop (a+2)=encK (qbr P a) fun j=>if j<=a then w j else w (j+1):=by
 have el:=qcS P w;have hl:=qcL ha;have ho:∀ j,(qbr P a)[j]?=if j<a then P[j]? else P[j+1]?:=fun j=>by
   unfold qbr;by_cases hj:j<a
   · rw[if_pos hj,List.getElem?_append_left (by rw[List.length_take];omega),List.getElem?_take,if_pos hj]
   · rw [if_neg hj, List.getElem?_append_right (by rw [List.length_take]; omega), List.length_take, Nat.min_eq_left (by omega), List.getElem?_drop];congr 1;omega
 refine List.ext_getElem? fun j=>?_
 by_cases hj:j<a+1
 · rw [List.getElem?_append_left (by rw [List.length_take]; omega), List.getElem?_take, if_pos hj, qcE (by omega), qcE (by omega)];unfold lkF;split
   · rename_i e;subst e;simp
   · have e1 : (qbr P a)[j - 1]? = P[j - 1]? := by rw [ho, if_pos (by omega)]
     have e2:(if j<=a then w j else w (j+1))=w j:=if_pos (by omega);simp only[e1,e2]
 · rw [List.getElem?_append_right (by rw [List.length_take]; omega), List.length_take, Nat.min_eq_left (by omega), List.getElem?_drop, show a + 2 + (j - (a + 1)) = j + 1 by omega];by_cases hj2:j+1<P.length+1
   · rw [qcE hj2, qcE (by omega)];unfold lkF;have e1:(qbr P a)[j-1]?=P[j]?:=by rw[ho,if_neg (by omega)];congr 1;omega
     have e2:(if j<=a then w j else w (j+1))=w (j+1):=if_neg (by omega);rw[if_neg (by omega),if_neg (by omega)];simp only[e1,e2,Nat.add_sub_cancel]
   · rw[List.getElem?_eq_none (by omega),List.getElem?_eq_none (by rw[qcS];omega)]
theorem qxA {P:List AP} {k g:Nat} (h:qfz P k g) (hk:k<=70) {a:Nat} (ha:a<P.length) :
  qbW ((a+1:Nat):Int) (encK P (wtP P))=some (0,encK (qbr P a) (wtP (qbr P a))):=by
 have el:=qcS P (wtP P);have hl2:=h.len;have hl:=qcL ha;obtain⟨Q,eQ⟩:∃ Q,Q=qbr P a:=⟨_,rfl⟩;have eo:=qyI (w:=wtP P) ha;rw[<- eQ] at eo hl;obtain⟨w0,hw0⟩:∃ w0:Nat->Rat,w0=fun j=>if j<=a then wtP P j else wtP P (j+1):=⟨_,rfl⟩
 rw[<- hw0] at eo;obtain⟨F,eF⟩:∃ F,F=flo P.length (wtP Q):=⟨_,rfl⟩;have lF:F.length=P.length:=by rw[eF,qaY]
 have lQ:∀ w,(encK Q w).length=P.length:=fun w=>by rw[qcS];exact hl
 have key:=qft (step:=qav) (fun i=>((F,encK Q (fun j=>if j<i then wtP Q j else w0 j),((P.length:Nat):Int),(i:Int),()),((encK P (wtP P),()),()))) P.length
  (r:=((encK Q (fun j=>if j<P.length then wtP Q j else w0 j),()),((encK P (wtP P),()),()))) (by omega) (by
  intro gg i hi;have d0:(i:Int)<((P.length:Nat):Int):=by omega
  have d1:(0:Int)<=(i:Int):=by omega
  have d2:(i:Int)<(F.length:Int):=by rw[lF];exact d0
  have d3:(i:Int)<((encK Q (fun j=>if j<i then wtP Q j else w0 j)).length:Int):=by rw[lQ];exact d0
  have g1:F[i]?=some (canQ (wtP Q i)):=by rw[eF];exact qeR _ hi
  have g2:=qcE (P:=Q) (w:=fun j=>if j<i then wtP Q j else w0 j) (i:=i) (by omega);have u:=qnp (P:=Q) (w:=fun j=>if j<i then wtP Q j else w0 j) (i:=i) (wtP Q i);have e:encK Q (fun j=>if j=i then wtP Q i else if j<i then wtP Q j else w0 j)=encK Q (fun j=>if j<i+1 then wtP Q j else w0 j):=by
   refine qfT fun j _=>?_
   by_cases e1:j=i
   · rw[if_pos e1,if_pos (by omega),e1]
   · rw [if_neg e1];by_cases e2:j<i
     · rw[if_pos e2,if_pos (by omega)]
     · rw[if_neg e2,if_neg (by omega)]
  rw[qav,cnd d0,cnd2 d1 d2,tN0,g1,bS0,cnd2 d1 d3,g2,bS0,u,e,qbv (by omega)];rfl) (by
  intro gg;rw[qav,cnd' (by omega)])
 have e0:encK Q (fun j=>if j<0 then wtP Q j else w0 j)=encK Q w0:=qfT fun j _=>if_neg (by omega)
 have e1:encK Q (fun j=>if j<P.length then wtP Q j else w0 j)=encK Q (wtP Q):=qfT fun j hj=>if_pos (by omega)
 rw[e0,e1] at key;have key:lp qav K0 ((F,encK Q w0,((P.length:Nat):Int),0,()),((encK P (wtP P),()),()))=some ((encK Q (wtP Q),()),((encK P (wtP P),()),())):=key;have i1:iadd .i64 ((a+1:Nat):Int) 1=((a+2:Nat):Int):=qbv (by omega);have hw:=qpa h hk ha;rw[<- eQ,<- eF] at hw;have t1:(((a+1:Nat):Int)-0).toNat=a+1:=by omega
 have t2:(((a+2:Nat):Int)).toNat=a+2:=by omega
 have c1:(decide ((0:Int)<=((a+1:Nat):Int))&&decide ((((a+1:Nat):Int):Int)<=((a+1:Nat):Int))&&decide ((((a+1:Nat):Int):Int)<=((P.length+1:Nat):Int)))=true:=by
  simp only[Bool.and_eq_true,decide_eq_true_eq];omega
 rw[qbW,el,cnd' (by omega),cnd' (by omega),cnd' (by omega),hw,bS0];dsimp only;rw[el,c1,cond_true,t1,blt (by rw[List.length_take,el];simp;omega),cond_true,i1,cnd2 (by omega) (by omega),t2,List.nil_append,blt (by rw[List.length_take,List.length_drop,el];omega),cond_true,eo,lQ,key,eQ];rfl
theorem qxw {f:Nat} {q:Rat} {ok:Bool} {w:List AP} (h:∀ p∈w,p.1≠f):(along f q ok w).Perm ((f,q,ok)::w):=by
 induction w with
 | nil=>exact List.Perm.refl _
 | cons p w ih =>
  have h1:p.1≠f:=h p List.mem_cons_self;have ih:=ih fun x hx=>h x (List.mem_cons_of_mem _ hx)
  simp only[along];split
  · exact(List.Perm.cons _ ih).trans (List.Perm.swap _ _ _)
  · first | exact List.Perm.refl _ | (rw[if_neg h1])
theorem qxv {f:Nat} {q s:Rat} {ok o:Bool} {w:List AP} (hs:qlT w) (hm:(f,s,o)∈w):∃ r:List AP,w.Perm ((f,s,o)::r)/\(along f q ok w).Perm ((f,s*q,o&&ok)::r):=by
 induction w with
 | nil=>cases hm
 | cons p w ih =>
  have hs2:=List.pairwise_cons.1 hs;rcases List.mem_cons.1 hm with e | hm
  · subst e;refine⟨w,List.Perm.refl _,?_⟩;simp only[along];simp
  · obtain ⟨r, h1, h2⟩ := ih hs2.2 hm;have hlt:p.1<f:=hs2.1 _ hm;refine⟨p::r,(List.Perm.cons _ h1).trans (List.Perm.swap _ _ _),?_⟩;simp only[along];rw[if_pos hlt];exact(List.Perm.cons _ h2).trans (List.Perm.swap _ _ _)
theorem qwY {P:List AP} {f:Nat}:(∀ p∈P,p.1≠f)\/∃ a,∃ ha:a<P.length,P[a].1=f/\∀ j (hj:j<P.length),j<a->P[j].1≠f:=by
 induction P with
 | nil=>exact .inl (by simp)
 | cons p P ih =>
  by_cases e:p.1=f
  · exact .inr ⟨0,by simp,e,fun j _ hj=>by omega⟩
  · rcases ih with h | ⟨a, ha, h1, h2⟩
    · exact .inl fun x hx=>by rcases List.mem_cons.1 hx with rfl | hx;exact e;exact h x hx
    · refine .inr ⟨a + 1, by simpa using ha, by simpa using h1, fun j hj hja => ?_⟩;cases j with
      | zero=>exact e
      | succ j=>simpa using h2 j (by simpa using hj) (by omega)
theorem qfz.mono {P:List AP} {k k' g:Nat} (h:qfz P k g) (hk:k<=k'):qfz P k' g:=⟨h.nd,fun p hp=>(h.sz p hp).mono hk,h.len,h.lt,h.pos⟩
theorem qfz.snoc {P:List AP} {k g:Nat} (h:qfz P k g) {f:Nat} {q:Rat} {ok:Bool} (hf:∀ p∈P,p.1≠f) (hq:SzQ q k) (hq0:0<q) (hl:P.length<20) (hfg:f<g):qfz (P++[(f,q,ok)]) k g:=by
 have hp:(P++[((f,q,ok):AP)]).Perm ((f,q,ok)::P):=List.perm_append_comm.trans (List.Perm.refl _);have hmem:∀ p∈P++[((f,q,ok):AP)],p=(f,q,ok)\/p∈P:=fun p hp=>by
   rcases List.mem_append.1 hp with h | h
   · exact .inr h
   · exact .inl (List.mem_singleton.1 h)
 refine⟨?_,fun p hp=>?_,by rw[List.length_append];simp;omega,fun p hp=>?_,fun p hp=>?_⟩
 · rw [(hp.map (·.1)).nodup_iff];refine List.nodup_cons.2 ⟨fun hm=>?_,h.nd⟩;obtain⟨p,hp,e⟩:=List.mem_map.1 hm;exact hf p hp e
 · rcases hmem p hp with rfl | h'
   · exact hq
   · exact h.sz p h'
 · rcases hmem p hp with rfl | h'
   · exact hfg
   · exact h.lt p h'
 · rcases hmem p hp with rfl | h'
   · exact hq0
   · exact h.pos p h'
theorem qAm {P w:List AP} {m g:Nat} (h:qfz P (8*m+1) g) (hw:P.Perm w) (hs:qlT w) {f:Nat} {q:Rat} {ok:Bool} (hf:f<g) (hg:g<1000000) (hq:SzQ q 8) (hq0:0<q) (hl:P.length<=m) (hm:m<8)
   (at0:Int) (b1:Bool) (b2 b3:List Int) :
   ∃ P',P'.Perm (along f q ok w)/\qfz P' (8*(m+1)+1) g/\P'.length<=m+1 /\
     qaN at0 b1 b2 b3 (f:Int) (canQ q).1.1 (canQ q).1.2 (canQ q).2 ok (encK P (wtP P))=some (at0,b1,b2,b3,(f:Int),(canQ q).1.1,(canQ q).1.2,(canQ q).2,ok,encK P' (wtP P')):=by
 have c0:¬ (f:Int)<0:=by omega
 rcases qwY (P:=P) (f:=f) with hn | ⟨a,ha,he,hn⟩
 · have h1 := h.mono (show 8 * m + 1 <= 8 * (m + 1) + 1 by omega);have hq1:=hq.mono (show 8<=8*(m+1)+1 by omega);refine⟨P++[(f,q,ok)],?_,h1.snoc hn hq1 hq0 (by omega) hf,by rw[List.length_append];simp;omega,?_⟩
   · have hn2 : ∀ p ∈ w, p.1 ≠ f := fun p hp => hn p (hw.symm.mem_iff.1 hp)
     have:(P++[((f,q,ok):AP)]).Perm ((f,q,ok)::P):=List.perm_append_comm.trans (List.Perm.refl _);exact(this.trans (List.Perm.cons _ hw)).trans (qxw hn2).symm
   · have he := qsi h1 (f := f) (q := q) (ok := ok) hn hq1 hq0 (by omega) (by omega) (by omega);rw[qaN,cnd' c0,qug hn (by omega),bS0];dsimp only;rw[cnd' (by omega)];show(qaK (f:Int) (canQ q) ok (encK P (wtP P))).bind _=_;rw[he];rfl
 · have ho := (h.out ha).mono (show 8 * m + 1 <= 8 * (m + 1) + 1 by omega);have hno:=h.notin ha;rw[he] at hno;have hz:SzQ P[a].2.1 (8*m+1):=h.sz _ (gM0 ha);have hz0:0<P[a].2.1:=h.pos _ (gM0 ha);have hq1:SzQ (q*P[a].2.1) (8*(m+1)+1):=(hq.mul hz).mono (by omega);have hqz:0<q*P[a].2.1:=Rat.mul_pos hq0 hz0;have hol:=qcL ha;have hm1:=qaF (hq.sm (by omega)) (hz.sm (by omega));rw[qae,qae] at hm1;have hm1:qaq (((canQ q).1.1,(canQ q).1.2),(canQ q).2) (canQ P[a].2.1)=some (canQ (q*P[a].2.1)):=hm1;refine⟨qbr P a++[(f,q*P[a].2.1,P[a].2.2&&ok)],?_,ho.snoc hno hq1 hqz (by omega) hf,by rw[List.length_append];simp;omega,?_⟩
   · have hmem : (f, P[a].2.1, P[a].2.2) ∈ w := by
      have:(P[a]:AP)=(f,P[a].2.1,P[a].2.2):=by rw[<- he]
      rw[<- this];exact hw.mem_iff.1 (gM0 ha)
     obtain⟨r,r1,r2⟩:=qxv (q:=q) (ok:=ok) hs hmem;have e1:(P[a]:AP)=(f,P[a].2.1,P[a].2.2):=by rw[<- he]
     have p1:((f,P[a].2.1,P[a].2.2)::qbr P a).Perm ((f,P[a].2.1,P[a].2.2)::r):=by
      have:=qig ha;rw[e1] at this;exact(this.symm.trans hw).trans r1
     have p2:=List.Perm.cons_inv p1;have p3:(qbr P a++[((f,q*P[a].2.1,P[a].2.2&&ok):AP)]).Perm ((f,q*P[a].2.1,P[a].2.2&&ok)::qbr P a):=List.perm_append_comm.trans (List.Perm.refl _);refine(p3.trans ?_).trans r2.symm;rw[Rat.mul_comm];exact List.Perm.cons _ p2
   · have hE := qsi ho (f := f) (q := q * P[a].2.1) (ok := P[a].2.2 && ok) hno hq1 hqz (by omega) (by omega) (by omega);have hU:=qxA h (by omega) ha;have c1:((a+1:Nat):Int)>0:=by omega
     have i1:isub .i64 ((a+1:Nat):Int) 1=(a:Int):=by rw[qdR (by omega) (by omega)];omega
     have d1:(0:Int)<=(a:Int):=by omega
     have d2:(a:Int)<((encW P).length:Int):=by rw[qno];omega
     have g1:(encW P)[a]?=some (encP P[a]):=by simp [encW,ha]
     rw[qaN,cnd' c0,qAI ha he hn (by omega),bS0];dsimp only;rw[cnd c1,qpD (by omega),bS0,i1];dsimp only;rw[cnd2 d1 d2,tN0,g1,bS0];show(qaq (((canQ q).1.1,(canQ q).1.2),(canQ q).2) (canQ P[a].2.1)).bind _=_;rw[hm1,bS0];cases ok with
     | true =>
      rw[Bool.and_true] at hE ⊢;rw[cond_true,hU,bS0];dsimp only;show(qaK (f:Int) (canQ (q*P[a].2.1)) P[a].2.2 _).bind _=_;rw[hE];rfl
     | false =>
      rw[Bool.and_false] at hE ⊢;rw[cond_false,hU,bS0];dsimp only;rw[hE];rfl
def lfT (P:List AP) (v:Rat) (f i:Nat):Rat:=match P[i]? with
 | some p=>if p.1=f then sumP P i*(one0 p.2.2-p.2.1)*v else 0
 | none=>0
def qoh (P:List AP) (v:Rat) (f:Nat):Rat:=rsum (lfT P v f) P.length
theorem qm5 {P:List AP} {v:Rat} {f i:Nat} (h:i<P.length):lfT P v f i=if P[i].1=f then sumP P i*(one0 P[i].2.2-P[i].2.1)*v else 0:=by
 simp only[lfT,gE0 h]
def apF (p:AP):FP:=(p.1,fcP p)
theorem qnS (P:List AP) (S:Nat):qbZ S P=qkF (P.map apF) S:=by
 unfold qbZ qkF;rw[List.map_map];congr 1
theorem qvR {P:List AP} {a:Nat} (h:a<P.length):sumP P a=EE ((qbr P a).map fcP) fun k=>wq k ((qbr P a).length+1):=by
 have hl:=qcL h;rw[qAJ,List.length_map,hl];unfold sumP;refine qaB fun i _=>?_
 unfold wtP ekP;rw[Rat.mul_comm,hl]
theorem qnT {P Q:List AP} (h:P.Perm Q) (S:Nat):qbZ S P=qbZ S Q:=qpm (h.map _)
theorem qpp {P:List AP} {k n f:Nat} (h:qfz P k n) (hf:f<n) (v:Rat):qoh P v f=qju (fun S=>qbZ S P*v) n f:=by
 rw[qvY];rcases qwY (P:=P) (f:=f) with hn | ⟨a,ha,he,_⟩
 · have e1 : qju (fun S => qbZ S P) n f = 0 := by
    have:(fun S=>qbZ S P)=qkF (P.map apF):=funext fun S=>qnS P S
    rw[this];refine qvX fun hm=>?_
    rw[List.map_map] at hm;obtain⟨p,hp,e⟩:=List.mem_map.1 hm;exact hn p hp e
   rw[e1,Rat.zero_mul];refine qfI fun i hi=>?_
   rw[qm5 hi,if_neg (hn _ (gM0 hi))]
 · have hno := h.notin ha;rw[he] at hno;have ho:=h.out ha;have e1:qju (fun S=>qbZ S P) n f=(one0 P[a].2.2-P[a].2.1)*sumP P a:=by
    have e2:(fun S=>qbZ S P)=fun S=>pick (fcP P[a]) (S.testBit f)*qkF ((qbr P a).map apF) S:=funext fun S=>by
      rw[qnT (qig ha) S];show facP S P[a]*qbZ S (qbr P a)=_;rw[qnS,<- he];rfl
    rw[e2,qvW hf (by rw[List.map_map];exact ho.nd) (fun p hp=>by
      obtain⟨x,hx,rfl⟩:=List.mem_map.1 hp;exact ho.lt x hx) (fun hm=>by
      rw[List.map_map] at hm;obtain⟨p,hp,e⟩:=List.mem_map.1 hm;exact hno p hp e),qvR ha]
    rw[List.map_map,List.length_map];rfl
   rw[e1];have hone:∀ i,i<P.length->i≠a->lfT P v f i=0:=fun i hi hne=>by
    rw[qm5 hi];refine if_neg fun e=>hne ?_
    have hnd:=h.nd;have hpw:=List.pairwise_iff_getElem.1 (show(P.map (·.1)).Pairwise (·≠·) from hnd);rcases Nat.lt_trichotomy i a with hlt | heq | hlt
    · have h5 := hpw i a (by simpa using hi) (by simpa using ha) hlt;simp [e,he] at h5
    · exact heq
    · have h5 := hpw a i (by simpa using ha) (by simpa using hi) hlt;simp [e,he] at h5
   have key:∀ n,n<=P.length->rsum (lfT P v f) n=if a<n then lfT P v f a else 0:=by
    intro n
    induction n with
    | zero=>intro _;rw[if_neg (by omega)];rfl
    | succ n ih =>
      intro hn;rw[rsum,ih (by omega)];by_cases e:n=a
      · subst e;rw[if_neg (by omega),if_pos (by omega),Rat.zero_add]
      · rw [hone n (by omega) e, Rat.add_zero];by_cases h1:a<n
        · rw[if_pos h1,if_pos (by omega)]
        · rw[if_neg h1,if_neg (by omega)]
   unfold qoh;rw[key _ (Nat.le_refl _),if_pos ha,qm5 ha,if_pos he]
   grind
theorem ekS8 {k n:Nat} (hk:k<=70) (hn:n<=8):ekS k n<=20000:=by
 have h1:=qt4 k hn;have h2:ekS k 8<=ekS 70 8:=by
  have:∀ n,ekS k n<=ekS 70 n:=by
   intro n
   induction n with
   | zero=>exact Nat.le_refl _
   | succ n ih=>simp only[ekS];omega
  exact this 8
 have h3:ekS 70 8<=20000:=by decide +kernel
 omega
theorem qla {f:Nat->Rat} {k:Nat}:∀ n,(∀ i,i<n->SzQ (f i) k)->SzQ (rsum f n) (1+n*(k+1)):=by
 intro n
 induction n with
 | zero=>intro _;exact SzQ.zero.mono (by omega)
 | succ n ih =>
  intro h;have h1:=ih fun i hi=>h i (by omega)
  have e:(n+1)*(k+1)=n*(k+1)+(k+1):=Nat.succ_mul _ _;exact(h1.add (h n (by omega))).mono (by omega)
theorem qvQ {P:List AP} {k g a:Nat} (h:qfz P k g) (hk:k<=70) (hl:P.length<=8) (ha:a<P.length):SzQ (sumP P a) 170000:=by
 have hS:=ekS8 (k:=k) (n:=(qbr P a).length) hk (by have:=qcL ha;omega);have:=qla (k:=20030) P.length (fun i hi=>(qwg h hk ha i hi).mono (by omega));refine this.mono ?_;have:P.length*(20030+1)<=8*(20030+1):=Nat.mul_le_mul_right _ hl;omega
theorem qzn {P:List AP} {k g:Nat} {v:Rat} (h:qfz P k g) (hk:k<=70) (hl:P.length<=8) (hv:SzQ v 200) (f:Nat) {i:Nat} (hi:i<P.length):SzQ (lfT P v f i) 180000:=by
 rw[qm5 hi];split
 · have h1 := qvQ h hk hl hi;have h2:SzQ P[i].2.1 k:=h.sz _ (gM0 hi);have h3:=(qwm P[i].2.2).sub h2;exact((h1.mul h3).mul hv).mono (by omega)
 · exact SzQ.zero.mono (by omega)
theorem qAj {t:List NODE} {row:List CELL} {fx:Int} {on:Bool} {n k:Nat} {P:List AP} (h:qfz P k n) (hk:k<=70) (hl:P.length<=8) {i:Nat} (hi:i<t.length) {gn:Rat} (hg:SzQ gn 100) (hs:TSz t 4)
  {o:Nat->Rat} (ho:∀ f,f<n->SzQ (o f) 100000000000) (hn:n<1000000) (a4:Int) (a5:Bool) (a6 a7:List Int) (a8:Bool) :
  qbl (i:Int) (canQ gn).1.1 (canQ gn).1.2 (canQ gn).2 a4 a5 a6 a7 a8 t row fx on (flo n o) (encK P (wtP P)) =
   some (flo n (fun f=>o f+qoh P (gn*rv (nVal (qcd t i))) f),t,row,fx,on,encK P (wtP P)):=by
 obtain⟨v,hv⟩:∃ v,v=gn*rv (nVal (qcd t i)):=⟨_,rfl⟩;have zv:=(hs.at hi).2.1;have m0:=qaF (a:=canQ gn) (b:=nVal (qcd t i)) (hg.sm (by decide)) (zv.sm (by decide));rw[qae,<- hv] at m0;have vsz:SzQ v 200:=by rw[hv];exact(hg.mul (zv.szQ (by decide))).mono (by decide)
 rw[<- hv];have key:=qft (step:=qat) (fun j=>((encW P,(P.length:Int),(j:Int),()),(((i:Int),(canQ gn).1.1,(canQ gn).1.2,(canQ gn).2,a4,a5,a6,a7,a8,()),((canQ v).1.1,(canQ v).1.2,(canQ v).2,()),(t,row,fx,on,flo n (fun f=>o f+rsum (lfT P v f) j),()),(encK P (wtP P),()),()))) P.length
  (r:=((),((t,row,fx,on,flo n (fun f=>o f+rsum (lfT P v f) P.length),()),(encK P (wtP P),()),()))) (by omega) (by
  intro g j hj;have d0:(j:Int)<(P.length:Int):=by omega
  have d1:(0:Int)<=(j:Int):=by omega
  have d2:(j:Int)<((encW P).length:Int):=by rw[qno];exact d0
  have g1:=qyH hj;have q1:iadd .i64 (j:Int) 1=((j+1:Nat):Int):=qbv (by omega);have s1:=qy0 h hk hj;have zp:SzQ P[j].2.1 k:=h.sz _ (gM0 hj);have n1:=qmJ (zp.sm (by omega));rw[qae] at n1;have hfl:P[j].1<n:=h.lt _ (gM0 hj);obtain⟨F,hF⟩:∃ F,F=P[j].1:=⟨_,rfl⟩;rw[<- hF] at hfl;have zn:SzQ (-P[j].2.1) (k+4):=by
   have:=SzQ.zero.sub zp;rw[Rat.sub_eq_add_neg,Rat.zero_add] at this;exact this.mono (by omega)
  have c1:(0:Int)<=((F:Nat):Int):=by omega
  have c2:((F:Nat):Int)<((flo n (fun f=>o f+rsum (lfT P v f) j)).length:Int):=by rw[qaY];omega
  have g2:=qeR (n:=n) (f:=F) (fun f=>o f+rsum (lfT P v f) j) hfl;have zs:=qvQ h hk hl hj;have zr:SzQ (o F+rsum (lfT P v F) j) 100010000000:=by
   have h1:SzQ (rsum (lfT P v F) j) (1+j*(180000+1)):=qla j (fun i hi=>qzn h hk hl vsz F (by omega));have:j*(180000+1)<=8*(180000+1):=Nat.mul_le_mul_right _ (by omega);exact((ho F hfl).add h1).mono (by omega)
  have hset:∀ x,x=o F+rsum (lfT P v F) (j+1)->(flo n (fun f=>o f+rsum (lfT P v f) j)).set F (canQ x)=flo n (fun f=>o f+rsum (lfT P v f) (j+1)):=fun x hx=>by
   refine qwV hx.symm fun f hf=>?_
   rw[rsum,qm5 hj,if_neg (by rw[<- hF];exact fun e=>hf e.symm),Rat.add_zero]
  show qat g ((encW P,(P.length:Int),(j:Int),()),_)=_;rw[qat,cnd d0,cnd2 d1 d2,tN0,g1,bS0,q1,s1,bS0];show(qg7 (canQ P[j].2.1)).bind _=_;rw[n1,bS0];have e1:(encP P[j]).1=(F:Int):=by rw[hF];rfl
  have e2:(encP P[j]).2.2=P[j].2.2:=rfl;rw[e1,e2];cases hok:P[j].2.2 with
  | true =>
   have a1:=qb9 (SzQ.one.sm (by decide)) (zn.sm (by omega));rw[qae,qae,<- Rat.sub_eq_add_neg] at a1;have z1:SzQ (1-P[j].2.1) 100:=(SzQ.one.sub zp).mono (by omega);have m1:=qaF (zs.sm (by decide)) (z1.sm (by decide));rw[qae,qae] at m1;have z2:SzQ (sumP P j*(1-P[j].2.1)) 170100:=(zs.mul z1).mono (by omega);have m2:=qaF (z2.sm (by decide)) (vsz.sm (by decide));rw[qae,qae] at m2;have m2:qaq (canQ (sumP P j*(1-P[j].2.1))) (((canQ v).1.1,(canQ v).1.2),(canQ v).2)=_:=m2;have z3:SzQ (sumP P j*(1-P[j].2.1)*v) 170300:=(z2.mul vsz).mono (by omega);have a2:=qb9 (zr.sm (by decide)) (z3.sm (by decide));rw[qae,qae] at a2;have hx:=hset (o F+rsum (lfT P v F) j+sumP P j*(1-P[j].2.1)*v) (by
    rw[rsum,qm5 hj,if_pos hF.symm,hok];simp only[one0,if_true];grind)
   rw[cond_true,qjy,bS0,a1,bS0,cnd2 c1 c2,tN0,g2,bS0,m1,bS0,m2,bS0,a2,bS0,cnd2 c1 c2,bS0,hx]
  | false =>
   have m1:=qaF (zs.sm (by decide)) (zn.sm (by omega));rw[qae,qae] at m1;have z2:SzQ (sumP P j*(-P[j].2.1)) 170100:=(zs.mul zn).mono (by omega);have m2:=qaF (z2.sm (by decide)) (vsz.sm (by decide));rw[qae,qae] at m2;have m2:qaq (canQ (sumP P j*(-P[j].2.1))) (((canQ v).1.1,(canQ v).1.2),(canQ v).2)=_:=m2;have z3:SzQ (sumP P j*(-P[j].2.1)*v) 170300:=(z2.mul vsz).mono (by omega);have a2:=qb9 (zr.sm (by decide)) (z3.sm (by decide));rw[qae,qae] at a2;have hx:=hset (o F+rsum (lfT P v F) j+sumP P j*(-P[j].2.1)*v) (by
    rw[rsum,qm5 hj,if_pos hF.symm,hok];simp only[one0,Bool.false_eq_true,if_false];grind)
   rw[cond_false,cnd2 c1 c2,tN0,g2,bS0,m1,bS0,m2,bS0,a2,bS0,cnd2 c1 c2,bS0,hx]) (by
  intro g;rw[qat,cnd' (by omega)])
 have e0:flo n (fun f=>o f+rsum (lfT P v f) 0)=flo n o:=qlL fun f _=>Rat.add_zero _
 rw[e0] at key;have key:lp qat K0 ((encW P,(P.length:Int),0,()),(((i:Int),(canQ gn).1.1,(canQ gn).1.2,(canQ gn).2,a4,a5,a6,a7,a8,()),((canQ v).1.1,(canQ v).1.2,(canQ v).2,()),(t,row,fx,on,flo n o,()),(encK P (wtP P),()),()))=_:=key;have m0:qaq (((canQ gn).1.1,(canQ gn).1.2),(canQ gn).2) t[i].2.2.2.2.2.2.1=some (canQ v):=by
  rw[qbX hi] at m0;exact m0
 rw[qbl,cnd (by omega),tN0,gE0 hi,bS0,m0,bS0,qpD (by omega),bS0];dsimp only;rw[qno,key,bS0];dsimp only;rw[qaY,qaY,Nat.beq_refl,cond_true,bS0];rfl
def kOn (t:List NODE) (row:List CELL) (fx:Int) (on:Bool) (i:Nat) (side:Bool):Bool:=if qbY (qcd t i)=fx then (if on then goL t row i == side else true) else true
def kG (t:List NODE) (fx:Int) (on:Bool) (i c:Nat) (g:Rat):Rat:=if qbY (qcd t i)=fx then (if on then g else g*(cov t c/cov t i)) else g
def kF (t:List NODE) (fx:Int) (i:Nat):Int:=if qbY (qcd t i)=fx then -1 else qbY (qcd t i)
def kW (t:List NODE) (row:List CELL) (fx:Int) (i c:Nat) (side:Bool) (w:List AP):List AP:=if qbY (qcd t i)=fx then w else along (qnc t i) (cov t c/cov t i) (goL t row i == side) w
abbrev PL:=Rat×List AP
def qiY (t:List NODE) (row:List CELL) (fx:Int) (on:Bool):TR->List AP->Rat->List PL
 | .leaf i,w,g=>[(g*rv (nVal (qcd t i)),w)]
 | .split i l r,w,g =>
  (if kOn t row fx on i true then qiY t row fx on l (kW t row fx i l.top true w) (kG t fx on i l.top g) else []) ++
  (if kOn t row fx on i false then qiY t row fx on r (kW t row fx i r.top false w) (kG t fx on i r.top g) else [])
def visF (t:List NODE) (row:List CELL) (fx:Int) (on:Bool):TR->Nat
 | .leaf i=>1
 | .split i l r=>1+(if kOn t row fx on i true then visF t row fx on l else 0)+(if kOn t row fx on i false then visF t row fx on r else 0)
theorem qts (t:List NODE) (row:List CELL) (fx:Int) (on:Bool) (T:TR):0<visF t row fx on T:=by cases T<;>simp [visF];omega
theorem qzI (t:List NODE) (row:List CELL) (fx:Int) (on:Bool) (T:TR):visF t row fx on T<=T.size:=by
 induction T with
 | leaf i=>simp [visF,TR.size]
 | split i l r ihl ihr =>
  simp only[visF,TR.size];split<;>split<;>omega
structure IT where
 T:TR
 P:List AP
 g:Rat
 s:PART
 w:List AP
abbrev ITE:=Int×(Option ((Option (List (Int×RAT×CELL)))×Unit))×RAT×PART
def encI (x:IT):ITE:=((x.T.top:Int),some (some (encK x.P (wtP x.P)),()),canQ x.g,x.s)
def qsh (t:List NODE) (n:Nat) (x:IT):Prop:=∃ m,Is t (n:Int) x.T/\m+x.T.deep<=8/\SzQ x.g (8*m+1)/\qlT x.w /\
 ((x.s.1 = -1 /\ qfz x.P (8 * m + 1) n /\ x.P.length <= m /\ x.P.Perm x.w) \/
  ∃ (m' f:Nat) (q:Rat) (ok:Bool) (w0:List AP),m=m'+1/\x.s=((f:Int),canQ q,ok)/\f<n/\SzQ q 8/\0<q/\qfz x.P (8*m'+1) n/\x.P.length<=m'/\x.P.Perm w0/\qlT w0/\x.w=along f q ok w0)
theorem qsh.join {t:List NODE} {n:Nat} {x:IT} (h:qsh t n x) (hn:n<1000000):∃ (m:Nat) (P':List AP),Is t (n:Int) x.T/\m+x.T.deep<=8/\SzQ x.g (8*m+1)/\qlT x.w/\qfz P' (8*m+1) n/\P'.length<=m/\P'.Perm x.w /\
   qaN (x.T.top:Int) (canQ x.g).1.1 (canQ x.g).1.2 (canQ x.g).2 x.s.1 x.s.2.1.1.1 x.s.2.1.1.2 x.s.2.1.2 x.s.2.2 (encK x.P (wtP x.P)) =
    some ((x.T.top:Int),(canQ x.g).1.1,(canQ x.g).1.2,(canQ x.g).2,x.s.1,x.s.2.1.1.1,x.s.2.1.1.2,x.s.2.1.2,x.s.2.2,encK P' (wtP P')):=by
 obtain⟨m,h1,h2,h3,h4,h5⟩:=h;have hd:=x.T.deep_pos;rcases h5 with ⟨a1,a2,a3,a4⟩ | ⟨m',f,q,ok,w0,b1,b2,b3,b4,b5,b6,b7,b8,b9,b10⟩
 · refine ⟨m, x.P, h1, h2, h3, h4, a2, a3, a4, ?_⟩;rw[a1,qaN,cnd (by omega)]
 · subst b1;obtain⟨P',p1,p2,p3,p4⟩:=qAm b6 b8 b9 (ok:=ok) b3 hn b4 b5 b7 (by omega) (x.T.top:Int) (canQ x.g).1.1 (canQ x.g).1.2 (canQ x.g).2;refine⟨m'+1,P',h1,h2,h3,h4,p2,p3,by rw[b10];exact p1,?_⟩;rw[b2];exact p4
def kid (t:List NODE) (row:List CELL) (fx:Int) (on:Bool) (i:Nat) (side:Bool) (c:TR) (P w:List AP) (g:Rat):IT :=
 ⟨c,P,kG t fx on i c.top g,(kF t fx i,canQ (cov t c.top/cov t i),goL t row i == side),kW t row fx i c.top side w⟩
theorem qtP {t:List NODE} {row:List CELL} {fx:Int} {on:Bool} {n i m:Nat} {side:Bool} {c:TR} {P w:List AP} {g:Rat} (hs:TSz t 4) (hcov:qeb t) (hi:i<t.length) (f0:0<=qbY t[i]) (f1:qbY t[i]<(n:Int)) (hc:Is t (n:Int) c)
   (hm:m+1+c.deep<=8) (hg:SzQ g (8*m+1)) (hw:qlT w) (hP:qfz P (8*m+1) n) (hl:P.length<=m) (hpw:P.Perm w):qsh t n (kid t row fx on i side c P w g):=by
 have hsh:=qnj hs hc.top_lt hi;refine⟨m+1,hc,hm,?_,?_,?_⟩
 · show SzQ (kG t fx on i c.top g) _;unfold kG;split
   · split
     · exact hg.mono (by omega)
     · exact(hg.mul hsh).mono (by omega)
   · exact hg.mono (by omega)
 · show qlT (kW t row fx i c.top side w);unfold kW;split
   · exact hw
   · exact qmv hw
 · by_cases hf : qbY (qcd t i) = fx
   · refine .inl ⟨?_, hP.mono (by omega), by show P.length <= _; omega, ?_⟩
     · show kF t fx i = -1;exact if_pos hf
     · show P.Perm (kW t row fx i c.top side w);rw[kW,if_pos hf];exact hpw
   · refine .inr ⟨m, qnc t i, cov t c.top / cov t i, goL t row i == side, w, rfl, ?_, ?_, hsh, ?_, hP, hl, hpw, hw, ?_⟩
     · show (kF t fx i, _, _) = _;rw[kF,if_neg hf,qnc,qbX hi];rw[show((((qbY t[i]).toNat:Nat)):Int)=qbY t[i] by omega]
     · rw[qnc,qbX hi];omega
     · have h1 : 0 < cov t c.top := by have := hcov c.top hc.top_lt; rwa [<- qeT hc.top_lt] at this
       have h2:0<cov t i:=by have:=hcov i hi;rwa [<- qeT hi] at this
       rw[Rat.div_def];exact Rat.mul_pos h1 (Rat.inv_pos.2 h2)
     · show kW t row fx i c.top side w = _;exact if_neg hf
theorem qxL {P:List AP} {w:Nat->Rat} (hl:P.length<=1000000):qcK (encK P w)=some (encK P w,encK P w):=by
 rw[qcK,blt (by rw[qcS];simp;omega),cond_true,List.nil_append]
theorem qt8 {t:List NODE} {row:List CELL} {fx:Int} {on:Bool} {i:Nat} {c:TR} {P w:List AP} {W:Nat->Rat} {g:Rat} {m:Nat} (hs:TSz t 4) (hc:CSz row 9) (hcov:qeb t) (hi:i<t.length) (hleaf:qgD t[i]=false) (f0:0<=qbY t[i]) (f1:qbY t[i]<(row.length:Int))
   (hl:c.top<t.length) (hP:P.length<=1000000) (hg:SzQ g 1000) (side:Bool) (out:List RAT) (a4:Int) (a5:Bool) (a6 a7:List Int) (a8:Bool) :
   qbA (i:Int) (canQ g).1.1 (canQ g).1.2 (canQ g).2 a4 a5 a6 a7 a8 (c.top:Int) side t row fx on out (encK P W) =
    some (out,(c.top:Int),(canQ (kG t fx on i c.top g)).1.1,(canQ (kG t fx on i c.top g)).1.2,(canQ (kG t fx on i c.top g)).2,kF t fx i,(canQ (cov t c.top/cov t i)).1.1,(canQ (cov t c.top/cov t i)).1.2,(canQ (cov t c.top/cov t i)).2,(goL t row i == side),kOn t row fx on i side,t,row,fx,on,encK P W,encK P W):=by
 obtain⟨cc,g1,g2,g3⟩:=qwQ (f:=0) hs hc hi f0 f1;have z:=hs _ (gM0 hi);have zl:=hs _ (gM0 hl);have hne:rv (nCov t[i])≠0:=by have:=hcov.ne i hi;rwa [qeT hi] at this
 have d1:=qmO (a:=nCov t[c.top]) (b:=nCov t[i]) (zl.2.2.sm (by decide)) (z.2.2.sm (by decide));rw[if_neg hne,<- qeT hl,<- qeT hi] at d1;have hsh:=qnj hs hl hi;have hb:∀ {α:Type} {a b:α},(bif Nat.beq out.length out.length then a else b)=a:=fun {α a b}=>by rw[Nat.beq_refl,cond_true]
 have hfe:qbY (qcd t i)=t[i].2.1:=by rw[qbX hi]
 have hgl:(!qgD t[i]&&goes t[i] cc)=goL t row i:=by rw[hleaf,Bool.not_false,Bool.true_and,g3]
 rw[qbA,cnd (by omega),tN0,gE0 hi,bS0,cnd (by omega),tN0,gE0 hl,bS0];show(qg8 (nCov t[c.top]) (nCov t[i])).bind _=_;rw[d1,bS0,cnd (by exact f0)];show((row[(qbY t[i]).toNat]?).bind _)=_;rw[g1,bS0,qxG z.1 (by decide) g2 (by decide),bS0,hgl,qxL hP,bS0];by_cases hf:qbY (qcd t i)=fx
 · have e1 : (!decide (t[i].2.1 = fx)) = false := by rw [<- hfe, decide_eq_true hf]; rfl
   have e2:kF t fx i=-1:=if_pos hf;rw[e1,cond_false,e2];cases on with
   | true =>
    have e3:kG t fx true i c.top g=g:=by rw[kG,if_pos hf];rfl
    have e4:kOn t row fx true i side=(goL t row i == side):=by rw[kOn,if_pos hf];rfl
    rw[cond_true,hb,bS0,e3,e4]
   | false =>
    have e3:kG t fx false i c.top g=g*(cov t c.top/cov t i):=by rw[kG,if_pos hf];rfl
    have e4:kOn t row fx false i side=true:=by rw[kOn,if_pos hf];rfl
    have m1:=qaF (hg.sm (by decide)) (hsh.sm (by decide));rw[qae,qae] at m1;have m1:qaq (((canQ g).1.1,(canQ g).1.2),(canQ g).2) (canQ (cov t c.top/cov t i))=_:=m1;rw[cond_false,m1,bS0,hb,bS0,e3,e4]
 · have e1 : (!decide (t[i].2.1 = fx)) = true := by rw [<- hfe, decide_eq_false hf]; rfl
   have e2:kF t fx i=t[i].2.1:=by rw[kF,if_neg hf,hfe]
   have e3:kG t fx on i c.top g=g:=if_neg hf;have e4:kOn t row fx on i side=true:=if_neg hf;rw[e1,cond_true,hb,bS0,e2,e3,e4]
def qqm (t:List NODE) (row:List CELL) (fx:Int) (on:Bool) (i:Nat) (l r:TR) (P w:List AP) (g:Rat):List IT :=
 (if kOn t row fx on i false then [kid t row fx on i false r P w g] else [])++(if kOn t row fx on i true then [kid t row fx on i true l P w g] else [])
theorem qAl {t:List NODE} {row:List CELL} {fx:Int} {on:Bool} {i:Nat} {l r:TR} {P w:List AP} {g:Rat} (hs:TSz t 4) (hc:CSz row 9) (hcov:qeb t) (hi:i<t.length) (hleaf:qgD t[i]=false) (f0:0<=qbY t[i]) (f1:qbY t[i]<(row.length:Int))
  (hl:l.top<t.length) (hr:r.top<t.length) (hP:P.length<=1000000) (hg:SzQ g 1000) (out:List RAT) (a4:Int) (a5:Bool) (a6 a7:List Int) (a8:Bool) (c0:Bool) (c1:Int) (c2:Bool) (c3 c4:List Int) (c7 c8:Bool) (c9 c10:List Int) (c11:Bool) (c12 c13:List Int)
  (base:List ITE) (hb:base.length<=1000000) :
  lp qal K0 (((false,(true,())),0,()),(((i:Int),(canQ g).1.1,(canQ g).1.2,(canQ g).2,a4,a5,a6,a7,a8,()),(c0,c1,c2,c3,c4,(l.top:Int),(r.top:Int),c7,c8,c9,c10,c11,c12,c13,()),(encK P (wtP P),()),(t,row,fx,on,out,base,()),())) =
    some ((),((t,row,fx,on,out,base++(qqm t row fx on i l r P w g).map encI,()),())):=by
 obtain⟨A,eA⟩:∃ A:List IT,A=if kOn t row fx on i false then [kid t row fx on i false r P w g] else []:=⟨_,rfl⟩
 obtain⟨B,eB⟩:∃ B:List IT,B=if kOn t row fx on i true then [kid t row fx on i true l P w g] else []:=⟨_,rfl⟩
 have eK:qqm t row fx on i l r P w g=A++B:=by rw[eA,eB];rfl
 have lA:A.length<=1:=by rw[eA];split<;>simp
 obtain⟨K,hK⟩:∃ K:Nat->List ITE,K=fun j=>if j=0 then [] else if j=1 then A.map encI else (A++B).map encI:=⟨_,rfl⟩
 have K0':K 0=[]:=by rw[hK];rfl
 have K1:K 1=A.map encI:=by rw[hK];rfl
 have K2:K 2=(A++B).map encI:=by rw[hK];rfl
 have ov:over out 0 out=out:=qhA rfl;have hc1:=fun side=>qt8 (fx:=fx) (on:=on) (c:=r) (P:=P) (w:=w) (W:=wtP P) (g:=g) (m:=0) hs hc hcov hi hleaf f0 f1 hr hP hg side out a4 a5 a6 a7 a8
 have hc2:=fun side=>qt8 (fx:=fx) (on:=on) (c:=l) (P:=P) (w:=w) (W:=wtP P) (g:=g) (m:=0) hs hc hcov hi hleaf f0 f1 hl hP hg side out a4 a5 a6 a7 a8
 have key:=qft (step:=qal) (fun j=>(((false,(true,())),(j:Int),()),(((i:Int),(canQ g).1.1,(canQ g).1.2,(canQ g).2,a4,a5,a6,a7,a8,()),(c0,c1,c2,c3,c4,(l.top:Int),(r.top:Int),c7,c8,c9,c10,c11,c12,c13,()),(encK P (wtP P),()),(t,row,fx,on,out,base++K j,()),()))) 2
  (r:=((),((t,row,fx,on,out,base++K 2,()),()))) (by omega) (by
  intro g' j hj;have hj2:j=0\/j=1:=by omega
  rcases hj2 with rfl | rfl
  · rw [qal, cnd (by omega), cnd (by omega)];show((([false,true]:List Bool)[0]?).bind _)=_;rw[show(([false,true]:List Bool)[0]?)=some false from rfl,bS0,cond_false,hc1 false,bS0];dsimp only;rw[K0',List.append_nil,show((0+1:Nat))=1 from rfl,K1,ov];cases hk:kOn t row fx on i false with
    | true =>
     have eA':A=[kid t row fx on i false r P w g]:=by rw[eA,hk];rfl
     rw[cond_true,blt (by simp;omega),cond_true,eA'];rfl
    | false =>
     have eA':A=[]:=by rw[eA,hk];rfl
     rw[cond_false,eA',List.map_nil,List.append_nil];rfl
  · rw [qal, cnd (by omega), cnd (by omega)];show((([false,true]:List Bool)[1]?).bind _)=_;rw[show(([false,true]:List Bool)[1]?)=some true from rfl,bS0,cond_true,hc2 true,bS0];dsimp only;rw[show((1+1:Nat))=2 from rfl,K1,K2,ov];cases hk:kOn t row fx on i true with
    | true =>
     have eB':B=[kid t row fx on i true l P w g]:=by rw[eB,hk];rfl
     rw[cond_true,blt (by simp;omega),cond_true,eB',List.map_append,<- List.append_assoc];rfl
    | false =>
     have eB':B=[]:=by rw[eB,hk];rfl
     rw[cond_false,eB',List.append_nil];rfl) (by
  intro g';rw[qal,cnd' (by omega)])
 rw[K0',K2,<- eK,List.append_nil] at key;exact key
def totL (n f:Nat) (l:List PL):Rat:=lsum (l.map fun y=>qju (fun S=>qbZ S y.2*y.1) n f)
theorem qso (n f:Nat) (a b:List PL):totL n f (a++b)=totL n f a+totL n f b:=by rw[totL,List.map_append,qeP];rfl
def totI (t:List NODE) (row:List CELL) (fx:Int) (on:Bool) (n f:Nat) (x:IT):Rat:=totL n f (qiY t row fx on x.T x.w x.g)
def visL (t:List NODE) (row:List CELL) (fx:Int) (on:Bool):List IT->Nat
 | []=>0
 | x::L=>visF t row fx on x.T+visL t row fx on L
theorem qkD (t:List NODE) (row:List CELL) (fx:Int) (on:Bool) (a b:List IT):visL t row fx on (a++b)=visL t row fx on a+visL t row fx on b:=by
 induction a with
 | nil=>simp [visL]
 | cons x a ih=>simp only[List.cons_append,visL,ih];omega
theorem qtr (t:List NODE) (row:List CELL) (fx:Int) (on:Bool) (a:List IT):a.length<=visL t row fx on a:=by
 induction a with
 | nil=>simp [visL]
 | cons x a ih=>have:=qts t row fx on x.T;simp only[List.length_cons,visL];omega
theorem qyw (t:List NODE) (row:List CELL) (fx:Int) (on:Bool) (i:Nat) (l r:TR) (P w:List AP) (g:Rat) :
  visF t row fx on (.split i l r)=1+visL t row fx on (qqm t row fx on i l r P w g):=by
 rw[qqm,qkD];simp only[visF];cases kOn t row fx on i true<;>cases kOn t row fx on i false<;>simp [visL,kid]<;>omega
theorem qyx (t:List NODE) (row:List CELL) (fx:Int) (on:Bool) (n f i:Nat) (l r:TR) (P w:List AP) (g:Rat) :
   totL n f (qiY t row fx on (.split i l r) w g)=lsum ((qqm t row fx on i l r P w g).map (totI t row fx on n f)):=by
 rw[qqm,List.map_append,qeP];simp only[qiY];rw[qso,Rat.add_comm];congr 1
 · cases kOn t row fx on i false
   · rfl
   · simp only[if_true,List.map_cons,List.map_nil,lsum,Rat.add_zero];rfl
 · cases kOn t row fx on i true
   · rfl
   · simp only[if_true,List.map_cons,List.map_nil,lsum,Rat.add_zero];rfl
theorem qvv {t:List NODE} {row:List CELL} {fx:Int} {on:Bool} {T:TR} {o:Nat->Rat} (hs:TSz t 4) (hc:CSz row 9) (hcov:qeb t) (hT:Is t (row.length:Int) T) (h0:T.top=0) (hd:T.deep<=8) (hz:T.size<=100) (hrl:row.length<=64)
  {S:Nat} (ho:∀ f,f<row.length->SzQ (o f) S) (hS:S<=50000000000) :
  (∃ st,qbV t row fx on (flo row.length o) []=some (flo row.length (fun f=>o f+totL row.length f (qiY t row fx on T [] 1)),t,row,fx,on,st))/\∀ f,f<row.length->SzQ (o f+totL row.length f (qiY t row fx on T [] 1)) (S+200000000):=by
 obtain⟨n,hn⟩:∃ n,n=row.length:=⟨_,rfl⟩;obtain⟨N,hN⟩:∃ N,N=visF t row fx on T:=⟨_,rfl⟩;have hN2:N<=100:=by rw[hN];exact Nat.le_trans (qzI _ _ _ _ _) hz
 obtain⟨x0,hx0⟩:∃ x0:IT,x0=⟨T,[],1,(-1,(((false,[]),[]),false)),[]⟩:=⟨_,rfl⟩;have t0:∀ f,totI t row fx on n f x0=totL n f (qiY t row fx on T [] 1):=fun f=>by rw[hx0];rfl
 have hg0:qsh t n x0:=by
  refine⟨0,by rw[hx0,hn];exact hT,by rw[hx0];show 0+T.deep<=8;omega,by rw[hx0];exact SzQ.one,by rw[hx0];exact List.Pairwise.nil,.inl ⟨by rw[hx0],?_,by simp [hx0],by simp [hx0]⟩⟩
  rw[hx0];exact⟨List.Pairwise.nil,fun p hp=>absurd hp (by simp),by simp,fun p hp=>absurd hp (by simp),fun p hp=>absurd hp (by simp)⟩
 rw[<- hn];obtain⟨res,hres,hlp⟩:=qlA (step:=qas)
  (fun j v=>∃ (L:List IT) (o':Nat->Rat),v=((),((t,row,fx,on,flo n o',L.map encI,()),()))/\(∀ x∈L,qsh t n x)/\j+visL t row fx on L=N/\(∀ f,f<n->SzQ (o' f) (S+2000000*j))/\∀ f,f<n->o' f+lsum (L.map (totI t row fx on n f))=o f+totI t row fx on n f x0)
  (fun r=>(∃ (st:List ITE),r=((),((t,row,fx,on,flo n (fun f=>o f+totI t row fx on n f x0),st,()),())))/\∀ f,f<n->SzQ (o f+totI t row fx on n f x0) (S+200000000)) N
  (v:=((),((t,row,fx,on,flo n o,[x0].map encI,()),())))
  ⟨[x0],o,rfl,fun x hx=>by rw[List.mem_singleton.1 hx];exact hg0,by simp only[visL,hx0];omega,fun f hf=>(ho f (by omega)).mono (by omega),fun f hf=>by simp only[List.map_cons,List.map_nil,lsum,Rat.add_zero]⟩
  (by omega)
  (by
   rintro j v hj ⟨L,o',rfl,hL,hv,hsz,htot⟩;rcases List.eq_nil_or_concat L with rfl | ⟨L0,x,rfl⟩
   · simp only[visL] at hv;omega
   rw[List.concat_eq_append] at *;have hx:qsh t n x:=hL x (by simp);obtain⟨m,P',j1,j2,j3,j4,j5,j6,j7,j8⟩:=hx.join (by omega);rw[qkD] at hv;simp only[visL,Nat.add_zero] at hv;have hvp:=qts t row fx on x.T;have hvl:=qtr t row fx on L0;obtain⟨base,hbase⟩:∃ base,base=L0.map encI:=⟨_,rfl⟩;have lb:base.length=L0.length:=by rw[hbase];simp
   have eS:(L0++[x]).map encI=base++[encI x]:=by rw[hbase];simp
   have hi:=j1.top_lt;have qS:∀ y:ITE,isub .i64 ((base++[y]).length:Int) 1=(base.length:Int):=fun y=>by
     rw[List.length_append,List.length_singleton,qdR (by omega) (by omega)];omega
   have gS:(base++[encI x])[base.length]?=some (encI x):=by simp
   have sS:∀ y,(base++[encI x]).set base.length y=base++[y]:=fun y=>by simp
   have cS:∀ y:ITE,(decide ((0:Int)<=(base.length:Int))&&decide (((base.length:Int):Int)<=(base.length:Int))&&decide (((base.length:Int):Int)<=((base++[y]).length:Int)))=true:=fun y=>by
     simp only[Bool.and_eq_true,decide_eq_true_eq,List.length_append,List.length_singleton];omega
   have tS:∀ y:ITE,(base++[y]).take (((base.length:Int)-0).toNat)=base:=fun y=>by
     rw[show((base.length:Int)-0).toNat=base.length by omega];simp
   have hpos:(((base++[encI x]).length:Nat):Int)>0:=by rw[List.length_append,List.length_singleton];omega
   have d2:(base.length:Int)<(((base++[encI x]).length:Nat):Int):=by rw[List.length_append,List.length_singleton];omega
   have walkE:∀ g,qas g ((),((t,row,fx,on,flo n o',(L0++[x]).map encI,()),())) =
       bif t[x.T.top].1 then ((qbl (x.T.top:Int) (canQ x.g).1.1 (canQ x.g).1.2 (canQ x.g).2 x.s.1 x.s.2.1.1.1 x.s.2.1.1.2 x.s.2.1.2 x.s.2.2 t row fx on (flo n o') (encK P' (wtP P'))).bind fun r8=>g ((()),((r8.2.1,r8.2.2.1,r8.2.2.2.1,r8.2.2.2.2.1,(over (flo n o') 0 r8.1),base,()),())))
       else ((lp qal K0 (((false,(true,())),0,()),(((x.T.top:Int),(canQ x.g).1.1,(canQ x.g).1.2,(canQ x.g).2,x.s.1,x.s.2.1.1.1,x.s.2.1.1.2,x.s.2.1.2,x.s.2.2,()),(t[x.T.top].1,t[x.T.top].2.1,t[x.T.top].2.2.1.1.1,t[x.T.top].2.2.1.1.2,t[x.T.top].2.2.1.2,t[x.T.top].2.2.2.1,t[x.T.top].2.2.2.2.1,t[x.T.top].2.2.2.2.2.1,t[x.T.top].2.2.2.2.2.2.1.1.1,t[x.T.top].2.2.2.2.2.2.1.1.2,t[x.T.top].2.2.2.2.2.2.1.2,t[x.T.top].2.2.2.2.2.2.2.1.1,t[x.T.top].2.2.2.2.2.2.2.1.2,t[x.T.top].2.2.2.2.2.2.2.2,()),(encK P' (wtP P'),()),(t,row,fx,on,flo n o',base,()),()))).bind fun t12=>g ((()),((t12.2.1.1,t12.2.1.2.1,t12.2.1.2.2.1,t12.2.1.2.2.2.1,t12.2.1.2.2.2.2.1,t12.2.1.2.2.2.2.2.1,()),()))):=fun g=>by
     rw[qas,eS,cnd hpos,qS,cnd2 (by omega) d2,tN0,gS,bS0];show((some (some (encK x.P (wtP x.P)),()):Option ((Option (List (Int×RAT×CELL)))×Unit)).bind _)=_;rw[bS0];show((some (encK x.P (wtP x.P)):Option (List (Int×RAT×CELL))).bind _)=_;rw[bS0,sS,qS,cS,cond_true,tS];show(qaN (x.T.top:Int) (canQ x.g).1.1 (canQ x.g).1.2 (canQ x.g).2 x.s.1 x.s.2.1.1.1 x.s.2.1.1.2 x.s.2.1.2 x.s.2.2 (encK x.P (wtP x.P))).bind _=_;rw[j8,bS0];dsimp only;rw[cnd (by omega),tN0,gE0 hi,bS0]
   have hm7:m<=7:=by have:=x.T.deep_pos;omega
   cases hxT:x.T with
   | leaf i =>
     rw[hxT] at j1 j2 hi hv;simp only[hxT] at walkE;obtain⟨i1,i2⟩:=j1;have hlf:=qAj (t:=t) (row:=row) (fx:=fx) (on:=on) j5 (by omega) (by omega) i1 (j3.mono (by omega)) hs (o:=o') (fun f hf=>(hsz f hf).mono (by omega)) (by omega) x.s.1 x.s.2.1.1.1 x.s.2.1.1.2 x.s.2.1.2 x.s.2.2;obtain⟨v,hv'⟩:∃ v,v=x.g*rv (nVal (qcd t i)):=⟨_,rfl⟩;rw[<- hv'] at hlf;have hvz:SzQ v 200:=by rw[hv'];exact((j3.mono (show 8*m+1<=100 by omega)).mul ((hs.at i1).2.1.szQ (by decide))).mono (by decide)
     refine⟨((),((t,row,fx,on,flo n (fun f=>o' f+qoh P' v f),L0.map encI,()),())),⟨L0,_,rfl,fun y hy=>hL y (by simp [hy]),by simp only[visF] at hv;omega,fun f hf=>?_,fun f hf=>?_⟩,fun g=>?_⟩
     · have h1 := qla (k := 180000) P'.length (fun i hi => qzn j5 (by omega) (by omega) hvz f hi);have h1:SzQ (qoh P' v f) _:=h1;have:P'.length*(180000+1)<=8*(180000+1):=Nat.mul_le_mul_right _ (by omega);exact((hsz f hf).add h1).mono (by omega)
     · have e := htot f hf;rw[List.map_append,qeP] at e;simp only[List.map_cons,List.map_nil,lsum,Rat.add_zero] at e;have e2:totI t row fx on n f x=qoh P' v f:=by
         rw[totI,hxT,qpp j5 hf];simp only[qiY,totL,List.map_cons,List.map_nil,lsum,Rat.add_zero];rw[<- hv'];refine qsr hf fun S _=>?_
         rw[qnT j7]
       rw[e2] at e;rw[<- e];grind
     · rw [walkE g];show(bif t[i].1 then _ else _)=_;rw[show t[i].1=true from i2,cond_true];show(qbl (i:Int) _ _ _ _ _ _ _ _ _ _ _ _ _ _).bind _=_;rw[hlf,bS0];dsimp only;rw[qhA (by rw[qaY,qaY]),hbase]
   | split i l r =>
     rw[hxT] at j1 j2 hi hv;simp only[hxT,TR.top] at walkE;obtain⟨i1,i2,f0,f1,i3,i4,i5,i6⟩:=j1;simp only[TR.deep] at j2;have hkd:=qAl (t:=t) (row:=row) (fx:=fx) (on:=on) (i:=i) (l:=l) (r:=r) (P:=P') (w:=x.w) (g:=x.g) hs hc hcov i1 i2 f0 (by omega) i5.top_lt i6.top_lt (by omega) (j3.mono (by omega)) (flo n o') x.s.1 x.s.2.1.1.1 x.s.2.1.1.2 x.s.2.1.2 x.s.2.2
       false t[i].2.1 t[i].2.2.1.1.1 t[i].2.2.1.1.2 t[i].2.2.1.2 t[i].2.2.2.2.2.1 t[i].2.2.2.2.2.2.1.1.1 t[i].2.2.2.2.2.2.1.1.2 t[i].2.2.2.2.2.2.1.2 t[i].2.2.2.2.2.2.2.1.1 t[i].2.2.2.2.2.2.2.1.2 t[i].2.2.2.2.2.2.2.2 base (by omega)
     refine⟨((),((t,row,fx,on,flo n o',(L0++qqm t row fx on i l r P' x.w x.g).map encI,()),())),⟨L0++qqm t row fx on i l r P' x.w x.g,o',rfl,fun y hy=>?_,?_,fun f hf=>(hsz f hf).mono (by omega),fun f hf=>?_⟩,fun g=>?_⟩
     · rcases List.mem_append.1 hy with hy | hy
       · exact hL y (by simp [hy])
       · have hgl : ∀ side, qsh t n (kid t row fx on i side l P' x.w x.g) := fun side => qtP hs hcov i1 f0 f1 i5 (by omega) j3 j4 j5 j6 j7
         have hgr:∀ side,qsh t n (kid t row fx on i side r P' x.w x.g):=fun side=>qtP hs hcov i1 f0 f1 i6 (by omega) j3 j4 j5 j6 j7
         rcases List.mem_append.1 hy with hy | hy
         · split at hy
           · rw[List.mem_singleton.1 hy];exact hgr _
           · cases hy
         · split at hy
           · rw[List.mem_singleton.1 hy];exact hgl _
           · cases hy
     · have := qyw t row fx on i l r P' x.w x.g;rw[qkD];omega
     · have e := htot f hf;rw[List.map_append,qeP] at e;simp only[List.map_cons,List.map_nil,lsum,Rat.add_zero] at e;have e2:totI t row fx on n f x=lsum ((qqm t row fx on i l r P' x.w x.g).map (totI t row fx on n f)):=by
         rw[totI,hxT];exact qyx t row fx on n f i l r P' x.w x.g
       rw[e2] at e;rw[List.map_append,qeP];exact e
     · rw [walkE g];show(bif t[i].1 then _ else _)=_;rw[show t[i].1=false from i2,cond_false];rw[show t[i].2.2.2.1=(l.top:Int) from i3,show t[i].2.2.2.2.1=(r.top:Int) from i4,hkd,bS0];dsimp only;rw[hbase,<- List.map_append])
  (by
   rintro v ⟨L,o',rfl,hL,hv,hsz,htot⟩;have hl:=qtr t row fx on L;have:L=[]:=by
     cases L with
     | nil=>rfl
     | cons x L=>simp only[List.length_cons] at hl;omega
   subst this;refine⟨((),((t,row,fx,on,flo n o',List.map encI [],()),())),⟨⟨List.map encI [],?_⟩,fun f hf=>?_⟩,fun g=>?_⟩
   · have : flo n o' = flo n (fun f => o f + totI t row fx on n f x0) := qlL fun f hf => by
       rw[<- htot f hf];simp only[List.map_nil,lsum,Rat.add_zero]
     rw[this]
   · rw [<- htot f hf];simp only[List.map_nil,lsum,Rat.add_zero];exact(hsz f hf).mono (by omega)
   · rw[qas,cnd' (by simp)])
 obtain⟨⟨st,rfl⟩,hrs⟩:=hres;refine⟨⟨st,?_⟩,fun f hf=>by have:=hrs f hf;rwa [t0] at this⟩
 have e0:[x0].map encI=[((0:Int),(some (some (encK [] (wtP [])),()):Option ((Option (List (Int×RAT×CELL)))×Unit)),canQ 1,((-1:Int),(((false,[]),[]),false)))]:=by
  rw[hx0];simp only[List.map_cons,List.map_nil,encI,h0];rfl
 rw[e0] at hlp;rw[qbV,qy3,bS0,qjy,bS0];have hlp:lp qas K0 (((),((t,row,fx,on,flo n o,[(0,((some ((some (encK [] (wtP []))),())),(canQ 1,((-1),(((false,[]),[]),false)))))],()),())))=_:=hlp;rw[hlp,bS0];dsimp only;rw[qaY,qaY,Nat.beq_refl,cond_true,bS0];simp only[t0]
def trV (t:List NODE) (row:List CELL) (fx:Int) (on:Bool) (f:Nat):Rat:=totL row.length f (qiY t row fx on (treeOf t) [] 1)
def qfJ (m:qam) (row:List CELL) (fx:Int) (on:Bool) (f:Nat):Rat:=rsum (fun j=>trV (qaA m j) row fx on f) m.2.length
theorem Askd.deep8 {m:qam} {row:List CELL} (h:Askd m row) {i:Nat} (hi:i<m.2.length):(treeOf m.2[i]).deep<=8/\(treeOf m.2[i]).size<=15:=by
 have h1:=h.good.treeOf hi;have hsh:qpC m.2[i]:=h.good.2 1 (by decide) i hi;have h2:=qvM hsh h1.1;have h3:=qxb (treeOf m.2[i]);have h4:=h.mt _ (gM0 hi);omega
theorem Askd.walk {m:qam} {row:List CELL} (h:Askd m row) {i:Nat} (hi:i<m.2.length) (fx:Int) (on:Bool) {o:Nat->Rat} {S:Nat} (ho:∀ f,f<row.length->SzQ (o f) S) (hS:S<=50000000000) :
  (∃ st,qbV m.2[i] row fx on (flo row.length o) []=some (flo row.length (fun f=>o f+trV (qaA m i) row fx on f),m.2[i],row,fx,on,st))/\∀ f,f<row.length->SzQ (o f+trV (qaA m i) row fx on f) (S+200000000):=by
 obtain⟨t1,t2,t3,t4,t5⟩:=h.tree hi;rw[t5] at t2 t3 ⊢;obtain⟨d1,d2⟩:=h.deep8 hi;exact qvv t1 h.cs (h.cov hi) t2 t3 d1 (by omega) h.f64 ho hS
theorem qzf {m:qam} {row:List CELL} (h:Askd m row) {i:Nat} (hi:i<m.2.length) (fx:Int) (on:Bool) {f:Nat} (hf:f<row.length):SzQ (trV (qaA m i) row fx on f) 200000010:=by
 have:=(h.walk hi fx on (o:=fun _=>0) (S:=1) (fun _ _=>SzQ.zero) (by decide)).2 f hf;rw[Rat.zero_add] at this;exact this.mono (by decide)
theorem qiD {m:qam} {row:List CELL} (h:Askd m row) (fx:Int) (on:Bool) {f:Nat} (hf:f<row.length):SzQ (qfJ m row fx on f) 1500000000:=by
 have h1:=qla (f:=fun j=>trV (qaA m j) row fx on f) (k:=200000010) m.2.length (fun i hi=>qzf h hi fx on hf);have:m.2.length*(200000010+1)<=6*(200000010+1):=Nat.mul_le_mul_right _ h.ml;exact h1.mono (by omega)
theorem qv9 {n:Nat} (h:n<=1000000):qeA (n:Int)=some (flo n fun _=>0):=by
 have key:=qft (step:=qbd) (fun i=>((flo i (fun _=>0),(n:Int),(i:Int),()),())) n (r:=((flo n (fun _=>0),()),())) (by omega) (by
  intro g i hi;have d0:(i:Int)<(n:Int):=by omega
  rw[qbd,cnd d0,qcl,bS0,blt (by rw[qaY];omega),cond_true,qbv (by omega)];simp only[flo,List.range_succ,List.map_append];rfl) (by
  intro g;rw[qbd,cnd' (by omega)])
 have key:lp qbd K0 (([],(n:Int),0,()),())=_:=key;rw[qeA,key];rfl
theorem qub {m:qam} {row:List CELL} (h:Askd m row) (fx:Int) (on:Bool):qeY m row fx on=some (flo row.length (qfJ m row fx on)):=by
 have ml:=h.ml;have h64:=h.f64;have hsz:∀ j,j<=m.2.length->∀ f,f<row.length->SzQ (rsum (fun j=>trV (qaA m j) row fx on f) j) 1500000000:=fun j hj f hf=>by
  have h1:=qla (f:=fun j=>trV (qaA m j) row fx on f) (k:=200000010) j (fun i hi=>qzf h (by omega) fx on hf);have:j*(200000010+1)<=6*(200000010+1):=Nat.mul_le_mul_right _ (by omega);exact h1.mono (by omega)
 have key:=qft (step:=qbN) (fun j=>((row,fx,on,flo row.length (fun f=>rsum (fun j=>trV (qaA m j) row fx on f) j),m.2,(m.2.length:Int),(j:Int),()),())) m.2.length (r:=((flo row.length (qfJ m row fx on),()),())) (by omega) (by
  intro g j hj;have d0:(j:Int)<(m.2.length:Int):=by omega
  obtain⟨st,hw⟩:=(h.walk hj fx on (hsz j (by omega)) (by decide)).1;rw[qbN,cnd d0,cnd (by omega),tN0,gE0 hj,bS0,hw,bS0];dsimp only;rw[qhA (by rw[qaY,qaY]),qbv (by omega)];rfl) (by
  intro g;rw[qbN,cnd' (by omega)];rfl)
 have key:lp qbN K0 ((row,fx,on,flo row.length (fun _=>0),m.2,(m.2.length:Int),0,()),())=_:=key;rw[qeY,show m.1=((row.length:Nat):Int) by have:=h.len;omega,qv9 (by omega),bS0,key];rfl
theorem qoG {m:qam} {row:List CELL} (h:Askd m row):qca m row=some (flo row.length (qfJ m row (-1) false),0):=by
 obtain⟨e,_,h1,h2⟩:=qwX (row:=row) (by have:=h.ml;omega) (fun t ht=>by have:=h.mt t ht;omega) h.ms;have e0:e=0:=h2.2 ⟨h.good,h.len⟩;subst e0;rw[qca,h1,bS0,show(!decide ((0:Int)=0))=false by decide,cond_false,qub h];rfl
theorem qse {m:qam} {row:List CELL} {e:Int} (h:qcc m row=some e) (he:e≠0):qca m row=some ([],e):=by
 rw[qca,h,bS0,decide_eq_false he];rfl
theorem qu4 {t:List NODE} {row:List CELL} {n:Nat} {T:TR} (h:Is t (n:Int) T):∀ (w:List AP) (g:Rat),qiY t row (-1) false T w g=(qiq t row T w).map fun x=>(g*x.2.1,x.2.2):=by
 induction T with
 | leaf i=>intro w g;rfl
 | split i l r ihl ihr =>
  intro w g;obtain⟨h1,h2,f0,f1,h3,h4,h5,h6⟩:=h;have hne:¬ qbY (qcd t i)=-1:=by rw[qbX h1];omega
  have e1:(goL t row i == true)=goL t row i:=by cases goL t row i<;>rfl
  have e2:(goL t row i == false)=!goL t row i:=by cases goL t row i<;>rfl
  simp only[qiY,qiq,List.map_append];rw[kOn,if_neg hne,if_pos rfl,kOn,if_neg hne,if_pos rfl,kW,if_neg hne,kG,if_neg hne,kW,if_neg hne,kG,if_neg hne,e1,e2,ihl h5,ihr h6]
theorem qlT.nodup {w:List AP} (h:qlT w):(w.map (·.1)).Nodup:=by
 unfold List.Nodup;rw[List.pairwise_map];exact h.imp fun hab=>by omega
theorem qsd {f:Nat} {q:Rat} {ok:Bool} {w:List AP} (h:∀ p∈w,0<p.2.1) (hq:0<q):∀ p∈along f q ok w,0<p.2.1:=by
 induction w with
 | nil=>intro p hp;simp [along] at hp;subst hp;exact hq
 | cons a w ih =>
  have ha:=h a List.mem_cons_self;have hw:∀ p∈w,0<p.2.1:=fun p hp=>h p (List.mem_cons_of_mem _ hp)
  intro p hp;simp only[along] at hp;split at hp
  · rcases List.mem_cons.1 hp with rfl | hp
    · exact ha
    · exact ih hw p hp
  · split at hp
    · rcases List.mem_cons.1 hp with rfl | hp
      · exact Rat.mul_pos ha hq
      · exact hw p hp
    · rcases List.mem_cons.1 hp with rfl | hp
      · exact hq
      · rcases List.mem_cons.1 hp with rfl | hp
        · exact ha
        · exact hw p hp
theorem qqS {t:List NODE} (hc:qeb t) {a i:Nat} (ha:a<t.length) (hi:i<t.length):0<cov t a/cov t i:=by
 have h1:0<cov t a:=by have:=hc a ha;rwa [<- qeT ha] at this
 have h2:0<cov t i:=by have:=hc i hi;rwa [<- qeT hi] at this
 rw[Rat.div_def];exact Rat.mul_pos h1 (Rat.inv_pos.2 h2)
theorem qyp {t:List NODE} {row:List CELL} {g:Int} {T:TR} (hc:qeb t) (h:Is t g T):∀ {w:List AP},(∀ p∈w,0<p.2.1)->∀ x∈qiq t row T w,∀ p∈x.2.2,0<p.2.1:=by
 induction T with
 | leaf i=>intro w hw x hx;simp only[qiq,List.mem_singleton] at hx;subst hx;exact hw
 | split i l r ihl ihr =>
  obtain⟨h1,h2,f0,f1,h3,h4,h5,h6⟩:=h;intro w hw x hx;simp only[qiq,List.mem_append] at hx;rcases hx with hx | hx
  · exact ihl h5 (qsd hw (qqS hc h5.top_lt h1)) x hx
  · exact ihr h6 (qsd hw (qqS hc h6.top_lt h1)) x hx
theorem qwC {t:List NODE} {row:List CELL} {n:Nat} {T:TR} (hs:TSz t 4) (hc:qeb t) (h:Is t (n:Int) T) (hd:T.deep<=8):∀ x∈qiq t row T [],qfz x.2.2 70 n/\x.2.2.length<=8:=by
 intro x hx;have h1:=qyq hs h (WSz.nil n) x hx;have h2:=qwB T (w:=[]) List.Pairwise.nil x hx;have h3:=qyp hc h (w:=[]) (fun p hp=>absurd hp (by simp)) x hx;have hl:=h1.1.2.1;exact⟨⟨h2.nodup,fun p hp=>(h1.1.1 p hp).mono (by omega),by omega,h1.1.2.2,h3⟩,by omega⟩
def GE (L:List BA) (c:Nat->Rat):Rat:=rsum (fun i=>(((L[i]?).getD (0,0)).2-((L[i]?).getD (0,0)).1)*EE (L.take i++L.drop (i+1)) c) L.length
def tlF (n:Nat) (c:Nat->Rat) (k:Nat):Rat:=(k:Rat)*(if k=0 then 0 else c (k-1))-((n:Rat)-(k:Rat))*c k
theorem qzA {L:List BA} {c d:Nat->Rat}:EE L (fun k=>c k-d k)=EE L c-EE L d:=by
 have h1:EE L (fun k=>c k-d k)=EE L fun k=>c k+(-1)*d k:=qgN fun k _=>by grind
 rw[h1,qxK (c:=c) (d:=fun k=>(-1)*d k),qxJ];grind
theorem qB4 (L:List BA):∀ c,GE L c=EE L (tlF L.length c):=by
 induction L with
 | nil=>intro c;show(0:Rat)=tlF 0 c 0;unfold tlF;simp;grind
 | cons x L ih =>
  intro c;have e1:GE (x::L) c=(x.2-x.1)*EE L c+(x.1*GE L c+x.2*GE L fun k=>c (k+1)):=by
   unfold GE;rw[List.length_cons,qpe];congr 1;rw[Rat.mul_comm x.1,<- qfW,Rat.mul_comm x.2,<- qfW,<- qfh];refine qaB fun i hi=>?_
   simp only[List.getElem?_cons_succ,List.take_succ_cons,List.drop_succ_cons,List.cons_append,EE]
   grind
  have e2:EE L (tlF (L.length+1) c)=EE L (tlF L.length c)-EE L c:=by
   rw[<- qzA];refine qgN fun k _=>?_
   unfold tlF
   push_cast
   grind
  have e3:EE L (fun k=>tlF (L.length+1) c (k+1))=EE L (tlF L.length fun k=>c (k+1))+EE L c:=by
   rw[<- qxK];refine qgN fun k _=>?_
   unfold tlF;rw[if_neg (by omega),Nat.add_sub_cancel]
   push_cast
   by_cases h0:k=0
   · subst h0;rw[if_pos rfl];push_cast;grind
   · rw[if_neg h0,show k-1+1=k by omega];grind
  rw[e1,ih,ih,List.length_cons,EE,e2,e3]
  grind
theorem qxI {L:List BA} {c:Nat->Rat} (h:∀ k,k<=L.length->c k=0):EE L c=0:=by
 have e:EE L c=EE L fun k=>0*c k:=qgN fun k hk=>by rw[h k hk];grind
 rw[e,qxJ,Rat.zero_mul]
theorem qBx (L:List BA):EE L (fun k=>if k=L.length then 1 else 0)=qel (L.map (·.2)):=by
 induction L with
 | nil=>rfl
 | cons x L ih =>
  rw[EE,List.map_cons,qel,<- ih];rw[qxI (L:=L) (c:=fun k=>if k=(x::L).length then 1 else 0) (fun k hk=>if_neg (by simp only[List.length_cons];omega))];have:EE L (fun k=>if k+1=(x::L).length then 1 else 0)=EE L fun k=>if k=L.length then 1 else 0:=qgN fun k _=>by
   by_cases h:k=L.length
   · rw[if_pos h,if_pos (by simp [h])]
   · rw[if_neg h,if_neg (by simp only[List.length_cons];omega)]
  rw[this];grind
theorem qBB (L:List BA):EE L (fun k=>if k=0 then 1 else 0)=qel (L.map (·.1)):=by
 induction L with
 | nil=>rfl
 | cons x L ih =>
  rw[EE,List.map_cons,qel,<- ih];rw[qxI (L:=L) (c:=fun k=>if k+1=0 then 1 else 0) (fun k hk=>if_neg (by omega))]
  grind
theorem qAQ {k n:Nat} (h:k<=n):tlF n (fun k=>wq k n) k=(if k=n then 1 else 0)-(if k=0 then 1 else 0):=by
 have hn:=qkL (qs2 n);unfold tlF;by_cases hk:k=0
 · subst hk;rw[if_pos rfl,if_pos rfl];by_cases h0:n=0
   · subst h0;rw[if_pos rfl];grind
   · obtain ⟨j, rfl⟩ : ∃ j, n = j + 1 := ⟨n - 1, by omega⟩;rw[if_neg (by omega)];have e:((fac (j+1):Nat):Rat)=((j+1:Nat):Rat)*((fac j:Nat):Rat):=by rw[fac];push_cast;rfl
     have e0:((fac 0:Nat):Rat)=1:=by decide +kernel
     simp only[wq,quo];rw[show j+1-0-1=j by omega,e0];rw[e] at hn ⊢;generalize ((fac j:Nat):Rat)=y at *;generalize ((j+1:Nat):Rat)=u at *;rw[Rat.div_def]
     push_cast
     grind
 · rw [if_neg hk, if_neg hk];obtain⟨i,rfl⟩:∃ i,k=i+1:=⟨k-1,by omega⟩;have e:((fac (i+1):Nat):Rat)=((i+1:Nat):Rat)*((fac i:Nat):Rat):=by rw[fac];push_cast;rfl
   by_cases hkn:i+1=n
   · subst hkn;have e0:((fac 0:Nat):Rat)=1:=by decide +kernel
     rw[if_pos rfl,Nat.add_sub_cancel,Rat.sub_self,Rat.zero_mul];simp only[wq,quo];rw[show i+1-i-1=0 by omega,e0];rw[e] at hn ⊢;generalize ((fac i:Nat):Rat)=y at *;generalize ((i+1:Nat):Rat)=u at *;rw[Rat.div_def]
     grind
   · obtain ⟨j, rfl⟩ : ∃ j, n = i + 1 + j + 1 := ⟨n - (i + 1) - 1, by omega⟩;have e2:((fac (j+1):Nat):Rat)=((j+1:Nat):Rat)*((fac j:Nat):Rat):=by rw[fac];push_cast;rfl
     have e3:((i+1+j+1:Nat):Rat)-((i+1:Nat):Rat)=((j+1:Nat):Rat):=by push_cast;grind
     rw[if_neg hkn,Nat.add_sub_cancel,e3];simp only[wq,quo];rw[show i+1+j+1-i-1=j+1 by omega,show i+1+j+1-(i+1)-1=j by omega,e,e2];generalize ((fac i:Nat):Rat)=y;generalize ((fac j:Nat):Rat)=z;generalize ((fac (i+1+j+1):Nat):Rat)=x at *;generalize ((i+1:Nat):Rat)=u;generalize ((j+1:Nat):Rat)=v;rw[Rat.div_def,Rat.div_def]
     grind
theorem qB3 (L:List BA):GE L (fun k=>wq k L.length)=qel (L.map (·.2))-qel (L.map (·.1)):=by
 rw[qB4,<- qBx,<- qBB,<- qzA];exact qgN fun k hk=>qAQ hk
theorem qqY (g:Nat->Nat->Rat) (n:Nat):∀ k,rsum (fun f=>rsum (g f) k) n=rsum (fun i=>rsum (fun f=>g f i) n) k:=by
 intro k
 induction k with
 | zero=>exact qfI fun _ _=>rfl
 | succ k ih =>
  have:rsum (fun f=>rsum (g f) (k+1)) n=rsum (fun f=>rsum (g f) k+g f k) n:=rfl;rw[this,qfh,ih];rfl
theorem quv {α:Type} (g:Nat->α->Rat) (n:Nat) (l:List α):rsum (fun f=>lsum (l.map (g f))) n=lsum (l.map fun x=>rsum (fun f=>g f x) n):=by
 induction l with
 | nil=>exact qfI fun _ _=>rfl
 | cons x l ih =>
  have:rsum (fun f=>lsum ((x::l).map (g f))) n=rsum (fun f=>g f x+lsum (l.map (g f))) n:=rfl;rw[this,qfh,ih];rfl
theorem qwy {P:List AP} {k n:Nat} (h:qfz P k n) (v:Rat):rsum (qoh P v) n=(qel (P.map fun p=>one0 p.2.2)-qel (P.map fun p=>p.2.1))*v:=by
 have e1:rsum (qoh P v) n=rsum (fun i=>rsum (fun f=>lfT P v f i) n) P.length:=qqY (fun f i=>lfT P v f i) n P.length;have e2:rsum (fun i=>rsum (fun f=>lfT P v f i) n) P.length=GE (P.map fcP) (fun k=>wq k (P.map fcP).length)*v:=by
  unfold GE;rw[List.length_map,<- qfW];refine qaB fun i hi=>?_
  have e3:∀ f,lfT P v f i=if P[i].1=f then sumP P i*(one0 P[i].2.2-P[i].2.1)*v else 0:=fun f=>qm5 hi
  have e4:rsum (fun f=>lfT P v f i) n=sumP P i*(one0 P[i].2.2-P[i].2.1)*v:=by
   rw[show(fun f=>lfT P v f i)=_ from funext e3,qv3,if_pos (h.lt _ (gM0 hi))]
  rw[e4,qvR hi,qcL hi,<- List.map_take,<- List.map_drop,<- List.map_append];simp only[List.getElem?_map,gE0 hi,Option.map_some,Option.getD_some];show EE ((qbr P i).map fcP) _*(one0 P[i].2.2-P[i].2.1)*v=(one0 P[i].2.2-P[i].2.1)*EE ((qbr P i).map fcP) _*v
  grind
 rw[e1,e2,qB3,List.map_map,List.map_map];rfl
theorem quA {P:List AP} {n S:Nat} (h:∀ p∈P,p.1<n) (hS:∀ j,j<n->S.testBit j=true):qbZ S P=qel (P.map fun p=>one0 p.2.2):=by
 unfold qbZ;congr 1;refine List.map_congr_left fun p hp=>?_
 rw[facP,hS _ (h p hp),if_pos rfl];rfl
theorem quz (P:List AP):qbZ 0 P=qel (P.map fun p=>p.2.1):=by
 unfold qbZ;congr 1;refine List.map_congr_left fun p _=>?_
 rw[facP,Nat.zero_testBit,if_neg (by decide)]
theorem qzM {t:List NODE} {row:List CELL} (hs:TSz t 4) (hc:qeb t) (h:Is t (row.length:Int) (treeOf t)) (hd:(treeOf t).deep<=8) :
  rsum (trV t row (-1) false) row.length=qkn t row (treeOf t)-expT t row 0 (treeOf t):=by
 obtain⟨S,eS⟩:∃ S,S=2 ^ row.length-1:=⟨_,rfl⟩;have hS:∀ j,j<row.length->S.testBit j=true:=fun j hj=>by rw[eS,Nat.testBit_two_pow_sub_one,decide_eq_true hj]
 have hp:=qwC (row:=row) hs hc h hd;have e1:rsum (trV t row (-1) false) row.length=lsum ((qiq t row (treeOf t) []).map fun x=>rsum (qoh x.2.2 x.2.1) row.length):=by
  refine Eq.trans ?_ (quv (fun f (x:AL)=>qoh x.2.2 x.2.1 f) row.length (qiq t row (treeOf t) []));refine qaB fun f hf=>?_
  unfold trV totL;rw[qu4 h,List.map_map];congr 1;refine List.map_congr_left fun x hx=>?_
  show qju (fun S=>qbZ S x.2.2*(1*x.2.1)) _ _=_;rw[Rat.one_mul,qpp (hp x hx).1 hf]
 have e2:∀ x∈qiq t row (treeOf t) [],rsum (qoh x.2.2 x.2.1) row.length=legV S x+(-1)*legV 0 x:=fun x hx=>by
  rw[qwy (hp x hx).1,<- quA (hp x hx).1.lt hS,<- quz];unfold legV;grind
 rw[e1,List.map_congr_left e2];have e3:∀ l:List AL,lsum (l.map fun x=>legV S x+(-1)*legV 0 x)=lsum (l.map (legV S))-lsum (l.map (legV 0)):=by
  intro l
  induction l with
  | nil=>show(0:Rat)=0-0;rw[Rat.sub_self]
  | cons x l ih=>simp only[List.map_cons,lsum,ih];grind
 rw[e3,qtO hc.ne h,qtO hc.ne h,qyF h (fun j hj=>hS j (by omega))];have:∀ S,qbZ S []=1:=fun _=>rfl
 rw[this,this,Rat.one_mul,Rat.one_mul]
theorem qwa {m:qam} {row:List CELL} (h:Askd m row):rsum (qfJ m row (-1) false) row.length=quC m row-sayM m row 0:=by
 have e1:rsum (qfJ m row (-1) false) row.length=rsum (fun j=>rsum (fun f=>trV (qaA m j) row (-1) false f) row.length) m.2.length:=qqY (fun f j=>trV (qaA m j) row (-1) false f) row.length m.2.length;have e2:rsum (fun j=>rsum (fun f=>trV (qaA m j) row (-1) false f) row.length) m.2.length=rsum (fun j=>qkn (qaA m j) row (treeOf (qaA m j))+(-1)*expT (qaA m j) row 0 (treeOf (qaA m j))) m.2.length:=qaB fun j hj=>by
  obtain⟨t1,t2,t3,t4,t5⟩:=h.tree hj;have hd:=(h.deep8 hj).1;rw[t5] at t2 ⊢;rw[show rsum (fun f=>trV m.2[j] row (-1) false f) row.length=_ from qzM t1 (h.cov hj) t2 hd];grind
 rw[e1,e2,qfh];have:rsum (fun j=>(-1)*expT (qaA m j) row 0 (treeOf (qaA m j))) m.2.length=-(sayM m row 0):=by
  rw[show(fun j=>(-1)*expT (qaA m j) row 0 (treeOf (qaA m j)))=fun j=>expT (qaA m j) row 0 (treeOf (qaA m j))*(-1) from funext fun j=>Rat.mul_comm _ _,qfW];unfold sayM;grind
 rw[this];unfold quC;grind
theorem qqW {t:List NODE} {g:Int} {row:List CELL} {f S:Nat} {T:TR} (h:Is t g T) (ha:askT t f=false) (hS:S.testBit f=false):expT t row (S+2 ^ f) T=expT t row S T:=by
 induction T with
 | leaf i=>rfl
 | split i l r ihl ihr =>
  have hu:=qpM h ha;obtain⟨h1,h2,f0,f1,h3,h4,h5,h6⟩:=h;simp only[expT];rw[ihl h5,ihr h6,qfy hS,decide_eq_false hu,Bool.false_or]
end Go.Proofs.YtaeiamdjpkgjpaaGreatDoor.X
