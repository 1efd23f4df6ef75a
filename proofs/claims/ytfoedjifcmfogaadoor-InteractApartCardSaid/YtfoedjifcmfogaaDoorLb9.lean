/- Own work: part of the proof; the first line of each part says what it tells. -/
import Derived.Test.YtfoedjifcmfogaaDoorLb8


namespace Go.Proofs.YtfoedjifcmfogaaDoor.X
open Go
set_option linter.unusedVariables false
set_option linter.unusedSimpArgs false
theorem qj1 (a:RAT):qbs a=some (cutR 4 a):=by
 obtain⟨⟨s,x⟩,y⟩:=a;unfold qbs cutR;by_cases h1:4<x.length
 · have c1 : ((x.length : Nat) : Int) > 4 := by omega
   have c2:(4:Int)<=((x.length:Nat):Int):=by omega
   by_cases h2:4<y.length
   · have c3 : ((y.length : Nat) : Int) > 4 := by omega
     have c4:(4:Int)<=((y.length:Nat):Int):=by omega
     rw[cnd c1,cnd c2,cnd c3,cnd c4]
   · have c3 : ¬ ((y.length : Nat) : Int) > 4 := by omega
     rw[cnd c1,cnd c2,cnd' c3,List.take_of_length_le (l:=y) (by omega)]
 · have c1 : ¬ ((x.length : Nat) : Int) > 4 := by omega
   by_cases h2:4<y.length
   · have c3 : ((y.length : Nat) : Int) > 4 := by omega
     have c4:(4:Int)<=((y.length:Nat):Int):=by omega
     rw[cnd' c1,cnd c3,cnd c4,List.take_of_length_le (l:=x) (by omega)]
   · have c3 : ¬ ((y.length : Nat) : Int) > 4 := by omega
     rw[cnd' c1,cnd' c3,List.take_of_length_le (l:=x) (by omega),List.take_of_length_le (l:=y) (by omega)]
def qpE (n:NODE):NODE:=(n.1,n.2.1,cutR 4 n.2.2.1,n.2.2.2.1,n.2.2.2.2.1,n.2.2.2.2.2.1,cutR 4 n.2.2.2.2.2.2.1,cutR 4 n.2.2.2.2.2.2.2)
def qgV (t:List NODE):List NODE:=(t.take 15).map qpE
def cutM (m:qaq):qaq:=(m.1,(m.2.take 6).map qgV)
theorem quk (n:NODE):NSz (qpE n) 4:=⟨qnH 4 _,qnH 4 _,qnH 4 _⟩
theorem quj (t:List NODE):TSz (qgV t) 4:=by
 intro n hn;obtain⟨x,_,rfl⟩:=List.mem_map.1 hn;exact quk x
theorem qsf (t:List NODE):(qgV t).length<=15:=by simp [qgV];omega
theorem qzv (m:qaq):MSz (cutM m) 4:=by
 intro t ht;obtain⟨x,_,rfl⟩:=List.mem_map.1 ht;exact quj x
theorem qv6 (m:qaq):∀ t∈(cutM m).2,t.length<=15:=by
 intro t ht;obtain⟨x,_,rfl⟩:=List.mem_map.1 ht;exact qsf x
theorem qsq {m:qaq} {i:Nat} (hi:i<m.2.length) (hl:m.2[i].length<=9223372036854775807) (hi2:i<4611686018427387904) (z w:Int×List (List NODE)) :
  lp qaC K0 (((i:Int),[],0,()),((m.1,m.2,()),(z.1,z.2,()),(w.1,w.2,()),()))=some (((i:Int),qgV m.2[i],()),((m.1,m.2,()),(z.1,z.2,()),(w.1,w.2,()),())):=by
 have hn:min m.2[i].length 15<=m.2[i].length:=Nat.min_le_left _ _;exact qfM (step:=qaC) (fun k=>(((i:Int),(m.2[i].take k).map qpE,(k:Int),()),((m.1,m.2,()),(z.1,z.2,()),(w.1,w.2,()),()))) (min m.2[i].length 15) (by omega) (by
  intro g k hk;have h1:k<m.2[i].length:=by omega
  have d0:(0:Int)<=(i:Int):=by omega
  have d1:(k:Int)<((m.2[i].length:Nat):Int):=by omega
  have d2:(k:Int)<15:=by omega
  have d3:(0:Int)<=(k:Int):=by omega
  have d4:(((m.2[i].take k).map qpE).length+1)*208<=140737488355328:=by simp;omega
  rw[qaC,cnd d0,tN0,gE0 hi,bS0,cnd d1,cnd d2,cnd d0,bS0,cnd d3,tN0,gE0 h1,bS0,qj1,bS0,qj1,bS0,qj1,bS0,blt d4,cond_true,qbr (by omega),qge _ h1];rfl) (by
  intro g;have d0:(0:Int)<=(i:Int):=by omega
  by_cases h:m.2[i].length<=15
  · have c1 : ¬ ((min m.2[i].length 15 : Nat) : Int) < ((m.2[i].length : Nat) : Int) := by omega
    rw[qaC,cnd d0,tN0,gE0 hi,bS0,cnd' c1,Nat.min_eq_left h,List.take_of_length_le (Nat.le_refl _),qgV,List.take_of_length_le h]
  · have c1 : ((min m.2[i].length 15 : Nat) : Int) < ((m.2[i].length : Nat) : Int) := by omega
    have c2:¬ ((min m.2[i].length 15:Nat):Int)<15:=by omega
    rw[qaC,cnd d0,tN0,gE0 hi,bS0,cnd c1,cnd' c2,Nat.min_eq_right (by omega),qgV])
theorem qx0 (m:qaq) (hl:m.2.length<=9223372036854775807) (ht:∀ t∈m.2,t.length<=9223372036854775807):qdp m=some (cutM m):=by
 have hn:min m.2.length 6<=m.2.length:=Nat.min_le_left _ _;have key:=qfM (step:=qaD) (fun i=>(((i:Int),()),((m.1,m.2,()),(0,[],()),(m.1,(m.2.take i).map qgV,()),()))) (min m.2.length 6) (r:=((),((0,[],()),(m.1,(m.2.take 6).map qgV,()),()))) (by omega) (by
  intro g i hi;have h1:i<m.2.length:=by omega
  have d0:(i:Int)<((m.2.length:Nat):Int):=by omega
  have d1:(i:Int)<6:=by omega
  have hin:=qsq h1 (ht _ (gM0 h1)) (by omega) (0,[]) (m.1,(m.2.take i).map qgV);have d4:(((m.2.take i).map qgV).length+1)*24<=140737488355328:=by simp;omega
  rw[qaD,cnd d0,cnd d1,hin,bS0,blt d4,cond_true,qbr (by omega),qge _ h1];rfl) (by
  intro g;by_cases h:m.2.length<=6
  · have c1 : ¬ ((min m.2.length 6 : Nat) : Int) < ((m.2.length : Nat) : Int) := by omega
    rw[qaD,cnd' c1,Nat.min_eq_left h,List.take_of_length_le (Nat.le_refl _),List.take_of_length_le h]
  · have c1 : ((min m.2.length 6 : Nat) : Int) < ((m.2.length : Nat) : Int) := by omega
    have c2:¬ ((min m.2.length 6:Nat):Int)<6:=by omega
    rw[qaD,cnd c1,cnd' c2,Nat.min_eq_right (by omega)])
 have key':lp qaD K0 ((0,()),((m.1,m.2,()),(0,[],()),(m.1,[],()),()))=_:=key;rw[qdp,key'];rfl
inductive TR where
 | leaf (i:Nat)
 | split (i:Nat) (l r:TR)
def TR.top:TR->Nat
 | .leaf i=>i
 | .split i _ _=>i
def TR.size:TR->Nat
 | .leaf _=>1
 | .split _ l r=>1+l.size+r.size
def TR.deep:TR->Nat
 | .leaf _=>1
 | .split _ l r=>1+max l.deep r.deep
def Is (t:List NODE) (f:Int):TR->Prop
 | .leaf i=>∃ h:i<t.length,qgN t[i]=true
 | .split i l r=>∃ h:i<t.length,qgN t[i]=false/\0<=qb3 t[i]/\qb3 t[i]<f/\nL t[i]=(l.top:Int)/\nR t[i]=(r.top:Int)/\Is t f l/\Is t f r
theorem qyE {t:List NODE} {f:Int} (hr:qf6 t f) (hrk:qti t):∀ i,i<t.length->∃ T,Is t f T/\T.top=i/\T.deep<=t.length+1:=by
 obtain⟨rk,hrk⟩:=hrk;have key:∀ (d i:Nat),i<t.length->rk i<=d->∃ T,Is t f T/\T.top=i/\T.deep<=rk i+1:=by
  intro d
  induction d with
  | zero =>
   intro i hi hd;cases hl:qgN t[i] with
   | true=>exact⟨.leaf i,⟨hi,hl⟩,rfl,by simp [TR.deep]⟩
   | false =>
    have:=(hrk i hi).2 (nL t[i]).toNat (by rw[qfu hi hl];simp);omega
  | succ d ih =>
   intro i hi hd;cases hl:qgN t[i] with
   | true=>exact⟨.leaf i,⟨hi,hl⟩,rfl,by simp [TR.deep]⟩
   | false =>
    obtain⟨r1,r2,r3,r4,r5,r6⟩:=hr i hi hl;have k1:=(hrk i hi).2 (nL t[i]).toNat (by rw[qfu hi hl];simp);have k2:=(hrk i hi).2 (nR t[i]).toNat (by rw[qfu hi hl];simp);obtain⟨L,hL,hLt,hLd⟩:=ih (nL t[i]).toNat (by omega) (by omega);obtain⟨R,hR,hRt,hRd⟩:=ih (nR t[i]).toNat (by omega) (by omega);refine⟨.split i L R,⟨hi,hl,r1,r2,by rw[hLt];omega,by rw[hRt];omega,hL,hR⟩,rfl,?_⟩
    simp only[TR.deep];omega
 intro i hi;obtain⟨T,h1,h2,h3⟩:=key (rk i) i hi (Nat.le_refl _);have:=(hrk i hi).1;exact⟨T,h1,h2,by omega⟩
theorem Good.tree {m:qaq} (h:Good m) {i:Nat} (hi:i<m.2.length):∃ T,Is m.2[i] m.1 T/\T.top=0/\T.deep<=m.2[i].length+1 :=
 qyE (h.ranges hi) (h.shape hi).2 0 (h.1.2.2.2 i hi).1
abbrev zR:RAT:=((false,[]),[])
abbrev zN:NODE:=(false,0,zR,0,0,false,zR,zR)
def qcd (t:List NODE) (i:Nat):NODE:=(t[i]?).getD zN
theorem qc6 {t:List NODE} {i:Nat} (h:i<t.length):qcd t i=t[i]:=by simp [qcd,h]
def qwc (row:List CELL) (i:Nat):CELL:=(row[i]?).getD (false,zR)
theorem qul {row:List CELL} {i:Nat} (h:i<row.length):qwc row i=row[i]:=by simp [qwc,h]
def goes (n:NODE) (c:CELL):Bool:=if c.1 then qAD n else decide (rv c.2<rv (nCut n))
def goL (t:List NODE) (row:List CELL) (i:Nat):Bool:=goes (qcd t i) (qwc row (qb3 (qcd t i)).toNat)
def wayT (t:List NODE) (row:List CELL):TR->List Nat
 | .leaf i=>[i]
 | .split i l r=>i::if goL t row i then wayT t row l else wayT t row r
theorem Is.top_lt {t:List NODE} {f:Int} {T:TR} (h:Is t f T):T.top<t.length:=by
 cases T with
 | leaf i=>exact h.1
 | split i l r=>exact h.1
theorem TR.deep_pos (T:TR):0<T.deep:=by cases T<;>simp [TR.deep]<;>omega
def expT (t:List NODE) (row:List CELL) (set:Nat):TR->Rat
 | .leaf i=>rv (nVal (qcd t i))
 | .split i l r=>if set.testBit (qb3 (qcd t i)).toNat then (if goL t row i then expT t row set l else expT t row set r)
  else (cov t l.top*expT t row set l+cov t r.top*expT t row set r)/cov t i
theorem TSz.at {t:List NODE} {k:Nat} (h:TSz t k) {i:Nat} (hi:i<t.length):NSz (qcd t i) k:=by rw[qc6 hi];exact h _ (gM0 hi)
theorem qyo {t:List NODE} (hs:TSz t 4) {i:Nat} (hi:i<t.length):SzQ (cov t i) 4:=(hs.at hi).2.2.szQ (by decide)
def mkT (t:List NODE):Nat->Nat->TR
 | 0,i=>.leaf i
 | d+1,i=>if qgN (qcd t i) then .leaf i else .split i (mkT t d (nL (qcd t i)).toNat) (mkT t d (nR (qcd t i)).toNat)
theorem qAb {t:List NODE} {f:Int}:∀ (d:Nat) (T:TR),Is t f T->T.deep<=d->mkT t d T.top=T:=by
 intro d
 induction d with
 | zero=>intro T _ h;have:=T.deep_pos;omega
 | succ d ih =>
  intro T h hd;cases T with
  | leaf i =>
   obtain⟨h1,h2⟩:=h;simp only[TR.top,mkT,qc6 h1,h2,if_true]
  | split i l r =>
   obtain⟨h1,h2,_,_,h3,h4,h5,h6⟩:=h;simp only[TR.deep] at hd;show mkT t (d+1) i=_;rw[mkT,qc6 h1,h2,h3,h4,tN0,tN0,ih l h5 (by omega),ih r h6 (by omega)];rfl
def treeOf (t:List NODE):TR:=mkT t (t.length+1) 0
theorem Good.treeOf {m:qaq} (h:Good m) {i:Nat} (hi:i<m.2.length):Is m.2[i] m.1 (treeOf m.2[i])/\(treeOf m.2[i]).top=0/\(treeOf m.2[i]).deep<=m.2[i].length+1:=by
 obtain⟨T,h1,h2,h3⟩:=h.tree hi;have:X.treeOf m.2[i]=T:=by rw[X.treeOf,<- h2];exact qAb _ T h1 h3
 rw[this];exact⟨h1,h2,h3⟩
def qbS (m:qaq) (i:Nat):List NODE:=(m.2[i]?).getD []
theorem qlh {m:qaq} {i:Nat} (h:i<m.2.length):qbS m i=m.2[i]:=by simp [qbS,h]
def sayM (m:qaq) (row:List CELL) (set:Nat):Rat:=rsum (fun i=>expT (qbS m i) row set (treeOf (qbS m i))) m.2.length
theorem qAl {m:qaq} (h:Good m) (hl:∀ t∈m.2,t.length<=15) {i:Nat} (hi:i<m.2.length):(treeOf (qbS m i)).deep<=16:=by
 rw[qlh hi];have:=(h.treeOf hi).2.2;have:=hl _ (gM0 hi);omega
def CSz (row:List CELL) (k:Nat):Prop:=∀ c∈row,SzR c.2 k
theorem qzl {n:NODE} {c:CELL} {k j:Nat} (hn:SzR (nCut n) k) (hk:k<1099511627776) (hc:SzR c.2 j) (hj:j<1099511627776):qhs n c=some (goes n c):=by
 unfold qhs goes;cases h:c.1 with
 | true=>rfl
 | false =>
  rw[cond_false,ql9 (hc.sm hj) (hn.sm hk),bS0,if_neg (by decide)];congr 1;by_cases h:rv c.2<rv (nCut n)
  · rw[decide_eq_true (qsL.2 h),decide_eq_true h]
  · rw[decide_eq_false (fun e=>h (qsL.1 e)),decide_eq_false h]
theorem qzG {n:NODE} {c:CELL} {k j:Nat} (hn:SzR (nCut n) k) (hk:k<1099511627776) (hc:SzR c.2 j) (hj:j<1099511627776):qht n c=some (!qgN n&&goes n c):=by
 unfold qht;rw[qzl hn hk hc hj];show _=some (!n.1&&goes n c);cases h:n.1 with
 | true=>rfl
 | false=>rfl
theorem qAh {t:List NODE} {f:Int} {row:List CELL} {i:Nat} (hs:TSz t 4) (hc:CSz row 9) (hi:i<t.length) (h0:0<=qb3 t[i]) (h1:qb3 t[i]<(row.length:Int)) :
  ∃ c,row[(qb3 t[i]).toNat]?=some c/\SzR c.2 9/\goes t[i] c=goL t row i:=by
 have hlt:(qb3 t[i]).toNat<row.length:=by omega
 refine⟨row[(qb3 t[i]).toNat],gE0 hlt,hc _ (gM0 hlt),?_⟩;rw[goL,qc6 hi,qul hlt]
theorem qv5 (l:List CELL):CSz (l.map qhe) 9:=by
 intro c hc;obtain⟨x,_,rfl⟩:=List.mem_map.1 hc;exact⟨Nat.le_trans (qnH 3 _).1 (by decide),Nat.le_trans (qnH 3 _).2 (by decide)⟩
theorem qAj {m:qaq} {row:List CELL} (hl:m.2.length<4294967296) (ht:∀ t∈m.2,t.length<4294967296) (hs:MSz m 4) :
  ∃ e:Int,qdw m row=some e/\qb4 m row=some e/\(e=0 ↔ Good m/\(row.length:Int)=m.1):=by
 obtain⟨b,h1,h2⟩:=qAo hl ht hs (by decide);have key:∃ e:Int,qdw m row=some e/\(e=0 ↔ Good m/\(row.length:Int)=m.1):=by
  cases b with
  | false=>exact⟨1,by rw[qdw,h1];rfl,⟨fun h=>absurd h (by decide),fun h=>by have:=h2.2 h.1;simp at this⟩⟩
  | true =>
   by_cases h:(row.length:Int)=m.1
   · exact⟨0,by rw[qdw,h1,bS0,Bool.not_true,cond_false,decide_eq_true h];rfl,by simp [h2.1 rfl,h]⟩
   · exact⟨14,by rw[qdw,h1,bS0,Bool.not_true,cond_false,decide_eq_false h];rfl,by simp [h]⟩
 obtain⟨e,h3,h4⟩:=key;exact⟨e,h3,by rw[qb4,h3];rfl,h4⟩
structure Askd (m:qaq) (row:List CELL):Prop where
 good:Good m
 len:(row.length:Int)=m.1
 ms:MSz m 4
 ml:m.2.length<=6
 mt:∀ t∈m.2,t.length<=15
 cs:CSz row 9
theorem Askd.tree {m:qaq} {row:List CELL} (h:Askd m row) {i:Nat} (hi:i<m.2.length):TSz m.2[i] 4/\Is m.2[i] (row.length:Int) (treeOf (qbS m i))/\(treeOf (qbS m i)).top=0/\(treeOf (qbS m i)).deep<=16/\qbS m i=m.2[i]:=by
 have h1:=h.good.treeOf hi;have h2:=qAl h.good h.mt hi;rw[qlh hi] at h2 ⊢;exact⟨h.ms _ (gM0 hi),by rw[h.len];exact h1.1,h1.2.1,h2,rfl⟩
theorem Askd.cov {m:qaq} {row:List CELL} (h:Askd m row) {i:Nat} (hi:i<m.2.length):qgX m.2[i]:=h.good.covers hi
theorem Askd.f64 {m:qaq} {row:List CELL} (h:Askd m row):row.length<=64:=by
 have:=h.good.1.2.1;have:=h.len;omega
theorem qxT (m0:qaq) (row0:List CELL) (hl:m0.2.length<=9223372036854775807) (ht:∀ t∈m0.2,t.length<=9223372036854775807) (hr:row0.length<=9223372036854775807) :
   ∃ m row,qb7 m0 row0=some (m,row)/\MSz m 4/\m.2.length<=3/\(∀ t∈m.2,t.length<=15)/\CSz row 9:=by
 have hf:=qx0 m0 hl ht;have ms:=qzv m0;have mt:=qv6 m0;have h9:=qxZ row0 70 hr (by decide);have h9:qb9 row0 70=some ((row0.take 70).map qhe):=h9;have cs:=qv5 (row0.take 70);by_cases h3:((cutM m0).2.length:Int)>3
 · refine ⟨((cutM m0).1, (cutM m0).2.take 3), (row0.take 70).map qhe, ?_, fun t h => ms t (List.mem_of_mem_take h), by simp; omega, fun t h => mt t (List.mem_of_mem_take h), cs⟩
   rw[qb7,hf,bS0,cnd h3,cnd (by omega),h9];rfl
 · refine ⟨cutM m0, (row0.take 70).map qhe, ?_, ms, by omega, mt, cs⟩;rw[qb7,hf,bS0,cnd' h3,h9];rfl
def qh1 (f:Nat->Rat):Nat->Rat
 | 0=>1
 | n+1=>qh1 f n*f n
def qcan (qs:List Rat):List RAT:=qs.map canQ
@[simp] theorem qAy (qs:List Rat):(qcan qs).length=qs.length:=by simp [qcan]
def lsum:List Rat->Rat
 | []=>0
 | x::r=>x+lsum r
theorem qft (a b:List Rat):lsum (a++b)=lsum a+lsum b:=by
 induction a with
 | nil=>simp [lsum,Rat.zero_add]
 | cons x a ih=>simp only[List.cons_append,lsum,ih,Rat.add_assoc]
theorem qgX.ne {t:List NODE} (h:qgX t):∀ i,i<t.length->cov t i≠0:=by
 intro i hi e;have:=h i hi;rw[qhf hi] at e;rw[e] at this;exact absurd this (by decide)
abbrev AP:=Nat×Rat×Bool
def encP (p:AP):PART:=((p.1:Int),canQ p.2.1,p.2.2)
def encW (w:List AP):List PART:=w.map encP
theorem qmE (w:List AP):(encW w).length=w.length:=by simp [encW]
theorem qxz {w:List AP} {i:Nat} (h:i<w.length):(encW w)[i]?=some (encP w[i]):=by simp [encW,h]
def qiK (f:Nat) (q:Rat) (ok:Bool):List AP->List AP
 | []=>[(f,q,ok)]
 | p::w=>if p.1<f then p::qiK f q ok w else if p.1=f then (f,p.2.1*q,p.2.2&&ok)::w else (f,q,ok)::p::w
def ASz (w:List AP) (k:Nat):Prop:=∀ p∈w,SzQ p.2.1 k
def quf (t:List NODE) (i:Nat):Nat:=(qb3 (qcd t i)).toNat
theorem qrg {f:Nat} {q:Rat} {ok:Bool} {w:List AP}:∀ p∈qiK f q ok w,p.1=f\/∃ p'∈w,p'.1=p.1:=by
 induction w with
 | nil=>intro p hp;simp [qiK] at hp;subst hp;exact .inl rfl
 | cons a w ih =>
  intro p hp;simp only[qiK] at hp;split at hp
  · rcases List.mem_cons.1 hp with rfl | hp
    · exact .inr ⟨p,List.mem_cons_self,rfl⟩
    · rcases ih p hp with h | ⟨p', h1, h2⟩
      · exact .inl h
      · exact .inr ⟨p',List.mem_cons_of_mem _ h1,h2⟩
  · split at hp
    · rcases List.mem_cons.1 hp with rfl | hp
      · exact .inl rfl
      · exact .inr ⟨p,List.mem_cons_of_mem _ hp,rfl⟩
    · rcases List.mem_cons.1 hp with rfl | hp
      · exact .inl rfl
      · exact .inr ⟨p,hp,rfl⟩
theorem qsH {t:List NODE} (hs:TSz t 4) {a i:Nat} (ha:a<t.length) (hi:i<t.length):SzQ (cov t a/cov t i) 8:=(qyo hs ha).div (qyo hs hi)
def qgf:List Rat->Rat
 | []=>1
 | x::r=>x*qgf r
theorem qmm (a b:List Rat):qgf (a++b)=qgf a*qgf b:=by
 induction a with
 | nil=>simp [qgf,Rat.one_mul]
 | cons x a ih=>simp only[List.cons_append,qgf,ih,Rat.mul_assoc]
def facP (set:Nat) (p:AP):Rat:=if set.testBit p.1 then (if p.2.2 then 1 else 0) else p.2.1
def qcN (set:Nat) (w:List AP):Rat:=qgf (w.map (facP set))
theorem qlZ (set f:Nat) (q:Rat) (ok:Bool) (w:List AP):qcN set (qiK f q ok w)=qcN set w*facP set (f,q,ok):=by
 induction w with
 | nil=>simp [qcN,qiK,qgf,Rat.mul_one,Rat.one_mul]
 | cons p w ih =>
  simp only[qcN] at ih;simp only[qiK];split
  · simp only[qcN,List.map_cons,qgf,ih];grind
  · split
    · rename_i e;simp only[qcN,List.map_cons,qgf];have:facP set (f,p.2.1*q,p.2.2&&ok)=facP set p*facP set (f,q,ok):=by
       simp only[facP,e];cases set.testBit f<;>cases p.2.2<;>cases ok<;>simp<;>grind
      rw[this];grind
    · simp only[qcN,List.map_cons,qgf];grind
def qdD:TR->List Nat
 | .leaf i=>[i]
 | .split i l r=>i::(qdD l++qdD r)
theorem qtF (T:TR):(qdD T).length=T.size:=by
 induction T with
 | leaf i=>rfl
 | split i l r ihl ihr=>simp only[qdD,TR.size,List.length_cons,List.length_append,ihl,ihr];omega
theorem qhL {t:List NODE} {f:Int} {T:TR} (h:Is t f T):∀ j∈qdD T,j<t.length:=by
 induction T with
 | leaf i=>intro j hj;simp [qdD] at hj;subst hj;exact h.1
 | split i l r ihl ihr =>
  obtain⟨h1,_,_,_,_,_,h2,h3⟩:=h;intro j hj;simp only[qdD,List.mem_cons,List.mem_append] at hj;rcases hj with rfl | hj | hj
  · exact h1
  · exact ihl h2 j hj
  · exact ihr h3 j hj
theorem Is.kids {t:List NODE} {f:Int} {i:Nat} {l r:TR} (h:Is t f (.split i l r)):kids t i=[l.top,r.top]:=by
 obtain⟨h1,h2,_,_,h3,h4,_,_⟩:=h;rw[qfu h1 h2,h3,h4,tN0,tN0]
theorem qih {t:List NODE} {f:Int} {T:TR} (h:Is t f T):∀ j∈qdD T,j=T.top\/∃ p∈qdD T,j∈kids t p:=by
 induction T with
 | leaf i=>intro j hj;simp [qdD] at hj;exact .inl hj
 | split i l r ihl ihr =>
  have hk:=h.kids;obtain⟨h1,_,_,_,_,_,h2,h3⟩:=h;intro j hj;simp only[qdD,List.mem_cons,List.mem_append] at hj;have hi:i∈qdD (.split i l r):=by simp [qdD]
  rcases hj with rfl | hj | hj
  · exact .inl rfl
  · refine .inr ?_;rcases ihl h2 j hj with rfl | ⟨p,hp,hm⟩
    · exact⟨i,hi,by rw[hk];simp⟩
    · exact⟨p,by simp [qdD,hp],hm⟩
  · refine .inr ?_;rcases ihr h3 j hj with rfl | ⟨p,hp,hm⟩
    · exact⟨i,hi,by rw[hk];simp⟩
    · exact⟨p,by simp [qdD,hp],hm⟩
theorem qno {t:List NODE} {f:Int} {rk:Nat->Nat} (hrk:∀ i,i<t.length->rk i<=t.length/\∀ c∈kids t i,rk c<rk i) {T:TR} (h:Is t f T):∀ j∈qdD T,rk j<=rk T.top:=by
 induction T with
 | leaf i=>intro j hj;simp [qdD] at hj;subst hj;exact Nat.le_refl _
 | split i l r ihl ihr =>
  have hk:=h.kids;obtain⟨h1,_,_,_,_,_,h2,h3⟩:=h;have a:=(hrk i h1).2 l.top (by rw[hk];simp);have b:=(hrk i h1).2 r.top (by rw[hk];simp);intro j hj;simp only[qdD,List.mem_cons,List.mem_append] at hj;show rk j<=rk i;rcases hj with rfl | hj | hj
  · exact Nat.le_refl _
  · have:=ihl h2 j hj;omega
  · have:=ihr h3 j hj;omega
theorem qpu {t:List NODE} {n j p p':Nat} (hp:p<n) (hp':p'<n) (hne:p≠p') (h:j∈kids t p) (h':j∈kids t p'):2<=((List.range n).flatMap (kids t)).count j:=by
 have key:∀ {a b n:Nat},a<b->b<n->j∈kids t a->j∈kids t b->2<=((List.range n).flatMap (kids t)).count j:=by
   intro a b n hab hb ha hbm;have e:List.range n=List.range b++(List.range (n-b)).map (·+b):=by
    have h1:n=b+(n-b):=by omega
    conv=>lhs;rw[h1,List.range_add]
    congr 1;refine List.map_congr_left fun x _=>Nat.add_comm _ _
   rw[e,List.flatMap_append,List.count_append];have c1:0<((List.range b).flatMap (kids t)).count j:=List.count_pos_iff.2 (List.mem_flatMap.2 ⟨a,by simpa using hab,ha⟩);have c2:0<(((List.range (n-b)).map (·+b)).flatMap (kids t)).count j:=List.count_pos_iff.2 (List.mem_flatMap.2 ⟨b,List.mem_map.2 ⟨0,by simp;omega,by simp⟩,hbm⟩);omega
 rcases Nat.lt_or_gt_of_ne hne with hlt | hlt
 · exact key hlt hp' h h'
 · exact key hlt hp h' h
theorem qqo {t:List NODE} {f:Int} (hs:qoD t) {T:TR} (h:Is t f T):(qdD T).Nodup:=by
 obtain⟨hc,rk,hrk⟩:=hs;have one:∀ j p p',p<t.length->p'<t.length->0<j->j<t.length->j∈kids t p->j∈kids t p'->p=p':=by
  intro j p p' hp hp' h0 hj hm hm';refine Classical.byContradiction fun hne=>?_
  have h1:=qpu hp hp' hne hm hm';have h2:=hc j h0 hj;rw[cnt] at h2;omega
 induction T with
 | leaf i=>simp [qdD]
 | split i l r ihl ihr =>
  have hk:=h.kids;obtain⟨h1,g1,g2,g3,g4,g5,h2,h3⟩:=h;have ra:=(hrk i h1).2 l.top (by rw[hk];simp);have rb:=(hrk i h1).2 r.top (by rw[hk];simp);have nl:=qno hrk h2;have nr:=qno hrk h3;have top0:∀ j∈kids t i,0<j->True:=fun _ _ _=>trivial
  refine List.nodup_cons.2 ⟨fun hm=>?_,List.nodup_append.2 ⟨ihl h2,ihr h3,?_⟩⟩
  · rcases List.mem_append.1 hm with hm | hm
    · have:=nl i hm;omega
    · have:=nr i hm;omega
  ·
    have key:∀ (d j:Nat),t.length-rk j<=d->j∈qdD l->j∈qdD r->False:=by
      intro d
      induction d with
      | zero =>
       intro j hd hl hr;have:=nl j hl;have:=(hrk i h1).1;omega
      | succ d ih =>
       intro j hd hl hr;have hjl:=qhL h2 j hl;have par:∃ p p',p<t.length/\p'<t.length/\j∈kids t p/\j∈kids t p'/\((p=i/\j=l.top)\/p∈qdD l)/\((p'=i/\j=r.top)\/p'∈qdD r):=by
         have hk1:l.top∈kids t i:=by rw[hk];simp
         have hk2:r.top∈kids t i:=by rw[hk];simp
         rcases qih h2 j hl with e | ⟨p,hp,hm⟩
         · rcases qih h3 j hr with e' | ⟨p', hp', hm'⟩
           · exact⟨i,i,h1,h1,by rw[e];exact hk1,by rw[e];exact hk1,.inl ⟨rfl,e⟩,.inl ⟨rfl,e'⟩⟩
           · exact⟨i,p',h1,qhL h3 p' hp',by rw[e];exact hk1,hm',.inl ⟨rfl,e⟩,.inr hp'⟩
         · rcases qih h3 j hr with e' | ⟨p', hp', hm'⟩
           · exact⟨p,i,qhL h2 p hp,h1,hm,by rw[e'];exact hk2,.inr hp,.inl ⟨rfl,e'⟩⟩
           · exact⟨p,p',qhL h2 p hp,qhL h3 p' hp',hm,hm',.inr hp,.inr hp'⟩
       obtain⟨p,p',q1,q2,q3,q4,q5,q6⟩:=par;by_cases h0:0<j
       · have e := one j p p' q1 q2 h0 hjl q3 q4;subst e;rcases q5 with ⟨e1,e2⟩ | q5
         · rcases q6 with ⟨_, e3⟩ | q6
           ·
             have h5:=hc j h0 hjl;rw[cnt] at h5;have:((List.range t.length).flatMap (kids t)).count j>=(kids t i).count j:=by
               have hi:i∈List.range t.length:=by simpa using h1
               obtain⟨a,b,eab⟩:=List.append_of_mem hi;rw[eab,List.flatMap_append,List.flatMap_cons,List.count_append,List.count_append];omega
             rw[hk,<- e2,<- e3] at this;simp at this;omega
           · rw [e1] at q6;have:=nr i q6;omega
         · rcases q6 with ⟨e1, _⟩ | q6
           · rw [e1] at q5;have:=nl i q5;omega
           · have := (hrk p q1).2 j q3;have:=(hrk p q1).1;exact ih p (by omega) q5 q6
       ·
         have j0:j=0:=by omega
         have nokid:∀ (d q:Nat),t.length-rk q<=d->q<t.length->j∈kids t q->False:=by
           intro d
           induction d with
           | zero =>
             intro q hd hq hm;have:=(hrk q hq).2 j hm;by_cases hq0:q=0
             · rw[j0,hq0] at this;omega
             · obtain ⟨p, hp, hpm⟩ := qhU hc (by omega) hq;have a:=(hrk p hp).2 q hpm;have b:=(hrk p hp).1;omega
           | succ d ihd =>
             intro q hd hq hm;have hlt:=(hrk q hq).2 j hm;by_cases hq0:q=0
             · rw[j0,hq0] at hlt;omega
             ·
               have up:∀ (d2 u:Nat),t.length-rk u<=d2->u<t.length->rk q<=rk u->False:=by
                intro d2
                induction d2 with
                | zero =>
                 intro u hu hu2 hqu;by_cases hu0:u=0
                 · rw[hu0] at hqu;rw[j0] at hlt;omega
                 · obtain ⟨p, hp, hpm⟩ := qhU hc (by omega) hu2;have a:=(hrk p hp).2 u hpm;have b:=(hrk p hp).1;omega
                | succ d2 ihd2 =>
                 intro u hu hu2 hqu;by_cases hu0:u=0
                 · rw[hu0] at hqu;rw[j0] at hlt;omega
                 · obtain ⟨p, hp, hpm⟩ := qhU hc (by omega) hu2;have a:=(hrk p hp).2 u hpm;have b:=(hrk p hp).1;exact ihd2 p (by omega) hp (by omega)
               exact up _ q (Nat.le_refl _) hq (Nat.le_refl _)
         exact nokid _ p (Nat.le_refl _) q1 q3
    intro a ha b hb e;subst e;exact key _ a (Nat.le_refl _) ha hb
theorem quN {t:List NODE} {f:Int} (hs:qoD t) {T:TR} (h:Is t f T):T.size<=t.length:=by
 rw[<- qtF];exact qiZ (qqo hs h) (qhL h)
theorem TR.size_pos (T:TR):0<T.size:=by cases T<;>simp [TR.size]<;>omega
theorem qv1 (T:TR):2*T.deep<=T.size+1:=by
 induction T with
 | leaf i=>simp [TR.deep,TR.size]
 | split i l r ihl ihr =>
  have:=l.size_pos;have:=r.size_pos;simp only[TR.deep,TR.size];omega
def qoa (w:List AP):Prop:=w.Pairwise fun a b=>a.1<b.1
theorem quu {f:Nat} {q:Rat} {ok:Bool} {w:List AP} (h:qoa w):qoa (qiK f q ok w):=by
 induction w with
 | nil=>simp [qiK,qoa]
 | cons p w ih =>
  have h1:=List.pairwise_cons.1 h;simp only[qiK];split
  · rename_i hp;refine List.pairwise_cons.2 ⟨fun a ha=>?_,ih h1.2⟩;rcases qrg a ha with e | ⟨p',h3,h4⟩
    · omega
    · have:=h1.1 p' h3;omega
  · split
    · rename_i e;exact List.pairwise_cons.2 ⟨fun a ha=>by have:=h1.1 a ha;show f<a.1;omega,h1.2⟩
    · refine List.pairwise_cons.2 ⟨fun a ha => ?_, h⟩;show f<a.1;rcases List.mem_cons.1 ha with rfl | ha
      · omega
      · have:=h1.1 a ha;omega
def flo (n:Nat) (o:Nat->Rat):List RAT:=(List.range n).map fun f=>canQ (o f)
theorem qa2 (n:Nat) (o:Nat->Rat):(flo n o).length=n:=by simp [flo]
theorem qe9 {n f:Nat} (o:Nat->Rat) (h:f<n):(flo n o)[f]?=some (canQ (o f)):=by simp [flo,h]
theorem qk3 {n:Nat} {o p:Nat->Rat} (h:∀ f,f<n->o f=p f):flo n o=flo n p:=by
 rw[flo,flo];exact List.map_congr_left fun f hf=>by rw[h f (List.mem_range.1 hf)]
theorem qvN {n i:Nat} {o p:Nat->Rat} {x:Rat} (hx:p i=x) (hp:∀ f,f≠i->p f=o f):(flo n o).set i (canQ x)=flo n p:=by
 apply List.ext_getElem?;intro f;rw[List.getElem?_set];by_cases hf:f<n
 · rw [qe9 _ hf, qe9 _ hf, qa2];by_cases e:i=f
   · rw[if_pos e,if_pos (by omega),<- e,hx]
   · rw[if_neg e,hp f (fun h=>e h.symm)]
 · have h1 : (flo n o)[f]? = none := List.getElem?_eq_none (by rw [qa2]; omega);have h2:(flo n p)[f]?=none:=List.getElem?_eq_none (by rw[qa2];omega);rw[h1,h2];split
   · rw[if_neg (by rw[qa2];omega)]
   · rfl
def whyR (b:Bool) (m:qaq) (row:List CELL):Int:=if b then (if (row.length:Int)=m.1 then 0 else 14) else 1
theorem qyy {b:Bool} {m:qaq} (h:qcw m=some b) (row:List CELL):qb4 m row=some (whyR b m row)/\qex m row=some (whyR b m row):=by
 have:qdw m row=some (whyR b m row):=by
  rw[qdw,h,bS0,whyR];cases b with
  | false=>rfl
  | true =>
   rw[Bool.not_true,cond_false,if_pos rfl];by_cases e:(row.length:Int)=m.1
   · rw[decide_eq_true e,if_pos e];rfl
   · rw[decide_eq_false e,if_neg e];rfl
 exact⟨by rw[qb4,this];rfl,this⟩
theorem qgp {f:Nat->Rat} {n:Nat} (h:∀ i,i<n->f i=0):rsum f n=0:=by
 induction n with
 | zero=>rfl
 | succ n ih=>rw[rsum,ih fun i hi=>h i (by omega),h n (by omega),Rat.add_zero]
theorem qcy {S f:Nat} (h:S.testBit f=false):∀ j,(S+2 ^ f).testBit j=(decide (j=f) || S.testBit j):=by
 induction f generalizing S with
 | zero =>
  intro j;have h0:S % 2=0:=by rw[Nat.testBit_zero] at h;simpa using h
  cases j with
  | zero=>rw[Nat.testBit_zero];simp;omega
  | succ j =>
   rw[Nat.testBit_succ,Nat.testBit_succ,show(S+2 ^ 0)/2=S/2 by omega];simp
 | succ f ih =>
  intro j;rw[Nat.testBit_succ] at h;have e1:(S+2 ^ (f+1))/2=S/2+2 ^ f:=by rw[Nat.pow_succ];omega
  have e2:(S+2 ^ (f+1)) % 2=S % 2:=by rw[Nat.pow_succ];omega
  cases j with
  | zero=>rw[Nat.testBit_zero,Nat.testBit_zero,e2];simp
  | succ j =>
   rw[Nat.testBit_succ,Nat.testBit_succ,e1,ih h];simp
theorem quq {S f n:Nat} (h:S.testBit f=false) (hS:S<2 ^ n) (hf:f<n):S+2 ^ f<2 ^ n:=by
 refine Nat.lt_pow_two_of_testBit _ fun i hi=>?_
 rw[qcy h,decide_eq_false (by omega),Bool.false_or];exact Nat.testBit_lt_two_pow (Nat.lt_of_lt_of_le hS (Nat.pow_le_pow_right (by decide) hi))
def popc:Nat->Nat->Nat
 | 0,_=>0
 | n+1,S=>popc n S+(if S.testBit n then 1 else 0)
theorem qyT (n S:Nat):popc n S<=n:=by
 induction n with
 | zero=>exact Nat.le_refl _
 | succ n ih=>rw[popc];split<;>omega
theorem qtC {n S S':Nat} (h:∀ j,j<n->S.testBit j=S'.testBit j):popc n S=popc n S':=by
 induction n with
 | zero=>rfl
 | succ n ih=>rw[popc,popc,ih fun j hj=>h j (by omega),h n (by omega)]
theorem qtw (f:Nat->Rat) (a b:Nat):rsum f (a+b)=rsum f a+rsum (fun i=>f (i+a)) b:=by
 induction b with
 | zero=>simp [rsum,Rat.add_zero]
 | succ b ih=>rw[<- Nat.add_assoc,rsum,ih,rsum,Rat.add_assoc,Nat.add_comm a b]
theorem qrB {f g:Nat->Rat} {n:Nat} (h:∀ i,i<n->f i=g i):qh1 f n=qh1 g n:=by
 induction n with
 | zero=>rfl
 | succ n ih=>rw[qh1,qh1,ih fun i hi=>h i (by omega),h n (by omega)]
abbrev BA:=Rat×Rat
def pick (x:BA) (b:Bool):Rat:=if b then x.2 else x.1
def EE:List BA->(Nat->Rat)->Rat
 | [],c=>c 0
 | x::L,c=>x.1*EE L c+x.2*EE L fun k=>c (k+1)
theorem qpH {L:List BA}:∀ {c d:Nat->Rat},(∀ k,k<=L.length->c k=d k)->EE L c=EE L d:=by
 induction L with
 | nil=>intro c d h;exact h 0 (Nat.le_refl _)
 | cons x L ih =>
  intro c d h;rw[EE,EE,ih fun k hk=>h k (by simp only[List.length_cons];omega),ih fun k hk=>h (k+1) (by simp only[List.length_cons];omega)]
theorem qAv {L:List BA}:∀ {c d:Nat->Rat},EE L (fun k=>c k+d k)=EE L c+EE L d:=by
 induction L with
 | nil=>intro c d;rfl
 | cons x L ih=>intro c d;rw[EE,EE,EE,ih,ih];grind
theorem qAu {L:List BA}:∀ {c:Nat->Rat} {q:Rat},EE L (fun k=>q*c k)=q*EE L c:=by
 induction L with
 | nil=>intro c q;rfl
 | cons x L ih=>intro c q;rw[EE,EE,ih,ih];grind
theorem qss {L M:List BA} (h:L.Perm M):∀ c,EE L c=EE M c:=by
 induction h with
 | nil=>intro c;rfl
 | cons x _ ih=>intro c;rw[EE,EE,ih,ih]
 | swap x y L=>intro c;simp only[EE];grind
 | trans _ _ ih1 ih2=>intro c;rw[ih1,ih2]
theorem qAr {L:List BA} {x:BA}:∀ c,EE (x::L) c=EE (L++[x]) c:=fun c=>qss (by
 have:=(List.perm_append_comm (l₁:=[x]) (l₂:=L));simpa using this) c
theorem qAs (L:List BA) (c:Nat->Rat):EE ((1,1)::L) c=EE L fun k=>c k+c (k+1):=by
 rw[EE,qAv];grind
theorem qAt (L:List BA) (c:Nat->Rat):EE ((1,0)::L) c=EE L c:=by rw[EE];grind
theorem qwQ (g:Nat->BA) (n:Nat):∀ c:Nat->Rat,rsum (fun S=>c (popc n S)*qh1 (fun j=>pick (g j) (S.testBit j)) n) (2 ^ n)=EE ((List.range n).map g) c:=by
 induction n with
 | zero=>intro c;simp [rsum,popc,qh1,EE,Rat.mul_one,Rat.zero_add]
 | succ n ih =>
  intro c;have hb:∀ S,S<2 ^ n->S.testBit n=false:=fun S hS=>Nat.testBit_lt_two_pow hS
  have e1:rsum (fun S=>c (popc (n+1) S)*qh1 (fun j=>pick (g j) (S.testBit j)) (n+1)) (2 ^ n)=(g n).1*rsum (fun S=>c (popc n S)*qh1 (fun j=>pick (g j) (S.testBit j)) n) (2 ^ n):=by
   rw[Rat.mul_comm (g n).1,<- qjA];refine qbh fun S hS=>?_
   rw[popc,qh1,hb S hS,if_neg (by decide),Nat.add_zero,pick,if_neg (by decide)];grind
  have e2:rsum (fun S=>c (popc (n+1) (S+2 ^ n))*qh1 (fun j=>pick (g j) ((S+2 ^ n).testBit j)) (n+1)) (2 ^ n)=(g n).2*rsum (fun S=>c (popc n S+1)*qh1 (fun j=>pick (g j) (S.testBit j)) n) (2 ^ n):=by
   rw[Rat.mul_comm (g n).2,<- qjA];refine qbh fun S hS=>?_
   have hj:=qcy (hb S hS);have hp:popc n (S+2 ^ n)=popc n S:=qtC fun j hj'=>by rw[hj j,decide_eq_false (by omega),Bool.false_or]
   have hr:qh1 (fun j=>pick (g j) ((S+2 ^ n).testBit j)) n=qh1 (fun j=>pick (g j) (S.testBit j)) n:=qrB fun j hj'=>by rw[hj j,decide_eq_false (by omega),Bool.false_or]
   rw[popc,qh1,hp,hr,hj n,decide_eq_true rfl,Bool.true_or,if_pos rfl,pick,if_pos rfl];grind
  rw[Nat.pow_succ,Nat.mul_two,qtw,e1,e2,ih c,ih fun k=>c (k+1),List.range_succ,List.map_append];show _=EE (_++[g n]) c;rw[<- qAr,EE]
theorem qx6 {k n:Nat} (h:k<n):wq k (n+1)+wq (k+1) (n+1)=wq k n:=by
 unfold wq quo;have e1:n+1-k-1=(n-k-1)+1:=by omega
 have e2:n+1-(k+1)-1=n-k-1:=by omega
 rw[e1,e2];obtain⟨j,hj⟩:∃ j,j=n-k-1:=⟨_,rfl⟩;rw[<- hj];have hn:((n:Nat):Rat)=(j:Rat)+(k:Rat)+1:=by
  have:n=j+k+1:=by omega
  rw[this];push_cast;rfl
 have f1:((fac (j+1):Nat):Rat)=((j:Rat)+1)*((fac j:Nat):Rat):=by rw[fac];push_cast;rfl
 have f2:((fac (k+1):Nat):Rat)=((k:Rat)+1)*((fac k:Nat):Rat):=by rw[fac];push_cast;rfl
 have f3:((fac (n+1):Nat):Rat)=((n:Rat)+1)*((fac n:Nat):Rat):=by rw[fac];push_cast;rfl
 have p1:((fac n:Nat):Rat)≠0:=by
  have:=qvR n;intro e;have:(fac n:Nat)=0:=by exact_mod_cast e
  omega
 have p2:(n:Rat)+1≠0:=by
  intro e;have:((n+1:Nat):Rat)=0:=by push_cast;exact e
  have:(n+1:Nat)=0:=by exact_mod_cast this
  omega
 rw[f1,f2,f3];obtain⟨a,ha⟩:∃ a,a=((fac k:Nat):Rat):=⟨_,rfl⟩;obtain⟨b,hb⟩:∃ b,b=((fac j:Nat):Rat):=⟨_,rfl⟩;obtain⟨d,hd⟩:∃ d,d=((fac n:Nat):Rat):=⟨_,rfl⟩;obtain⟨x,hx⟩:∃ x,x=(j:Rat):=⟨_,rfl⟩;obtain⟨y,hy⟩:∃ y,y=(k:Rat):=⟨_,rfl⟩;rw[<- hd] at p1 ⊢;rw[hn,<- hx,<- hy] at p2;rw[hn,<- ha,<- hb,<- hx,<- hy]
 grind
theorem qx1 (L:List BA) (d:Nat):EE (List.replicate d (1,1)++L) (fun k=>wq k (L.length+1+d))=EE L fun k=>wq k (L.length+1):=by
 induction d with
 | zero=>rfl
 | succ d ih =>
  rw[List.replicate_succ,List.cons_append,qAs,<- ih];refine qpH fun k hk=>?_
  simp only[List.length_append,List.length_replicate] at hk;exact qx6 (k:=k) (n:=L.length+1+d) (by omega)
def qru (v:Nat->Rat) (n f S:Nat):Rat:=if S.testBit f then 0 else wq (popc n S) n*(v (S+2 ^ f)-v S)
def qjJ (v:Nat->Rat) (n f:Nat):Rat:=rsum (qru v n f) (2 ^ n)
theorem qrv {v w:Nat->Rat} {n f:Nat} (hf:f<n) (h:∀ S,S<2 ^ n->v S=w S):qjJ v n f=qjJ w n f:=by
 refine qbh fun S hS=>?_
 unfold qru;cases hb:S.testBit f with
 | true=>rfl
 | false=>rw[if_neg (by decide),if_neg (by decide),h S hS,h _ (quq hb hS hf)]
theorem qkv (f g:Nat->Rat) (n:Nat):rsum (fun i=>f i+g i) n=rsum f n+rsum g n:=by
 induction n with
 | zero=>simp [rsum,Rat.add_zero]
 | succ n ih=>rw[rsum,rsum,rsum,ih];grind
theorem quX (v:Nat->Rat) (n f:Nat) (q:Rat):qjJ (fun S=>v S*q) n f=qjJ v n f*q:=by
 unfold qjJ;rw[<- qjA];refine qbh fun S _=>?_
 unfold qru;split
 · rw[Rat.zero_mul]
 · grind
abbrev FP:=Nat×BA
def lkG:List FP->Nat->BA
 | [],_=>(1,1)
 | p::P,j=>if p.1=j then p.2 else lkG P j
theorem qy9 {P:List FP} {j:Nat} (h:j ∉ P.map (·.1)):lkG P j=(1,1):=by
 induction P with
 | nil=>rfl
 | cons p P ih =>
  simp only[List.map_cons,List.mem_cons,not_or] at h;rw[lkG,if_neg (fun e=>h.1 e.symm),ih h.2]
theorem qza {P:List FP} (hnd:(P.map (·.1)).Nodup):(P.map (·.1)).map (lkG P)=P.map (·.2):=by
 induction P with
 | nil=>rfl
 | cons p P ih =>
  have h:=List.nodup_cons.1 hnd;have ih:=ih h.2;simp only[List.map_cons,lkG,if_true,List.cons.injEq,true_and];rw[<- ih];refine List.map_congr_left fun j hj=>?_
  exact if_neg (fun e=>h.1 (by subst e;exact hj))
theorem qtB {n:Nat} {F:List Nat} (hnd:F.Nodup) (hlt:∀ j∈F,j<n):∃ R:List Nat,(List.range n).Perm (F++R)/\∀ j∈R,j ∉ F:=by
 refine⟨(List.range n).filter fun j=>!F.contains j,?_,fun j hj=>by simpa using (List.mem_filter.1 hj).2⟩;refine(List.perm_ext_iff_of_nodup List.nodup_range ?_).2 fun a=>?_
 · refine List.nodup_append.2 ⟨hnd, List.Nodup.sublist List.filter_sublist List.nodup_range, fun a ha b hb e => ?_⟩;subst e;have:=(List.mem_filter.1 hb).2;simp at this;exact this ha
 · simp only [List.mem_append, List.mem_filter, List.mem_range];constructor
   · intro h;by_cases ha:a∈F
     · exact .inl ha
     · exact .inr ⟨h,by simpa using ha⟩
   · rintro (h | h)
     · exact hlt a h
     · exact h.1
theorem qoo {a b:List Rat} (h:a.Perm b):qgf a=qgf b:=by
 induction h with
 | nil=>rfl
 | cons x _ ih=>rw[qgf,qgf,ih]
 | swap x y l=>simp only[qgf];grind
 | trans _ _ h1 h2=>rw[h1,h2]
theorem qrA (h:Nat->Rat) (n:Nat):qh1 h n=qgf ((List.range n).map h):=by
 induction n with
 | zero=>rfl
 | succ n ih=>rw[qh1,ih,List.range_succ,List.map_append,qmm];simp [qgf,Rat.mul_one]
theorem qt1 {l:List Rat} (h:∀ x∈l,x=1):qgf l=1:=by
 induction l with
 | nil=>rfl
 | cons x l ih=>rw[qgf,h x List.mem_cons_self,ih fun y hy=>h y (List.mem_cons_of_mem _ hy),Rat.mul_one]
def qj0 (P:List FP) (S:Nat):Rat:=qgf (P.map fun p=>pick p.2 (S.testBit p.1))
theorem quV {n f:Nat} {x:BA} {P:List FP} (hf:f<n) (hnd:(P.map (·.1)).Nodup) (hlt:∀ p∈P,p.1<n) (hnf:f ∉ P.map (·.1)) :
  qjJ (fun S=>pick x (S.testBit f)*qj0 P S) n f=(x.2-x.1)*EE (P.map (·.2)) fun k=>wq k (P.length+1):=by
 obtain⟨R,hR,hRF⟩:=qtB (n:=n) (F:=f::P.map (·.1)) (List.nodup_cons.2 ⟨hnf,hnd⟩) (fun j hj=>by
  rcases List.mem_cons.1 hj with rfl | hj
  · exact hf
  · obtain⟨p,hp,rfl⟩:=List.mem_map.1 hj;exact hlt p hp)
 obtain⟨g,hg⟩:∃ g:Nat->BA,g=fun j=>if j=f then (1,0) else lkG P j:=⟨_,rfl⟩
 have gf:g f=(1,0):=by rw[hg];exact if_pos rfl
 have gP:(P.map (·.1)).map g=P.map (·.2):=by
  rw[<- qza hnd];refine List.map_congr_left fun j hj=>?_
  rw[hg];exact if_neg fun e=>hnf (by rw[<- e];exact hj)
 have gR:∀ j∈R,g j=(1,1):=fun j hj=>by
  have:=hRF j hj;simp only[List.mem_cons,not_or] at this;rw[hg];show(if j=f then _ else _)=_;rw[if_neg this.1,qy9 this.2]
 have hlen:n=P.length+1+R.length:=by
  have:=hR.length_eq;simp only[List.length_range,List.length_append,List.length_cons,List.length_map] at this;omega
 have hprod:∀ S,qh1 (fun j=>pick (g j) (S.testBit j)) n=if S.testBit f then 0 else qj0 P S:=fun S=>by
  rw[qrA,qoo (hR.map _),List.map_append,qmm,List.map_cons,qgf,gf,qt1 (l:=R.map _) (fun y hy=>by
    obtain⟨j,hj,rfl⟩:=List.mem_map.1 hy;rw[gR j hj];unfold pick;split<;>rfl)]
  have e:((P.map (·.1)).map fun j=>pick (g j) (S.testBit j))=P.map fun p=>pick p.2 (S.testBit p.1):=by
    rw[List.map_map];refine List.map_congr_left fun p hp=>?_
    show pick (g p.1) _=_;have:g p.1=p.2:=by
     obtain⟨i,hi,rfl⟩:=List.mem_iff_getElem.1 hp;have:=congrArg (fun l=>l[i]?) gP;simp only[List.getElem?_map,gE0 hi,Option.map_some,Option.some.injEq] at this;exact this
    rw[this]
  rw[e];unfold pick qj0;split
  · simp [Rat.zero_mul]
  · simp [Rat.one_mul,Rat.mul_one];rfl
 have hsum:qjJ (fun S=>pick x (S.testBit f)*qj0 P S) n f=(x.2-x.1)*rsum (fun S=>wq (popc n S) n*qh1 (fun j=>pick (g j) (S.testBit j)) n) (2 ^ n):=by
  unfold qjJ;rw[Rat.mul_comm,<- qjA];refine qbh fun S hS=>?_
  rw[hprod];unfold qru;cases hb:S.testBit f with
  | true=>simp [Rat.mul_zero,Rat.zero_mul]
  | false =>
    have hb':=qcy hb;have e1:qj0 P (S+2 ^ f)=qj0 P S:=by
     unfold qj0;congr 1;refine List.map_congr_left fun p hp=>?_
     rw[hb' p.1,decide_eq_false (fun e=>hnf (List.mem_map.2 ⟨p,hp,e⟩)),Bool.false_or]
    dsimp only;rw[if_neg (by decide),if_neg (by decide),e1,hb' f,decide_eq_true rfl,Bool.true_or];simp only[pick,if_true,Bool.false_eq_true,if_false]
    grind
 have hss:=qwQ g n fun k=>wq k n
 rw[hsum,hss];congr 1;have hp2:((List.range n).map g).Perm ((1,0)::(List.replicate R.length (1,1)++P.map (·.2))):=by
  refine(hR.map g).trans ?_;rw[List.map_append,List.map_cons,gf,gP,List.cons_append];have:R.map g=List.replicate R.length (1,1):=by
    rw[List.eq_replicate_iff];exact⟨by simp,fun y hy=>by obtain⟨j,hj,rfl⟩:=List.mem_map.1 hy;exact gR j hj⟩
  rw[this];exact List.Perm.cons _ List.perm_append_comm
 rw[qss hp2,qAt];have:=qx1 (P.map (·.2)) R.length;rw[List.length_map] at this;rw[<- this,<- hlen]
theorem quW {n f:Nat} {P:List FP} (hnf:f ∉ P.map (·.1)):qjJ (qj0 P) n f=0:=by
 unfold qjJ;refine qgp fun S _=>?_
 unfold qru;cases hb:S.testBit f with
 | true=>rfl
 | false =>
  have e1:qj0 P (S+2 ^ f)=qj0 P S:=by
   unfold qj0;congr 1;refine List.map_congr_left fun p hp=>?_
   rw[qcy hb p.1,decide_eq_false (fun e=>hnf (List.mem_map.2 ⟨p,hp,e⟩)),Bool.false_or]
  rw[if_neg (by decide),e1];grind
def askT (t:List NODE) (f:Nat):Bool:=t.any fun n=>!n.1&&decide (n.2.1=(f:Int))
def qpM (m:qaq) (f:Nat):Bool:=m.2.any fun t=>askT t f
def qmY (m:qaq):List Bool:=(List.range m.1.toNat).map (qpM m)
theorem quE (m:qaq):(qmY m).length=m.1.toNat:=by simp [qmY]
theorem quF {m:qaq} {f:Nat} (h:f<m.1.toNat):(qmY m)[f]?=some (qpM m f):=by simp [qmY,h]
theorem qzC {m:qaq} (hv:qcw m=some true) (hg:Good m):qgo m=some (qmY m):=by
 obtain⟨f0,f1,f2,f3⟩:=hg.1;have hc:(decide (0<=m.1)&&(decide (m.1<=64)&&(decide (m.2.length<=64)&&m.2.all fun t=>decide (t.length<=255)&&t.all fun n=>n.1 || (decide (0<=n.2.1)&&decide (n.2.1<m.1)))))=true:=by
  simp only[Bool.and_eq_true,decide_eq_true_eq,List.all_eq_true,Bool.or_eq_true];refine⟨f0,f1,f2,fun t ht=>?_⟩;obtain⟨i,hi,rfl⟩:=List.mem_iff_getElem.1 ht;refine⟨(f3 i hi).2.1,fun n hn=>?_⟩;obtain⟨j,hj,rfl⟩:=List.mem_iff_getElem.1 hn;cases hl:qgN m.2[i][j] with
  | true=>exact .inl hl
  | false =>
   have:=hg.ranges hi j hj hl;exact .inr ⟨this.1,this.2.1⟩
 rw[qgo,hv,bS0,Bool.not_true,cond_false,hc,cond_true];rfl
theorem qoO {t:List NODE} {g:Int} {i f:Nat} {l r:TR} (h:Is t g (.split i l r)) (ha:askT t f=false):(qb3 (qcd t i)).toNat≠f:=by
 obtain⟨h1,h2,f0,f1,_⟩:=h;intro e;rw[qc6 h1] at e;have:askT t f=true:=by
  rw[askT,List.any_eq_true];refine⟨t[i],gM0 h1,?_⟩;have h2:t[i].1=false:=h2;have e2:t[i].2.1=(f:Int):=by show qb3 t[i]=_;omega
  rw[h2,decide_eq_true e2];rfl
 rw[ha] at this;cases this
theorem qrr {m:qaq} {f:Nat} (h:qpM m f=false) {t:List NODE} (ht:t∈m.2):askT t f=false:=by
 rw[qpM,List.any_eq_false] at h;simpa using h t ht
def one0 (b:Bool):Rat:=if b then 1 else 0
def mulF (x:BA) (P:Nat->Rat) (k:Nat):Rat:=x.1*P k+(if k=0 then 0 else x.2*P (k-1))
def polF:List BA->Nat->Rat
 | []=>fun k=>if k=0 then 1 else 0
 | x::L=>mulF x (polF L)
theorem qu9 (L:List BA):∀ k,polF L k=EE L fun j=>if j=k then 1 else 0:=by
 induction L with
 | nil => intro k; show (if k = 0 then (1 : Rat) else 0) = if 0 = k then 1 else 0
          by_cases h:k=0
          · subst h;rfl
          · rw[if_neg h,if_neg (fun e=>h e.symm)]
 | cons x L ih =>
  intro k;show mulF x (polF L) k=_;rw[mulF,EE,ih];congr 1;by_cases h:k=0
  · subst h;rw[if_pos rfl];have:EE L (fun j=>if j+1=0 then (1:Rat) else 0)=EE L fun j=>0*0:=qpH fun j _=>by rw[if_neg (by omega),Rat.mul_zero]
    rw[this,qAu,Rat.zero_mul,Rat.mul_zero]
  · rw [if_neg h, ih];congr 1;refine qpH fun j _=>?_
    by_cases e:j=k-1
    · rw[if_pos e,if_pos (by omega)]
    · rw[if_neg e,if_neg (by omega)]
theorem qsN (L:List BA):∀ k,L.length+1<=k->polF L k=0:=by
 induction L with
 | nil=>intro k h;exact if_neg (by simp at h;omega)
 | cons x L ih =>
  intro k h;simp only[List.length_cons] at h;show mulF x (polF L) k=0;rw[mulF,ih k (by omega),if_neg (by omega),ih (k-1) (by omega),Rat.mul_zero,Rat.mul_zero,Rat.add_zero]
theorem qu8 {L M:List BA} (h:L.Perm M):polF L=polF M:=by
 funext k;rw[qu9,qu9];exact qss h _
theorem qtx (f:Nat->Rat) (n:Nat):rsum f (n+1)=f 0+rsum (fun i=>f (i+1)) n:=by
 induction n with
 | zero=>simp [rsum,Rat.add_zero,Rat.zero_add]
 | succ n ih=>rw[rsum,ih,rsum,Rat.add_assoc]
theorem qwT {f:Nat->Rat} {n m:Nat} (h:∀ i,n<=i->f i=0) (hm:n<=m):rsum f m=rsum f n:=by
 induction m with
 | zero => have : n = 0 := by omega
           subst this;rfl
 | succ m ih =>
  by_cases e:n=m+1
  · rw[e]
  · rw[rsum,h m (by omega),ih (by omega),Rat.add_zero]
theorem qzJ (L:List BA):∀ c,EE L c=rsum (fun j=>polF L j*c j) (L.length+1):=by
 induction L with
 | nil=>intro c;show c 0=0+1*c 0;rw[Rat.one_mul,Rat.zero_add]
 | cons x L ih =>
  intro c;have e1:rsum (fun j=>polF (x::L) j*c j) ((x::L).length+1)=x.1*rsum (fun j=>polF L j*c j) (L.length+1)+x.2*rsum (fun j=>polF L j*c (j+1)) (L.length+1):=by
   have a:∀ j,polF (x::L) j*c j=(polF L j*c j)*x.1+(if j=0 then 0 else polF L (j-1)*c j)*x.2:=fun j=>by
    show mulF x (polF L) j*c j=_;rw[mulF];split<;>grind
   have b:rsum (fun j=>polF (x::L) j*c j) (L.length+2)=rsum (fun j=>(polF L j*c j)*x.1+(if j=0 then 0 else polF L (j-1)*c j)*x.2) (L.length+2):=qbh fun j _=>a j
   show rsum _ (L.length+2)=_;rw[b,qkv,qjA,qjA];have e2:rsum (fun j=>polF L j*c j) (L.length+2)=rsum (fun j=>polF L j*c j) (L.length+1):=qwT (fun j hj=>by rw[qsN L j hj,Rat.zero_mul]) (by omega);have e3:rsum (fun j=>if j=0 then 0 else polF L (j-1)*c j) (L.length+2)=rsum (fun j=>polF L j*c (j+1)) (L.length+1):=by
    rw[qtx,if_pos rfl,Rat.zero_add];exact qbh fun j _=>by rw[if_neg (by omega),Nat.add_sub_cancel]
   rw[e2,e3];grind
  rw[e1,EE,ih,ih]
theorem qlu {n:Nat} (h:0<n):((n:Nat):Rat)≠0:=by
 intro e;have:(n:Nat)=0:=by exact_mod_cast e
 omega
theorem qoI {i n:Nat} (h:i<n):wq i (n+1)=wq i n*(((n-i:Nat):Rat)/((n+1:Nat):Rat)):=by
 obtain⟨j,rfl⟩:∃ j,n=i+j+1:=⟨n-i-1,by omega⟩;have e1:i+j+1+1-i-1=j+1:=by omega
 have e2:i+j+1-i-1=j:=by omega
 have e3:i+j+1-i=j+1:=by omega
 have a1:((fac (j+1):Nat):Rat)=((j+1:Nat):Rat)*((fac j:Nat):Rat):=by rw[fac];push_cast;rfl
 have a2:((fac (i+j+1+1):Nat):Rat)=((i+j+1+1:Nat):Rat)*((fac (i+j+1):Nat):Rat):=by rw[fac];push_cast;rfl
 have n1:=qlu (qvR (i+j+1));have n2:=qlu (show 0<i+j+1+1 by omega);simp only[wq,quo];rw[e1,e2,e3,a1,a2];generalize ((fac i:Nat):Rat)=x;generalize ((fac j:Nat):Rat)=y;generalize ((fac (i+j+1):Nat):Rat)=z at *;generalize ((j+1:Nat):Rat)=u;generalize ((i+j+1+1:Nat):Rat)=v at *;rw[Rat.div_def,Rat.div_def,Rat.div_def,Rat.inv_mul_rev]
 grind
theorem quv {i n:Nat} (h:i<n):wq (i+1) (n+1)=wq i n*(((i+1:Nat):Rat)/((n+1:Nat):Rat)):=by
 obtain⟨j,rfl⟩:∃ j,n=i+j+1:=⟨n-i-1,by omega⟩;have e1:i+j+1+1-(i+1)-1=j:=by omega
 have e2:i+j+1-i-1=j:=by omega
 have a1:((fac (i+1):Nat):Rat)=((i+1:Nat):Rat)*((fac i:Nat):Rat):=by rw[fac];push_cast;rfl
 have a2:((fac (i+j+1+1):Nat):Rat)=((i+j+1+1:Nat):Rat)*((fac (i+j+1):Nat):Rat):=by rw[fac];push_cast;rfl
 simp only[wq,quo];rw[e1,e2,a1,a2];generalize ((fac i:Nat):Rat)=x;generalize ((fac j:Nat):Rat)=y;generalize ((fac (i+j+1):Nat):Rat)=z at *;generalize ((i+1:Nat):Rat)=u;generalize ((i+j+1+1:Nat):Rat)=v at *;rw[Rat.div_def,Rat.div_def,Rat.div_def,Rat.inv_mul_rev]
 grind
def fcP (p:AP):BA:=(p.2.1,one0 p.2.2)
def ekP (P:List AP):Nat->Rat:=polF (P.map fcP)
def wtP (P:List AP) (k:Nat):Rat:=wq k (P.length+1)*ekP P k
theorem qs9 {P Q:List AP} (h:P.Perm Q):ekP P=ekP Q:=qu8 (h.map fcP)
theorem qxB (P:List AP) (p:AP):ekP (P++[p])=mulF (fcP p) (ekP P):=by
 have:(P++[p]).Perm (p::P):=List.perm_append_comm.trans (List.Perm.refl _);rw[qs9 this];rfl
theorem qvW (P:List AP) {k:Nat} (h:P.length<k):ekP P k=0:=qsN _ k (by simp;omega)
theorem qyx:wtP [] 0=1:=by
 show wq 0 1*1=1;rw[Rat.mul_one];decide +kernel
abbrev LK:=Int×RAT×CELL
def lkF (P:List AP) (w:Nat->Rat) (i:Nat):LK :=
 if i=0 then (-1,canQ 1,true,canQ (w 0)) else
  let p:=(P[i-1]?).getD (0,0,false)
  ((p.1:Int),canQ p.2.1,p.2.2,canQ (w i))
def encK (P:List AP) (w:Nat->Rat):List LK:=(List.range (P.length+1)).map (lkF P w)
theorem qcK (P:List AP) (w:Nat->Rat):(encK P w).length=P.length+1:=by simp [encK]
theorem qcx {P:List AP} {w:Nat->Rat} {i:Nat} (h:i<P.length+1):(encK P w)[i]?=some (lkF P w i):=by simp [encK,h]
theorem qfv {P:List AP} {w w':Nat->Rat} (h:∀ i,i<=P.length->w i=w' i):encK P w=encK P w':=by
 refine List.map_congr_left fun i hi=>?_
 have hi:=List.mem_range.1 hi;unfold lkF;split
 · rename_i e;subst e;rw[h 0 (by omega)]
 · rw[h i (by omega)]
theorem qvp (P:List AP) (w:Nat->Rat) (i:Nat):(lkF P w i).2.2.2=canQ (w i):=by
 unfold lkF;split
 · rename_i e;subst e;rfl
 · rfl
theorem qzb (P:List AP) (w:Nat->Rat) (i:Nat) (q:Rat):((lkF P w i).1,(lkF P w i).2.1,(lkF P w i).2.2.1,canQ q)=lkF P (fun j=>if j=i then q else w j) i:=by
 unfold lkF;split
 · rename_i e;subst e;simp
 · simp
theorem qmF {P:List AP} {w:Nat->Rat} {i:Nat} (q:Rat):(encK P w).set i ((lkF P w i).1,(lkF P w i).2.1,(lkF P w i).2.2.1,canQ q)=encK P fun j=>if j=i then q else w j:=by
 rw[qzb];refine List.ext_getElem? fun j=>?_
 rw[List.getElem?_set];by_cases e:i=j
 · subst e;rw[if_pos rfl];by_cases hi:i<P.length+1
   · rw[if_pos (by rw[qcK];exact hi),qcx hi]
   · rw[if_neg (by rw[qcK];exact hi),List.getElem?_eq_none (by rw[qcK];omega)]
 · rw [if_neg e];by_cases hj:j<P.length+1
   · rw [qcx hj, qcx hj];have:(if j=i then q else w j)=w j:=if_neg fun h=>e h.symm
     unfold lkF;split
     · rename_i e0;subst e0;simp only[this]
     · simp only[this]
   · rw[List.getElem?_eq_none (by rw[qcK];omega),List.getElem?_eq_none (by rw[qcK];omega)]
theorem qkT {P:List AP} {w:Nat->Rat} {i:Nat} (h:i<P.length):lkF P w (i+1)=((P[i].1:Int),canQ P[i].2.1,P[i].2.2,canQ (w (i+1))):=by
 simp [lkF,gE0 h]
theorem qvV (P:List AP) (w:Nat->Rat) (p:AP) (q:Rat):encK P w++[((p.1:Int),canQ p.2.1,p.2.2,canQ q)]=encK (P++[p]) fun j=>if j=P.length+1 then q else w j:=by
 have e:encK (P++[p]) (fun j=>if j=P.length+1 then q else w j)=(List.range (P.length+1)).map (lkF (P++[p]) fun j=>if j=P.length+1 then q else w j)++[lkF (P++[p]) (fun j=>if j=P.length+1 then q else w j) (P.length+1)]:=by
   unfold encK;rw[List.length_append,List.length_singleton,List.range_succ,List.map_append];rfl
 rw[e];congr 1
 · refine List.map_congr_left fun i hi => ?_
   have hi:=List.mem_range.1 hi;unfold lkF;split
   · rename_i e;subst e;simp
   · have : ¬ i = P.length + 1 := by omega
     rw[List.getElem?_append_left (by omega)];simp only[if_neg this]
 · simp [lkF]
structure qfw (P:List AP) (k g:Nat):Prop where
 nd:(P.map (·.1)).Nodup
 sz:ASz P k
 len:P.length<=20
 lt:∀ p∈P,p.1<g
 pos:∀ p∈P,0<p.2.1
theorem qxU:qfE=some (encK [] (wtP [])):=by
 rw[qfE,qiS,bS0,bS0];show some [_]=some [lkF [] (wtP []) 0];simp only[lkF,if_true,qyx]
theorem qzI {P:List AP} {w:Nat->Rat} {f i:Nat} (hi:i<P.length) (he:P[i].1=f) (hn:∀ j (hj:j<P.length),j<i->P[j].1≠f) (hl:P.length<=1000000):qbe (f:Int) (encK P w)=some (((i+1:Nat):Int),encK P w):=by
 have el:=qcK P w;have key:=qfM (step:=qah) (fun k=>(((f:Int),((P.length+1:Nat):Int),(k:Int),()),((encK P w,()),()))) (i+1) (r:=.inr ((((i+1:Nat):Int),()),((encK P w,()),()))) (by omega) (by
  intro g k hk;have d0:(k:Int)<((P.length+1:Nat):Int):=by omega
  have d1:(0:Int)<=(k:Int):=by omega
  have d2:(k:Int)<((encK P w).length:Int):=by omega
  rw[qah,cnd d0,cnd2 d1 d2,tN0,qcx (by omega),bS0];cases k with
  | zero=>rw[cnd' (by omega),qbr (by omega)];rfl
  | succ k =>
   have hne:¬ (lkF P w (k+1)).1=(f:Int):=by
    rw[qkT (by omega)];have:=hn k (by omega) (by omega);show ¬ ((P[k].1:Nat):Int)=_;omega
   rw[cnd (by omega),cnd' hne,qbr (by omega)];rfl) (by
  intro g;have d0:((i+1:Nat):Int)<((P.length+1:Nat):Int):=by omega
  have d1:(0:Int)<=((i+1:Nat):Int):=by omega
  have d2:((i+1:Nat):Int)<((encK P w).length:Int):=by omega
  have he':(lkF P w (i+1)).1=(f:Int):=by rw[qkT hi];show((P[i].1:Nat):Int)=_;omega
  rw[qah,cnd d0,cnd2 d1 d2,tN0,qcx (by omega),bS0,cnd (by omega),cnd he'])
 have key:lp qah K0 (((f:Int),((P.length+1:Nat):Int),0,()),((encK P w,()),()))=_:=key;rw[qbe,el,key];rfl
theorem qtk {P:List AP} {w:Nat->Rat} {f:Nat} (hn:∀ p∈P,p.1≠f) (hl:P.length<=1000000):qbe (f:Int) (encK P w)=some (0,encK P w):=by
 have el:=qcK P w;have key:=qfM (step:=qah) (fun k=>(((f:Int),((P.length+1:Nat):Int),(k:Int),()),((encK P w,()),()))) (P.length+1) (r:=.inl ((),((encK P w,()),()))) (by omega) (by
  intro g k hk;have d0:(k:Int)<((P.length+1:Nat):Int):=by omega
  have d1:(0:Int)<=(k:Int):=by omega
  have d2:(k:Int)<((encK P w).length:Int):=by omega
  rw[qah,cnd d0,cnd2 d1 d2,tN0,qcx (by omega),bS0];cases k with
  | zero=>rw[cnd' (by omega),qbr (by omega)];rfl
  | succ k =>
   have hne:¬ (lkF P w (k+1)).1=(f:Int):=by
    rw[qkT (by omega)];have:=hn P[k] (gM0 (by omega));show ¬ ((P[k].1:Nat):Int)=_;omega
   rw[cnd (by omega),cnd' hne,qbr (by omega)];rfl) (by
  intro g;rw[qah,cnd' (by omega)])
 have key:lp qah K0 (((f:Int),((P.length+1:Nat):Int),0,()),((encK P w,()),()))=_:=key;rw[qbe,el,key];rfl
theorem qoE {P:List AP} {w:Nat->Rat} (hl:P.length<=1000000):qbV (encK P w)=some (encW P,encK P w):=by
 have el:=qcK P w;have key:=qfM (step:=qaw) (fun k=>((encW (P.take (k-1)),((P.length+1:Nat):Int),(k:Int),()),((encK P w,()),()))) (P.length+1) (r:=((encW P,()),((encK P w,()),()))) (by omega) (by
  intro g k hk;have d0:(k:Int)<((P.length+1:Nat):Int):=by omega
  have d1:(0:Int)<=(k:Int):=by omega
  have d2:(k:Int)<((encK P w).length:Int):=by omega
  rw[qaw,cnd d0,cnd2 d1 d2,tN0,qcx (by omega),bS0];cases k with
  | zero=>rw[cnd' (by omega),qbr (by omega)];rfl
  | succ k =>
   have hk':k<P.length:=by omega
   have e:encW (P.take (k+1))=encW (P.take k)++[((lkF P w (k+1)).1,(lkF P w (k+1)).2.1,(lkF P w (k+1)).2.2.1)]:=by
    rw[qkT hk'];exact qge encP hk'
   rw[cnd (by omega),blt (by rw[qmE,List.length_take];omega),cond_true,qbr (by omega)];show g ((encW (P.take k)++_,_,_,_),_)=g ((encW (P.take (k+1)),_,_,_),_);rw[e];rfl) (by
  intro g;rw[qaw,cnd' (by omega),Nat.add_sub_cancel,List.take_of_length_le (Nat.le_refl _)])
 have key:lp qaw K0 (([],((P.length+1:Nat):Int),0,()),((encK P w,()),()))=_:=key;rw[qbV,el,key];rfl
theorem qnA {a b:Nat} (ha:a<1000000) (hb:b<1000000):qcg (a:Int) (b:Int)=some (canQ ((a:Rat)/(b:Rat))):=by
 have:=qkG (n:=(a:Int)) (d:=(b:Int)) (by omega) (by omega) (by omega) (by omega);rw[this];rfl
theorem qlI {a b:Nat} (ha:a<1000000) (hb:b<1000000):SzQ ((a:Rat)/(b:Rat)) 2:=by
 have h:∀ {n:Nat},n<1000000->SzQ (n:Rat) 1:=fun {n} hn=>by
  have:=SzQ.int (z:=(n:Int)) (by omega);exact this
 exact(h ha).div (h hb)
theorem qvh (b:Bool):SzQ (one0 b) 1:=by cases b;exact SzQ.zero;exact SzQ.one
def ekS (k:Nat):Nat->Nat
 | 0=>1
 | n+1=>2*ekS k n+k+2
theorem qs8 (k:Nat) {n m:Nat} (h:n<=m):ekS k n<=ekS k m:=by
 induction h with
 | refl=>exact Nat.le_refl _
 | step _ ih=>simp only[ekS];omega
theorem qq0 {k n:Nat} (hk:k<=70) (hn:n<=20):ekS k n<=76546048:=by
 have h1:=qs8 k hn;have h2:ekS k 20<=ekS 70 20:=by
  have:∀ n,ekS k n<=ekS 70 n:=by
   intro n
   induction n with
   | zero=>exact Nat.le_refl _
   | succ n ih=>simp only[ekS];omega
  exact this 20
 have h3:ekS 70 20<=76546048:=by decide +kernel
 omega
theorem qym {P:List AP} {k:Nat} (h:ASz P k):∀ i,SzQ (ekP P i) (ekS k P.length):=by
 induction P with
 | nil =>
  intro i;show SzQ (if i=0 then (1:Rat) else 0) 1;split
  · exact SzQ.one
  · exact SzQ.zero
 | cons p P ih =>
  intro i;have h1:SzQ p.2.1 k:=h p List.mem_cons_self;have ih:=ih fun x hx=>h x (List.mem_cons_of_mem _ hx)
  show SzQ (mulF (fcP p) (ekP P) i) _;unfold mulF;have a:SzQ ((fcP p).1*ekP P i) (k+ekS k P.length):=h1.mul (ih i);have b:SzQ (if i=0 then 0 else (fcP p).2*ekP P (i-1)) (1+ekS k P.length):=by
    split
    · exact SzQ.zero.mono (by omega)
    · exact(qvh p.2.2).mul (ih _)
  exact(a.add b).mono (by simp only[List.length_cons,ekS];omega)
theorem qst {P:List AP} {k:Nat} (h:ASz P k) (hl:P.length<=20) {i:Nat} (hi:i<=P.length):SzQ (wtP P i) (30+ekS k P.length) :=
 (qzQ (by omega) (by omega)).mul (qym h i)
def extW (P:List AP) (p:AP) (i:Nat) (j:Nat):Rat :=
 if j<i then wtP P j else if j=i then (if j=P.length+1 then 0 else (p.2.1*wtP P j)*(((P.length+1-j:Nat):Rat)/((P.length+1+1:Nat):Rat))) else wtP (P++[p]) j
theorem qoH {P:List AP} {p:AP} {j:Nat} (hj:j<=P.length+1):wtP (P++[p]) j =
  (if j=P.length+1 then 0 else (p.2.1*wtP P j)*(((P.length+1-j:Nat):Rat)/((P.length+1+1:Nat):Rat))) +
  (if j=0 then 0 else one0 p.2.2*(wtP P (j-1)*(((j-1+1:Nat):Rat)/((P.length+1+1:Nat):Rat)))):=by
 unfold wtP;rw[qxB,mulF,List.length_append,List.length_singleton];show wq j (P.length+1+1)*(p.2.1*ekP P j+_)=_;have a:(if j=P.length+1 then (0:Rat) else (p.2.1*(wq j (P.length+1)*ekP P j))*(((P.length+1-j:Nat):Rat)/((P.length+1+1:Nat):Rat)))=wq j (P.length+1+1)*(p.2.1*ekP P j):=by
  split
  · rw[qvW P (by omega),Rat.mul_zero,Rat.mul_zero]
  · rw[qoI (i:=j) (n:=P.length+1) (by omega)];grind
 have b:(if j=0 then (0:Rat) else one0 p.2.2*(wq (j-1) (P.length+1)*ekP P (j-1)*(((j-1+1:Nat):Rat)/((P.length+1+1:Nat):Rat))))=wq j (P.length+1+1)*(if j=0 then 0 else (fcP p).2*ekP P (j-1)):=by
  split
  · rw[Rat.mul_zero]
  · have := quv (i := j - 1) (n := P.length + 1) (by omega);rw[show j-1+1=j by omega] at this;rw[this,show j-1+1=j by omega];show one0 p.2.2*_=_*(one0 p.2.2*_)
    grind
 rw[a,b];grind
theorem qrm {P:List AP} {k g:Nat} (h:qfw P k g) {f:Nat} {q:Rat} {ok:Bool} (hf:∀ p∈P,p.1≠f) (hq:SzQ q k) (hq0:0<q) (hk:k<=70) (hl:P.length<20) (hfl:f<1000000) :
  qaE (f:Int) (canQ q) ok (encK P (wtP P))=some (0,encK (P++[(f,q,ok)]) (wtP (P++[(f,q,ok)]))):=by
 obtain⟨p,ep⟩:∃ p:AP,p=(f,q,ok):=⟨_,rfl⟩;have hl2:=h.len;have el:=qcK P (wtP P);have hS:=qq0 (k:=k) (n:=P.length) hk (by omega);have wsz:∀ i,i<=P.length->SzQ (wtP P i) 100000000:=fun i hi=>(qst h.sz hl2 hi).mono (by omega)
 obtain⟨N,eN⟩:∃ N,N=P.length+1:=⟨_,rfl⟩;have hsnoc:=qvV P (wtP P) p 0;have e0:encK (P++[p]) (fun j=>if j=P.length+1 then 0 else wtP P j)=encK (P++[p]) (extW P p N):=by
  refine qfv fun j hj=>?_
  simp only[List.length_append,List.length_singleton] at hj;show(if j=P.length+1 then 0 else wtP P j)=extW P p N j;unfold extW;by_cases e:j=P.length+1
  · rw[if_pos e,if_neg (by omega),if_pos (by omega),if_pos e]
  · rw[if_neg e,if_pos (by omega)]
 have ell:∀ w,(encK (P++[p]) w).length=N+1:=fun w=>by rw[qcK,List.length_append];simp [eN]
 have pn1:iadd .i64 ((N:Nat):Int) 1=((N+1:Nat):Int):=qbr (by omega);have key:=qfM (step:=qal) (fun m=>((ok,(N:Int),((N:Nat):Int)-1-(m:Int),()),(((canQ q).1.1,(canQ q).1.2,(canQ q).2,()),(encK (P++[p]) (extW P p (N-m)),()),()))) N
  (r:=((),((encK (P++[p]) (extW P p 0),()),()))) (by omega) (by
  intro g m hm;obtain⟨i,hi⟩:∃ i,N=i+m+1:=⟨N-m-1,by omega⟩;have ei:((N:Nat):Int)-1-(m:Int)=(i:Int):=by omega
  have ei2:((N:Nat):Int)-1-((m+1:Nat):Int)=(i:Int)-1:=by omega
  have en1:N-m=i+1:=by omega
  have en2:N-(m+1)=i:=by omega
  have hiN:i<N:=by omega
  have d0:((i:Nat):Int)>=0:=by omega
  have d1:(0:Int)<=(i:Int):=by omega
  have d2:(i:Int)<((encK (P++[p]) (extW P p (i+1))).length:Int):=by rw[ell];omega
  have g1:=qcx (P:=P++[p]) (w:=extW P p (i+1)) (i:=i) (by rw[List.length_append];simp;omega);have wi:(lkF (P++[p]) (extW P p (i+1)) i).2.2.2=canQ (wtP P i):=by rw[qvp,extW,if_pos (by omega)]
  have hw:=wsz i (by omega);have q1:iadd .i64 (i:Int) 1=((i+1:Nat):Int):=qbr (by omega);have q2:isub .i64 (N:Int) (i:Int)=((N-i:Nat):Int):=by rw[qdF (by omega) (by omega)];omega
  have q3:isub .i64 (i:Int) 1=(i:Int)-1:=by rw[qdF (by omega) (by omega)]
  have f1:=qnA (a:=i+1) (b:=N+1) (by omega) (by omega);have f2:=qnA (a:=N-i) (b:=N+1) (by omega) (by omega);have s1:=qlI (a:=i+1) (b:=N+1) (by omega) (by omega);have s2:=qlI (a:=N-i) (b:=N+1) (by omega) (by omega);have m1:=qaF (hq.sm (by omega)) (hw.sm (by decide));rw[qai,qai] at m1;have m1:qap (((canQ q).1.1,(canQ q).1.2),(canQ q).2) (canQ (wtP P i))=some (canQ (q*wtP P i)):=m1;have z1:SzQ (q*wtP P i) 200000000:=(hq.mul hw).mono (by omega);have m2:=qaF (z1.sm (by decide)) (s2.sm (by decide));rw[qai,qai] at m2;have fin0:extW P p i i=q*wtP P i*(((N-i:Nat):Rat)/((N+1:Nat):Rat)):=by
    rw[extW,if_neg (by omega),if_pos rfl,if_neg (by omega),ep,eN]
  show qal g ((ok,(N:Int),((N:Nat):Int)-1-(m:Int),()),(((canQ q).1.1,(canQ q).1.2,(canQ q).2,()),(encK (P++[p]) (extW P p (N-m)),()),()))=g ((ok,(N:Int),((N:Nat):Int)-1-((m+1:Nat):Int),()),(((canQ q).1.1,(canQ q).1.2,(canQ q).2,()),(encK (P++[p]) (extW P p (N-(m+1))),()),()));rw[ei,ei2,en1,en2,qal,cnd d0,cnd2 d1 d2,tN0,g1,bS0,wi];cases hok:ok with
  | true =>
    have a1:(0:Int)<=((i+1:Nat):Int):=by omega
    have a2:((i+1:Nat):Int)<((encK (P++[p]) (extW P p (i+1))).length:Int):=by rw[ell];omega
    have g2:=qcx (P:=P++[p]) (w:=extW P p (i+1)) (i:=i+1) (by rw[List.length_append];simp;omega);have m3:=qaF (hw.sm (by decide)) (s1.sm (by decide));rw[qai,qai] at m3;have z3:SzQ (wtP P i*(((i+1:Nat):Rat)/((N+1:Nat):Rat))) 200000000:=(hw.mul s1).mono (by omega);have z4:SzQ (extW P p (i+1) (i+1)) 400000000:=by
     rw[extW,if_neg (by omega),if_pos rfl];split
     · exact SzQ.zero.mono (by decide)
     · have hw' := wsz (i + 1) (by omega);have s3:=qlI (a:=P.length+1-(i+1)) (b:=P.length+1+1) (by omega) (by omega);rw[ep];exact((hq.mul hw').mul s3).mono (by omega)
    have m4:=qdb (z4.sm (by decide)) (z3.sm (by decide));rw[qai,qai] at m4;have fin1:extW P p (i+1) (i+1)+wtP P i*(((i+1:Nat):Rat)/((N+1:Nat):Rat))=extW P p i (i+1):=by
     have hs:=qoH (P:=P) (p:=p) (j:=i+1) (by omega);rw[if_neg (show ¬ i+1=0 by omega),Nat.add_sub_cancel,show one0 p.2.2=1 by rw[ep,hok];rfl,Rat.one_mul] at hs;have e1:extW P p i (i+1)=wtP (P++[p]) (i+1):=by rw[extW,if_neg (by omega),if_neg (by omega)]
     have e2:extW P p (i+1) (i+1)=if i+1=P.length+1 then 0 else (p.2.1*wtP P (i+1))*(((P.length+1-(i+1):Nat):Rat)/((P.length+1+1:Nat):Rat)):=by rw[extW,if_neg (by omega),if_pos rfl]
     rw[e1,e2,hs,eN]
    have u1:=qmF (P:=P++[p]) (w:=extW P p (i+1)) (i:=i+1) (extW P p i (i+1));have d3:(i:Int)<(((encK (P++[p]) (fun j=>if j=i+1 then extW P p i (i+1) else extW P p (i+1) j))).length:Int):=by rw[ell];omega
    have g3:=qcx (P:=P++[p]) (w:=fun j=>if j=i+1 then extW P p i (i+1) else extW P p (i+1) j) (i:=i) (by rw[List.length_append];simp;omega);have u2:=qmF (P:=P++[p]) (w:=fun j=>if j=i+1 then extW P p i (i+1) else extW P p (i+1) j) (i:=i) (extW P p i i);rw[cond_true,q1,cnd2 a1 a2,tN0,g2,bS0,pn1,f1,bS0,m3,bS0,qvp,m4,bS0,fin1,cnd2 a1 a2,bS0,m1,bS0,q2,f2,bS0,m2,bS0,u1,cnd2 d1 d3,g3,bS0,<- fin0,u2,q3];have:encK (P++[p]) (fun j=>if j=i then extW P p i i else if j=i+1 then extW P p i (i+1) else extW P p (i+1) j)=encK (P++[p]) (extW P p i):=by
     refine qfv fun j hj=>?_
     by_cases e1:j=i
     · rw[if_pos e1,e1]
     · rw [if_neg e1];by_cases e2:j=i+1
       · rw[if_pos e2,e2]
       · rw [if_neg e2];unfold extW;by_cases e3:j<i
         · rw[if_pos (by omega),if_pos e3]
         · rw[if_neg (by omega),if_neg (by omega),if_neg (by omega),if_neg (by omega)]
    rw[this]
  | false =>
    have u2:=qmF (P:=P++[p]) (w:=extW P p (i+1)) (i:=i) (extW P p i i);rw[cond_false,m1,bS0,q2,pn1,f2,bS0,m2,bS0,cnd2 d1 d2,bS0,<- fin0,u2,q3];have:encK (P++[p]) (fun j=>if j=i then extW P p i i else extW P p (i+1) j)=encK (P++[p]) (extW P p i):=by
     refine qfv fun j hj=>?_
     simp only[List.length_append,List.length_singleton] at hj;by_cases e1:j=i
     · rw[if_pos e1,e1]
     · rw [if_neg e1];unfold extW;by_cases e3:j<i
       · rw[if_pos (by omega),if_pos e3]
       · by_cases e2 : j = i + 1
         · subst e2;have hs:=qoH (P:=P) (p:=p) (j:=i+1) (by omega);rw[show one0 p.2.2=0 by rw[ep,hok];rfl,Rat.zero_mul,if_neg (show ¬ i+1=0 by omega),Rat.add_zero] at hs
           rw[if_neg (show ¬ i+1<i+1 by omega),if_pos rfl,if_neg (show ¬ i+1<i by omega),if_neg (show ¬ i+1=i by omega),hs]
         · rw[if_neg (by omega),if_neg e2,if_neg (by omega),if_neg (by omega)]
    rw[this]) (by
  intro g;rw[Nat.sub_self,qal,cnd' (by omega)])
 have efin:encK (P++[p]) (extW P p 0)=encK (P++[p]) (wtP (P++[p])):=by
  refine qfv fun j hj=>?_
  unfold extW;rw[if_neg (by omega)];by_cases e:j=0
  · subst e;have hs:=qoH (P:=P) (p:=p) (j:=0) (by omega);rw[if_pos rfl,Rat.add_zero] at hs;rw[if_pos rfl,hs]
  · rw[if_neg e]
 rw[efin] at key;have qn:isub .i64 ((P.length+1:Nat):Int) 1=((N:Nat):Int)-1-((0:Nat):Int):=by rw[qdF (by omega) (by omega)];omega
 have c0:¬ ((P.length+1:Nat):Int)=0:=by omega
 have hsg:rcmp q 0>0:=qsK.2 hq0;have hsign:=qh3 (hq.sm (by omega));rw[qai] at hsign;have hcl:=qa3 (hq.sm (by omega));rw[qai] at hcl;rw[qaE,el,cnd' c0,cnd' (by omega),qtk hf (by omega),bS0];dsimp only;rw[cnd' (by omega),hsign,bS0,cnd' (by omega),hcl,bS0,qdZ,bS0,blt (by rw[el];omega),cond_true];have e1:encK P (wtP P)++[((f:Int),(canQ q,(ok,canQ 0)))]=encK (P++[p]) (extW P p N):=by
  rw[<- e0,<- hsnoc,ep]
 rw[e1,el,qn];have key:lp qal K0 ((ok,((P.length+1:Nat):Int),((N:Nat):Int)-1-((0:Nat):Int),()),(((canQ q).1.1,(canQ q).1.2,(canQ q).2,()),(encK (P++[p]) (extW P p N),()),()))=some ((),(encK (P++[p]) (wtP (P++[p])),()),()):=by
  rw[<- eN];exact key
 rw[key,ep];rfl
def qbq (P:List AP) (a:Nat):List AP:=P.take a++P.drop (a+1)
theorem qc5 {P:List AP} {a:Nat} (h:a<P.length):(qbq P a).length+1=P.length:=by simp [qbq];omega
theorem qhK {P:List AP} {a:Nat} (h:a<P.length):P.Perm (P[a]::qbq P a):=by
 have e:P=P.take a++P[a]::P.drop (a+1):=by rw[<- List.drop_eq_getElem_cons h,List.take_append_drop]
 have:(P.take a++P[a]::P.drop (a+1)).Perm (P[a]::(P.take a++P.drop (a+1))):=List.perm_middle;exact(List.Perm.of_eq e).trans this
theorem qnl {P:List AP} {a:Nat}:∀ p∈qbq P a,p∈P:=fun p hp=>by
 rcases List.mem_append.1 hp with h | h
 · exact List.mem_of_mem_take h
 · exact List.mem_of_mem_drop h
theorem qpw {P:List AP} {a:Nat} (h:a<P.length) (k:Nat):ekP P k=P[a].2.1*ekP (qbq P a) k+(if k=0 then 0 else one0 P[a].2.2*ekP (qbq P a) (k-1)):=by
 rw[qs9 (qhK h)];rfl
theorem qfw.out {P:List AP} {k g:Nat} (h:qfw P k g) {a:Nat} (ha:a<P.length):qfw (qbq P a) k g:=by
 have hp:=(qhK ha).map (·.1);have hn:=hp.nodup_iff.1 h.nd;exact⟨(List.nodup_cons.1 hn).2,fun p hp=>h.sz p (qnl p hp),by have:=qc5 ha;have:=h.len;omega,fun p hp=>h.lt p (qnl p hp),fun p hp=>h.pos p (qnl p hp)⟩
theorem qfw.notin {P:List AP} {k g:Nat} (h:qfw P k g) {a:Nat} (ha:a<P.length):∀ p∈qbq P a,p.1≠P[a].1:=by
 have hp:=(qhK ha).map (·.1);have hn:=List.nodup_cons.1 (hp.nodup_iff.1 h.nd);intro p hp e;exact hn.1 (List.mem_map.2 ⟨p,hp,e⟩)
theorem qzP {P:List AP} {a i:Nat} (ha:a<P.length) (hi:i<P.length) (hz:P[a].2.1≠0) (hok:P[a].2.2=false) :
  wtP P i*(((P.length+1:Nat):Rat)/((P.length-i:Nat):Rat))*P[a].2.1⁻¹=wtP (qbq P a) i:=by
 have hl:=qc5 ha;unfold wtP;rw[qpw ha,hok,qoI (i:=i) (n:=P.length) hi,show(qbq P a).length+1=P.length by omega];have n1:=qlu (show 0<P.length-i by omega);have n2:=qlu (show 0<P.length+1 by omega);generalize wq i P.length=x;generalize ekP (qbq P a) i=y;generalize ekP (qbq P a) (i-1)=y2;generalize ((P.length-i:Nat):Rat)=u at *;generalize ((P.length+1:Nat):Rat)=v at *;generalize P[a].2.1=z at *;simp only[one0,Bool.false_eq_true,if_false,Rat.zero_mul,ite_self,Rat.add_zero]
 grind
def nxP (P:List AP) (a i:Nat):Rat:=wq (i+1) (P.length+1)*ekP (qbq P a) i
theorem qy1 {P:List AP} {a i:Nat} (ha:a<P.length) (hi:i<P.length):nxP P a i*(((P.length+1:Nat):Rat)/((i+1:Nat):Rat))=wtP (qbq P a) i:=by
 have hl:=qc5 ha;unfold wtP nxP;rw[quv (i:=i) (n:=P.length) hi,show(qbq P a).length+1=P.length by omega];have n1:=qlu (show 0<i+1 by omega);have n2:=qlu (show 0<P.length+1 by omega);generalize wq i P.length=x;generalize ekP (qbq P a) i=y;generalize ((i+1:Nat):Rat)=u at *;generalize ((P.length+1:Nat):Rat)=v at *
 grind
theorem qw6 {P:List AP} {a i:Nat} (ha:a<P.length) (hi:i<P.length) (hok:P[a].2.2=true) :
  wtP P i-wtP (qbq P a) i*P[a].2.1*(((P.length-i:Nat):Rat)/((P.length+1:Nat):Rat))=if i=0 then 0 else nxP P a (i-1):=by
 have hl:=qc5 ha;unfold wtP nxP;rw[qpw ha,hok,qoI (i:=i) (n:=P.length) hi,show(qbq P a).length+1=P.length by omega];cases i with
 | zero =>
  simp only[if_true];generalize wq 0 P.length=x;generalize ekP (qbq P a) 0=y;generalize P[a].2.1=z at *
  grind
 | succ i =>
  rw[if_neg (by omega),if_neg (by omega),Nat.add_sub_cancel,qoI (i:=i+1) (n:=P.length) hi];generalize wq (i+1) P.length=x;generalize ekP (qbq P a) (i+1)=y;generalize ekP (qbq P a) i=y2;generalize P[a].2.1=z at *;simp only[one0,if_true]
  grind
theorem qy0 {P:List AP} {a:Nat} (ha:a<P.length) (hok:P[a].2.2=true):wtP P P.length=nxP P a (P.length-1):=by
 have hl:=qc5 ha;unfold wtP nxP;rw[qpw ha,hok,qvW (qbq P a) (by omega),if_neg (by omega),show P.length-1+1=P.length by omega];simp only[one0,if_true]
 grind
theorem qz5 {P:List AP} {k g a:Nat} (h:qfw P k g) (ha:a<P.length) (hk:k<=70) {i:Nat} (hi:i<P.length):SzQ (nxP P a i) 100000000:=by
 have hl:=qc5 ha;have h2:=h.out ha;have hS:=qq0 (k:=k) (n:=(qbq P a).length) hk h2.len;have:=h.len;exact((qzQ (s:=i+1) (n:=P.length+1) (by omega) (by omega)).mul (qym h2.sz i)).mono (by omega)
def bkL (n i:Nat) (w:Nat->Rat):List RAT:=(List.range n).map fun j=>if i<=j then canQ (w j) else zR
theorem qju (n i:Nat) (w:Nat->Rat):(bkL n i w).length=n:=by simp [bkL]
theorem qnL {n i j:Nat} (w:Nat->Rat) (h:j<n):(bkL n i w)[j]?=some (if i<=j then canQ (w j) else zR):=by simp [bkL,h]
theorem qzx {n i:Nat} (w:Nat->Rat):(bkL n (i+1) w).set i (canQ (w i))=bkL n i w:=by
 refine List.ext_getElem? fun j=>?_
 rw[List.getElem?_set];by_cases e:i=j
 · subst e;by_cases hi:i<n
   · rw[if_pos rfl,if_pos (by rw[qju];exact hi),qnL w hi,if_pos (Nat.le_refl _)]
   · rw[if_pos rfl,if_neg (by rw[qju];exact hi),List.getElem?_eq_none (by rw[qju];omega)]
 · rw [if_neg e];by_cases hj:j<n
   · rw [qnL w hj, qnL w hj];by_cases h:i<=j
     · rw[if_pos (by omega),if_pos h]
     · rw[if_neg (by omega),if_neg h]
   · rw[List.getElem?_eq_none (by rw[qju];omega),List.getElem?_eq_none (by rw[qju];omega)]
theorem qxO (n:Nat) (w:Nat->Rat):bkL n n w=List.replicate n zR:=by
 rw[List.eq_replicate_iff];refine⟨qju _ _ _,fun x hx=>?_⟩;obtain⟨j,hj,rfl⟩:=List.mem_map.1 hx;have:=List.mem_range.1 hj;exact if_neg (by omega)
theorem qzy (n:Nat) (w:Nat->Rat):bkL n 0 w=flo n w:=List.map_congr_left fun j _=>if_pos (Nat.zero_le _)
theorem qod {P:List AP} {k g:Nat} (h:qfw P k g) (hk:k<=70) {a:Nat} (ha:a<P.length) :
  qbx ((a+1:Nat):Int) (encK P (wtP P))=some (flo P.length (wtP (qbq P a)),encK P (wtP P)):=by
 have hl:=qc5 ha;have hl2:=h.len;have el:=qcK P (wtP P);obtain⟨n,en⟩:∃ n,n=P.length:=⟨_,rfl⟩;have hS:=qq0 (k:=k) (n:=P.length) hk (by omega);have wsz:∀ i,i<=P.length->SzQ (wtP P i) 100000000:=fun i hi=>(qst h.sz hl2 hi).mono (by omega)
 have hQ:=h.out ha;have hS2:=qq0 (k:=k) (n:=(qbq P a).length) hk hQ.len;have qsz:∀ i,i<P.length->SzQ (wtP (qbq P a) i) 100000000:=fun i hi=>(qst hQ.sz hQ.len (by omega)).mono (by omega)
 have hz:SzQ P[a].2.1 k:=h.sz _ (gM0 ha);have hpos:=h.pos _ (gM0 ha);have hz0:P[a].2.1≠0:=by intro e;rw[e] at hpos;exact absurd hpos (by decide)
 obtain⟨L,eL⟩:∃ L,L=lkF P (wtP P) (a+1):=⟨_,rfl⟩;have eL':=eL;rw[qkT ha] at eL';have L1:L.2.1=canQ P[a].2.1:=by rw[eL']
 have L2:L.2.2.1=P[a].2.2:=by rw[eL']
 obtain⟨nx,hnx⟩:∃ nx:Nat->Rat,nx=fun m=>if P[a].2.2 then (if m<n then nxP P a (n-1-m) else 0) else wtP P n:=⟨_,rfl⟩
 obtain⟨ov,hov⟩:∃ ov:Rat,ov=P[a].2.1⁻¹:=⟨_,rfl⟩;have pn1:iadd .i64 ((n:Nat):Int) 1=((n+1:Nat):Int):=qbr (by omega);have key:=qfM (step:=qak) (fun m=>(((n:Int),bkL n (n-m) (wtP (qbq P a)),((n:Nat):Int)-1-(m:Int),()),((L.1,L.2.1.1.1,L.2.1.1.2,L.2.1.2,L.2.2.1,L.2.2.2.1.1,L.2.2.2.1.2,L.2.2.2.2,()),((canQ ov).1.1,(canQ ov).1.2,(canQ ov).2,()),((canQ (nx m)).1.1,(canQ (nx m)).1.2,(canQ (nx m)).2,()),(encK P (wtP P),()),()))) n
  (r:=((bkL n 0 (wtP (qbq P a)),()),((encK P (wtP P),()),()))) (by omega) (by
  intro g m hm;obtain⟨i,hi⟩:∃ i,n=i+m+1:=⟨n-m-1,by omega⟩;have ei:((n:Nat):Int)-1-(m:Int)=(i:Int):=by omega
  have ei2:((n:Nat):Int)-1-((m+1:Nat):Int)=(i:Int)-1:=by omega
  have en1:n-m=i+1:=by omega
  have en2:n-(m+1)=i:=by omega
  have d0:((i:Nat):Int)>=0:=by omega
  have d1:(0:Int)<=(i:Int):=by omega
  have d2:(i:Int)<((encK P (wtP P)).length:Int):=by rw[el];omega
  have d3:(i:Int)<((bkL n (i+1) (wtP (qbq P a))).length:Int):=by rw[qju];omega
  have g1:=qcx (P:=P) (w:=wtP P) (i:=i) (by omega);have g2:=qnL (n:=n) (i:=i+1) (j:=i) (wtP (qbq P a)) (by omega);have q2:isub .i64 (n:Int) (i:Int)=((n-i:Nat):Int):=by rw[qdF (by omega) (by omega)];omega
  have q3:isub .i64 (i:Int) 1=(i:Int)-1:=by rw[qdF (by omega) (by omega)]
  have q1:iadd .i64 (i:Int) 1=((i+1:Nat):Int):=qbr (by omega);have hset:=qzx (n:=n) (i:=i) (wtP (qbq P a));show qak g (((n:Int),bkL n (n-m) (wtP (qbq P a)),((n:Nat):Int)-1-(m:Int),()),((L.1,L.2.1.1.1,L.2.1.1.2,L.2.1.2,L.2.2.1,L.2.2.2.1.1,L.2.2.2.1.2,L.2.2.2.2,()),((canQ ov).1.1,(canQ ov).1.2,(canQ ov).2,()),((canQ (nx m)).1.1,(canQ (nx m)).1.2,(canQ (nx m)).2,()),(encK P (wtP P),()),()))=g (((n:Int),bkL n (n-(m+1)) (wtP (qbq P a)),((n:Nat):Int)-1-((m+1:Nat):Int),()),((L.1,L.2.1.1.1,L.2.1.1.2,L.2.1.2,L.2.2.1,L.2.2.2.1.1,L.2.2.2.1.2,L.2.2.2.2,()),((canQ ov).1.1,(canQ ov).1.2,(canQ ov).2,()),((canQ (nx (m+1))).1.1,(canQ (nx (m+1))).1.2,(canQ (nx (m+1))).2,()),(encK P (wtP P),()),()));rw[ei,ei2,en1,en2,qak,cnd d0,L2];cases hok:P[a].2.2 with
  | false =>
   have f1:=qnA (a:=n+1) (b:=n-i) (by omega) (by omega);have s1:=qlI (a:=n+1) (b:=n-i) (by omega) (by omega);have hw:=wsz i (by omega);have m1:=qaF (hw.sm (by decide)) (s1.sm (by decide));rw[qai,qai] at m1;have z1:SzQ (wtP P i*(((n+1:Nat):Rat)/((n-i:Nat):Rat))) 200000000:=(hw.mul s1).mono (by omega);have hi2:SzQ ov k:=by rw[hov];exact hz.inv
   have m2:=qaF (z1.sm (by decide)) (hi2.sm (by omega));rw[qai,qai] at m2;have m2:qap (canQ (wtP P i*(((n+1:Nat):Rat)/((n-i:Nat):Rat)))) (((canQ ov).1.1,(canQ ov).1.2),(canQ ov).2)=_:=m2;have e1:=qzP ha (i:=i) (by omega) hz0 hok;rw[<- en,<- hov] at e1;have e2:nx (m+1)=nx m:=by rw[hnx];simp only[hok,Bool.false_eq_true,if_false]
   rw[Bool.not_false,cond_true,cnd2 d1 d2,tN0,g1,bS0,pn1,q2,f1,bS0,qvp,m1,bS0,m2,bS0,cnd2 d1 d3,g2,bS0,e1,hset,q3,e2]
  | true =>
   have f1:=qnA (a:=n+1) (b:=i+1) (by omega) (by omega);have s1:=qlI (a:=n+1) (b:=i+1) (by omega) (by omega);have enx:nx m=nxP P a i:=by rw[hnx];simp only[hok,if_true];rw[if_pos hm,show n-1-m=i by omega]
   have nsz:=qz5 h ha hk (i:=i) (by omega);have m1:=qaF (nsz.sm (by decide)) (s1.sm (by decide));rw[qai,qai] at m1;have e1:=qy1 ha (i:=i) (by omega);rw[<- en] at e1;rw[e1] at m1;have m1:qap (((canQ (nxP P a i)).1.1,(canQ (nxP P a i)).1.2),(canQ (nxP P a i)).2) (canQ (((n+1:Nat):Rat)/((i+1:Nat):Rat)))=some (canQ (wtP (qbq P a) i)):=m1;have d4:(i:Int)<((bkL n i (wtP (qbq P a))).length:Int):=by rw[qju];omega
   have g3:=qnL (n:=n) (i:=i) (j:=i) (wtP (qbq P a)) (by omega);rw[if_pos (Nat.le_refl _)] at g3;have hq:=qsz i (by omega);have m2:=qaF (hq.sm (by decide)) (hz.sm (by omega));rw[qai,qai] at m2;have m2:qap (canQ (wtP (qbq P a) i)) ((L.2.1.1.1,L.2.1.1.2),L.2.1.2)=some (canQ (wtP (qbq P a) i*P[a].2.1)):=by
    show qap _ L.2.1=_;rw[L1];exact m2
   have f2:=qnA (a:=n-i) (b:=n+1) (by omega) (by omega);have s2:=qlI (a:=n-i) (b:=n+1) (by omega) (by omega);have z2:SzQ (wtP (qbq P a) i*P[a].2.1) 200000000:=(hq.mul hz).mono (by omega);have m3:=qaF (z2.sm (by decide)) (s2.sm (by decide));rw[qai,qai] at m3;have z3:SzQ (wtP (qbq P a) i*P[a].2.1*(((n-i:Nat):Rat)/((n+1:Nat):Rat))) 300000000:=(z2.mul s2).mono (by omega);have hw:=wsz i (by omega);have m4:=qg1 (hw.sm (by decide)) (z3.sm (by decide));rw[qai,qai] at m4;have e2:=qw6 ha (i:=i) (by omega) hok;rw[<- en] at e2;rw[e2] at m4;have e3:nx (m+1)=if i=0 then 0 else nxP P a (i-1):=by
    rw[hnx];simp only[hok,if_true];by_cases h0:i=0
    · rw[if_neg (by omega),if_pos h0]
    · rw[if_pos (by omega),if_neg h0,show n-1-(m+1)=i-1 by omega]
   rw[Bool.not_true,cond_false,pn1,q1,f1,bS0,enx,m1,bS0,cnd2 d1 d3,tN0,g2,bS0,cnd2 d1 d2,g1,bS0,hset,cnd2 d1 d4,g3,bS0,m2,bS0,q2,f2,bS0,m3,bS0,qvp,m4,bS0,q3,e3]) (by
  intro g;rw[Nat.sub_self,qak,cnd' (by omega)])
 have i1:isub .i64 ((P.length+1:Nat):Int) 1=(n:Int):=by rw[qdF (by omega) (by omega)];omega
 have i2:isub .i64 (n:Int) 1=((n:Nat):Int)-1-((0:Nat):Int):=by rw[qdF (by omega) (by omega)];omega
 have c0:(0:Int)<=((a+1:Nat):Int):=by omega
 have c1:((a+1:Nat):Int)<((P.length+1:Nat):Int):=by omega
 have hinv:=ql6 (hz.sm (by omega));rw[qai,if_neg hz0,<- hov] at hinv;have c2:(decide ((n:Int)=(n:Int))&&decide ((0:Int)<=(n:Int))&&decide ((((56:Nat):Int)*(n:Int))<=281474976710656)&&decide ((n:Int)<=9223372036854775807))=true:=by
  simp only[Bool.and_eq_true,decide_eq_true_eq];refine⟨⟨⟨trivial,by omega⟩,?_⟩,by omega⟩;show(56:Int)*(n:Int)<=281474976710656;omega
 have ev:nx 0=wtP P n:=by
  rw[hnx];cases hok:P[a].2.2 with
  | false=>simp
  | true=>simp only[if_true];rw[if_pos (by omega),en,qy0 ha hok,Nat.sub_zero]
 have gn:=qcx (P:=P) (w:=wtP P) (i:=n) (by omega);rw[qbx,el,cnd2 c0 c1,tN0,qcx (by omega),bS0,i1,c2,cond_true,<- eL,L1,hinv,bS0,cnd2 (by omega) (by omega),tN0,gn,bS0,i2];dsimp only;rw[qvp,<- ev];have key:lp qak K0 (((n:Int),List.replicate n (((false,[]),[]):RAT),((n:Nat):Int)-1-((0:Nat):Int),()),((L.1,(canQ P[a].2.1).1.1,(canQ P[a].2.1).1.2,(canQ P[a].2.1).2,L.2.2.1,L.2.2.2.1.1,L.2.2.2.1.2,L.2.2.2.2,()),((canQ ov).1.1,(canQ ov).1.2,(canQ ov).2,()),((canQ (nx 0)).1.1,(canQ (nx 0)).1.2,(canQ (nx 0)).2,()),(encK P (wtP P),()),()))=some ((bkL n 0 (wtP (qbq P a)),()),((encK P (wtP P),()),())):=by
  have k2:=key;rw[Nat.sub_zero,qxO,L1] at k2;exact k2
 rw[key,qzy,en];rfl
theorem qvO {n k:Nat} {w:Nat->Rat} (hw:∀ i,i<n->SzQ (w i) k) (hk:1+n*(k+1)<1099511627776) (hn:n<1000000):qhw (flo n w)=some (canQ (rsum w n)):=by
 have hv:∀ i,i<n->vals (flo n w) i=w i:=fun i hi=>by
  rw[vals,qe9 w hi];show rv (canQ (w i))=w i;exact qai _
 have h:=qp5 (l:=flo n w) (k:=k) (fun x hx=>by
  obtain⟨i,hi,rfl⟩:=List.mem_map.1 hx;have hi:=List.mem_range.1 hi;refine(hw i hi).sm ?_;have:1*(k+1)<=n*(k+1):=Nat.mul_le_mul_right _ (by omega);omega) (fun i hi=>by rw[qa2] at hi;rw[hv i hi];exact hw i hi) (by rw[qa2];exact hk) (by rw[qa2];omega)
 rw[h,qa2];congr 2;exact qbh fun i hi=>hv i hi
def sumP (P:List AP) (a:Nat):Rat:=rsum (wtP (qbq P a)) P.length
theorem qvb {P:List AP} {k g:Nat} (h:qfw P k g) (hk:k<=70) {a:Nat} (ha:a<P.length):∀ i,i<P.length->SzQ (wtP (qbq P a) i) (30+ekS k (qbq P a).length):=fun i hi=>by
 have:=qc5 ha;exact qst (h.out ha).sz (h.out ha).len (by omega)
theorem qxR {P:List AP} {k g:Nat} (h:qfw P k g) (hk:k<=70) {a:Nat} (ha:a<P.length) :
  qc4 ((a+1:Nat):Int) (encK P (wtP P))=some (canQ (sumP P a),0,encK P (wtP P)):=by
 have el:=qcK P (wtP P);have hl2:=h.len;have hS2:=qq0 (k:=k) (n:=(qbq P a).length) hk (h.out ha).len;have hs:=qvO (n:=P.length) (w:=wtP (qbq P a)) (k:=100000000) (fun i hi=>(qvb h hk ha i hi).mono (by omega)) (by omega) (by omega);rw[qc4,el,cnd' (by omega),cnd' (by omega),cnd' (by omega),qod h hk ha,bS0];dsimp only;rw[hs];rfl
theorem qxA {P:List AP} {w:Nat->Rat} {a:Nat} (ha:a<P.length):(encK P w).take (a+1)++(encK P w).drop (a+2)=encK (qbq P a) fun j=>if j<=a then w j else w (j+1):=by
 have el:=qcK P w;have hl:=qc5 ha;have ho:∀ j,(qbq P a)[j]?=if j<a then P[j]? else P[j+1]?:=fun j=>by
   unfold qbq;by_cases hj:j<a
   · rw[if_pos hj,List.getElem?_append_left (by rw[List.length_take];omega),List.getElem?_take,if_pos hj]
   · rw [if_neg hj, List.getElem?_append_right (by rw [List.length_take]; omega), List.length_take, Nat.min_eq_left (by omega), List.getElem?_drop];congr 1;omega
 refine List.ext_getElem? fun j=>?_
 by_cases hj:j<a+1
 · rw [List.getElem?_append_left (by rw [List.length_take]; omega), List.getElem?_take, if_pos hj, qcx (by omega), qcx (by omega)];unfold lkF;split
   · rename_i e;subst e;simp
   · have e1 : (qbq P a)[j - 1]? = P[j - 1]? := by rw [ho, if_pos (by omega)]
     have e2:(if j<=a then w j else w (j+1))=w j:=if_pos (by omega);simp only[e1,e2]
 · rw [List.getElem?_append_right (by rw [List.length_take]; omega), List.length_take, Nat.min_eq_left (by omega), List.getElem?_drop, show a + 2 + (j - (a + 1)) = j + 1 by omega];by_cases hj2:j+1<P.length+1
   · rw [qcx hj2, qcx (by omega)];unfold lkF;have e1:(qbq P a)[j-1]?=P[j]?:=by rw[ho,if_neg (by omega)];congr 1;omega
     have e2:(if j<=a then w j else w (j+1))=w (j+1):=if_neg (by omega);rw[if_neg (by omega),if_neg (by omega)];simp only[e1,e2,Nat.add_sub_cancel]
   · rw[List.getElem?_eq_none (by omega),List.getElem?_eq_none (by rw[qcK];omega)]
theorem qws {P:List AP} {k g:Nat} (h:qfw P k g) (hk:k<=70) {a:Nat} (ha:a<P.length) :
  qbP ((a+1:Nat):Int) (encK P (wtP P))=some (0,encK (qbq P a) (wtP (qbq P a))):=by
 have el:=qcK P (wtP P);have hl2:=h.len;have hl:=qc5 ha;obtain⟨Q,eQ⟩:∃ Q,Q=qbq P a:=⟨_,rfl⟩;have eo:=qxA (w:=wtP P) ha;rw[<- eQ] at eo hl;obtain⟨w0,hw0⟩:∃ w0:Nat->Rat,w0=fun j=>if j<=a then wtP P j else wtP P (j+1):=⟨_,rfl⟩
 rw[<- hw0] at eo;obtain⟨F,eF⟩:∃ F,F=flo P.length (wtP Q):=⟨_,rfl⟩;have lF:F.length=P.length:=by rw[eF,qa2]
 have lQ:∀ w,(encK Q w).length=P.length:=fun w=>by rw[qcK];exact hl
 have key:=qfM (step:=qat) (fun i=>((F,encK Q (fun j=>if j<i then wtP Q j else w0 j),((P.length:Nat):Int),(i:Int),()),((encK P (wtP P),()),()))) P.length
  (r:=((encK Q (fun j=>if j<P.length then wtP Q j else w0 j),()),((encK P (wtP P),()),()))) (by omega) (by
  intro gg i hi;have d0:(i:Int)<((P.length:Nat):Int):=by omega
  have d1:(0:Int)<=(i:Int):=by omega
  have d2:(i:Int)<(F.length:Int):=by rw[lF];exact d0
  have d3:(i:Int)<((encK Q (fun j=>if j<i then wtP Q j else w0 j)).length:Int):=by rw[lQ];exact d0
  have g1:F[i]?=some (canQ (wtP Q i)):=by rw[eF];exact qe9 _ hi
  have g2:=qcx (P:=Q) (w:=fun j=>if j<i then wtP Q j else w0 j) (i:=i) (by omega);have u:=qmF (P:=Q) (w:=fun j=>if j<i then wtP Q j else w0 j) (i:=i) (wtP Q i);have e:encK Q (fun j=>if j=i then wtP Q i else if j<i then wtP Q j else w0 j)=encK Q (fun j=>if j<i+1 then wtP Q j else w0 j):=by
   refine qfv fun j _=>?_
   by_cases e1:j=i
   · rw[if_pos e1,if_pos (by omega),e1]
   · rw [if_neg e1];by_cases e2:j<i
     · rw[if_pos e2,if_pos (by omega)]
     · rw[if_neg e2,if_neg (by omega)]
  rw[qat,cnd d0,cnd2 d1 d2,tN0,g1,bS0,cnd2 d1 d3,g2,bS0,u,e,qbr (by omega)];rfl) (by
  intro gg;rw[qat,cnd' (by omega)])
 have e0:encK Q (fun j=>if j<0 then wtP Q j else w0 j)=encK Q w0:=qfv fun j _=>if_neg (by omega)
 have e1:encK Q (fun j=>if j<P.length then wtP Q j else w0 j)=encK Q (wtP Q):=qfv fun j hj=>if_pos (by omega)
 rw[e0,e1] at key;have key:lp qat K0 ((F,encK Q w0,((P.length:Nat):Int),0,()),((encK P (wtP P),()),()))=some ((encK Q (wtP Q),()),((encK P (wtP P),()),())):=key;have i1:iadd .i64 ((a+1:Nat):Int) 1=((a+2:Nat):Int):=qbr (by omega);have hw:=qod h hk ha;rw[<- eQ,<- eF] at hw;have t1:(((a+1:Nat):Int)-0).toNat=a+1:=by omega
 have t2:(((a+2:Nat):Int)).toNat=a+2:=by omega
 have c1:(decide ((0:Int)<=((a+1:Nat):Int))&&decide ((((a+1:Nat):Int):Int)<=((a+1:Nat):Int))&&decide ((((a+1:Nat):Int):Int)<=((P.length+1:Nat):Int)))=true:=by
  simp only[Bool.and_eq_true,decide_eq_true_eq];omega
 rw[qbP,el,cnd' (by omega),cnd' (by omega),cnd' (by omega),hw,bS0];dsimp only;rw[el,c1,cond_true,t1,blt (by rw[List.length_take,el];simp;omega),cond_true,i1,cnd2 (by omega) (by omega),t2,List.nil_append,blt (by rw[List.length_take,List.length_drop,el];omega),cond_true,eo,lQ,key,eQ];rfl
theorem qwp {f:Nat} {q:Rat} {ok:Bool} {w:List AP} (h:∀ p∈w,p.1≠f):(qiK f q ok w).Perm ((f,q,ok)::w):=by
 induction w with
 | nil=>exact List.Perm.refl _
 | cons p w ih =>
  have h1:p.1≠f:=h p List.mem_cons_self;have ih:=ih fun x hx=>h x (List.mem_cons_of_mem _ hx)
  simp only[qiK];split
  · exact(List.Perm.cons _ ih).trans (List.Perm.swap _ _ _)
  · first | exact List.Perm.refl _ | (rw[if_neg h1])
theorem qwo {f:Nat} {q s:Rat} {ok o:Bool} {w:List AP} (hs:qoa w) (hm:(f,s,o)∈w):∃ r:List AP,w.Perm ((f,s,o)::r)/\(qiK f q ok w).Perm ((f,s*q,o&&ok)::r):=by
 induction w with
 | nil=>cases hm
 | cons p w ih =>
  have hs2:=List.pairwise_cons.1 hs;rcases List.mem_cons.1 hm with e | hm
  · subst e;refine⟨w,List.Perm.refl _,?_⟩;simp only[qiK];simp
  · obtain ⟨r, h1, h2⟩ := ih hs2.2 hm;have hlt:p.1<f:=hs2.1 _ hm;refine⟨p::r,(List.Perm.cons _ h1).trans (List.Perm.swap _ _ _),?_⟩;simp only[qiK];rw[if_pos hlt];exact(List.Perm.cons _ h2).trans (List.Perm.swap _ _ _)
theorem qvP {P:List AP} {f:Nat}:(∀ p∈P,p.1≠f)\/∃ a,∃ ha:a<P.length,P[a].1=f/\∀ j (hj:j<P.length),j<a->P[j].1≠f:=by
 induction P with
 | nil=>exact .inl (by simp)
 | cons p P ih =>
  by_cases e:p.1=f
  · exact .inr ⟨0,by simp,e,fun j _ hj=>by omega⟩
  · rcases ih with h | ⟨a, ha, h1, h2⟩
    · exact .inl fun x hx=>by rcases List.mem_cons.1 hx with rfl | hx;exact e;exact h x hx
    · refine .inr ⟨a + 1, by simpa using ha, by simpa using h1, fun j hj hja => ?_⟩;cases j with
      | zero=>exact e
      | succ j=>simpa using h2 j (by simpa using hj) (by omega)
theorem qfw.mono {P:List AP} {k k' g:Nat} (h:qfw P k g) (hk:k<=k'):qfw P k' g:=⟨h.nd,fun p hp=>(h.sz p hp).mono hk,h.len,h.lt,h.pos⟩
theorem qfw.snoc {P:List AP} {k g:Nat} (h:qfw P k g) {f:Nat} {q:Rat} {ok:Bool} (hf:∀ p∈P,p.1≠f) (hq:SzQ q k) (hq0:0<q) (hl:P.length<20) (hfg:f<g):qfw (P++[(f,q,ok)]) k g:=by
 have hp:(P++[((f,q,ok):AP)]).Perm ((f,q,ok)::P):=List.perm_append_comm.trans (List.Perm.refl _);have hmem:∀ p∈P++[((f,q,ok):AP)],p=(f,q,ok)\/p∈P:=fun p hp=>by
   rcases List.mem_append.1 hp with h | h
   · exact .inr h
   · exact .inl (List.mem_singleton.1 h)
 refine⟨?_,fun p hp=>?_,by rw[List.length_append];simp;omega,fun p hp=>?_,fun p hp=>?_⟩
 · rw [(hp.map (·.1)).nodup_iff];refine List.nodup_cons.2 ⟨fun hm=>?_,h.nd⟩;obtain⟨p,hp,e⟩:=List.mem_map.1 hm;exact hf p hp e
 · rcases hmem p hp with rfl | h'
   · exact hq
   · exact h.sz p h'
 · rcases hmem p hp with rfl | h'
   · exact hfg
   · exact h.lt p h'
 · rcases hmem p hp with rfl | h'
   · exact hq0
   · exact h.pos p h'
theorem qzg {P w:List AP} {m g:Nat} (h:qfw P (8*m+1) g) (hw:P.Perm w) (hs:qoa w) {f:Nat} {q:Rat} {ok:Bool} (hf:f<g) (hg:g<1000000) (hq:SzQ q 8) (hq0:0<q) (hl:P.length<=m) (hm:m<8)
   (at0:Int) (b1:Bool) (b2 b3:List Int) :
   ∃ P',P'.Perm (qiK f q ok w)/\qfw P' (8*(m+1)+1) g/\P'.length<=m+1 /\
     qaJ at0 b1 b2 b3 (f:Int) (canQ q).1.1 (canQ q).1.2 (canQ q).2 ok (encK P (wtP P))=some (at0,b1,b2,b3,(f:Int),(canQ q).1.1,(canQ q).1.2,(canQ q).2,ok,encK P' (wtP P')):=by
 have c0:¬ (f:Int)<0:=by omega
 rcases qvP (P:=P) (f:=f) with hn | ⟨a,ha,he,hn⟩
 · have h1 := h.mono (show 8 * m + 1 <= 8 * (m + 1) + 1 by omega);have hq1:=hq.mono (show 8<=8*(m+1)+1 by omega);refine⟨P++[(f,q,ok)],?_,h1.snoc hn hq1 hq0 (by omega) hf,by rw[List.length_append];simp;omega,?_⟩
   · have hn2 : ∀ p ∈ w, p.1 ≠ f := fun p hp => hn p (hw.symm.mem_iff.1 hp)
     have:(P++[((f,q,ok):AP)]).Perm ((f,q,ok)::P):=List.perm_append_comm.trans (List.Perm.refl _);exact(this.trans (List.Perm.cons _ hw)).trans (qwp hn2).symm
   · have he := qrm h1 (f := f) (q := q) (ok := ok) hn hq1 hq0 (by omega) (by omega) (by omega);rw[qaJ,cnd' c0,qtk hn (by omega),bS0];dsimp only;rw[cnd' (by omega)];show(qaE (f:Int) (canQ q) ok (encK P (wtP P))).bind _=_;rw[he];rfl
 · have ho := (h.out ha).mono (show 8 * m + 1 <= 8 * (m + 1) + 1 by omega);have hno:=h.notin ha;rw[he] at hno;have hz:SzQ P[a].2.1 (8*m+1):=h.sz _ (gM0 ha);have hz0:0<P[a].2.1:=h.pos _ (gM0 ha);have hq1:SzQ (q*P[a].2.1) (8*(m+1)+1):=(hq.mul hz).mono (by omega);have hqz:0<q*P[a].2.1:=Rat.mul_pos hq0 hz0;have hol:=qc5 ha;have hm1:=qaF (hq.sm (by omega)) (hz.sm (by omega));rw[qai,qai] at hm1;have hm1:qap (((canQ q).1.1,(canQ q).1.2),(canQ q).2) (canQ P[a].2.1)=some (canQ (q*P[a].2.1)):=hm1;refine⟨qbq P a++[(f,q*P[a].2.1,P[a].2.2&&ok)],?_,ho.snoc hno hq1 hqz (by omega) hf,by rw[List.length_append];simp;omega,?_⟩
   · have hmem : (f, P[a].2.1, P[a].2.2) ∈ w := by
      have:(P[a]:AP)=(f,P[a].2.1,P[a].2.2):=by rw[<- he]
      rw[<- this];exact hw.mem_iff.1 (gM0 ha)
     obtain⟨r,r1,r2⟩:=qwo (q:=q) (ok:=ok) hs hmem;have e1:(P[a]:AP)=(f,P[a].2.1,P[a].2.2):=by rw[<- he]
     have p1:((f,P[a].2.1,P[a].2.2)::qbq P a).Perm ((f,P[a].2.1,P[a].2.2)::r):=by
      have:=qhK ha;rw[e1] at this;exact(this.symm.trans hw).trans r1
     have p2:=List.Perm.cons_inv p1;have p3:(qbq P a++[((f,q*P[a].2.1,P[a].2.2&&ok):AP)]).Perm ((f,q*P[a].2.1,P[a].2.2&&ok)::qbq P a):=List.perm_append_comm.trans (List.Perm.refl _);refine(p3.trans ?_).trans r2.symm;rw[Rat.mul_comm];exact List.Perm.cons _ p2
   · have hE := qrm ho (f := f) (q := q * P[a].2.1) (ok := P[a].2.2 && ok) hno hq1 hqz (by omega) (by omega) (by omega);have hU:=qws h (by omega) ha;have c1:((a+1:Nat):Int)>0:=by omega
     have i1:isub .i64 ((a+1:Nat):Int) 1=(a:Int):=by rw[qdF (by omega) (by omega)];omega
     have d1:(0:Int)<=(a:Int):=by omega
     have d2:(a:Int)<((encW P).length:Int):=by rw[qmE];omega
     have g1:(encW P)[a]?=some (encP P[a]):=by simp [encW,ha]
     rw[qaJ,cnd' c0,qzI ha he hn (by omega),bS0];dsimp only;rw[cnd c1,qoE (by omega),bS0,i1];dsimp only;rw[cnd2 d1 d2,tN0,g1,bS0];show(qap (((canQ q).1.1,(canQ q).1.2),(canQ q).2) (canQ P[a].2.1)).bind _=_;rw[hm1,bS0];cases ok with
     | true =>
      rw[Bool.and_true] at hE ⊢;rw[cond_true,hU,bS0];dsimp only;show(qaE (f:Int) (canQ (q*P[a].2.1)) P[a].2.2 _).bind _=_;rw[hE];rfl
     | false =>
      rw[Bool.and_false] at hE ⊢;rw[cond_false,hU,bS0];dsimp only;rw[hE];rfl
def lfT (P:List AP) (v:Rat) (f i:Nat):Rat:=match P[i]? with
 | some p=>if p.1=f then sumP P i*(one0 p.2.2-p.2.1)*v else 0
 | none=>0
def qt5 (P:List AP) (v:Rat) (f:Nat):Rat:=rsum (lfT P v f) P.length
theorem qnw {P:List AP} {v:Rat} {f i:Nat} (h:i<P.length):lfT P v f i=if P[i].1=f then sumP P i*(one0 P[i].2.2-P[i].2.1)*v else 0:=by
 simp only[lfT,gE0 h]
def apF (p:AP):FP:=(p.1,fcP p)
theorem qm7 (P:List AP) (S:Nat):qcN S P=qj0 (P.map apF) S:=by
 unfold qcN qj0;rw[List.map_map];congr 1
theorem qyH {P:List AP} {a:Nat} (h:a<P.length):sumP P a=EE ((qbq P a).map fcP) fun k=>wq k ((qbq P a).length+1):=by
 have hl:=qc5 h;rw[qzJ,List.length_map,hl];unfold sumP;refine qbh fun i _=>?_
 unfold wtP ekP;rw[Rat.mul_comm,hl]
theorem qm8 {P Q:List AP} (h:P.Perm Q) (S:Nat):qcN S P=qcN S Q:=qoo (h.map _)
theorem qt4 {P:List AP} {k n f:Nat} (h:qfw P k n) (hf:f<n) (v:Rat):qt5 P v f=qjJ (fun S=>qcN S P*v) n f:=by
 rw[quX];rcases qvP (P:=P) (f:=f) with hn | ⟨a,ha,he,_⟩
 · have e1 : qjJ (fun S => qcN S P) n f = 0 := by
    have:(fun S=>qcN S P)=qj0 (P.map apF):=funext fun S=>qm7 P S
    rw[this];refine quW fun hm=>?_
    rw[List.map_map] at hm;obtain⟨p,hp,e⟩:=List.mem_map.1 hm;exact hn p hp e
   rw[e1,Rat.zero_mul];refine qgp fun i hi=>?_
   rw[qnw hi,if_neg (hn _ (gM0 hi))]
 · have hno := h.notin ha;rw[he] at hno;have ho:=h.out ha;have e1:qjJ (fun S=>qcN S P) n f=(one0 P[a].2.2-P[a].2.1)*sumP P a:=by
    have e2:(fun S=>qcN S P)=fun S=>pick (fcP P[a]) (S.testBit f)*qj0 ((qbq P a).map apF) S:=funext fun S=>by
      rw[qm8 (qhK ha) S];show facP S P[a]*qcN S (qbq P a)=_;rw[qm7,<- he];rfl
    rw[e2,quV hf (by rw[List.map_map];exact ho.nd) (fun p hp=>by
      obtain⟨x,hx,rfl⟩:=List.mem_map.1 hp;exact ho.lt x hx) (fun hm=>by
      rw[List.map_map] at hm;obtain⟨p,hp,e⟩:=List.mem_map.1 hm;exact hno p hp e),qyH ha]
    rw[List.map_map,List.length_map];rfl
   rw[e1];have hone:∀ i,i<P.length->i≠a->lfT P v f i=0:=fun i hi hne=>by
    rw[qnw hi];refine if_neg fun e=>hne ?_
    have hnd:=h.nd;have hpw:=List.pairwise_iff_getElem.1 (show(P.map (·.1)).Pairwise (·≠·) from hnd);rcases Nat.lt_trichotomy i a with hlt | heq | hlt
    · have h5 := hpw i a (by simpa using hi) (by simpa using ha) hlt;simp [e,he] at h5
    · exact heq
    · have h5 := hpw a i (by simpa using ha) (by simpa using hi) hlt;simp [e,he] at h5
   have key:∀ n,n<=P.length->rsum (lfT P v f) n=if a<n then lfT P v f a else 0:=by
    intro n
    induction n with
    | zero=>intro _;rw[if_neg (by omega)];rfl
    | succ n ih =>
      intro hn;rw[rsum,ih (by omega)];by_cases e:n=a
      · subst e;rw[if_neg (by omega),if_pos (by omega),Rat.zero_add]
      · rw [hone n (by omega) e, Rat.add_zero];by_cases h1:a<n
        · rw[if_pos h1,if_pos (by omega)]
        · rw[if_neg h1,if_neg (by omega)]
   unfold qt5;rw[key _ (Nat.le_refl _),if_pos ha,qnw ha,if_pos he]
   grind
theorem ekS8 {k n:Nat} (hk:k<=70) (hn:n<=8):ekS k n<=20000:=by
 have h1:=qs8 k hn;have h2:ekS k 8<=ekS 70 8:=by
  have:∀ n,ekS k n<=ekS 70 n:=by
   intro n
   induction n with
   | zero=>exact Nat.le_refl _
   | succ n ih=>simp only[ekS];omega
  exact this 8
 have h3:ekS 70 8<=20000:=by decide +kernel
 omega
theorem qkt {f:Nat->Rat} {k:Nat}:∀ n,(∀ i,i<n->SzQ (f i) k)->SzQ (rsum f n) (1+n*(k+1)):=by
 intro n
 induction n with
 | zero=>intro _;exact SzQ.zero.mono (by omega)
 | succ n ih =>
  intro h;have h1:=ih fun i hi=>h i (by omega)
  have e:(n+1)*(k+1)=n*(k+1)+(k+1):=Nat.succ_mul _ _;exact(h1.add (h n (by omega))).mono (by omega)
theorem quR {P:List AP} {k g a:Nat} (h:qfw P k g) (hk:k<=70) (hl:P.length<=8) (ha:a<P.length):SzQ (sumP P a) 170000:=by
 have hS:=ekS8 (k:=k) (n:=(qbq P a).length) hk (by have:=qc5 ha;omega);have:=qkt (k:=20030) P.length (fun i hi=>(qvb h hk ha i hi).mono (by omega));refine this.mono ?_;have:P.length*(20030+1)<=8*(20030+1):=Nat.mul_le_mul_right _ hl;omega
theorem qye {P:List AP} {k g:Nat} {v:Rat} (h:qfw P k g) (hk:k<=70) (hl:P.length<=8) (hv:SzQ v 200) (f:Nat) {i:Nat} (hi:i<P.length):SzQ (lfT P v f i) 180000:=by
 rw[qnw hi];split
 · have h1 := quR h hk hl hi;have h2:SzQ P[i].2.1 k:=h.sz _ (gM0 hi);have h3:=(qvh P[i].2.2).sub h2;exact((h1.mul h3).mul hv).mono (by omega)
 · exact SzQ.zero.mono (by omega)
theorem qzd {t:List NODE} {row:List CELL} {fx:Int} {on:Bool} {n k:Nat} {P:List AP} (h:qfw P k n) (hk:k<=70) (hl:P.length<=8) {i:Nat} (hi:i<t.length) {gn:Rat} (hg:SzQ gn 100) (hs:TSz t 4)
  {o:Nat->Rat} (ho:∀ f,f<n->SzQ (o f) 100000000000) (hn:n<1000000) (a4:Int) (a5:Bool) (a6 a7:List Int) (a8:Bool) :
  qbd (i:Int) (canQ gn).1.1 (canQ gn).1.2 (canQ gn).2 a4 a5 a6 a7 a8 t row fx on (flo n o) (encK P (wtP P)) =
   some (flo n (fun f=>o f+qt5 P (gn*rv (nVal (qcd t i))) f),t,row,fx,on,encK P (wtP P)):=by
 obtain⟨v,hv⟩:∃ v,v=gn*rv (nVal (qcd t i)):=⟨_,rfl⟩;have zv:=(hs.at hi).2.1;have m0:=qaF (a:=canQ gn) (b:=nVal (qcd t i)) (hg.sm (by decide)) (zv.sm (by decide));rw[qai,<- hv] at m0;have vsz:SzQ v 200:=by rw[hv];exact(hg.mul (zv.szQ (by decide))).mono (by decide)
 rw[<- hv];have key:=qfM (step:=qao) (fun j=>((encW P,(P.length:Int),(j:Int),()),(((i:Int),(canQ gn).1.1,(canQ gn).1.2,(canQ gn).2,a4,a5,a6,a7,a8,()),((canQ v).1.1,(canQ v).1.2,(canQ v).2,()),(t,row,fx,on,flo n (fun f=>o f+rsum (lfT P v f) j),()),(encK P (wtP P),()),()))) P.length
  (r:=((),((t,row,fx,on,flo n (fun f=>o f+rsum (lfT P v f) P.length),()),(encK P (wtP P),()),()))) (by omega) (by
  intro g j hj;have d0:(j:Int)<(P.length:Int):=by omega
  have d1:(0:Int)<=(j:Int):=by omega
  have d2:(j:Int)<((encW P).length:Int):=by rw[qmE];exact d0
  have g1:=qxz hj;have q1:iadd .i64 (j:Int) 1=((j+1:Nat):Int):=qbr (by omega);have s1:=qxR h hk hj;have zp:SzQ P[j].2.1 k:=h.sz _ (gM0 hj);have n1:=ql3 (zp.sm (by omega));rw[qai] at n1;have hfl:P[j].1<n:=h.lt _ (gM0 hj);obtain⟨F,hF⟩:∃ F,F=P[j].1:=⟨_,rfl⟩;rw[<- hF] at hfl;have zn:SzQ (-P[j].2.1) (k+4):=by
   have:=SzQ.zero.sub zp;rw[Rat.sub_eq_add_neg,Rat.zero_add] at this;exact this.mono (by omega)
  have c1:(0:Int)<=((F:Nat):Int):=by omega
  have c2:((F:Nat):Int)<((flo n (fun f=>o f+rsum (lfT P v f) j)).length:Int):=by rw[qa2];omega
  have g2:=qe9 (n:=n) (f:=F) (fun f=>o f+rsum (lfT P v f) j) hfl;have zs:=quR h hk hl hj;have zr:SzQ (o F+rsum (lfT P v F) j) 100010000000:=by
   have h1:SzQ (rsum (lfT P v F) j) (1+j*(180000+1)):=qkt j (fun i hi=>qye h hk hl vsz F (by omega));have:j*(180000+1)<=8*(180000+1):=Nat.mul_le_mul_right _ (by omega);exact((ho F hfl).add h1).mono (by omega)
  have hset:∀ x,x=o F+rsum (lfT P v F) (j+1)->(flo n (fun f=>o f+rsum (lfT P v f) j)).set F (canQ x)=flo n (fun f=>o f+rsum (lfT P v f) (j+1)):=fun x hx=>by
   refine qvN hx.symm fun f hf=>?_
   rw[rsum,qnw hj,if_neg (by rw[<- hF];exact fun e=>hf e.symm),Rat.add_zero]
  show qao g ((encW P,(P.length:Int),(j:Int),()),_)=_;rw[qao,cnd d0,cnd2 d1 d2,tN0,g1,bS0,q1,s1,bS0];show(qgD (canQ P[j].2.1)).bind _=_;rw[n1,bS0];have e1:(encP P[j]).1=(F:Int):=by rw[hF];rfl
  have e2:(encP P[j]).2.2=P[j].2.2:=rfl;rw[e1,e2];cases hok:P[j].2.2 with
  | true =>
   have a1:=qdb (SzQ.one.sm (by decide)) (zn.sm (by omega));rw[qai,qai,<- Rat.sub_eq_add_neg] at a1;have z1:SzQ (1-P[j].2.1) 100:=(SzQ.one.sub zp).mono (by omega);have m1:=qaF (zs.sm (by decide)) (z1.sm (by decide));rw[qai,qai] at m1;have z2:SzQ (sumP P j*(1-P[j].2.1)) 170100:=(zs.mul z1).mono (by omega);have m2:=qaF (z2.sm (by decide)) (vsz.sm (by decide));rw[qai,qai] at m2;have m2:qap (canQ (sumP P j*(1-P[j].2.1))) (((canQ v).1.1,(canQ v).1.2),(canQ v).2)=_:=m2;have z3:SzQ (sumP P j*(1-P[j].2.1)*v) 170300:=(z2.mul vsz).mono (by omega);have a2:=qdb (zr.sm (by decide)) (z3.sm (by decide));rw[qai,qai] at a2;have hx:=hset (o F+rsum (lfT P v F) j+sumP P j*(1-P[j].2.1)*v) (by
    rw[rsum,qnw hj,if_pos hF.symm,hok];simp only[one0,if_true];grind)
   rw[cond_true,qiS,bS0,a1,bS0,cnd2 c1 c2,tN0,g2,bS0,m1,bS0,m2,bS0,a2,bS0,cnd2 c1 c2,bS0,hx]
  | false =>
   have m1:=qaF (zs.sm (by decide)) (zn.sm (by omega));rw[qai,qai] at m1;have z2:SzQ (sumP P j*(-P[j].2.1)) 170100:=(zs.mul zn).mono (by omega);have m2:=qaF (z2.sm (by decide)) (vsz.sm (by decide));rw[qai,qai] at m2;have m2:qap (canQ (sumP P j*(-P[j].2.1))) (((canQ v).1.1,(canQ v).1.2),(canQ v).2)=_:=m2;have z3:SzQ (sumP P j*(-P[j].2.1)*v) 170300:=(z2.mul vsz).mono (by omega);have a2:=qdb (zr.sm (by decide)) (z3.sm (by decide));rw[qai,qai] at a2;have hx:=hset (o F+rsum (lfT P v F) j+sumP P j*(-P[j].2.1)*v) (by
    rw[rsum,qnw hj,if_pos hF.symm,hok];simp only[one0,Bool.false_eq_true,if_false];grind)
   rw[cond_false,cnd2 c1 c2,tN0,g2,bS0,m1,bS0,m2,bS0,a2,bS0,cnd2 c1 c2,bS0,hx]) (by
  intro g;rw[qao,cnd' (by omega)])
 have e0:flo n (fun f=>o f+rsum (lfT P v f) 0)=flo n o:=qk3 fun f _=>Rat.add_zero _
 rw[e0] at key;have key:lp qao K0 ((encW P,(P.length:Int),0,()),(((i:Int),(canQ gn).1.1,(canQ gn).1.2,(canQ gn).2,a4,a5,a6,a7,a8,()),((canQ v).1.1,(canQ v).1.2,(canQ v).2,()),(t,row,fx,on,flo n o,()),(encK P (wtP P),()),()))=_:=key;have m0:qap (((canQ gn).1.1,(canQ gn).1.2),(canQ gn).2) t[i].2.2.2.2.2.2.1=some (canQ v):=by
  rw[qc6 hi] at m0;exact m0
 rw[qbd,cnd (by omega),tN0,gE0 hi,bS0,m0,bS0,qoE (by omega),bS0];dsimp only;rw[qmE,key,bS0];dsimp only;rw[qa2,qa2,Nat.beq_refl,cond_true,bS0];rfl
def kOn (t:List NODE) (row:List CELL) (fx:Int) (on:Bool) (i:Nat) (side:Bool):Bool:=if qb3 (qcd t i)=fx then (if on then goL t row i == side else true) else true
def kG (t:List NODE) (fx:Int) (on:Bool) (i c:Nat) (g:Rat):Rat:=if qb3 (qcd t i)=fx then (if on then g else g*(cov t c/cov t i)) else g
def kF (t:List NODE) (fx:Int) (i:Nat):Int:=if qb3 (qcd t i)=fx then -1 else qb3 (qcd t i)
def kW (t:List NODE) (row:List CELL) (fx:Int) (i c:Nat) (side:Bool) (w:List AP):List AP:=if qb3 (qcd t i)=fx then w else qiK (quf t i) (cov t c/cov t i) (goL t row i == side) w
abbrev PL:=Rat×List AP
def qjh (t:List NODE) (row:List CELL) (fx:Int) (on:Bool):TR->List AP->Rat->List PL
 | .leaf i,w,g=>[(g*rv (nVal (qcd t i)),w)]
 | .split i l r,w,g =>
  (if kOn t row fx on i true then qjh t row fx on l (kW t row fx i l.top true w) (kG t fx on i l.top g) else []) ++
  (if kOn t row fx on i false then qjh t row fx on r (kW t row fx i r.top false w) (kG t fx on i r.top g) else [])
def visF (t:List NODE) (row:List CELL) (fx:Int) (on:Bool):TR->Nat
 | .leaf i=>1
 | .split i l r=>1+(if kOn t row fx on i true then visF t row fx on l else 0)+(if kOn t row fx on i false then visF t row fx on r else 0)
theorem qsy (t:List NODE) (row:List CELL) (fx:Int) (on:Bool) (T:TR):0<visF t row fx on T:=by cases T<;>simp [visF];omega
theorem qyB (t:List NODE) (row:List CELL) (fx:Int) (on:Bool) (T:TR):visF t row fx on T<=T.size:=by
 induction T with
 | leaf i=>simp [visF,TR.size]
 | split i l r ihl ihr =>
  simp only[visF,TR.size];split<;>split<;>omega
structure IT where
 T:TR
 P:List AP
 g:Rat
 s:PART
 w:List AP
abbrev ITE:=Int×(Option ((Option (List (Int×RAT×CELL)))×Unit))×RAT×PART
def encI (x:IT):ITE:=((x.T.top:Int),some (some (encK x.P (wtP x.P)),()),canQ x.g,x.s)
def qrl (t:List NODE) (n:Nat) (x:IT):Prop:=∃ m,Is t (n:Int) x.T/\m+x.T.deep<=8/\SzQ x.g (8*m+1)/\qoa x.w /\
 ((x.s.1 = -1 /\ qfw x.P (8 * m + 1) n /\ x.P.length <= m /\ x.P.Perm x.w) \/
  ∃ (m' f:Nat) (q:Rat) (ok:Bool) (w0:List AP),m=m'+1/\x.s=((f:Int),canQ q,ok)/\f<n/\SzQ q 8/\0<q/\qfw x.P (8*m'+1) n/\x.P.length<=m'/\x.P.Perm w0/\qoa w0/\x.w=qiK f q ok w0)
theorem qrl.join {t:List NODE} {n:Nat} {x:IT} (h:qrl t n x) (hn:n<1000000):∃ (m:Nat) (P':List AP),Is t (n:Int) x.T/\m+x.T.deep<=8/\SzQ x.g (8*m+1)/\qoa x.w/\qfw P' (8*m+1) n/\P'.length<=m/\P'.Perm x.w /\
   qaJ (x.T.top:Int) (canQ x.g).1.1 (canQ x.g).1.2 (canQ x.g).2 x.s.1 x.s.2.1.1.1 x.s.2.1.1.2 x.s.2.1.2 x.s.2.2 (encK x.P (wtP x.P)) =
    some ((x.T.top:Int),(canQ x.g).1.1,(canQ x.g).1.2,(canQ x.g).2,x.s.1,x.s.2.1.1.1,x.s.2.1.1.2,x.s.2.1.2,x.s.2.2,encK P' (wtP P')):=by
 obtain⟨m,h1,h2,h3,h4,h5⟩:=h;have hd:=x.T.deep_pos;rcases h5 with ⟨a1,a2,a3,a4⟩ | ⟨m',f,q,ok,w0,b1,b2,b3,b4,b5,b6,b7,b8,b9,b10⟩
 · refine ⟨m, x.P, h1, h2, h3, h4, a2, a3, a4, ?_⟩;rw[a1,qaJ,cnd (by omega)]
 · subst b1;obtain⟨P',p1,p2,p3,p4⟩:=qzg b6 b8 b9 (ok:=ok) b3 hn b4 b5 b7 (by omega) (x.T.top:Int) (canQ x.g).1.1 (canQ x.g).1.2 (canQ x.g).2;refine⟨m'+1,P',h1,h2,h3,h4,p2,p3,by rw[b10];exact p1,?_⟩;rw[b2];exact p4
def kid (t:List NODE) (row:List CELL) (fx:Int) (on:Bool) (i:Nat) (side:Bool) (c:TR) (P w:List AP) (g:Rat):IT :=
 ⟨c,P,kG t fx on i c.top g,(kF t fx i,canQ (cov t c.top/cov t i),goL t row i == side),kW t row fx i c.top side w⟩
theorem qsU {t:List NODE} {row:List CELL} {fx:Int} {on:Bool} {n i m:Nat} {side:Bool} {c:TR} {P w:List AP} {g:Rat} (hs:TSz t 4) (hcov:qgX t) (hi:i<t.length) (f0:0<=qb3 t[i]) (f1:qb3 t[i]<(n:Int)) (hc:Is t (n:Int) c)
   (hm:m+1+c.deep<=8) (hg:SzQ g (8*m+1)) (hw:qoa w) (hP:qfw P (8*m+1) n) (hl:P.length<=m) (hpw:P.Perm w):qrl t n (kid t row fx on i side c P w g):=by
 have hsh:=qsH hs hc.top_lt hi;refine⟨m+1,hc,hm,?_,?_,?_⟩
 · show SzQ (kG t fx on i c.top g) _;unfold kG;split
   · split
     · exact hg.mono (by omega)
     · exact(hg.mul hsh).mono (by omega)
   · exact hg.mono (by omega)
 · show qoa (kW t row fx i c.top side w);unfold kW;split
   · exact hw
   · exact quu hw
 · by_cases hf : qb3 (qcd t i) = fx
   · refine .inl ⟨?_, hP.mono (by omega), by show P.length <= _; omega, ?_⟩
     · show kF t fx i = -1;exact if_pos hf
     · show P.Perm (kW t row fx i c.top side w);rw[kW,if_pos hf];exact hpw
   · refine .inr ⟨m, quf t i, cov t c.top / cov t i, goL t row i == side, w, rfl, ?_, ?_, hsh, ?_, hP, hl, hpw, hw, ?_⟩
     · show (kF t fx i, _, _) = _;rw[kF,if_neg hf,quf,qc6 hi];rw[show((((qb3 t[i]).toNat:Nat)):Int)=qb3 t[i] by omega]
     · rw[quf,qc6 hi];omega
     · have h1 : 0 < cov t c.top := by have := hcov c.top hc.top_lt; rwa [<- qhf hc.top_lt] at this
       have h2:0<cov t i:=by have:=hcov i hi;rwa [<- qhf hi] at this
       rw[Rat.div_def];exact Rat.mul_pos h1 (Rat.inv_pos.2 h2)
     · show kW t row fx i c.top side w = _;exact if_neg hf
theorem qwB {P:List AP} {w:Nat->Rat} (hl:P.length<=1000000):qcD (encK P w)=some (encK P w,encK P w):=by
 rw[qcD,blt (by rw[qcK];simp;omega),cond_true,List.nil_append]
theorem qtc {t:List NODE} {row:List CELL} {fx:Int} {on:Bool} {i:Nat} {c:TR} {P w:List AP} {W:Nat->Rat} {g:Rat} {m:Nat} (hs:TSz t 4) (hc:CSz row 9) (hcov:qgX t) (hi:i<t.length) (hleaf:qgN t[i]=false) (f0:0<=qb3 t[i]) (f1:qb3 t[i]<(row.length:Int))
   (hl:c.top<t.length) (hP:P.length<=1000000) (hg:SzQ g 1000) (side:Bool) (out:List RAT) (a4:Int) (a5:Bool) (a6 a7:List Int) (a8:Bool) :
   qbv (i:Int) (canQ g).1.1 (canQ g).1.2 (canQ g).2 a4 a5 a6 a7 a8 (c.top:Int) side t row fx on out (encK P W) =
    some (out,(c.top:Int),(canQ (kG t fx on i c.top g)).1.1,(canQ (kG t fx on i c.top g)).1.2,(canQ (kG t fx on i c.top g)).2,kF t fx i,(canQ (cov t c.top/cov t i)).1.1,(canQ (cov t c.top/cov t i)).1.2,(canQ (cov t c.top/cov t i)).2,(goL t row i == side),kOn t row fx on i side,t,row,fx,on,encK P W,encK P W):=by
 obtain⟨cc,g1,g2,g3⟩:=qAh (f:=0) hs hc hi f0 f1;have z:=hs _ (gM0 hi);have zl:=hs _ (gM0 hl);have hne:rv (nCov t[i])≠0:=by have:=hcov.ne i hi;rwa [qhf hi] at this
 have d1:=qqd (a:=nCov t[c.top]) (b:=nCov t[i]) (zl.2.2.sm (by decide)) (z.2.2.sm (by decide));rw[if_neg hne,<- qhf hl,<- qhf hi] at d1;have hsh:=qsH hs hl hi;have hb:∀ {α:Type} {a b:α},(bif Nat.beq out.length out.length then a else b)=a:=fun {α a b}=>by rw[Nat.beq_refl,cond_true]
 have hfe:qb3 (qcd t i)=t[i].2.1:=by rw[qc6 hi]
 have hgl:(!qgN t[i]&&goes t[i] cc)=goL t row i:=by rw[hleaf,Bool.not_false,Bool.true_and,g3]
 rw[qbv,cnd (by omega),tN0,gE0 hi,bS0,cnd (by omega),tN0,gE0 hl,bS0];show(qhy (nCov t[c.top]) (nCov t[i])).bind _=_;rw[d1,bS0,cnd (by exact f0)];show((row[(qb3 t[i]).toNat]?).bind _)=_;rw[g1,bS0,qzG z.1 (by decide) g2 (by decide),bS0,hgl,qwB hP,bS0];by_cases hf:qb3 (qcd t i)=fx
 · have e1 : (!decide (t[i].2.1 = fx)) = false := by rw [<- hfe, decide_eq_true hf]; rfl
   have e2:kF t fx i=-1:=if_pos hf;rw[e1,cond_false,e2];cases on with
   | true =>
    have e3:kG t fx true i c.top g=g:=by rw[kG,if_pos hf];rfl
    have e4:kOn t row fx true i side=(goL t row i == side):=by rw[kOn,if_pos hf];rfl
    rw[cond_true,hb,bS0,e3,e4]
   | false =>
    have e3:kG t fx false i c.top g=g*(cov t c.top/cov t i):=by rw[kG,if_pos hf];rfl
    have e4:kOn t row fx false i side=true:=by rw[kOn,if_pos hf];rfl
    have m1:=qaF (hg.sm (by decide)) (hsh.sm (by decide));rw[qai,qai] at m1;have m1:qap (((canQ g).1.1,(canQ g).1.2),(canQ g).2) (canQ (cov t c.top/cov t i))=_:=m1;rw[cond_false,m1,bS0,hb,bS0,e3,e4]
 · have e1 : (!decide (t[i].2.1 = fx)) = true := by rw [<- hfe, decide_eq_false hf]; rfl
   have e2:kF t fx i=t[i].2.1:=by rw[kF,if_neg hf,hfe]
   have e3:kG t fx on i c.top g=g:=if_neg hf;have e4:kOn t row fx on i side=true:=if_neg hf;rw[e1,cond_true,hb,bS0,e2,e3,e4]
def qpp (t:List NODE) (row:List CELL) (fx:Int) (on:Bool) (i:Nat) (l r:TR) (P w:List AP) (g:Rat):List IT :=
 (if kOn t row fx on i false then [kid t row fx on i false r P w g] else [])++(if kOn t row fx on i true then [kid t row fx on i true l P w g] else [])
theorem qzf {t:List NODE} {row:List CELL} {fx:Int} {on:Bool} {i:Nat} {l r:TR} {P w:List AP} {g:Rat} (hs:TSz t 4) (hc:CSz row 9) (hcov:qgX t) (hi:i<t.length) (hleaf:qgN t[i]=false) (f0:0<=qb3 t[i]) (f1:qb3 t[i]<(row.length:Int))
  (hl:l.top<t.length) (hr:r.top<t.length) (hP:P.length<=1000000) (hg:SzQ g 1000) (out:List RAT) (a4:Int) (a5:Bool) (a6 a7:List Int) (a8:Bool) (c0:Bool) (c1:Int) (c2:Bool) (c3 c4:List Int) (c7 c8:Bool) (c9 c10:List Int) (c11:Bool) (c12 c13:List Int)
  (base:List ITE) (hb:base.length<=1000000) :
  lp qaj K0 (((false,(true,())),0,()),(((i:Int),(canQ g).1.1,(canQ g).1.2,(canQ g).2,a4,a5,a6,a7,a8,()),(c0,c1,c2,c3,c4,(l.top:Int),(r.top:Int),c7,c8,c9,c10,c11,c12,c13,()),(encK P (wtP P),()),(t,row,fx,on,out,base,()),())) =
    some ((),((t,row,fx,on,out,base++(qpp t row fx on i l r P w g).map encI,()),())):=by
 obtain⟨A,eA⟩:∃ A:List IT,A=if kOn t row fx on i false then [kid t row fx on i false r P w g] else []:=⟨_,rfl⟩
 obtain⟨B,eB⟩:∃ B:List IT,B=if kOn t row fx on i true then [kid t row fx on i true l P w g] else []:=⟨_,rfl⟩
 have eK:qpp t row fx on i l r P w g=A++B:=by rw[eA,eB];rfl
 have lA:A.length<=1:=by rw[eA];split<;>simp
 obtain⟨K,hK⟩:∃ K:Nat->List ITE,K=fun j=>if j=0 then [] else if j=1 then A.map encI else (A++B).map encI:=⟨_,rfl⟩
 have K0':K 0=[]:=by rw[hK];rfl
 have K1:K 1=A.map encI:=by rw[hK];rfl
 have K2:K 2=(A++B).map encI:=by rw[hK];rfl
 have ov:over out 0 out=out:=qjC rfl;have hc1:=fun side=>qtc (fx:=fx) (on:=on) (c:=r) (P:=P) (w:=w) (W:=wtP P) (g:=g) (m:=0) hs hc hcov hi hleaf f0 f1 hr hP hg side out a4 a5 a6 a7 a8
 have hc2:=fun side=>qtc (fx:=fx) (on:=on) (c:=l) (P:=P) (w:=w) (W:=wtP P) (g:=g) (m:=0) hs hc hcov hi hleaf f0 f1 hl hP hg side out a4 a5 a6 a7 a8
 have key:=qfM (step:=qaj) (fun j=>(((false,(true,())),(j:Int),()),(((i:Int),(canQ g).1.1,(canQ g).1.2,(canQ g).2,a4,a5,a6,a7,a8,()),(c0,c1,c2,c3,c4,(l.top:Int),(r.top:Int),c7,c8,c9,c10,c11,c12,c13,()),(encK P (wtP P),()),(t,row,fx,on,out,base++K j,()),()))) 2
  (r:=((),((t,row,fx,on,out,base++K 2,()),()))) (by omega) (by
  intro g' j hj;have hj2:j=0\/j=1:=by omega
  rcases hj2 with rfl | rfl
  · rw [qaj, cnd (by omega), cnd (by omega)];show((([false,true]:List Bool)[0]?).bind _)=_;rw[show(([false,true]:List Bool)[0]?)=some false from rfl,bS0,cond_false,hc1 false,bS0];dsimp only;rw[K0',List.append_nil,show((0+1:Nat))=1 from rfl,K1,ov];cases hk:kOn t row fx on i false with
    | true =>
     have eA':A=[kid t row fx on i false r P w g]:=by rw[eA,hk];rfl
     rw[cond_true,blt (by simp;omega),cond_true,eA'];rfl
    | false =>
     have eA':A=[]:=by rw[eA,hk];rfl
     rw[cond_false,eA',List.map_nil,List.append_nil];rfl
  · rw [qaj, cnd (by omega), cnd (by omega)];show((([false,true]:List Bool)[1]?).bind _)=_;rw[show(([false,true]:List Bool)[1]?)=some true from rfl,bS0,cond_true,hc2 true,bS0];dsimp only;rw[show((1+1:Nat))=2 from rfl,K1,K2,ov];cases hk:kOn t row fx on i true with
    | true =>
     have eB':B=[kid t row fx on i true l P w g]:=by rw[eB,hk];rfl
     rw[cond_true,blt (by simp;omega),cond_true,eB',List.map_append,<- List.append_assoc];rfl
    | false =>
     have eB':B=[]:=by rw[eB,hk];rfl
     rw[cond_false,eB',List.append_nil];rfl) (by
  intro g';rw[qaj,cnd' (by omega)])
 rw[K0',K2,<- eK,List.append_nil] at key;exact key
def totL (n f:Nat) (l:List PL):Rat:=lsum (l.map fun y=>qjJ (fun S=>qcN S y.2*y.1) n f)
theorem qrs (n f:Nat) (a b:List PL):totL n f (a++b)=totL n f a+totL n f b:=by rw[totL,List.map_append,qft];rfl
def totI (t:List NODE) (row:List CELL) (fx:Int) (on:Bool) (n f:Nat) (x:IT):Rat:=totL n f (qjh t row fx on x.T x.w x.g)
def visL (t:List NODE) (row:List CELL) (fx:Int) (on:Bool):List IT->Nat
 | []=>0
 | x::L=>visF t row fx on x.T+visL t row fx on L
theorem qjY (t:List NODE) (row:List CELL) (fx:Int) (on:Bool) (a b:List IT):visL t row fx on (a++b)=visL t row fx on a+visL t row fx on b:=by
 induction a with
 | nil=>simp [visL]
 | cons x a ih=>simp only[List.cons_append,visL,ih];omega
theorem qsx (t:List NODE) (row:List CELL) (fx:Int) (on:Bool) (a:List IT):a.length<=visL t row fx on a:=by
 induction a with
 | nil=>simp [visL]
 | cons x a ih=>have:=qsy t row fx on x.T;simp only[List.length_cons,visL];omega
theorem qxm (t:List NODE) (row:List CELL) (fx:Int) (on:Bool) (i:Nat) (l r:TR) (P w:List AP) (g:Rat) :
  visF t row fx on (.split i l r)=1+visL t row fx on (qpp t row fx on i l r P w g):=by
 rw[qpp,qjY];simp only[visF];cases kOn t row fx on i true<;>cases kOn t row fx on i false<;>simp [visL,kid]<;>omega
theorem qxn (t:List NODE) (row:List CELL) (fx:Int) (on:Bool) (n f i:Nat) (l r:TR) (P w:List AP) (g:Rat) :
   totL n f (qjh t row fx on (.split i l r) w g)=lsum ((qpp t row fx on i l r P w g).map (totI t row fx on n f)):=by
 rw[qpp,List.map_append,qft];simp only[qjh];rw[qrs,Rat.add_comm];congr 1
 · cases kOn t row fx on i false
   · rfl
   · simp only[if_true,List.map_cons,List.map_nil,lsum,Rat.add_zero];rfl
 · cases kOn t row fx on i true
   · rfl
   · simp only[if_true,List.map_cons,List.map_nil,lsum,Rat.add_zero];rfl
theorem quy {t:List NODE} {row:List CELL} {fx:Int} {on:Bool} {T:TR} {o:Nat->Rat} (hs:TSz t 4) (hc:CSz row 9) (hcov:qgX t) (hT:Is t (row.length:Int) T) (h0:T.top=0) (hd:T.deep<=8) (hz:T.size<=100) (hrl:row.length<=64)
  {S:Nat} (ho:∀ f,f<row.length->SzQ (o f) S) (hS:S<=50000000000) :
  (∃ st,qbO t row fx on (flo row.length o) []=some (flo row.length (fun f=>o f+totL row.length f (qjh t row fx on T [] 1)),t,row,fx,on,st))/\∀ f,f<row.length->SzQ (o f+totL row.length f (qjh t row fx on T [] 1)) (S+200000000):=by
 obtain⟨n,hn⟩:∃ n,n=row.length:=⟨_,rfl⟩;obtain⟨N,hN⟩:∃ N,N=visF t row fx on T:=⟨_,rfl⟩;have hN2:N<=100:=by rw[hN];exact Nat.le_trans (qyB _ _ _ _ _) hz
 obtain⟨x0,hx0⟩:∃ x0:IT,x0=⟨T,[],1,(-1,(((false,[]),[]),false)),[]⟩:=⟨_,rfl⟩;have t0:∀ f,totI t row fx on n f x0=totL n f (qjh t row fx on T [] 1):=fun f=>by rw[hx0];rfl
 have hg0:qrl t n x0:=by
  refine⟨0,by rw[hx0,hn];exact hT,by rw[hx0];show 0+T.deep<=8;omega,by rw[hx0];exact SzQ.one,by rw[hx0];exact List.Pairwise.nil,.inl ⟨by rw[hx0],?_,by simp [hx0],by simp [hx0]⟩⟩
  rw[hx0];exact⟨List.Pairwise.nil,fun p hp=>absurd hp (by simp),by simp,fun p hp=>absurd hp (by simp),fun p hp=>absurd hp (by simp)⟩
 rw[<- hn];obtain⟨res,hres,hlp⟩:=qkS (step:=qan)
  (fun j v=>∃ (L:List IT) (o':Nat->Rat),v=((),((t,row,fx,on,flo n o',L.map encI,()),()))/\(∀ x∈L,qrl t n x)/\j+visL t row fx on L=N/\(∀ f,f<n->SzQ (o' f) (S+2000000*j))/\∀ f,f<n->o' f+lsum (L.map (totI t row fx on n f))=o f+totI t row fx on n f x0)
  (fun r=>(∃ (st:List ITE),r=((),((t,row,fx,on,flo n (fun f=>o f+totI t row fx on n f x0),st,()),())))/\∀ f,f<n->SzQ (o f+totI t row fx on n f x0) (S+200000000)) N
  (v:=((),((t,row,fx,on,flo n o,[x0].map encI,()),())))
  ⟨[x0],o,rfl,fun x hx=>by rw[List.mem_singleton.1 hx];exact hg0,by simp only[visL,hx0];omega,fun f hf=>(ho f (by omega)).mono (by omega),fun f hf=>by simp only[List.map_cons,List.map_nil,lsum,Rat.add_zero]⟩
  (by omega)
  (by
   rintro j v hj ⟨L,o',rfl,hL,hv,hsz,htot⟩;rcases List.eq_nil_or_concat L with rfl | ⟨L0,x,rfl⟩
   · simp only[visL] at hv;omega
   rw[List.concat_eq_append] at *;have hx:qrl t n x:=hL x (by simp);obtain⟨m,P',j1,j2,j3,j4,j5,j6,j7,j8⟩:=hx.join (by omega);rw[qjY] at hv;simp only[visL,Nat.add_zero] at hv;have hvp:=qsy t row fx on x.T;have hvl:=qsx t row fx on L0;obtain⟨base,hbase⟩:∃ base,base=L0.map encI:=⟨_,rfl⟩;have lb:base.length=L0.length:=by rw[hbase];simp
   have eS:(L0++[x]).map encI=base++[encI x]:=by rw[hbase];simp
   have hi:=j1.top_lt;have qS:∀ y:ITE,isub .i64 ((base++[y]).length:Int) 1=(base.length:Int):=fun y=>by
     rw[List.length_append,List.length_singleton,qdF (by omega) (by omega)];omega
   have gS:(base++[encI x])[base.length]?=some (encI x):=by simp
   have sS:∀ y,(base++[encI x]).set base.length y=base++[y]:=fun y=>by simp
   have cS:∀ y:ITE,(decide ((0:Int)<=(base.length:Int))&&decide (((base.length:Int):Int)<=(base.length:Int))&&decide (((base.length:Int):Int)<=((base++[y]).length:Int)))=true:=fun y=>by
     simp only[Bool.and_eq_true,decide_eq_true_eq,List.length_append,List.length_singleton];omega
   have tS:∀ y:ITE,(base++[y]).take (((base.length:Int)-0).toNat)=base:=fun y=>by
     rw[show((base.length:Int)-0).toNat=base.length by omega];simp
   have hpos:(((base++[encI x]).length:Nat):Int)>0:=by rw[List.length_append,List.length_singleton];omega
   have d2:(base.length:Int)<(((base++[encI x]).length:Nat):Int):=by rw[List.length_append,List.length_singleton];omega
   have walkE:∀ g,qan g ((),((t,row,fx,on,flo n o',(L0++[x]).map encI,()),())) =
       bif t[x.T.top].1 then ((qbd (x.T.top:Int) (canQ x.g).1.1 (canQ x.g).1.2 (canQ x.g).2 x.s.1 x.s.2.1.1.1 x.s.2.1.1.2 x.s.2.1.2 x.s.2.2 t row fx on (flo n o') (encK P' (wtP P'))).bind fun r8=>g ((()),((r8.2.1,r8.2.2.1,r8.2.2.2.1,r8.2.2.2.2.1,(over (flo n o') 0 r8.1),base,()),())))
       else ((lp qaj K0 (((false,(true,())),0,()),(((x.T.top:Int),(canQ x.g).1.1,(canQ x.g).1.2,(canQ x.g).2,x.s.1,x.s.2.1.1.1,x.s.2.1.1.2,x.s.2.1.2,x.s.2.2,()),(t[x.T.top].1,t[x.T.top].2.1,t[x.T.top].2.2.1.1.1,t[x.T.top].2.2.1.1.2,t[x.T.top].2.2.1.2,t[x.T.top].2.2.2.1,t[x.T.top].2.2.2.2.1,t[x.T.top].2.2.2.2.2.1,t[x.T.top].2.2.2.2.2.2.1.1.1,t[x.T.top].2.2.2.2.2.2.1.1.2,t[x.T.top].2.2.2.2.2.2.1.2,t[x.T.top].2.2.2.2.2.2.2.1.1,t[x.T.top].2.2.2.2.2.2.2.1.2,t[x.T.top].2.2.2.2.2.2.2.2,()),(encK P' (wtP P'),()),(t,row,fx,on,flo n o',base,()),()))).bind fun t12=>g ((()),((t12.2.1.1,t12.2.1.2.1,t12.2.1.2.2.1,t12.2.1.2.2.2.1,t12.2.1.2.2.2.2.1,t12.2.1.2.2.2.2.2.1,()),()))):=fun g=>by
     rw[qan,eS,cnd hpos,qS,cnd2 (by omega) d2,tN0,gS,bS0];show((some (some (encK x.P (wtP x.P)),()):Option ((Option (List (Int×RAT×CELL)))×Unit)).bind _)=_;rw[bS0];show((some (encK x.P (wtP x.P)):Option (List (Int×RAT×CELL))).bind _)=_;rw[bS0,sS,qS,cS,cond_true,tS];show(qaJ (x.T.top:Int) (canQ x.g).1.1 (canQ x.g).1.2 (canQ x.g).2 x.s.1 x.s.2.1.1.1 x.s.2.1.1.2 x.s.2.1.2 x.s.2.2 (encK x.P (wtP x.P))).bind _=_;rw[j8,bS0];dsimp only;rw[cnd (by omega),tN0,gE0 hi,bS0]
   have hm7:m<=7:=by have:=x.T.deep_pos;omega
   cases hxT:x.T with
   | leaf i =>
     rw[hxT] at j1 j2 hi hv;simp only[hxT] at walkE;obtain⟨i1,i2⟩:=j1;have hlf:=qzd (t:=t) (row:=row) (fx:=fx) (on:=on) j5 (by omega) (by omega) i1 (j3.mono (by omega)) hs (o:=o') (fun f hf=>(hsz f hf).mono (by omega)) (by omega) x.s.1 x.s.2.1.1.1 x.s.2.1.1.2 x.s.2.1.2 x.s.2.2;obtain⟨v,hv'⟩:∃ v,v=x.g*rv (nVal (qcd t i)):=⟨_,rfl⟩;rw[<- hv'] at hlf;have hvz:SzQ v 200:=by rw[hv'];exact((j3.mono (show 8*m+1<=100 by omega)).mul ((hs.at i1).2.1.szQ (by decide))).mono (by decide)
     refine⟨((),((t,row,fx,on,flo n (fun f=>o' f+qt5 P' v f),L0.map encI,()),())),⟨L0,_,rfl,fun y hy=>hL y (by simp [hy]),by simp only[visF] at hv;omega,fun f hf=>?_,fun f hf=>?_⟩,fun g=>?_⟩
     · have h1 := qkt (k := 180000) P'.length (fun i hi => qye j5 (by omega) (by omega) hvz f hi);have h1:SzQ (qt5 P' v f) _:=h1;have:P'.length*(180000+1)<=8*(180000+1):=Nat.mul_le_mul_right _ (by omega);exact((hsz f hf).add h1).mono (by omega)
     · have e := htot f hf;rw[List.map_append,qft] at e;simp only[List.map_cons,List.map_nil,lsum,Rat.add_zero] at e;have e2:totI t row fx on n f x=qt5 P' v f:=by
         rw[totI,hxT,qt4 j5 hf];simp only[qjh,totL,List.map_cons,List.map_nil,lsum,Rat.add_zero];rw[<- hv'];refine qrv hf fun S _=>?_
         rw[qm8 j7]
       rw[e2] at e;rw[<- e];grind
     · rw [walkE g];show(bif t[i].1 then _ else _)=_;rw[show t[i].1=true from i2,cond_true];show(qbd (i:Int) _ _ _ _ _ _ _ _ _ _ _ _ _ _).bind _=_;rw[hlf,bS0];dsimp only;rw[qjC (by rw[qa2,qa2]),hbase]
   | split i l r =>
     rw[hxT] at j1 j2 hi hv;simp only[hxT,TR.top] at walkE;obtain⟨i1,i2,f0,f1,i3,i4,i5,i6⟩:=j1;simp only[TR.deep] at j2;have hkd:=qzf (t:=t) (row:=row) (fx:=fx) (on:=on) (i:=i) (l:=l) (r:=r) (P:=P') (w:=x.w) (g:=x.g) hs hc hcov i1 i2 f0 (by omega) i5.top_lt i6.top_lt (by omega) (j3.mono (by omega)) (flo n o') x.s.1 x.s.2.1.1.1 x.s.2.1.1.2 x.s.2.1.2 x.s.2.2
       false t[i].2.1 t[i].2.2.1.1.1 t[i].2.2.1.1.2 t[i].2.2.1.2 t[i].2.2.2.2.2.1 t[i].2.2.2.2.2.2.1.1.1 t[i].2.2.2.2.2.2.1.1.2 t[i].2.2.2.2.2.2.1.2 t[i].2.2.2.2.2.2.2.1.1 t[i].2.2.2.2.2.2.2.1.2 t[i].2.2.2.2.2.2.2.2 base (by omega)
     refine⟨((),((t,row,fx,on,flo n o',(L0++qpp t row fx on i l r P' x.w x.g).map encI,()),())),⟨L0++qpp t row fx on i l r P' x.w x.g,o',rfl,fun y hy=>?_,?_,fun f hf=>(hsz f hf).mono (by omega),fun f hf=>?_⟩,fun g=>?_⟩
     · rcases List.mem_append.1 hy with hy | hy
       · exact hL y (by simp [hy])
       · have hgl : ∀ side, qrl t n (kid t row fx on i side l P' x.w x.g) := fun side => qsU hs hcov i1 f0 f1 i5 (by omega) j3 j4 j5 j6 j7
         have hgr:∀ side,qrl t n (kid t row fx on i side r P' x.w x.g):=fun side=>qsU hs hcov i1 f0 f1 i6 (by omega) j3 j4 j5 j6 j7
         rcases List.mem_append.1 hy with hy | hy
         · split at hy
           · rw[List.mem_singleton.1 hy];exact hgr _
           · cases hy
         · split at hy
           · rw[List.mem_singleton.1 hy];exact hgl _
           · cases hy
     · have := qxm t row fx on i l r P' x.w x.g;rw[qjY];omega
     · have e := htot f hf;rw[List.map_append,qft] at e;simp only[List.map_cons,List.map_nil,lsum,Rat.add_zero] at e;have e2:totI t row fx on n f x=lsum ((qpp t row fx on i l r P' x.w x.g).map (totI t row fx on n f)):=by
         rw[totI,hxT];exact qxn t row fx on n f i l r P' x.w x.g
       rw[e2] at e;rw[List.map_append,qft];exact e
     · rw [walkE g];show(bif t[i].1 then _ else _)=_;rw[show t[i].1=false from i2,cond_false];rw[show t[i].2.2.2.1=(l.top:Int) from i3,show t[i].2.2.2.2.1=(r.top:Int) from i4,hkd,bS0];dsimp only;rw[hbase,<- List.map_append])
  (by
   rintro v ⟨L,o',rfl,hL,hv,hsz,htot⟩;have hl:=qsx t row fx on L;have:L=[]:=by
     cases L with
     | nil=>rfl
     | cons x L=>simp only[List.length_cons] at hl;omega
   subst this;refine⟨((),((t,row,fx,on,flo n o',List.map encI [],()),())),⟨⟨List.map encI [],?_⟩,fun f hf=>?_⟩,fun g=>?_⟩
   · have : flo n o' = flo n (fun f => o f + totI t row fx on n f x0) := qk3 fun f hf => by
       rw[<- htot f hf];simp only[List.map_nil,lsum,Rat.add_zero]
     rw[this]
   · rw [<- htot f hf];simp only[List.map_nil,lsum,Rat.add_zero];exact(hsz f hf).mono (by omega)
   · rw[qan,cnd' (by simp)])
 obtain⟨⟨st,rfl⟩,hrs⟩:=hres;refine⟨⟨st,?_⟩,fun f hf=>by have:=hrs f hf;rwa [t0] at this⟩
 have e0:[x0].map encI=[((0:Int),(some (some (encK [] (wtP [])),()):Option ((Option (List (Int×RAT×CELL)))×Unit)),canQ 1,((-1:Int),(((false,[]),[]),false)))]:=by
  rw[hx0];simp only[List.map_cons,List.map_nil,encI,h0];rfl
 rw[e0] at hlp;rw[qbO,qxU,bS0,qiS,bS0];have hlp:lp qan K0 (((),((t,row,fx,on,flo n o,[(0,((some ((some (encK [] (wtP []))),())),(canQ 1,((-1),(((false,[]),[]),false)))))],()),())))=_:=hlp;rw[hlp,bS0];dsimp only;rw[qa2,qa2,Nat.beq_refl,cond_true,bS0];simp only[t0]
def trV (t:List NODE) (row:List CELL) (fx:Int) (on:Bool) (f:Nat):Rat:=totL row.length f (qjh t row fx on (treeOf t) [] 1)
def qgZ (m:qaq) (row:List CELL) (fx:Int) (on:Bool) (f:Nat):Rat:=rsum (fun j=>trV (qbS m j) row fx on f) m.2.length
theorem Askd.deep8 {m:qaq} {row:List CELL} (h:Askd m row) {i:Nat} (hi:i<m.2.length):(treeOf m.2[i]).deep<=8/\(treeOf m.2[i]).size<=15:=by
 have h1:=h.good.treeOf hi;have hsh:qoD m.2[i]:=h.good.2 1 (by decide) i hi;have h2:=quN hsh h1.1;have h3:=qv1 (treeOf m.2[i]);have h4:=h.mt _ (gM0 hi);omega
theorem Askd.walk {m:qaq} {row:List CELL} (h:Askd m row) {i:Nat} (hi:i<m.2.length) (fx:Int) (on:Bool) {o:Nat->Rat} {S:Nat} (ho:∀ f,f<row.length->SzQ (o f) S) (hS:S<=50000000000) :
  (∃ st,qbO m.2[i] row fx on (flo row.length o) []=some (flo row.length (fun f=>o f+trV (qbS m i) row fx on f),m.2[i],row,fx,on,st))/\∀ f,f<row.length->SzQ (o f+trV (qbS m i) row fx on f) (S+200000000):=by
 obtain⟨t1,t2,t3,t4,t5⟩:=h.tree hi;rw[t5] at t2 t3 ⊢;obtain⟨d1,d2⟩:=h.deep8 hi;exact quy t1 h.cs (h.cov hi) t2 t3 d1 (by omega) h.f64 ho hS
theorem qx7 {m:qaq} {row:List CELL} (h:Askd m row) {i:Nat} (hi:i<m.2.length) (fx:Int) (on:Bool) {f:Nat} (hf:f<row.length):SzQ (trV (qbS m i) row fx on f) 200000010:=by
 have:=(h.walk hi fx on (o:=fun _=>0) (S:=1) (fun _ _=>SzQ.zero) (by decide)).2 f hf;rw[Rat.zero_add] at this;exact this.mono (by decide)
theorem qjB {m:qaq} {row:List CELL} (h:Askd m row) (fx:Int) (on:Bool) {f:Nat} (hf:f<row.length):SzQ (qgZ m row fx on f) 1500000000:=by
 have h1:=qkt (f:=fun j=>trV (qbS m j) row fx on f) (k:=200000010) m.2.length (fun i hi=>qx7 h hi fx on hf);have:m.2.length*(200000010+1)<=6*(200000010+1):=Nat.mul_le_mul_right _ h.ml;exact h1.mono (by omega)
theorem qu5 {n:Nat} (h:n<=1000000):qel (n:Int)=some (flo n fun _=>0):=by
 have key:=qfM (step:=qa5) (fun i=>((flo i (fun _=>0),(n:Int),(i:Int),()),())) n (r:=((flo n (fun _=>0),()),())) (by omega) (by
  intro g i hi;have d0:(i:Int)<(n:Int):=by omega
  rw[qa5,cnd d0,qdZ,bS0,blt (by rw[qa2];omega),cond_true,qbr (by omega)];simp only[flo,List.range_succ,List.map_append];rfl) (by
  intro g;rw[qa5,cnd' (by omega)])
 have key:lp qa5 K0 (([],(n:Int),0,()),())=_:=key;rw[qel,key];rfl
theorem qtf {m:qaq} {row:List CELL} (h:Askd m row) (fx:Int) (on:Bool):qeH m row fx on=some (flo row.length (qgZ m row fx on)):=by
 have ml:=h.ml;have h64:=h.f64;have hsz:∀ j,j<=m.2.length->∀ f,f<row.length->SzQ (rsum (fun j=>trV (qbS m j) row fx on f) j) 1500000000:=fun j hj f hf=>by
  have h1:=qkt (f:=fun j=>trV (qbS m j) row fx on f) (k:=200000010) j (fun i hi=>qx7 h (by omega) fx on hf);have:j*(200000010+1)<=6*(200000010+1):=Nat.mul_le_mul_right _ (by omega);exact h1.mono (by omega)
 have key:=qfM (step:=qbH) (fun j=>((row,fx,on,flo row.length (fun f=>rsum (fun j=>trV (qbS m j) row fx on f) j),m.2,(m.2.length:Int),(j:Int),()),())) m.2.length (r:=((flo row.length (qgZ m row fx on),()),())) (by omega) (by
  intro g j hj;have d0:(j:Int)<(m.2.length:Int):=by omega
  obtain⟨st,hw⟩:=(h.walk hj fx on (hsz j (by omega)) (by decide)).1;rw[qbH,cnd d0,cnd (by omega),tN0,gE0 hj,bS0,hw,bS0];dsimp only;rw[qjC (by rw[qa2,qa2]),qbr (by omega)];rfl) (by
  intro g;rw[qbH,cnd' (by omega)];rfl)
 have key:lp qbH K0 ((row,fx,on,flo row.length (fun _=>0),m.2,(m.2.length:Int),0,()),())=_:=key;rw[qeH,show m.1=((row.length:Nat):Int) by have:=h.len;omega,qu5 (by omega),bS0,key];rfl
theorem qso {m:qaq} {row:List CELL} (h:Askd m row):qcm m row=some (flo row.length (qgZ m row (-1) false),0):=by
 obtain⟨e,_,h1,h2⟩:=qAj (row:=row) (by have:=h.ml;omega) (fun t ht=>by have:=h.mt t ht;omega) h.ms;have e0:e=0:=h2.2 ⟨h.good,h.len⟩;subst e0;rw[qcm,h1,bS0,show(!decide ((0:Int)=0))=false by decide,cond_false,qtf h];rfl
theorem qri {m:qaq} {row:List CELL} {e:Int} (h:qb4 m row=some e) (he:e≠0):qcm m row=some ([],e):=by
 rw[qcm,h,bS0,decide_eq_false he];rfl
theorem qpZ {t:List NODE} {g:Int} {row:List CELL} {f S:Nat} {T:TR} (h:Is t g T) (ha:askT t f=false) (hS:S.testBit f=false):expT t row (S+2 ^ f) T=expT t row S T:=by
 induction T with
 | leaf i=>rfl
 | split i l r ihl ihr =>
  have hu:=qoO h ha;obtain⟨h1,h2,f0,f1,h3,h4,h5,h6⟩:=h;simp only[expT];rw[ihl h5,ihr h6,qcy hS,decide_eq_false hu,Bool.false_or]
def on01 (on:Bool):Nat:=if on then 1 else 0
def qkr (v:Nat->Rat) (n fx:Nat) (on:Bool) (f S:Nat):Rat :=
 if S.testBit f then 0 else if S.testBit fx=on then wq (popc n S-on01 on) (n-1)*(v (S+2 ^ f)-v S) else 0
def qfi (v:Nat->Rat) (n fx:Nat) (on:Bool) (f:Nat):Rat:=if f=fx then 0 else rsum (qkr v n fx on f) (2 ^ n)
theorem qp1 (F:Nat->Rat) (a:Nat):∀ b,rsum F (a+b)=rsum F a+rsum (fun i=>F (a+i)) b:=by
 intro b
 induction b with
 | zero=>show _=_+0;rw[Rat.add_zero];rfl
 | succ b ih=>rw[show a+(b+1)=a+b+1 by omega,rsum,ih,rsum,Rat.add_assoc]
theorem qku (fx:Nat):∀ (n:Nat) (F:Nat->Rat),fx<n->rsum F (2 ^ n)=rsum (fun S=>if S.testBit fx then 0 else F S+F (S+2 ^ fx)) (2 ^ n):=by
 intro n
 induction n with
 | zero=>intro F h;omega
 | succ n ih =>
  intro F h;rw[Nat.pow_succ,Nat.mul_two,qp1,qp1];by_cases e:fx=n
  · subst e;have h1:rsum (fun S=>if S.testBit fx then 0 else F S+F (S+2 ^ fx)) (2 ^ fx)=rsum (fun S=>F S+F (S+2 ^ fx)) (2 ^ fx):=qbh fun S hS=>by
     rw[Nat.testBit_lt_two_pow hS,if_neg (by decide)]
    have h2:rsum (fun i=>if (2 ^ fx+i).testBit fx then 0 else F (2 ^ fx+i)+F (2 ^ fx+i+2 ^ fx)) (2 ^ fx)=0:=qgp fun S hS=>by
     rw[Nat.testBit_two_pow_add_eq,Nat.testBit_lt_two_pow hS,Bool.not_false,if_pos rfl]
    rw[h1,h2,qkv,Rat.add_zero];congr 1;exact qbh fun i _=>by rw[Nat.add_comm]
  · have hf : fx < n := by omega
    rw[ih F hf,ih (fun i=>F (2 ^ n+i)) hf];congr 1;refine qbh fun S _=>?_
    rw[Nat.testBit_two_pow_add_gt hf,show 2 ^ n+S+2 ^ fx=2 ^ n+(S+2 ^ fx) by omega]
theorem qmA {S fx:Nat} (h:S.testBit fx=false):∀ n,popc n (S+2 ^ fx)=popc n S+(if fx<n then 1 else 0):=by
 intro n
 induction n with
 | zero=>rfl
 | succ n ih =>
  rw[popc,popc,ih,qcy h];by_cases e:n=fx
  · subst e;have a1:¬ n<n:=by omega
    have a2:n<n+1:=by omega
    simp [h,a1,a2]
  · by_cases h1 : fx < n
    · have a2 : fx < n + 1 := by omega
      rw[decide_eq_false e,Bool.false_or,if_pos h1,if_pos a2];omega
    · have a2 : ¬ fx < n + 1 := by omega
      rw[decide_eq_false e,Bool.false_or,if_neg h1,if_neg a2];omega
theorem qwZ {n f fx S:Nat} (hf:f<n) (hx:fx<n) (hne:f≠fx) (h1:S.testBit f=false) (h2:S.testBit fx=false):popc n S+2<=n:=by
 have a:=qmA h1 n;have b:(S+2 ^ f).testBit fx=false:=by rw[qcy h1,decide_eq_false (fun e=>hne e.symm),Bool.false_or,h2]
 have c:=qmA b n;rw[if_pos hf] at a;rw[if_pos hx] at c;have:=qyT n (S+2 ^ f+2 ^ fx);omega
theorem qli {v:Nat->Rat} {n f fx:Nat} (on:Bool) (hf:f<n) (hx:fx<n) (hne:f≠fx) (hv:∀ S,S.testBit fx=false->v (S+2 ^ fx)=v S):qjJ v n f=qfi v n fx on f:=by
 rw[qfi,if_neg hne,qjJ,qku fx n _ hx,qku fx n (qkr v n fx on f) hx];refine qbh fun S _=>?_
 cases h2:S.testBit fx with
 | true=>rfl
 | false =>
  rw[if_neg (by decide),if_neg (by decide)];have hfx:(S+2 ^ fx).testBit fx=true:=by rw[qcy h2,decide_eq_true rfl,Bool.true_or]
  have hff:(S+2 ^ fx).testBit f=S.testBit f:=by rw[qcy h2,decide_eq_false hne,Bool.false_or]
  unfold qru qkr;rw[hff,hfx,h2];cases h1:S.testBit f with
  | true=>rfl
  | false =>
   have hp:=qwZ hf hx hne h1 h2;have ha:=qmA h2 n;rw[if_pos hx] at ha;have hb:(S+2 ^ f).testBit fx=false:=by rw[qcy h1,decide_eq_false (fun e=>hne e.symm),Bool.false_or,h2]
   have e1:v (S+2 ^ fx+2 ^ f)=v (S+2 ^ f):=by rw[show S+2 ^ fx+2 ^ f=S+2 ^ f+2 ^ fx by omega,hv _ hb]
   have e2:=hv S h2;have hw:=qx6 (k:=popc n S) (n:=n-1) (by omega);rw[show n-1+1=n by omega] at hw;rw[ha,e1,e2];have o1:popc n S+1-on01 true=popc n S:=rfl;have o2:popc n S-on01 false=popc n S:=rfl;cases on with
   | true =>
    simp only[Bool.false_eq_true,if_false,if_true,o1];rw[<- hw];grind
   | false =>
    simp only[Bool.false_eq_true,if_false,if_true,o2];rw[<- hw];simp;grind
theorem qrw {v w:Nat->Rat} {n fx:Nat} {on:Bool} {f:Nat} (hne:f≠fx->f<n) (h:∀ S,S.testBit fx=on->v S=w S):qfi v n fx on f=qfi w n fx on f:=by
 unfold qfi;split
 · rfl
 · rename_i hf;refine qbh fun S _=>?_
   unfold qkr;cases h1:S.testBit f with
   | true=>rfl
   | false =>
    by_cases h2:S.testBit fx=on
    · simp only [Bool.false_eq_true, if_false, if_pos h2];rw[h S h2,h (S+2 ^ f) (by rw[qcy h1,decide_eq_false (fun e=>hf e.symm),Bool.false_or];exact h2)]
    · simp only[Bool.false_eq_true,if_false,if_neg h2]
theorem qpX (v w:Nat->Rat) (n fx:Nat) (on:Bool) (f:Nat):qfi (fun S=>v S+w S) n fx on f=qfi v n fx on f+qfi w n fx on f:=by
 unfold qfi;split
 · rw[Rat.add_zero]
 · rw [<- qkv];refine qbh fun S _=>?_
   unfold qkr;split
   · rw[Rat.add_zero]
   · split
     · grind
     · rw[Rat.add_zero]
theorem qog (n fx:Nat) (on:Bool) (f:Nat):qfi (fun _=>0) n fx on f=0:=by
 unfold qfi;split
 · rfl
 · refine qgp fun S _ => ?_
   unfold qkr;split
   · rfl
   · split
     · grind
     · rfl
theorem qts {α:Type} (v:α->Nat->Rat) (n fx:Nat) (on:Bool) (f:Nat):∀ l:List α,qfi (fun S=>lsum (l.map fun x=>v x S)) n fx on f=lsum (l.map fun x=>qfi (v x) n fx on f):=by
 intro l
 induction l with
 | nil=>exact qog n fx on f
 | cons x l ih=>rw[List.map_cons,lsum,<- ih,<- qpX];rfl
theorem qtr (v:Nat->Nat->Rat) (n fx:Nat) (on:Bool) (f:Nat):∀ k,qfi (fun S=>rsum (fun i=>v i S) k) n fx on f=rsum (fun i=>qfi (v i) n fx on f) k:=by
 intro k
 induction k with
 | zero=>exact qog n fx on f
 | succ k ih=>rw[rsum,<- ih,<- qpX];rfl
theorem qvt {t:List NODE} {row:List CELL} {fx n S:Nat} {on:Bool} (hc:∀ i,i<t.length->cov t i≠0) (hS:S.testBit fx=on) {T:TR} (h:Is t (n:Int) T) :
  ∀ (w:List AP) (g:Rat),lsum ((qjh t row (fx:Int) on T w g).map fun y=>qcN S y.2*y.1)=qcN S w*g*expT t row S T:=by
 induction T with
 | leaf i=>intro w g;simp only[qjh,List.map_cons,List.map_nil,lsum,expT,Rat.add_zero];grind
 | split i l r ihl ihr =>
  intro w g;obtain⟨h1,h2,f0,f1,h3,h4,h5,h6⟩:=h;have ihl:=ihl h5;have ihr:=ihr h6;have hci:=hc i h1;simp only[qjh,List.map_append,qft,expT];by_cases hf:qb3 (qcd t i)=(fx:Int)
  · have hbit : S.testBit (qb3 (qcd t i)).toNat = on := by rw [hf, tN0]; exact hS
    rw[hbit];cases on with
    | true =>
     have k1:kOn t row (fx:Int) true i true=goL t row i:=by rw[kOn,if_pos hf];cases goL t row i<;>rfl
     have k2:kOn t row (fx:Int) true i false=!goL t row i:=by rw[kOn,if_pos hf];cases goL t row i<;>rfl
     rw[k1,k2,kW,if_pos hf,kW,if_pos hf,kG,if_pos hf,kG,if_pos hf];simp only[if_true];cases goL t row i with
     | true=>simp only[if_true,Bool.not_true,Bool.false_eq_true,if_false,List.map_nil,lsum,Rat.add_zero];exact ihl w g
     | false=>simp only[Bool.not_false,if_true,Bool.false_eq_true,if_false,List.map_nil,lsum,Rat.zero_add];exact ihr w g
    | false =>
     have k1:∀ s,kOn t row (fx:Int) false i s=true:=fun s=>by rw[kOn,if_pos hf];rfl
     rw[k1,k1,kW,if_pos hf,kW,if_pos hf,kG,if_pos hf,kG,if_pos hf];simp only[if_true,Bool.false_eq_true,if_false];rw[ihl,ihr];simp only[Rat.div_def]
     grind
  · have k1 : ∀ s, kOn t row (fx : Int) on i s = true := fun s => if_neg hf
    rw[k1,k1,kW,if_neg hf,kW,if_neg hf,kG,if_neg hf,kG,if_neg hf];simp only[if_true];rw[ihl,ihr,qlZ,qlZ];unfold facP;have ef:quf t i=(qb3 (qcd t i)).toNat:=rfl;rw[ef];cases S.testBit (qb3 (qcd t i)).toNat with
    | true =>
     cases goL t row i with
     | true=>simp;grind
     | false=>simp;grind
    | false =>
     simp only[Bool.false_eq_true,if_false,Rat.div_def]
     grind
theorem qvu {t:List NODE} {row:List CELL} {fx:Nat} {on:Bool} {n:Nat} {T:TR} (h:Is t (n:Int) T):∀ (w:List AP) (g:Rat),(∀ p∈w,p.1≠fx)->∀ y∈qjh t row (fx:Int) on T w g,∀ p∈y.2,p.1≠fx:=by
 induction T with
 | leaf i=>intro w g hw y hy;simp only[qjh,List.mem_singleton] at hy;subst hy;exact hw
 | split i l r ihl ihr =>
  intro w g hw y hy;obtain⟨h1,h2,f0,f1,h3,h4,h5,h6⟩:=h;have hk:∀ c s,∀ p∈kW t row (fx:Int) i c s w,p.1≠fx:=fun c s=>by
    unfold kW;split
    · exact hw
    · rename_i hf;intro p hp;rcases qrg p hp with e | ⟨p',q1,q2⟩
      · rw [e, quf];rw[qc6 h1] at hf ⊢;omega
      · have:=hw p' q1;omega
  simp only[qjh,List.mem_append] at hy;rcases hy with hy | hy
  · split at hy
    · exact ihl h5 _ _ (hk _ _) y hy
    · cases hy
  · split at hy
    · exact ihr h6 _ _ (hk _ _) y hy
    · cases hy
theorem qu2 {w:List AP} {fx S:Nat} (hw:∀ p∈w,p.1≠fx) (hS:S.testBit fx=false):qcN (S+2 ^ fx) w=qcN S w:=by
 unfold qcN;congr 1;refine List.map_congr_left fun p hp=>?_
 unfold facP;rw[qcy hS,decide_eq_false (hw p hp),Bool.false_or]
theorem quO {t:List NODE} {row:List CELL} {fx:Nat} {on:Bool} (hc:qgX t) (h:Is t (row.length:Int) (treeOf t)) (hx:fx<row.length) {f:Nat} (hf:f<row.length) :
   trV t row (fx:Int) on f=qfi (fun S=>expT t row S (treeOf t)) row.length fx on f:=by
 have hoff:=qvu (row:=row) (fx:=fx) (on:=on) h [] 1 (by simp);have e1:qfi (fun S=>expT t row S (treeOf t)) row.length fx on f=qfi (fun S=>lsum ((qjh t row (fx:Int) on (treeOf t) [] 1).map fun y=>qcN S y.2*y.1)) row.length fx on f:=by
   refine qrw (fun _=>hf) fun S hS=>?_
   rw[qvt hc.ne hS h];show _=qgf []*1*_;rw[qgf,Rat.one_mul,Rat.one_mul]
 rw[e1,qts (fun(y:PL) S=>qcN S y.2*y.1)];unfold trV totL;congr 1;refine List.map_congr_left fun y hy=>?_
 have hv:∀ S,S.testBit fx=false->(fun S=>qcN S y.2*y.1) (S+2 ^ fx)=(fun S=>qcN S y.2*y.1) S:=fun S hS=>by
   show qcN (S+2 ^ fx) y.2*y.1=_;rw[qu2 (hoff y hy) hS]
 by_cases e:f=fx
 · subst e;rw[qfi,if_pos rfl];refine qgp fun S _=>?_
   unfold qru;cases hb:S.testBit f with
   | true=>rfl
   | false =>
    rw[if_neg (by decide),hv S hb];grind
 · exact qli on hf hx e hv
theorem qh4 {m:qaq} {row:List CELL} (h:Askd m row) {fx:Nat} (on:Bool) (hx:fx<row.length) {f:Nat} (hf:f<row.length):qgZ m row (fx:Int) on f=qfi (sayM m row) row.length fx on f:=by
 have e:=qtr (fun j S=>expT (qbS m j) row S (treeOf (qbS m j))) row.length fx on f m.2.length;have e:qfi (sayM m row) row.length fx on f=_:=e;rw[e];refine qbh fun j hj=>?_
 obtain⟨t1,t2,t3,t4,t5⟩:=h.tree hj;rw[t5] at t2 ⊢;exact quO (h.cov hj) t2 hx hf
theorem qoF {m:qaq} {row:List CELL} {fx:Nat} {on:Bool} (h:qb4 m row=some 0) (ha:Askd m row) (hx:(fx:Int)<m.1):qdz m row (fx:Int) on=some (flo row.length (qgZ m row (fx:Int) on),0):=by
 rw[qdz,h,bS0,show(!decide ((0:Int)=0))=false by decide,cond_false,cnd' (by omega),cnd' (by omega),qtf ha];rfl
theorem bnd2 {α:Type} {a b:α} {p q:Prop} [Decidable p] [Decidable q] (hp:p) (hq:q):(bif decide p&&decide q then a else b)=a:=by simp [hp,hq]
def qAg:Rat:=((1:Int):Rat)/((2:Int):Rat)
def qe7 (m:qaq) (row:List CELL) (i k:Nat):Rat:=(qgZ m row (k:Int) true i-qgZ m row (k:Int) false i)*qAg
theorem qvz {m:qaq} {row:List CELL} (h:Askd m row) {i:Nat} (k:Nat) (hi:i<row.length):SzQ (qe7 m row i k) 3000000010 :=
 (((qjB h (k:Int) true hi).sub (qjB h (k:Int) false hi)).mul qvD).mono (by decide)
theorem qv8 {m:qaq} {row:List CELL} (h:Askd m row) (hf:qb4 m row=some 0) {k:Nat} (hk:k<row.length):qc9 m row (k:Int)=some (flo row.length fun i=>qe7 m row i k):=by
 have hl:=h.len;have h64:=h.f64;have hkm:(k:Int)<m.1:=by omega
 have key:=qfM (step:=qaR) (fun i=>((flo row.length (qgZ m row (k:Int) true),flo row.length (qgZ m row (k:Int) false),flo i (fun i=>qe7 m row i k),(row.length:Int),(i:Int),()),())) row.length (r:=((flo row.length (fun i=>qe7 m row i k),()),())) (by omega) (by
  intro g i hi;have d0:(i:Int)<(row.length:Int):=by omega
  have s1:=qjB h (k:Int) true hi;have s2:=qjB h (k:Int) false hi;rw[qaR,cnd d0,bnd2 (by omega) (by rw[qa2];exact d0),tN0,qe9 _ hi,bS0,bnd2 (by omega) (by rw[qa2];exact d0),qe9 _ hi,bS0,
   qg1 (s1.sm (by decide)) (s2.sm (by decide)),bS0,qai,qai,qkG (by decide) (by decide) (by decide) (by decide),bS0,
   qaF ((s1.sub s2).sm (by decide)) (qvD.sm (by decide)),bS0,qai,qai,blt (by rw[qa2];omega),cond_true,qbr (by omega)]
  simp only[flo,List.range_succ,List.map_append];rfl) (by
  intro g;rw[qaR,cnd' (by omega)])
 have key:lp qaR K0 ((flo row.length (qgZ m row (k:Int) true),flo row.length (qgZ m row (k:Int) false),[],(row.length:Int),0,()),())=_:=key;rw[qc9,qoF hf h hkm,bS0,qoF hf h hkm,bS0]
 try dsimp only
 rw[qa2,key];rfl
def grd (r n:Nat) (g:Nat->Nat->Rat):List (Option (List RAT)):=(List.range r).map fun i=>some (flo n (g i))
theorem qeB (r n:Nat) (g:Nat->Nat->Rat):(grd r n g).length=r:=by simp [grd]
theorem qlE {r n i:Nat} (g:Nat->Nat->Rat) (h:i<r):(grd r n g)[i]?=some (some (flo n (g i))):=by simp [grd,h]
theorem qfR {r n:Nat} {g g':Nat->Nat->Rat} (h:∀ i,i<r->∀ j,j<n->g i j=g' i j):grd r n g=grd r n g':=by
 unfold grd;exact List.map_congr_left fun i hi=>by rw[qk3 (h i (List.mem_range.1 hi))]
theorem qzj {r n i:Nat} {g g':Nat->Nat->Rat} (h1:∀ j,j<n->g' i j=g' i j) (h2:∀ a,a<r->a≠i->∀ j,j<n->g' a j=g a j):(grd r n g).set i (some (flo n (g' i)))=grd r n g':=by
 apply List.ext_getElem?;intro a;rw[List.getElem?_set];by_cases ha:a<r
 · rw [qlE _ ha, qlE _ ha, qeB];by_cases e:i=a
   · subst e;rw[if_pos rfl,if_pos ha]
   · rw[if_neg e,qk3 (fun j hj=>h2 a ha (fun e'=>e e'.symm) j hj)]
 · have q1 : (grd r n g)[a]? = none := List.getElem?_eq_none (by rw [qeB]; omega);have q2:(grd r n g')[a]?=none:=List.getElem?_eq_none (by rw[qeB];omega);rw[q1,q2];split
   · rw[if_neg (by rw[qeB];omega)]
   · rfl
theorem qvG {r n i k:Nat} {g g':Nat->Nat->Rat} {x:Rat} (h1:g' i k=x) (h2:∀ j,j≠k->g' i j=g i j) (h3:∀ a,a<r->a≠i->∀ j,j<n->g' a j=g a j):(grd r n g).set i (some ((flo n (g i)).set k (canQ x)))=grd r n g':=by
 rw[qvN (o:=g i) (p:=g' i) h1 h2];exact qzj (fun _ _=>rfl) h3
theorem qwM {n:Nat} (h:n<=1000000):qeu (n:Int)=some (grd n n fun _ _=>0):=by
 have inner:∀ (out:List (Option (List RAT))) (v5 v6:Int),lp qbb K0 (((n:Int),out,[],v5,v6,(n:Int),0,()),())=some (((n:Int),out,flo n (fun _=>0),v5,v6,()),()):=fun out v5 v6 =>
  qfM (step:=qbb) (fun j=>(((n:Int),out,flo j (fun _=>0),v5,v6,(n:Int),(j:Int),()),())) n (r:=(((n:Int),out,flo n (fun _=>0),v5,v6,()),())) (by omega) (by
   intro g j hj;have d0:(j:Int)<(n:Int):=by omega
   rw[qbb,cnd d0,qdZ,bS0,blt (by rw[qa2];omega),cond_true,qbr (by omega)];simp only[flo,List.range_succ,List.map_append];rfl) (by
   intro g;rw[qbb,cnd' (by omega)])
 have key:=qfM (step:=qbc) (fun i=>(((n:Int),grd i n (fun _ _=>0),(n:Int),(i:Int),()),())) n (r:=((grd n n (fun _ _=>0),()),())) (by omega) (by
  intro g i hi;have d0:(i:Int)<(n:Int):=by omega
  rw[qbc,cnd d0,inner,bS0]
  try dsimp only
  rw[blt (by rw[qeB];simp only[List.length_cons,List.length_nil];omega),cond_true,qbr (by omega)]
  simp only[grd,List.range_succ,List.map_append];rfl) (by
  intro g;rw[qbc,cnd' (by omega)])
 have key:lp qbc K0 (((n:Int),[],(n:Int),0,()),())=_:=key;rw[qeu,key];rfl
theorem qzD {n k:Nat} {w:Nat->Rat} (hw:∀ i,i<n->SzQ (w i) k) (hk:1+n*(k+1)<1099511627776) (hn:n<1000000):qfA (flo n w)=some (flo n w,canQ (rsum w n)):=by
 have hsz:∀ i,i<=n->SzQ (rsum w i) (1+i*(k+1)):=fun i hi=>qoW (n:=i) (fun j hj=>hw j (by omega))
 have hpart:∀ i,i<=n->Sm (canQ (rsum w i)):=fun i hi=>by
  refine(hsz i hi).sm (Nat.lt_of_le_of_lt ?_ hk);have:=Nat.mul_le_mul_right (k+1) hi;omega
 have key:=qfM (step:=qbD) (fun i=>((flo n w,(n:Int),(i:Int),()),((false,[],[],()),((canQ (rsum w i)).1.1,(canQ (rsum w i)).1.2,(canQ (rsum w i)).2,()),()))) n
  (r:=((flo n w,()),((false,[],[],()),((canQ (rsum w n)).1.1,(canQ (rsum w n)).1.2,(canQ (rsum w n)).2,()),()))) (by omega) (by
  intro g i hi;have d0:(i:Int)<(n:Int):=by omega
  have hk1:k<1099511627776:=by have:1*(k+1)<=n*(k+1):=Nat.mul_le_mul_right _ (by omega);omega
  have hp:=qdb (hpart i (by omega)) ((hw i hi).sm hk1);rw[qai,qai] at hp;have hp':qcC (((canQ (rsum w i)).1.1,(canQ (rsum w i)).1.2),(canQ (rsum w i)).2) (canQ (w i))=some (canQ (rsum w (i+1))):=hp;rw[qbD,cnd d0,bnd2 (by omega) (by rw[qa2];exact d0),tN0,qe9 _ hi,bS0,hp',bS0,qbr (by omega)];rfl) (by
  intro g;rw[qbD,cnd' (by omega)])
 have key':lp qbD K0 ((flo n w,(n:Int),0,()),((false,[],[],()),((canQ 0).1.1,(canQ 0).1.2,(canQ 0).2,()),()))=_:=key;rw[qfA,qdZ,bS0,qa2,key',bS0]
 try dsimp only
 rw[qa2,Nat.beq_refl];rfl
def offQ (m:qaq) (row:List CELL) (a b:Nat):Rat:=if a=b then 0 else if qpM m b then qe7 m row a b else 0
def qjZ (m:qaq) (row:List CELL) (a b:Nat):Rat:=if a=b then qgZ m row (-1) false a-rsum (offQ m row a) row.length else offQ m row a b
theorem qnn {m:qaq} {row:List CELL} (h:Askd m row) {a:Nat} (b:Nat) (ha:a<row.length):SzQ (offQ m row a b) 3000000010:=by
 unfold offQ;split
 · exact SzQ.zero.mono (by decide)
 · split
   · exact qvz h b ha
   · exact SzQ.zero.mono (by decide)
theorem qsn {m:qaq} {row:List CELL} (h:Askd m row) (hf:qb4 m row=some 0) (hv:qcw m=some true) (h8:row.length<=70):qcp m row=some (grd row.length row.length (qjZ m row),0):=by
 have hl:=h.len;have h64:=h.f64;have hml:(qmY m).length=row.length:=by rw[quE];omega
 obtain⟨n,hn⟩:∃ n,n=row.length:=⟨_,rfl⟩;have hm1:m.1=(n:Int):=by omega
 have inner:∀ (G:Nat->Nat->Rat) (k:Nat),k<n->lp qaL K0 ((row,flo n (qgZ m row (-1) false),grd n n G,qmY m,(k:Int),(n:Int),(k:Int),flo n (fun i=>qe7 m row i k),(n:Int),0,()),((m.1,m.2,()),())) =
   some ((row,flo n (qgZ m row (-1) false),grd n n (fun a b=>if b=k/\a<n/\a≠k then qe7 m row a k else G a b),qmY m,(n:Int),(k:Int),()),((m.1,m.2,()),())):=by
  intro G k hk;have e0:grd n n G=grd n n (fun a b=>if b=k/\a<0/\a≠k then qe7 m row a k else G a b):=qfR fun a _ b _=>by rw[if_neg (fun h=>absurd h.2.1 (Nat.not_lt_zero a))]
  rw[e0];refine qfM (step:=qaL) (fun i=>((row,flo n (qgZ m row (-1) false),grd n n (fun a b=>if b=k/\a<i/\a≠k then qe7 m row a k else G a b),qmY m,(k:Int),(n:Int),(k:Int),flo n (fun i=>qe7 m row i k),(n:Int),(i:Int),()),((m.1,m.2,()),()))) n (by omega) (by
   intro g i hi;have d0:(i:Int)<(n:Int):=by omega
   rw[qaL,cnd d0,bnd2 (by omega) (by rw[qa2];exact d0),tN0,qe9 _ hi,bS0];by_cases e:i=k
   · subst e;rw[decide_eq_true rfl,Bool.not_true,cond_false,qbr (by omega)];rw[qfR (g':=fun a b=>if b=i/\a<i+1/\a≠i then qe7 m row a i else G a b) (fun a _ b _=>by
       by_cases e1:b=i/\a<i/\a≠i
       · rw[if_pos e1,if_pos ⟨e1.1,by omega,e1.2.2⟩]
       · rw[if_neg e1,if_neg (fun h=>e1 ⟨h.1,by omega,h.2.2⟩)])]
     rfl
   · rw [decide_eq_false (show ¬ (i : Int) = (k : Int) by omega), Bool.not_false, cond_true, bnd2 (by omega) (by rw [qeB]; exact d0), qlE _ hi, bS0, bS0];rw[bS0,bnd2 (by omega) (by rw[qa2];omega),tN0,bS0,bS0,qe9 _ hk,bS0,qbr (by omega)];rw [qvG (g := fun a b => if b = k /\ a < i /\ a ≠ k then qe7 m row a k else G a b) (g' := fun a b => if b = k /\ a < i + 1 /\ a ≠ k then qe7 m row a k else G a b) (by (try dsimp only); rw [if_pos ⟨rfl, by omega, e⟩]) (fun j hj => by
         (try dsimp only);rw[if_neg (fun h=>hj h.1),if_neg (fun h=>hj h.1)]) (fun a _ ha j _=>by
         try dsimp only
         by_cases e1:j=k/\a<i/\a≠k
         · rw[if_pos e1,if_pos ⟨e1.1,by omega,e1.2.2⟩]
         · rw[if_neg e1,if_neg (fun h=>e1 ⟨h.1,by omega,h.2.2⟩)])]
     rfl) (by
   intro g;rw[qaL,cnd' (by omega)])
 have outer:=qfM (step:=qaS) (fun k=>((row,flo n (qgZ m row (-1) false),grd n n (fun a b=>if b<k then offQ m row a b else 0),qmY m,(n:Int),(k:Int),()),((m.1,m.2,()),()))) n
  (r:=((flo n (qgZ m row (-1) false),grd n n (offQ m row),()),())) (by omega) (by
  intro g k hk;have d0:(k:Int)<(n:Int):=by omega
  rw[qaS,cnd d0,cnd (by omega),tN0,quF (by omega),bS0];cases hu:qpM m k with
  | false =>
   rw[Bool.not_false,cond_true,qbr (by omega)];rw[qfR (g':=fun a b=>if b<k+1 then offQ m row a b else 0) (fun a _ b _=>by
     by_cases e1:b<k
     · rw[if_pos e1,if_pos (by omega)]
     · rw [if_neg e1];by_cases e2:b=k
       · rw[if_pos (by omega),offQ,e2,hu];simp
       · rw[if_neg (by omega)])]
   rfl
  | true =>
   rw[Bool.not_true,cond_false,show((m.1,m.2):qaq)=m from rfl,qv8 h hf (by omega),bS0,qa2,<- hn,inner _ k hk,bS0]
   try dsimp only
   rw[qbr (by omega)];rw[qfR (g':=fun a b=>if b<k+1 then offQ m row a b else 0) (fun a ha b _=>by
     by_cases e1:b=k
     · subst e1;rw[if_pos (show b<b+1 by omega)];by_cases e2:a=b
       · rw[if_neg (fun h=>h.2.2 e2),if_neg (Nat.lt_irrefl b),offQ,if_pos e2]
       · rw[if_pos ⟨rfl,ha,e2⟩,offQ,if_neg e2,if_pos hu]
     · rw [if_neg (fun h => e1 h.1)];by_cases e2:b<k
       · rw[if_pos e2,if_pos (by omega)]
       · rw[if_neg e2,if_neg (by omega)])]
   rfl) (by
  intro g;rw[qaS,cnd' (by omega)];rw[qfR (g':=offQ m row) (fun a _ b hb=>by rw[if_pos hb])])
 have osz:∀ i,i<n->SzQ (rsum (offQ m row i) n) 300000002000:=fun i hi=>by
  have h1:=qoW (f:=offQ m row i) (k:=3000000010) (n:=n) (fun j _=>qnn h j (by omega));have:n*(3000000010+1)<=70*(3000000010+1):=Nat.mul_le_mul_right _ (by omega);exact h1.mono (by omega)
 have last:=qfM (step:=qaK) (fun i=>((flo n (qgZ m row (-1) false),grd n n (fun a b=>if a<i then qjZ m row a b else offQ m row a b),(n:Int),(i:Int),()),())) n
  (r:=((grd n n (qjZ m row),()),())) (by omega) (by
  intro g i hi;have d0:(i:Int)<(n:Int):=by omega
  have hsum:=qzD (n:=n) (w:=offQ m row i) (k:=3000000010) (fun j _=>qnn h j (by omega)) (by
   have:n*(3000000010+1)<=70*(3000000010+1):=Nat.mul_le_mul_right _ (by omega);omega) (by omega)
  have hrow:(fun b=>if i<i then qjZ m row i b else offQ m row i b)=offQ m row i:=by
   funext b;rw[if_neg (by omega)]
  have s0:SzQ (offQ m row i i) 3000000010:=qnn h i (by omega);have s1:=osz i hi;have e0:offQ m row i i=0:=by rw[offQ,if_pos rfl]
  rw[qaK,cnd d0,bnd2 (by omega) (by rw[qeB];exact d0),tN0,qlE _ hi,hrow,bS0,bnd2 (by omega) (by rw[qa2];exact d0),qe9 _ hi,bS0,bnd2 (by omega) (by rw[qeB];exact d0),bS0,bS0,bS0,hsum,bS0]
  try dsimp only
  rw[qjC rfl,qug,cond_true,bnd2 (by omega) (by rw[qeB];exact d0),bS0,bS0,bS0,bnd2 (by omega) (by rw[qa2];exact d0),bS0,bS0,qe9 _ hi,bS0,
   qg1 (s1.sm (by decide)) (s0.sm (by decide)),bS0,qai,qai,qg1 ((qjB h (-1) false (show i<row.length by omega)).sm (by decide)) ((s1.sub s0).sm (by decide)),bS0,qai,qai,
   bS0,bS0,bnd2 (by omega) (by rw[qa2];exact d0),bS0,bS0,qe9 _ hi,bS0,qbr (by omega)]
  have hset:=qvG (r:=n) (n:=n) (i:=i) (k:=i) (g:=fun a b=>if a<i then qjZ m row a b else offQ m row a b) (g':=fun a b=>if a<i+1 then qjZ m row a b else offQ m row a b) (x:=qgZ m row (-1) false i-(rsum (offQ m row i) n-offQ m row i i)) (by
     try dsimp only
     rw[if_pos (by omega),qjZ,if_pos rfl,e0,hn];grind) (fun j hj=>by
     try dsimp only
     rw[if_pos (by omega),if_neg (by omega),qjZ,if_neg (fun h=>hj h.symm)]) (fun a _ ha j _=>by
     try dsimp only
     by_cases e1:a<i
     · rw[if_pos e1,if_pos (by omega)]
     · rw[if_neg e1,if_neg (by omega)])
  try dsimp only at hset
  rw[hrow] at hset;rw[hset];rfl) (by
  intro g;rw[qaK,cnd' (by omega)];rw[qfR (g':=qjZ m row) (fun a ha b _=>by rw[if_pos ha])])
 have outer:lp qaS K0 ((row,flo n (qgZ m row (-1) false),grd n n (fun a b=>if b<0 then offQ m row a b else 0),qmY m,(n:Int),0,()),((m.1,m.2,()),()))=_:=outer;have last:lp qaK K0 ((flo n (qgZ m row (-1) false),grd n n (fun a b=>if a<0 then qjZ m row a b else offQ m row a b),(n:Int),0,()),())=_:=last;rw[qcp,qso h,bS0]
 try dsimp only
 rw[decide_eq_true rfl,Bool.not_true,cond_false,hm1,qwM (by omega),bS0,qzC hv h.good,bS0,<- hn,qfR (g':=fun a b=>if b<0 then offQ m row a b else 0) (fun a _ b _=>by rw[if_neg (by omega)]),<- hm1,show(m.1:Int)=(n:Int) from hm1];rw[show((n:Int),m.2,())=(m.1,m.2,()) by rw[hm1],outer,bS0]
 try dsimp only
 rw[qeB,qfR (g:=offQ m row) (g':=fun a b=>if a<0 then qjZ m row a b else offQ m row a b) (fun a _ b _=>by rw[if_neg (by omega)]),last];rfl
theorem qhb:qbf=some true:=by decide +kernel
theorem qpq {m:qaq} {row:List CELL} (h:Askd m row) {i k:Nat} (hi:i<row.length) (hk:k<row.length) (hne:i≠k) (hu:qpM m k=false):qe7 m row i k=0:=by
 have hv:∀ S,S.testBit k=false->sayM m row (S+2 ^ k)=sayM m row S:=fun S hS=>by
  unfold sayM;refine qbh fun j hj=>?_
  obtain⟨t1,t2,t3,t4,t5⟩:=h.tree hj;rw[t5] at t2 ⊢;exact qpZ t2 (qrr hu (gM0 hj)) hS
 unfold qe7;rw[qh4 h true hk hi,qh4 h false hk hi,<- qli true hi hk hne hv,<- qli false hi hk hne hv]
 grind
theorem qyY {m:qaq} {row:List CELL} (h:Askd m row) {a b:Nat} (ha:a<row.length) (hb:b<row.length):offQ m row a b=if a=b then 0 else qe7 m row a b:=by
 unfold offQ;by_cases e:a=b
 · rw[if_pos e,if_pos e]
 · rw [if_neg e, if_neg e];cases hu:qpM m b with
   | true=>rw[if_pos rfl]
   | false=>rw[if_neg (by decide),qpq h ha hb e hu]
def twoT (v:Nat->Rat) (n i k S:Nat):Rat :=
 if S.testBit k then 0 else if S.testBit i then 0 else wq (popc n S) (n-1)*(v (S+2 ^ i+2 ^ k)-v (S+2 ^ k)-(v (S+2 ^ i)-v S))
theorem quY (v:Nat->Rat) {n i k:Nat} (hi:i<n) (hk:k<n) (hne:i≠k):qfi v n k true i-qfi v n k false i=rsum (twoT v n i k) (2 ^ n):=by
 have key:qfi v n k true i=qfi v n k false i+rsum (twoT v n i k) (2 ^ n):=by
  rw[qfi,if_neg hne,qfi,if_neg hne,qku k n (qkr v n k true i) hk,qku k n (qkr v n k false i) hk,<- qkv];refine qbh fun S _=>?_
  unfold twoT;cases h2:S.testBit k with
  | true=>simp only[if_true];rw[Rat.add_zero]
  | false =>
   simp only[Bool.false_eq_true,if_false];have hfx:(S+2 ^ k).testBit k=true:=by rw[qcy h2,decide_eq_true rfl,Bool.true_or]
   have hff:(S+2 ^ k).testBit i=S.testBit i:=by rw[qcy h2,decide_eq_false hne,Bool.false_or]
   unfold qkr;rw[hff,hfx,h2];cases h1:S.testBit i with
   | true=>simp only[if_true];rw[Rat.add_zero,Rat.add_zero]
   | false =>
    have ha:=qmA h2 n;rw[if_pos hk] at ha;rw[ha];have o1:popc n S+1-on01 true=popc n S:=rfl;have o2:popc n S-on01 false=popc n S:=rfl;simp only[Bool.false_eq_true,if_false,if_true,o1,o2];rw[show S+2 ^ k+2 ^ i=S+2 ^ i+2 ^ k by omega];simp
    grind
 rw[key];grind
theorem quc {m:qaq} {row:List CELL} (h:Askd m row) {i k:Nat} (hi:i<row.length) (hk:k<row.length) (hne:i≠k):qe7 m row i k=rsum (twoT (sayM m row) row.length i k) (2 ^ row.length)*qAg:=by
 rw[qe7,qh4 h true hk hi,qh4 h false hk hi,quY _ hi hk hne]
theorem qwF {m:qaq} {row:List CELL} (h:Askd m row) (h8:row.length<=8) {a:Nat} (b:Nat) (ha:a<row.length):SzQ (qjZ m row a b) 26000000000:=by
 unfold qjZ;split
 · have h1 := qoW (f := offQ m row a) (k := 3000000010) (n := row.length) (fun j _ => qnn h j ha);have:row.length*(3000000010+1)<=8*(3000000010+1):=Nat.mul_le_mul_right _ h8;exact((qjB h (-1) false ha).sub h1).mono (by omega)
 · exact(qnn h b ha).mono (by decide)
theorem qrh {m:qaq} {row:List CELL} {e:Int} (h:qb4 m row=some e) (he:e≠0):qcp m row=some ([],e):=by
 rw[qcp,qri h he,bS0];dsimp only;rw[decide_eq_false he];rfl
def rowB (n:Nat) (h:Nat->Bool):List Bool:=(List.range n).map h
theorem qwU (n:Nat) (h:Nat->Bool):(rowB n h).length=n:=by simp [rowB]
theorem qwV {n k:Nat} (h:Nat->Bool) (hk:k<n):(rowB n h)[k]?=some (h k):=by simp [rowB,hk]
def grb (n:Nat) (g:Nat->Nat->Bool):List (List Bool):=(List.range n).map fun i=>rowB n (g i)
theorem qvH (n:Nat) (g:Nat->Nat->Bool):(grb n g).length=n:=by simp [grb]
theorem qzk {n i:Nat} (g:Nat->Nat->Bool) (h:i<n):(grb n g)[i]?=some (rowB n (g i)):=by simp [grb,h]
def ftN (t:List NODE) (i:Nat):Nat:=(qb3 (qcd t i)).toNat
def recP (t:List NODE):TR->List Nat->Nat->Nat->Bool
 | .leaf _,_,_,_=>false
 | .split i l r,A,a,b=>(A.any fun f=>hitB f (ftN t i) a b) || (recP t l (A++[ftN t i]) a b || recP t r (A++[ftN t i]) a b)
theorem qxd {t:List NODE} {n:Nat}:∀ (k:Nat) (T:TR),Is t (n:Int) T->T.deep<=k->∀ (A:List Nat),A.length+k<500000->∀ g:Nat->Nat->Bool,
  qlw (n:Int) t k (T.top:Int) A g=some (fun a b=>g a b || recP t T A a b):=by
 intro k
 induction k with
 | zero=>intro T _ hd;have:=T.deep_pos;omega
 | succ k ih =>
  intro T hT hd A hl g;have d0:(0:Int)<=(T.top:Int):=Int.natCast_nonneg _;rw[qlw];dsimp only;rw[decide_eq_true d0,cond_true,tN0];cases T with
  | leaf i =>
   obtain⟨h1,h2⟩:=hT;rw[show(TR.leaf i).top=i from rfl,gE0 h1,bS0,show t[i].1=true from h2,cond_true];congr 1;funext a b;rw[recP,Bool.or_false]
  | split i l r =>
   obtain⟨h1,h2,f0,f1,h3,h4,h5,h6⟩:=hT;simp only[TR.deep] at hd;obtain⟨c,ec⟩:∃ c,c=ftN t i:=⟨_,rfl⟩;have efc:qb3 t[i]=(c:Int):=by rw[ec,ftN,qc6 h1];omega
   have efc':t[i].2.1=(c:Int):=efc;have hl':(A++[c]).length+k<500000:=by simp;omega
   have e3:t[i].2.2.2.1=(l.top:Int):=h3;have e4:t[i].2.2.2.2.1=(r.top:Int):=h4;have hg1:(decide ((0:Int)<=(c:Int))&&(decide ((c:Int)<(n:Int))&&decide (A.length<=1000000)))=true:=by
    rw[decide_eq_true (Int.natCast_nonneg _),decide_eq_true (by omega),decide_eq_true (by omega)];rfl
   rw[show(TR.split i l r).top=i from rfl,gE0 h1,bS0,show t[i].1=false from h2,cond_false,efc',hg1,cond_true,tN0,e3,e4,ih l h5 (by omega) _ hl',bS0,ih r h6 (by omega) _ hl'];congr 1;funext a b;rw[recP,<- ec];simp only[Bool.or_assoc]
def qjL (t:List NODE):TR->Nat->Bool
 | .leaf _,_=>false
 | .split i l r,a=>decide (ftN t i=a) || (qjL t l a || qjL t r a)
def qmq (t:List NODE):TR->Nat->Nat->Bool
 | .leaf _,_,_=>false
 | .split i l r,a,b=>(decide (ftN t i=a)&&(qjL t l b || qjL t r b)) || ((decide (ftN t i=b)&&(qjL t l a || qjL t r a)) || (qmq t l a b || qmq t r a b))
theorem qzi {f c a b:Nat} (h:a≠b):hitB f c a b=((decide (a=f)&&decide (b=c)) || (decide (b=f)&&decide (a=c))):=by
 unfold hitB;by_cases e:f=c
 · subst e;simp;constructor
   · intro q;subst q;exact fun r=>h r.symm
   · intro q;subst q;exact h
 · simp [e,Bool.and_comm]
theorem qyO (t:List NODE) {a b:Nat} (h:a≠b):∀ (T:TR) (A:List Nat),recP t T A a b=(((decide (a∈A)&&qjL t T b) || (decide (b∈A)&&qjL t T a)) || qmq t T a b):=by
 intro T
 induction T with
 | leaf i=>intro A;simp [recP,qjL,qmq]
 | split i l r ihl ihr =>
  intro A;have e1:(A.any fun f=>hitB f (ftN t i) a b)=((decide (a∈A)&&decide (ftN t i=b)) || (decide (b∈A)&&decide (ftN t i=a))):=by
   rw[Bool.eq_iff_iff];simp only[List.any_eq_true,qzi h,Bool.or_eq_true,Bool.and_eq_true,decide_eq_true_eq];constructor
   · rintro ⟨f, hf, ⟨rfl, q⟩ | ⟨rfl, q⟩⟩
     · exact .inl ⟨hf,q.symm⟩
     · exact .inr ⟨hf,q.symm⟩
   · rintro (⟨hf, q⟩ | ⟨hf, q⟩)
     · exact⟨a,hf,.inl ⟨rfl,q.symm⟩⟩
     · exact⟨b,hf,.inr ⟨rfl,q.symm⟩⟩
  rw[recP,e1,ihl,ihr];simp only[qjL,qmq];rw[Bool.eq_iff_iff];simp only[Bool.or_eq_true,Bool.and_eq_true,decide_eq_true_eq,List.mem_append,List.mem_singleton]
  grind
def qqL (m:qaq) (k:Nat) (a b:Nat):Bool:=(List.range k).any fun i=>qmq (qbS m i) (treeOf (qbS m i)) a b
theorem qt0 (m:qaq) (k:Nat) (a b:Nat):qqL m (k+1) a b=(qqL m k a b || qmq (qbS m k) (treeOf (qbS m k)) a b):=by
 simp [qqL,List.range_succ,List.any_append]
theorem qtZ {m:qaq} {k i:Nat} {a b:Nat} (hi:i<k) (h:qmq (qbS m i) (treeOf (qbS m i)) a b=true):qqL m k a b=true:=by
 rw[qqL,List.any_eq_true];exact⟨i,List.mem_range.2 hi,h⟩
theorem qu1 (t:List NODE) (a:Nat):∀ (T:TR) (A:List Nat),recP t T A a a=false:=by
 intro T
 induction T with
 | leaf i=>intro A;rfl
 | split i l r ihl ihr =>
  intro A;rw[recP,ihl,ihr,Bool.or_false,Bool.or_false,List.any_eq_false];intro f _;unfold hitB;by_cases e:f=ftN t i
  · simp [e]
  · simp [e];constructor
    · intro q r;exact e (q.symm.trans r)
    · intro q r;exact e (r.symm.trans q)
def qmr (m:qaq) (k:Nat) (a b:Nat):Bool:=if a=b then false else qqL m k a b
theorem qxc {m:qaq} (hg:Good m) {n:Nat} (hn:m.1=(n:Int)) (mt:∀ t∈m.2,t.length<=15):∀ j,j<=m.2.length->qn1 (n:Int) (m.2.drop j) (qmr m j)=some (qmr m m.2.length):=by
 intro j
 induction hk:m.2.length-j generalizing j with
 | zero=>intro hj;rw[show j=m.2.length by omega,List.drop_length];rfl
 | succ k ih =>
  intro hj;have hj':j<m.2.length:=by omega
  obtain⟨g1,g2,g3⟩:=hg.treeOf hj';rw[hn] at g1;have ht:=mt _ (gM0 hj');have hm:=qxd (n:=n) R0 (treeOf m.2[j]) g1 (by unfold R0;omega) [] (by unfold R0;decide) (qmr m j);rw[g2] at hm;have hm:qlw (n:Int) m.2[j] R0 0 [] (qmr m j)=_:=hm;rw[List.drop_eq_getElem_cons hj',qn1,hm,bS0];have e:(fun a b=>qmr m j a b || recP m.2[j] (treeOf m.2[j]) [] a b)=qmr m (j+1):=by
   funext a b;unfold qmr;by_cases e:a=b
   · subst e;rw[if_pos rfl,if_pos rfl,qu1];rfl
   · rw [if_neg e, if_neg e, qyO _ e, qt0, qlh hj'];simp
  rw[e];exact ih (j+1) (by omega) (by omega)
theorem qwy {m:qaq} (hv:qcw m=some true) (hg:Good m) {n:Nat} (hn:m.1=(n:Int)) (h64:n<=64) (ml:m.2.length<=6) (mt:∀ t∈m.2,t.length<=15):qcJ m=some (grb n (qmr m m.2.length),0):=by
 have h0:=qxc hg hn mt 0 (Nat.zero_le _);have e1:qmr m 0=fun _ _=>false:=by
  funext a b;unfold qmr qqL;split<;>rfl
 rw[e1,List.drop_zero] at h0;rw[qcJ,hv,bS0,Bool.not_true,cond_false,hn,decide_eq_true (Int.natCast_nonneg _),decide_eq_true (by omega),decide_eq_true (by omega),Bool.and_self,Bool.and_self,cond_true,h0,bS0,tN0];rfl
end Go.Proofs.YtfoedjifcmfogaaDoor.X
