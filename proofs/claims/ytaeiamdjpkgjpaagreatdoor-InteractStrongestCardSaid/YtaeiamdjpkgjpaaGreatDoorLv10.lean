/- Own work: part of the proof; the first line of each part says what it tells. -/
import Derived.Test.YtaeiamdjpkgjpaaGreatDoorLv9


namespace Go.Proofs.YtaeiamdjpkgjpaaGreatDoor.X
open Go
set_option linter.unusedVariables false
set_option linter.unusedSimpArgs false
def kOn (t:List NODE) (row:List CELL) (fx:Int) (on:Bool) (i:Nat) (side:Bool):Bool:=if qdQ (qfq t i)=fx then (if on then goL t row i == side else true) else true
def kG (t:List NODE) (fx:Int) (on:Bool) (i c:Nat) (g:Rat):Rat:=if qdQ (qfq t i)=fx then (if on then g else g*(cov t c/cov t i)) else g
def kF (t:List NODE) (fx:Int) (i:Nat):Int:=if qdQ (qfq t i)=fx then -1 else qdQ (qfq t i)
def kW (t:List NODE) (row:List CELL) (fx:Int) (i c:Nat) (side:Bool) (w:List AP):List AP:=if qdQ (qfq t i)=fx then w else qm8 (qAb t i) (cov t c/cov t i) (goL t row i == side) w
abbrev PL:=Rat×List AP
def qqR (t:List NODE) (row:List CELL) (fx:Int) (on:Bool):TR->List AP->Rat->List PL
 | .leaf i,w,g=>[(g*rv (nVal (qfq t i)),w)]
 | .split i l r,w,g =>
  (if kOn t row fx on i true then qqR t row fx on l (kW t row fx i l.top true w) (kG t fx on i l.top g) else []) ++
  (if kOn t row fx on i false then qqR t row fx on r (kW t row fx i r.top false w) (kG t fx on i r.top g) else [])
def visF (t:List NODE) (row:List CELL) (fx:Int) (on:Bool):TR->Nat
 | .leaf i=>1
 | .split i l r=>1+(if kOn t row fx on i true then visF t row fx on l else 0)+(if kOn t row fx on i false then visF t row fx on r else 0)
theorem qvo (t:List NODE) (row:List CELL) (fx:Int) (on:Bool) (T:TR):0<visF t row fx on T:=by cases T<;>simp [visF];omega
theorem qBc (t:List NODE) (row:List CELL) (fx:Int) (on:Bool) (T:TR):visF t row fx on T<=T.size:=by
 induction T with
 | leaf i=>simp [visF,TR.size]
 | split i l r ihl ihr =>
  simp only[visF,TR.size];split<;>split<;>omega
structure IT where
 T:TR
 P:List AP
 g:Rat
 s:PART
 w:List AP
abbrev ITE:=Int×(Option ((Option (List (Int×RAT×CELL)))×Unit))×RAT×PART
def encI (x:IT):ITE:=((x.T.top:Int),some (some (encK x.P (wtP x.P)),()),canQ x.g,x.s)
def que (t:List NODE) (n:Nat) (x:IT):Prop:=∃ m,Is t (n:Int) x.T/\m+x.T.deep<=8/\SzQ x.g (8*m+1)/\qq0 x.w /\
 ((x.s.1 = -1 /\ qhf x.P (8 * m + 1) n /\ x.P.length <= m /\ x.P.Perm x.w) \/
  ∃ (m' f:Nat) (q:Rat) (ok:Bool) (w0:List AP),m=m'+1/\x.s=((f:Int),canQ q,ok)/\f<n/\SzQ q 8/\0<q/\qhf x.P (8*m'+1) n/\x.P.length<=m'/\x.P.Perm w0/\qq0 w0/\x.w=qm8 f q ok w0)
theorem que.join {t:List NODE} {n:Nat} {x:IT} (h:que t n x) (hn:n<1000000):∃ (m:Nat) (P':List AP),Is t (n:Int) x.T/\m+x.T.deep<=8/\SzQ x.g (8*m+1)/\qq0 x.w/\qhf P' (8*m+1) n/\P'.length<=m/\P'.Perm x.w /\
   qa3 (x.T.top:Int) (canQ x.g).1.1 (canQ x.g).1.2 (canQ x.g).2 x.s.1 x.s.2.1.1.1 x.s.2.1.1.2 x.s.2.1.2 x.s.2.2 (encK x.P (wtP x.P)) =
    some ((x.T.top:Int),(canQ x.g).1.1,(canQ x.g).1.2,(canQ x.g).2,x.s.1,x.s.2.1.1.1,x.s.2.1.1.2,x.s.2.1.2,x.s.2.2,encK P' (wtP P')):=by
 obtain⟨m,h1,h2,h3,h4,h5⟩:=h;have hd:=x.T.deep_pos;rcases h5 with ⟨a1,a2,a3,a4⟩ | ⟨m',f,q,ok,w0,b1,b2,b3,b4,b5,b6,b7,b8,b9,b10⟩
 · refine ⟨m, x.P, h1, h2, h3, h4, a2, a3, a4, ?_⟩;rw[a1,qa3,cnd (by omega)]
 · subst b1;obtain⟨P',p1,p2,p3,p4⟩:=qBR b6 b8 b9 (ok:=ok) b3 hn b4 b5 b7 (by omega) (x.T.top:Int) (canQ x.g).1.1 (canQ x.g).1.2 (canQ x.g).2;refine⟨m'+1,P',h1,h2,h3,h4,p2,p3,by rw[b10];exact p1,?_⟩;rw[b2];exact p4
def kid (t:List NODE) (row:List CELL) (fx:Int) (on:Bool) (i:Nat) (side:Bool) (c:TR) (P w:List AP) (g:Rat):IT :=
 ⟨c,P,kG t fx on i c.top g,(kF t fx i,canQ (cov t c.top/cov t i),goL t row i == side),kW t row fx i c.top side w⟩
theorem qvH {t:List NODE} {row:List CELL} {fx:Int} {on:Bool} {n i m:Nat} {side:Bool} {c:TR} {P w:List AP} {g:Rat} (hs:TSz t 4) (hcov:qi9 t) (hi:i<t.length) (f0:0<=qdQ t[i]) (f1:qdQ t[i]<(n:Int)) (hc:Is t (n:Int) c)
   (hm:m+1+c.deep<=8) (hg:SzQ g (8*m+1)) (hw:qq0 w) (hP:qhf P (8*m+1) n) (hl:P.length<=m) (hpw:P.Perm w):que t n (kid t row fx on i side c P w g):=by
 have hsh:=qvw hs hc.top_lt hi;refine⟨m+1,hc,hm,?_,?_,?_⟩
 · show SzQ (kG t fx on i c.top g) _;unfold kG;split
   · split
     · exact hg.mono (by omega)
     · exact(hg.mul hsh).mono (by omega)
   · exact hg.mono (by omega)
 · show qq0 (kW t row fx i c.top side w);unfold kW;split
   · exact hw
   · exact qxf hw
 · by_cases hf : qdQ (qfq t i) = fx
   · refine .inl ⟨?_, hP.mono (by omega), by show P.length <= _; omega, ?_⟩
     · show kF t fx i = -1;exact if_pos hf
     · show P.Perm (kW t row fx i c.top side w);rw[kW,if_pos hf];exact hpw
   · refine .inr ⟨m, qAb t i, cov t c.top / cov t i, goL t row i == side, w, rfl, ?_, ?_, hsh, ?_, hP, hl, hpw, hw, ?_⟩
     · show (kF t fx i, _, _) = _;rw[kF,if_neg hf,qAb,qf1 hi];rw[show((((qdQ t[i]).toNat:Nat)):Int)=qdQ t[i] by omega]
     · rw[qAb,qf1 hi];omega
     · have h1 : 0 < cov t c.top := by have := hcov c.top hc.top_lt; rwa [<- qi8 hc.top_lt] at this
       have h2:0<cov t i:=by have:=hcov i hi;rwa [<- qi8 hi] at this
       rw[Rat.div_def];exact Rat.mul_pos h1 (Rat.inv_pos.2 h2)
     · show kW t row fx i c.top side w = _;exact if_neg hf
theorem qzg {P:List AP} {w:Nat->Rat} (hl:P.length<=1000000):qdA (encK P w)=some (encK P w,encK P w):=by
 rw[qdA,blt (by rw[qdH];simp;omega),cond_true,List.nil_append]
theorem qv1 {t:List NODE} {row:List CELL} {fx:Int} {on:Bool} {i:Nat} {c:TR} {P w:List AP} {W:Nat->Rat} {g:Rat} {m:Nat} (hs:TSz t 4) (hc:CSz row 9) (hcov:qi9 t) (hi:i<t.length) (hleaf:qiD t[i]=false) (f0:0<=qdQ t[i]) (f1:qdQ t[i]<(row.length:Int))
   (hl:c.top<t.length) (hP:P.length<=1000000) (hg:SzQ g 1000) (side:Bool) (out:List RAT) (a4:Int) (a5:Bool) (a6 a7:List Int) (a8:Bool) :
   qbQ (i:Int) (canQ g).1.1 (canQ g).1.2 (canQ g).2 a4 a5 a6 a7 a8 (c.top:Int) side t row fx on out (encK P W) =
    some (out,(c.top:Int),(canQ (kG t fx on i c.top g)).1.1,(canQ (kG t fx on i c.top g)).1.2,(canQ (kG t fx on i c.top g)).2,kF t fx i,(canQ (cov t c.top/cov t i)).1.1,(canQ (cov t c.top/cov t i)).1.2,(canQ (cov t c.top/cov t i)).2,(goL t row i == side),kOn t row fx on i side,t,row,fx,on,encK P W,encK P W):=by
 obtain⟨cc,g1,g2,g3⟩:=qCU (f:=0) hs hc hi f0 f1;have z:=hs _ (gM0 hi);have zl:=hs _ (gM0 hl);have hne:rv (nCov t[i])≠0:=by have:=hcov.ne i hi;rwa [qi8 hi] at this
 have d1:=qs3 (a:=nCov t[c.top]) (b:=nCov t[i]) (zl.2.2.sm (by decide)) (z.2.2.sm (by decide));rw[if_neg hne,<- qi8 hl,<- qi8 hi] at d1;have hsh:=qvw hs hl hi;have hb:∀ {α:Type} {a b:α},(bif Nat.beq out.length out.length then a else b)=a:=fun {α a b}=>by rw[Nat.beq_refl,cond_true]
 have hfe:qdQ (qfq t i)=t[i].2.1:=by rw[qf1 hi]
 have hgl:(!qiD t[i]&&goes t[i] cc)=goL t row i:=by rw[hleaf,Bool.not_false,Bool.true_and,g3]
 rw[qbQ,cnd (by omega),tN0,gE0 hi,bS0,cnd (by omega),tN0,gE0 hl,bS0];show(qjt (nCov t[c.top]) (nCov t[i])).bind _=_;rw[d1,bS0,cnd (by exact f0)];show((row[(qdQ t[i]).toNat]?).bind _)=_;rw[g1,bS0,qCd z.1 (by decide) g2 (by decide),bS0,hgl,qzg hP,bS0];by_cases hf:qdQ (qfq t i)=fx
 · have e1 : (!decide (t[i].2.1 = fx)) = false := by rw [<- hfe, decide_eq_true hf]; rfl
   have e2:kF t fx i=-1:=if_pos hf;rw[e1,cond_false,e2];cases on with
   | true =>
    have e3:kG t fx true i c.top g=g:=by rw[kG,if_pos hf];rfl
    have e4:kOn t row fx true i side=(goL t row i == side):=by rw[kOn,if_pos hf];rfl
    rw[cond_true,hb,bS0,e3,e4]
   | false =>
    have e3:kG t fx false i c.top g=g*(cov t c.top/cov t i):=by rw[kG,if_pos hf];rfl
    have e4:kOn t row fx false i side=true:=by rw[kOn,if_pos hf];rfl
    have m1:=qaZ (hg.sm (by decide)) (hsh.sm (by decide));rw[qah,qah] at m1;have m1:qaw (((canQ g).1.1,(canQ g).1.2),(canQ g).2) (canQ (cov t c.top/cov t i))=_:=m1;rw[cond_false,m1,bS0,hb,bS0,e3,e4]
 · have e1 : (!decide (t[i].2.1 = fx)) = true := by rw [<- hfe, decide_eq_false hf]; rfl
   have e2:kF t fx i=t[i].2.1:=by rw[kF,if_neg hf,hfe]
   have e3:kG t fx on i c.top g=g:=if_neg hf;have e4:kOn t row fx on i side=true:=if_neg hf;rw[e1,cond_true,hb,bS0,e2,e3,e4]
def qsh (t:List NODE) (row:List CELL) (fx:Int) (on:Bool) (i:Nat) (l r:TR) (P w:List AP) (g:Rat):List IT :=
 (if kOn t row fx on i false then [kid t row fx on i false r P w g] else [])++(if kOn t row fx on i true then [kid t row fx on i true l P w g] else [])
theorem qBQ {t:List NODE} {row:List CELL} {fx:Int} {on:Bool} {i:Nat} {l r:TR} {P w:List AP} {g:Rat} (hs:TSz t 4) (hc:CSz row 9) (hcov:qi9 t) (hi:i<t.length) (hleaf:qiD t[i]=false) (f0:0<=qdQ t[i]) (f1:qdQ t[i]<(row.length:Int))
  (hl:l.top<t.length) (hr:r.top<t.length) (hP:P.length<=1000000) (hg:SzQ g 1000) (out:List RAT) (a4:Int) (a5:Bool) (a6 a7:List Int) (a8:Bool) (c0:Bool) (c1:Int) (c2:Bool) (c3 c4:List Int) (c7 c8:Bool) (c9 c10:List Int) (c11:Bool) (c12 c13:List Int)
  (base:List ITE) (hb:base.length<=1000000) :
  lp qan K0 (((false,(true,())),0,()),(((i:Int),(canQ g).1.1,(canQ g).1.2,(canQ g).2,a4,a5,a6,a7,a8,()),(c0,c1,c2,c3,c4,(l.top:Int),(r.top:Int),c7,c8,c9,c10,c11,c12,c13,()),(encK P (wtP P),()),(t,row,fx,on,out,base,()),())) =
    some ((),((t,row,fx,on,out,base++(qsh t row fx on i l r P w g).map encI,()),())):=by
 obtain⟨A,eA⟩:∃ A:List IT,A=if kOn t row fx on i false then [kid t row fx on i false r P w g] else []:=⟨_,rfl⟩
 obtain⟨B,eB⟩:∃ B:List IT,B=if kOn t row fx on i true then [kid t row fx on i true l P w g] else []:=⟨_,rfl⟩
 have eK:qsh t row fx on i l r P w g=A++B:=by rw[eA,eB];rfl
 have lA:A.length<=1:=by rw[eA];split<;>simp
 obtain⟨K,hK⟩:∃ K:Nat->List ITE,K=fun j=>if j=0 then [] else if j=1 then A.map encI else (A++B).map encI:=⟨_,rfl⟩
 have K0':K 0=[]:=by rw[hK];rfl
 have K1:K 1=A.map encI:=by rw[hK];rfl
 have K2:K 2=(A++B).map encI:=by rw[hK];rfl
 have ov:over out 0 out=out:=ql9 rfl;have hc1:=fun side=>qv1 (fx:=fx) (on:=on) (c:=r) (P:=P) (w:=w) (W:=wtP P) (g:=g) (m:=0) hs hc hcov hi hleaf f0 f1 hr hP hg side out a4 a5 a6 a7 a8
 have hc2:=fun side=>qv1 (fx:=fx) (on:=on) (c:=l) (P:=P) (w:=w) (W:=wtP P) (g:=g) (m:=0) hs hc hcov hi hleaf f0 f1 hl hP hg side out a4 a5 a6 a7 a8
 have key:=qgQ (step:=qan) (fun j=>(((false,(true,())),(j:Int),()),(((i:Int),(canQ g).1.1,(canQ g).1.2,(canQ g).2,a4,a5,a6,a7,a8,()),(c0,c1,c2,c3,c4,(l.top:Int),(r.top:Int),c7,c8,c9,c10,c11,c12,c13,()),(encK P (wtP P),()),(t,row,fx,on,out,base++K j,()),()))) 2
  (r:=((),((t,row,fx,on,out,base++K 2,()),()))) (by omega) (by
  intro g' j hj;have hj2:j=0\/j=1:=by omega
  rcases hj2 with rfl | rfl
  · rw [qan, cnd (by omega), cnd (by omega)];show((([false,true]:List Bool)[0]?).bind _)=_;rw[show(([false,true]:List Bool)[0]?)=some false from rfl,bS0,cond_false,hc1 false,bS0];dsimp only;rw[K0',List.append_nil,show((0+1:Nat))=1 from rfl,K1,ov];cases hk:kOn t row fx on i false with
    | true =>
     have eA':A=[kid t row fx on i false r P w g]:=by rw[eA,hk];rfl
     rw[cond_true,blt (by simp;omega),cond_true,eA'];rfl
    | false =>
     have eA':A=[]:=by rw[eA,hk];rfl
     rw[cond_false,eA',List.map_nil,List.append_nil];rfl
  · rw [qan, cnd (by omega), cnd (by omega)];show((([false,true]:List Bool)[1]?).bind _)=_;rw[show(([false,true]:List Bool)[1]?)=some true from rfl,bS0,cond_true,hc2 true,bS0];dsimp only;rw[show((1+1:Nat))=2 from rfl,K1,K2,ov];cases hk:kOn t row fx on i true with
    | true =>
     have eB':B=[kid t row fx on i true l P w g]:=by rw[eB,hk];rfl
     rw[cond_true,blt (by simp;omega),cond_true,eB',List.map_append,<- List.append_assoc];rfl
    | false =>
     have eB':B=[]:=by rw[eB,hk];rfl
     rw[cond_false,eB',List.append_nil];rfl) (by
  intro g';rw[qan,cnd' (by omega)])
 rw[K0',K2,<- eK,List.append_nil] at key;exact key
def totL (n f:Nat) (l:List PL):Rat:=lsum (l.map fun y=>qnd (fun S=>qkS S y.2*y.1) n f)
theorem quk (n f:Nat) (a b:List PL):totL n f (a++b)=totL n f a+totL n f b:=by rw[totL,List.map_append,qiE];rfl
def totI (t:List NODE) (row:List CELL) (fx:Int) (on:Bool) (n f:Nat) (x:IT):Rat:=totL n f (qqR t row fx on x.T x.w x.g)
def visL (t:List NODE) (row:List CELL) (fx:Int) (on:Bool):List IT->Nat
 | []=>0
 | x::L=>visF t row fx on x.T+visL t row fx on L
theorem qmH (t:List NODE) (row:List CELL) (fx:Int) (on:Bool) (a b:List IT):visL t row fx on (a++b)=visL t row fx on a+visL t row fx on b:=by
 induction a with
 | nil=>simp [visL]
 | cons x a ih=>simp only[List.cons_append,visL,ih];omega
theorem qvn (t:List NODE) (row:List CELL) (fx:Int) (on:Bool) (a:List IT):a.length<=visL t row fx on a:=by
 induction a with
 | nil=>simp [visL]
 | cons x a ih=>have:=qvo t row fx on x.T;simp only[List.length_cons,visL];omega
theorem qz1 (t:List NODE) (row:List CELL) (fx:Int) (on:Bool) (i:Nat) (l r:TR) (P w:List AP) (g:Rat) :
  visF t row fx on (.split i l r)=1+visL t row fx on (qsh t row fx on i l r P w g):=by
 rw[qsh,qmH];simp only[visF];cases kOn t row fx on i true<;>cases kOn t row fx on i false<;>simp [visL,kid]<;>omega
theorem qz2 (t:List NODE) (row:List CELL) (fx:Int) (on:Bool) (n f i:Nat) (l r:TR) (P w:List AP) (g:Rat) :
   totL n f (qqR t row fx on (.split i l r) w g)=lsum ((qsh t row fx on i l r P w g).map (totI t row fx on n f)):=by
 rw[qsh,List.map_append,qiE];simp only[qqR];rw[quk,Rat.add_comm];congr 1
 · cases kOn t row fx on i false
   · rfl
   · simp only[if_true,List.map_cons,List.map_nil,lsum,Rat.add_zero];rfl
 · cases kOn t row fx on i true
   · rfl
   · simp only[if_true,List.map_cons,List.map_nil,lsum,Rat.add_zero];rfl
theorem qxk {t:List NODE} {row:List CELL} {fx:Int} {on:Bool} {T:TR} {o:Nat->Rat} (hs:TSz t 4) (hc:CSz row 9) (hcov:qi9 t) (hT:Is t (row.length:Int) T) (h0:T.top=0) (hd:T.deep<=8) (hz:T.size<=100) (hrl:row.length<=64)
  {S:Nat} (ho:∀ f,f<row.length->SzQ (o f) S) (hS:S<=50000000000) :
  (∃ st,qcm t row fx on (flo row.length o) []=some (flo row.length (fun f=>o f+totL row.length f (qqR t row fx on T [] 1)),t,row,fx,on,st))/\∀ f,f<row.length->SzQ (o f+totL row.length f (qqR t row fx on T [] 1)) (S+200000000):=by
 obtain⟨n,hn⟩:∃ n,n=row.length:=⟨_,rfl⟩;obtain⟨N,hN⟩:∃ N,N=visF t row fx on T:=⟨_,rfl⟩;have hN2:N<=100:=by rw[hN];exact Nat.le_trans (qBc _ _ _ _ _) hz
 obtain⟨x0,hx0⟩:∃ x0:IT,x0=⟨T,[],1,(-1,(((false,[]),[]),false)),[]⟩:=⟨_,rfl⟩;have t0:∀ f,totI t row fx on n f x0=totL n f (qqR t row fx on T [] 1):=fun f=>by rw[hx0];rfl
 have hg0:que t n x0:=by
  refine⟨0,by rw[hx0,hn];exact hT,by rw[hx0];show 0+T.deep<=8;omega,by rw[hx0];exact SzQ.one,by rw[hx0];exact List.Pairwise.nil,.inl ⟨by rw[hx0],?_,by simp [hx0],by simp [hx0]⟩⟩
  rw[hx0];exact⟨List.Pairwise.nil,fun p hp=>absurd hp (by simp),by simp,fun p hp=>absurd hp (by simp),fun p hp=>absurd hp (by simp)⟩
 rw[<- hn];obtain⟨res,hres,hlp⟩:=qiV (step:=qar)
  (fun j v=>∃ (L:List IT) (o':Nat->Rat),v=((),((t,row,fx,on,flo n o',L.map encI,()),()))/\(∀ x∈L,que t n x)/\j+visL t row fx on L=N/\(∀ f,f<n->SzQ (o' f) (S+2000000*j))/\∀ f,f<n->o' f+lsum (L.map (totI t row fx on n f))=o f+totI t row fx on n f x0)
  (fun r=>(∃ (st:List ITE),r=((),((t,row,fx,on,flo n (fun f=>o f+totI t row fx on n f x0),st,()),())))/\∀ f,f<n->SzQ (o f+totI t row fx on n f x0) (S+200000000)) N
  (v:=((),((t,row,fx,on,flo n o,[x0].map encI,()),())))
  ⟨[x0],o,rfl,fun x hx=>by rw[List.mem_singleton.1 hx];exact hg0,by simp only[visL,hx0];omega,fun f hf=>(ho f (by omega)).mono (by omega),fun f hf=>by simp only[List.map_cons,List.map_nil,lsum,Rat.add_zero]⟩
  (by omega)
  (by
   rintro j v hj ⟨L,o',rfl,hL,hv,hsz,htot⟩;rcases List.eq_nil_or_concat L with rfl | ⟨L0,x,rfl⟩
   · simp only[visL] at hv;omega
   rw[List.concat_eq_append] at *;have hx:que t n x:=hL x (by simp);obtain⟨m,P',j1,j2,j3,j4,j5,j6,j7,j8⟩:=hx.join (by omega);rw[qmH] at hv;simp only[visL,Nat.add_zero] at hv;have hvp:=qvo t row fx on x.T;have hvl:=qvn t row fx on L0;obtain⟨base,hbase⟩:∃ base,base=L0.map encI:=⟨_,rfl⟩;have lb:base.length=L0.length:=by rw[hbase];simp
   have eS:(L0++[x]).map encI=base++[encI x]:=by rw[hbase];simp
   have hi:=j1.top_lt;have qS:∀ y:ITE,isub .i64 ((base++[y]).length:Int) 1=(base.length:Int):=fun y=>by
     rw[List.length_append,List.length_singleton,qcP (by omega) (by omega)];omega
   have gS:(base++[encI x])[base.length]?=some (encI x):=by simp
   have sS:∀ y,(base++[encI x]).set base.length y=base++[y]:=fun y=>by simp
   have cS:∀ y:ITE,(decide ((0:Int)<=(base.length:Int))&&decide (((base.length:Int):Int)<=(base.length:Int))&&decide (((base.length:Int):Int)<=((base++[y]).length:Int)))=true:=fun y=>by
     simp only[Bool.and_eq_true,decide_eq_true_eq,List.length_append,List.length_singleton];omega
   have tS:∀ y:ITE,(base++[y]).take (((base.length:Int)-0).toNat)=base:=fun y=>by
     rw[show((base.length:Int)-0).toNat=base.length by omega];simp
   have hpos:(((base++[encI x]).length:Nat):Int)>0:=by rw[List.length_append,List.length_singleton];omega
   have d2:(base.length:Int)<(((base++[encI x]).length:Nat):Int):=by rw[List.length_append,List.length_singleton];omega
   have walkE:∀ g,qar g ((),((t,row,fx,on,flo n o',(L0++[x]).map encI,()),())) =
       bif t[x.T.top].1 then ((qbD (x.T.top:Int) (canQ x.g).1.1 (canQ x.g).1.2 (canQ x.g).2 x.s.1 x.s.2.1.1.1 x.s.2.1.1.2 x.s.2.1.2 x.s.2.2 t row fx on (flo n o') (encK P' (wtP P'))).bind fun r8=>g ((()),((r8.2.1,r8.2.2.1,r8.2.2.2.1,r8.2.2.2.2.1,(over (flo n o') 0 r8.1),base,()),())))
       else ((lp qan K0 (((false,(true,())),0,()),(((x.T.top:Int),(canQ x.g).1.1,(canQ x.g).1.2,(canQ x.g).2,x.s.1,x.s.2.1.1.1,x.s.2.1.1.2,x.s.2.1.2,x.s.2.2,()),(t[x.T.top].1,t[x.T.top].2.1,t[x.T.top].2.2.1.1.1,t[x.T.top].2.2.1.1.2,t[x.T.top].2.2.1.2,t[x.T.top].2.2.2.1,t[x.T.top].2.2.2.2.1,t[x.T.top].2.2.2.2.2.1,t[x.T.top].2.2.2.2.2.2.1.1.1,t[x.T.top].2.2.2.2.2.2.1.1.2,t[x.T.top].2.2.2.2.2.2.1.2,t[x.T.top].2.2.2.2.2.2.2.1.1,t[x.T.top].2.2.2.2.2.2.2.1.2,t[x.T.top].2.2.2.2.2.2.2.2,()),(encK P' (wtP P'),()),(t,row,fx,on,flo n o',base,()),()))).bind fun t12=>g ((()),((t12.2.1.1,t12.2.1.2.1,t12.2.1.2.2.1,t12.2.1.2.2.2.1,t12.2.1.2.2.2.2.1,t12.2.1.2.2.2.2.2.1,()),()))):=fun g=>by
     rw[qar,eS,cnd hpos,qS,cnd2 (by omega) d2,tN0,gS,bS0];show((some (some (encK x.P (wtP x.P)),()):Option ((Option (List (Int×RAT×CELL)))×Unit)).bind _)=_;rw[bS0];show((some (encK x.P (wtP x.P)):Option (List (Int×RAT×CELL))).bind _)=_;rw[bS0,sS,qS,cS,cond_true,tS];show(qa3 (x.T.top:Int) (canQ x.g).1.1 (canQ x.g).1.2 (canQ x.g).2 x.s.1 x.s.2.1.1.1 x.s.2.1.1.2 x.s.2.1.2 x.s.2.2 (encK x.P (wtP x.P))).bind _=_;rw[j8,bS0];dsimp only;rw[cnd (by omega),tN0,gE0 hi,bS0]
   have hm7:m<=7:=by have:=x.T.deep_pos;omega
   cases hxT:x.T with
   | leaf i =>
     rw[hxT] at j1 j2 hi hv;simp only[hxT] at walkE;obtain⟨i1,i2⟩:=j1;have hlf:=qBO (t:=t) (row:=row) (fx:=fx) (on:=on) j5 (by omega) (by omega) i1 (j3.mono (by omega)) hs (o:=o') (fun f hf=>(hsz f hf).mono (by omega)) (by omega) x.s.1 x.s.2.1.1.1 x.s.2.1.1.2 x.s.2.1.2 x.s.2.2;obtain⟨v,hv'⟩:∃ v,v=x.g*rv (nVal (qfq t i)):=⟨_,rfl⟩;rw[<- hv'] at hlf;have hvz:SzQ v 200:=by rw[hv'];exact((j3.mono (show 8*m+1<=100 by omega)).mul ((hs.at i1).2.1.szQ (by decide))).mono (by decide)
     refine⟨((),((t,row,fx,on,flo n (fun f=>o' f+qwR P' v f),L0.map encI,()),())),⟨L0,_,rfl,fun y hy=>hL y (by simp [hy]),by simp only[visF] at hv;omega,fun f hf=>?_,fun f hf=>?_⟩,fun g=>?_⟩
     · have h1 := qnf (k := 180000) P'.length (fun i hi => qAS j5 (by omega) (by omega) hvz f hi);have h1:SzQ (qwR P' v f) _:=h1;have:P'.length*(180000+1)<=8*(180000+1):=Nat.mul_le_mul_right _ (by omega);exact((hsz f hf).add h1).mono (by omega)
     · have e := htot f hf;rw[List.map_append,qiE] at e;simp only[List.map_cons,List.map_nil,lsum,Rat.add_zero] at e;have e2:totI t row fx on n f x=qwR P' v f:=by
         rw[totI,hxT,qwQ j5 hf];simp only[qqR,totL,List.map_cons,List.map_nil,lsum,Rat.add_zero];rw[<- hv'];refine qum hf fun S _=>?_
         rw[qpT j7]
       rw[e2] at e;rw[<- e];grind
     · rw [walkE g];show(bif t[i].1 then _ else _)=_;rw[show t[i].1=true from i2,cond_true];show(qbD (i:Int) _ _ _ _ _ _ _ _ _ _ _ _ _ _).bind _=_;rw[hlf,bS0];dsimp only;rw[ql9 (by rw[qbq,qbq]),hbase]
   | split i l r =>
     rw[hxT] at j1 j2 hi hv;simp only[hxT,TR.top] at walkE;obtain⟨i1,i2,f0,f1,i3,i4,i5,i6⟩:=j1;simp only[TR.deep] at j2;have hkd:=qBQ (t:=t) (row:=row) (fx:=fx) (on:=on) (i:=i) (l:=l) (r:=r) (P:=P') (w:=x.w) (g:=x.g) hs hc hcov i1 i2 f0 (by omega) i5.top_lt i6.top_lt (by omega) (j3.mono (by omega)) (flo n o') x.s.1 x.s.2.1.1.1 x.s.2.1.1.2 x.s.2.1.2 x.s.2.2
       false t[i].2.1 t[i].2.2.1.1.1 t[i].2.2.1.1.2 t[i].2.2.1.2 t[i].2.2.2.2.2.1 t[i].2.2.2.2.2.2.1.1.1 t[i].2.2.2.2.2.2.1.1.2 t[i].2.2.2.2.2.2.1.2 t[i].2.2.2.2.2.2.2.1.1 t[i].2.2.2.2.2.2.2.1.2 t[i].2.2.2.2.2.2.2.2 base (by omega)
     refine⟨((),((t,row,fx,on,flo n o',(L0++qsh t row fx on i l r P' x.w x.g).map encI,()),())),⟨L0++qsh t row fx on i l r P' x.w x.g,o',rfl,fun y hy=>?_,?_,fun f hf=>(hsz f hf).mono (by omega),fun f hf=>?_⟩,fun g=>?_⟩
     · rcases List.mem_append.1 hy with hy | hy
       · exact hL y (by simp [hy])
       · have hgl : ∀ side, que t n (kid t row fx on i side l P' x.w x.g) := fun side => qvH hs hcov i1 f0 f1 i5 (by omega) j3 j4 j5 j6 j7
         have hgr:∀ side,que t n (kid t row fx on i side r P' x.w x.g):=fun side=>qvH hs hcov i1 f0 f1 i6 (by omega) j3 j4 j5 j6 j7
         rcases List.mem_append.1 hy with hy | hy
         · split at hy
           · rw[List.mem_singleton.1 hy];exact hgr _
           · cases hy
         · split at hy
           · rw[List.mem_singleton.1 hy];exact hgl _
           · cases hy
     · have := qz1 t row fx on i l r P' x.w x.g;rw[qmH];omega
     · have e := htot f hf;rw[List.map_append,qiE] at e;simp only[List.map_cons,List.map_nil,lsum,Rat.add_zero] at e;have e2:totI t row fx on n f x=lsum ((qsh t row fx on i l r P' x.w x.g).map (totI t row fx on n f)):=by
         rw[totI,hxT];exact qz2 t row fx on n f i l r P' x.w x.g
       rw[e2] at e;rw[List.map_append,qiE];exact e
     · rw [walkE g];show(bif t[i].1 then _ else _)=_;rw[show t[i].1=false from i2,cond_false];rw[show t[i].2.2.2.1=(l.top:Int) from i3,show t[i].2.2.2.2.1=(r.top:Int) from i4,hkd,bS0];dsimp only;rw[hbase,<- List.map_append])
  (by
   rintro v ⟨L,o',rfl,hL,hv,hsz,htot⟩;have hl:=qvn t row fx on L;have:L=[]:=by
     cases L with
     | nil=>rfl
     | cons x L=>simp only[List.length_cons] at hl;omega
   subst this;refine⟨((),((t,row,fx,on,flo n o',List.map encI [],()),())),⟨⟨List.map encI [],?_⟩,fun f hf=>?_⟩,fun g=>?_⟩
   · have : flo n o' = flo n (fun f => o f + totI t row fx on n f x0) := qnR fun f hf => by
       rw[<- htot f hf];simp only[List.map_nil,lsum,Rat.add_zero]
     rw[this]
   · rw [<- htot f hf];simp only[List.map_nil,lsum,Rat.add_zero];exact(hsz f hf).mono (by omega)
   · rw[qar,cnd' (by simp)])
 obtain⟨⟨st,rfl⟩,hrs⟩:=hres;refine⟨⟨st,?_⟩,fun f hf=>by have:=hrs f hf;rwa [t0] at this⟩
 have e0:[x0].map encI=[((0:Int),(some (some (encK [] (wtP [])),()):Option ((Option (List (Int×RAT×CELL)))×Unit)),canQ 1,((-1:Int),(((false,[]),[]),false)))]:=by
  rw[hx0];simp only[List.map_cons,List.map_nil,encI,h0];rfl
 rw[e0] at hlp;rw[qcm,qAz,bS0,qkU,bS0];have hlp:lp qar K0 (((),((t,row,fx,on,flo n o,[(0,((some ((some (encK [] (wtP []))),())),(canQ 1,((-1),(((false,[]),[]),false)))))],()),())))=_:=hlp;rw[hlp,bS0];dsimp only;rw[qbq,qbq,Nat.beq_refl,cond_true,bS0];simp only[t0]
def trV (t:List NODE) (row:List CELL) (fx:Int) (on:Bool) (f:Nat):Rat:=totL row.length f (qqR t row fx on (treeOf t) [] 1)
def qi2 (m:qaL) (row:List CELL) (fx:Int) (on:Bool) (f:Nat):Rat:=rsum (fun j=>trV (qip m j) row fx on f) m.2.length
theorem Askd.deep8 {m:qaL} {row:List CELL} (h:Askd m row) {i:Nat} (hi:i<m.2.length):(treeOf m.2[i]).deep<=8/\(treeOf m.2[i]).size<=15:=by
 have h1:=h.good.treeOf hi;have hsh:qrv m.2[i]:=h.good.2 1 (by decide) i hi;have h2:=qxz hsh h1.1;have h3:=qyK (treeOf m.2[i]);have h4:=h.mt _ (gM0 hi);omega
theorem Askd.walk {m:qaL} {row:List CELL} (h:Askd m row) {i:Nat} (hi:i<m.2.length) (fx:Int) (on:Bool) {o:Nat->Rat} {S:Nat} (ho:∀ f,f<row.length->SzQ (o f) S) (hS:S<=50000000000) :
  (∃ st,qcm m.2[i] row fx on (flo row.length o) []=some (flo row.length (fun f=>o f+trV (qip m i) row fx on f),m.2[i],row,fx,on,st))/\∀ f,f<row.length->SzQ (o f+trV (qip m i) row fx on f) (S+200000000):=by
 obtain⟨t1,t2,t3,t4,t5⟩:=h.tree hi;rw[t5] at t2 t3 ⊢;obtain⟨d1,d2⟩:=h.deep8 hi;exact qxk t1 h.cs (h.cov hi) t2 t3 d1 (by omega) h.f64 ho hS
theorem qAK {m:qaL} {row:List CELL} (h:Askd m row) {i:Nat} (hi:i<m.2.length) (fx:Int) (on:Bool) {f:Nat} (hf:f<row.length):SzQ (trV (qip m i) row fx on f) 200000010:=by
 have:=(h.walk hi fx on (o:=fun _=>0) (S:=1) (fun _ _=>SzQ.zero) (by decide)).2 f hf;rw[Rat.zero_add] at this;exact this.mono (by decide)
theorem ql8 {m:qaL} {row:List CELL} (h:Askd m row) (fx:Int) (on:Bool) {f:Nat} (hf:f<row.length):SzQ (qi2 m row fx on f) 1500000000:=by
 have h1:=qnf (f:=fun j=>trV (qip m j) row fx on f) (k:=200000010) m.2.length (fun i hi=>qAK h hi fx on hf);have:m.2.length*(200000010+1)<=6*(200000010+1):=Nat.mul_le_mul_right _ h.ml;exact h1.mono (by omega)
theorem qxU {n:Nat} (h:n<=1000000):qfB (n:Int)=some (flo n fun _=>0):=by
 have key:=qgQ (step:=qbt) (fun i=>((flo i (fun _=>0),(n:Int),(i:Int),()),())) n (r:=((flo n (fun _=>0),()),())) (by omega) (by
  intro g i hi;have d0:(i:Int)<(n:Int):=by omega
  rw[qbt,cnd d0,qfc,bS0,blt (by rw[qbq];omega),cond_true,qbc (by omega)];simp only[flo,List.range_succ,List.map_append];rfl) (by
  intro g;rw[qbt,cnd' (by omega)])
 have key:lp qbt K0 (([],(n:Int),0,()),())=_:=key;rw[qfB,key];rfl
theorem qv4 {m:qaL} {row:List CELL} (h:Askd m row) (fx:Int) (on:Bool):qfY m row fx on=some (flo row.length (qi2 m row fx on)):=by
 have ml:=h.ml;have h64:=h.f64;have hsz:∀ j,j<=m.2.length->∀ f,f<row.length->SzQ (rsum (fun j=>trV (qip m j) row fx on f) j) 1500000000:=fun j hj f hf=>by
  have h1:=qnf (f:=fun j=>trV (qip m j) row fx on f) (k:=200000010) j (fun i hi=>qAK h (by omega) fx on hf);have:j*(200000010+1)<=6*(200000010+1):=Nat.mul_le_mul_right _ (by omega);exact h1.mono (by omega)
 have key:=qgQ (step:=qcf) (fun j=>((row,fx,on,flo row.length (fun f=>rsum (fun j=>trV (qip m j) row fx on f) j),m.2,(m.2.length:Int),(j:Int),()),())) m.2.length (r:=((flo row.length (qi2 m row fx on),()),())) (by omega) (by
  intro g j hj;have d0:(j:Int)<(m.2.length:Int):=by omega
  obtain⟨st,hw⟩:=(h.walk hj fx on (hsz j (by omega)) (by decide)).1;rw[qcf,cnd d0,cnd (by omega),tN0,gE0 hj,bS0,hw,bS0];dsimp only;rw[ql9 (by rw[qbq,qbq]),qbc (by omega)];rfl) (by
  intro g;rw[qcf,cnd' (by omega)];rfl)
 have key:lp qcf K0 ((row,fx,on,flo row.length (fun _=>0),m.2,(m.2.length:Int),0,()),())=_:=key;rw[qfY,show m.1=((row.length:Nat):Int) by have:=h.len;omega,qxU (by omega),bS0,key];rfl
theorem qvg {m:qaL} {row:List CELL} (h:Askd m row):qdj m row=some (flo row.length (qi2 m row (-1) false),0):=by
 obtain⟨e,_,h1,h2⟩:=qCW (row:=row) (by have:=h.ml;omega) (fun t ht=>by have:=h.mt t ht;omega) h.ms;have e0:e=0:=h2.2 ⟨h.good,h.len⟩;subst e0;rw[qdj,h1,bS0,show(!decide ((0:Int)=0))=false by decide,cond_false,qv4 h];rfl
theorem qub {m:qaL} {row:List CELL} {e:Int} (h:qcO m row=some e) (he:e≠0):qdj m row=some ([],e):=by
 rw[qdj,h,bS0,decide_eq_false he];rfl
theorem qrx {m:qaL} {row:List CELL} {fx:Nat} {on:Bool} (h:qcO m row=some 0) (ha:Askd m row) (hx:(fx:Int)<m.1):qeE m row (fx:Int) on=some (flo row.length (qi2 m row (fx:Int) on),0):=by
 rw[qeE,h,bS0,show(!decide ((0:Int)=0))=false by decide,cond_false,cnd' (by omega),cnd' (by omega),qv4 ha];rfl
theorem bnd2 {α:Type} {a b:α} {p q:Prop} [Decidable p] [Decidable q] (hp:p) (hq:q):(bif decide p&&decide q then a else b)=a:=by simp [hp,hq]
def qDC:Rat:=((1:Int):Rat)/((2:Int):Rat)
def qjO (m:qaL) (row:List CELL) (i k:Nat):Rat:=(qi2 m row (k:Int) true i-qi2 m row (k:Int) false i)*qDC
theorem qyl {m:qaL} {row:List CELL} (h:Askd m row) {i:Nat} (k:Nat) (hi:i<row.length):SzQ (qjO m row i k) 3000000010 :=
 (((ql8 h (k:Int) true hi).sub (ql8 h (k:Int) false hi)).mul qyo).mono (by decide)
theorem qyR {m:qaL} {row:List CELL} (h:Askd m row) (hf:qcO m row=some 0) {k:Nat} (hk:k<row.length):qd9 m row (k:Int)=some (flo row.length fun i=>qjO m row i k):=by
 have hl:=h.len;have h64:=h.f64;have hkm:(k:Int)<m.1:=by omega
 have key:=qgQ (step:=qbd) (fun i=>((flo row.length (qi2 m row (k:Int) true),flo row.length (qi2 m row (k:Int) false),flo i (fun i=>qjO m row i k),(row.length:Int),(i:Int),()),())) row.length (r:=((flo row.length (fun i=>qjO m row i k),()),())) (by omega) (by
  intro g i hi;have d0:(i:Int)<(row.length:Int):=by omega
  have s1:=ql8 h (k:Int) true hi;have s2:=ql8 h (k:Int) false hi;rw[qbd,cnd d0,bnd2 (by omega) (by rw[qbq];exact d0),tN0,qgA _ hi,bS0,bnd2 (by omega) (by rw[qbq];exact d0),qgA _ hi,bS0,
   qiP (s1.sm (by decide)) (s2.sm (by decide)),bS0,qah,qah,qns (by decide) (by decide) (by decide) (by decide),bS0,
   qaZ ((s1.sub s2).sm (by decide)) (qyo.sm (by decide)),bS0,qah,qah,blt (by rw[qbq];omega),cond_true,qbc (by omega)]
  simp only[flo,List.range_succ,List.map_append];rfl) (by
  intro g;rw[qbd,cnd' (by omega)])
 have key:lp qbd K0 ((flo row.length (qi2 m row (k:Int) true),flo row.length (qi2 m row (k:Int) false),[],(row.length:Int),0,()),())=_:=key;rw[qd9,qrx hf h hkm,bS0,qrx hf h hkm,bS0]
 try dsimp only
 rw[qbq,key];rfl
def grd (r n:Nat) (g:Nat->Nat->Rat):List (Option (List RAT)):=(List.range r).map fun i=>some (flo n (g i))
theorem qcs (r n:Nat) (g:Nat->Nat->Rat):(grd r n g).length=r:=by simp [grd]
theorem qop {r n i:Nat} (g:Nat->Nat->Rat) (h:i<r):(grd r n g)[i]?=some (some (flo n (g i))):=by simp [grd,h]
theorem qhB {r n:Nat} {g g':Nat->Nat->Rat} (h:∀ i,i<r->∀ j,j<n->g i j=g' i j):grd r n g=grd r n g':=by
 unfold grd;exact List.map_congr_left fun i hi=>by rw[qnR (h i (List.mem_range.1 hi))]
theorem qBT {r n i:Nat} {g g':Nat->Nat->Rat} (h1:∀ j,j<n->g' i j=g' i j) (h2:∀ a,a<r->a≠i->∀ j,j<n->g' a j=g a j):(grd r n g).set i (some (flo n (g' i)))=grd r n g':=by
 apply List.ext_getElem?;intro a;rw[List.getElem?_set];by_cases ha:a<r
 · rw [qop _ ha, qop _ ha, qcs];by_cases e:i=a
   · subst e;rw[if_pos rfl,if_pos ha]
   · rw[if_neg e,qnR (fun j hj=>h2 a ha (fun e'=>e e'.symm) j hj)]
 · have q1 : (grd r n g)[a]? = none := List.getElem?_eq_none (by rw [qcs]; omega);have q2:(grd r n g')[a]?=none:=List.getElem?_eq_none (by rw[qcs];omega);rw[q1,q2];split
   · rw[if_neg (by rw[qcs];omega)]
   · rfl
theorem qyr {r n i k:Nat} {g g':Nat->Nat->Rat} {x:Rat} (h1:g' i k=x) (h2:∀ j,j≠k->g' i j=g i j) (h3:∀ a,a<r->a≠i->∀ j,j<n->g' a j=g a j):(grd r n g).set i (some ((flo n (g i)).set k (canQ x)))=grd r n g':=by
 rw[qyw (o:=g i) (p:=g' i) h1 h2];exact qBT (fun _ _=>rfl) h3
theorem qzs {n:Nat} (h:n<=1000000):qfL (n:Int)=some (grd n n fun _ _=>0):=by
 have inner:∀ (out:List (Option (List RAT))) (v5 v6:Int),lp qbz K0 (((n:Int),out,[],v5,v6,(n:Int),0,()),())=some (((n:Int),out,flo n (fun _=>0),v5,v6,()),()):=fun out v5 v6 =>
  qgQ (step:=qbz) (fun j=>(((n:Int),out,flo j (fun _=>0),v5,v6,(n:Int),(j:Int),()),())) n (r:=(((n:Int),out,flo n (fun _=>0),v5,v6,()),())) (by omega) (by
   intro g j hj;have d0:(j:Int)<(n:Int):=by omega
   rw[qbz,cnd d0,qfc,bS0,blt (by rw[qbq];omega),cond_true,qbc (by omega)];simp only[flo,List.range_succ,List.map_append];rfl) (by
   intro g;rw[qbz,cnd' (by omega)])
 have key:=qgQ (step:=qbA) (fun i=>(((n:Int),grd i n (fun _ _=>0),(n:Int),(i:Int),()),())) n (r:=((grd n n (fun _ _=>0),()),())) (by omega) (by
  intro g i hi;have d0:(i:Int)<(n:Int):=by omega
  rw[qbA,cnd d0,inner,bS0]
  try dsimp only
  rw[blt (by rw[qcs];simp only[List.length_cons,List.length_nil];omega),cond_true,qbc (by omega)]
  simp only[grd,List.range_succ,List.map_append];rfl) (by
  intro g;rw[qbA,cnd' (by omega)])
 have key:lp qbA K0 (((n:Int),[],(n:Int),0,()),())=_:=key;rw[qfL,key];rfl
theorem qCa {n k:Nat} {w:Nat->Rat} (hw:∀ i,i<n->SzQ (w i) k) (hk:1+n*(k+1)<1099511627776) (hn:n<1000000):qhk (flo n w)=some (flo n w,canQ (rsum w n)):=by
 have hsz:∀ i,i<=n->SzQ (rsum w i) (1+i*(k+1)):=fun i hi=>qrN (n:=i) (fun j hj=>hw j (by omega))
 have hpart:∀ i,i<=n->Sm (canQ (rsum w i)):=fun i hi=>by
  refine(hsz i hi).sm (Nat.lt_of_le_of_lt ?_ hk);have:=Nat.mul_le_mul_right (k+1) hi;omega
 have key:=qgQ (step:=qcb) (fun i=>((flo n w,(n:Int),(i:Int),()),((false,[],[],()),((canQ (rsum w i)).1.1,(canQ (rsum w i)).1.2,(canQ (rsum w i)).2,()),()))) n
  (r:=((flo n w,()),((false,[],[],()),((canQ (rsum w n)).1.1,(canQ (rsum w n)).1.2,(canQ (rsum w n)).2,()),()))) (by omega) (by
  intro g i hi;have d0:(i:Int)<(n:Int):=by omega
  have hk1:k<1099511627776:=by have:1*(k+1)<=n*(k+1):=Nat.mul_le_mul_right _ (by omega);omega
  have hp:=qef (hpart i (by omega)) ((hw i hi).sm hk1);rw[qah,qah] at hp;have hp':qdz (((canQ (rsum w i)).1.1,(canQ (rsum w i)).1.2),(canQ (rsum w i)).2) (canQ (w i))=some (canQ (rsum w (i+1))):=hp;rw[qcb,cnd d0,bnd2 (by omega) (by rw[qbq];exact d0),tN0,qgA _ hi,bS0,hp',bS0,qbc (by omega)];rfl) (by
  intro g;rw[qcb,cnd' (by omega)])
 have key':lp qcb K0 ((flo n w,(n:Int),0,()),((false,[],[],()),((canQ 0).1.1,(canQ 0).1.2,(canQ 0).2,()),()))=_:=key;rw[qhk,qfc,bS0,qbq,key',bS0]
 try dsimp only
 rw[qbq,Nat.beq_refl];rfl
def offQ (m:qaL) (row:List CELL) (a b:Nat):Rat:=if a=b then 0 else if qzm m b then qjO m row a b else 0
def qnc (m:qaL) (row:List CELL) (a b:Nat):Rat:=if a=b then qi2 m row (-1) false a-rsum (offQ m row a) row.length else offQ m row a b
theorem qp8 {m:qaL} {row:List CELL} (h:Askd m row) {a:Nat} (b:Nat) (ha:a<row.length):SzQ (offQ m row a b) 3000000010:=by
 unfold offQ;split
 · exact SzQ.zero.mono (by decide)
 · split
   · exact qyl h b ha
   · exact SzQ.zero.mono (by decide)
theorem qvf {m:qaL} {row:List CELL} (h:Askd m row) (hf:qcO m row=some 0) (hv:qeG m=some true) (h8:row.length<=70):qcD m row=some (grd row.length row.length (qnc m row),0):=by
 have hl:=h.len;have h64:=h.f64;have hml:(qpJ m).length=row.length:=by rw[qxq];omega
 obtain⟨n,hn⟩:∃ n,n=row.length:=⟨_,rfl⟩;have hm1:m.1=(n:Int):=by omega
 have inner:∀ (G:Nat->Nat->Rat) (k:Nat),k<n->lp qa5 K0 ((row,flo n (qi2 m row (-1) false),grd n n G,qpJ m,(k:Int),(n:Int),(k:Int),flo n (fun i=>qjO m row i k),(n:Int),0,()),((m.1,m.2,()),())) =
   some ((row,flo n (qi2 m row (-1) false),grd n n (fun a b=>if b=k/\a<n/\a≠k then qjO m row a k else G a b),qpJ m,(n:Int),(k:Int),()),((m.1,m.2,()),())):=by
  intro G k hk;have e0:grd n n G=grd n n (fun a b=>if b=k/\a<0/\a≠k then qjO m row a k else G a b):=qhB fun a _ b _=>by rw[if_neg (fun h=>absurd h.2.1 (Nat.not_lt_zero a))]
  rw[e0];refine qgQ (step:=qa5) (fun i=>((row,flo n (qi2 m row (-1) false),grd n n (fun a b=>if b=k/\a<i/\a≠k then qjO m row a k else G a b),qpJ m,(k:Int),(n:Int),(k:Int),flo n (fun i=>qjO m row i k),(n:Int),(i:Int),()),((m.1,m.2,()),()))) n (by omega) (by
   intro g i hi;have d0:(i:Int)<(n:Int):=by omega
   rw[qa5,cnd d0,bnd2 (by omega) (by rw[qbq];exact d0),tN0,qgA _ hi,bS0];by_cases e:i=k
   · subst e;rw[decide_eq_true rfl,Bool.not_true,cond_false,qbc (by omega)];rw[qhB (g':=fun a b=>if b=i/\a<i+1/\a≠i then qjO m row a i else G a b) (fun a _ b _=>by
       by_cases e1:b=i/\a<i/\a≠i
       · rw[if_pos e1,if_pos ⟨e1.1,by omega,e1.2.2⟩]
       · rw[if_neg e1,if_neg (fun h=>e1 ⟨h.1,by omega,h.2.2⟩)])]
     rfl
   · rw [decide_eq_false (show ¬ (i : Int) = (k : Int) by omega), Bool.not_false, cond_true, bnd2 (by omega) (by rw [qcs]; exact d0), qop _ hi, bS0, bS0];rw[bS0,bnd2 (by omega) (by rw[qbq];omega),tN0,bS0,bS0,qgA _ hk,bS0,qbc (by omega)];rw [qyr (g := fun a b => if b = k /\ a < i /\ a ≠ k then qjO m row a k else G a b) (g' := fun a b => if b = k /\ a < i + 1 /\ a ≠ k then qjO m row a k else G a b) (by (try dsimp only); rw [if_pos ⟨rfl, by omega, e⟩]) (fun j hj => by
         (try dsimp only);rw[if_neg (fun h=>hj h.1),if_neg (fun h=>hj h.1)]) (fun a _ ha j _=>by
         try dsimp only
         by_cases e1:j=k/\a<i/\a≠k
         · rw[if_pos e1,if_pos ⟨e1.1,by omega,e1.2.2⟩]
         · rw[if_neg e1,if_neg (fun h=>e1 ⟨h.1,by omega,h.2.2⟩)])]
     rfl) (by
   intro g;rw[qa5,cnd' (by omega)])
 have outer:=qgQ (step:=qbe) (fun k=>((row,flo n (qi2 m row (-1) false),grd n n (fun a b=>if b<k then offQ m row a b else 0),qpJ m,(n:Int),(k:Int),()),((m.1,m.2,()),()))) n
  (r:=((flo n (qi2 m row (-1) false),grd n n (offQ m row),()),())) (by omega) (by
  intro g k hk;have d0:(k:Int)<(n:Int):=by omega
  rw[qbe,cnd d0,cnd (by omega),tN0,qxr (by omega),bS0];cases hu:qzm m k with
  | false =>
   rw[Bool.not_false,cond_true,qbc (by omega)];rw[qhB (g':=fun a b=>if b<k+1 then offQ m row a b else 0) (fun a _ b _=>by
     by_cases e1:b<k
     · rw[if_pos e1,if_pos (by omega)]
     · rw [if_neg e1];by_cases e2:b=k
       · rw[if_pos (by omega),offQ,e2,hu];simp
       · rw[if_neg (by omega)])]
   rfl
  | true =>
   rw[Bool.not_true,cond_false,show((m.1,m.2):qaL)=m from rfl,qyR h hf (by omega),bS0,qbq,<- hn,inner _ k hk,bS0]
   try dsimp only
   rw[qbc (by omega)];rw[qhB (g':=fun a b=>if b<k+1 then offQ m row a b else 0) (fun a ha b _=>by
     by_cases e1:b=k
     · subst e1;rw[if_pos (show b<b+1 by omega)];by_cases e2:a=b
       · rw[if_neg (fun h=>h.2.2 e2),if_neg (Nat.lt_irrefl b),offQ,if_pos e2]
       · rw[if_pos ⟨rfl,ha,e2⟩,offQ,if_neg e2,if_pos hu]
     · rw [if_neg (fun h => e1 h.1)];by_cases e2:b<k
       · rw[if_pos e2,if_pos (by omega)]
       · rw[if_neg e2,if_neg (by omega)])]
   rfl) (by
  intro g;rw[qbe,cnd' (by omega)];rw[qhB (g':=offQ m row) (fun a _ b hb=>by rw[if_pos hb])])
 have osz:∀ i,i<n->SzQ (rsum (offQ m row i) n) 300000002000:=fun i hi=>by
  have h1:=qrN (f:=offQ m row i) (k:=3000000010) (n:=n) (fun j _=>qp8 h j (by omega));have:n*(3000000010+1)<=70*(3000000010+1):=Nat.mul_le_mul_right _ (by omega);exact h1.mono (by omega)
 have last:=qgQ (step:=qa4) (fun i=>((flo n (qi2 m row (-1) false),grd n n (fun a b=>if a<i then qnc m row a b else offQ m row a b),(n:Int),(i:Int),()),())) n
  (r:=((grd n n (qnc m row),()),())) (by omega) (by
  intro g i hi;have d0:(i:Int)<(n:Int):=by omega
  have hsum:=qCa (n:=n) (w:=offQ m row i) (k:=3000000010) (fun j _=>qp8 h j (by omega)) (by
   have:n*(3000000010+1)<=70*(3000000010+1):=Nat.mul_le_mul_right _ (by omega);omega) (by omega)
  have hrow:(fun b=>if i<i then qnc m row i b else offQ m row i b)=offQ m row i:=by
   funext b;rw[if_neg (by omega)]
  have s0:SzQ (offQ m row i i) 3000000010:=qp8 h i (by omega);have s1:=osz i hi;have e0:offQ m row i i=0:=by rw[offQ,if_pos rfl]
  rw[qa4,cnd d0,bnd2 (by omega) (by rw[qcs];exact d0),tN0,qop _ hi,hrow,bS0,bnd2 (by omega) (by rw[qbq];exact d0),qgA _ hi,bS0,bnd2 (by omega) (by rw[qcs];exact d0),bS0,bS0,bS0,hsum,bS0]
  try dsimp only
  rw[ql9 rfl,qw1,cond_true,bnd2 (by omega) (by rw[qcs];exact d0),bS0,bS0,bS0,bnd2 (by omega) (by rw[qbq];exact d0),bS0,bS0,qgA _ hi,bS0,
   qiP (s1.sm (by decide)) (s0.sm (by decide)),bS0,qah,qah,qiP ((ql8 h (-1) false (show i<row.length by omega)).sm (by decide)) ((s1.sub s0).sm (by decide)),bS0,qah,qah,
   bS0,bS0,bnd2 (by omega) (by rw[qbq];exact d0),bS0,bS0,qgA _ hi,bS0,qbc (by omega)]
  have hset:=qyr (r:=n) (n:=n) (i:=i) (k:=i) (g:=fun a b=>if a<i then qnc m row a b else offQ m row a b) (g':=fun a b=>if a<i+1 then qnc m row a b else offQ m row a b) (x:=qi2 m row (-1) false i-(rsum (offQ m row i) n-offQ m row i i)) (by
     try dsimp only
     rw[if_pos (by omega),qnc,if_pos rfl,e0,hn];grind) (fun j hj=>by
     try dsimp only
     rw[if_pos (by omega),if_neg (by omega),qnc,if_neg (fun h=>hj h.symm)]) (fun a _ ha j _=>by
     try dsimp only
     by_cases e1:a<i
     · rw[if_pos e1,if_pos (by omega)]
     · rw[if_neg e1,if_neg (by omega)])
  try dsimp only at hset
  rw[hrow] at hset;rw[hset];rfl) (by
  intro g;rw[qa4,cnd' (by omega)];rw[qhB (g':=qnc m row) (fun a ha b _=>by rw[if_pos ha])])
 have outer:lp qbe K0 ((row,flo n (qi2 m row (-1) false),grd n n (fun a b=>if b<0 then offQ m row a b else 0),qpJ m,(n:Int),0,()),((m.1,m.2,()),()))=_:=outer;have last:lp qa4 K0 ((flo n (qi2 m row (-1) false),grd n n (fun a b=>if a<0 then qnc m row a b else offQ m row a b),(n:Int),0,()),())=_:=last;rw[qcD,qvg h,bS0]
 try dsimp only
 rw[decide_eq_true rfl,Bool.not_true,cond_false,hm1,qzs (by omega),bS0,qB9 hv h.good,bS0,<- hn,qhB (g':=fun a b=>if b<0 then offQ m row a b else 0) (fun a _ b _=>by rw[if_neg (by omega)]),<- hm1,show(m.1:Int)=(n:Int) from hm1];rw[show((n:Int),m.2,())=(m.1,m.2,()) by rw[hm1],outer,bS0]
 try dsimp only
 rw[qcs,qhB (g:=offQ m row) (g':=fun a b=>if a<0 then qnc m row a b else offQ m row a b) (fun a _ b _=>by rw[if_neg (by omega)]),last];rfl
theorem qhi:qbg=some true:=by decide +kernel
theorem qkl {J:Type} {n a b:Nat} (g:Nat->Nat->Rat) (ha:a<n) (hb:b<n) (K:RAT->Option J) :
  (bif decide (0<=(a:Int))&&decide ((a:Int)<((grd n n g).length:Int)) then ((grd n n g)[(a:Int).toNat]?).bind fun _=>((grd n n g)[(a:Int).toNat]?).bind fun x=>x.bind fun y=>bif decide (0<=(b:Int))&&decide ((b:Int)<(y.length:Int)) then ((grd n n g)[(a:Int).toNat]?).bind fun x=>x.bind fun y=>(y[(b:Int).toNat]?).bind fun z=>K z else none else none)=K (canQ (g a b)):=by
 rw[bnd2 (by omega) (by rw[qcs];omega),tN0,tN0,qop _ ha,bS0,bS0,bS0,bnd2 (by omega) (by rw[qbq];omega),bS0,bS0,qgA _ hb,bS0]
theorem qwZ {J:Type} {n a:Nat} (g:Nat->Nat->Rat) (ha:a<n) (K:List RAT->Option J) :
  (bif decide (0<=(a:Int))&&decide ((a:Int)<((grd n n g).length:Int)) then ((grd n n g)[(a:Int).toNat]?).bind fun _=>((grd n n g)[(a:Int).toNat]?).bind fun x=>x.bind fun y=>K y else none)=K (flo n (g a)):=by
 rw[bnd2 (by omega) (by rw[qcs];omega),tN0,qop _ ha,bS0,bS0,bS0]
theorem qzk {m:qaL} {row:List CELL} (h:Askd m row) (h8:row.length<=8) {a:Nat} (b:Nat) (ha:a<row.length):SzQ (qnc m row a b) 26000000000:=by
 unfold qnc;split
 · have h1 := qrN (f := offQ m row a) (k := 3000000010) (n := row.length) (fun j _ => qp8 h j ha);have:row.length*(3000000010+1)<=8*(3000000010+1):=Nat.mul_le_mul_right _ h8;exact((ql8 h (-1) false ha).sub h1).mono (by omega)
 · exact(qp8 h b ha).mono (by decide)
theorem ltl {a b c:Rat} (h:a<=b) (h':b<c):a<c:=by grind
structure Bst (f:Nat->Nat->Rat) (n i k a b:Nat):Prop where
 ab:a<b
 bn:b<n
 le:∀ i' k',i'<k'->k'<n->(i'<i\/i'=i/\k'<k)->f i' k'<=f a b
 lt:∀ i' k',i'<k'->k'<n->(i'<a\/i'=a/\k'<b)->f i' k'<f a b
theorem Bst.step {f:Nat->Nat->Rat} {n i k a b:Nat} (h:Bst f n i k a b) (hik:i<k) (hk:k<n) :
   (f a b<f i k->Bst f n i (k+1) i k)/\(¬ f a b<f i k->Bst f n i (k+1) a b):=by
 refine⟨fun hlt=>⟨hik,hk,fun i' k' h1 h2 h3=>?_,fun i' k' h1 h2 h3=>?_⟩,fun hn=>⟨h.ab,h.bn,fun i' k' h1 h2 h3=>?_,h.lt⟩⟩
 · by_cases e : i' = i /\ k' = k
   · rw[e.1,e.2];exact Rat.le_refl
   · exact Rat.le_of_lt (ltl (h.le i' k' h1 h2 (by omega)) hlt)
 · exact ltl (h.le i' k' h1 h2 h3) hlt
 · by_cases e : i' = i /\ k' = k
   · rw[e.1,e.2];exact Rat.not_lt.1 hn
   · exact h.le i' k' h1 h2 (by omega)
theorem Bst.next {f:Nat->Nat->Rat} {n i a b:Nat} (h:Bst f n i n a b):Bst f n (i+1) (i+2) a b :=
 ⟨h.ab,h.bn,fun i' k' h1 h2 h3=>h.le i' k' h1 h2 (by omega),h.lt⟩
def absG (g:Nat->Nat->Rat) (i k:Nat):Rat:=rabs (g i k)
theorem qrZ {q:Rat} {k:Nat} (h:SzQ q k):SzQ (rabs q) k:=by
 unfold rabs;split
 · exact h.neg
 · exact h
theorem qxE {g:Nat->Nat->Rat} {n:Nat} (hn:n<=8) (gz:∀ a b,a<n->SzQ (g a b) 26000000000) (B:Bool×List Int×List Int×Unit) {i a b:Nat} (hi:i<n) (hb:Bst (absG g) n i (i+1) a b) :
  ∃ a' b',Bst (absG g) n i n a' b'/\lp qav K0 ((grd n n g,(a:Int),(b:Int),(i:Int),((i+1:Nat):Int),(n:Int),(i:Int),()),(B,()))=some ((grd n n g,(a':Int),(b':Int),(n:Int),(i:Int),()),(B,())):=by
 obtain⟨b0,b1,b2,_⟩:=B;obtain⟨r,⟨a',b',h1,h2⟩,h3⟩:=qiV (step:=qav)
  (fun j v=>∃ a b:Nat,Bst (absG g) n i (i+1+j) a b/\v=((grd n n g,(a:Int),(b:Int),(i:Int),((i+1+j:Nat):Int),(n:Int),(i:Int),()),((b0,b1,b2,()),())))
  (fun r=>∃ a' b':Nat,Bst (absG g) n i n a' b'/\r=((grd n n g,(a':Int),(b':Int),(n:Int),(i:Int),()),((b0,b1,b2,()),()))) (n-(i+1))
  (v := ((grd n n g, (a : Int), (b : Int), (i : Int), ((i + 1 : Nat) : Int), (n : Int), (i : Int), ()), ((b0, b1, b2, ()), ()))) ⟨a, b, hb, rfl⟩ (by omega) (by
   rintro j v hj ⟨a,b,hB,rfl⟩;have hk:i+1+j<n:=by omega
   have han:a<n:=Nat.lt_trans hB.ab hB.bn;have s1:=qrZ (gz i (i+1+j) hi);have s2:=qrZ (gz a b han);have e1:=qiS ((gz i (i+1+j) hi).sm (by decide));have e2:=qiS ((gz a b han).sm (by decide));rw[qah] at e1 e2;have e3:=qiR (s1.sm (by decide)) (s2.sm (by decide));rw[qah,qah] at e3;obtain⟨p1,p2⟩:=hB.step (show i<i+1+j by omega) hk;by_cases hlt:absG g a b<absG g i (i+1+j)
   · refine ⟨_, ⟨i, i + 1 + j, p1 hlt, rfl⟩, fun K => ?_⟩;have hc:rcmp (rabs (g i (i+1+j))) (rabs (g a b))>0:=qnk.2 hlt;rw[qav,cnd (by rw[qcs];omega),qkl _ hi hk,e1,bS0,qkl _ han hB.bn,e2,bS0,e3,bS0,cnd hc,qbc (by omega)];rfl
   · refine ⟨_, ⟨a, b, p2 hlt, rfl⟩, fun K => ?_⟩;have hc:¬ rcmp (rabs (g i (i+1+j))) (rabs (g a b))>0:=fun h=>hlt (qnk.1 h)
     rw[qav,cnd (by rw[qcs];omega),qkl _ hi hk,e1,bS0,qkl _ han hB.bn,e2,bS0,e3,bS0,cnd' hc,qbc (by omega)];rfl) (by
   rintro v ⟨a,b,hB,rfl⟩;refine⟨_,⟨a,b,by rw[show i+1+(n-(i+1))=n by omega] at hB;exact hB,rfl⟩,fun K=>?_⟩;rw[qav,cnd' (by rw[qcs];omega)])
 exact⟨a',b',h1,by rw[h3,h2]⟩
theorem qxD {g:Nat->Nat->Rat} {n:Nat} (hn:n<=8) (h2:2<=n) (gz:∀ a b,a<n->SzQ (g a b) 26000000000) (B:Bool×List Int×List Int×Unit) :
  ∃ a b,Bst (absG g) n n (n+1) a b/\lp qaN K0 ((grd n n g,0,1,(n:Int),0,()),(B,()))=some ((grd n n g,(a:Int),(b:Int),()),(B,())):=by
 obtain⟨b0,b1,b2,_⟩:=B;obtain⟨r,⟨a',b',q1,q2⟩,q3⟩:=qiV (step:=qaN)
  (fun i v=>∃ a b:Nat,Bst (absG g) n i (i+1) a b/\v=((grd n n g,(a:Int),(b:Int),(n:Int),(i:Int),()),((b0,b1,b2,()),())))
  (fun r=>∃ a b:Nat,Bst (absG g) n n (n+1) a b/\r=((grd n n g,(a:Int),(b:Int),()),((b0,b1,b2,()),()))) n
  (v := ((grd n n g, 0, 1, (n : Int), 0, ()), ((b0, b1, b2, ()), ()))) ⟨0, 1, ⟨by decide, by omega, fun i' k' _ _ _ => by omega, fun i' k' _ _ _ => by omega⟩, rfl⟩ (by omega) (by
   rintro i v hi ⟨a,b,hB,rfl⟩;obtain⟨a',b',hB',hr⟩:=qxE hn gz (b0,b1,b2,()) hi hB;refine⟨_,⟨a',b',hB'.next,rfl⟩,fun K=>?_⟩;rw[qaN,cnd (by omega),qbc (by omega)];have hr':lp qav K0 ((grd n n g,(a:Int),(b:Int),(i:Int),(i:Int)+1,(n:Int),(i:Int),()),((b0,b1,b2,()),()))=_:=hr;rw[hr',bS0];dsimp only;rw[qbc (by omega)];rfl) (by
   rintro v ⟨a,b,hB,rfl⟩;refine⟨_,⟨a,b,hB,rfl⟩,fun K=>?_⟩;rw[qaN,cnd' (by omega)])
 exact⟨a',b',q1,by rw[q3,q2]⟩
theorem qpb {m:qaL} {row:List CELL} {e:Int} (h:qcO m row=some e) (he:e≠0):qcD m row=some ([],e):=by
 rw[qcD,qub h he,bS0];dsimp only;rw[decide_eq_false he];rfl
theorem qkM (m0:qaL) (row0:List CELL) (hl:m0.2.length<=9223372036854775807) (ht:∀ t∈m0.2,t.length<=9223372036854775807) (hr:row0.length<=9223372036854775807):qbG m0 row0=some true:=by
 obtain⟨m,row,hs,ms,ml,mt,cs⟩:=qAy m0 row0 hl ht hr;obtain⟨b,hv,hb⟩:=qC3 (m:=m) (by omega) (fun t h=>by have:=mt t h;omega) ms (by decide);obtain⟨r1,r2⟩:=qA9 hv row;have lz:decide ((([]:List Int).length:Int)=0)=true:=rfl;rw[qbG,hs,bS0];dsimp only;by_cases h8:m.1>8
 · rw[cnd h8,qhi];rfl
 rw[cnd' h8];by_cases he:whyR b m row=0
 · have hbt : b = true := by cases b with
     | true=>rfl
     | false=>exact absurd he (by rw[whyR,if_neg (by decide)];decide)
   subst hbt;have hlen:(row.length:Int)=m.1:=by
     apply Classical.byContradiction;intro hn;rw[whyR,if_pos rfl,if_neg hn] at he;exact absurd he (by decide)
   have ha:Askd m row:=⟨hb.1 rfl,hlen,ms,by omega,mt,cs⟩;rw[he] at r1;obtain⟨n,hn⟩:∃ n,n=row.length:=⟨_,rfl⟩;obtain⟨g,eg⟩:∃ g,g=qnc m row:=⟨_,rfl⟩;have hVals:=qvf ha r1 hv (by omega);rw[<- eg,<- hn] at hVals;have gz:∀ a b,a<n->SzQ (g a b) 26000000000:=fun a b h=>by rw[eg];exact qzk ha (by omega) b (by omega)
   have hn8:n<=8:=by omega
   by_cases h2:n<2
   · have hS : qbf m row = some (0, 0, ((false, []), []), false) := by
      rw[qbf,hVals,bS0];dsimp only;rw[decide_eq_true rfl,Bool.not_true,cond_false,cnd (by rw[qcs];omega)]
     rw[hS,bS0,hVals,bS0];dsimp only;rw[decide_eq_true rfl,Bool.not_true,cond_false,cnd (by rw[qcs];omega),cond_true,cond_true,lz,cond_true,Bool.not_false,cond_true,qhi];rfl
   · obtain ⟨a, c, hB, hlp⟩ := qxD hn8 (by omega) gz (false, [], [], ());have han:a<n:=Nat.lt_trans hB.ab hB.bn;have hS:qbf m row=some ((a:Int),(c:Int),canQ (g a c),true):=by
      rw[qbf,hVals,bS0];dsimp only;rw[decide_eq_true rfl,Bool.not_true,cond_false,cnd' (by rw[qcs];omega),qcs,hlp,bS0];dsimp only;rw[qkl _ han hB.bn]
     have k1:=qgQ (step:=qag) (fun i=>(((a:Int),(c:Int),true,grd n n g,(i:Int),()),(((canQ (g a c)).1.1,(canQ (g a c)).1.2,(canQ (g a c)).2,()),()))) n
      (r:=.inl (((a:Int),(c:Int),true,grd n n g,()),(((canQ (g a c)).1.1,(canQ (g a c)).1.2,(canQ (g a c)).2,()),()))) (by omega) (by
      intro K i hi;rw[qag,cnd (by rw[qcs];omega),qwZ _ hi,qbq,qcs,decide_eq_true rfl,Bool.not_true,cond_false,qbc (by omega)];rfl) (by
      intro K;rw[qag,cnd' (by rw[qcs];omega)])
     have k1:lp qag K0 (((a:Int),(c:Int),true,grd n n g,0,()),(((canQ (g a c)).1.1,(canQ (g a c)).1.2,(canQ (g a c)).2,()),()))=_:=k1;have e2:=qiS ((gz a c han).sm (by decide));rw[qah] at e2;have e2':qgl (((canQ (g a c)).1.1,(canQ (g a c)).1.2),(canQ (g a c)).2)=some (canQ (rabs (g a c))):=e2;have k2:∀ i,i<n->lp qae K0 (((a:Int),(c:Int),grd n n g,(i:Int),((i+1:Nat):Int),()),(((canQ (g a c)).1.1,(canQ (g a c)).1.2,(canQ (g a c)).2,()),())) =
       some (.inl (((a:Int),(c:Int),grd n n g,(i:Int),()),(((canQ (g a c)).1.1,(canQ (g a c)).1.2,(canQ (g a c)).2,()),()))):=fun i hi =>
      qgQ (step:=qae) (fun j=>(((a:Int),(c:Int),grd n n g,(i:Int),((i+1+j:Nat):Int),()),(((canQ (g a c)).1.1,(canQ (g a c)).1.2,(canQ (g a c)).2,()),()))) (n-(i+1)) (by omega) (by
       intro K j hj;have hk:i+1+j<n:=by omega
       have e1:=qiS ((gz i (i+1+j) hi).sm (by decide));rw[qah] at e1;have e3:=qiR ((qrZ (gz i (i+1+j) hi)).sm (by decide)) ((qrZ (gz a c han)).sm (by decide));rw[qah,qah] at e3;have hle:rabs (g i (i+1+j))<=rabs (g a c):=hB.le i (i+1+j) (by omega) hk (by omega);have hc:¬ rcmp (rabs (g i (i+1+j))) (rabs (g a c))>0:=fun h=>Rat.not_lt.2 hle (qnk.1 h)
       rw[qae,cnd (by rw[qcs];omega),qkl _ hi hk,e1,bS0,e2',bS0,e3,bS0,cnd' hc,qbc (by omega)];by_cases hz:rcmp (rabs (g i (i+1+j))) (rabs (g a c))=0
       · have heq := qxP.1 hz;have hno:¬ (i<a\/i=a/\i+1+j<c):=fun h=>by
           have:rabs (g i (i+1+j))<rabs (g a c):=hB.lt i (i+1+j) (by omega) hk h;rw[heq] at this;exact Rat.lt_irrefl this
         rw[cnd hz,cnd' (by omega)];by_cases hia:(i:Int)=(a:Int)
         · rw[cnd hia,cnd' (by omega)];rfl
         · rw[cnd' hia];rfl
       · rw[cnd' hz];rfl) (by
       intro K;rw[qae,cnd' (by rw[qcs];omega)])
     have k3:=qgQ (step:=qaf) (fun i=>(((a:Int),(c:Int),grd n n g,(i:Int),()),(((canQ (g a c)).1.1,(canQ (g a c)).1.2,(canQ (g a c)).2,()),()))) n
      (r:=.inl ((()),())) (by omega) (by
      intro K i hi;rw[qaf,cnd (by rw[qcs];omega),qbc (by omega)];have:=k2 i hi;rw[show((i+1:Nat):Int)=(i:Int)+1 from rfl] at this;rw[this,bS0];dsimp only;rw[qbc (by omega)];rfl) (by
      intro K;rw[qaf,cnd' (by rw[qcs];omega)])
     have k3:lp qaf K0 (((a:Int),(c:Int),grd n n g,0,()),(((canQ (g a c)).1.1,(canQ (g a c)).1.2,(canQ (g a c)).2,()),()))=_:=k3;have hIs:qea (((canQ (g a c)).1.1,(canQ (g a c)).1.2),(canQ (g a c)).2) (canQ (g a c))=some true:=by
      have:=qDE (gz a c han) (by decide) (gz a c han).szR (by decide);rw[qah,decide_eq_true rfl] at this;exact this
     rw[hS,bS0,hVals,bS0];dsimp only;rw[decide_eq_true rfl,Bool.not_true,cond_false,cnd' (by rw[qcs];omega),k1,bS0];dsimp only;have hab:=hB.ab;have hbn:=hB.bn;rw[Bool.not_true,cond_false,cnd' (by omega),cnd' (by omega),cnd' (by rw[qcs];omega),qkl _ han hB.bn,hIs,bS0,Bool.not_true,cond_false,k3,bS0];dsimp only;rw[qhi];rfl
 · have hS : qbf m row = some (0, 0, ((false, []), []), false) := by
     rw[qbf,qpb r1 he,bS0];dsimp only;rw[decide_eq_false he,Bool.not_false,cond_true]
   rw[hS,bS0,qpb r1 he,bS0];dsimp only;rw[decide_eq_false he,Bool.not_false,cond_true,decide_eq_true rfl,cond_true,cond_true,lz,cond_true,cond_true,qhi];rfl
end Go.Proofs.YtaeiamdjpkgjpaaGreatDoor.X
