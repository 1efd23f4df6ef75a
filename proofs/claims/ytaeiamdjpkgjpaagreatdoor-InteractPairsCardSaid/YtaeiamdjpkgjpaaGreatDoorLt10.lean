/- Own work: part of the proof; the first line of each part says what it tells. -/
import Derived.Test.YtaeiamdjpkgjpaaGreatDoorLt9


namespace Go.Proofs.YtaeiamdjpkgjpaaGreatDoor.X
open Go
set_option linter.unusedVariables false
set_option linter.unusedSimpArgs false
def lfT (P:List AP) (v:Rat) (f i:Nat):Rat:=match P[i]? with
 | some p=>if p.1=f then sumP P i*(one0 p.2.2-p.2.1)*v else 0
 | none=>0
def qwx (P:List AP) (v:Rat) (f:Nat):Rat:=rsum (lfT P v f) P.length
theorem qpK {P:List AP} {v:Rat} {f i:Nat} (h:i<P.length):lfT P v f i=if P[i].1=f then sumP P i*(one0 P[i].2.2-P[i].2.1)*v else 0:=by
 simp only[lfT,gE0 h]
def apF (p:AP):FP:=(p.1,fcP p)
theorem qpj (P:List AP) (S:Nat):qdw S P=ql7 (P.map apF) S:=by
 unfold qdw ql7;rw[List.map_map];congr 1
theorem qAW {P:List AP} {a:Nat} (h:a<P.length):sumP P a=EE ((qbC P a).map fcP) fun k=>wq k ((qbC P a).length+1):=by
 have hl:=qdM h;rw[qBW,List.length_map,hl];unfold sumP;refine qbF fun i _=>?_
 unfold wtP ekP;rw[Rat.mul_comm,hl]
theorem qpk {P Q:List AP} (h:P.Perm Q) (S:Nat):qdw S P=qdw S Q:=qqH (h.map _)
theorem qww {P:List AP} {k n f:Nat} (h:qgM P k n) (hf:f<n) (v:Rat):qwx P v f=qlD (fun S=>qdw S P*v) n f:=by
 rw[qxs];rcases qyf (P:=P) (f:=f) with hn | ⟨a,ha,he,_⟩
 · have e1 : qlD (fun S => qdw S P) n f = 0 := by
    have:(fun S=>qdw S P)=ql7 (P.map apF):=funext fun S=>qpj P S
    rw[this];refine qxr fun hm=>?_
    rw[List.map_map] at hm;obtain⟨p,hp,e⟩:=List.mem_map.1 hm;exact hn p hp e
   rw[e1,Rat.zero_mul];refine qiS fun i hi=>?_
   rw[qpK hi,if_neg (hn _ (gM0 hi))]
 · have hno := h.notin ha;rw[he] at hno;have ho:=h.out ha;have e1:qlD (fun S=>qdw S P) n f=(one0 P[a].2.2-P[a].2.1)*sumP P a:=by
    have e2:(fun S=>qdw S P)=fun S=>pick (fcP P[a]) (S.testBit f)*ql7 ((qbC P a).map apF) S:=funext fun S=>by
      rw[qpk (qjc ha) S];show facP S P[a]*qdw S (qbC P a)=_;rw[qpj,<- he];rfl
    rw[e2,qxq hf (by rw[List.map_map];exact ho.nd) (fun p hp=>by
      obtain⟨x,hx,rfl⟩:=List.mem_map.1 hp;exact ho.lt x hx) (fun hm=>by
      rw[List.map_map] at hm;obtain⟨p,hp,e⟩:=List.mem_map.1 hm;exact hno p hp e),qAW ha]
    rw[List.map_map,List.length_map];rfl
   rw[e1];have hone:∀ i,i<P.length->i≠a->lfT P v f i=0:=fun i hi hne=>by
    rw[qpK hi];refine if_neg fun e=>hne ?_
    have hnd:=h.nd;have hpw:=List.pairwise_iff_getElem.1 (show(P.map (·.1)).Pairwise (·≠·) from hnd);rcases Nat.lt_trichotomy i a with hlt | heq | hlt
    · have h5 := hpw i a (by simpa using hi) (by simpa using ha) hlt;simp [e,he] at h5
    · exact heq
    · have h5 := hpw a i (by simpa using ha) (by simpa using hi) hlt;simp [e,he] at h5
   have key:∀ n,n<=P.length->rsum (lfT P v f) n=if a<n then lfT P v f a else 0:=by
    intro n
    induction n with
    | zero=>intro _;rw[if_neg (by omega)];rfl
    | succ n ih =>
      intro hn;rw[rsum,ih (by omega)];by_cases e:n=a
      · subst e;rw[if_neg (by omega),if_pos (by omega),Rat.zero_add]
      · rw [hone n (by omega) e, Rat.add_zero];by_cases h1:a<n
        · rw[if_pos h1,if_pos (by omega)]
        · rw[if_neg h1,if_neg (by omega)]
   unfold qwx;rw[key _ (Nat.le_refl _),if_pos ha,qpK ha,if_pos he]
   grind
theorem ekS8 {k n:Nat} (hk:k<=70) (hn:n<=8):ekS k n<=20000:=by
 have h1:=qvy k hn;have h2:ekS k 8<=ekS 70 8:=by
  have:∀ n,ekS k n<=ekS 70 n:=by
   intro n
   induction n with
   | zero=>exact Nat.le_refl _
   | succ n ih=>simp only[ekS];omega
  exact this 8
 have h3:ekS 70 8<=20000:=by decide +kernel
 omega
theorem qmD {f:Nat->Rat} {k:Nat}:∀ n,(∀ i,i<n->SzQ (f i) k)->SzQ (rsum f n) (1+n*(k+1)):=by
 intro n
 induction n with
 | zero=>intro _;exact SzQ.zero.mono (by omega)
 | succ n ih =>
  intro h;have h1:=ih fun i hi=>h i (by omega)
  have e:(n+1)*(k+1)=n*(k+1)+(k+1):=Nat.succ_mul _ _;exact(h1.add (h n (by omega))).mono (by omega)
theorem qxm {P:List AP} {k g a:Nat} (h:qgM P k g) (hk:k<=70) (hl:P.length<=8) (ha:a<P.length):SzQ (sumP P a) 170000:=by
 have hS:=ekS8 (k:=k) (n:=(qbC P a).length) hk (by have:=qdM ha;omega);have:=qmD (k:=20030) P.length (fun i hi=>(qxG h hk ha i hi).mono (by omega));refine this.mono ?_;have:P.length*(20030+1)<=8*(20030+1):=Nat.mul_le_mul_right _ hl;omega
theorem qAw {P:List AP} {k g:Nat} {v:Rat} (h:qgM P k g) (hk:k<=70) (hl:P.length<=8) (hv:SzQ v 200) (f:Nat) {i:Nat} (hi:i<P.length):SzQ (lfT P v f i) 180000:=by
 rw[qpK hi];split
 · have h1 := qxm h hk hl hi;have h2:SzQ P[i].2.1 k:=h.sz _ (gM0 hi);have h3:=(qxM P[i].2.2).sub h2;exact((h1.mul h3).mul hv).mono (by omega)
 · exact SzQ.zero.mono (by omega)
theorem qBu {t:List NODE} {row:List CELL} {fx:Int} {on:Bool} {n k:Nat} {P:List AP} (h:qgM P k n) (hk:k<=70) (hl:P.length<=8) {i:Nat} (hi:i<t.length) {gn:Rat} (hg:SzQ gn 100) (hs:TSz t 4)
  {o:Nat->Rat} (ho:∀ f,f<n->SzQ (o f) 100000000000) (hn:n<1000000) (a4:Int) (a5:Bool) (a6 a7:List Int) (a8:Bool) :
  qbr (i:Int) (canQ gn).1.1 (canQ gn).1.2 (canQ gn).2 a4 a5 a6 a7 a8 t row fx on (flo n o) (encK P (wtP P)) =
   some (flo n (fun f=>o f+qwx P (gn*rv (nVal (qdh t i))) f),t,row,fx,on,encK P (wtP P)):=by
 obtain⟨v,hv⟩:∃ v,v=gn*rv (nVal (qdh t i)):=⟨_,rfl⟩;have zv:=(hs.at hi).2.1;have m0:=qaQ (a:=canQ gn) (b:=nVal (qdh t i)) (hg.sm (by decide)) (zv.sm (by decide));rw[qam,<- hv] at m0;have vsz:SzQ v 200:=by rw[hv];exact(hg.mul (zv.szQ (by decide))).mono (by decide)
 rw[<- hv];have key:=qhl (step:=qas) (fun j=>((encW P,(P.length:Int),(j:Int),()),(((i:Int),(canQ gn).1.1,(canQ gn).1.2,(canQ gn).2,a4,a5,a6,a7,a8,()),((canQ v).1.1,(canQ v).1.2,(canQ v).2,()),(t,row,fx,on,flo n (fun f=>o f+rsum (lfT P v f) j),()),(encK P (wtP P),()),()))) P.length
  (r:=((),((t,row,fx,on,flo n (fun f=>o f+rsum (lfT P v f) P.length),()),(encK P (wtP P),()),()))) (by omega) (by
  intro g j hj;have d0:(j:Int)<(P.length:Int):=by omega
  have d1:(0:Int)<=(j:Int):=by omega
  have d2:(j:Int)<((encW P).length:Int):=by rw[qoP];exact d0
  have g1:=qzQ hj;have q1:iadd .i64 (j:Int) 1=((j+1:Nat):Int):=qbs (by omega);have s1:=qz9 h hk hj;have zp:SzQ P[j].2.1 k:=h.sz _ (gM0 hj);have n1:=qof (zp.sm (by omega));rw[qam] at n1;have hfl:P[j].1<n:=h.lt _ (gM0 hj);obtain⟨F,hF⟩:∃ F,F=P[j].1:=⟨_,rfl⟩;rw[<- hF] at hfl;have zn:SzQ (-P[j].2.1) (k+4):=by
   have:=SzQ.zero.sub zp;rw[Rat.sub_eq_add_neg,Rat.zero_add] at this;exact this.mono (by omega)
  have c1:(0:Int)<=((F:Nat):Int):=by omega
  have c2:((F:Nat):Int)<((flo n (fun f=>o f+rsum (lfT P v f) j)).length:Int):=by rw[qa5];omega
  have g2:=qfz (n:=n) (f:=F) (fun f=>o f+rsum (lfT P v f) j) hfl;have zs:=qxm h hk hl hj;have zr:SzQ (o F+rsum (lfT P v F) j) 100010000000:=by
   have h1:SzQ (rsum (lfT P v F) j) (1+j*(180000+1)):=qmD j (fun i hi=>qAw h hk hl vsz F (by omega));have:j*(180000+1)<=8*(180000+1):=Nat.mul_le_mul_right _ (by omega);exact((ho F hfl).add h1).mono (by omega)
  have hset:∀ x,x=o F+rsum (lfT P v F) (j+1)->(flo n (fun f=>o f+rsum (lfT P v f) j)).set F (canQ x)=flo n (fun f=>o f+rsum (lfT P v f) (j+1)):=fun x hx=>by
   refine qyd hx.symm fun f hf=>?_
   rw[rsum,qpK hj,if_neg (by rw[<- hF];exact fun e=>hf e.symm),Rat.add_zero]
  show qas g ((encW P,(P.length:Int),(j:Int),()),_)=_;rw[qas,cnd d0,cnd2 d1 d2,tN0,g1,bS0,q1,s1,bS0];show(qh0 (canQ P[j].2.1)).bind _=_;rw[n1,bS0];have e1:(encP P[j]).1=(F:Int):=by rw[hF];rfl
  have e2:(encP P[j]).2.2=P[j].2.2:=rfl;rw[e1,e2];cases hok:P[j].2.2 with
  | true =>
   have a1:=qdU (SzQ.one.sm (by decide)) (zn.sm (by omega));rw[qam,qam,<- Rat.sub_eq_add_neg] at a1;have z1:SzQ (1-P[j].2.1) 100:=(SzQ.one.sub zp).mono (by omega);have m1:=qaQ (zs.sm (by decide)) (z1.sm (by decide));rw[qam,qam] at m1;have z2:SzQ (sumP P j*(1-P[j].2.1)) 170100:=(zs.mul z1).mono (by omega);have m2:=qaQ (z2.sm (by decide)) (vsz.sm (by decide));rw[qam,qam] at m2;have m2:qat (canQ (sumP P j*(1-P[j].2.1))) (((canQ v).1.1,(canQ v).1.2),(canQ v).2)=_:=m2;have z3:SzQ (sumP P j*(1-P[j].2.1)*v) 170300:=(z2.mul vsz).mono (by omega);have a2:=qdU (zr.sm (by decide)) (z3.sm (by decide));rw[qam,qam] at a2;have hx:=hset (o F+rsum (lfT P v F) j+sumP P j*(1-P[j].2.1)*v) (by
    rw[rsum,qpK hj,if_pos hF.symm,hok];simp only[one0,if_true];grind)
   rw[cond_true,qkm,bS0,a1,bS0,cnd2 c1 c2,tN0,g2,bS0,m1,bS0,m2,bS0,a2,bS0,cnd2 c1 c2,bS0,hx]
  | false =>
   have m1:=qaQ (zs.sm (by decide)) (zn.sm (by omega));rw[qam,qam] at m1;have z2:SzQ (sumP P j*(-P[j].2.1)) 170100:=(zs.mul zn).mono (by omega);have m2:=qaQ (z2.sm (by decide)) (vsz.sm (by decide));rw[qam,qam] at m2;have m2:qat (canQ (sumP P j*(-P[j].2.1))) (((canQ v).1.1,(canQ v).1.2),(canQ v).2)=_:=m2;have z3:SzQ (sumP P j*(-P[j].2.1)*v) 170300:=(z2.mul vsz).mono (by omega);have a2:=qdU (zr.sm (by decide)) (z3.sm (by decide));rw[qam,qam] at a2;have hx:=hset (o F+rsum (lfT P v F) j+sumP P j*(-P[j].2.1)*v) (by
    rw[rsum,qpK hj,if_pos hF.symm,hok];simp only[one0,Bool.false_eq_true,if_false];grind)
   rw[cond_false,cnd2 c1 c2,tN0,g2,bS0,m1,bS0,m2,bS0,a2,bS0,cnd2 c1 c2,bS0,hx]) (by
  intro g;rw[qas,cnd' (by omega)])
 have e0:flo n (fun f=>o f+rsum (lfT P v f) 0)=flo n o:=qnf fun f _=>Rat.add_zero _
 rw[e0] at key;have key:lp qas K0 ((encW P,(P.length:Int),0,()),(((i:Int),(canQ gn).1.1,(canQ gn).1.2,(canQ gn).2,a4,a5,a6,a7,a8,()),((canQ v).1.1,(canQ v).1.2,(canQ v).2,()),(t,row,fx,on,flo n o,()),(encK P (wtP P),()),()))=_:=key;have m0:qat (((canQ gn).1.1,(canQ gn).1.2),(canQ gn).2) t[i].2.2.2.2.2.2.1=some (canQ v):=by
  rw[qel hi] at m0;exact m0
 rw[qbr,cnd (by omega),tN0,gE0 hi,bS0,m0,bS0,qqX (by omega),bS0];dsimp only;rw[qoP,key,bS0];dsimp only;rw[qa5,qa5,Nat.beq_refl,cond_true,bS0];rfl
def kOn (t:List NODE) (row:List CELL) (fx:Int) (on:Bool) (i:Nat) (side:Bool):Bool:=if qcS (qdh t i)=fx then (if on then goL t row i == side else true) else true
def kG (t:List NODE) (fx:Int) (on:Bool) (i c:Nat) (g:Rat):Rat:=if qcS (qdh t i)=fx then (if on then g else g*(cov t c/cov t i)) else g
def kF (t:List NODE) (fx:Int) (i:Nat):Int:=if qcS (qdh t i)=fx then -1 else qcS (qdh t i)
def kW (t:List NODE) (row:List CELL) (fx:Int) (i c:Nat) (side:Bool) (w:List AP):List AP:=if qcS (qdh t i)=fx then w else qke (qwH t i) (cov t c/cov t i) (goL t row i == side) w
abbrev PL:=Rat×List AP
def qkM (t:List NODE) (row:List CELL) (fx:Int) (on:Bool):TR->List AP->Rat->List PL
 | .leaf i,w,g=>[(g*rv (nVal (qdh t i)),w)]
 | .split i l r,w,g =>
  (if kOn t row fx on i true then qkM t row fx on l (kW t row fx i l.top true w) (kG t fx on i l.top g) else []) ++
  (if kOn t row fx on i false then qkM t row fx on r (kW t row fx i r.top false w) (kG t fx on i r.top g) else [])
def visF (t:List NODE) (row:List CELL) (fx:Int) (on:Bool):TR->Nat
 | .leaf i=>1
 | .split i l r=>1+(if kOn t row fx on i true then visF t row fx on l else 0)+(if kOn t row fx on i false then visF t row fx on r else 0)
theorem qu1 (t:List NODE) (row:List CELL) (fx:Int) (on:Bool) (T:TR):0<visF t row fx on T:=by cases T<;>simp [visF];omega
theorem qAQ (t:List NODE) (row:List CELL) (fx:Int) (on:Bool) (T:TR):visF t row fx on T<=T.size:=by
 induction T with
 | leaf i=>simp [visF,TR.size]
 | split i l r ihl ihr =>
  simp only[visF,TR.size];split<;>split<;>omega
structure IT where
 T:TR
 P:List AP
 g:Rat
 s:PART
 w:List AP
abbrev ITE:=Int×(Option ((Option (List (Int×RAT×CELL)))×Unit))×RAT×PART
def encI (x:IT):ITE:=((x.T.top:Int),some (some (encK x.P (wtP x.P)),()),canQ x.g,x.s)
def qtL (t:List NODE) (n:Nat) (x:IT):Prop:=∃ m,Is t (n:Int) x.T/\m+x.T.deep<=8/\SzQ x.g (8*m+1)/\qqq x.w /\
 ((x.s.1 = -1 /\ qgM x.P (8 * m + 1) n /\ x.P.length <= m /\ x.P.Perm x.w) \/
  ∃ (m' f:Nat) (q:Rat) (ok:Bool) (w0:List AP),m=m'+1/\x.s=((f:Int),canQ q,ok)/\f<n/\SzQ q 8/\0<q/\qgM x.P (8*m'+1) n/\x.P.length<=m'/\x.P.Perm w0/\qqq w0/\x.w=qke f q ok w0)
theorem qtL.join {t:List NODE} {n:Nat} {x:IT} (h:qtL t n x) (hn:n<1000000):∃ (m:Nat) (P':List AP),Is t (n:Int) x.T/\m+x.T.deep<=8/\SzQ x.g (8*m+1)/\qqq x.w/\qgM P' (8*m+1) n/\P'.length<=m/\P'.Perm x.w /\
   qaU (x.T.top:Int) (canQ x.g).1.1 (canQ x.g).1.2 (canQ x.g).2 x.s.1 x.s.2.1.1.1 x.s.2.1.1.2 x.s.2.1.2 x.s.2.2 (encK x.P (wtP x.P)) =
    some ((x.T.top:Int),(canQ x.g).1.1,(canQ x.g).1.2,(canQ x.g).2,x.s.1,x.s.2.1.1.1,x.s.2.1.1.2,x.s.2.1.2,x.s.2.2,encK P' (wtP P')):=by
 obtain⟨m,h1,h2,h3,h4,h5⟩:=h;have hd:=x.T.deep_pos;rcases h5 with ⟨a1,a2,a3,a4⟩ | ⟨m',f,q,ok,w0,b1,b2,b3,b4,b5,b6,b7,b8,b9,b10⟩
 · refine ⟨m, x.P, h1, h2, h3, h4, a2, a3, a4, ?_⟩;rw[a1,qaU,cnd (by omega)]
 · subst b1;obtain⟨P',p1,p2,p3,p4⟩:=qBx b6 b8 b9 (ok:=ok) b3 hn b4 b5 b7 (by omega) (x.T.top:Int) (canQ x.g).1.1 (canQ x.g).1.2 (canQ x.g).2;refine⟨m'+1,P',h1,h2,h3,h4,p2,p3,by rw[b10];exact p1,?_⟩;rw[b2];exact p4
def kid (t:List NODE) (row:List CELL) (fx:Int) (on:Bool) (i:Nat) (side:Bool) (c:TR) (P w:List AP) (g:Rat):IT :=
 ⟨c,P,kG t fx on i c.top g,(kF t fx i,canQ (cov t c.top/cov t i),goL t row i == side),kW t row fx i c.top side w⟩
theorem qvl {t:List NODE} {row:List CELL} {fx:Int} {on:Bool} {n i m:Nat} {side:Bool} {c:TR} {P w:List AP} {g:Rat} (hs:TSz t 4) (hcov:qil t) (hi:i<t.length) (f0:0<=qcS t[i]) (f1:qcS t[i]<(n:Int)) (hc:Is t (n:Int) c)
   (hm:m+1+c.deep<=8) (hg:SzQ g (8*m+1)) (hw:qqq w) (hP:qgM P (8*m+1) n) (hl:P.length<=m) (hpw:P.Perm w):qtL t n (kid t row fx on i side c P w g):=by
 have hsh:=qu9 hs hc.top_lt hi;refine⟨m+1,hc,hm,?_,?_,?_⟩
 · show SzQ (kG t fx on i c.top g) _;unfold kG;split
   · split
     · exact hg.mono (by omega)
     · exact(hg.mul hsh).mono (by omega)
   · exact hg.mono (by omega)
 · show qqq (kW t row fx i c.top side w);unfold kW;split
   · exact hw
   · exact qwW hw
 · by_cases hf : qcS (qdh t i) = fx
   · refine .inl ⟨?_, hP.mono (by omega), by show P.length <= _; omega, ?_⟩
     · show kF t fx i = -1;exact if_pos hf
     · show P.Perm (kW t row fx i c.top side w);rw[kW,if_pos hf];exact hpw
   · refine .inr ⟨m, qwH t i, cov t c.top / cov t i, goL t row i == side, w, rfl, ?_, ?_, hsh, ?_, hP, hl, hpw, hw, ?_⟩
     · show (kF t fx i, _, _) = _;rw[kF,if_neg hf,qwH,qel hi];rw[show((((qcS t[i]).toNat:Nat)):Int)=qcS t[i] by omega]
     · rw[qwH,qel hi];omega
     · have h1 : 0 < cov t c.top := by have := hcov c.top hc.top_lt; rwa [<- qiF hc.top_lt] at this
       have h2:0<cov t i:=by have:=hcov i hi;rwa [<- qiF hi] at this
       rw[Rat.div_def];exact Rat.mul_pos h1 (Rat.inv_pos.2 h2)
     · show kW t row fx i c.top side w = _;exact if_neg hf
theorem qyW {P:List AP} {w:Nat->Rat} (hl:P.length<=1000000):qdg (encK P w)=some (encK P w,encK P w):=by
 rw[qdg,blt (by rw[qdn];simp;omega),cond_true,List.nil_append]
theorem qvF {t:List NODE} {row:List CELL} {fx:Int} {on:Bool} {i:Nat} {c:TR} {P w:List AP} {W:Nat->Rat} {g:Rat} {m:Nat} (hs:TSz t 4) (hc:CSz row 9) (hcov:qil t) (hi:i<t.length) (hleaf:qib t[i]=false) (f0:0<=qcS t[i]) (f1:qcS t[i]<(row.length:Int))
   (hl:c.top<t.length) (hP:P.length<=1000000) (hg:SzQ g 1000) (side:Bool) (out:List RAT) (a4:Int) (a5:Bool) (a6 a7:List Int) (a8:Bool) :
   qbG (i:Int) (canQ g).1.1 (canQ g).1.2 (canQ g).2 a4 a5 a6 a7 a8 (c.top:Int) side t row fx on out (encK P W) =
    some (out,(c.top:Int),(canQ (kG t fx on i c.top g)).1.1,(canQ (kG t fx on i c.top g)).1.2,(canQ (kG t fx on i c.top g)).2,kF t fx i,(canQ (cov t c.top/cov t i)).1.1,(canQ (cov t c.top/cov t i)).1.2,(canQ (cov t c.top/cov t i)).2,(goL t row i == side),kOn t row fx on i side,t,row,fx,on,encK P W,encK P W):=by
 obtain⟨cc,g1,g2,g3⟩:=qCz (f:=0) hs hc hi f0 f1;have z:=hs _ (gM0 hi);have zl:=hs _ (gM0 hl);have hne:rv (nCov t[i])≠0:=by have:=hcov.ne i hi;rwa [qiF hi] at this
 have d1:=qsy (a:=nCov t[c.top]) (b:=nCov t[i]) (zl.2.2.sm (by decide)) (z.2.2.sm (by decide));rw[if_neg hne,<- qiF hl,<- qiF hi] at d1;have hsh:=qu9 hs hl hi;have hb:∀ {α:Type} {a b:α},(bif Nat.beq out.length out.length then a else b)=a:=fun {α a b}=>by rw[Nat.beq_refl,cond_true]
 have hfe:qcS (qdh t i)=t[i].2.1:=by rw[qel hi]
 have hgl:(!qib t[i]&&goes t[i] cc)=goL t row i:=by rw[hleaf,Bool.not_false,Bool.true_and,g3]
 rw[qbG,cnd (by omega),tN0,gE0 hi,bS0,cnd (by omega),tN0,gE0 hl,bS0];show(qi0 (nCov t[c.top]) (nCov t[i])).bind _=_;rw[d1,bS0,cnd (by exact f0)];show((row[(qcS t[i]).toNat]?).bind _)=_;rw[g1,bS0,qBT z.1 (by decide) g2 (by decide),bS0,hgl,qyW hP,bS0];by_cases hf:qcS (qdh t i)=fx
 · have e1 : (!decide (t[i].2.1 = fx)) = false := by rw [<- hfe, decide_eq_true hf]; rfl
   have e2:kF t fx i=-1:=if_pos hf;rw[e1,cond_false,e2];cases on with
   | true =>
    have e3:kG t fx true i c.top g=g:=by rw[kG,if_pos hf];rfl
    have e4:kOn t row fx true i side=(goL t row i == side):=by rw[kOn,if_pos hf];rfl
    rw[cond_true,hb,bS0,e3,e4]
   | false =>
    have e3:kG t fx false i c.top g=g*(cov t c.top/cov t i):=by rw[kG,if_pos hf];rfl
    have e4:kOn t row fx false i side=true:=by rw[kOn,if_pos hf];rfl
    have m1:=qaQ (hg.sm (by decide)) (hsh.sm (by decide));rw[qam,qam] at m1;have m1:qat (((canQ g).1.1,(canQ g).1.2),(canQ g).2) (canQ (cov t c.top/cov t i))=_:=m1;rw[cond_false,m1,bS0,hb,bS0,e3,e4]
 · have e1 : (!decide (t[i].2.1 = fx)) = true := by rw [<- hfe, decide_eq_false hf]; rfl
   have e2:kF t fx i=t[i].2.1:=by rw[kF,if_neg hf,hfe]
   have e3:kG t fx on i c.top g=g:=if_neg hf;have e4:kOn t row fx on i side=true:=if_neg hf;rw[e1,cond_true,hb,bS0,e2,e3,e4]
def qrI (t:List NODE) (row:List CELL) (fx:Int) (on:Bool) (i:Nat) (l r:TR) (P w:List AP) (g:Rat):List IT :=
 (if kOn t row fx on i false then [kid t row fx on i false r P w g] else [])++(if kOn t row fx on i true then [kid t row fx on i true l P w g] else [])
theorem qBw {t:List NODE} {row:List CELL} {fx:Int} {on:Bool} {i:Nat} {l r:TR} {P w:List AP} {g:Rat} (hs:TSz t 4) (hc:CSz row 9) (hcov:qil t) (hi:i<t.length) (hleaf:qib t[i]=false) (f0:0<=qcS t[i]) (f1:qcS t[i]<(row.length:Int))
  (hl:l.top<t.length) (hr:r.top<t.length) (hP:P.length<=1000000) (hg:SzQ g 1000) (out:List RAT) (a4:Int) (a5:Bool) (a6 a7:List Int) (a8:Bool) (c0:Bool) (c1:Int) (c2:Bool) (c3 c4:List Int) (c7 c8:Bool) (c9 c10:List Int) (c11:Bool) (c12 c13:List Int)
  (base:List ITE) (hb:base.length<=1000000) :
  lp qan K0 (((false,(true,())),0,()),(((i:Int),(canQ g).1.1,(canQ g).1.2,(canQ g).2,a4,a5,a6,a7,a8,()),(c0,c1,c2,c3,c4,(l.top:Int),(r.top:Int),c7,c8,c9,c10,c11,c12,c13,()),(encK P (wtP P),()),(t,row,fx,on,out,base,()),())) =
    some ((),((t,row,fx,on,out,base++(qrI t row fx on i l r P w g).map encI,()),())):=by
 obtain⟨A,eA⟩:∃ A:List IT,A=if kOn t row fx on i false then [kid t row fx on i false r P w g] else []:=⟨_,rfl⟩
 obtain⟨B,eB⟩:∃ B:List IT,B=if kOn t row fx on i true then [kid t row fx on i true l P w g] else []:=⟨_,rfl⟩
 have eK:qrI t row fx on i l r P w g=A++B:=by rw[eA,eB];rfl
 have lA:A.length<=1:=by rw[eA];split<;>simp
 obtain⟨K,hK⟩:∃ K:Nat->List ITE,K=fun j=>if j=0 then [] else if j=1 then A.map encI else (A++B).map encI:=⟨_,rfl⟩
 have K0':K 0=[]:=by rw[hK];rfl
 have K1:K 1=A.map encI:=by rw[hK];rfl
 have K2:K 2=(A++B).map encI:=by rw[hK];rfl
 have ov:over out 0 out=out:=qlw rfl;have hc1:=fun side=>qvF (fx:=fx) (on:=on) (c:=r) (P:=P) (w:=w) (W:=wtP P) (g:=g) (m:=0) hs hc hcov hi hleaf f0 f1 hr hP hg side out a4 a5 a6 a7 a8
 have hc2:=fun side=>qvF (fx:=fx) (on:=on) (c:=l) (P:=P) (w:=w) (W:=wtP P) (g:=g) (m:=0) hs hc hcov hi hleaf f0 f1 hl hP hg side out a4 a5 a6 a7 a8
 have key:=qhl (step:=qan) (fun j=>(((false,(true,())),(j:Int),()),(((i:Int),(canQ g).1.1,(canQ g).1.2,(canQ g).2,a4,a5,a6,a7,a8,()),(c0,c1,c2,c3,c4,(l.top:Int),(r.top:Int),c7,c8,c9,c10,c11,c12,c13,()),(encK P (wtP P),()),(t,row,fx,on,out,base++K j,()),()))) 2
  (r:=((),((t,row,fx,on,out,base++K 2,()),()))) (by omega) (by
  intro g' j hj;have hj2:j=0\/j=1:=by omega
  rcases hj2 with rfl | rfl
  · rw [qan, cnd (by omega), cnd (by omega)];show((([false,true]:List Bool)[0]?).bind _)=_;rw[show(([false,true]:List Bool)[0]?)=some false from rfl,bS0,cond_false,hc1 false,bS0];dsimp only;rw[K0',List.append_nil,show((0+1:Nat))=1 from rfl,K1,ov];cases hk:kOn t row fx on i false with
    | true =>
     have eA':A=[kid t row fx on i false r P w g]:=by rw[eA,hk];rfl
     rw[cond_true,blt (by simp;omega),cond_true,eA'];rfl
    | false =>
     have eA':A=[]:=by rw[eA,hk];rfl
     rw[cond_false,eA',List.map_nil,List.append_nil];rfl
  · rw [qan, cnd (by omega), cnd (by omega)];show((([false,true]:List Bool)[1]?).bind _)=_;rw[show(([false,true]:List Bool)[1]?)=some true from rfl,bS0,cond_true,hc2 true,bS0];dsimp only;rw[show((1+1:Nat))=2 from rfl,K1,K2,ov];cases hk:kOn t row fx on i true with
    | true =>
     have eB':B=[kid t row fx on i true l P w g]:=by rw[eB,hk];rfl
     rw[cond_true,blt (by simp;omega),cond_true,eB',List.map_append,<- List.append_assoc];rfl
    | false =>
     have eB':B=[]:=by rw[eB,hk];rfl
     rw[cond_false,eB',List.append_nil];rfl) (by
  intro g';rw[qan,cnd' (by omega)])
 rw[K0',K2,<- eK,List.append_nil] at key;exact key
def totL (n f:Nat) (l:List PL):Rat:=lsum (l.map fun y=>qlD (fun S=>qdw S y.2*y.1) n f)
theorem qtS (n f:Nat) (a b:List PL):totL n f (a++b)=totL n f a+totL n f b:=by rw[totL,List.map_append,qgH];rfl
def totI (t:List NODE) (row:List CELL) (fx:Int) (on:Bool) (n f:Nat) (x:IT):Rat:=totL n f (qkM t row fx on x.T x.w x.g)
def visL (t:List NODE) (row:List CELL) (fx:Int) (on:Bool):List IT->Nat
 | []=>0
 | x::L=>visF t row fx on x.T+visL t row fx on L
theorem ql6 (t:List NODE) (row:List CELL) (fx:Int) (on:Bool) (a b:List IT):visL t row fx on (a++b)=visL t row fx on a+visL t row fx on b:=by
 induction a with
 | nil=>simp [visL]
 | cons x a ih=>simp only[List.cons_append,visL,ih];omega
theorem qu0 (t:List NODE) (row:List CELL) (fx:Int) (on:Bool) (a:List IT):a.length<=visL t row fx on a:=by
 induction a with
 | nil=>simp [visL]
 | cons x a ih=>have:=qu1 t row fx on x.T;simp only[List.length_cons,visL];omega
theorem qzE (t:List NODE) (row:List CELL) (fx:Int) (on:Bool) (i:Nat) (l r:TR) (P w:List AP) (g:Rat) :
  visF t row fx on (.split i l r)=1+visL t row fx on (qrI t row fx on i l r P w g):=by
 rw[qrI,ql6];simp only[visF];cases kOn t row fx on i true<;>cases kOn t row fx on i false<;>simp [visL,kid]<;>omega
theorem qzF (t:List NODE) (row:List CELL) (fx:Int) (on:Bool) (n f i:Nat) (l r:TR) (P w:List AP) (g:Rat) :
   totL n f (qkM t row fx on (.split i l r) w g)=lsum ((qrI t row fx on i l r P w g).map (totI t row fx on n f)):=by
 rw[qrI,List.map_append,qgH];simp only[qkM];rw[qtS,Rat.add_comm];congr 1
 · cases kOn t row fx on i false
   · rfl
   · simp only[if_true,List.map_cons,List.map_nil,lsum,Rat.add_zero];rfl
 · cases kOn t row fx on i true
   · rfl
   · simp only[if_true,List.map_cons,List.map_nil,lsum,Rat.add_zero];rfl
theorem qw3 {t:List NODE} {row:List CELL} {fx:Int} {on:Bool} {T:TR} {o:Nat->Rat} (hs:TSz t 4) (hc:CSz row 9) (hcov:qil t) (hT:Is t (row.length:Int) T) (h0:T.top=0) (hd:T.deep<=8) (hz:T.size<=100) (hrl:row.length<=64)
  {S:Nat} (ho:∀ f,f<row.length->SzQ (o f) S) (hS:S<=50000000000) :
  (∃ st,qcb t row fx on (flo row.length o) []=some (flo row.length (fun f=>o f+totL row.length f (qkM t row fx on T [] 1)),t,row,fx,on,st))/\∀ f,f<row.length->SzQ (o f+totL row.length f (qkM t row fx on T [] 1)) (S+200000000):=by
 obtain⟨n,hn⟩:∃ n,n=row.length:=⟨_,rfl⟩;obtain⟨N,hN⟩:∃ N,N=visF t row fx on T:=⟨_,rfl⟩;have hN2:N<=100:=by rw[hN];exact Nat.le_trans (qAQ _ _ _ _ _) hz
 obtain⟨x0,hx0⟩:∃ x0:IT,x0=⟨T,[],1,(-1,(((false,[]),[]),false)),[]⟩:=⟨_,rfl⟩;have t0:∀ f,totI t row fx on n f x0=totL n f (qkM t row fx on T [] 1):=fun f=>by rw[hx0];rfl
 have hg0:qtL t n x0:=by
  refine⟨0,by rw[hx0,hn];exact hT,by rw[hx0];show 0+T.deep<=8;omega,by rw[hx0];exact SzQ.one,by rw[hx0];exact List.Pairwise.nil,.inl ⟨by rw[hx0],?_,by simp [hx0],by simp [hx0]⟩⟩
  rw[hx0];exact⟨List.Pairwise.nil,fun p hp=>absurd hp (by simp),by simp,fun p hp=>absurd hp (by simp),fun p hp=>absurd hp (by simp)⟩
 rw[<- hn];obtain⟨res,hres,hlp⟩:=qj2 (step:=qar)
  (fun j v=>∃ (L:List IT) (o':Nat->Rat),v=((),((t,row,fx,on,flo n o',L.map encI,()),()))/\(∀ x∈L,qtL t n x)/\j+visL t row fx on L=N/\(∀ f,f<n->SzQ (o' f) (S+2000000*j))/\∀ f,f<n->o' f+lsum (L.map (totI t row fx on n f))=o f+totI t row fx on n f x0)
  (fun r=>(∃ (st:List ITE),r=((),((t,row,fx,on,flo n (fun f=>o f+totI t row fx on n f x0),st,()),())))/\∀ f,f<n->SzQ (o f+totI t row fx on n f x0) (S+200000000)) N
  (v:=((),((t,row,fx,on,flo n o,[x0].map encI,()),())))
  ⟨[x0],o,rfl,fun x hx=>by rw[List.mem_singleton.1 hx];exact hg0,by simp only[visL,hx0];omega,fun f hf=>(ho f (by omega)).mono (by omega),fun f hf=>by simp only[List.map_cons,List.map_nil,lsum,Rat.add_zero]⟩
  (by omega)
  (by
   rintro j v hj ⟨L,o',rfl,hL,hv,hsz,htot⟩;rcases List.eq_nil_or_concat L with rfl | ⟨L0,x,rfl⟩
   · simp only[visL] at hv;omega
   rw[List.concat_eq_append] at *;have hx:qtL t n x:=hL x (by simp);obtain⟨m,P',j1,j2,j3,j4,j5,j6,j7,j8⟩:=hx.join (by omega);rw[ql6] at hv;simp only[visL,Nat.add_zero] at hv;have hvp:=qu1 t row fx on x.T;have hvl:=qu0 t row fx on L0;obtain⟨base,hbase⟩:∃ base,base=L0.map encI:=⟨_,rfl⟩;have lb:base.length=L0.length:=by rw[hbase];simp
   have eS:(L0++[x]).map encI=base++[encI x]:=by rw[hbase];simp
   have hi:=j1.top_lt;have qS:∀ y:ITE,isub .i64 ((base++[y]).length:Int) 1=(base.length:Int):=fun y=>by
     rw[List.length_append,List.length_singleton,qcB (by omega) (by omega)];omega
   have gS:(base++[encI x])[base.length]?=some (encI x):=by simp
   have sS:∀ y,(base++[encI x]).set base.length y=base++[y]:=fun y=>by simp
   have cS:∀ y:ITE,(decide ((0:Int)<=(base.length:Int))&&decide (((base.length:Int):Int)<=(base.length:Int))&&decide (((base.length:Int):Int)<=((base++[y]).length:Int)))=true:=fun y=>by
     simp only[Bool.and_eq_true,decide_eq_true_eq,List.length_append,List.length_singleton];omega
   have tS:∀ y:ITE,(base++[y]).take (((base.length:Int)-0).toNat)=base:=fun y=>by
     rw[show((base.length:Int)-0).toNat=base.length by omega];simp
   have hpos:(((base++[encI x]).length:Nat):Int)>0:=by rw[List.length_append,List.length_singleton];omega
   have d2:(base.length:Int)<(((base++[encI x]).length:Nat):Int):=by rw[List.length_append,List.length_singleton];omega
   have walkE:∀ g,qar g ((),((t,row,fx,on,flo n o',(L0++[x]).map encI,()),())) =
       bif t[x.T.top].1 then ((qbr (x.T.top:Int) (canQ x.g).1.1 (canQ x.g).1.2 (canQ x.g).2 x.s.1 x.s.2.1.1.1 x.s.2.1.1.2 x.s.2.1.2 x.s.2.2 t row fx on (flo n o') (encK P' (wtP P'))).bind fun r8=>g ((()),((r8.2.1,r8.2.2.1,r8.2.2.2.1,r8.2.2.2.2.1,(over (flo n o') 0 r8.1),base,()),())))
       else ((lp qan K0 (((false,(true,())),0,()),(((x.T.top:Int),(canQ x.g).1.1,(canQ x.g).1.2,(canQ x.g).2,x.s.1,x.s.2.1.1.1,x.s.2.1.1.2,x.s.2.1.2,x.s.2.2,()),(t[x.T.top].1,t[x.T.top].2.1,t[x.T.top].2.2.1.1.1,t[x.T.top].2.2.1.1.2,t[x.T.top].2.2.1.2,t[x.T.top].2.2.2.1,t[x.T.top].2.2.2.2.1,t[x.T.top].2.2.2.2.2.1,t[x.T.top].2.2.2.2.2.2.1.1.1,t[x.T.top].2.2.2.2.2.2.1.1.2,t[x.T.top].2.2.2.2.2.2.1.2,t[x.T.top].2.2.2.2.2.2.2.1.1,t[x.T.top].2.2.2.2.2.2.2.1.2,t[x.T.top].2.2.2.2.2.2.2.2,()),(encK P' (wtP P'),()),(t,row,fx,on,flo n o',base,()),()))).bind fun t12=>g ((()),((t12.2.1.1,t12.2.1.2.1,t12.2.1.2.2.1,t12.2.1.2.2.2.1,t12.2.1.2.2.2.2.1,t12.2.1.2.2.2.2.2.1,()),()))):=fun g=>by
     rw[qar,eS,cnd hpos,qS,cnd2 (by omega) d2,tN0,gS,bS0];show((some (some (encK x.P (wtP x.P)),()):Option ((Option (List (Int×RAT×CELL)))×Unit)).bind _)=_;rw[bS0];show((some (encK x.P (wtP x.P)):Option (List (Int×RAT×CELL))).bind _)=_;rw[bS0,sS,qS,cS,cond_true,tS];show(qaU (x.T.top:Int) (canQ x.g).1.1 (canQ x.g).1.2 (canQ x.g).2 x.s.1 x.s.2.1.1.1 x.s.2.1.1.2 x.s.2.1.2 x.s.2.2 (encK x.P (wtP x.P))).bind _=_;rw[j8,bS0];dsimp only;rw[cnd (by omega),tN0,gE0 hi,bS0]
   have hm7:m<=7:=by have:=x.T.deep_pos;omega
   cases hxT:x.T with
   | leaf i =>
     rw[hxT] at j1 j2 hi hv;simp only[hxT] at walkE;obtain⟨i1,i2⟩:=j1;have hlf:=qBu (t:=t) (row:=row) (fx:=fx) (on:=on) j5 (by omega) (by omega) i1 (j3.mono (by omega)) hs (o:=o') (fun f hf=>(hsz f hf).mono (by omega)) (by omega) x.s.1 x.s.2.1.1.1 x.s.2.1.1.2 x.s.2.1.2 x.s.2.2;obtain⟨v,hv'⟩:∃ v,v=x.g*rv (nVal (qdh t i)):=⟨_,rfl⟩;rw[<- hv'] at hlf;have hvz:SzQ v 200:=by rw[hv'];exact((j3.mono (show 8*m+1<=100 by omega)).mul ((hs.at i1).2.1.szQ (by decide))).mono (by decide)
     refine⟨((),((t,row,fx,on,flo n (fun f=>o' f+qwx P' v f),L0.map encI,()),())),⟨L0,_,rfl,fun y hy=>hL y (by simp [hy]),by simp only[visF] at hv;omega,fun f hf=>?_,fun f hf=>?_⟩,fun g=>?_⟩
     · have h1 := qmD (k := 180000) P'.length (fun i hi => qAw j5 (by omega) (by omega) hvz f hi);have h1:SzQ (qwx P' v f) _:=h1;have:P'.length*(180000+1)<=8*(180000+1):=Nat.mul_le_mul_right _ (by omega);exact((hsz f hf).add h1).mono (by omega)
     · have e := htot f hf;rw[List.map_append,qgH] at e;simp only[List.map_cons,List.map_nil,lsum,Rat.add_zero] at e;have e2:totI t row fx on n f x=qwx P' v f:=by
         rw[totI,hxT,qww j5 hf];simp only[qkM,totL,List.map_cons,List.map_nil,lsum,Rat.add_zero];rw[<- hv'];refine qtV hf fun S _=>?_
         rw[qpk j7]
       rw[e2] at e;rw[<- e];grind
     · rw [walkE g];show(bif t[i].1 then _ else _)=_;rw[show t[i].1=true from i2,cond_true];show(qbr (i:Int) _ _ _ _ _ _ _ _ _ _ _ _ _ _).bind _=_;rw[hlf,bS0];dsimp only;rw[qlw (by rw[qa5,qa5]),hbase]
   | split i l r =>
     rw[hxT] at j1 j2 hi hv;simp only[hxT,TR.top] at walkE;obtain⟨i1,i2,f0,f1,i3,i4,i5,i6⟩:=j1;simp only[TR.deep] at j2;have hkd:=qBw (t:=t) (row:=row) (fx:=fx) (on:=on) (i:=i) (l:=l) (r:=r) (P:=P') (w:=x.w) (g:=x.g) hs hc hcov i1 i2 f0 (by omega) i5.top_lt i6.top_lt (by omega) (j3.mono (by omega)) (flo n o') x.s.1 x.s.2.1.1.1 x.s.2.1.1.2 x.s.2.1.2 x.s.2.2
       false t[i].2.1 t[i].2.2.1.1.1 t[i].2.2.1.1.2 t[i].2.2.1.2 t[i].2.2.2.2.2.1 t[i].2.2.2.2.2.2.1.1.1 t[i].2.2.2.2.2.2.1.1.2 t[i].2.2.2.2.2.2.1.2 t[i].2.2.2.2.2.2.2.1.1 t[i].2.2.2.2.2.2.2.1.2 t[i].2.2.2.2.2.2.2.2 base (by omega)
     refine⟨((),((t,row,fx,on,flo n o',(L0++qrI t row fx on i l r P' x.w x.g).map encI,()),())),⟨L0++qrI t row fx on i l r P' x.w x.g,o',rfl,fun y hy=>?_,?_,fun f hf=>(hsz f hf).mono (by omega),fun f hf=>?_⟩,fun g=>?_⟩
     · rcases List.mem_append.1 hy with hy | hy
       · exact hL y (by simp [hy])
       · have hgl : ∀ side, qtL t n (kid t row fx on i side l P' x.w x.g) := fun side => qvl hs hcov i1 f0 f1 i5 (by omega) j3 j4 j5 j6 j7
         have hgr:∀ side,qtL t n (kid t row fx on i side r P' x.w x.g):=fun side=>qvl hs hcov i1 f0 f1 i6 (by omega) j3 j4 j5 j6 j7
         rcases List.mem_append.1 hy with hy | hy
         · split at hy
           · rw[List.mem_singleton.1 hy];exact hgr _
           · cases hy
         · split at hy
           · rw[List.mem_singleton.1 hy];exact hgl _
           · cases hy
     · have := qzE t row fx on i l r P' x.w x.g;rw[ql6];omega
     · have e := htot f hf;rw[List.map_append,qgH] at e;simp only[List.map_cons,List.map_nil,lsum,Rat.add_zero] at e;have e2:totI t row fx on n f x=lsum ((qrI t row fx on i l r P' x.w x.g).map (totI t row fx on n f)):=by
         rw[totI,hxT];exact qzF t row fx on n f i l r P' x.w x.g
       rw[e2] at e;rw[List.map_append,qgH];exact e
     · rw [walkE g];show(bif t[i].1 then _ else _)=_;rw[show t[i].1=false from i2,cond_false];rw[show t[i].2.2.2.1=(l.top:Int) from i3,show t[i].2.2.2.2.1=(r.top:Int) from i4,hkd,bS0];dsimp only;rw[hbase,<- List.map_append])
  (by
   rintro v ⟨L,o',rfl,hL,hv,hsz,htot⟩;have hl:=qu0 t row fx on L;have:L=[]:=by
     cases L with
     | nil=>rfl
     | cons x L=>simp only[List.length_cons] at hl;omega
   subst this;refine⟨((),((t,row,fx,on,flo n o',List.map encI [],()),())),⟨⟨List.map encI [],?_⟩,fun f hf=>?_⟩,fun g=>?_⟩
   · have : flo n o' = flo n (fun f => o f + totI t row fx on n f x0) := qnf fun f hf => by
       rw[<- htot f hf];simp only[List.map_nil,lsum,Rat.add_zero]
     rw[this]
   · rw [<- htot f hf];simp only[List.map_nil,lsum,Rat.add_zero];exact(hsz f hf).mono (by omega)
   · rw[qar,cnd' (by simp)])
 obtain⟨⟨st,rfl⟩,hrs⟩:=hres;refine⟨⟨st,?_⟩,fun f hf=>by have:=hrs f hf;rwa [t0] at this⟩
 have e0:[x0].map encI=[((0:Int),(some (some (encK [] (wtP [])),()):Option ((Option (List (Int×RAT×CELL)))×Unit)),canQ 1,((-1:Int),(((false,[]),[]),false)))]:=by
  rw[hx0];simp only[List.map_cons,List.map_nil,encI,h0];rfl
 rw[e0] at hlp;rw[qcb,qAc,bS0,qkm,bS0];have hlp:lp qar K0 (((),((t,row,fx,on,flo n o,[(0,((some ((some (encK [] (wtP []))),())),(canQ 1,((-1),(((false,[]),[]),false)))))],()),())))=_:=hlp;rw[hlp,bS0];dsimp only;rw[qa5,qa5,Nat.beq_refl,cond_true,bS0];simp only[t0]
def trV (t:List NODE) (row:List CELL) (fx:Int) (on:Bool) (f:Nat):Rat:=totL row.length f (qkM t row fx on (treeOf t) [] 1)
def qin (m:qaA) (row:List CELL) (fx:Int) (on:Bool) (f:Nat):Rat:=rsum (fun j=>trV (qfU m j) row fx on f) m.2.length
theorem Askd.deep8 {m:qaA} {row:List CELL} (h:Askd m row) {i:Nat} (hi:i<m.2.length):(treeOf m.2[i]).deep<=8/\(treeOf m.2[i]).size<=15:=by
 have h1:=h.good.treeOf hi;have hsh:qqW m.2[i]:=h.good.2 1 (by decide) i hi;have h2:=qxi hsh h1.1;have h3:=qyr (treeOf m.2[i]);have h4:=h.mt _ (gM0 hi);omega
theorem Askd.walk {m:qaA} {row:List CELL} (h:Askd m row) {i:Nat} (hi:i<m.2.length) (fx:Int) (on:Bool) {o:Nat->Rat} {S:Nat} (ho:∀ f,f<row.length->SzQ (o f) S) (hS:S<=50000000000) :
  (∃ st,qcb m.2[i] row fx on (flo row.length o) []=some (flo row.length (fun f=>o f+trV (qfU m i) row fx on f),m.2[i],row,fx,on,st))/\∀ f,f<row.length->SzQ (o f+trV (qfU m i) row fx on f) (S+200000000):=by
 obtain⟨t1,t2,t3,t4,t5⟩:=h.tree hi;rw[t5] at t2 t3 ⊢;obtain⟨d1,d2⟩:=h.deep8 hi;exact qw3 t1 h.cs (h.cov hi) t2 t3 d1 (by omega) h.f64 ho hS
theorem qAo {m:qaA} {row:List CELL} (h:Askd m row) {i:Nat} (hi:i<m.2.length) (fx:Int) (on:Bool) {f:Nat} (hf:f<row.length):SzQ (trV (qfU m i) row fx on f) 200000010:=by
 have:=(h.walk hi fx on (o:=fun _=>0) (S:=1) (fun _ _=>SzQ.zero) (by decide)).2 f hf;rw[Rat.zero_add] at this;exact this.mono (by decide)
theorem qmU {m:qaA} {row:List CELL} (h:Askd m row) (fx:Int) (on:Bool) {f:Nat} (hf:f<row.length):SzQ (qin m row fx on f) 1500000000:=by
 have h1:=qmD (f:=fun j=>trV (qfU m j) row fx on f) (k:=200000010) m.2.length (fun i hi=>qAo h hi fx on hf);have:m.2.length*(200000010+1)<=6*(200000010+1):=Nat.mul_le_mul_right _ h.ml;exact h1.mono (by omega)
theorem qxA {n:Nat} (h:n<=1000000):qfh (n:Int)=some (flo n fun _=>0):=by
 have key:=qhl (step:=qbh) (fun i=>((flo i (fun _=>0),(n:Int),(i:Int),()),())) n (r:=((flo n (fun _=>0),()),())) (by omega) (by
  intro g i hi;have d0:(i:Int)<(n:Int):=by omega
  rw[qbh,cnd d0,qeT,bS0,blt (by rw[qa5];omega),cond_true,qbs (by omega)];simp only[flo,List.range_succ,List.map_append];rfl) (by
  intro g;rw[qbh,cnd' (by omega)])
 have key:lp qbh K0 (([],(n:Int),0,()),())=_:=key;rw[qfh,key];rfl
theorem qvI {m:qaA} {row:List CELL} (h:Askd m row) (fx:Int) (on:Bool):qfG m row fx on=some (flo row.length (qin m row fx on)):=by
 have ml:=h.ml;have h64:=h.f64;have hsz:∀ j,j<=m.2.length->∀ f,f<row.length->SzQ (rsum (fun j=>trV (qfU m j) row fx on f) j) 1500000000:=fun j hj f hf=>by
  have h1:=qmD (f:=fun j=>trV (qfU m j) row fx on f) (k:=200000010) j (fun i hi=>qAo h (by omega) fx on hf);have:j*(200000010+1)<=6*(200000010+1):=Nat.mul_le_mul_right _ (by omega);exact h1.mono (by omega)
 have key:=qhl (step:=qb3) (fun j=>((row,fx,on,flo row.length (fun f=>rsum (fun j=>trV (qfU m j) row fx on f) j),m.2,(m.2.length:Int),(j:Int),()),())) m.2.length (r:=((flo row.length (qin m row fx on),()),())) (by omega) (by
  intro g j hj;have d0:(j:Int)<(m.2.length:Int):=by omega
  obtain⟨st,hw⟩:=(h.walk hj fx on (hsz j (by omega)) (by decide)).1;rw[qb3,cnd d0,cnd (by omega),tN0,gE0 hj,bS0,hw,bS0];dsimp only;rw[qlw (by rw[qa5,qa5]),qbs (by omega)];rfl) (by
  intro g;rw[qb3,cnd' (by omega)];rfl)
 have key:lp qb3 K0 ((row,fx,on,flo row.length (fun _=>0),m.2,(m.2.length:Int),0,()),())=_:=key;rw[qfG,show m.1=((row.length:Nat):Int) by have:=h.len;omega,qxA (by omega),bS0,key];rfl
theorem quS {m:qaA} {row:List CELL} (h:Askd m row):qeD m row=some (flo row.length (qin m row (-1) false),0):=by
 obtain⟨e,_,h1,h2⟩:=qCB (row:=row) (by have:=h.ml;omega) (fun t ht=>by have:=h.mt t ht;omega) h.ms;have e0:e=0:=h2.2 ⟨h.good,h.len⟩;subst e0;rw[qeD,h1,bS0,show(!decide ((0:Int)=0))=false by decide,cond_false,qvI h];rfl
theorem qsj {t:List NODE} {g:Int} {row:List CELL} {f S:Nat} {T:TR} (h:Is t g T) (ha:askT t f=false) (hS:S.testBit f=false):expT t row (S+2 ^ f) T=expT t row S T:=by
 induction T with
 | leaf i=>rfl
 | split i l r ihl ihr =>
  have hu:=qq6 h ha;obtain⟨h1,h2,f0,f1,h3,h4,h5,h6⟩:=h;simp only[expT];rw[ihl h5,ihr h6,qhn hS,decide_eq_false hu,Bool.false_or]
def on01 (on:Bool):Nat:=if on then 1 else 0
def qqy (v:Nat->Rat) (n fx:Nat) (on:Bool) (f S:Nat):Rat :=
 if S.testBit f then 0 else if S.testBit fx=on then wq (popc n S-on01 on) (n-1)*(v (S+2 ^ f)-v S) else 0
def qiy (v:Nat->Rat) (n fx:Nat) (on:Bool) (f:Nat):Rat:=if f=fx then 0 else rsum (qqy v n fx on f) (2 ^ n)
theorem qsm (F:Nat->Rat) (a:Nat):∀ b,rsum F (a+b)=rsum F a+rsum (fun i=>F (a+i)) b:=by
 intro b
 induction b with
 | zero=>show _=_+0;rw[Rat.add_zero];rfl
 | succ b ih=>rw[show a+(b+1)=a+b+1 by omega,rsum,ih,rsum,Rat.add_assoc]
theorem qsl (fx:Nat):∀ (n:Nat) (F:Nat->Rat),fx<n->rsum F (2 ^ n)=rsum (fun S=>if S.testBit fx then 0 else F S+F (S+2 ^ fx)) (2 ^ n):=by
 intro n
 induction n with
 | zero=>intro F h;omega
 | succ n ih =>
  intro F h;rw[Nat.pow_succ,Nat.mul_two,qsm,qsm];by_cases e:fx=n
  · subst e;have h1:rsum (fun S=>if S.testBit fx then 0 else F S+F (S+2 ^ fx)) (2 ^ fx)=rsum (fun S=>F S+F (S+2 ^ fx)) (2 ^ fx):=qbF fun S hS=>by
     rw[Nat.testBit_lt_two_pow hS,if_neg (by decide)]
    have h2:rsum (fun i=>if (2 ^ fx+i).testBit fx then 0 else F (2 ^ fx+i)+F (2 ^ fx+i+2 ^ fx)) (2 ^ fx)=0:=qiS fun S hS=>by
     rw[Nat.testBit_two_pow_add_eq,Nat.testBit_lt_two_pow hS,Bool.not_false,if_pos rfl]
    rw[h1,h2,qpf,Rat.add_zero];congr 1;exact qbF fun i _=>by rw[Nat.add_comm]
  · have hf : fx < n := by omega
    rw[ih F hf,ih (fun i=>F (2 ^ n+i)) hf];congr 1;refine qbF fun S _=>?_
    rw[Nat.testBit_two_pow_add_gt hf,show 2 ^ n+S+2 ^ fx=2 ^ n+(S+2 ^ fx) by omega]
theorem qrr {S fx:Nat} (h:S.testBit fx=false):∀ n,popc n (S+2 ^ fx)=popc n S+(if fx<n then 1 else 0):=by
 intro n
 induction n with
 | zero=>rfl
 | succ n ih =>
  rw[popc,popc,ih,qhn h];by_cases e:n=fx
  · subst e;have a1:¬ n<n:=by omega
    have a2:n<n+1:=by omega
    simp [h,a1,a2]
  · by_cases h1 : fx < n
    · have a2 : fx < n + 1 := by omega
      rw[decide_eq_false e,Bool.false_or,if_pos h1,if_pos a2];omega
    · have a2 : ¬ fx < n + 1 := by omega
      rw[decide_eq_false e,Bool.false_or,if_neg h1,if_neg a2];omega
theorem qzk {n f fx S:Nat} (hf:f<n) (hx:fx<n) (hne:f≠fx) (h1:S.testBit f=false) (h2:S.testBit fx=false):popc n S+2<=n:=by
 have a:=qrr h1 n;have b:(S+2 ^ f).testBit fx=false:=by rw[qhn h1,decide_eq_false (fun e=>hne e.symm),Bool.false_or,h2]
 have c:=qrr b n;rw[if_pos hf] at a;rw[if_pos hx] at c;have:=qA7 n (S+2 ^ f+2 ^ fx);omega
theorem qnw {v:Nat->Rat} {n f fx:Nat} (on:Bool) (hf:f<n) (hx:fx<n) (hne:f≠fx) (hv:∀ S,S.testBit fx=false->v (S+2 ^ fx)=v S):qlD v n f=qiy v n fx on f:=by
 rw[qiy,if_neg hne,qlD,qsl fx n _ hx,qsl fx n (qqy v n fx on f) hx];refine qbF fun S _=>?_
 cases h2:S.testBit fx with
 | true=>rfl
 | false =>
  rw[if_neg (by decide),if_neg (by decide)];have hfx:(S+2 ^ fx).testBit fx=true:=by rw[qhn h2,decide_eq_true rfl,Bool.true_or]
  have hff:(S+2 ^ fx).testBit f=S.testBit f:=by rw[qhn h2,decide_eq_false hne,Bool.false_or]
  unfold qtU qqy;rw[hff,hfx,h2];cases h1:S.testBit f with
  | true=>rfl
  | false =>
   have hp:=qzk hf hx hne h1 h2;have ha:=qrr h2 n;rw[if_pos hx] at ha;have hb:(S+2 ^ f).testBit fx=false:=by rw[qhn h1,decide_eq_false (fun e=>hne e.symm),Bool.false_or,h2]
   have e1:v (S+2 ^ fx+2 ^ f)=v (S+2 ^ f):=by rw[show S+2 ^ fx+2 ^ f=S+2 ^ f+2 ^ fx by omega,hv _ hb]
   have e2:=hv S h2;have hw:=qAn (k:=popc n S) (n:=n-1) (by omega);rw[show n-1+1=n by omega] at hw;rw[ha,e1,e2];have o1:popc n S+1-on01 true=popc n S:=rfl;have o2:popc n S-on01 false=popc n S:=rfl;cases on with
   | true =>
    simp only[Bool.false_eq_true,if_false,if_true,o1];rw[<- hw];grind
   | false =>
    simp only[Bool.false_eq_true,if_false,if_true,o2];rw[<- hw];simp;grind
theorem qtW {v w:Nat->Rat} {n fx:Nat} {on:Bool} {f:Nat} (hne:f≠fx->f<n) (h:∀ S,S.testBit fx=on->v S=w S):qiy v n fx on f=qiy w n fx on f:=by
 unfold qiy;split
 · rfl
 · rename_i hf;refine qbF fun S _=>?_
   unfold qqy;cases h1:S.testBit f with
   | true=>rfl
   | false =>
    by_cases h2:S.testBit fx=on
    · simp only [Bool.false_eq_true, if_false, if_pos h2];rw[h S h2,h (S+2 ^ f) (by rw[qhn h1,decide_eq_false (fun e=>hf e.symm),Bool.false_or];exact h2)]
    · simp only[Bool.false_eq_true,if_false,if_neg h2]
theorem qsh (v w:Nat->Rat) (n fx:Nat) (on:Bool) (f:Nat):qiy (fun S=>v S+w S) n fx on f=qiy v n fx on f+qiy w n fx on f:=by
 unfold qiy;split
 · rw[Rat.add_zero]
 · rw [<- qpf];refine qbF fun S _=>?_
   unfold qqy;split
   · rw[Rat.add_zero]
   · split
     · grind
     · rw[Rat.add_zero]
theorem qqx (n fx:Nat) (on:Bool) (f:Nat):qiy (fun _=>0) n fx on f=0:=by
 unfold qiy;split
 · rfl
 · refine qiS fun S _ => ?_
   unfold qqy;split
   · rfl
   · split
     · grind
     · rfl
theorem qvV {α:Type} (v:α->Nat->Rat) (n fx:Nat) (on:Bool) (f:Nat):∀ l:List α,qiy (fun S=>lsum (l.map fun x=>v x S)) n fx on f=lsum (l.map fun x=>qiy (v x) n fx on f):=by
 intro l
 induction l with
 | nil=>exact qqx n fx on f
 | cons x l ih=>rw[List.map_cons,lsum,<- ih,<- qsh];rfl
theorem qvU (v:Nat->Nat->Rat) (n fx:Nat) (on:Bool) (f:Nat):∀ k,qiy (fun S=>rsum (fun i=>v i S) k) n fx on f=rsum (fun i=>qiy (v i) n fx on f) k:=by
 intro k
 induction k with
 | zero=>exact qqx n fx on f
 | succ k ih=>rw[rsum,<- ih,<- qsh];rfl
theorem qxY {t:List NODE} {row:List CELL} {fx n S:Nat} {on:Bool} (hc:∀ i,i<t.length->cov t i≠0) (hS:S.testBit fx=on) {T:TR} (h:Is t (n:Int) T) :
  ∀ (w:List AP) (g:Rat),lsum ((qkM t row (fx:Int) on T w g).map fun y=>qdw S y.2*y.1)=qdw S w*g*expT t row S T:=by
 induction T with
 | leaf i=>intro w g;simp only[qkM,List.map_cons,List.map_nil,lsum,expT,Rat.add_zero];grind
 | split i l r ihl ihr =>
  intro w g;obtain⟨h1,h2,f0,f1,h3,h4,h5,h6⟩:=h;have ihl:=ihl h5;have ihr:=ihr h6;have hci:=hc i h1;simp only[qkM,List.map_append,qgH,expT];by_cases hf:qcS (qdh t i)=(fx:Int)
  · have hbit : S.testBit (qcS (qdh t i)).toNat = on := by rw [hf, tN0]; exact hS
    rw[hbit];cases on with
    | true =>
     have k1:kOn t row (fx:Int) true i true=goL t row i:=by rw[kOn,if_pos hf];cases goL t row i<;>rfl
     have k2:kOn t row (fx:Int) true i false=!goL t row i:=by rw[kOn,if_pos hf];cases goL t row i<;>rfl
     rw[k1,k2,kW,if_pos hf,kW,if_pos hf,kG,if_pos hf,kG,if_pos hf];simp only[if_true];cases goL t row i with
     | true=>simp only[if_true,Bool.not_true,Bool.false_eq_true,if_false,List.map_nil,lsum,Rat.add_zero];exact ihl w g
     | false=>simp only[Bool.not_false,if_true,Bool.false_eq_true,if_false,List.map_nil,lsum,Rat.zero_add];exact ihr w g
    | false =>
     have k1:∀ s,kOn t row (fx:Int) false i s=true:=fun s=>by rw[kOn,if_pos hf];rfl
     rw[k1,k1,kW,if_pos hf,kW,if_pos hf,kG,if_pos hf,kG,if_pos hf];simp only[if_true,Bool.false_eq_true,if_false];rw[ihl,ihr];simp only[Rat.div_def]
     grind
  · have k1 : ∀ s, kOn t row (fx : Int) on i s = true := fun s => if_neg hf
    rw[k1,k1,kW,if_neg hf,kW,if_neg hf,kG,if_neg hf,kG,if_neg hf];simp only[if_true];rw[ihl,ihr,qob,qob];unfold facP;have ef:qwH t i=(qcS (qdh t i)).toNat:=rfl;rw[ef];cases S.testBit (qcS (qdh t i)).toNat with
    | true =>
     cases goL t row i with
     | true=>simp;grind
     | false=>simp;grind
    | false =>
     simp only[Bool.false_eq_true,if_false,Rat.div_def]
     grind
theorem qxZ {t:List NODE} {row:List CELL} {fx:Nat} {on:Bool} {n:Nat} {T:TR} (h:Is t (n:Int) T):∀ (w:List AP) (g:Rat),(∀ p∈w,p.1≠fx)->∀ y∈qkM t row (fx:Int) on T w g,∀ p∈y.2,p.1≠fx:=by
 induction T with
 | leaf i=>intro w g hw y hy;simp only[qkM,List.mem_singleton] at hy;subst hy;exact hw
 | split i l r ihl ihr =>
  intro w g hw y hy;obtain⟨h1,h2,f0,f1,h3,h4,h5,h6⟩:=h;have hk:∀ c s,∀ p∈kW t row (fx:Int) i c s w,p.1≠fx:=fun c s=>by
    unfold kW;split
    · exact hw
    · rename_i hf;intro p hp;rcases qtI p hp with e | ⟨p',q1,q2⟩
      · rw [e, qwH];rw[qel h1] at hf ⊢;omega
      · have:=hw p' q1;omega
  simp only[qkM,List.mem_append] at hy;rcases hy with hy | hy
  · split at hy
    · exact ihl h5 _ _ (hk _ _) y hy
    · cases hy
  · split at hy
    · exact ihr h6 _ _ (hk _ _) y hy
    · cases hy
theorem qxv {w:List AP} {fx S:Nat} (hw:∀ p∈w,p.1≠fx) (hS:S.testBit fx=false):qdw (S+2 ^ fx) w=qdw S w:=by
 unfold qdw;congr 1;refine List.map_congr_left fun p hp=>?_
 unfold facP;rw[qhn hS,decide_eq_false (hw p hp),Bool.false_or]
theorem qxj {t:List NODE} {row:List CELL} {fx:Nat} {on:Bool} (hc:qil t) (h:Is t (row.length:Int) (treeOf t)) (hx:fx<row.length) {f:Nat} (hf:f<row.length) :
   trV t row (fx:Int) on f=qiy (fun S=>expT t row S (treeOf t)) row.length fx on f:=by
 have hoff:=qxZ (row:=row) (fx:=fx) (on:=on) h [] 1 (by simp);have e1:qiy (fun S=>expT t row S (treeOf t)) row.length fx on f=qiy (fun S=>lsum ((qkM t row (fx:Int) on (treeOf t) [] 1).map fun y=>qdw S y.2*y.1)) row.length fx on f:=by
   refine qtW (fun _=>hf) fun S hS=>?_
   rw[qxY hc.ne hS h];show _=qhA []*1*_;rw[qhA,Rat.one_mul,Rat.one_mul]
 rw[e1,qvV (fun(y:PL) S=>qdw S y.2*y.1)];unfold trV totL;congr 1;refine List.map_congr_left fun y hy=>?_
 have hv:∀ S,S.testBit fx=false->(fun S=>qdw S y.2*y.1) (S+2 ^ fx)=(fun S=>qdw S y.2*y.1) S:=fun S hS=>by
   show qdw (S+2 ^ fx) y.2*y.1=_;rw[qxv (hoff y hy) hS]
 by_cases e:f=fx
 · subst e;rw[qiy,if_pos rfl];refine qiS fun S _=>?_
   unfold qtU;cases hb:S.testBit f with
   | true=>rfl
   | false =>
    rw[if_neg (by decide),hv S hb];grind
 · exact qnw on hf hx e hv
theorem qpp {m:qaA} {row:List CELL} (h:Askd m row) {fx:Nat} (on:Bool) (hx:fx<row.length) {f:Nat} (hf:f<row.length):qin m row (fx:Int) on f=qiy (sayM m row) row.length fx on f:=by
 have e:=qvU (fun j S=>expT (qfU m j) row S (treeOf (qfU m j))) row.length fx on f m.2.length;have e:qiy (sayM m row) row.length fx on f=_:=e;rw[e];refine qbF fun j hj=>?_
 obtain⟨t1,t2,t3,t4,t5⟩:=h.tree hj;rw[t5] at t2 ⊢;exact qxj (h.cov hj) t2 hx hf
theorem qqY {m:qaA} {row:List CELL} {fx:Nat} {on:Bool} (h:qca m row=some 0) (ha:Askd m row) (hx:(fx:Int)<m.1):qek m row (fx:Int) on=some (flo row.length (qin m row (fx:Int) on),0):=by
 rw[qek,h,bS0,show(!decide ((0:Int)=0))=false by decide,cond_false,cnd' (by omega),cnd' (by omega),qvI ha];rfl
theorem bnd2 {α:Type} {a b:α} {p q:Prop} [Decidable p] [Decidable q] (hp:p) (hq:q):(bif decide p&&decide q then a else b)=a:=by simp [hp,hq]
def qDh:Rat:=((1:Int):Rat)/((2:Int):Rat)
def qgm (m:qaA) (row:List CELL) (i k:Nat):Rat:=(qin m row (k:Int) true i-qin m row (k:Int) false i)*qDh
theorem qtd {m:qaA} {row:List CELL} (h:Askd m row) {i:Nat} (k:Nat) (hi:i<row.length):SzQ (qgm m row i k) 3000000010 :=
 (((qmU h (k:Int) true hi).sub (qmU h (k:Int) false hi)).mul qx5).mono (by decide)
theorem qtC {m:qaA} {row:List CELL} (h:Askd m row) (hf:qca m row=some 0) {k:Nat} (hk:k<row.length):qdP m row (k:Int)=some (flo row.length fun i=>qgm m row i k):=by
 have hl:=h.len;have h64:=h.f64;have hkm:(k:Int)<m.1:=by omega
 have key:=qhl (step:=qa2) (fun i=>((flo row.length (qin m row (k:Int) true),flo row.length (qin m row (k:Int) false),flo i (fun i=>qgm m row i k),(row.length:Int),(i:Int),()),())) row.length (r:=((flo row.length (fun i=>qgm m row i k),()),())) (by omega) (by
  intro g i hi;have d0:(i:Int)<(row.length:Int):=by omega
  have s1:=qmU h (k:Int) true hi;have s2:=qmU h (k:Int) false hi;rw[qa2,cnd d0,bnd2 (by omega) (by rw[qa5];exact d0),tN0,qfz _ hi,bS0,bnd2 (by omega) (by rw[qa5];exact d0),qfz _ hi,bS0,
   qip (s1.sm (by decide)) (s2.sm (by decide)),bS0,qam,qam,qmP (by decide) (by decide) (by decide) (by decide),bS0,
   qaQ ((s1.sub s2).sm (by decide)) (qx5.sm (by decide)),bS0,qam,qam,blt (by rw[qa5];omega),cond_true,qbs (by omega)]
  simp only[flo,List.range_succ,List.map_append];rfl) (by
  intro g;rw[qa2,cnd' (by omega)])
 have key:lp qa2 K0 ((flo row.length (qin m row (k:Int) true),flo row.length (qin m row (k:Int) false),[],(row.length:Int),0,()),())=_:=key;rw[qdP,qqY hf h hkm,bS0,qqY hf h hkm,bS0]
 try dsimp only
 rw[qa5,key];rfl
def grd (r n:Nat) (g:Nat->Nat->Rat):List (Option (List RAT)):=(List.range r).map fun i=>some (flo n (g i))
theorem qgJ (r n:Nat) (g:Nat->Nat->Rat):(grd r n g).length=r:=by simp [grd]
theorem qnQ {r n i:Nat} (g:Nat->Nat->Rat) (h:i<r):(grd r n g)[i]?=some (some (flo n (g i))):=by simp [grd,h]
theorem qg6 {r n:Nat} {g g':Nat->Nat->Rat} (h:∀ i,i<r->∀ j,j<n->g i j=g' i j):grd r n g=grd r n g':=by
 unfold grd;exact List.map_congr_left fun i hi=>by rw[qnf (h i (List.mem_range.1 hi))]
theorem qBz {r n i:Nat} {g g':Nat->Nat->Rat} (h1:∀ j,j<n->g' i j=g' i j) (h2:∀ a,a<r->a≠i->∀ j,j<n->g' a j=g a j):(grd r n g).set i (some (flo n (g' i)))=grd r n g':=by
 apply List.ext_getElem?;intro a;rw[List.getElem?_set];by_cases ha:a<r
 · rw [qnQ _ ha, qnQ _ ha, qgJ];by_cases e:i=a
   · subst e;rw[if_pos rfl,if_pos ha]
   · rw[if_neg e,qnf (fun j hj=>h2 a ha (fun e'=>e e'.symm) j hj)]
 · have q1 : (grd r n g)[a]? = none := List.getElem?_eq_none (by rw [qgJ]; omega);have q2:(grd r n g')[a]?=none:=List.getElem?_eq_none (by rw[qgJ];omega);rw[q1,q2];split
   · rw[if_neg (by rw[qgJ];omega)]
   · rfl
theorem qx8 {r n i k:Nat} {g g':Nat->Nat->Rat} {x:Rat} (h1:g' i k=x) (h2:∀ j,j≠k->g' i j=g i j) (h3:∀ a,a<r->a≠i->∀ j,j<n->g' a j=g a j):(grd r n g).set i (some ((flo n (g i)).set k (canQ x)))=grd r n g':=by
 rw[qyd (o:=g i) (p:=g' i) h1 h2];exact qBz (fun _ _=>rfl) h3
theorem qy6 {n:Nat} (h:n<=1000000):qfr (n:Int)=some (grd n n fun _ _=>0):=by
 have inner:∀ (out:List (Option (List RAT))) (v5 v6:Int),lp qbn K0 (((n:Int),out,[],v5,v6,(n:Int),0,()),())=some (((n:Int),out,flo n (fun _=>0),v5,v6,()),()):=fun out v5 v6 =>
  qhl (step:=qbn) (fun j=>(((n:Int),out,flo j (fun _=>0),v5,v6,(n:Int),(j:Int),()),())) n (r:=(((n:Int),out,flo n (fun _=>0),v5,v6,()),())) (by omega) (by
   intro g j hj;have d0:(j:Int)<(n:Int):=by omega
   rw[qbn,cnd d0,qeT,bS0,blt (by rw[qa5];omega),cond_true,qbs (by omega)];simp only[flo,List.range_succ,List.map_append];rfl) (by
   intro g;rw[qbn,cnd' (by omega)])
 have key:=qhl (step:=qbo) (fun i=>(((n:Int),grd i n (fun _ _=>0),(n:Int),(i:Int),()),())) n (r:=((grd n n (fun _ _=>0),()),())) (by omega) (by
  intro g i hi;have d0:(i:Int)<(n:Int):=by omega
  rw[qbo,cnd d0,inner,bS0]
  try dsimp only
  rw[blt (by rw[qgJ];simp only[List.length_cons,List.length_nil];omega),cond_true,qbs (by omega)]
  simp only[grd,List.range_succ,List.map_append];rfl) (by
  intro g;rw[qbo,cnd' (by omega)])
 have key:lp qbo K0 (((n:Int),[],(n:Int),0,()),())=_:=key;rw[qfr,key];rfl
theorem qBQ {n k:Nat} {w:Nat->Rat} (hw:∀ i,i<n->SzQ (w i) k) (hk:1+n*(k+1)<1099511627776) (hn:n<1000000):qgQ (flo n w)=some (flo n w,canQ (rsum w n)):=by
 have hsz:∀ i,i<=n->SzQ (rsum w i) (1+i*(k+1)):=fun i hi=>qtZ (n:=i) (fun j hj=>hw j (by omega))
 have hpart:∀ i,i<=n->Sm (canQ (rsum w i)):=fun i hi=>by
  refine(hsz i hi).sm (Nat.lt_of_le_of_lt ?_ hk);have:=Nat.mul_le_mul_right (k+1) hi;omega
 have key:=qhl (step:=qbZ) (fun i=>((flo n w,(n:Int),(i:Int),()),((false,[],[],()),((canQ (rsum w i)).1.1,(canQ (rsum w i)).1.2,(canQ (rsum w i)).2,()),()))) n
  (r:=((flo n w,()),((false,[],[],()),((canQ (rsum w n)).1.1,(canQ (rsum w n)).1.2,(canQ (rsum w n)).2,()),()))) (by omega) (by
  intro g i hi;have d0:(i:Int)<(n:Int):=by omega
  have hk1:k<1099511627776:=by have:1*(k+1)<=n*(k+1):=Nat.mul_le_mul_right _ (by omega);omega
  have hp:=qdU (hpart i (by omega)) ((hw i hi).sm hk1);rw[qam,qam] at hp;have hp':qdf (((canQ (rsum w i)).1.1,(canQ (rsum w i)).1.2),(canQ (rsum w i)).2) (canQ (w i))=some (canQ (rsum w (i+1))):=hp;rw[qbZ,cnd d0,bnd2 (by omega) (by rw[qa5];exact d0),tN0,qfz _ hi,bS0,hp',bS0,qbs (by omega)];rfl) (by
  intro g;rw[qbZ,cnd' (by omega)])
 have key':lp qbZ K0 ((flo n w,(n:Int),0,()),((false,[],[],()),((canQ 0).1.1,(canQ 0).1.2,(canQ 0).2,()),()))=_:=key;rw[qgQ,qeT,bS0,qa5,key',bS0]
 try dsimp only
 rw[qa5,Nat.beq_refl];rfl
def offQ (m:qaA) (row:List CELL) (a b:Nat):Rat:=if a=b then 0 else if qr6 m b then qgm m row a b else 0
def qnv (m:qaA) (row:List CELL) (a b:Nat):Rat:=if a=b then qin m row (-1) false a-rsum (offQ m row a) row.length else offQ m row a b
theorem qt7 {m:qaA} {row:List CELL} (h:Askd m row) {a:Nat} (b:Nat) (ha:a<row.length):SzQ (offQ m row a b) 3000000010:=by
 unfold offQ;split
 · exact SzQ.zero.mono (by decide)
 · split
   · exact qtd h b ha
   · exact SzQ.zero.mono (by decide)
theorem quR {m:qaA} {row:List CELL} (h:Askd m row) (hf:qca m row=some 0) (hv:qen m=some true) (h8:row.length<=70):qaf m row=some (grd row.length row.length (qnv m row),0):=by
 have hl:=h.len;have h64:=h.f64;have hml:(qo9 m).length=row.length:=by rw[qw9];omega
 obtain⟨n,hn⟩:∃ n,n=row.length:=⟨_,rfl⟩;have hm1:m.1=(n:Int):=by omega
 have inner:∀ (G:Nat->Nat->Rat) (k:Nat),k<n->lp qaW K0 ((row,flo n (qin m row (-1) false),grd n n G,qo9 m,(k:Int),(n:Int),(k:Int),flo n (fun i=>qgm m row i k),(n:Int),0,()),((m.1,m.2,()),())) =
   some ((row,flo n (qin m row (-1) false),grd n n (fun a b=>if b=k/\a<n/\a≠k then qgm m row a k else G a b),qo9 m,(n:Int),(k:Int),()),((m.1,m.2,()),())):=by
  intro G k hk;have e0:grd n n G=grd n n (fun a b=>if b=k/\a<0/\a≠k then qgm m row a k else G a b):=qg6 fun a _ b _=>by rw[if_neg (fun h=>absurd h.2.1 (Nat.not_lt_zero a))]
  rw[e0];refine qhl (step:=qaW) (fun i=>((row,flo n (qin m row (-1) false),grd n n (fun a b=>if b=k/\a<i/\a≠k then qgm m row a k else G a b),qo9 m,(k:Int),(n:Int),(k:Int),flo n (fun i=>qgm m row i k),(n:Int),(i:Int),()),((m.1,m.2,()),()))) n (by omega) (by
   intro g i hi;have d0:(i:Int)<(n:Int):=by omega
   rw[qaW,cnd d0,bnd2 (by omega) (by rw[qa5];exact d0),tN0,qfz _ hi,bS0];by_cases e:i=k
   · subst e;rw[decide_eq_true rfl,Bool.not_true,cond_false,qbs (by omega)];rw[qg6 (g':=fun a b=>if b=i/\a<i+1/\a≠i then qgm m row a i else G a b) (fun a _ b _=>by
       by_cases e1:b=i/\a<i/\a≠i
       · rw[if_pos e1,if_pos ⟨e1.1,by omega,e1.2.2⟩]
       · rw[if_neg e1,if_neg (fun h=>e1 ⟨h.1,by omega,h.2.2⟩)])]
     rfl
   · rw [decide_eq_false (show ¬ (i : Int) = (k : Int) by omega), Bool.not_false, cond_true, bnd2 (by omega) (by rw [qgJ]; exact d0), qnQ _ hi, bS0, bS0];rw[bS0,bnd2 (by omega) (by rw[qa5];omega),tN0,bS0,bS0,qfz _ hk,bS0,qbs (by omega)];rw [qx8 (g := fun a b => if b = k /\ a < i /\ a ≠ k then qgm m row a k else G a b) (g' := fun a b => if b = k /\ a < i + 1 /\ a ≠ k then qgm m row a k else G a b) (by (try dsimp only); rw [if_pos ⟨rfl, by omega, e⟩]) (fun j hj => by
         (try dsimp only);rw[if_neg (fun h=>hj h.1),if_neg (fun h=>hj h.1)]) (fun a _ ha j _=>by
         try dsimp only
         by_cases e1:j=k/\a<i/\a≠k
         · rw[if_pos e1,if_pos ⟨e1.1,by omega,e1.2.2⟩]
         · rw[if_neg e1,if_neg (fun h=>e1 ⟨h.1,by omega,h.2.2⟩)])]
     rfl) (by
   intro g;rw[qaW,cnd' (by omega)])
 have outer:=qhl (step:=qa3) (fun k=>((row,flo n (qin m row (-1) false),grd n n (fun a b=>if b<k then offQ m row a b else 0),qo9 m,(n:Int),(k:Int),()),((m.1,m.2,()),()))) n
  (r:=((flo n (qin m row (-1) false),grd n n (offQ m row),()),())) (by omega) (by
  intro g k hk;have d0:(k:Int)<(n:Int):=by omega
  rw[qa3,cnd d0,cnd (by omega),tN0,qxa (by omega),bS0];cases hu:qr6 m k with
  | false =>
   rw[Bool.not_false,cond_true,qbs (by omega)];rw[qg6 (g':=fun a b=>if b<k+1 then offQ m row a b else 0) (fun a _ b _=>by
     by_cases e1:b<k
     · rw[if_pos e1,if_pos (by omega)]
     · rw [if_neg e1];by_cases e2:b=k
       · rw[if_pos (by omega),offQ,e2,hu];simp
       · rw[if_neg (by omega)])]
   rfl
  | true =>
   rw[Bool.not_true,cond_false,show((m.1,m.2):qaA)=m from rfl,qtC h hf (by omega),bS0,qa5,<- hn,inner _ k hk,bS0]
   try dsimp only
   rw[qbs (by omega)];rw[qg6 (g':=fun a b=>if b<k+1 then offQ m row a b else 0) (fun a ha b _=>by
     by_cases e1:b=k
     · subst e1;rw[if_pos (show b<b+1 by omega)];by_cases e2:a=b
       · rw[if_neg (fun h=>h.2.2 e2),if_neg (Nat.lt_irrefl b),offQ,if_pos e2]
       · rw[if_pos ⟨rfl,ha,e2⟩,offQ,if_neg e2,if_pos hu]
     · rw [if_neg (fun h => e1 h.1)];by_cases e2:b<k
       · rw[if_pos e2,if_pos (by omega)]
       · rw[if_neg e2,if_neg (by omega)])]
   rfl) (by
  intro g;rw[qa3,cnd' (by omega)];rw[qg6 (g':=offQ m row) (fun a _ b hb=>by rw[if_pos hb])])
 have osz:∀ i,i<n->SzQ (rsum (offQ m row i) n) 300000002000:=fun i hi=>by
  have h1:=qtZ (f:=offQ m row i) (k:=3000000010) (n:=n) (fun j _=>qt7 h j (by omega));have:n*(3000000010+1)<=70*(3000000010+1):=Nat.mul_le_mul_right _ (by omega);exact h1.mono (by omega)
 have last:=qhl (step:=qaV) (fun i=>((flo n (qin m row (-1) false),grd n n (fun a b=>if a<i then qnv m row a b else offQ m row a b),(n:Int),(i:Int),()),())) n
  (r:=((grd n n (qnv m row),()),())) (by omega) (by
  intro g i hi;have d0:(i:Int)<(n:Int):=by omega
  have hsum:=qBQ (n:=n) (w:=offQ m row i) (k:=3000000010) (fun j _=>qt7 h j (by omega)) (by
   have:n*(3000000010+1)<=70*(3000000010+1):=Nat.mul_le_mul_right _ (by omega);omega) (by omega)
  have hrow:(fun b=>if i<i then qnv m row i b else offQ m row i b)=offQ m row i:=by
   funext b;rw[if_neg (by omega)]
  have s0:SzQ (offQ m row i i) 3000000010:=qt7 h i (by omega);have s1:=osz i hi;have e0:offQ m row i i=0:=by rw[offQ,if_pos rfl]
  rw[qaV,cnd d0,bnd2 (by omega) (by rw[qgJ];exact d0),tN0,qnQ _ hi,hrow,bS0,bnd2 (by omega) (by rw[qa5];exact d0),qfz _ hi,bS0,bnd2 (by omega) (by rw[qgJ];exact d0),bS0,bS0,bS0,hsum,bS0]
  try dsimp only
  rw[qlw rfl,qwI,cond_true,bnd2 (by omega) (by rw[qgJ];exact d0),bS0,bS0,bS0,bnd2 (by omega) (by rw[qa5];exact d0),bS0,bS0,qfz _ hi,bS0,
   qip (s1.sm (by decide)) (s0.sm (by decide)),bS0,qam,qam,qip ((qmU h (-1) false (show i<row.length by omega)).sm (by decide)) ((s1.sub s0).sm (by decide)),bS0,qam,qam,
   bS0,bS0,bnd2 (by omega) (by rw[qa5];exact d0),bS0,bS0,qfz _ hi,bS0,qbs (by omega)]
  have hset:=qx8 (r:=n) (n:=n) (i:=i) (k:=i) (g:=fun a b=>if a<i then qnv m row a b else offQ m row a b) (g':=fun a b=>if a<i+1 then qnv m row a b else offQ m row a b) (x:=qin m row (-1) false i-(rsum (offQ m row i) n-offQ m row i i)) (by
     try dsimp only
     rw[if_pos (by omega),qnv,if_pos rfl,e0,hn];grind) (fun j hj=>by
     try dsimp only
     rw[if_pos (by omega),if_neg (by omega),qnv,if_neg (fun h=>hj h.symm)]) (fun a _ ha j _=>by
     try dsimp only
     by_cases e1:a<i
     · rw[if_pos e1,if_pos (by omega)]
     · rw[if_neg e1,if_neg (by omega)])
  try dsimp only at hset
  rw[hrow] at hset;rw[hset];rfl) (by
  intro g;rw[qaV,cnd' (by omega)];rw[qg6 (g':=qnv m row) (fun a ha b _=>by rw[if_pos ha])])
 have outer:lp qa3 K0 ((row,flo n (qin m row (-1) false),grd n n (fun a b=>if b<0 then offQ m row a b else 0),qo9 m,(n:Int),0,()),((m.1,m.2,()),()))=_:=outer;have last:lp qaV K0 ((flo n (qin m row (-1) false),grd n n (fun a b=>if a<0 then qnv m row a b else offQ m row a b),(n:Int),0,()),())=_:=last;rw[qaf,quS h,bS0]
 try dsimp only
 rw[decide_eq_true rfl,Bool.not_true,cond_false,hm1,qy6 (by omega),bS0,qBP hv h.good,bS0,<- hn,qg6 (g':=fun a b=>if b<0 then offQ m row a b else 0) (fun a _ b _=>by rw[if_neg (by omega)]),<- hm1,show(m.1:Int)=(n:Int) from hm1];rw[show((n:Int),m.2,())=(m.1,m.2,()) by rw[hm1],outer,bS0]
 try dsimp only
 rw[qgJ,qg6 (g:=offQ m row) (g':=fun a b=>if a<0 then qnv m row a b else offQ m row a b) (fun a _ b _=>by rw[if_neg (by omega)]),last];rfl
theorem qcr:qaa=some true:=by decide +kernel
theorem qrJ {m:qaA} {row:List CELL} (h:Askd m row) {i k:Nat} (hi:i<row.length) (hk:k<row.length) (hne:i≠k) (hu:qr6 m k=false):qgm m row i k=0:=by
 have hv:∀ S,S.testBit k=false->sayM m row (S+2 ^ k)=sayM m row S:=fun S hS=>by
  unfold sayM;refine qbF fun j hj=>?_
  obtain⟨t1,t2,t3,t4,t5⟩:=h.tree hj;rw[t5] at t2 ⊢;exact qsj t2 (qtR hu (gM0 hj)) hS
 unfold qgm;rw[qpp h true hk hi,qpp h false hk hi,<- qnw true hi hk hne hv,<- qnw false hi hk hne hv]
 grind
theorem qBd {m:qaA} {row:List CELL} (h:Askd m row) {a b:Nat} (ha:a<row.length) (hb:b<row.length):offQ m row a b=if a=b then 0 else qgm m row a b:=by
 unfold offQ;by_cases e:a=b
 · rw[if_pos e,if_pos e]
 · rw [if_neg e, if_neg e];cases hu:qr6 m b with
   | true=>rw[if_pos rfl]
   | false=>rw[if_neg (by decide),qrJ h ha hb e hu]
theorem qwY {m:qaA} {row:List CELL} {e i k:Int} (h:qca m row=some e) (he:e≠0):qbp m row i k=some (((false,[]),[]),e):=by
 rw[qbp,h,bS0,decide_eq_false he];rfl
theorem qwX {m:qaA} {row:List CELL} {i k:Int} (h:qca m row=some 0) (hx:i<0\/i>=m.1\/k<0\/k>=m.1):qbp m row i k=some (((false,[]),[]),8):=by
 rw[qbp,h,bS0,decide_eq_true rfl,Bool.not_true,cond_false];by_cases h1:i<0
 · rw[cnd h1]
 · rw [cnd' h1];by_cases h2:i>=m.1
   · rw[cnd h2]
   · rw [cnd' h2];by_cases h3:k<0
     · rw[cnd h3]
     · rw[cnd' h3,cnd (by omega)]
theorem quT {m:qaA} {row:List CELL} {i:Int} (h:qca m row=some 0) (h0:0<=i) (h1:i<m.1):qbp m row i i=some (((false,[]),[]),1):=by
 rw[qbp,h,bS0,decide_eq_true rfl,Bool.not_true,cond_false,cnd' (by omega),cnd' (by omega),cnd' (by omega),cnd' (by omega),cnd rfl]
theorem qyQ {m:qaA} {row:List CELL} (ha:Askd m row) (h:qca m row=some 0) {i k:Nat} (hi:i<row.length) (hk:k<row.length) (hne:i≠k):qbp m row (i:Int) (k:Int)=some (canQ (qgm m row i k),0):=by
 have hl:=ha.len;rw[qbp,h,bS0,decide_eq_true rfl,Bool.not_true,cond_false,cnd' (by omega),cnd' (by omega),cnd' (by omega),cnd' (by omega),cnd' (by omega),qtC ha h hk,bS0,bnd2 (by omega) (by rw[qa5];omega),tN0,qfz _ hi,bS0]
theorem qzK {J:Type} {n a b:Nat} (g:Nat->Nat->Rat) (ha:a<n) (hb:b<n) (K:RAT->Option J) :
  (bif decide (0<=(a:Int))&&decide ((a:Int)<((grd n n g).length:Int)) then ((grd n n g)[(a:Int).toNat]?).bind fun _=>((grd n n g)[(a:Int).toNat]?).bind fun x=>x.bind fun y=>bif decide (0<=(b:Int))&&decide ((b:Int)<(y.length:Int)) then ((grd n n g)[(a:Int).toNat]?).bind fun x=>x.bind fun y=>(y[(b:Int).toNat]?).bind fun z=>K z else none else none)=K (canQ (g a b)):=by
 rw[bnd2 (by omega) (by rw[qgJ];omega),tN0,tN0,qnQ _ ha,bS0,bS0,bS0,bnd2 (by omega) (by rw[qa5];omega),bS0,bS0,qfz _ hb,bS0]
theorem qwF {J:Type} {n a:Nat} (g:Nat->Nat->Rat) (ha:a<n) (K:List RAT->Option J) :
  (bif decide (0<=(a:Int))&&decide ((a:Int)<((grd n n g).length:Int)) then ((grd n n g)[(a:Int).toNat]?).bind fun _=>((grd n n g)[(a:Int).toNat]?).bind fun x=>x.bind fun y=>K y else none)=K (flo n (g a)):=by
 rw[bnd2 (by omega) (by rw[qgJ];omega),tN0,qnQ _ ha,bS0,bS0,bS0]
theorem qns (m0:qaA) (row0:List CELL) (i k:Int) (hl:m0.2.length<=9223372036854775807) (ht:∀ t∈m0.2,t.length<=9223372036854775807) (hr:row0.length<=9223372036854775807):qch m0 row0 i k=some true:=by
 obtain⟨m,row,hs,ms,ml,mt,cs⟩:=qAb m0 row0 hl ht hr;obtain⟨b,hv,hb⟩:=qCI (m:=m) (by omega) (fun t h=>by have:=mt t h;omega) ms (by decide);obtain⟨r1,r2⟩:=qAN hv row;have d80:decide ((8:Int)=0)=false:=by decide
 have d10:decide ((1:Int)=0)=false:=by decide
 have d00:decide ((0:Int)=0)=true:=by decide
 rw[qch,hs,bS0];dsimp only;rw[r2,bS0];by_cases he:whyR b m row=0
 · have hbt : b = true := by cases b with
     | true=>rfl
     | false=>exact absurd he (by rw[whyR,if_neg (by decide)];decide)
   subst hbt;have hlen:(row.length:Int)=m.1:=by
     apply Classical.byContradiction;intro hn;rw[whyR,if_pos rfl,if_neg hn] at he;exact absurd he (by decide)
   have ha:Askd m row:=⟨hb.1 rfl,hlen,ms,by omega,mt,cs⟩;rw[he] at r1 ⊢;by_cases h8:m.1>8
   · rw[cnd rfl,cnd h8,qcr];rfl
   · rw [cnd rfl, cnd' h8];by_cases hx:i<0\/i>=m.1\/k<0\/k>=m.1
     · rw [qwX r1 hx, bS0];dsimp only;rw[cnd rfl];have fin:(bif (!decide ((8:Int)=0)) then (bif (decide ((([]:List Int).length:Int)=0)) then (bif (decide ((8:Int)=8)) then ((qaa ).bind fun r5=>some r5) else (some false)) else (some false)) else (none:Option Bool))=some true:=by
         rw[qcr];rfl
       by_cases h1:i<0
       · rw[cnd h1,qcr];simp only[d80,cond_false,Bool.not_false,cond_true];rfl
       · rw [cnd' h1];by_cases h2:i>=m.1
         · rw[cnd h2,qcr];simp only[d80,cond_false,Bool.not_false,cond_true];rfl
         · rw [cnd' h2];by_cases h3:k<0
           · rw[cnd h3,qcr];simp only[d80,cond_false,Bool.not_false,cond_true];rfl
           · rw[cnd' h3,cnd (show k>=m.1 by omega),qcr];simp only[d80,cond_false,Bool.not_false,cond_true];rfl
     · have e1 : ¬ i < 0 := by omega
       have e2:¬ i>=m.1:=by omega
       have e3:¬ k<0:=by omega
       have e4:¬ k>=m.1:=by omega
       by_cases hik:i=k
       · subst hik;rw[quT r1 (by omega) (by omega),bS0];dsimp only;rw[cnd rfl,cnd' e1,cnd' e2,cnd' e1,cnd' e2,qcr];simp only[d00,d10,cond_false,Bool.not_false,cond_true];rfl
       · obtain ⟨a, rfl⟩ := Int.eq_ofNat_of_zero_le (show 0 <= i by omega);obtain⟨c,rfl⟩:=Int.eq_ofNat_of_zero_le (show 0<=k by omega);have hac:a<row.length:=by omega
         have hcc:c<row.length:=by omega
         have hne:a≠c:=by omega
         have sq:=qtd ha c hac;have hIs:qae (canQ (qgm m row a c)) (canQ (qnv m row a c))=some true:=by
           rw[qnv,if_neg hne,qBd ha hac hcc,if_neg hne,qDj sq (by decide) sq.szR (by decide),qam,decide_eq_true rfl]
         rw[qyQ ha r1 hac hcc hne,bS0];dsimp only;rw[cnd rfl,cnd' e1,cnd' e2,cnd' e3,cnd' e4,d00,cond_true,decide_eq_false hik,cond_false,Bool.not_true,cond_false,quR ha r1 hv (by omega),bS0];dsimp only;rw[cond_true,d00,cond_true,cnd (by rw[qgJ];omega),qwF _ hac,cnd (by rw[qa5];omega),qzK _ hac hcc,hIs,bS0,cond_true,qcr];rfl
 · rw [cnd' he];rw[qwY r1 he,bS0];dsimp only;rw[cnd' he];simp only[decide_eq_false he,Bool.not_false,cond_true,cond_false];rw[qcr];rfl
end Go.Proofs.YtaeiamdjpkgjpaaGreatDoor.X
