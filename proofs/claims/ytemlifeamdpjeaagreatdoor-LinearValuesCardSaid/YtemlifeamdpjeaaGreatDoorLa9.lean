/- Own work: part of the proof; the first line of each part says what it tells. -/
import Derived.Test.YtemlifeamdpjeaaGreatDoorLa8


namespace Go.Proofs.YtemlifeamdpjeaaGreatDoor.X
open Go
set_option linter.unusedVariables false
set_option linter.unusedSimpArgs false
theorem qxH (f:Nat→Rat) (n:Nat):rsum f (n+1)=f 0+rsum (fun i=>f (i+1)) n:=by
 induction n with
 | zero=>simp [rsum,Rat.add_zero,Rat.zero_add]
 | succ n ih=>rw[rsum,ih,rsum,Rat.add_assoc]
theorem qwV {f:Nat→Rat} {n m:Nat} (h:∀ i,n≤i→f i=0) (hm:n≤m):rsum f m=rsum f n:=by
 induction m with
 | zero => have : n = 0 := by omega
           subst this;rfl
 | succ m ih =>
  by_cases e:n=m+1
  · rw[e]
  · rw[rsum,h m (by omega),ih (by omega),Rat.add_zero]
theorem qDQ (L:List BA):∀ c,EE L c=rsum (fun j=>polF L j*c j) (L.length+1):=by
 induction L with
 | nil=>intro c;show c 0=0+1*c 0;rw[Rat.one_mul,Rat.zero_add]
 | cons x L ih =>
  intro c
  have e1:rsum (fun j=>polF (x::L) j*c j) ((x::L).length+1)=x.1*rsum (fun j=>polF L j*c j) (L.length+1)+x.2*rsum (fun j=>polF L j*c (j+1)) (L.length+1):=by
   have a:∀ j,polF (x::L) j*c j=(polF L j*c j)*x.1+(if j=0 then 0 else polF L (j-1)*c j)*x.2:=fun j=>by
    show mulF x (polF L) j*c j=_
    rw[mulF]
    split<;>grind
   have b:rsum (fun j=>polF (x::L) j*c j) (L.length+2)=rsum (fun j=>(polF L j*c j)*x.1+(if j=0 then 0 else polF L (j-1)*c j)*x.2) (L.length+2):=qex fun j _=>a j
   show rsum _ (L.length+2)=_
   rw[b,qy7,qmr,qmr]
   have e2:rsum (fun j=>polF L j*c j) (L.length+2)=rsum (fun j=>polF L j*c j) (L.length+1):=qwV (fun j hj=>by rw[qn9 L j hj,Rat.zero_mul]) (by omega)
   have e3:rsum (fun j=>if j=0 then 0 else polF L (j-1)*c j) (L.length+2)=rsum (fun j=>polF L j*c (j+1)) (L.length+1):=by
    rw[qxH,if_pos rfl,Rat.zero_add]
    exact qex fun j _=>by rw[if_neg (by omega),Nat.add_sub_cancel]
   rw[e2,e3];grind
  rw[e1,EE,ih,ih]
theorem qB3 {d st sm:Int} {f:List WH} (hT:Tab d st sm f) {n:Nat} (h1:1≤n) (h64:n≤64):∃ d' st' sm' f',qeL (n:Int) d st sm f=some (flo n fun k=>wq k n,0,d',st',sm',f'):=by
 obtain⟨r,⟨d',st',sm',f',hr⟩,e⟩:=qj9 (step:=qbq)
  (fun i v=>∃ d st sm f,v=(((n:Int),flo i (fun k=>wq k n),(n:Int),(i:Int),()),((d,st,sm,f,()),()))∧Tab d st sm f)
  (fun r=>∃ d' st' sm' f',r=((flo n (fun k=>wq k n),()),((d',st',sm',f',()),()))) n
  (v:=(((n:Int),[],(n:Int),0,()),((d,st,sm,f,()),()))) ⟨d,st,sm,f,rfl,hT⟩ (by omega) (by
  rintro i v hi ⟨d,st,sm,f,rfl,hT⟩
  refine⟨_,⟨1,0,sm,qtm,rfl,tab1 sm⟩,fun g=>?_⟩
  rw[qbq,cnd (by omega),qAr hT hi h64,bS0]
  dsimp only
  rw[blt (by rw[qaB];omega),cond_true,qa4 (by omega)]
  have:flo (i+1) (fun k=>wq k n)=flo i (fun k=>wq k n)++[canQ (wq i n)]:=by simp [flo,List.range_succ]
  rw[this];rfl) (by
  rintro v ⟨d,st,sm,f,rfl,hT⟩
  exact⟨_,⟨d,st,sm,f,rfl⟩,fun g=>by rw[qbq,cnd' (by omega)]⟩)
 refine⟨d',st',sm',f',?_⟩
 rw[qeL,cnd' (by omega),cnd' (by omega),e,hr];rfl
theorem qBQ {p:List RAT} {n k:Nat} (hp:LSz p k) (hk:0<k) (hk2:k<1000000) (h1:1≤n) (h64:n≤64) :
   qe2 p (n:Int)=some (if p.length≤n then (canQ (rsum (fun j=>wq j n*vals p j) p.length),0) else (((false,[]),[]),6)):=by
 obtain⟨d,st,sm,f,hN,hT⟩:=qEy
 obtain⟨d',st',sm',f',hA⟩:=qB3 hT h1 h64
 rw[qe2,hN,bS0]
 dsimp only
 rw[hA,bS0]
 dsimp only
 rw[show(!decide ((0:Int)=0))=false by decide,cond_false]
 by_cases hl:p.length≤n
 · obtain ⟨s, hs⟩ : ∃ s : Nat → Rat, s = rsum (fun j => wq j n * vals p j) := ⟨_, rfl⟩
   have tz:∀ j,j<p.length→SzQ (wq j n*vals p j) (30+k):=fun j hj=>(qAG (by omega) h64).mul (hp.vals hk)
   have sz:∀ i,i≤p.length→SzQ (s i) 70000000:=fun i hi=>by
    rw[hs]
    exact(qy6 (fun j hj=>tz j (by omega))).mono (by have:=Nat.mul_le_mul (show i≤64 by omega) (show 30+k+1≤1000031 by omega);omega)
   have key:=qfu (step:=qb6) (fun i=>((flo n (fun k=>wq k n),p,(p.length:Int),(i:Int),()),((false,[],[],()),((canQ (s i)).1.1,(canQ (s i)).1.2,(canQ (s i)).2,()),()))) p.length (r:=((),((false,[],[],()),((canQ (s p.length)).1.1,(canQ (s p.length)).1.2,(canQ (s p.length)).2,()),()))) (by omega) (by
    intro g i hi
    have hin:i<n:=by omega
    have hx:=hp.2 _ (gM0 hi)
    have m1:=qan ((qAG hin h64).sm (by decide)) (hx.sm (by omega))
    rw[qae,← qp3 hi] at m1
    have m2:=qce ((sz i (by omega)).sm (by decide)) ((tz i hi).sm (by omega))
    rw[qae,qae] at m2
    have e:s i+wq i n*vals p i=s (i+1):=by rw[hs];rfl
    rw[qb6,cnd (by omega),cnd (by omega),tN0,gE0 hi,bS0,cnd2 (by omega) (by rw[qaB];omega),qe4 _ hin,bS0,m1,bS0]
    show(qct (canQ (s i)) _).bind _=_
    rw[m2,e,bS0,qa4 (by omega)];rfl) (by
    intro g
    rw[qb6,cnd' (by omega)])
   have s0:s 0=0:=by rw[hs];rfl
   rw[s0] at key
   have key:lp qb6 K0 ((flo n (fun k=>wq k n),p,(p.length:Int),0,()),((false,[],[],()),((canQ 0).1.1,(canQ 0).1.2,(canQ 0).2,()),()))=_:=key
   rw[cnd' (by omega),qea,bS0,key,if_pos hl,hs];rfl
 · rw[cnd (by omega),if_neg hl]
theorem qoZ {n:Nat} (h:0<n):((n:Nat):Rat)≠0:=by
 intro e
 have:(n:Nat)=0:=by exact_mod_cast e
 omega
theorem qst {i n:Nat} (h:i<n):wq i (n+1)=wq i n*(((n-i:Nat):Rat)/((n+1:Nat):Rat)):=by
 obtain⟨j,rfl⟩:∃ j,n=i+j+1:=⟨n-i-1,by omega⟩
 have e1:i+j+1+1-i-1=j+1:=by omega
 have e2:i+j+1-i-1=j:=by omega
 have e3:i+j+1-i=j+1:=by omega
 have a1:((fac (j+1):Nat):Rat)=((j+1:Nat):Rat)*((fac j:Nat):Rat):=by rw[fac];push_cast;rfl
 have a2:((fac (i+j+1+1):Nat):Rat)=((i+j+1+1:Nat):Rat)*((fac (i+j+1):Nat):Rat):=by rw[fac];push_cast;rfl
 have n1:=qoZ (qwi (i+j+1))
 have n2:=qoZ (show 0<i+j+1+1 by omega)
 simp only[wq,quo]
 rw[e1,e2,e3,a1,a2]
 generalize ((fac i:Nat):Rat)=x
 generalize ((fac j:Nat):Rat)=y
 generalize ((fac (i+j+1):Nat):Rat)=z at *
 generalize ((j+1:Nat):Rat)=u
 generalize ((i+j+1+1:Nat):Rat)=v at *
 rw[Rat.div_def,Rat.div_def,Rat.div_def,Rat.inv_mul_rev]
 grind
theorem qyG {i n:Nat} (h:i<n):wq (i+1) (n+1)=wq i n*(((i+1:Nat):Rat)/((n+1:Nat):Rat)):=by
 obtain⟨j,rfl⟩:∃ j,n=i+j+1:=⟨n-i-1,by omega⟩
 have e1:i+j+1+1-(i+1)-1=j:=by omega
 have e2:i+j+1-i-1=j:=by omega
 have a1:((fac (i+1):Nat):Rat)=((i+1:Nat):Rat)*((fac i:Nat):Rat):=by rw[fac];push_cast;rfl
 have a2:((fac (i+j+1+1):Nat):Rat)=((i+j+1+1:Nat):Rat)*((fac (i+j+1):Nat):Rat):=by rw[fac];push_cast;rfl
 simp only[wq,quo]
 rw[e1,e2,a1,a2]
 generalize ((fac i:Nat):Rat)=x
 generalize ((fac j:Nat):Rat)=y
 generalize ((fac (i+j+1):Nat):Rat)=z at *
 generalize ((i+1:Nat):Rat)=u
 generalize ((i+j+1+1:Nat):Rat)=v at *
 rw[Rat.div_def,Rat.div_def,Rat.div_def,Rat.inv_mul_rev]
 grind
def fcP (p:AP):BA:=(p.2.1,one0 p.2.2)
def ekP (P:List AP):Nat→Rat:=polF (P.map fcP)
def wtP (P:List AP) (k:Nat):Rat:=wq k (P.length+1)*ekP P k
theorem qxm {P Q:List AP} (h:P.Perm Q):ekP P=ekP Q:=qqI (h.map fcP)
theorem qBy (P:List AP) (p:AP):ekP (P++[p])=mulF (fcP p) (ekP P):=by
 have:(P++[p]).Perm (p::P):=List.perm_append_comm.trans (List.Perm.refl _)
 rw[qxm this];rfl
theorem qzZ (P:List AP) {k:Nat} (h:P.length<k):ekP P k=0:=qn9 _ k (by simp;omega)
theorem qCv:wtP [] 0=1:=by
 show wq 0 1*1=1
 rw[Rat.mul_one];decide +kernel
abbrev LK:=Int×RAT×CELL
def lkF (P:List AP) (w:Nat→Rat) (i:Nat):LK :=
 if i=0 then (-1,canQ 1,true,canQ (w 0)) else
  let p:=(P[i-1]?).getD (0,0,false)
  ((p.1:Int),canQ p.2.1,p.2.2,canQ (w i))
def encK (P:List AP) (w:Nat→Rat):List LK:=(List.range (P.length+1)).map (lkF P w)
theorem qds (P:List AP) (w:Nat→Rat):(encK P w).length=P.length+1:=by simp [encK]
theorem qc9 {P:List AP} {w:Nat→Rat} {i:Nat} (h:i<P.length+1):(encK P w)[i]?=some (lkF P w i):=by simp [encK,h]
theorem qhv {P:List AP} {w w':Nat→Rat} (h:∀ i,i≤P.length→w i=w' i):encK P w=encK P w':=by
 refine List.map_congr_left fun i hi=>?_
 have hi:=List.mem_range.1 hi
 unfold lkF
 split
 · rename_i e;subst e;rw[h 0 (by omega)]
 · rw[h i (by omega)]
theorem qzB (P:List AP) (w:Nat→Rat) (i:Nat):(lkF P w i).2.2.2=canQ (w i):=by
 unfold lkF;split
 · rename_i e;subst e;rfl
 · rfl
theorem qDi (P:List AP) (w:Nat→Rat) (i:Nat) (q:Rat):((lkF P w i).1,(lkF P w i).2.1,(lkF P w i).2.2.1,canQ q)=lkF P (fun j=>if j=i then q else w j) i:=by
 unfold lkF
 split
 · rename_i e;subst e;simp
 · simp
theorem qqb {P:List AP} {w:Nat→Rat} {i:Nat} (q:Rat):(encK P w).set i ((lkF P w i).1,(lkF P w i).2.1,(lkF P w i).2.2.1,canQ q)=encK P fun j=>if j=i then q else w j:=by
 rw[qDi]
 refine List.ext_getElem? fun j=>?_
 rw[List.getElem?_set]
 by_cases e:i=j
 · subst e
   rw[if_pos rfl]
   by_cases hi:i<P.length+1
   · rw[if_pos (by rw[qds];exact hi),qc9 hi]
   · rw[if_neg (by rw[qds];exact hi),List.getElem?_eq_none (by rw[qds];omega)]
 · rw [if_neg e]
   by_cases hj:j<P.length+1
   · rw [qc9 hj, qc9 hj]
     have:(if j=i then q else w j)=w j:=if_neg fun h=>e h.symm
     unfold lkF
     split
     · rename_i e0;subst e0;simp only[this]
     · simp only[this]
   · rw[List.getElem?_eq_none (by rw[qds];omega),List.getElem?_eq_none (by rw[qds];omega)]
theorem qom {P:List AP} {w:Nat→Rat} {i:Nat} (h:i<P.length):lkF P w (i+1)=((P[i].1:Int),canQ P[i].2.1,P[i].2.2,canQ (w (i+1))):=by
 simp [lkF,gE0 h]
theorem qzX (P:List AP) (w:Nat→Rat) (p:AP) (q:Rat):encK P w++[((p.1:Int),canQ p.2.1,p.2.2,canQ q)]=encK (P++[p]) fun j=>if j=P.length+1 then q else w j:=by
 have e:encK (P++[p]) (fun j=>if j=P.length+1 then q else w j)=(List.range (P.length+1)).map (lkF (P++[p]) fun j=>if j=P.length+1 then q else w j)++[lkF (P++[p]) (fun j=>if j=P.length+1 then q else w j) (P.length+1)]:=by
   unfold encK
   rw[List.length_append,List.length_singleton,List.range_succ,List.map_append];rfl
 rw[e]
 congr 1
 · refine List.map_congr_left fun i hi => ?_
   have hi:=List.mem_range.1 hi
   unfold lkF
   split
   · rename_i e;subst e;simp
   · have : ¬ i = P.length + 1 := by omega
     rw[List.getElem?_append_left (by omega)]
     simp only[if_neg this]
 · simp [lkF]
structure qfc (P:List AP) (k g:Nat):Prop where
 nd:(P.map (·.1)).Nodup
 sz:ASz P k
 len:P.length≤20
 lt:∀ p∈P,p.1<g
 pos:∀ p∈P,0<p.2.1
theorem qBV:qhQ=some (encK [] (wtP [])):=by
 rw[qhQ,qf8,bS0,bS0]
 show some [_]=some [lkF [] (wtP []) 0]
 simp only[lkF,if_true,qCv]
theorem qDP {P:List AP} {w:Nat→Rat} {f i:Nat} (hi:i<P.length) (he:P[i].1=f) (hn:∀ j (hj:j<P.length),j<i→P[j].1≠f) (hl:P.length≤1000000):qbr (f:Int) (encK P w)=some (((i+1:Nat):Int),encK P w):=by
 have el:=qds P w
 have key:=qfu (step:=qak) (fun k=>(((f:Int),((P.length+1:Nat):Int),(k:Int),()),((encK P w,()),()))) (i+1) (r:=.inr ((((i+1:Nat):Int),()),((encK P w,()),()))) (by omega) (by
  intro g k hk
  have d0:(k:Int)<((P.length+1:Nat):Int):=by omega
  have d1:(0:Int)≤(k:Int):=by omega
  have d2:(k:Int)<((encK P w).length:Int):=by omega
  rw[qak,cnd d0,cnd2 d1 d2,tN0,qc9 (by omega),bS0]
  cases k with
  | zero=>rw[cnd' (by omega),qa4 (by omega)];rfl
  | succ k =>
   have hne:¬ (lkF P w (k+1)).1=(f:Int):=by
    rw[qom (by omega)]
    have:=hn k (by omega) (by omega)
    show ¬ ((P[k].1:Nat):Int)=_
    omega
   rw[cnd (by omega),cnd' hne,qa4 (by omega)];rfl) (by
  intro g
  have d0:((i+1:Nat):Int)<((P.length+1:Nat):Int):=by omega
  have d1:(0:Int)≤((i+1:Nat):Int):=by omega
  have d2:((i+1:Nat):Int)<((encK P w).length:Int):=by omega
  have he':(lkF P w (i+1)).1=(f:Int):=by rw[qom hi];show((P[i].1:Nat):Int)=_;omega
  rw[qak,cnd d0,cnd2 d1 d2,tN0,qc9 (by omega),bS0,cnd (by omega),cnd he'])
 have key:lp qak K0 (((f:Int),((P.length+1:Nat):Int),0,()),((encK P w,()),()))=_:=key
 rw[qbr,el,key];rfl
theorem qxz {P:List AP} {w:Nat→Rat} {f:Nat} (hn:∀ p∈P,p.1≠f) (hl:P.length≤1000000):qbr (f:Int) (encK P w)=some (0,encK P w):=by
 have el:=qds P w
 have key:=qfu (step:=qak) (fun k=>(((f:Int),((P.length+1:Nat):Int),(k:Int),()),((encK P w,()),()))) (P.length+1) (r:=.inl ((),((encK P w,()),()))) (by omega) (by
  intro g k hk
  have d0:(k:Int)<((P.length+1:Nat):Int):=by omega
  have d1:(0:Int)≤(k:Int):=by omega
  have d2:(k:Int)<((encK P w).length:Int):=by omega
  rw[qak,cnd d0,cnd2 d1 d2,tN0,qc9 (by omega),bS0]
  cases k with
  | zero=>rw[cnd' (by omega),qa4 (by omega)];rfl
  | succ k =>
   have hne:¬ (lkF P w (k+1)).1=(f:Int):=by
    rw[qom (by omega)]
    have:=hn P[k] (gM0 (by omega))
    show ¬ ((P[k].1:Nat):Int)=_
    omega
   rw[cnd (by omega),cnd' hne,qa4 (by omega)];rfl) (by
  intro g
  rw[qak,cnd' (by omega)])
 have key:lp qak K0 (((f:Int),((P.length+1:Nat):Int),0,()),((encK P w,()),()))=_:=key
 rw[qbr,el,key];rfl
theorem qsr {P:List AP} {w:Nat→Rat} (hl:P.length≤1000000):qck (encK P w)=some (encW P,encK P w):=by
 have el:=qds P w
 have key:=qfu (step:=qaA) (fun k=>((encW (P.take (k-1)),((P.length+1:Nat):Int),(k:Int),()),((encK P w,()),()))) (P.length+1) (r:=((encW P,()),((encK P w,()),()))) (by omega) (by
  intro g k hk
  have d0:(k:Int)<((P.length+1:Nat):Int):=by omega
  have d1:(0:Int)≤(k:Int):=by omega
  have d2:(k:Int)<((encK P w).length:Int):=by omega
  rw[qaA,cnd d0,cnd2 d1 d2,tN0,qc9 (by omega),bS0]
  cases k with
  | zero=>rw[cnd' (by omega),qa4 (by omega)];rfl
  | succ k =>
   have hk':k<P.length:=by omega
   have e:encW (P.take (k+1))=encW (P.take k)++[((lkF P w (k+1)).1,(lkF P w (k+1)).2.1,(lkF P w (k+1)).2.2.1)]:=by
    rw[qom hk']
    exact qgJ encP hk'
   rw[cnd (by omega),blt (by rw[qhC,List.length_take];omega),cond_true,qa4 (by omega)]
   show g ((encW (P.take k)++_,_,_,_),_)=g ((encW (P.take (k+1)),_,_,_),_)
   rw[e];rfl) (by
  intro g
  rw[qaA,cnd' (by omega),Nat.add_sub_cancel,List.take_of_length_le (Nat.le_refl _)])
 have key:lp qaA K0 (([],((P.length+1:Nat):Int),0,()),((encK P w,()),()))=_:=key
 rw[qck,el,key];rfl
theorem qra {a b:Nat} (ha:a<1000000) (hb:b<1000000):qdR (a:Int) (b:Int)=some (canQ ((a:Rat)/(b:Rat))):=by
 have:=qsU (n:=(a:Int)) (d:=(b:Int)) (by omega) (by omega) (by omega) (by omega)
 rw[this];rfl
theorem qpc {a b:Nat} (ha:a<1000000) (hb:b<1000000):SzQ ((a:Rat)/(b:Rat)) 2:=by
 have h:∀ {n:Nat},n<1000000→SzQ (n:Rat) 1:=fun {n} hn=>by
  have:=SzQ.int (z:=(n:Int)) (by omega)
  exact this
 exact(h ha).div (h hb)
theorem qzr (b:Bool):SzQ (one0 b) 1:=by cases b;exact SzQ.zero;exact SzQ.one
def ekS (k:Nat):Nat→Nat
 | 0=>1
 | n+1=>2*ekS k n+k+2
theorem qxl (k:Nat) {n m:Nat} (h:n≤m):ekS k n≤ekS k m:=by
 induction h with
 | refl=>exact Nat.le_refl _
 | step _ ih=>simp only[ekS];omega
theorem qu5 {k n:Nat} (hk:k≤70) (hn:n≤20):ekS k n≤76546048:=by
 have h1:=qxl k hn
 have h2:ekS k 20≤ekS 70 20:=by
  have:∀ n,ekS k n≤ekS 70 n:=by
   intro n
   induction n with
   | zero=>exact Nat.le_refl _
   | succ n ih=>simp only[ekS];omega
  exact this 20
 have h3:ekS 70 20≤76546048:=by decide +kernel
 omega
theorem qzY {P:List AP} {k:Nat} (h:ASz P k):∀ i,SzQ (ekP P i) (ekS k P.length):=by
 induction P with
 | nil =>
  intro i
  show SzQ (if i=0 then (1:Rat) else 0) 1
  split
  · exact SzQ.one
  · exact SzQ.zero
 | cons p P ih =>
  intro i
  have h1:SzQ p.2.1 k:=h p List.mem_cons_self
  have ih:=ih fun x hx=>h x (List.mem_cons_of_mem _ hx)
  show SzQ (mulF (fcP p) (ekP P) i) _
  unfold mulF
  have a:SzQ ((fcP p).1*ekP P i) (k+ekS k P.length):=h1.mul (ih i)
  have b:SzQ (if i=0 then 0 else (fcP p).2*ekP P (i-1)) (1+ekS k P.length):=by
    split
    · exact SzQ.zero.mono (by omega)
    · exact(qzr p.2.2).mul (ih _)
  exact(a.add b).mono (by simp only[List.length_cons,ekS];omega)
theorem qwH {P:List AP} {k:Nat} (h:ASz P k) (hl:P.length≤20) {i:Nat} (hi:i≤P.length):SzQ (wtP P i) (30+ekS k P.length) :=
 (qAG (by omega) (by omega)).mul (qzY h i)
def extW (P:List AP) (p:AP) (i:Nat) (j:Nat):Rat :=
 if j<i then wtP P j else if j=i then (if j=P.length+1 then 0 else (p.2.1*wtP P j)*(((P.length+1-j:Nat):Rat)/((P.length+1+1:Nat):Rat))) else wtP (P++[p]) j
theorem qss {P:List AP} {p:AP} {j:Nat} (hj:j≤P.length+1):wtP (P++[p]) j =
  (if j=P.length+1 then 0 else (p.2.1*wtP P j)*(((P.length+1-j:Nat):Rat)/((P.length+1+1:Nat):Rat))) +
  (if j=0 then 0 else one0 p.2.2*(wtP P (j-1)*(((j-1+1:Nat):Rat)/((P.length+1+1:Nat):Rat)))):=by
 unfold wtP
 rw[qBy,mulF,List.length_append,List.length_singleton]
 show wq j (P.length+1+1)*(p.2.1*ekP P j+_)=_
 have a:(if j=P.length+1 then (0:Rat) else (p.2.1*(wq j (P.length+1)*ekP P j))*(((P.length+1-j:Nat):Rat)/((P.length+1+1:Nat):Rat)))=wq j (P.length+1+1)*(p.2.1*ekP P j):=by
  split
  · rw[qzZ P (by omega),Rat.mul_zero,Rat.mul_zero]
  · rw[qst (i:=j) (n:=P.length+1) (by omega)];grind
 have b:(if j=0 then (0:Rat) else one0 p.2.2*(wq (j-1) (P.length+1)*ekP P (j-1)*(((j-1+1:Nat):Rat)/((P.length+1+1:Nat):Rat))))=wq j (P.length+1+1)*(if j=0 then 0 else (fcP p).2*ekP P (j-1)):=by
  split
  · rw[Rat.mul_zero]
  · have := qyG (i := j - 1) (n := P.length + 1) (by omega)
    rw[show j-1+1=j by omega] at this
    rw[this,show j-1+1=j by omega]
    show one0 p.2.2*_=_*(one0 p.2.2*_)
    grind
 rw[a,b];grind
theorem qvu {P:List AP} {k g:Nat} (h:qfc P k g) {f:Nat} {q:Rat} {ok:Bool} (hf:∀ p∈P,p.1≠f) (hq:SzQ q k) (hq0:0<q) (hk:k≤70) (hl:P.length<20) (hfl:f<1000000) :
  qaM (f:Int) (canQ q) ok (encK P (wtP P))=some (0,encK (P++[(f,q,ok)]) (wtP (P++[(f,q,ok)]))):=by
 obtain⟨p,ep⟩:∃ p:AP,p=(f,q,ok):=⟨_,rfl⟩
 have hl2:=h.len
 have el:=qds P (wtP P)
 have hS:=qu5 (k:=k) (n:=P.length) hk (by omega)
 have wsz:∀ i,i≤P.length→SzQ (wtP P i) 100000000:=fun i hi=>(qwH h.sz hl2 hi).mono (by omega)
 obtain⟨N,eN⟩:∃ N,N=P.length+1:=⟨_,rfl⟩
 have hsnoc:=qzX P (wtP P) p 0
 have e0:encK (P++[p]) (fun j=>if j=P.length+1 then 0 else wtP P j)=encK (P++[p]) (extW P p N):=by
  refine qhv fun j hj=>?_
  simp only[List.length_append,List.length_singleton] at hj
  show(if j=P.length+1 then 0 else wtP P j)=extW P p N j
  unfold extW
  by_cases e:j=P.length+1
  · rw[if_pos e,if_neg (by omega),if_pos (by omega),if_pos e]
  · rw[if_neg e,if_pos (by omega)]
 have ell:∀ w,(encK (P++[p]) w).length=N+1:=fun w=>by rw[qds,List.length_append];simp [eN]
 have pn1:iadd .i64 ((N:Nat):Int) 1=((N+1:Nat):Int):=qa4 (by omega)
 have key:=qfu (step:=qap) (fun m=>((ok,(N:Int),((N:Nat):Int)-1-(m:Int),()),(((canQ q).1.1,(canQ q).1.2,(canQ q).2,()),(encK (P++[p]) (extW P p (N-m)),()),()))) N
  (r:=((),((encK (P++[p]) (extW P p 0),()),()))) (by omega) (by
  intro g m hm
  obtain⟨i,hi⟩:∃ i,N=i+m+1:=⟨N-m-1,by omega⟩
  have ei:((N:Nat):Int)-1-(m:Int)=(i:Int):=by omega
  have ei2:((N:Nat):Int)-1-((m+1:Nat):Int)=(i:Int)-1:=by omega
  have en1:N-m=i+1:=by omega
  have en2:N-(m+1)=i:=by omega
  have hiN:i<N:=by omega
  have d0:((i:Nat):Int)≥0:=by omega
  have d1:(0:Int)≤(i:Int):=by omega
  have d2:(i:Int)<((encK (P++[p]) (extW P p (i+1))).length:Int):=by rw[ell];omega
  have g1:=qc9 (P:=P++[p]) (w:=extW P p (i+1)) (i:=i) (by rw[List.length_append];simp;omega)
  have wi:(lkF (P++[p]) (extW P p (i+1)) i).2.2.2=canQ (wtP P i):=by rw[qzB,extW,if_pos (by omega)]
  have hw:=wsz i (by omega)
  have q1:iadd .i64 (i:Int) 1=((i+1:Nat):Int):=qa4 (by omega)
  have q2:isub .i64 (N:Int) (i:Int)=((N-i:Nat):Int):=by rw[qbw (by omega) (by omega)];omega
  have q3:isub .i64 (i:Int) 1=(i:Int)-1:=by rw[qbw (by omega) (by omega)]
  have f1:=qra (a:=i+1) (b:=N+1) (by omega) (by omega)
  have f2:=qra (a:=N-i) (b:=N+1) (by omega) (by omega)
  have s1:=qpc (a:=i+1) (b:=N+1) (by omega) (by omega)
  have s2:=qpc (a:=N-i) (b:=N+1) (by omega) (by omega)
  have m1:=qan (hq.sm (by omega)) (hw.sm (by decide))
  rw[qae,qae] at m1
  have m1:qah (((canQ q).1.1,(canQ q).1.2),(canQ q).2) (canQ (wtP P i))=some (canQ (q*wtP P i)):=m1
  have z1:SzQ (q*wtP P i) 200000000:=(hq.mul hw).mono (by omega)
  have m2:=qan (z1.sm (by decide)) (s2.sm (by decide))
  rw[qae,qae] at m2
  have fin0:extW P p i i=q*wtP P i*(((N-i:Nat):Rat)/((N+1:Nat):Rat)):=by
    rw[extW,if_neg (by omega),if_pos rfl,if_neg (by omega),ep,eN]
  show qap g ((ok,(N:Int),((N:Nat):Int)-1-(m:Int),()),(((canQ q).1.1,(canQ q).1.2,(canQ q).2,()),(encK (P++[p]) (extW P p (N-m)),()),()))=g ((ok,(N:Int),((N:Nat):Int)-1-((m+1:Nat):Int),()),(((canQ q).1.1,(canQ q).1.2,(canQ q).2,()),(encK (P++[p]) (extW P p (N-(m+1))),()),()))
  rw[ei,ei2,en1,en2,qap,cnd d0,cnd2 d1 d2,tN0,g1,bS0,wi]
  cases hok:ok with
  | true =>
    have a1:(0:Int)≤((i+1:Nat):Int):=by omega
    have a2:((i+1:Nat):Int)<((encK (P++[p]) (extW P p (i+1))).length:Int):=by rw[ell];omega
    have g2:=qc9 (P:=P++[p]) (w:=extW P p (i+1)) (i:=i+1) (by rw[List.length_append];simp;omega)
    have m3:=qan (hw.sm (by decide)) (s1.sm (by decide))
    rw[qae,qae] at m3
    have z3:SzQ (wtP P i*(((i+1:Nat):Rat)/((N+1:Nat):Rat))) 200000000:=(hw.mul s1).mono (by omega)
    have z4:SzQ (extW P p (i+1) (i+1)) 400000000:=by
     rw[extW,if_neg (by omega),if_pos rfl]
     split
     · exact SzQ.zero.mono (by decide)
     · have hw' := wsz (i + 1) (by omega)
       have s3:=qpc (a:=P.length+1-(i+1)) (b:=P.length+1+1) (by omega) (by omega)
       rw[ep]
       exact((hq.mul hw').mul s3).mono (by omega)
    have m4:=qce (z4.sm (by decide)) (z3.sm (by decide))
    rw[qae,qae] at m4
    have fin1:extW P p (i+1) (i+1)+wtP P i*(((i+1:Nat):Rat)/((N+1:Nat):Rat))=extW P p i (i+1):=by
     have hs:=qss (P:=P) (p:=p) (j:=i+1) (by omega)
     rw[if_neg (show ¬ i+1=0 by omega),Nat.add_sub_cancel,show one0 p.2.2=1 by rw[ep,hok];rfl,Rat.one_mul] at hs
     have e1:extW P p i (i+1)=wtP (P++[p]) (i+1):=by rw[extW,if_neg (by omega),if_neg (by omega)]
     have e2:extW P p (i+1) (i+1)=if i+1=P.length+1 then 0 else (p.2.1*wtP P (i+1))*(((P.length+1-(i+1):Nat):Rat)/((P.length+1+1:Nat):Rat)):=by rw[extW,if_neg (by omega),if_pos rfl]
     rw[e1,e2,hs,eN]
    have u1:=qqb (P:=P++[p]) (w:=extW P p (i+1)) (i:=i+1) (extW P p i (i+1))
    have d3:(i:Int)<(((encK (P++[p]) (fun j=>if j=i+1 then extW P p i (i+1) else extW P p (i+1) j))).length:Int):=by rw[ell];omega
    have g3:=qc9 (P:=P++[p]) (w:=fun j=>if j=i+1 then extW P p i (i+1) else extW P p (i+1) j) (i:=i) (by rw[List.length_append];simp;omega)
    have u2:=qqb (P:=P++[p]) (w:=fun j=>if j=i+1 then extW P p i (i+1) else extW P p (i+1) j) (i:=i) (extW P p i i)
    rw[cond_true,q1,cnd2 a1 a2,tN0,g2,bS0,pn1,f1,bS0,m3,bS0,qzB,m4,bS0,fin1,cnd2 a1 a2,bS0,m1,bS0,q2,f2,bS0,m2,bS0,u1,cnd2 d1 d3,g3,bS0,← fin0,u2,q3]
    have:encK (P++[p]) (fun j=>if j=i then extW P p i i else if j=i+1 then extW P p i (i+1) else extW P p (i+1) j)=encK (P++[p]) (extW P p i):=by
     refine qhv fun j hj=>?_
     by_cases e1:j=i
     · rw[if_pos e1,e1]
     · rw [if_neg e1]
       by_cases e2:j=i+1
       · rw[if_pos e2,e2]
       · rw [if_neg e2]
         unfold extW
         by_cases e3:j<i
         · rw[if_pos (by omega),if_pos e3]
         · rw[if_neg (by omega),if_neg (by omega),if_neg (by omega),if_neg (by omega)]
    rw[this]
  | false =>
    have u2:=qqb (P:=P++[p]) (w:=extW P p (i+1)) (i:=i) (extW P p i i)
    rw[cond_false,m1,bS0,q2,pn1,f2,bS0,m2,bS0,cnd2 d1 d2,bS0,← fin0,u2,q3]
    have:encK (P++[p]) (fun j=>if j=i then extW P p i i else extW P p (i+1) j)=encK (P++[p]) (extW P p i):=by
     refine qhv fun j hj=>?_
     simp only[List.length_append,List.length_singleton] at hj
     by_cases e1:j=i
     · rw[if_pos e1,e1]
     · rw [if_neg e1]
       unfold extW
       by_cases e3:j<i
       · rw[if_pos (by omega),if_pos e3]
       · by_cases e2 : j = i + 1
         · subst e2
           have hs:=qss (P:=P) (p:=p) (j:=i+1) (by omega)
           rw[show one0 p.2.2=0 by rw[ep,hok];rfl,Rat.zero_mul,if_neg (show ¬ i+1=0 by omega),Rat.add_zero] at hs
           rw[if_neg (show ¬ i+1<i+1 by omega),if_pos rfl,if_neg (show ¬ i+1<i by omega),if_neg (show ¬ i+1=i by omega),hs]
         · rw[if_neg (by omega),if_neg e2,if_neg (by omega),if_neg (by omega)]
    rw[this]) (by
  intro g
  rw[Nat.sub_self,qap,cnd' (by omega)])
 have efin:encK (P++[p]) (extW P p 0)=encK (P++[p]) (wtP (P++[p])):=by
  refine qhv fun j hj=>?_
  unfold extW
  rw[if_neg (by omega)]
  by_cases e:j=0
  · subst e
    have hs:=qss (P:=P) (p:=p) (j:=0) (by omega)
    rw[if_pos rfl,Rat.add_zero] at hs
    rw[if_pos rfl,hs]
  · rw[if_neg e]
 rw[efin] at key
 have qn:isub .i64 ((P.length+1:Nat):Int) 1=((N:Nat):Int)-1-((0:Nat):Int):=by rw[qbw (by omega) (by omega)];omega
 have c0:¬ ((P.length+1:Nat):Int)=0:=by omega
 have hsg:rcmp q 0>0:=qwX.2 hq0
 have hsign:=qko (hq.sm (by omega))
 rw[qae] at hsign
 have hcl:=qaQ (hq.sm (by omega))
 rw[qae] at hcl
 rw[qaM,el,cnd' c0,cnd' (by omega),qxz hf (by omega),bS0]
 dsimp only
 rw[cnd' (by omega),hsign,bS0,cnd' (by omega),hcl,bS0,qea,bS0,blt (by rw[el];omega),cond_true]
 have e1:encK P (wtP P)++[((f:Int),(canQ q,(ok,canQ 0)))]=encK (P++[p]) (extW P p N):=by
  rw[← e0,← hsnoc,ep]
 rw[e1,el,qn]
 have key:lp qap K0 ((ok,((P.length+1:Nat):Int),((N:Nat):Int)-1-((0:Nat):Int),()),(((canQ q).1.1,(canQ q).1.2,(canQ q).2,()),(encK (P++[p]) (extW P p N),()),()))=some ((),(encK (P++[p]) (wtP (P++[p])),()),()):=by
  rw[← eN];exact key
 rw[key,ep];rfl
def qa1 (P:List AP) (a:Nat):List AP:=P.take a++P.drop (a+1)
theorem qdp {P:List AP} {a:Nat} (h:a<P.length):(qa1 P a).length+1=P.length:=by simp [qa1];omega
theorem qjZ {P:List AP} {a:Nat} (h:a<P.length):P.Perm (P[a]::qa1 P a):=by
 have e:P=P.take a++P[a]::P.drop (a+1):=by rw[← List.drop_eq_getElem_cons h,List.take_append_drop]
 have:(P.take a++P[a]::P.drop (a+1)).Perm (P[a]::(P.take a++P.drop (a+1))):=List.perm_middle
 exact(List.Perm.of_eq e).trans this
theorem qqQ {P:List AP} {a:Nat}:∀ p∈qa1 P a,p∈P:=fun p hp=>by
 rcases List.mem_append.1 hp with h | h
 · exact List.mem_of_mem_take h
 · exact List.mem_of_mem_drop h
theorem qto {P:List AP} {a:Nat} (h:a<P.length) (k:Nat):ekP P k=P[a].2.1*ekP (qa1 P a) k+(if k=0 then 0 else one0 P[a].2.2*ekP (qa1 P a) (k-1)):=by
 rw[qxm (qjZ h)];rfl
theorem qfc.out {P:List AP} {k g:Nat} (h:qfc P k g) {a:Nat} (ha:a<P.length):qfc (qa1 P a) k g:=by
 have hp:=(qjZ ha).map (·.1)
 have hn:=hp.nodup_iff.1 h.nd
 exact⟨(List.nodup_cons.1 hn).2,fun p hp=>h.sz p (qqQ p hp),by have:=qdp ha;have:=h.len;omega,fun p hp=>h.lt p (qqQ p hp),fun p hp=>h.pos p (qqQ p hp)⟩
theorem qfc.notin {P:List AP} {k g:Nat} (h:qfc P k g) {a:Nat} (ha:a<P.length):∀ p∈qa1 P a,p.1≠P[a].1:=by
 have hp:=(qjZ ha).map (·.1)
 have hn:=List.nodup_cons.1 (hp.nodup_iff.1 h.nd)
 intro p hp e
 exact hn.1 (List.mem_map.2 ⟨p,hp,e⟩)
theorem qDV {P:List AP} {a i:Nat} (ha:a<P.length) (hi:i<P.length) (hz:P[a].2.1≠0) (hok:P[a].2.2=false) :
  wtP P i*(((P.length+1:Nat):Rat)/((P.length-i:Nat):Rat))*P[a].2.1⁻¹=wtP (qa1 P a) i:=by
 have hl:=qdp ha
 unfold wtP
 rw[qto ha,hok,qst (i:=i) (n:=P.length) hi,show(qa1 P a).length+1=P.length by omega]
 have n1:=qoZ (show 0<P.length-i by omega)
 have n2:=qoZ (show 0<P.length+1 by omega)
 generalize wq i P.length=x
 generalize ekP (qa1 P a) i=y
 generalize ekP (qa1 P a) (i-1)=y2
 generalize ((P.length-i:Nat):Rat)=u at *
 generalize ((P.length+1:Nat):Rat)=v at *
 generalize P[a].2.1=z at *
 simp only[one0,Bool.false_eq_true,if_false,Rat.zero_mul,ite_self,Rat.add_zero]
 grind
def nxP (P:List AP) (a i:Nat):Rat:=wq (i+1) (P.length+1)*ekP (qa1 P a) i
theorem qC8 {P:List AP} {a i:Nat} (ha:a<P.length) (hi:i<P.length):nxP P a i*(((P.length+1:Nat):Rat)/((i+1:Nat):Rat))=wtP (qa1 P a) i:=by
 have hl:=qdp ha
 unfold wtP nxP
 rw[qyG (i:=i) (n:=P.length) hi,show(qa1 P a).length+1=P.length by omega]
 have n1:=qoZ (show 0<i+1 by omega)
 have n2:=qoZ (show 0<P.length+1 by omega)
 generalize wq i P.length=x
 generalize ekP (qa1 P a) i=y
 generalize ((i+1:Nat):Rat)=u at *
 generalize ((P.length+1:Nat):Rat)=v at *
 grind
theorem qA8 {P:List AP} {a i:Nat} (ha:a<P.length) (hi:i<P.length) (hok:P[a].2.2=true) :
  wtP P i-wtP (qa1 P a) i*P[a].2.1*(((P.length-i:Nat):Rat)/((P.length+1:Nat):Rat))=if i=0 then 0 else nxP P a (i-1):=by
 have hl:=qdp ha
 unfold wtP nxP
 rw[qto ha,hok,qst (i:=i) (n:=P.length) hi,show(qa1 P a).length+1=P.length by omega]
 cases i with
 | zero =>
  simp only[if_true]
  generalize wq 0 P.length=x
  generalize ekP (qa1 P a) 0=y
  generalize P[a].2.1=z at *
  grind
 | succ i =>
  rw[if_neg (by omega),if_neg (by omega),Nat.add_sub_cancel,qst (i:=i+1) (n:=P.length) hi]
  generalize wq (i+1) P.length=x
  generalize ekP (qa1 P a) (i+1)=y
  generalize ekP (qa1 P a) i=y2
  generalize P[a].2.1=z at *
  simp only[one0,if_true]
  grind
theorem qC7 {P:List AP} {a:Nat} (ha:a<P.length) (hok:P[a].2.2=true):wtP P P.length=nxP P a (P.length-1):=by
 have hl:=qdp ha
 unfold wtP nxP
 rw[qto ha,hok,qzZ (qa1 P a) (by omega),if_neg (by omega),show P.length-1+1=P.length by omega]
 simp only[one0,if_true]
 grind
theorem qEj {P:List AP} {k g a:Nat} (h:qfc P k g) (ha:a<P.length) (hk:k≤70) {i:Nat} (hi:i<P.length):SzQ (nxP P a i) 100000000:=by
 have hl:=qdp ha
 have h2:=h.out ha
 have hS:=qu5 (k:=k) (n:=(qa1 P a).length) hk h2.len
 have:=h.len
 exact((qAG (s:=i+1) (n:=P.length+1) (by omega) (by omega)).mul (qzY h2.sz i)).mono (by omega)
def bkL (n i:Nat) (w:Nat→Rat):List RAT:=(List.range n).map fun j=>if i≤j then canQ (w j) else zR
theorem qmn (n i:Nat) (w:Nat→Rat):(bkL n i w).length=n:=by simp [bkL]
theorem qrp {n i j:Nat} (w:Nat→Rat) (h:j<n):(bkL n i w)[j]?=some (if i≤j then canQ (w j) else zR):=by simp [bkL,h]
theorem qDE {n i:Nat} (w:Nat→Rat):(bkL n (i+1) w).set i (canQ (w i))=bkL n i w:=by
 refine List.ext_getElem? fun j=>?_
 rw[List.getElem?_set]
 by_cases e:i=j
 · subst e
   by_cases hi:i<n
   · rw[if_pos rfl,if_pos (by rw[qmn];exact hi),qrp w hi,if_pos (Nat.le_refl _)]
   · rw[if_pos rfl,if_neg (by rw[qmn];exact hi),List.getElem?_eq_none (by rw[qmn];omega)]
 · rw [if_neg e]
   by_cases hj:j<n
   · rw [qrp w hj, qrp w hj]
     by_cases h:i≤j
     · rw[if_pos (by omega),if_pos h]
     · rw[if_neg (by omega),if_neg h]
   · rw[List.getElem?_eq_none (by rw[qmn];omega),List.getElem?_eq_none (by rw[qmn];omega)]
theorem qBL (n:Nat) (w:Nat→Rat):bkL n n w=List.replicate n zR:=by
 rw[List.eq_replicate_iff]
 refine⟨qmn _ _ _,fun x hx=>?_⟩
 obtain⟨j,hj,rfl⟩:=List.mem_map.1 hx
 have:=List.mem_range.1 hj
 exact if_neg (by omega)
theorem qDF (n:Nat) (w:Nat→Rat):bkL n 0 w=flo n w:=List.map_congr_left fun j _=>if_pos (Nat.zero_le _)
theorem qrY {P:List AP} {k g:Nat} (h:qfc P k g) (hk:k≤70) {a:Nat} (ha:a<P.length) :
  qbG ((a+1:Nat):Int) (encK P (wtP P))=some (flo P.length (wtP (qa1 P a)),encK P (wtP P)):=by
 have hl:=qdp ha
 have hl2:=h.len
 have el:=qds P (wtP P)
 obtain⟨n,en⟩:∃ n,n=P.length:=⟨_,rfl⟩
 have hS:=qu5 (k:=k) (n:=P.length) hk (by omega)
 have wsz:∀ i,i≤P.length→SzQ (wtP P i) 100000000:=fun i hi=>(qwH h.sz hl2 hi).mono (by omega)
 have hQ:=h.out ha
 have hS2:=qu5 (k:=k) (n:=(qa1 P a).length) hk hQ.len
 have qsz:∀ i,i<P.length→SzQ (wtP (qa1 P a) i) 100000000:=fun i hi=>(qwH hQ.sz hQ.len (by omega)).mono (by omega)
 have hz:SzQ P[a].2.1 k:=h.sz _ (gM0 ha)
 have hpos:=h.pos _ (gM0 ha)
 have hz0:P[a].2.1≠0:=by intro e;rw[e] at hpos;exact absurd hpos (by decide)
 obtain⟨L,eL⟩:∃ L,L=lkF P (wtP P) (a+1):=⟨_,rfl⟩
 have eL':=eL
 rw[qom ha] at eL'
 have L1:L.2.1=canQ P[a].2.1:=by rw[eL']
 have L2:L.2.2.1=P[a].2.2:=by rw[eL']
 obtain⟨nx,hnx⟩:∃ nx:Nat→Rat,nx=fun m=>if P[a].2.2 then (if m<n then nxP P a (n-1-m) else 0) else wtP P n:=⟨_,rfl⟩
 obtain⟨ov,hov⟩:∃ ov:Rat,ov=P[a].2.1⁻¹:=⟨_,rfl⟩
 have pn1:iadd .i64 ((n:Nat):Int) 1=((n+1:Nat):Int):=qa4 (by omega)
 have key:=qfu (step:=qao) (fun m=>(((n:Int),bkL n (n-m) (wtP (qa1 P a)),((n:Nat):Int)-1-(m:Int),()),((L.1,L.2.1.1.1,L.2.1.1.2,L.2.1.2,L.2.2.1,L.2.2.2.1.1,L.2.2.2.1.2,L.2.2.2.2,()),((canQ ov).1.1,(canQ ov).1.2,(canQ ov).2,()),((canQ (nx m)).1.1,(canQ (nx m)).1.2,(canQ (nx m)).2,()),(encK P (wtP P),()),()))) n
  (r:=((bkL n 0 (wtP (qa1 P a)),()),((encK P (wtP P),()),()))) (by omega) (by
  intro g m hm
  obtain⟨i,hi⟩:∃ i,n=i+m+1:=⟨n-m-1,by omega⟩
  have ei:((n:Nat):Int)-1-(m:Int)=(i:Int):=by omega
  have ei2:((n:Nat):Int)-1-((m+1:Nat):Int)=(i:Int)-1:=by omega
  have en1:n-m=i+1:=by omega
  have en2:n-(m+1)=i:=by omega
  have d0:((i:Nat):Int)≥0:=by omega
  have d1:(0:Int)≤(i:Int):=by omega
  have d2:(i:Int)<((encK P (wtP P)).length:Int):=by rw[el];omega
  have d3:(i:Int)<((bkL n (i+1) (wtP (qa1 P a))).length:Int):=by rw[qmn];omega
  have g1:=qc9 (P:=P) (w:=wtP P) (i:=i) (by omega)
  have g2:=qrp (n:=n) (i:=i+1) (j:=i) (wtP (qa1 P a)) (by omega)
  have q2:isub .i64 (n:Int) (i:Int)=((n-i:Nat):Int):=by rw[qbw (by omega) (by omega)];omega
  have q3:isub .i64 (i:Int) 1=(i:Int)-1:=by rw[qbw (by omega) (by omega)]
  have q1:iadd .i64 (i:Int) 1=((i+1:Nat):Int):=qa4 (by omega)
  have hset:=qDE (n:=n) (i:=i) (wtP (qa1 P a))
  show qao g (((n:Int),bkL n (n-m) (wtP (qa1 P a)),((n:Nat):Int)-1-(m:Int),()),((L.1,L.2.1.1.1,L.2.1.1.2,L.2.1.2,L.2.2.1,L.2.2.2.1.1,L.2.2.2.1.2,L.2.2.2.2,()),((canQ ov).1.1,(canQ ov).1.2,(canQ ov).2,()),((canQ (nx m)).1.1,(canQ (nx m)).1.2,(canQ (nx m)).2,()),(encK P (wtP P),()),()))=g (((n:Int),bkL n (n-(m+1)) (wtP (qa1 P a)),((n:Nat):Int)-1-((m+1:Nat):Int),()),((L.1,L.2.1.1.1,L.2.1.1.2,L.2.1.2,L.2.2.1,L.2.2.2.1.1,L.2.2.2.1.2,L.2.2.2.2,()),((canQ ov).1.1,(canQ ov).1.2,(canQ ov).2,()),((canQ (nx (m+1))).1.1,(canQ (nx (m+1))).1.2,(canQ (nx (m+1))).2,()),(encK P (wtP P),()),()))
  rw[ei,ei2,en1,en2,qao,cnd d0,L2]
  cases hok:P[a].2.2 with
  | false =>
   have f1:=qra (a:=n+1) (b:=n-i) (by omega) (by omega)
   have s1:=qpc (a:=n+1) (b:=n-i) (by omega) (by omega)
   have hw:=wsz i (by omega)
   have m1:=qan (hw.sm (by decide)) (s1.sm (by decide))
   rw[qae,qae] at m1
   have z1:SzQ (wtP P i*(((n+1:Nat):Rat)/((n-i:Nat):Rat))) 200000000:=(hw.mul s1).mono (by omega)
   have hi2:SzQ ov k:=by rw[hov];exact hz.inv
   have m2:=qan (z1.sm (by decide)) (hi2.sm (by omega))
   rw[qae,qae] at m2
   have m2:qah (canQ (wtP P i*(((n+1:Nat):Rat)/((n-i:Nat):Rat)))) (((canQ ov).1.1,(canQ ov).1.2),(canQ ov).2)=_:=m2
   have e1:=qDV ha (i:=i) (by omega) hz0 hok
   rw[← en,← hov] at e1
   have e2:nx (m+1)=nx m:=by rw[hnx];simp only[hok,Bool.false_eq_true,if_false]
   rw[Bool.not_false,cond_true,cnd2 d1 d2,tN0,g1,bS0,pn1,q2,f1,bS0,qzB,m1,bS0,m2,bS0,cnd2 d1 d3,g2,bS0,e1,hset,q3,e2]
  | true =>
   have f1:=qra (a:=n+1) (b:=i+1) (by omega) (by omega)
   have s1:=qpc (a:=n+1) (b:=i+1) (by omega) (by omega)
   have enx:nx m=nxP P a i:=by rw[hnx];simp only[hok,if_true];rw[if_pos hm,show n-1-m=i by omega]
   have nsz:=qEj h ha hk (i:=i) (by omega)
   have m1:=qan (nsz.sm (by decide)) (s1.sm (by decide))
   rw[qae,qae] at m1
   have e1:=qC8 ha (i:=i) (by omega)
   rw[← en] at e1
   rw[e1] at m1
   have m1:qah (((canQ (nxP P a i)).1.1,(canQ (nxP P a i)).1.2),(canQ (nxP P a i)).2) (canQ (((n+1:Nat):Rat)/((i+1:Nat):Rat)))=some (canQ (wtP (qa1 P a) i)):=m1
   have d4:(i:Int)<((bkL n i (wtP (qa1 P a))).length:Int):=by rw[qmn];omega
   have g3:=qrp (n:=n) (i:=i) (j:=i) (wtP (qa1 P a)) (by omega)
   rw[if_pos (Nat.le_refl _)] at g3
   have hq:=qsz i (by omega)
   have m2:=qan (hq.sm (by decide)) (hz.sm (by omega))
   rw[qae,qae] at m2
   have m2:qah (canQ (wtP (qa1 P a) i)) ((L.2.1.1.1,L.2.1.1.2),L.2.1.2)=some (canQ (wtP (qa1 P a) i*P[a].2.1)):=by
    show qah _ L.2.1=_
    rw[L1];exact m2
   have f2:=qra (a:=n-i) (b:=n+1) (by omega) (by omega)
   have s2:=qpc (a:=n-i) (b:=n+1) (by omega) (by omega)
   have z2:SzQ (wtP (qa1 P a) i*P[a].2.1) 200000000:=(hq.mul hz).mono (by omega)
   have m3:=qan (z2.sm (by decide)) (s2.sm (by decide))
   rw[qae,qae] at m3
   have z3:SzQ (wtP (qa1 P a) i*P[a].2.1*(((n-i:Nat):Rat)/((n+1:Nat):Rat))) 300000000:=(z2.mul s2).mono (by omega)
   have hw:=wsz i (by omega)
   have m4:=qpv (hw.sm (by decide)) (z3.sm (by decide))
   rw[qae,qae] at m4
   have e2:=qA8 ha (i:=i) (by omega) hok
   rw[← en] at e2
   rw[e2] at m4
   have e3:nx (m+1)=if i=0 then 0 else nxP P a (i-1):=by
    rw[hnx];simp only[hok,if_true]
    by_cases h0:i=0
    · rw[if_neg (by omega),if_pos h0]
    · rw[if_pos (by omega),if_neg h0,show n-1-(m+1)=i-1 by omega]
   rw[Bool.not_true,cond_false,pn1,q1,f1,bS0,enx,m1,bS0,cnd2 d1 d3,tN0,g2,bS0,cnd2 d1 d2,g1,bS0,hset,cnd2 d1 d4,g3,bS0,m2,bS0,q2,f2,bS0,m3,bS0,qzB,m4,bS0,q3,e3]) (by
  intro g
  rw[Nat.sub_self,qao,cnd' (by omega)])
 have i1:isub .i64 ((P.length+1:Nat):Int) 1=(n:Int):=by rw[qbw (by omega) (by omega)];omega
 have i2:isub .i64 (n:Int) 1=((n:Nat):Int)-1-((0:Nat):Int):=by rw[qbw (by omega) (by omega)];omega
 have c0:(0:Int)≤((a+1:Nat):Int):=by omega
 have c1:((a+1:Nat):Int)<((P.length+1:Nat):Int):=by omega
 have hinv:=qlm (hz.sm (by omega))
 rw[qae,if_neg hz0,← hov] at hinv
 have c2:(decide ((n:Int)=(n:Int))&&decide ((0:Int)≤(n:Int))&&decide ((((56:Nat):Int)*(n:Int))≤281474976710656)&&decide ((n:Int)≤9223372036854775807))=true:=by
  simp only[Bool.and_eq_true,decide_eq_true_eq]
  refine⟨⟨⟨trivial,by omega⟩,?_⟩,by omega⟩
  show(56:Int)*(n:Int)≤281474976710656
  omega
 have ev:nx 0=wtP P n:=by
  rw[hnx]
  cases hok:P[a].2.2 with
  | false=>simp
  | true=>simp only[if_true];rw[if_pos (by omega),en,qC7 ha hok,Nat.sub_zero]
 have gn:=qc9 (P:=P) (w:=wtP P) (i:=n) (by omega)
 rw[qbG,el,cnd2 c0 c1,tN0,qc9 (by omega),bS0,i1,c2,cond_true,← eL,L1,hinv,bS0,cnd2 (by omega) (by omega),tN0,gn,bS0,i2]
 dsimp only
 rw[qzB,← ev]
 have key:lp qao K0 (((n:Int),List.replicate n (((false,[]),[]):RAT),((n:Nat):Int)-1-((0:Nat):Int),()),((L.1,(canQ P[a].2.1).1.1,(canQ P[a].2.1).1.2,(canQ P[a].2.1).2,L.2.2.1,L.2.2.2.1.1,L.2.2.2.1.2,L.2.2.2.2,()),((canQ ov).1.1,(canQ ov).1.2,(canQ ov).2,()),((canQ (nx 0)).1.1,(canQ (nx 0)).1.2,(canQ (nx 0)).2,()),(encK P (wtP P),()),()))=some ((bkL n 0 (wtP (qa1 P a)),()),((encK P (wtP P),()),())):=by
  have k2:=key
  rw[Nat.sub_zero,qBL,L1] at k2
  exact k2
 rw[key,qDF,en];rfl
theorem qzR {n k:Nat} {w:Nat→Rat} (hw:∀ i,i<n→SzQ (w i) k) (hk:1+n*(k+1)<1099511627776) (hn:n<1000000):qjL (flo n w)=some (canQ (rsum w n)):=by
 have hv:∀ i,i<n→vals (flo n w) i=w i:=fun i hi=>by
  rw[vals,qe4 w hi]
  show rv (canQ (w i))=w i
  exact qae _
 have h:=qt0 (l:=flo n w) (k:=k) (fun x hx=>by
  obtain⟨i,hi,rfl⟩:=List.mem_map.1 hx
  have hi:=List.mem_range.1 hi
  refine(hw i hi).sm ?_
  have:1*(k+1)≤n*(k+1):=Nat.mul_le_mul_right _ (by omega)
  omega) (fun i hi=>by rw[qaB] at hi;rw[hv i hi];exact hw i hi) (by rw[qaB];exact hk) (by rw[qaB];omega)
 rw[h,qaB]
 congr 2
 exact qex fun i hi=>hv i hi
def sumP (P:List AP) (a:Nat):Rat:=rsum (wtP (qa1 P a)) P.length
theorem qzl {P:List AP} {k g:Nat} (h:qfc P k g) (hk:k≤70) {a:Nat} (ha:a<P.length):∀ i,i<P.length→SzQ (wtP (qa1 P a) i) (30+ekS k (qa1 P a).length):=fun i hi=>by
 have:=qdp ha
 exact qwH (h.out ha).sz (h.out ha).len (by omega)
theorem qBS {P:List AP} {k g:Nat} (h:qfc P k g) (hk:k≤70) {a:Nat} (ha:a<P.length) :
  qdW ((a+1:Nat):Int) (encK P (wtP P))=some (canQ (sumP P a),0,encK P (wtP P)):=by
 have el:=qds P (wtP P)
 have hl2:=h.len
 have hS2:=qu5 (k:=k) (n:=(qa1 P a).length) hk (h.out ha).len
 have hs:=qzR (n:=P.length) (w:=wtP (qa1 P a)) (k:=100000000) (fun i hi=>(qzl h hk ha i hi).mono (by omega)) (by omega) (by omega)
 rw[qdW,el,cnd' (by omega),cnd' (by omega),cnd' (by omega),qrY h hk ha,bS0]
 dsimp only
 rw[hs];rfl
theorem qBx {P:List AP} {w:Nat→Rat} {a:Nat} (ha:a<P.length):(encK P w).take (a+1)++(encK P w).drop (a+2)=encK (qa1 P a) fun j=>if j≤a then w j else w (j+1):=by
 have el:=qds P w
 have hl:=qdp ha
 have ho:∀ j,(qa1 P a)[j]?=if j<a then P[j]? else P[j+1]?:=fun j=>by
   unfold qa1
   by_cases hj:j<a
   · rw[if_pos hj,List.getElem?_append_left (by rw[List.length_take];omega),List.getElem?_take,if_pos hj]
   · rw [if_neg hj, List.getElem?_append_right (by rw [List.length_take]; omega), List.length_take, Nat.min_eq_left (by omega), List.getElem?_drop]
     congr 1;omega
 refine List.ext_getElem? fun j=>?_
 by_cases hj:j<a+1
 · rw [List.getElem?_append_left (by rw [List.length_take]; omega), List.getElem?_take, if_pos hj, qc9 (by omega), qc9 (by omega)]
   unfold lkF
   split
   · rename_i e;subst e;simp
   · have e1 : (qa1 P a)[j - 1]? = P[j - 1]? := by rw [ho, if_pos (by omega)]
     have e2:(if j≤a then w j else w (j+1))=w j:=if_pos (by omega)
     simp only[e1,e2]
 · rw [List.getElem?_append_right (by rw [List.length_take]; omega), List.length_take, Nat.min_eq_left (by omega), List.getElem?_drop, show a + 2 + (j - (a + 1)) = j + 1 by omega]
   by_cases hj2:j+1<P.length+1
   · rw [qc9 hj2, qc9 (by omega)]
     unfold lkF
     have e1:(qa1 P a)[j-1]?=P[j]?:=by rw[ho,if_neg (by omega)];congr 1;omega
     have e2:(if j≤a then w j else w (j+1))=w (j+1):=if_neg (by omega)
     rw[if_neg (by omega),if_neg (by omega)]
     simp only[e1,e2,Nat.add_sub_cancel]
   · rw[List.getElem?_eq_none (by omega),List.getElem?_eq_none (by rw[qds];omega)]
theorem qAt {P:List AP} {k g:Nat} (h:qfc P k g) (hk:k≤70) {a:Nat} (ha:a<P.length) :
  qb9 ((a+1:Nat):Int) (encK P (wtP P))=some (0,encK (qa1 P a) (wtP (qa1 P a))):=by
 have el:=qds P (wtP P)
 have hl2:=h.len
 have hl:=qdp ha
 obtain⟨Q,eQ⟩:∃ Q,Q=qa1 P a:=⟨_,rfl⟩
 have eo:=qBx (w:=wtP P) ha
 rw[← eQ] at eo hl
 obtain⟨w0,hw0⟩:∃ w0:Nat→Rat,w0=fun j=>if j≤a then wtP P j else wtP P (j+1):=⟨_,rfl⟩
 rw[← hw0] at eo
 obtain⟨F,eF⟩:∃ F,F=flo P.length (wtP Q):=⟨_,rfl⟩
 have lF:F.length=P.length:=by rw[eF,qaB]
 have lQ:∀ w,(encK Q w).length=P.length:=fun w=>by rw[qds];exact hl
 have key:=qfu (step:=qau) (fun i=>((F,encK Q (fun j=>if j<i then wtP Q j else w0 j),((P.length:Nat):Int),(i:Int),()),((encK P (wtP P),()),()))) P.length
  (r:=((encK Q (fun j=>if j<P.length then wtP Q j else w0 j),()),((encK P (wtP P),()),()))) (by omega) (by
  intro gg i hi
  have d0:(i:Int)<((P.length:Nat):Int):=by omega
  have d1:(0:Int)≤(i:Int):=by omega
  have d2:(i:Int)<(F.length:Int):=by rw[lF];exact d0
  have d3:(i:Int)<((encK Q (fun j=>if j<i then wtP Q j else w0 j)).length:Int):=by rw[lQ];exact d0
  have g1:F[i]?=some (canQ (wtP Q i)):=by rw[eF];exact qe4 _ hi
  have g2:=qc9 (P:=Q) (w:=fun j=>if j<i then wtP Q j else w0 j) (i:=i) (by omega)
  have u:=qqb (P:=Q) (w:=fun j=>if j<i then wtP Q j else w0 j) (i:=i) (wtP Q i)
  have e:encK Q (fun j=>if j=i then wtP Q i else if j<i then wtP Q j else w0 j)=encK Q (fun j=>if j<i+1 then wtP Q j else w0 j):=by
   refine qhv fun j _=>?_
   by_cases e1:j=i
   · rw[if_pos e1,if_pos (by omega),e1]
   · rw [if_neg e1]
     by_cases e2:j<i
     · rw[if_pos e2,if_pos (by omega)]
     · rw[if_neg e2,if_neg (by omega)]
  rw[qau,cnd d0,cnd2 d1 d2,tN0,g1,bS0,cnd2 d1 d3,g2,bS0,u,e,qa4 (by omega)]
  rfl) (by
  intro gg
  rw[qau,cnd' (by omega)])
 have e0:encK Q (fun j=>if j<0 then wtP Q j else w0 j)=encK Q w0:=qhv fun j _=>if_neg (by omega)
 have e1:encK Q (fun j=>if j<P.length then wtP Q j else w0 j)=encK Q (wtP Q):=qhv fun j hj=>if_pos (by omega)
 rw[e0,e1] at key
 have key:lp qau K0 ((F,encK Q w0,((P.length:Nat):Int),0,()),((encK P (wtP P),()),()))=some ((encK Q (wtP Q),()),((encK P (wtP P),()),())):=key
 have i1:iadd .i64 ((a+1:Nat):Int) 1=((a+2:Nat):Int):=qa4 (by omega)
 have hw:=qrY h hk ha
 rw[← eQ,← eF] at hw
 have t1:(((a+1:Nat):Int)-0).toNat=a+1:=by omega
 have t2:(((a+2:Nat):Int)).toNat=a+2:=by omega
 have c1:(decide ((0:Int)≤((a+1:Nat):Int))&&decide ((((a+1:Nat):Int):Int)≤((a+1:Nat):Int))&&decide ((((a+1:Nat):Int):Int)≤((P.length+1:Nat):Int)))=true:=by
  simp only[Bool.and_eq_true,decide_eq_true_eq];omega
 rw[qb9,el,cnd' (by omega),cnd' (by omega),cnd' (by omega),hw,bS0]
 dsimp only
 rw[el,c1,cond_true,t1,blt (by rw[List.length_take,el];simp;omega),cond_true,i1,cnd2 (by omega) (by omega),t2,List.nil_append,blt (by rw[List.length_take,List.length_drop,el];omega),cond_true,eo,lQ,key,eQ]
 rfl
theorem qAm {f:Nat} {q:Rat} {ok:Bool} {w:List AP} (h:∀ p∈w,p.1≠f):(along f q ok w).Perm ((f,q,ok)::w):=by
 induction w with
 | nil=>exact List.Perm.refl _
 | cons p w ih =>
  have h1:p.1≠f:=h p List.mem_cons_self
  have ih:=ih fun x hx=>h x (List.mem_cons_of_mem _ hx)
  simp only[along]
  split
  · exact(List.Perm.cons _ ih).trans (List.Perm.swap _ _ _)
  · first | exact List.Perm.refl _ | (rw[if_neg h1])
theorem qAl {f:Nat} {q s:Rat} {ok o:Bool} {w:List AP} (hs:qoE w) (hm:(f,s,o)∈w):∃ r:List AP,w.Perm ((f,s,o)::r)∧(along f q ok w).Perm ((f,s*q,o&&ok)::r):=by
 induction w with
 | nil=>cases hm
 | cons p w ih =>
  have hs2:=List.pairwise_cons.1 hs
  rcases List.mem_cons.1 hm with e | hm
  · subst e
    refine⟨w,List.Perm.refl _,?_⟩
    simp only[along]
    simp
  · obtain ⟨r, h1, h2⟩ := ih hs2.2 hm
    have hlt:p.1<f:=hs2.1 _ hm
    refine⟨p::r,(List.Perm.cons _ h1).trans (List.Perm.swap _ _ _),?_⟩
    simp only[along]
    rw[if_pos hlt]
    exact(List.Perm.cons _ h2).trans (List.Perm.swap _ _ _)
theorem qzS {P:List AP} {f:Nat}:(∀ p∈P,p.1≠f)∨∃ a,∃ ha:a<P.length,P[a].1=f∧∀ j (hj:j<P.length),j<a→P[j].1≠f:=by
 induction P with
 | nil=>exact .inl (by simp)
 | cons p P ih =>
  by_cases e:p.1=f
  · exact .inr ⟨0,by simp,e,fun j _ hj=>by omega⟩
  · rcases ih with h | ⟨a, ha, h1, h2⟩
    · exact .inl fun x hx=>by rcases List.mem_cons.1 hx with rfl | hx;exact e;exact h x hx
    · refine .inr ⟨a + 1, by simpa using ha, by simpa using h1, fun j hj hja => ?_⟩
      cases j with
      | zero=>exact e
      | succ j=>simpa using h2 j (by simpa using hj) (by omega)
theorem qfc.mono {P:List AP} {k k' g:Nat} (h:qfc P k g) (hk:k≤k'):qfc P k' g:=⟨h.nd,fun p hp=>(h.sz p hp).mono hk,h.len,h.lt,h.pos⟩
theorem qfc.snoc {P:List AP} {k g:Nat} (h:qfc P k g) {f:Nat} {q:Rat} {ok:Bool} (hf:∀ p∈P,p.1≠f) (hq:SzQ q k) (hq0:0<q) (hl:P.length<20) (hfg:f<g):qfc (P++[(f,q,ok)]) k g:=by
 have hp:(P++[((f,q,ok):AP)]).Perm ((f,q,ok)::P):=List.perm_append_comm.trans (List.Perm.refl _)
 have hmem:∀ p∈P++[((f,q,ok):AP)],p=(f,q,ok)∨p∈P:=fun p hp=>by
   rcases List.mem_append.1 hp with h | h
   · exact .inr h
   · exact .inl (List.mem_singleton.1 h)
 refine⟨?_,fun p hp=>?_,by rw[List.length_append];simp;omega,fun p hp=>?_,fun p hp=>?_⟩
 · rw [(hp.map (·.1)).nodup_iff]
   refine List.nodup_cons.2 ⟨fun hm=>?_,h.nd⟩
   obtain⟨p,hp,e⟩:=List.mem_map.1 hm
   exact hf p hp e
 · rcases hmem p hp with rfl | h'
   · exact hq
   · exact h.sz p h'
 · rcases hmem p hp with rfl | h'
   · exact hfg
   · exact h.lt p h'
 · rcases hmem p hp with rfl | h'
   · exact hq0
   · exact h.pos p h'
theorem qDq {P w:List AP} {m g:Nat} (h:qfc P (8*m+1) g) (hw:P.Perm w) (hs:qoE w) {f:Nat} {q:Rat} {ok:Bool} (hf:f<g) (hg:g<1000000) (hq:SzQ q 8) (hq0:0<q) (hl:P.length≤m) (hm:m<8)
   (at0:Int) (b1:Bool) (b2 b3:List Int) :
   ∃ P',P'.Perm (along f q ok w)∧qfc P' (8*(m+1)+1) g∧P'.length≤m+1 ∧
     qaU at0 b1 b2 b3 (f:Int) (canQ q).1.1 (canQ q).1.2 (canQ q).2 ok (encK P (wtP P))=some (at0,b1,b2,b3,(f:Int),(canQ q).1.1,(canQ q).1.2,(canQ q).2,ok,encK P' (wtP P')):=by
 have c0:¬ (f:Int)<0:=by omega
 rcases qzS (P:=P) (f:=f) with hn | ⟨a,ha,he,hn⟩
 · have h1 := h.mono (show 8 * m + 1 ≤ 8 * (m + 1) + 1 by omega)
   have hq1:=hq.mono (show 8≤8*(m+1)+1 by omega)
   refine⟨P++[(f,q,ok)],?_,h1.snoc hn hq1 hq0 (by omega) hf,by rw[List.length_append];simp;omega,?_⟩
   · have hn2 : ∀ p ∈ w, p.1 ≠ f := fun p hp => hn p (hw.symm.mem_iff.1 hp)
     have:(P++[((f,q,ok):AP)]).Perm ((f,q,ok)::P):=List.perm_append_comm.trans (List.Perm.refl _)
     exact(this.trans (List.Perm.cons _ hw)).trans (qAm hn2).symm
   · have he := qvu h1 (f := f) (q := q) (ok := ok) hn hq1 hq0 (by omega) (by omega) (by omega)
     rw[qaU,cnd' c0,qxz hn (by omega),bS0]
     dsimp only
     rw[cnd' (by omega)]
     show(qaM (f:Int) (canQ q) ok (encK P (wtP P))).bind _=_
     rw[he];rfl
 · have ho := (h.out ha).mono (show 8 * m + 1 ≤ 8 * (m + 1) + 1 by omega)
   have hno:=h.notin ha
   rw[he] at hno
   have hz:SzQ P[a].2.1 (8*m+1):=h.sz _ (gM0 ha)
   have hz0:0<P[a].2.1:=h.pos _ (gM0 ha)
   have hq1:SzQ (q*P[a].2.1) (8*(m+1)+1):=(hq.mul hz).mono (by omega)
   have hqz:0<q*P[a].2.1:=Rat.mul_pos hq0 hz0
   have hol:=qdp ha
   have hm1:=qan (hq.sm (by omega)) (hz.sm (by omega))
   rw[qae,qae] at hm1
   have hm1:qah (((canQ q).1.1,(canQ q).1.2),(canQ q).2) (canQ P[a].2.1)=some (canQ (q*P[a].2.1)):=hm1
   refine⟨qa1 P a++[(f,q*P[a].2.1,P[a].2.2&&ok)],?_,ho.snoc hno hq1 hqz (by omega) hf,by rw[List.length_append];simp;omega,?_⟩
   · have hmem : (f, P[a].2.1, P[a].2.2) ∈ w := by
      have:(P[a]:AP)=(f,P[a].2.1,P[a].2.2):=by rw[← he]
      rw[← this]
      exact hw.mem_iff.1 (gM0 ha)
     obtain⟨r,r1,r2⟩:=qAl (q:=q) (ok:=ok) hs hmem
     have e1:(P[a]:AP)=(f,P[a].2.1,P[a].2.2):=by rw[← he]
     have p1:((f,P[a].2.1,P[a].2.2)::qa1 P a).Perm ((f,P[a].2.1,P[a].2.2)::r):=by
      have:=qjZ ha
      rw[e1] at this
      exact(this.symm.trans hw).trans r1
     have p2:=List.Perm.cons_inv p1
     have p3:(qa1 P a++[((f,q*P[a].2.1,P[a].2.2&&ok):AP)]).Perm ((f,q*P[a].2.1,P[a].2.2&&ok)::qa1 P a):=List.perm_append_comm.trans (List.Perm.refl _)
     refine(p3.trans ?_).trans r2.symm
     rw[Rat.mul_comm]
     exact List.Perm.cons _ p2
   · have hE := qvu ho (f := f) (q := q * P[a].2.1) (ok := P[a].2.2 && ok) hno hq1 hqz (by omega) (by omega) (by omega)
     have hU:=qAt h (by omega) ha
     have c1:((a+1:Nat):Int)>0:=by omega
     have i1:isub .i64 ((a+1:Nat):Int) 1=(a:Int):=by rw[qbw (by omega) (by omega)];omega
     have d1:(0:Int)≤(a:Int):=by omega
     have d2:(a:Int)<((encW P).length:Int):=by rw[qhC];omega
     have g1:(encW P)[a]?=some (encP P[a]):=by simp [encW,ha]
     rw[qaU,cnd' c0,qDP ha he hn (by omega),bS0]
     dsimp only
     rw[cnd c1,qsr (by omega),bS0,i1]
     dsimp only
     rw[cnd2 d1 d2,tN0,g1,bS0]
     show(qah (((canQ q).1.1,(canQ q).1.2),(canQ q).2) (canQ P[a].2.1)).bind _=_
     rw[hm1,bS0]
     cases ok with
     | true =>
      rw[Bool.and_true] at hE ⊢
      rw[cond_true,hU,bS0]
      dsimp only
      show(qaM (f:Int) (canQ (q*P[a].2.1)) P[a].2.2 _).bind _=_
      rw[hE];rfl
     | false =>
      rw[Bool.and_false] at hE ⊢
      rw[cond_false,hU,bS0]
      dsimp only
      rw[hE];rfl
def lfT (P:List AP) (v:Rat) (f i:Nat):Rat:=match P[i]? with
 | some p=>if p.1=f then sumP P i*(one0 p.2.2-p.2.1)*v else 0
 | none=>0
def qo8 (P:List AP) (v:Rat) (f:Nat):Rat:=rsum (lfT P v f) P.length
theorem qm4 {P:List AP} {v:Rat} {f i:Nat} (h:i<P.length):lfT P v f i=if P[i].1=f then sumP P i*(one0 P[i].2.2-P[i].2.1)*v else 0:=by
 simp only[lfT,gE0 h]
def apF (p:AP):FP:=(p.1,fcP p)
theorem qqB (P:List AP) (S:Nat):qkZ S P=qnd (P.map apF) S:=by
 unfold qkZ qnd
 rw[List.map_map]
 congr 1
theorem qCH {P:List AP} {a:Nat} (h:a<P.length):sumP P a=EE ((qa1 P a).map fcP) fun k=>wq k ((qa1 P a).length+1):=by
 have hl:=qdp h
 rw[qDQ,List.length_map,hl]
 unfold sumP
 refine qex fun i _=>?_
 unfold wtP ekP
 rw[Rat.mul_comm,hl]
theorem qqC {P Q:List AP} (h:P.Perm Q) (S:Nat):qkZ S P=qkZ S Q:=qsa (h.map _)
theorem qsd {P:List AP} {k n f:Nat} (h:qfc P k n) (hf:f<n) (v:Rat):qo8 P v f=qnc (fun S=>qkZ S P*v) n f:=by
 rw[qy2]
 rcases qzS (P:=P) (f:=f) with hn | ⟨a,ha,he,_⟩
 · have e1 : qnc (fun S => qkZ S P) n f = 0 := by
    have:(fun S=>qkZ S P)=qnd (P.map apF):=funext fun S=>qqB P S
    rw[this]
    refine qy0 fun hm=>?_
    rw[List.map_map] at hm
    obtain⟨p,hp,e⟩:=List.mem_map.1 hm
    exact hn p hp e
   rw[e1,Rat.zero_mul]
   refine qoP fun i hi=>?_
   rw[qm4 hi,if_neg (hn _ (gM0 hi))]
 · have hno := h.notin ha
   rw[he] at hno
   have ho:=h.out ha
   have e1:qnc (fun S=>qkZ S P) n f=(one0 P[a].2.2-P[a].2.1)*sumP P a:=by
    have e2:(fun S=>qkZ S P)=fun S=>pick (fcP P[a]) (S.testBit f)*qnd ((qa1 P a).map apF) S:=funext fun S=>by
      rw[qqC (qjZ ha) S]
      show facP S P[a]*qkZ S (qa1 P a)=_
      rw[qqB,← he]
      rfl
    rw[e2,qyZ hf (by rw[List.map_map];exact ho.nd) (fun p hp=>by
      obtain⟨x,hx,rfl⟩:=List.mem_map.1 hp
      exact ho.lt x hx) (fun hm=>by
      rw[List.map_map] at hm
      obtain⟨p,hp,e⟩:=List.mem_map.1 hm
      exact hno p hp e),qCH ha]
    rw[List.map_map,List.length_map]
    rfl
   rw[e1]
   have hone:∀ i,i<P.length→i≠a→lfT P v f i=0:=fun i hi hne=>by
    rw[qm4 hi]
    refine if_neg fun e=>hne ?_
    have hnd:=h.nd
    have hpw:=List.pairwise_iff_getElem.1 (show(P.map (·.1)).Pairwise (·≠·) from hnd)
    rcases Nat.lt_trichotomy i a with hlt | heq | hlt
    · have h5 := hpw i a (by simpa using hi) (by simpa using ha) hlt
      simp [e,he] at h5
    · exact heq
    · have h5 := hpw a i (by simpa using ha) (by simpa using hi) hlt
      simp [e,he] at h5
   have key:∀ n,n≤P.length→rsum (lfT P v f) n=if a<n then lfT P v f a else 0:=by
    intro n
    induction n with
    | zero=>intro _;rw[if_neg (by omega)];rfl
    | succ n ih =>
      intro hn
      rw[rsum,ih (by omega)]
      by_cases e:n=a
      · subst e;rw[if_neg (by omega),if_pos (by omega),Rat.zero_add]
      · rw [hone n (by omega) e, Rat.add_zero]
        by_cases h1:a<n
        · rw[if_pos h1,if_pos (by omega)]
        · rw[if_neg h1,if_neg (by omega)]
   unfold qo8
   rw[key _ (Nat.le_refl _),if_pos ha,qm4 ha,if_pos he]
   grind
theorem ekS8 {k n:Nat} (hk:k≤70) (hn:n≤8):ekS k n≤20000:=by
 have h1:=qxl k hn
 have h2:ekS k 8≤ekS 70 8:=by
  have:∀ n,ekS k n≤ekS 70 n:=by
   intro n
   induction n with
   | zero=>exact Nat.le_refl _
   | succ n ih=>simp only[ekS];omega
  exact this 8
 have h3:ekS 70 8≤20000:=by decide +kernel
 omega
theorem qkl {f:Nat→Rat} {k:Nat}:∀ n,(∀ i,i<n→SzQ (f i) k)→SzQ (rsum f n) (1+n*(k+1)):=by
 intro n
 induction n with
 | zero=>intro _;exact SzQ.zero.mono (by omega)
 | succ n ih =>
  intro h
  have h1:=ih fun i hi=>h i (by omega)
  have e:(n+1)*(k+1)=n*(k+1)+(k+1):=Nat.succ_mul _ _
  exact(h1.add (h n (by omega))).mono (by omega)
theorem qvB {P:List AP} {k g a:Nat} (h:qfc P k g) (hk:k≤70) (hl:P.length≤8) (ha:a<P.length):SzQ (sumP P a) 170000:=by
 have hS:=ekS8 (k:=k) (n:=(qa1 P a).length) hk (by have:=qdp ha;omega)
 have:=qkl (k:=20030) P.length (fun i hi=>(qzl h hk ha i hi).mono (by omega))
 refine this.mono ?_
 have:P.length*(20030+1)≤8*(20030+1):=Nat.mul_le_mul_right _ hl
 omega
theorem qw6 {P:List AP} {k g:Nat} {v:Rat} (h:qfc P k g) (hk:k≤70) (hl:P.length≤8) (hv:SzQ v 200) (f:Nat) {i:Nat} (hi:i<P.length):SzQ (lfT P v f i) 180000:=by
 rw[qm4 hi]
 split
 · have h1 := qvB h hk hl hi
   have h2:SzQ P[i].2.1 k:=h.sz _ (gM0 hi)
   have h3:=(qzr P[i].2.2).sub h2
   exact((h1.mul h3).mul hv).mono (by omega)
 · exact SzQ.zero.mono (by omega)
theorem qDn {t:List NODE} {row:List CELL} {fx:Int} {on:Bool} {n k:Nat} {P:List AP} (h:qfc P k n) (hk:k≤70) (hl:P.length≤8) {i:Nat} (hi:i<t.length) {gn:Rat} (hg:SzQ gn 100) (hs:TSz t 4)
  {o:Nat→Rat} (ho:∀ f,f<n→SzQ (o f) 100000000000) (hn:n<1000000) (a4:Int) (a5:Bool) (a6 a7:List Int) (a8:Bool) :
  qbp (i:Int) (canQ gn).1.1 (canQ gn).1.2 (canQ gn).2 a4 a5 a6 a7 a8 t row fx on (flo n o) (encK P (wtP P)) =
   some (flo n (fun f=>o f+qo8 P (gn*rv (nVal (qeG t i))) f),t,row,fx,on,encK P (wtP P)):=by
 obtain⟨v,hv⟩:∃ v,v=gn*rv (nVal (qeG t i)):=⟨_,rfl⟩
 have zv:=(hs.at hi).2.1
 have m0:=qan (a:=canQ gn) (b:=nVal (qeG t i)) (hg.sm (by decide)) (zv.sm (by decide))
 rw[qae,← hv] at m0
 have vsz:SzQ v 200:=by rw[hv];exact(hg.mul (zv.szQ (by decide))).mono (by decide)
 rw[← hv]
 have key:=qfu (step:=qat) (fun j=>((encW P,(P.length:Int),(j:Int),()),(((i:Int),(canQ gn).1.1,(canQ gn).1.2,(canQ gn).2,a4,a5,a6,a7,a8,()),((canQ v).1.1,(canQ v).1.2,(canQ v).2,()),(t,row,fx,on,flo n (fun f=>o f+rsum (lfT P v f) j),()),(encK P (wtP P),()),()))) P.length
  (r:=((),((t,row,fx,on,flo n (fun f=>o f+rsum (lfT P v f) P.length),()),(encK P (wtP P),()),()))) (by omega) (by
  intro g j hj
  have d0:(j:Int)<(P.length:Int):=by omega
  have d1:(0:Int)≤(j:Int):=by omega
  have d2:(j:Int)<((encW P).length:Int):=by rw[qhC];exact d0
  have g1:=qos hj
  have q1:iadd .i64 (j:Int) 1=((j+1:Nat):Int):=qa4 (by omega)
  have s1:=qBS h hk hj
  have zp:SzQ P[j].2.1 k:=h.sz _ (gM0 hj)
  have n1:=qll (zp.sm (by omega))
  rw[qae] at n1
  have hfl:P[j].1<n:=h.lt _ (gM0 hj)
  obtain⟨F,hF⟩:∃ F,F=P[j].1:=⟨_,rfl⟩
  rw[← hF] at hfl
  have zn:SzQ (-P[j].2.1) (k+4):=by
   have:=SzQ.zero.sub zp
   rw[Rat.sub_eq_add_neg,Rat.zero_add] at this
   exact this.mono (by omega)
  have c1:(0:Int)≤((F:Nat):Int):=by omega
  have c2:((F:Nat):Int)<((flo n (fun f=>o f+rsum (lfT P v f) j)).length:Int):=by rw[qaB];omega
  have g2:=qe4 (n:=n) (f:=F) (fun f=>o f+rsum (lfT P v f) j) hfl
  have zs:=qvB h hk hl hj
  have zr:SzQ (o F+rsum (lfT P v F) j) 100010000000:=by
   have h1:SzQ (rsum (lfT P v F) j) (1+j*(180000+1)):=qkl j (fun i hi=>qw6 h hk hl vsz F (by omega))
   have:j*(180000+1)≤8*(180000+1):=Nat.mul_le_mul_right _ (by omega)
   exact((ho F hfl).add h1).mono (by omega)
  have hset:∀ x,x=o F+rsum (lfT P v F) (j+1)→(flo n (fun f=>o f+rsum (lfT P v f) j)).set F (canQ x)=flo n (fun f=>o f+rsum (lfT P v f) (j+1)):=fun x hx=>by
   refine qtk hx.symm fun f hf=>?_
   rw[rsum,qm4 hj,if_neg (by rw[← hF];exact fun e=>hf e.symm),Rat.add_zero]
  show qat g ((encW P,(P.length:Int),(j:Int),()),_)=_
  rw[qat,cnd d0,cnd2 d1 d2,tN0,g1,bS0,q1,s1,bS0]
  show(qgA (canQ P[j].2.1)).bind _=_
  rw[n1,bS0]
  have e1:(encP P[j]).1=(F:Int):=by rw[hF];rfl
  have e2:(encP P[j]).2.2=P[j].2.2:=rfl
  rw[e1,e2]
  cases hok:P[j].2.2 with
  | true =>
   have a1:=qce (SzQ.one.sm (by decide)) (zn.sm (by omega))
   rw[qae,qae,← Rat.sub_eq_add_neg] at a1
   have z1:SzQ (1-P[j].2.1) 100:=(SzQ.one.sub zp).mono (by omega)
   have m1:=qan (zs.sm (by decide)) (z1.sm (by decide))
   rw[qae,qae] at m1
   have z2:SzQ (sumP P j*(1-P[j].2.1)) 170100:=(zs.mul z1).mono (by omega)
   have m2:=qan (z2.sm (by decide)) (vsz.sm (by decide))
   rw[qae,qae] at m2
   have m2:qah (canQ (sumP P j*(1-P[j].2.1))) (((canQ v).1.1,(canQ v).1.2),(canQ v).2)=_:=m2
   have z3:SzQ (sumP P j*(1-P[j].2.1)*v) 170300:=(z2.mul vsz).mono (by omega)
   have a2:=qce (zr.sm (by decide)) (z3.sm (by decide))
   rw[qae,qae] at a2
   have hx:=hset (o F+rsum (lfT P v F) j+sumP P j*(1-P[j].2.1)*v) (by
    rw[rsum,qm4 hj,if_pos hF.symm,hok];simp only[one0,if_true];grind)
   rw[cond_true,qf8,bS0,a1,bS0,cnd2 c1 c2,tN0,g2,bS0,m1,bS0,m2,bS0,a2,bS0,cnd2 c1 c2,bS0,hx]
  | false =>
   have m1:=qan (zs.sm (by decide)) (zn.sm (by omega))
   rw[qae,qae] at m1
   have z2:SzQ (sumP P j*(-P[j].2.1)) 170100:=(zs.mul zn).mono (by omega)
   have m2:=qan (z2.sm (by decide)) (vsz.sm (by decide))
   rw[qae,qae] at m2
   have m2:qah (canQ (sumP P j*(-P[j].2.1))) (((canQ v).1.1,(canQ v).1.2),(canQ v).2)=_:=m2
   have z3:SzQ (sumP P j*(-P[j].2.1)*v) 170300:=(z2.mul vsz).mono (by omega)
   have a2:=qce (zr.sm (by decide)) (z3.sm (by decide))
   rw[qae,qae] at a2
   have hx:=hset (o F+rsum (lfT P v F) j+sumP P j*(-P[j].2.1)*v) (by
    rw[rsum,qm4 hj,if_pos hF.symm,hok];simp only[one0,Bool.false_eq_true,if_false];grind)
   rw[cond_false,cnd2 c1 c2,tN0,g2,bS0,m1,bS0,m2,bS0,a2,bS0,cnd2 c1 c2,bS0,hx]) (by
  intro g
  rw[qat,cnd' (by omega)])
 have e0:flo n (fun f=>o f+rsum (lfT P v f) 0)=flo n o:=qfS fun f _=>Rat.add_zero _
 rw[e0] at key
 have key:lp qat K0 ((encW P,(P.length:Int),0,()),(((i:Int),(canQ gn).1.1,(canQ gn).1.2,(canQ gn).2,a4,a5,a6,a7,a8,()),((canQ v).1.1,(canQ v).1.2,(canQ v).2,()),(t,row,fx,on,flo n o,()),(encK P (wtP P),()),()))=_:=key
 have m0:qah (((canQ gn).1.1,(canQ gn).1.2),(canQ gn).2) t[i].2.2.2.2.2.2.1=some (canQ v):=by
  rw[qdd hi] at m0;exact m0
 rw[qbp,cnd (by omega),tN0,gE0 hi,bS0,m0,bS0,qsr (by omega),bS0]
 dsimp only
 rw[qhC,key,bS0]
 dsimp only
 rw[qaB,qaB,Nat.beq_refl,cond_true,bS0]
 rfl
def kOn (t:List NODE) (row:List CELL) (fx:Int) (on:Bool) (i:Nat) (side:Bool):Bool:=if qdb (qeG t i)=fx then (if on then goL t row i == side else true) else true
def kG (t:List NODE) (fx:Int) (on:Bool) (i c:Nat) (g:Rat):Rat:=if qdb (qeG t i)=fx then (if on then g else g*(cov t c/cov t i)) else g
def kF (t:List NODE) (fx:Int) (i:Nat):Int:=if qdb (qeG t i)=fx then -1 else qdb (qeG t i)
def kW (t:List NODE) (row:List CELL) (fx:Int) (i c:Nat) (side:Bool) (w:List AP):List AP:=if qdb (qeG t i)=fx then w else along (qno t i) (cov t c/cov t i) (goL t row i == side) w
abbrev PL:=Rat×List AP
def qpZ (t:List NODE) (row:List CELL) (fx:Int) (on:Bool):TR→List AP→Rat→List PL
 | .leaf i,w,g=>[(g*rv (nVal (qeG t i)),w)]
 | .split i l r,w,g =>
  (if kOn t row fx on i true then qpZ t row fx on l (kW t row fx i l.top true w) (kG t fx on i l.top g) else []) ++
  (if kOn t row fx on i false then qpZ t row fx on r (kW t row fx i r.top false w) (kG t fx on i r.top g) else [])
def visF (t:List NODE) (row:List CELL) (fx:Int) (on:Bool):TR→Nat
 | .leaf i=>1
 | .split i l r=>1+(if kOn t row fx on i true then visF t row fx on l else 0)+(if kOn t row fx on i false then visF t row fx on r else 0)
theorem qwL (t:List NODE) (row:List CELL) (fx:Int) (on:Bool) (T:TR):0<visF t row fx on T:=by cases T<;>simp [visF];omega
theorem qCz (t:List NODE) (row:List CELL) (fx:Int) (on:Bool) (T:TR):visF t row fx on T≤T.size:=by
 induction T with
 | leaf i=>simp [visF,TR.size]
 | split i l r ihl ihr =>
  simp only[visF,TR.size]
  split<;>split<;>omega
structure IT where
 T:TR
 P:List AP
 g:Rat
 s:PART
 w:List AP
abbrev ITE:=Int×(Option ((Option (List (Int×RAT×CELL)))×Unit))×RAT×PART
def encI (x:IT):ITE:=((x.T.top:Int),some (some (encK x.P (wtP x.P)),()),canQ x.g,x.s)
def qvt (t:List NODE) (n:Nat) (x:IT):Prop:=∃ m,Is t (n:Int) x.T∧m+x.T.deep≤8∧SzQ x.g (8*m+1)∧qoE x.w ∧
 ((x.s.1 = -1 ∧ qfc x.P (8 * m + 1) n ∧ x.P.length ≤ m ∧ x.P.Perm x.w) ∨
  ∃ (m' f:Nat) (q:Rat) (ok:Bool) (w0:List AP),m=m'+1∧x.s=((f:Int),canQ q,ok)∧f<n∧SzQ q 8∧0<q∧qfc x.P (8*m'+1) n∧x.P.length≤m'∧x.P.Perm w0∧qoE w0∧x.w=along f q ok w0)
theorem qvt.join {t:List NODE} {n:Nat} {x:IT} (h:qvt t n x) (hn:n<1000000):∃ (m:Nat) (P':List AP),Is t (n:Int) x.T∧m+x.T.deep≤8∧SzQ x.g (8*m+1)∧qoE x.w∧qfc P' (8*m+1) n∧P'.length≤m∧P'.Perm x.w ∧
   qaU (x.T.top:Int) (canQ x.g).1.1 (canQ x.g).1.2 (canQ x.g).2 x.s.1 x.s.2.1.1.1 x.s.2.1.1.2 x.s.2.1.2 x.s.2.2 (encK x.P (wtP x.P)) =
    some ((x.T.top:Int),(canQ x.g).1.1,(canQ x.g).1.2,(canQ x.g).2,x.s.1,x.s.2.1.1.1,x.s.2.1.1.2,x.s.2.1.2,x.s.2.2,encK P' (wtP P')):=by
 obtain⟨m,h1,h2,h3,h4,h5⟩:=h
 have hd:=x.T.deep_pos
 rcases h5 with ⟨a1,a2,a3,a4⟩ | ⟨m',f,q,ok,w0,b1,b2,b3,b4,b5,b6,b7,b8,b9,b10⟩
 · refine ⟨m, x.P, h1, h2, h3, h4, a2, a3, a4, ?_⟩
   rw[a1,qaU,cnd (by omega)]
 · subst b1
   obtain⟨P',p1,p2,p3,p4⟩:=qDq b6 b8 b9 (ok:=ok) b3 hn b4 b5 b7 (by omega) (x.T.top:Int) (canQ x.g).1.1 (canQ x.g).1.2 (canQ x.g).2
   refine⟨m'+1,P',h1,h2,h3,h4,p2,p3,by rw[b10];exact p1,?_⟩
   rw[b2]
   exact p4
def kid (t:List NODE) (row:List CELL) (fx:Int) (on:Bool) (i:Nat) (side:Bool) (c:TR) (P w:List AP) (g:Rat):IT :=
 ⟨c,P,kG t fx on i c.top g,(kF t fx i,canQ (cov t c.top/cov t i),goL t row i == side),kW t row fx i c.top side w⟩
theorem qw8 {t:List NODE} {row:List CELL} {fx:Int} {on:Bool} {n i m:Nat} {side:Bool} {c:TR} {P w:List AP} {g:Rat} (hs:TSz t 4) (hcov:qfz t) (hi:i<t.length) (f0:0≤qdb t[i]) (f1:qdb t[i]<(n:Int)) (hc:Is t (n:Int) c)
   (hm:m+1+c.deep≤8) (hg:SzQ g (8*m+1)) (hw:qoE w) (hP:qfc P (8*m+1) n) (hl:P.length≤m) (hpw:P.Perm w):qvt t n (kid t row fx on i side c P w g):=by
 have hsh:=qjf hs hc.top_lt hi
 refine⟨m+1,hc,hm,?_,?_,?_⟩
 · show SzQ (kG t fx on i c.top g) _
   unfold kG
   split
   · split
     · exact hg.mono (by omega)
     · exact(hg.mul hsh).mono (by omega)
   · exact hg.mono (by omega)
 · show qoE (kW t row fx i c.top side w)
   unfold kW
   split
   · exact hw
   · exact qpj hw
 · by_cases hf : qdb (qeG t i) = fx
   · refine .inl ⟨?_, hP.mono (by omega), by show P.length ≤ _; omega, ?_⟩
     · show kF t fx i = -1
       exact if_pos hf
     · show P.Perm (kW t row fx i c.top side w)
       rw[kW,if_pos hf];exact hpw
   · refine .inr ⟨m, qno t i, cov t c.top / cov t i, goL t row i == side, w, rfl, ?_, ?_, hsh, ?_, hP, hl, hpw, hw, ?_⟩
     · show (kF t fx i, _, _) = _
       rw[kF,if_neg hf,qno,qdd hi]
       rw[show((((qdb t[i]).toNat:Nat)):Int)=qdb t[i] by omega]
     · rw[qno,qdd hi];omega
     · have h1 : 0 < cov t c.top := by have := hcov c.top hc.top_lt; rwa [← qfb hc.top_lt] at this
       have h2:0<cov t i:=by have:=hcov i hi;rwa [← qfb hi] at this
       rw[Rat.div_def]
       exact Rat.mul_pos h1 (Rat.inv_pos.2 h2)
     · show kW t row fx i c.top side w = _
       exact if_neg hf
theorem qAD {P:List AP} {w:Nat→Rat} (hl:P.length≤1000000):qdo (encK P w)=some (encK P w,encK P w):=by
 rw[qdo,blt (by rw[qds];simp;omega),cond_true,List.nil_append]
theorem qxr {t:List NODE} {row:List CELL} {fx:Int} {on:Bool} {i:Nat} {c:TR} {P w:List AP} {W:Nat→Rat} {g:Rat} {m:Nat} (hs:TSz t 4) (hc:CSz row 9) (hcov:qfz t) (hi:i<t.length) (hleaf:qiZ t[i]=false) (f0:0≤qdb t[i]) (f1:qdb t[i]<(row.length:Int))
   (hl:c.top<t.length) (hP:P.length≤1000000) (hg:SzQ g 1000) (side:Bool) (out:List RAT) (a4:Int) (a5:Bool) (a6 a7:List Int) (a8:Bool) :
   qbE (i:Int) (canQ g).1.1 (canQ g).1.2 (canQ g).2 a4 a5 a6 a7 a8 (c.top:Int) side t row fx on out (encK P W) =
    some (out,(c.top:Int),(canQ (kG t fx on i c.top g)).1.1,(canQ (kG t fx on i c.top g)).1.2,(canQ (kG t fx on i c.top g)).2,kF t fx i,(canQ (cov t c.top/cov t i)).1.1,(canQ (cov t c.top/cov t i)).1.2,(canQ (cov t c.top/cov t i)).2,(goL t row i == side),kOn t row fx on i side,t,row,fx,on,encK P W,encK P W):=by
 obtain⟨cc,g1,g2,g3⟩:=qCk (f:=0) hs hc hi f0 f1
 have z:=hs _ (gM0 hi)
 have zl:=hs _ (gM0 hl)
 have hne:rv (nCov t[i])≠0:=by have:=hcov.ne i hi;rwa [qfb hi] at this
 have d1:=qpB (a:=nCov t[c.top]) (b:=nCov t[i]) (zl.2.2.sm (by decide)) (z.2.2.sm (by decide))
 rw[if_neg hne,← qfb hl,← qfb hi] at d1
 have hsh:=qjf hs hl hi
 have hb:∀ {α:Type} {a b:α},(bif Nat.beq out.length out.length then a else b)=a:=fun {α a b}=>by rw[Nat.beq_refl,cond_true]
 have hfe:qdb (qeG t i)=t[i].2.1:=by rw[qdd hi]
 have hgl:(!qiZ t[i]&&goes t[i] cc)=goL t row i:=by rw[hleaf,Bool.not_false,Bool.true_and,g3]
 rw[qbE,cnd (by omega),tN0,gE0 hi,bS0,cnd (by omega),tN0,gE0 hl,bS0]
 show(qiN (nCov t[c.top]) (nCov t[i])).bind _=_
 rw[d1,bS0,cnd (by exact f0)]
 show((row[(qdb t[i]).toNat]?).bind _)=_
 rw[g1,bS0,qAz z.1 (by decide) g2 (by decide),bS0,hgl,qAD hP,bS0]
 by_cases hf:qdb (qeG t i)=fx
 · have e1 : (!decide (t[i].2.1 = fx)) = false := by rw [← hfe, decide_eq_true hf]; rfl
   have e2:kF t fx i=-1:=if_pos hf
   rw[e1,cond_false,e2]
   cases on with
   | true =>
    have e3:kG t fx true i c.top g=g:=by rw[kG,if_pos hf];rfl
    have e4:kOn t row fx true i side=(goL t row i == side):=by rw[kOn,if_pos hf];rfl
    rw[cond_true,hb,bS0,e3,e4]
   | false =>
    have e3:kG t fx false i c.top g=g*(cov t c.top/cov t i):=by rw[kG,if_pos hf];rfl
    have e4:kOn t row fx false i side=true:=by rw[kOn,if_pos hf];rfl
    have m1:=qan (hg.sm (by decide)) (hsh.sm (by decide))
    rw[qae,qae] at m1
    have m1:qah (((canQ g).1.1,(canQ g).1.2),(canQ g).2) (canQ (cov t c.top/cov t i))=_:=m1
    rw[cond_false,m1,bS0,hb,bS0,e3,e4]
 · have e1 : (!decide (t[i].2.1 = fx)) = true := by rw [← hfe, decide_eq_false hf]; rfl
   have e2:kF t fx i=t[i].2.1:=by rw[kF,if_neg hf,hfe]
   have e3:kG t fx on i c.top g=g:=if_neg hf
   have e4:kOn t row fx on i side=true:=if_neg hf
   rw[e1,cond_true,hb,bS0,e2,e3,e4]
def qth (t:List NODE) (row:List CELL) (fx:Int) (on:Bool) (i:Nat) (l r:TR) (P w:List AP) (g:Rat):List IT :=
 (if kOn t row fx on i false then [kid t row fx on i false r P w g] else [])++(if kOn t row fx on i true then [kid t row fx on i true l P w g] else [])
theorem qDp {t:List NODE} {row:List CELL} {fx:Int} {on:Bool} {i:Nat} {l r:TR} {P w:List AP} {g:Rat} (hs:TSz t 4) (hc:CSz row 9) (hcov:qfz t) (hi:i<t.length) (hleaf:qiZ t[i]=false) (f0:0≤qdb t[i]) (f1:qdb t[i]<(row.length:Int))
  (hl:l.top<t.length) (hr:r.top<t.length) (hP:P.length≤1000000) (hg:SzQ g 1000) (out:List RAT) (a4:Int) (a5:Bool) (a6 a7:List Int) (a8:Bool) (c0:Bool) (c1:Int) (c2:Bool) (c3 c4:List Int) (c7 c8:Bool) (c9 c10:List Int) (c11:Bool) (c12 c13:List Int)
  (base:List ITE) (hb:base.length≤1000000) :
  lp qal K0 (((false,(true,())),0,()),(((i:Int),(canQ g).1.1,(canQ g).1.2,(canQ g).2,a4,a5,a6,a7,a8,()),(c0,c1,c2,c3,c4,(l.top:Int),(r.top:Int),c7,c8,c9,c10,c11,c12,c13,()),(encK P (wtP P),()),(t,row,fx,on,out,base,()),())) =
    some ((),((t,row,fx,on,out,base++(qth t row fx on i l r P w g).map encI,()),())):=by
 obtain⟨A,eA⟩:∃ A:List IT,A=if kOn t row fx on i false then [kid t row fx on i false r P w g] else []:=⟨_,rfl⟩
 obtain⟨B,eB⟩:∃ B:List IT,B=if kOn t row fx on i true then [kid t row fx on i true l P w g] else []:=⟨_,rfl⟩
 have eK:qth t row fx on i l r P w g=A++B:=by rw[eA,eB];rfl
 have lA:A.length≤1:=by rw[eA];split<;>simp
 obtain⟨K,hK⟩:∃ K:Nat→List ITE,K=fun j=>if j=0 then [] else if j=1 then A.map encI else (A++B).map encI:=⟨_,rfl⟩
 have K0':K 0=[]:=by rw[hK];rfl
 have K1:K 1=A.map encI:=by rw[hK];rfl
 have K2:K 2=(A++B).map encI:=by rw[hK];rfl
 have ov:over out 0 out=out:=qob rfl
 have hc1:=fun side=>qxr (fx:=fx) (on:=on) (c:=r) (P:=P) (w:=w) (W:=wtP P) (g:=g) (m:=0) hs hc hcov hi hleaf f0 f1 hr hP hg side out a4 a5 a6 a7 a8
 have hc2:=fun side=>qxr (fx:=fx) (on:=on) (c:=l) (P:=P) (w:=w) (W:=wtP P) (g:=g) (m:=0) hs hc hcov hi hleaf f0 f1 hl hP hg side out a4 a5 a6 a7 a8
 have key:=qfu (step:=qal) (fun j=>(((false,(true,())),(j:Int),()),(((i:Int),(canQ g).1.1,(canQ g).1.2,(canQ g).2,a4,a5,a6,a7,a8,()),(c0,c1,c2,c3,c4,(l.top:Int),(r.top:Int),c7,c8,c9,c10,c11,c12,c13,()),(encK P (wtP P),()),(t,row,fx,on,out,base++K j,()),()))) 2
  (r:=((),((t,row,fx,on,out,base++K 2,()),()))) (by omega) (by
  intro g' j hj
  have hj2:j=0∨j=1:=by omega
  rcases hj2 with rfl | rfl
  · rw [qal, cnd (by omega), cnd (by omega)]
    show((([false,true]:List Bool)[0]?).bind _)=_
    rw[show(([false,true]:List Bool)[0]?)=some false from rfl,bS0,cond_false,hc1 false,bS0]
    dsimp only
    rw[K0',List.append_nil,show((0+1:Nat))=1 from rfl,K1,ov]
    cases hk:kOn t row fx on i false with
    | true =>
     have eA':A=[kid t row fx on i false r P w g]:=by rw[eA,hk];rfl
     rw[cond_true,blt (by simp;omega),cond_true,eA']
     rfl
    | false =>
     have eA':A=[]:=by rw[eA,hk];rfl
     rw[cond_false,eA',List.map_nil,List.append_nil]
     rfl
  · rw [qal, cnd (by omega), cnd (by omega)]
    show((([false,true]:List Bool)[1]?).bind _)=_
    rw[show(([false,true]:List Bool)[1]?)=some true from rfl,bS0,cond_true,hc2 true,bS0]
    dsimp only
    rw[show((1+1:Nat))=2 from rfl,K1,K2,ov]
    cases hk:kOn t row fx on i true with
    | true =>
     have eB':B=[kid t row fx on i true l P w g]:=by rw[eB,hk];rfl
     rw[cond_true,blt (by simp;omega),cond_true,eB',List.map_append,← List.append_assoc]
     rfl
    | false =>
     have eB':B=[]:=by rw[eB,hk];rfl
     rw[cond_false,eB',List.append_nil]
     rfl) (by
  intro g'
  rw[qal,cnd' (by omega)])
 rw[K0',K2,← eK,List.append_nil] at key
 exact key
def totL (n f:Nat) (l:List PL):Rat:=lsum (l.map fun y=>qnc (fun S=>qkZ S y.2*y.1) n f)
theorem qvA (n f:Nat) (a b:List PL):totL n f (a++b)=totL n f a+totL n f b:=by rw[totL,List.map_append,qhq];rfl
def totI (t:List NODE) (row:List CELL) (fx:Int) (on:Bool) (n f:Nat) (x:IT):Rat:=totL n f (qpZ t row fx on x.T x.w x.g)
def visL (t:List NODE) (row:List CELL) (fx:Int) (on:Bool):List IT→Nat
 | []=>0
 | x::L=>visF t row fx on x.T+visL t row fx on L
theorem qnb (t:List NODE) (row:List CELL) (fx:Int) (on:Bool) (a b:List IT):visL t row fx on (a++b)=visL t row fx on a+visL t row fx on b:=by
 induction a with
 | nil=>simp [visL]
 | cons x a ih=>simp only[List.cons_append,visL,ih];omega
theorem qwK (t:List NODE) (row:List CELL) (fx:Int) (on:Bool) (a:List IT):a.length≤visL t row fx on a:=by
 induction a with
 | nil=>simp [visL]
 | cons x a ih=>have:=qwL t row fx on x.T;simp only[List.length_cons,visL];omega
theorem qBo (t:List NODE) (row:List CELL) (fx:Int) (on:Bool) (i:Nat) (l r:TR) (P w:List AP) (g:Rat) :
  visF t row fx on (.split i l r)=1+visL t row fx on (qth t row fx on i l r P w g):=by
 rw[qth,qnb]
 simp only[visF]
 cases kOn t row fx on i true<;>cases kOn t row fx on i false<;>simp [visL,kid]<;>omega
theorem qBp (t:List NODE) (row:List CELL) (fx:Int) (on:Bool) (n f i:Nat) (l r:TR) (P w:List AP) (g:Rat) :
   totL n f (qpZ t row fx on (.split i l r) w g)=lsum ((qth t row fx on i l r P w g).map (totI t row fx on n f)):=by
 rw[qth,List.map_append,qhq]
 simp only[qpZ]
 rw[qvA,Rat.add_comm]
 congr 1
 · cases kOn t row fx on i false
   · rfl
   · simp only[if_true,List.map_cons,List.map_nil,lsum,Rat.add_zero];rfl
 · cases kOn t row fx on i true
   · rfl
   · simp only[if_true,List.map_cons,List.map_nil,lsum,Rat.add_zero];rfl
theorem qyJ {t:List NODE} {row:List CELL} {fx:Int} {on:Bool} {T:TR} {o:Nat→Rat} (hs:TSz t 4) (hc:CSz row 9) (hcov:qfz t) (hT:Is t (row.length:Int) T) (h0:T.top=0) (hd:T.deep≤8) (hz:T.size≤100) (hrl:row.length≤64)
  {S:Nat} (ho:∀ f,f<row.length→SzQ (o f) S) (hS:S≤50000000000) :
  (∃ st,qb8 t row fx on (flo row.length o) []=some (flo row.length (fun f=>o f+totL row.length f (qpZ t row fx on T [] 1)),t,row,fx,on,st))∧∀ f,f<row.length→SzQ (o f+totL row.length f (qpZ t row fx on T [] 1)) (S+200000000):=by
 obtain⟨n,hn⟩:∃ n,n=row.length:=⟨_,rfl⟩
 obtain⟨N,hN⟩:∃ N,N=visF t row fx on T:=⟨_,rfl⟩
 have hN2:N≤100:=by rw[hN];exact Nat.le_trans (qCz _ _ _ _ _) hz
 obtain⟨x0,hx0⟩:∃ x0:IT,x0=⟨T,[],1,(-1,(((false,[]),[]),false)),[]⟩:=⟨_,rfl⟩
 have t0:∀ f,totI t row fx on n f x0=totL n f (qpZ t row fx on T [] 1):=fun f=>by rw[hx0];rfl
 have hg0:qvt t n x0:=by
  refine⟨0,by rw[hx0,hn];exact hT,by rw[hx0];show 0+T.deep≤8;omega,by rw[hx0];exact SzQ.one,by rw[hx0];exact List.Pairwise.nil,.inl ⟨by rw[hx0],?_,by simp [hx0],by simp [hx0]⟩⟩
  rw[hx0]
  exact⟨List.Pairwise.nil,fun p hp=>absurd hp (by simp),by simp,fun p hp=>absurd hp (by simp),fun p hp=>absurd hp (by simp)⟩
 rw[← hn]
 obtain⟨res,hres,hlp⟩:=qj9 (step:=qas)
  (fun j v=>∃ (L:List IT) (o':Nat→Rat),v=((),((t,row,fx,on,flo n o',L.map encI,()),()))∧(∀ x∈L,qvt t n x)∧j+visL t row fx on L=N∧(∀ f,f<n→SzQ (o' f) (S+2000000*j))∧∀ f,f<n→o' f+lsum (L.map (totI t row fx on n f))=o f+totI t row fx on n f x0)
  (fun r=>(∃ (st:List ITE),r=((),((t,row,fx,on,flo n (fun f=>o f+totI t row fx on n f x0),st,()),())))∧∀ f,f<n→SzQ (o f+totI t row fx on n f x0) (S+200000000)) N
  (v:=((),((t,row,fx,on,flo n o,[x0].map encI,()),())))
  ⟨[x0],o,rfl,fun x hx=>by rw[List.mem_singleton.1 hx];exact hg0,by simp only[visL,hx0];omega,fun f hf=>(ho f (by omega)).mono (by omega),fun f hf=>by simp only[List.map_cons,List.map_nil,lsum,Rat.add_zero]⟩
  (by omega)
  (by
   rintro j v hj ⟨L,o',rfl,hL,hv,hsz,htot⟩
   rcases List.eq_nil_or_concat L with rfl | ⟨L0,x,rfl⟩
   · simp only[visL] at hv;omega
   rw[List.concat_eq_append] at *
   have hx:qvt t n x:=hL x (by simp)
   obtain⟨m,P',j1,j2,j3,j4,j5,j6,j7,j8⟩:=hx.join (by omega)
   rw[qnb] at hv
   simp only[visL,Nat.add_zero] at hv
   have hvp:=qwL t row fx on x.T
   have hvl:=qwK t row fx on L0
   obtain⟨base,hbase⟩:∃ base,base=L0.map encI:=⟨_,rfl⟩
   have lb:base.length=L0.length:=by rw[hbase];simp
   have eS:(L0++[x]).map encI=base++[encI x]:=by rw[hbase];simp
   have hi:=j1.top_lt
   have qS:∀ y:ITE,isub .i64 ((base++[y]).length:Int) 1=(base.length:Int):=fun y=>by
     rw[List.length_append,List.length_singleton,qbw (by omega) (by omega)];omega
   have gS:(base++[encI x])[base.length]?=some (encI x):=by simp
   have sS:∀ y,(base++[encI x]).set base.length y=base++[y]:=fun y=>by simp
   have cS:∀ y:ITE,(decide ((0:Int)≤(base.length:Int))&&decide (((base.length:Int):Int)≤(base.length:Int))&&decide (((base.length:Int):Int)≤((base++[y]).length:Int)))=true:=fun y=>by
     simp only[Bool.and_eq_true,decide_eq_true_eq,List.length_append,List.length_singleton];omega
   have tS:∀ y:ITE,(base++[y]).take (((base.length:Int)-0).toNat)=base:=fun y=>by
     rw[show((base.length:Int)-0).toNat=base.length by omega];simp
   have hpos:(((base++[encI x]).length:Nat):Int)>0:=by rw[List.length_append,List.length_singleton];omega
   have d2:(base.length:Int)<(((base++[encI x]).length:Nat):Int):=by rw[List.length_append,List.length_singleton];omega
   have walkE:∀ g,qas g ((),((t,row,fx,on,flo n o',(L0++[x]).map encI,()),())) =
       bif t[x.T.top].1 then ((qbp (x.T.top:Int) (canQ x.g).1.1 (canQ x.g).1.2 (canQ x.g).2 x.s.1 x.s.2.1.1.1 x.s.2.1.1.2 x.s.2.1.2 x.s.2.2 t row fx on (flo n o') (encK P' (wtP P'))).bind fun r8=>g ((()),((r8.2.1,r8.2.2.1,r8.2.2.2.1,r8.2.2.2.2.1,(over (flo n o') 0 r8.1),base,()),())))
       else ((lp qal K0 (((false,(true,())),0,()),(((x.T.top:Int),(canQ x.g).1.1,(canQ x.g).1.2,(canQ x.g).2,x.s.1,x.s.2.1.1.1,x.s.2.1.1.2,x.s.2.1.2,x.s.2.2,()),(t[x.T.top].1,t[x.T.top].2.1,t[x.T.top].2.2.1.1.1,t[x.T.top].2.2.1.1.2,t[x.T.top].2.2.1.2,t[x.T.top].2.2.2.1,t[x.T.top].2.2.2.2.1,t[x.T.top].2.2.2.2.2.1,t[x.T.top].2.2.2.2.2.2.1.1.1,t[x.T.top].2.2.2.2.2.2.1.1.2,t[x.T.top].2.2.2.2.2.2.1.2,t[x.T.top].2.2.2.2.2.2.2.1.1,t[x.T.top].2.2.2.2.2.2.2.1.2,t[x.T.top].2.2.2.2.2.2.2.2,()),(encK P' (wtP P'),()),(t,row,fx,on,flo n o',base,()),()))).bind fun t12=>g ((()),((t12.2.1.1,t12.2.1.2.1,t12.2.1.2.2.1,t12.2.1.2.2.2.1,t12.2.1.2.2.2.2.1,t12.2.1.2.2.2.2.2.1,()),()))):=fun g=>by
     rw[qas,eS,cnd hpos,qS,cnd2 (by omega) d2,tN0,gS,bS0]
     show((some (some (encK x.P (wtP x.P)),()):Option ((Option (List (Int×RAT×CELL)))×Unit)).bind _)=_
     rw[bS0]
     show((some (encK x.P (wtP x.P)):Option (List (Int×RAT×CELL))).bind _)=_
     rw[bS0,sS,qS,cS,cond_true,tS]
     show(qaU (x.T.top:Int) (canQ x.g).1.1 (canQ x.g).1.2 (canQ x.g).2 x.s.1 x.s.2.1.1.1 x.s.2.1.1.2 x.s.2.1.2 x.s.2.2 (encK x.P (wtP x.P))).bind _=_
     rw[j8,bS0]
     dsimp only
     rw[cnd (by omega),tN0,gE0 hi,bS0]
   have hm7:m≤7:=by have:=x.T.deep_pos;omega
   cases hxT:x.T with
   | leaf i =>
     rw[hxT] at j1 j2 hi hv
     simp only[hxT] at walkE
     obtain⟨i1,i2⟩:=j1
     have hlf:=qDn (t:=t) (row:=row) (fx:=fx) (on:=on) j5 (by omega) (by omega) i1 (j3.mono (by omega)) hs (o:=o') (fun f hf=>(hsz f hf).mono (by omega)) (by omega) x.s.1 x.s.2.1.1.1 x.s.2.1.1.2 x.s.2.1.2 x.s.2.2
     obtain⟨v,hv'⟩:∃ v,v=x.g*rv (nVal (qeG t i)):=⟨_,rfl⟩
     rw[← hv'] at hlf
     have hvz:SzQ v 200:=by rw[hv'];exact((j3.mono (show 8*m+1≤100 by omega)).mul ((hs.at i1).2.1.szQ (by decide))).mono (by decide)
     refine⟨((),((t,row,fx,on,flo n (fun f=>o' f+qo8 P' v f),L0.map encI,()),())),⟨L0,_,rfl,fun y hy=>hL y (by simp [hy]),by simp only[visF] at hv;omega,fun f hf=>?_,fun f hf=>?_⟩,fun g=>?_⟩
     · have h1 := qkl (k := 180000) P'.length (fun i hi => qw6 j5 (by omega) (by omega) hvz f hi)
       have h1:SzQ (qo8 P' v f) _:=h1
       have:P'.length*(180000+1)≤8*(180000+1):=Nat.mul_le_mul_right _ (by omega)
       exact((hsz f hf).add h1).mono (by omega)
     · have e := htot f hf
       rw[List.map_append,qhq] at e
       simp only[List.map_cons,List.map_nil,lsum,Rat.add_zero] at e
       have e2:totI t row fx on n f x=qo8 P' v f:=by
         rw[totI,hxT,qsd j5 hf]
         simp only[qpZ,totL,List.map_cons,List.map_nil,lsum,Rat.add_zero]
         rw[← hv']
         refine qvD hf fun S _=>?_
         rw[qqC j7]
       rw[e2] at e
       rw[← e];grind
     · rw [walkE g]
       show(bif t[i].1 then _ else _)=_
       rw[show t[i].1=true from i2,cond_true]
       show(qbp (i:Int) _ _ _ _ _ _ _ _ _ _ _ _ _ _).bind _=_
       rw[hlf,bS0]
       dsimp only
       rw[qob (by rw[qaB,qaB]),hbase]
   | split i l r =>
     rw[hxT] at j1 j2 hi hv
     simp only[hxT,TR.top] at walkE
     obtain⟨i1,i2,f0,f1,i3,i4,i5,i6⟩:=j1
     simp only[TR.deep] at j2
     have hkd:=qDp (t:=t) (row:=row) (fx:=fx) (on:=on) (i:=i) (l:=l) (r:=r) (P:=P') (w:=x.w) (g:=x.g) hs hc hcov i1 i2 f0 (by omega) i5.top_lt i6.top_lt (by omega) (j3.mono (by omega)) (flo n o') x.s.1 x.s.2.1.1.1 x.s.2.1.1.2 x.s.2.1.2 x.s.2.2
       false t[i].2.1 t[i].2.2.1.1.1 t[i].2.2.1.1.2 t[i].2.2.1.2 t[i].2.2.2.2.2.1 t[i].2.2.2.2.2.2.1.1.1 t[i].2.2.2.2.2.2.1.1.2 t[i].2.2.2.2.2.2.1.2 t[i].2.2.2.2.2.2.2.1.1 t[i].2.2.2.2.2.2.2.1.2 t[i].2.2.2.2.2.2.2.2 base (by omega)
     refine⟨((),((t,row,fx,on,flo n o',(L0++qth t row fx on i l r P' x.w x.g).map encI,()),())),⟨L0++qth t row fx on i l r P' x.w x.g,o',rfl,fun y hy=>?_,?_,fun f hf=>(hsz f hf).mono (by omega),fun f hf=>?_⟩,fun g=>?_⟩
     · rcases List.mem_append.1 hy with hy | hy
       · exact hL y (by simp [hy])
       · have hgl : ∀ side, qvt t n (kid t row fx on i side l P' x.w x.g) := fun side => qw8 hs hcov i1 f0 f1 i5 (by omega) j3 j4 j5 j6 j7
         have hgr:∀ side,qvt t n (kid t row fx on i side r P' x.w x.g):=fun side=>qw8 hs hcov i1 f0 f1 i6 (by omega) j3 j4 j5 j6 j7
         rcases List.mem_append.1 hy with hy | hy
         · split at hy
           · rw[List.mem_singleton.1 hy];exact hgr _
           · cases hy
         · split at hy
           · rw[List.mem_singleton.1 hy];exact hgl _
           · cases hy
     · have := qBo t row fx on i l r P' x.w x.g
       rw[qnb];omega
     · have e := htot f hf
       rw[List.map_append,qhq] at e
       simp only[List.map_cons,List.map_nil,lsum,Rat.add_zero] at e
       have e2:totI t row fx on n f x=lsum ((qth t row fx on i l r P' x.w x.g).map (totI t row fx on n f)):=by
         rw[totI,hxT];exact qBp t row fx on n f i l r P' x.w x.g
       rw[e2] at e
       rw[List.map_append,qhq];exact e
     · rw [walkE g]
       show(bif t[i].1 then _ else _)=_
       rw[show t[i].1=false from i2,cond_false]
       rw[show t[i].2.2.2.1=(l.top:Int) from i3,show t[i].2.2.2.2.1=(r.top:Int) from i4,hkd,bS0]
       dsimp only
       rw[hbase,← List.map_append])
  (by
   rintro v ⟨L,o',rfl,hL,hv,hsz,htot⟩
   have hl:=qwK t row fx on L
   have:L=[]:=by
     cases L with
     | nil=>rfl
     | cons x L=>simp only[List.length_cons] at hl;omega
   subst this
   refine⟨((),((t,row,fx,on,flo n o',List.map encI [],()),())),⟨⟨List.map encI [],?_⟩,fun f hf=>?_⟩,fun g=>?_⟩
   · have : flo n o' = flo n (fun f => o f + totI t row fx on n f x0) := qfS fun f hf => by
       rw[← htot f hf];simp only[List.map_nil,lsum,Rat.add_zero]
     rw[this]
   · rw [← htot f hf]
     simp only[List.map_nil,lsum,Rat.add_zero]
     exact(hsz f hf).mono (by omega)
   · rw[qas,cnd' (by simp)])
 obtain⟨⟨st,rfl⟩,hrs⟩:=hres
 refine⟨⟨st,?_⟩,fun f hf=>by have:=hrs f hf;rwa [t0] at this⟩
 have e0:[x0].map encI=[((0:Int),(some (some (encK [] (wtP [])),()):Option ((Option (List (Int×RAT×CELL)))×Unit)),canQ 1,((-1:Int),(((false,[]),[]),false)))]:=by
  rw[hx0]
  simp only[List.map_cons,List.map_nil,encI,h0];rfl
 rw[e0] at hlp
 rw[qb8,qBV,bS0,qf8,bS0]
 have hlp:lp qas K0 (((),((t,row,fx,on,flo n o,[(0,((some ((some (encK [] (wtP []))),())),(canQ 1,((-1),(((false,[]),[]),false)))))],()),())))=_:=hlp
 rw[hlp,bS0]
 dsimp only
 rw[qaB,qaB,Nat.beq_refl,cond_true,bS0]
 simp only[t0]
def trV (t:List NODE) (row:List CELL) (fx:Int) (on:Bool) (f:Nat):Rat:=totL row.length f (qpZ t row fx on (treeOf t) [] 1)
def qvO (m:qbf) (row:List CELL) (fx:Int) (on:Bool) (f:Nat):Rat:=rsum (fun j=>trV (qfE m j) row fx on f) m.2.length
theorem Askd.deep8 {m:qbf} {row:List CELL} (h:Askd m row) {i:Nat} (hi:i<m.2.length):(treeOf m.2[i]).deep≤8∧(treeOf m.2[i]).size≤15:=by
 have h1:=h.good.treeOf hi
 have hsh:qsq m.2[i]:=h.good.2 1 (by decide) i hi
 have h2:=qyU hsh h1.1
 have h3:=qz5 (treeOf m.2[i])
 have h4:=h.mt _ (gM0 hi)
 omega
theorem Askd.walk {m:qbf} {row:List CELL} (h:Askd m row) {i:Nat} (hi:i<m.2.length) (fx:Int) (on:Bool) {o:Nat→Rat} {S:Nat} (ho:∀ f,f<row.length→SzQ (o f) S) (hS:S≤50000000000) :
  (∃ st,qb8 m.2[i] row fx on (flo row.length o) []=some (flo row.length (fun f=>o f+trV (qfE m i) row fx on f),m.2[i],row,fx,on,st))∧∀ f,f<row.length→SzQ (o f+trV (qfE m i) row fx on f) (S+200000000):=by
 obtain⟨t1,t2,t3,t4,t5⟩:=h.tree hi
 rw[t5] at t2 t3 ⊢
 obtain⟨d1,d2⟩:=h.deep8 hi
 exact qyJ t1 h.cs (h.cov hi) t2 t3 d1 (by omega) h.f64 ho hS
theorem qB8 {m:qbf} {row:List CELL} (h:Askd m row) {i:Nat} (hi:i<m.2.length) (fx:Int) (on:Bool) {f:Nat} (hf:f<row.length):SzQ (trV (qfE m i) row fx on f) 200000010:=by
 have:=(h.walk hi fx on (o:=fun _=>0) (S:=1) (fun _ _=>SzQ.zero) (by decide)).2 f hf
 rw[Rat.zero_add] at this
 exact this.mono (by decide)
theorem qAZ {m:qbf} {row:List CELL} (h:Askd m row) (fx:Int) (on:Bool) {f:Nat} (hf:f<row.length):SzQ (qvO m row fx on f) 1500000000:=by
 have h1:=qkl (f:=fun j=>trV (qfE m j) row fx on f) (k:=200000010) m.2.length (fun i hi=>qB8 h hi fx on hf)
 have:m.2.length*(200000010+1)≤6*(200000010+1):=Nat.mul_le_mul_right _ h.ml
 exact h1.mono (by omega)
theorem qze {n:Nat} (h:n≤1000000):qfH (n:Int)=some (flo n fun _=>0):=by
 have key:=qfu (step:=qbg) (fun i=>((flo i (fun _=>0),(n:Int),(i:Int),()),())) n (r:=((flo n (fun _=>0),()),())) (by omega) (by
  intro g i hi
  have d0:(i:Int)<(n:Int):=by omega
  rw[qbg,cnd d0,qea,bS0,blt (by rw[qaB];omega),cond_true,qa4 (by omega)]
  simp only[flo,List.range_succ,List.map_append]
  rfl) (by
  intro g
  rw[qbg,cnd' (by omega)])
 have key:lp qbg K0 (([],(n:Int),0,()),())=_:=key
 rw[qfH,key];rfl
theorem qBP {m:qbf} {row:List CELL} (h:Askd m row) (fx:Int) (on:Bool):qhO m row fx on=some (flo row.length (qvO m row fx on)):=by
 have ml:=h.ml
 have h64:=h.f64
 have hsz:∀ j,j≤m.2.length→∀ f,f<row.length→SzQ (rsum (fun j=>trV (qfE m j) row fx on f) j) 1500000000:=fun j hj f hf=>by
  have h1:=qkl (f:=fun j=>trV (qfE m j) row fx on f) (k:=200000010) j (fun i hi=>qB8 h (by omega) fx on hf)
  have:j*(200000010+1)≤6*(200000010+1):=Nat.mul_le_mul_right _ (by omega)
  exact h1.mono (by omega)
 have key:=qfu (step:=qb0) (fun j=>((row,fx,on,flo row.length (fun f=>rsum (fun j=>trV (qfE m j) row fx on f) j),m.2,(m.2.length:Int),(j:Int),()),())) m.2.length (r:=((flo row.length (qvO m row fx on),()),())) (by omega) (by
  intro g j hj
  have d0:(j:Int)<(m.2.length:Int):=by omega
  obtain⟨st,hw⟩:=(h.walk hj fx on (hsz j (by omega)) (by decide)).1
  rw[qb0,cnd d0,cnd (by omega),tN0,gE0 hj,bS0,hw,bS0]
  dsimp only
  rw[qob (by rw[qaB,qaB]),qa4 (by omega)]
  rfl) (by
  intro g
  rw[qb0,cnd' (by omega)]
  rfl)
 have key:lp qb0 K0 ((row,fx,on,flo row.length (fun _=>0),m.2,(m.2.length:Int),0,()),())=_:=key
 rw[qhO,show m.1=((row.length:Nat):Int) by have:=h.len;omega,qze (by omega),bS0,key];rfl
theorem qwB {m:qbf} {row:List CELL} (h:Askd m row):qc1 m row=some (flo row.length (qvO m row (-1) false),0):=by
 obtain⟨e,_,h1,h2⟩:=qCm (row:=row) (by have:=h.ml;omega) (fun t ht=>by have:=h.mt t ht;omega) h.ms
 have e0:e=0:=h2.2 ⟨h.good,h.len⟩
 subst e0
 rw[qc1,h1,bS0,show(!decide ((0:Int)=0))=false by decide,cond_false,qBP h];rfl
theorem qvr {m:qbf} {row:List CELL} {e:Int} (h:qez m row=some e) (he:e≠0):qc1 m row=some ([],e):=by
 rw[qc1,h,bS0,decide_eq_false he];rfl
theorem qyf {t:List NODE} {row:List CELL} {n:Nat} {T:TR} (h:Is t (n:Int) T):∀ (w:List AP) (g:Rat),qpZ t row (-1) false T w g=(qgt t row T w).map fun x=>(g*x.2.1,x.2.2):=by
 induction T with
 | leaf i=>intro w g;rfl
 | split i l r ihl ihr =>
  intro w g
  obtain⟨h1,h2,f0,f1,h3,h4,h5,h6⟩:=h
  have hne:¬ qdb (qeG t i)=-1:=by rw[qdd h1];omega
  have e1:(goL t row i == true)=goL t row i:=by cases goL t row i<;>rfl
  have e2:(goL t row i == false)=!goL t row i:=by cases goL t row i<;>rfl
  simp only[qpZ,qgt,List.map_append]
  rw[kOn,if_neg hne,if_pos rfl,kOn,if_neg hne,if_pos rfl,kW,if_neg hne,kG,if_neg hne,kW,if_neg hne,kG,if_neg hne,e1,e2,ihl h5,ihr h6]
theorem qoE.nodup {w:List AP} (h:qoE w):(w.map (·.1)).Nodup:=by
 unfold List.Nodup
 rw[List.pairwise_map]
 exact h.imp fun hab=>by omega
theorem qvo {f:Nat} {q:Rat} {ok:Bool} {w:List AP} (h:∀ p∈w,0<p.2.1) (hq:0<q):∀ p∈along f q ok w,0<p.2.1:=by
 induction w with
 | nil=>intro p hp;simp [along] at hp;subst hp;exact hq
 | cons a w ih =>
  have ha:=h a List.mem_cons_self
  have hw:∀ p∈w,0<p.2.1:=fun p hp=>h p (List.mem_cons_of_mem _ hp)
  intro p hp
  simp only[along] at hp
  split at hp
  · rcases List.mem_cons.1 hp with rfl | hp
    · exact ha
    · exact ih hw p hp
  · split at hp
    · rcases List.mem_cons.1 hp with rfl | hp
      · exact Rat.mul_pos ha hq
      · exact hw p hp
    · rcases List.mem_cons.1 hp with rfl | hp
      · exact hq
      · rcases List.mem_cons.1 hp with rfl | hp
        · exact ha
        · exact hw p hp
theorem qtT {t:List NODE} (hc:qfz t) {a i:Nat} (ha:a<t.length) (hi:i<t.length):0<cov t a/cov t i:=by
 have h1:0<cov t a:=by have:=hc a ha;rwa [← qfb ha] at this
 have h2:0<cov t i:=by have:=hc i hi;rwa [← qfb hi] at this
 rw[Rat.div_def]
 exact Rat.mul_pos h1 (Rat.inv_pos.2 h2)
theorem qBj {t:List NODE} {row:List CELL} {g:Int} {T:TR} (hc:qfz t) (h:Is t g T):∀ {w:List AP},(∀ p∈w,0<p.2.1)→∀ x∈qgt t row T w,∀ p∈x.2.2,0<p.2.1:=by
 induction T with
 | leaf i=>intro w hw x hx;simp only[qgt,List.mem_singleton] at hx;subst hx;exact hw
 | split i l r ihl ihr =>
  obtain⟨h1,h2,f0,f1,h3,h4,h5,h6⟩:=h
  intro w hw x hx
  simp only[qgt,List.mem_append] at hx
  rcases hx with hx | hx
  · exact ihl h5 (qvo hw (qtT hc h5.top_lt h1)) x hx
  · exact ihr h6 (qvo hw (qtT hc h6.top_lt h1)) x hx
theorem quU {t:List NODE} {row:List CELL} {n:Nat} {T:TR} (hs:TSz t 4) (hc:qfz t) (h:Is t (n:Int) T) (hd:T.deep≤8):∀ x∈qgt t row T [],qfc x.2.2 70 n∧x.2.2.length≤8:=by
 intro x hx
 have h1:=qw7 hs h (WSz.nil n) x hx
 have h2:=qzF T (w:=[]) List.Pairwise.nil x hx
 have h3:=qBj hc h (w:=[]) (fun p hp=>absurd hp (by simp)) x hx
 have hl:=h1.1.2.1
 exact⟨⟨h2.nodup,fun p hp=>(h1.1.1 p hp).mono (by omega),by omega,h1.1.2.2,h3⟩,by omega⟩
variable {g:NODE→NODE} {f f':Int} {c:Rat}
theorem qAL {t:List NODE} {row:List CELL} (hs:TSz t 4) (hc:qfz t) (h:Is t (row.length:Int) (treeOf t)) (hd:(treeOf t).deep≤8) {f:Nat} (hf:f<row.length) :
  trV t row (-1) false f=lsum ((qgt t row (treeOf t) []).map fun x=>qo8 x.2.2 x.2.1 f):=by
 unfold trV totL
 rw[qyf h,List.map_map]
 congr 1
 refine List.map_congr_left fun x hx=>?_
 show qnc (fun S=>qkZ S x.2.2*(1*x.2.1)) _ _=_
 rw[Rat.one_mul,qsd (quU hs hc h hd x hx).1 hf]
theorem qBg (w:List AP) (i:Nat):polF (lfac ((encW w).take i++(encW w).drop (i+1)))=ekP (qa1 w i):=by
 unfold lfac ekP
 rw[qqI (List.reverse_perm _)]
 congr 1
 unfold encW qa1
 rw[← List.map_take,← List.map_drop,← List.map_append,List.map_map]
 refine List.map_congr_left fun p _=>?_
 show(rv (canQ p.2.1),one0 p.2.2)=_
 rw[qae];rfl
theorem qBw {w:List AP} {n:Nat} (h:qfc w 70 n) (hl:w.length≤8):PaSz (encW w) 70:=by
 refine⟨by rw[qhC];omega,fun p hp=>?_⟩
 obtain⟨x,hx,rfl⟩:=List.mem_map.1 hp
 exact(h.sz x hx).szR
theorem qwA {x:AL} {n i:Nat} (h:qfc x.2.2 70 n) (hl:x.2.2.length≤8) (hi:i<x.2.2.length):qcU (encL x) (i:Int)=some (polL x.2.2.length (ekP (qa1 x.2.2 i)),0):=by
 have hi':i<(encL x).2.2.length:=by show i<(encW x.2.2).length;rw[qhC];exact hi
 have e:=(qyD (l:=encL x) (k:=70) (qBw h hl) (by decide) (by decide) hi').1
 have hp:=h.pos _ (gM0 hi)
 have eg:(encL x).2.2[i]=encP x.2.2[i]:=by simp [encL,encW]
 rw[eg,if_neg (fun hc=>by
  have h2:rv (canQ x.2.2[i].2.1)=0:=hc.2
  rw[qae] at h2
  rw[h2] at hp
  exact absurd hp (by decide))] at e
 have e2:(encL x).2.2=encW x.2.2:=rfl
 rw[e2,qBg,qhC] at e
 exact e
theorem qAs {w:List AP} {n i:Nat} (h:qfc w 70 n) (hl:w.length≤8) (hi:i<w.length):qe2 (polL w.length (ekP (qa1 w i))) (w.length:Int)=some (canQ (sumP w i),0):=by
 have ho:=h.out hi
 have hol:=qdp hi
 have hz:∀ t,SzQ (ekP (qa1 w i) t) 20000:=fun t=>(qzY ho.sz t).mono (ekS8 (by decide) (by omega))
 have e:=qBQ (p:=polL w.length (ekP (qa1 w i))) (n:=w.length) (k:=20000) (LSz.polL (by omega) fun t _=>hz t) (by decide) (by decide) (by omega) (by omega)
 have hle:=qhc (ekP (qa1 w i)) w.length
 rw[qmt,if_pos hle] at e
 rw[e]
 have es:rsum (fun j=>wq j w.length*vals (polL w.length (ekP (qa1 w i))) j) (topN (ekP (qa1 w i)) w.length)=sumP w i:=by
  unfold sumP
  rw[← qwV (f:=fun j=>wq j w.length*vals (polL w.length (ekP (qa1 w i))) j) (n:=topN (ekP (qa1 w i)) w.length) (m:=w.length) (fun j hj=>by
   rw[qil (by rw[qmt];exact hj),Rat.mul_zero]) hle]
  refine qex fun j hj=>?_
  rw[qtI,if_pos hj]
  unfold wtP
  rw[hol]
 rw[es]
theorem qC0 {n:Nat} {row:List CELL} {ts:List (List NODE)} {c1 c2 c3 c4:Int} {lg:List LEG} {x:AL} {o:Nat→Rat} (h:qfc x.2.2 70 n) (hl:x.2.2.length≤8) (hv:SzQ x.2.1 4) (ho:∀ f,f<n→SzQ (o f) 100000000000) (hn:n≤1000) :
  lp qaY K0 ((row,ts,c1,c2,lg,c3,c4,encW x.2.2,((encW x.2.2).length:Int),0,()),((flo n o,()),((x.1:Int),(canQ x.2.1).1.1,(canQ x.2.1).1.2,(canQ x.2.1).2,encW x.2.2,()),())) =
   some ((row,ts,c1,c2,lg,c3,c4,()),((flo n (fun f=>o f+qo8 x.2.2 x.2.1 f),()),())):=by
 obtain⟨P,eP⟩:∃ P,P=x.2.2:=⟨_,rfl⟩
 obtain⟨v,ev⟩:∃ v,v=x.2.1:=⟨_,rfl⟩
 have hW0:=fun i hi=>qwA (x:=x) (n:=n) (i:=i) h hl hi
 rw[← eP] at h hl hW0
 rw[← ev] at hv
 have hW:∀ i,i<P.length→qcU ((x.1:Int),(((canQ v).1.1,(canQ v).1.2),(canQ v).2),encW P) (i:Int)=some (polL P.length (ekP (qa1 P i)),0):=fun i hi=>by
  have:=hW0 i hi
  rw[ev,eP]
  rw[eP] at this
  exact this
 rw[← eP,← ev]
 have vsz:SzQ v 200:=hv.mono (by decide)
 have key:=qfu (step:=qaY) (fun j=>((row,ts,c1,c2,lg,c3,c4,encW P,((encW P).length:Int),(j:Int),()),((flo n (fun f=>o f+rsum (lfT P v f) j),()),((x.1:Int),(canQ v).1.1,(canQ v).1.2,(canQ v).2,encW P,()),()))) P.length
  (r:=((row,ts,c1,c2,lg,c3,c4,()),((flo n (fun f=>o f+rsum (lfT P v f) P.length),()),()))) (by omega) (by
  intro g j hj
  have el:=qhC P
  have d0:(j:Int)<((encW P).length:Int):=by omega
  have d1:(0:Int)≤(j:Int):=by omega
  have g1:=qos hj
  have q1:iadd .i64 (j:Int) 1=((j+1:Nat):Int):=qa4 (by omega)
  have w1:=hW j hj
  have w2:=qAs h hl hj
  have zp:SzQ P[j].2.1 70:=h.sz _ (gM0 hj)
  have n1:=qll (zp.sm (by decide))
  rw[qae] at n1
  have hfl:P[j].1<n:=h.lt _ (gM0 hj)
  obtain⟨F,hF⟩:∃ F,F=P[j].1:=⟨_,rfl⟩
  rw[← hF] at hfl
  have zn:SzQ (-P[j].2.1) 74:=zp.neg.mono (by decide)
  have c1':(0:Int)≤((F:Nat):Int):=by omega
  have c2':((F:Nat):Int)<((flo n (fun f=>o f+rsum (lfT P v f) j)).length:Int):=by rw[qaB];omega
  have g2:=qe4 (n:=n) (f:=F) (fun f=>o f+rsum (lfT P v f) j) hfl
  have zs:=qvB h (by decide) hl hj
  have zr:SzQ (o F+rsum (lfT P v F) j) 100010000000:=by
   have h1:SzQ (rsum (lfT P v F) j) (1+j*(180000+1)):=qkl j (fun i hi=>qw6 h (by decide) hl vsz F (by omega))
   have:j*(180000+1)≤8*(180000+1):=Nat.mul_le_mul_right _ (by omega)
   exact((ho F hfl).add h1).mono (by omega)
  have hset:∀ y,y=o F+rsum (lfT P v F) (j+1)→(flo n (fun f=>o f+rsum (lfT P v f) j)).set F (canQ y)=flo n (fun f=>o f+rsum (lfT P v f) (j+1)):=fun y hy=>by
   refine qtk hy.symm fun f hf=>?_
   rw[rsum,qm4 hj,if_neg (by rw[← hF];exact fun e=>hf e.symm),Rat.add_zero]
  have e1:(encP P[j]).1=(F:Int):=by rw[hF];rfl
  have e2:(encP P[j]).2.2=P[j].2.2:=rfl
  rw[qaY,cnd d0,cnd d1,tN0,g1,bS0,w1,bS0,el]
  dsimp only
  rw[w2,bS0]
  show(qgA (canQ P[j].2.1)).bind _=_
  rw[n1,bS0,e1,e2,q1]
  cases hok:P[j].2.2 with
  | true =>
   have a1:=qce (zn.sm (by decide)) (SzQ.one.sm (by decide))
   rw[qae,qae] at a1
   have z1:SzQ (-P[j].2.1+1) 100:=(zn.add SzQ.one).mono (by decide)
   have m1:=qan (z1.sm (by decide)) (zs.sm (by decide))
   rw[qae,qae] at m1
   have z2:SzQ ((-P[j].2.1+1)*sumP P j) 170100:=(z1.mul zs).mono (by omega)
   have m2:=qan (z2.sm (by decide)) (vsz.sm (by decide))
   rw[qae,qae] at m2
   have m2:qah (canQ ((-P[j].2.1+1)*sumP P j)) (((canQ v).1.1,(canQ v).1.2),(canQ v).2)=_:=m2
   have z3:SzQ ((-P[j].2.1+1)*sumP P j*v) 170300:=(z2.mul vsz).mono (by omega)
   have a2:=qce (zr.sm (by decide)) (z3.sm (by decide))
   rw[qae,qae] at a2
   have hx:=hset (o F+rsum (lfT P v F) j+(-P[j].2.1+1)*sumP P j*v) (by
    rw[rsum,qm4 hj,if_pos hF.symm,hok];simp only[one0,if_true];grind)
   have hc:qcf (F:Int) (canQ ((-P[j].2.1+1)*sumP P j*v)) (flo n (fun f=>o f+rsum (lfT P v f) j))=some (flo n (fun f=>o f+rsum (lfT P v f) (j+1))):=by
    rw[qcf,cnd2 c1' c2',tN0,g2,bS0,a2,bS0,cnd2 c1' c2',bS0,hx]
   rw[cond_true,qf8,bS0,a1,bS0,m1,bS0,m2,bS0,hc,bS0]
  | false =>
   have m1:=qan (zn.sm (by decide)) (zs.sm (by decide))
   rw[qae,qae] at m1
   have z2:SzQ (-P[j].2.1*sumP P j) 170100:=(zn.mul zs).mono (by omega)
   have m2:=qan (z2.sm (by decide)) (vsz.sm (by decide))
   rw[qae,qae] at m2
   have m2:qah (canQ (-P[j].2.1*sumP P j)) (((canQ v).1.1,(canQ v).1.2),(canQ v).2)=_:=m2
   have z3:SzQ (-P[j].2.1*sumP P j*v) 170300:=(z2.mul vsz).mono (by omega)
   have a2:=qce (zr.sm (by decide)) (z3.sm (by decide))
   rw[qae,qae] at a2
   have hx:=hset (o F+rsum (lfT P v F) j+-P[j].2.1*sumP P j*v) (by
    rw[rsum,qm4 hj,if_pos hF.symm,hok];simp only[one0,Bool.false_eq_true,if_false];grind)
   have hc:qcf (F:Int) (canQ (-P[j].2.1*sumP P j*v)) (flo n (fun f=>o f+rsum (lfT P v f) j))=some (flo n (fun f=>o f+rsum (lfT P v f) (j+1))):=by
    rw[qcf,cnd2 c1' c2',tN0,g2,bS0,a2,bS0,cnd2 c1' c2',bS0,hx]
   rw[cond_false,m1,bS0,m2,bS0,hc,bS0]) (by
  intro g
  rw[qaY,cnd' (by rw[qhC];omega)])
 have e0:flo n (fun f=>o f+rsum (lfT P v f) 0)=flo n o:=qfS fun f _=>Rat.add_zero _
 rw[e0] at key
 exact key
theorem qBh {P:List AP} {n:Nat} {v:Rat} (h:qfc P 70 n) (hl:P.length≤8) (hv:SzQ v 4) (f:Nat):SzQ (qo8 P v f) 1500000:=by
 have h1:=qkl (k:=180000) P.length (fun i hi=>qw6 h (by decide) hl (hv.mono (by decide)) f hi)
 have h1:SzQ (qo8 P v f) _:=h1
 have:P.length*(180000+1)≤8*(180000+1):=Nat.mul_le_mul_right _ hl
 exact h1.mono (by omega)
def addL (l:List AL) (k f:Nat):Rat:=lsum ((l.take k).map fun x=>qo8 x.2.2 x.2.1 f)
theorem qvq {l:List AL} {k:Nat} (h:k<l.length) (f:Nat):addL l (k+1) f=addL l k f+qo8 l[k].2.2 l[k].2.1 f:=by
 unfold addL
 rw[qgJ _ h,qhq]
 simp only[lsum,Rat.add_zero]
theorem qzG {n:Nat} {row:List CELL} {ts:List (List NODE)} {c1 c2:Int} {l:List AL} {o:Nat→Rat} {S:Nat} (hA:∀ x∈l,qfc x.2.2 70 n∧x.2.2.length≤8∧SzQ x.2.1 4) (ho:∀ f,f<n→SzQ (o f) S) (hS:S≤50000000000) (hn:n≤1000) (hl:l.length≤15) :
  lp qbm K0 ((row,ts,c1,c2,l.map encL,((l.map encL).length:Int),0,()),((flo n o,()),()))=some ((row,ts,c1,c2,()),((flo n (fun f=>o f+addL l l.length f),()),()))∧∀ f,f<n→SzQ (o f+addL l l.length f) (S+30000000):=by
 have sz:∀ k,k≤l.length→∀ f,f<n→SzQ (o f+addL l k f) (S+2+1500002*k):=by
  intro k
  induction k with
  | zero =>
   intro _ f hf
   have:addL l 0 f=0:=rfl
   rw[this,Rat.add_zero]
   exact(ho f hf).mono (by omega)
  | succ k ih =>
   intro hk f hf
   rw[qvq (by omega),← Rat.add_assoc]
   obtain⟨h1,h2,h3⟩:=hA _ (gM0 (show k<l.length by omega))
   exact((ih (by omega) f hf).add (qBh h1 h2 h3 f)).mono (by omega)
 refine⟨?_,fun f hf=>(sz l.length (Nat.le_refl _) f hf).mono (by omega)⟩
 have key:=qfu (step:=qbm) (fun j=>((row,ts,c1,c2,l.map encL,((l.map encL).length:Int),(j:Int),()),((flo n (fun f=>o f+addL l j f),()),()))) l.length
  (r:=((row,ts,c1,c2,()),((flo n (fun f=>o f+addL l l.length f),()),()))) (by omega) (by
  intro g j hj
  obtain⟨h1,h2,h3⟩:=hA _ (gM0 hj)
  have lm:(l.map encL).length=l.length:=by simp
  have hp:=qC0 (n:=n) (row:=row) (ts:=ts) (c1:=c1) (c2:=c2) (c3:=((l.map encL).length:Int)) (c4:=(j:Int)) (lg:=l.map encL) (x:=l[j]) (o:=fun f=>o f+addL l j f) h1 h2 h3 (fun f hf=>(sz j (by omega) f hf).mono (by omega)) hn
  have gj:(l.map encL)[j]?=some (encL l[j]):=by simp [hj]
  have e:flo n (fun f=>o f+addL l j f+qo8 l[j].2.2 l[j].2.1 f)=flo n (fun f=>o f+addL l (j+1) f):=qfS fun f _=>by rw[qvq hj,Rat.add_assoc]
  rw[e] at hp
  have d0:(j:Int)<((l.map encL).length:Int):=by omega
  rw[qbm,cnd d0,cnd2 (by omega) d0,tN0,gj,bS0]
  show(lp qaY K0 ((row,ts,c1,c2,l.map encL,((l.map encL).length:Int),(j:Int),encW l[j].2.2,((encW l[j].2.2).length:Int),0,()),((flo n (fun f=>o f+addL l j f),()),((l[j].1:Int),(canQ l[j].2.1).1.1,(canQ l[j].2.1).1.2,(canQ l[j].2.1).2,encW l[j].2.2,()),()))).bind _=_
  rw[hp,bS0,qa4 (by omega)]
  rfl) (by
  intro g
  have lm:(l.map encL).length=l.length:=by simp
  rw[qbm,cnd' (by omega)])
 have e0:flo n (fun f=>o f+addL l 0 f)=flo n o:=qfS fun f _=>Rat.add_zero _
 rw[e0] at key
 exact key
theorem qAy {m:qbf} {row:List CELL} (h:Askd m row):qei m row=some (flo row.length (qvO m row (-1) false),0):=by
 obtain⟨e,_,h1,h2⟩:=qCm (row:=row) (by have:=h.ml;omega) (fun t ht=>by have:=h.mt t ht;omega) h.ms
 have e0:e=0:=h2.2 ⟨h.good,h.len⟩
 subst e0
 obtain⟨n,hn⟩:∃ n,n=row.length:=⟨_,rfl⟩
 have hlen:=h.len
 have hmn:m.1=(n:Int):=by omega
 have h64:n≤64:=by rw[hn];exact h.f64
 have ml:=h.ml
 have key1:=qfu (step:=qbz) (fun i=>((row,(n:Int),(i:Int),()),((m.1,m.2,()),(flx n (fun f=>if f<i then canQ 0 else zR),()),()))) n (r:=((row,()),((m.1,m.2,()),(flo n (fun _=>0),()),()))) (by omega) (by
  intro g i hi
  have d2:(i:Int)<((flx n (fun f=>if f<i then canQ 0 else zR)).length:Int):=by rw[qkN];omega
  have hset:(flx n (fun f=>if f<i then canQ 0 else zR)).set i (canQ 0)=flx n (fun f=>if f<i+1 then canQ 0 else zR):=qtj (if_pos (by omega)) fun f hf=>by
    by_cases h:f<i
    · rw[if_pos h,if_pos (by omega)]
    · rw[if_neg h,if_neg (by omega)]
  rw[qbz,cnd (by omega),qea,bS0,cnd2 (by omega) d2,tN0,qnn _ hi,bS0,hset,qa4 (by omega)]
  rfl) (by
  intro g
  have:flx n (fun f=>if f<n then canQ 0 else zR)=flo n (fun _=>0):=qor fun f hf=>if_pos hf
  rw[qbz,cnd' (by omega),this])
 have tree:∀ j (hj:j<m.2.length),qhu m.2[j] row=some ((qgt m.2[j] row (treeOf m.2[j]) []).map encL,0)∧(∀ x∈qgt m.2[j] row (treeOf m.2[j]) [],qfc x.2.2 70 n∧x.2.2.length≤8∧SzQ x.2.1 4)∧(qgt m.2[j] row (treeOf m.2[j]) []).length≤15 ∧
    ∀ f,f<n→addL (qgt m.2[j] row (treeOf m.2[j]) []) (qgt m.2[j] row (treeOf m.2[j]) []).length f=trV m.2[j] row (-1) false f:=fun j hj=>by
  obtain⟨t1,t2,t3,t4,t5⟩:=h.tree hj
  rw[t5] at t2
  obtain⟨d1,d2⟩:=h.deep8 hj
  have L:=qDN (t:=m.2[j]) (h.mt _ (gM0 hj)) t1 h.cs (h.goodT hj) h.f64
  refine⟨L.1,fun x hx=>?_,?_,fun f hf=>?_⟩
  · have hp := quU t1 (h.cov hj) t2 d1 x hx
    exact⟨by rw[hn];exact hp.1,hp.2,(L.2.1 x hx).2⟩
  · rw [qop]
    have:=qkL (treeOf m.2[j])
    omega
  · rw[qAL t1 (h.cov hj) t2 d1 (by omega),addL,List.take_of_length_le (Nat.le_refl _)]
 have sz:∀ j,j≤m.2.length→∀ f,f<n→SzQ (rsum (fun j=>trV (qfE m j) row (-1) false f) j) (1+30000000*j):=by
  intro j
  induction j with
  | zero=>intro _ f _;exact SzQ.zero
  | succ j ih =>
    intro hj f hf
    obtain⟨a1,a2,a3,a4⟩:=tree j (by omega)
    have:=(qzG (n:=n) (row:=row) (ts:=[]) (c1:=0) (c2:=0) (o:=fun f=>rsum (fun j=>trV (qfE m j) row (-1) false f) j) a2 (ih (by omega)) (by omega) (by omega) a3).2 f hf
    rw[a4 f hf] at this
    rw[rsum,qmq (show j<m.2.length by omega)]
    exact this.mono (by omega)
 have key2:=qfu (step:=qbn) (fun j=>((row,m.2,(m.2.length:Int),(j:Int),()),((flo n (fun f=>rsum (fun j=>trV (qfE m j) row (-1) false f) j),()),()))) m.2.length (r:=((),((flo n (qvO m row (-1) false),()),()))) (by omega) (by
  intro g j hj
  obtain⟨a1,a2,a3,a4⟩:=tree j hj
  have hl:=(qzG (n:=n) (row:=row) (ts:=m.2) (c1:=(m.2.length:Int)) (c2:=(j:Int)) (o:=fun f=>rsum (fun j=>trV (qfE m j) row (-1) false f) j) a2 (sz j (by omega)) (by omega) (by omega) a3).1
  have e:flo n (fun f=>rsum (fun j=>trV (qfE m j) row (-1) false f) j+addL (qgt m.2[j] row (treeOf m.2[j]) []) (qgt m.2[j] row (treeOf m.2[j]) []).length f)=flo n (fun f=>rsum (fun j=>trV (qfE m j) row (-1) false f) (j+1)):=qfS fun f hf=>by
    rw[a4 f hf]
    show _=rsum _ (j+1)
    rw[rsum,qmq hj]
  rw[e] at hl
  rw[qbn,cnd (by omega),cnd (by omega),tN0,gE0 hj,bS0,a1,bS0]
  dsimp only
  rw[hl,bS0,qa4 (by omega)]
  rfl) (by
  intro g
  rw[qbn,cnd' (by omega)]
  rfl)
 have z0:List.replicate n (((false,[]),[]):RAT)=flx n (fun f=>if f<0 then canQ 0 else zR):=by
  rw[flx]
  refine(List.eq_replicate_iff.2 ⟨by simp,fun x hx=>?_⟩).symm
  obtain⟨j,_,rfl⟩:=List.mem_map.1 hx
  exact if_neg (by omega)
 rw[← z0] at key1
 have key1:lp qbz K0 ((row,(n:Int),0,()),((m.1,m.2,()),(List.replicate n (((false,[]),[]):RAT),()),()))=_:=key1
 have key2:lp qbn K0 ((row,m.2,(m.2.length:Int),0,()),((flo n (fun _=>0),()),()))=_:=key2
 have c1:(decide ((n:Int)=(n:Int))&&decide (0≤(n:Int))&&decide (((56:Nat):Int)*(n:Int)≤281474976710656)&&decide ((n:Int)≤9223372036854775807))=true:=by
  simp only[Bool.and_eq_true,decide_eq_true_eq]
  refine⟨⟨⟨trivial,by omega⟩,?_⟩,by omega⟩
  show(56:Int)*(n:Int)≤281474976710656
  omega
 rw[hmn] at key1
 rw[qei,h1,bS0,show(!decide ((0:Int)=0))=false by decide,cond_false,hmn,c1,cond_true,tN0,List.length_replicate,key1,bS0]
 dsimp only
 rw[key2,bS0,hn]
theorem qyE {m:qbf} {row:List CELL} {e:Int} (h:qez m row=some e) (he:e≠0):qei m row=some ([],e):=by
 rw[qei,h,bS0,decide_eq_false he];rfl
theorem qpk (m0:qbf) (row0:List CELL) (hl:m0.2.length≤9223372036854775807) (ht:∀ t∈m0.2,t.length≤9223372036854775807) (hr:row0.length≤9223372036854775807):qcr m0 row0=some true:=by
 obtain⟨m,row,hs,ms,ml,mt,cs⟩:=qBU m0 row0 hl ht hr
 obtain⟨b,hv,hb⟩:=qDL (m:=m) (by omega) (fun t h=>by have:=mt t h;omega) ms (by decide)
 obtain⟨r1,r2⟩:=qCw hv row
 rw[qcr,hs,bS0]
 dsimp only
 by_cases he:whyR b m row=0
 · have hbt : b = true := by cases b with
    | true=>rfl
    | false=>exact absurd he (by rw[whyR,if_neg (by decide)];decide)
   subst hbt
   have hlen:(row.length:Int)=m.1:=by
    apply Classical.byContradiction
    intro hn
    rw[whyR,if_pos rfl,if_neg hn] at he
    exact absurd he (by decide)
   have ha:Askd m row:=⟨hb.1 rfl,hlen,ms,by omega,mt,cs⟩
   have h64:=ha.f64
   obtain⟨V,eV⟩:∃ V,V=qvO m row (-1) false:=⟨_,rfl⟩
   have lv:=qaB row.length V
   have fz:∀ f,f<row.length→SzQ (V f) 1500000000:=fun f hf=>by rw[eV];exact qAZ ha (-1) false hf
   have A:=qAy ha
   have B:=qwB ha
   rw[← eV] at A B
   have key:=qfu (step:=qaf) (fun i=>((flo row.length V,flo row.length V,(i:Int),()),())) row.length (r:=.inl ((),())) (by omega) (by
    intro g i hi
    have d0:(i:Int)<((flo row.length V).length:Int):=by omega
    have d1:(0:Int)≤(i:Int):=by omega
    have hI:=qDs (fz i hi) (by decide) (fz i hi) (by decide) rfl
    rw[qaf,cnd d0,cnd2 d1 d0,tN0,qe4 _ hi,bS0,cnd2 d1 d0,bS0,hI,bS0,Bool.not_true,cond_false,qa4 (by omega)]
    rfl) (by
    intro g
    rw[qaf,cnd' (by omega)])
   have key:lp qaf K0 ((flo row.length V,flo row.length V,0,()),())=_:=key
   rw[he] at r2
   rw[A,bS0,B,bS0]
   dsimp only
   rw[show(!decide ((0:Int)=0))=false by decide,cond_false,r2,bS0,show(!decide ((0:Int)=0))=false by decide,cond_false,decide_eq_true rfl,Bool.not_true,cond_false,key,bS0]
   dsimp only
   rw[qm5];rfl
 · have key := qfu (step := qaf) (fun i => ((([] : List RAT), ([] : List RAT), (i : Int), ()), ())) 0 (r := .inl ((), ())) (by omega) (fun g i hi => by omega) (by
    intro g
    rw[qaf,cnd' (by simp)])
   have key:lp qaf K0 (([],[],0,()),())=_:=key
   rw[qyE r1 he,bS0,qvr r1 he,bS0]
   dsimp only
   rw[decide_eq_true rfl,Bool.not_true,cond_false,r2,bS0,decide_eq_true rfl,Bool.not_true,cond_false,decide_eq_true rfl,Bool.not_true,cond_false,key,bS0]
   dsimp only
   rw[qm5];rfl
end Go.Proofs.YtemlifeamdpjeaaGreatDoor.X
