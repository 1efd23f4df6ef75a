/- Own work: part of the proof; the first line of each part says what it tells. -/
import Derived.Test.YtiefddjokkihdaaGreatDoorLa9
open Rat renaming add_zero->j9,zero_mul->jo,zero_add->ju,one_mul->jz,div_def->jG,sub_eq_add_neg->jV
open List renaming Perm->ja,map_nil->jd,map_append->je,map_cons->jg,length_take->ji,mem_map->jj,getElem?_eq_none->jk,length_append->jn,map_map->jq,mem_append->jr,map_congr_left->js,mem_singleton->jt,append_nil->jw,length_singleton->jx,range_succ->jy,nodup_cons->jB,ext_getElem?->jC,mem_range->jD,perm_append_comm->jF,length_cons->jH,getElem?_set->jL,replicate->jM,getElem?_append_left->jN,getElem?_take->jO,getElem?_append_right->jP,getElem?_drop->jR,nil_append->jS,mem_cons->jT,length_map->jU,Pairwise->jW
open Nat renaming mul_le_mul_right->jb,le_refl->jp,beq_refl->jv,pow_le_pow_right->jA,pow_succ->jI,add_sub_cancel->jK,min_eq_left->jQ,testBit_lt_two_pow->jX,lt_of_le_of_lt->jZ
open Bool renaming false_eq_true->jc,not_true->jf,false_or->jh,not_false->jm,and_eq_true->jE,true_or->jY
open Int renaming natCast_nonneg->jJ


namespace Go.Proofs.YtiefddjokkihdaaGreatDoor.X
open Go
set_option linter.unusedVariables false
set_option linter.unusedSimpArgs false
def qbY (P:List AP) (a:Nat):List AP:=P.take a++P.drop (a+1)
theorem qeM {P:List AP} {a:Nat} (h:a<P.length):(qbY P a).length+1=P.length:=by simp [qbY];omega
theorem qkP {P:List AP} {a:Nat} (h:a<P.length):P.Perm (P[a]::qbY P a):=by
 have e:P=P.take a++P[a]::P.drop (a+1):=by rw[<- List.drop_eq_getElem_cons h,List.take_append_drop]
 have:(P.take a++P[a]::P.drop (a+1)).Perm (P[a]::(P.take a++P.drop (a+1))):=List.perm_middle;exact(ja.of_eq e).trans this
theorem qr5 {P:List AP} {a:Nat}:∀ p∈qbY P a,p∈P:=fun p hp=>by
 rcases jr.1 hp with h | h
 · exact List.mem_of_mem_take h
 · exact List.mem_of_mem_drop h
theorem quA {P:List AP} {a:Nat} (h:a<P.length) (k:Nat):ekP P k=P[a].2.1*ekP (qbY P a) k+(if k=0 then 0 else one0 P[a].2.2*ekP (qbY P a) (k-1)):=by
 rw[qyz (qkP h)];rfl
theorem qif.out {P:List AP} {k g:Nat} (h:qif P k g) {a:Nat} (ha:a<P.length):qif (qbY P a) k g:=by
 have hp:=(qkP ha).map (·.1);have hn:=hp.nodup_iff.1 h.nd;exact⟨(jB.1 hn).2,fun p hp=>h.sz p (qr5 p hp),by have:=qeM ha;have:=h.len;omega,fun p hp=>h.lt p (qr5 p hp),fun p hp=>h.pos p (qr5 p hp)⟩
theorem qif.notin {P:List AP} {k g:Nat} (h:qif P k g) {a:Nat} (ha:a<P.length):∀ p∈qbY P a,p.1≠P[a].1:=by
 have hp:=(qkP ha).map (·.1);have hn:=jB.1 (hp.nodup_iff.1 h.nd);intro p hp e;exact hn.1 (jj.2 ⟨p,hp,e⟩)
theorem qFC {P:List AP} {a i:Nat} (ha:a<P.length) (hi:i<P.length) (hz:P[a].2.1≠0) (hok:P[a].2.2=false) :
  wtP P i*(((P.length+1:Nat):Rat)/((P.length-i:Nat):Rat))*P[a].2.1⁻¹=wtP (qbY P a) i:=by
 have hl:=qeM ha;unfold wtP;rw[quA ha,hok,qtL (i:=i) (n:=P.length) hi,show(qbY P a).length+1=P.length by omega];have n1:=qqa (show 0<P.length-i by omega);have n2:=qqa (show 0<P.length+1 by omega);generalize wq i P.length=x;generalize ekP (qbY P a) i=y;generalize ekP (qbY P a) (i-1)=y2;generalize ((P.length-i:Nat):Rat)=u at *;generalize ((P.length+1:Nat):Rat)=v at *;generalize P[a].2.1=z at *;simp only[one0,jc,if_false,jo,ite_self,j9]
 grind
def nxP (P:List AP) (a i:Nat):Rat:=wq (i+1) (P.length+1)*ekP (qbY P a) i
theorem qEO {P:List AP} {a i:Nat} (ha:a<P.length) (hi:i<P.length):nxP P a i*(((P.length+1:Nat):Rat)/((i+1:Nat):Rat))=wtP (qbY P a) i:=by
 have hl:=qeM ha;unfold wtP nxP;rw[qz3 (i:=i) (n:=P.length) hi,show(qbY P a).length+1=P.length by omega];have n1:=qqa (show 0<i+1 by omega);have n2:=qqa (show 0<P.length+1 by omega);generalize wq i P.length=x;generalize ekP (qbY P a) i=y;generalize ((i+1:Nat):Rat)=u at *;generalize ((P.length+1:Nat):Rat)=v at *
 grind
theorem qCT {P:List AP} {a i:Nat} (ha:a<P.length) (hi:i<P.length) (hok:P[a].2.2=true) :
  wtP P i-wtP (qbY P a) i*P[a].2.1*(((P.length-i:Nat):Rat)/((P.length+1:Nat):Rat))=if i=0 then 0 else nxP P a (i-1):=by
 have hl:=qeM ha;unfold wtP nxP;rw[quA ha,hok,qtL (i:=i) (n:=P.length) hi,show(qbY P a).length+1=P.length by omega];cases i with
 | zero =>
  simp only[if_true];generalize wq 0 P.length=x;generalize ekP (qbY P a) 0=y;generalize P[a].2.1=z at *
  grind
 | succ i =>
  rw[if_neg (by omega),if_neg (by omega),jK,qtL (i:=i+1) (n:=P.length) hi];generalize wq (i+1) P.length=x;generalize ekP (qbY P a) (i+1)=y;generalize ekP (qbY P a) i=y2;generalize P[a].2.1=z at *;simp only[one0,if_true]
  grind
theorem qEN {P:List AP} {a:Nat} (ha:a<P.length) (hok:P[a].2.2=true):wtP P P.length=nxP P a (P.length-1):=by
 have hl:=qeM ha;unfold wtP nxP;rw[quA ha,hok,qBB (qbY P a) (by omega),if_neg (by omega),show P.length-1+1=P.length by omega];simp only[one0,if_true]
 grind
theorem qF5 {P:List AP} {k g a:Nat} (h:qif P k g) (ha:a<P.length) (hk:k<=70) {i:Nat} (hi:i<P.length):SzQ (nxP P a i) 100000000:=by
 have hl:=qeM ha;have h2:=h.out ha;have hS:=qwb (k:=k) (n:=(qbY P a).length) hk h2.len;have:=h.len;exact((quO (s:=i+1) (n:=P.length+1) (by omega) (by omega)).mul (qD9 h2.sz i)).mono (by omega)
def bkL (n i:Nat) (w:Nat->Rat):List RAT:=(List.range n).map fun j=>if i<=j then canQ (w j) else zR
theorem qnq (n i:Nat) (w:Nat->Rat):(bkL n i w).length=n:=by simp [bkL]
theorem qsL {n i j:Nat} (w:Nat->Rat) (h:j<n):(bkL n i w)[j]?=some (if i<=j then canQ (w j) else zR):=by simp [bkL,h]
theorem qFl {n i:Nat} (w:Nat->Rat):(bkL n (i+1) w).set i (canQ (w i))=bkL n i w:=by
 refine jC fun j=>?_
 rw[jL];by_cases e:i=j
 · subst e;by_cases hi:i<n
   · rw[if_pos rfl,if_pos (by rw[qnq];exact hi),qsL w hi,if_pos (jp _)]
   · rw[if_pos rfl,if_neg (by rw[qnq];exact hi),jk (by rw[qnq];omega)]
 · rw [if_neg e];by_cases hj:j<n
   · rw [qsL w hj, qsL w hj];by_cases h:i<=j
     · rw[if_pos (by omega),if_pos h]
     · rw[if_neg (by omega),if_neg h]
   · rw[jk (by rw[qnq];omega),jk (by rw[qnq];omega)]
theorem qDy (n:Nat) (w:Nat->Rat):bkL n n w=jM n zR:=by
 rw[List.eq_replicate_iff];refine⟨qnq _ _ _,fun x hx=>?_⟩;obtain⟨j,hj,rfl⟩:=jj.1 hx;have:=jD.1 hj;exact if_neg (by omega)
theorem qFm (n:Nat) (w:Nat->Rat):bkL n 0 w=flo n w:=js fun j _=>if_pos (Nat.zero_le _)
theorem qtg {P:List AP} {k g:Nat} (h:qif P k g) (hk:k<=70) {a:Nat} (ha:a<P.length) :
  qb3 ((a+1:Nat):Int) (encK P (wtP P))=some (flo P.length (wtP (qbY P a)),encK P (wtP P)):=by
 have hl:=qeM ha;have hl2:=h.len;have el:=qed P (wtP P);obtain⟨n,en⟩:∃ n,n=P.length:=⟨_,rfl⟩;have hS:=qwb (k:=k) (n:=P.length) hk (by omega);have wsz:∀ i,i<=P.length->SzQ (wtP P i) 100000000:=fun i hi=>(qxN h.sz hl2 hi).mono (by omega)
 have hQ:=h.out ha;have hS2:=qwb (k:=k) (n:=(qbY P a).length) hk hQ.len;have qsz:∀ i,i<P.length->SzQ (wtP (qbY P a) i) 100000000:=fun i hi=>(qxN hQ.sz hQ.len (by omega)).mono (by omega)
 have hz:SzQ P[a].2.1 k:=h.sz _ (gM0 ha);have hpos:=h.pos _ (gM0 ha);have hz0:P[a].2.1≠0:=by intro e;rw[e] at hpos;exact absurd hpos (by decide)
 obtain⟨L,eL⟩:∃ L,L=lkF P (wtP P) (a+1):=⟨_,rfl⟩;have eL':=eL;rw[qpq ha] at eL';have L1:L.2.1=canQ P[a].2.1:=by rw[eL']
 have L2:L.2.2.1=P[a].2.2:=by rw[eL']
 obtain⟨nx,hnx⟩:∃ nx:Nat->Rat,nx=fun m=>if P[a].2.2 then (if m<n then nxP P a (n-1-m) else 0) else wtP P n:=⟨_,rfl⟩
 obtain⟨ov,hov⟩:∃ ov:Rat,ov=P[a].2.1⁻¹:=⟨_,rfl⟩;have pn1:iadd .i64 ((n:Nat):Int) 1=((n+1:Nat):Int):=qaV (by omega);have key:=qfM (step:=qaq) (fun m=>(((n:Int),bkL n (n-m) (wtP (qbY P a)),((n:Nat):Int)-1-(m:Int),()),((L.1,L.2.1.1.1,L.2.1.1.2,L.2.1.2,L.2.2.1,L.2.2.2.1.1,L.2.2.2.1.2,L.2.2.2.2,()),((canQ ov).1.1,(canQ ov).1.2,(canQ ov).2,()),((canQ (nx m)).1.1,(canQ (nx m)).1.2,(canQ (nx m)).2,()),(encK P (wtP P),()),()))) n
  (r:=((bkL n 0 (wtP (qbY P a)),()),((encK P (wtP P),()),()))) (by omega) (by
  intro g m hm;obtain⟨i,hi⟩:∃ i,n=i+m+1:=⟨n-m-1,by omega⟩;have ei:((n:Nat):Int)-1-(m:Int)=(i:Int):=by omega
  have ei2:((n:Nat):Int)-1-((m+1:Nat):Int)=(i:Int)-1:=by omega
  have en1:n-m=i+1:=by omega
  have en2:n-(m+1)=i:=by omega
  have d0:((i:Nat):Int)>=0:=by omega
  have d1:(0:Int)<=(i:Int):=by omega
  have d2:(i:Int)<((encK P (wtP P)).length:Int):=by rw[el];omega
  have d3:(i:Int)<((bkL n (i+1) (wtP (qbY P a))).length:Int):=by rw[qnq];omega
  have g1:=qd2 (P:=P) (w:=wtP P) (i:=i) (by omega);have g2:=qsL (n:=n) (i:=i+1) (j:=i) (wtP (qbY P a)) (by omega);have q2:isub .i64 (n:Int) (i:Int)=((n-i:Nat):Int):=by rw[qci (by omega) (by omega)];omega
  have q3:isub .i64 (i:Int) 1=(i:Int)-1:=by rw[qci (by omega) (by omega)]
  have q1:iadd .i64 (i:Int) 1=((i+1:Nat):Int):=qaV (by omega);have hset:=qFl (n:=n) (i:=i) (wtP (qbY P a));show qaq g (((n:Int),bkL n (n-m) (wtP (qbY P a)),((n:Nat):Int)-1-(m:Int),()),((L.1,L.2.1.1.1,L.2.1.1.2,L.2.1.2,L.2.2.1,L.2.2.2.1.1,L.2.2.2.1.2,L.2.2.2.2,()),((canQ ov).1.1,(canQ ov).1.2,(canQ ov).2,()),((canQ (nx m)).1.1,(canQ (nx m)).1.2,(canQ (nx m)).2,()),(encK P (wtP P),()),()))=g (((n:Int),bkL n (n-(m+1)) (wtP (qbY P a)),((n:Nat):Int)-1-((m+1:Nat):Int),()),((L.1,L.2.1.1.1,L.2.1.1.2,L.2.1.2,L.2.2.1,L.2.2.2.1.1,L.2.2.2.1.2,L.2.2.2.2,()),((canQ ov).1.1,(canQ ov).1.2,(canQ ov).2,()),((canQ (nx (m+1))).1.1,(canQ (nx (m+1))).1.2,(canQ (nx (m+1))).2,()),(encK P (wtP P),()),()));rw[ei,ei2,en1,en2,qaq,cnd d0,L2];cases hok:P[a].2.2 with
  | false =>
   have f1:=qso (a:=n+1) (b:=n-i) (by omega) (by omega);have s1:=qqn (a:=n+1) (b:=n-i) (by omega) (by omega);have hw:=wsz i (by omega);have m1:=qax (hw.sm (by decide)) (s1.sm (by decide));rw[qae,qae] at m1;have z1:SzQ (wtP P i*(((n+1:Nat):Rat)/((n-i:Nat):Rat))) 200000000:=(hw.mul s1).mono (by omega);have hi2:SzQ ov k:=by rw[hov];exact hz.inv
   have m2:=qax (z1.sm (by decide)) (hi2.sm (by omega));rw[qae,qae] at m2;have m2:qaj (canQ (wtP P i*(((n+1:Nat):Rat)/((n-i:Nat):Rat)))) (((canQ ov).1.1,(canQ ov).1.2),(canQ ov).2)=_:=m2;have e1:=qFC ha (i:=i) (by omega) hz0 hok;rw[<- en,<- hov] at e1;have e2:nx (m+1)=nx m:=by rw[hnx];simp only[hok,jc,if_false]
   rw[jm,cond_true,cnd2 d1 d2,tN0,g1,bS0,pn1,q2,f1,bS0,qA6,m1,bS0,m2,bS0,cnd2 d1 d3,g2,bS0,e1,hset,q3,e2]
  | true =>
   have f1:=qso (a:=n+1) (b:=i+1) (by omega) (by omega);have s1:=qqn (a:=n+1) (b:=i+1) (by omega) (by omega);have enx:nx m=nxP P a i:=by rw[hnx];simp only[hok,if_true];rw[if_pos hm,show n-1-m=i by omega]
   have nsz:=qF5 h ha hk (i:=i) (by omega);have m1:=qax (nsz.sm (by decide)) (s1.sm (by decide));rw[qae,qae] at m1;have e1:=qEO ha (i:=i) (by omega);rw[<- en] at e1;rw[e1] at m1;have m1:qaj (((canQ (nxP P a i)).1.1,(canQ (nxP P a i)).1.2),(canQ (nxP P a i)).2) (canQ (((n+1:Nat):Rat)/((i+1:Nat):Rat)))=some (canQ (wtP (qbY P a) i)):=m1;have d4:(i:Int)<((bkL n i (wtP (qbY P a))).length:Int):=by rw[qnq];omega
   have g3:=qsL (n:=n) (i:=i) (j:=i) (wtP (qbY P a)) (by omega);rw[if_pos (jp _)] at g3;have hq:=qsz i (by omega);have m2:=qax (hq.sm (by decide)) (hz.sm (by omega));rw[qae,qae] at m2;have m2:qaj (canQ (wtP (qbY P a) i)) ((L.2.1.1.1,L.2.1.1.2),L.2.1.2)=some (canQ (wtP (qbY P a) i*P[a].2.1)):=by
    show qaj _ L.2.1=_;rw[L1];exact m2
   have f2:=qso (a:=n-i) (b:=n+1) (by omega) (by omega);have s2:=qqn (a:=n-i) (b:=n+1) (by omega) (by omega);have z2:SzQ (wtP (qbY P a) i*P[a].2.1) 200000000:=(hq.mul hz).mono (by omega);have m3:=qax (z2.sm (by decide)) (s2.sm (by decide));rw[qae,qae] at m3;have z3:SzQ (wtP (qbY P a) i*P[a].2.1*(((n-i:Nat):Rat)/((n+1:Nat):Rat))) 300000000:=(z2.mul s2).mono (by omega);have hw:=wsz i (by omega);have m4:=qfE (hw.sm (by decide)) (z3.sm (by decide));rw[qae,qae] at m4;have e2:=qCT ha (i:=i) (by omega) hok;rw[<- en] at e2;rw[e2] at m4;have e3:nx (m+1)=if i=0 then 0 else nxP P a (i-1):=by
    rw[hnx];simp only[hok,if_true];by_cases h0:i=0
    · rw[if_neg (by omega),if_pos h0]
    · rw[if_pos (by omega),if_neg h0,show n-1-(m+1)=i-1 by omega]
   rw[jf,cond_false,pn1,q1,f1,bS0,enx,m1,bS0,cnd2 d1 d3,tN0,g2,bS0,cnd2 d1 d2,g1,bS0,hset,cnd2 d1 d4,g3,bS0,m2,bS0,q2,f2,bS0,m3,bS0,qA6,m4,bS0,q3,e3]) (by
  intro g;rw[Nat.sub_self,qaq,cnd' (by omega)])
 have i1:isub .i64 ((P.length+1:Nat):Int) 1=(n:Int):=by rw[qci (by omega) (by omega)];omega
 have i2:isub .i64 (n:Int) 1=((n:Nat):Int)-1-((0:Nat):Int):=by rw[qci (by omega) (by omega)];omega
 have c0:(0:Int)<=((a+1:Nat):Int):=by omega
 have c1:((a+1:Nat):Int)<((P.length+1:Nat):Int):=by omega
 have hinv:=qqL (hz.sm (by omega));rw[qae,if_neg hz0,<- hov] at hinv;have c2:(decide ((n:Int)=(n:Int))&&decide ((0:Int)<=(n:Int))&&decide ((((56:Nat):Int)*(n:Int))<=281474976710656)&&decide ((n:Int)<=9223372036854775807))=true:=by
  simp only[jE,decide_eq_true_eq];refine⟨⟨⟨trivial,by omega⟩,?_⟩,by omega⟩;show(56:Int)*(n:Int)<=281474976710656;omega
 have ev:nx 0=wtP P n:=by
  rw[hnx];cases hok:P[a].2.2 with
  | false=>simp
  | true=>simp only[if_true];rw[if_pos (by omega),en,qEN ha hok,Nat.sub_zero]
 have gn:=qd2 (P:=P) (w:=wtP P) (i:=n) (by omega);rw[qb3,el,cnd2 c0 c1,tN0,qd2 (by omega),bS0,i1,c2,cond_true,<- eL,L1,hinv,bS0,cnd2 (by omega) (by omega),tN0,gn,bS0,i2];dsimp only;rw[qA6,<- ev];have key:lp qaq K0 (((n:Int),jM n (((false,[]),[]):RAT),((n:Nat):Int)-1-((0:Nat):Int),()),((L.1,(canQ P[a].2.1).1.1,(canQ P[a].2.1).1.2,(canQ P[a].2.1).2,L.2.2.1,L.2.2.2.1.1,L.2.2.2.1.2,L.2.2.2.2,()),((canQ ov).1.1,(canQ ov).1.2,(canQ ov).2,()),((canQ (nx 0)).1.1,(canQ (nx 0)).1.2,(canQ (nx 0)).2,()),(encK P (wtP P),()),()))=some ((bkL n 0 (wtP (qbY P a)),()),((encK P (wtP P),()),())):=by
  have k2:=key;rw[Nat.sub_zero,qDy,L1] at k2;exact k2
 rw[key,qFm,en];rfl
theorem qBs {n k:Nat} {w:Nat->Rat} (hw:∀ i,i<n->SzQ (w i) k) (hk:1+n*(k+1)<1099511627776) (hn:n<1000000):qkC (flo n w)=some (canQ (rsum w n)):=by
 have hv:∀ i,i<n->vals (flo n w) i=w i:=fun i hi=>by
  rw[vals,qgJ w hi];show rv (canQ (w i))=w i;exact qae _
 have h:=qvf (l:=flo n w) (k:=k) (fun x hx=>by
  obtain⟨i,hi,rfl⟩:=jj.1 hx;have hi:=jD.1 hi;refine(hw i hi).sm ?_;have:1*(k+1)<=n*(k+1):=jb _ (by omega);omega) (fun i hi=>by rw[qbi] at hi;rw[hv i hi];exact hw i hi) (by rw[qbi];exact hk) (by rw[qbi];omega)
 rw[h,qbi];congr 2;exact qbq fun i hi=>hv i hi
def sumP (P:List AP) (a:Nat):Rat:=rsum (wtP (qbY P a)) P.length
theorem qAS {P:List AP} {k g:Nat} (h:qif P k g) (hk:k<=70) {a:Nat} (ha:a<P.length):∀ i,i<P.length->SzQ (wtP (qbY P a) i) (30+ekS k (qbY P a).length):=fun i hi=>by
 have:=qeM ha;exact qxN (h.out ha).sz (h.out ha).len (by omega)
theorem qDC {P:List AP} {k g:Nat} (h:qif P k g) (hk:k<=70) {a:Nat} (ha:a<P.length) :
  qeL ((a+1:Nat):Int) (encK P (wtP P))=some (canQ (sumP P a),0,encK P (wtP P)):=by
 have el:=qed P (wtP P);have hl2:=h.len;have hS2:=qwb (k:=k) (n:=(qbY P a).length) hk (h.out ha).len;have hs:=qBs (n:=P.length) (w:=wtP (qbY P a)) (k:=100000000) (fun i hi=>(qAS h hk ha i hi).mono (by omega)) (by omega) (by omega);rw[qeL,el,cnd' (by omega),cnd' (by omega),cnd' (by omega),qtg h hk ha,bS0];dsimp only;rw[hs];rfl
theorem qDj {P:List AP} {w:Nat->Rat} {a:Nat} (ha:a<P.length):(encK P w).take (a+1)++(encK P w).drop (a+2)=encK (qbY P a) fun j=>if j<=a then w j else w (j+1):=by
 have el:=qed P w;have hl:=qeM ha;have ho:∀ j,(qbY P a)[j]?=if j<a then P[j]? else P[j+1]?:=fun j=>by
   unfold qbY;by_cases hj:j<a
   · rw[if_pos hj,jN (by rw[ji];omega),jO,if_pos hj]
   · rw [if_neg hj, jP (by rw [ji]; omega), ji, jQ (by omega), jR];congr 1;omega
 refine jC fun j=>?_
 by_cases hj:j<a+1
 · rw [jN (by rw [ji]; omega), jO, if_pos hj, qd2 (by omega), qd2 (by omega)];unfold lkF;split
   · rename_i e;subst e;simp
   · have e1 : (qbY P a)[j - 1]? = P[j - 1]? := by rw [ho, if_pos (by omega)]
     have e2:(if j<=a then w j else w (j+1))=w j:=if_pos (by omega);simp only[e1,e2]
 · rw [jP (by rw [ji]; omega), ji, jQ (by omega), jR, show a + 2 + (j - (a + 1)) = j + 1 by omega];by_cases hj2:j+1<P.length+1
   · rw [qd2 hj2, qd2 (by omega)];unfold lkF;have e1:(qbY P a)[j-1]?=P[j]?:=by rw[ho,if_neg (by omega)];congr 1;omega
     have e2:(if j<=a then w j else w (j+1))=w (j+1):=if_neg (by omega);rw[if_neg (by omega),if_neg (by omega)];simp only[e1,e2,jK]
   · rw[jk (by omega),jk (by rw[qed];omega)]
theorem qB8 {P:List AP} {k g:Nat} (h:qif P k g) (hk:k<=70) {a:Nat} (ha:a<P.length) :
  qcE ((a+1:Nat):Int) (encK P (wtP P))=some (0,encK (qbY P a) (wtP (qbY P a))):=by
 have el:=qed P (wtP P);have hl2:=h.len;have hl:=qeM ha;obtain⟨Q,eQ⟩:∃ Q,Q=qbY P a:=⟨_,rfl⟩;have eo:=qDj (w:=wtP P) ha;rw[<- eQ] at eo hl;obtain⟨w0,hw0⟩:∃ w0:Nat->Rat,w0=fun j=>if j<=a then wtP P j else wtP P (j+1):=⟨_,rfl⟩
 rw[<- hw0] at eo;obtain⟨F,eF⟩:∃ F,F=flo P.length (wtP Q):=⟨_,rfl⟩;have lF:F.length=P.length:=by rw[eF,qbi]
 have lQ:∀ w,(encK Q w).length=P.length:=fun w=>by rw[qed];exact hl
 have key:=qfM (step:=qaz) (fun i=>((F,encK Q (fun j=>if j<i then wtP Q j else w0 j),((P.length:Nat):Int),(i:Int),()),((encK P (wtP P),()),()))) P.length
  (r:=((encK Q (fun j=>if j<P.length then wtP Q j else w0 j),()),((encK P (wtP P),()),()))) (by omega) (by
  intro gg i hi;have d0:(i:Int)<((P.length:Nat):Int):=by omega
  have d1:(0:Int)<=(i:Int):=by omega
  have d2:(i:Int)<(F.length:Int):=by rw[lF];exact d0
  have d3:(i:Int)<((encK Q (fun j=>if j<i then wtP Q j else w0 j)).length:Int):=by rw[lQ];exact d0
  have g1:F[i]?=some (canQ (wtP Q i)):=by rw[eF];exact qgJ _ hi
  have g2:=qd2 (P:=Q) (w:=fun j=>if j<i then wtP Q j else w0 j) (i:=i) (by omega);have u:=qrn (P:=Q) (w:=fun j=>if j<i then wtP Q j else w0 j) (i:=i) (wtP Q i);have e:encK Q (fun j=>if j=i then wtP Q i else if j<i then wtP Q j else w0 j)=encK Q (fun j=>if j<i+1 then wtP Q j else w0 j):=by
   refine qh9 fun j _=>?_
   by_cases e1:j=i
   · rw[if_pos e1,if_pos (by omega),e1]
   · rw [if_neg e1];by_cases e2:j<i
     · rw[if_pos e2,if_pos (by omega)]
     · rw[if_neg e2,if_neg (by omega)]
  rw[qaz,cnd d0,cnd2 d1 d2,tN0,g1,bS0,cnd2 d1 d3,g2,bS0,u,e,qaV (by omega)];rfl) (by
  intro gg;rw[qaz,cnd' (by omega)])
 have e0:encK Q (fun j=>if j<0 then wtP Q j else w0 j)=encK Q w0:=qh9 fun j _=>if_neg (by omega)
 have e1:encK Q (fun j=>if j<P.length then wtP Q j else w0 j)=encK Q (wtP Q):=qh9 fun j hj=>if_pos (by omega)
 rw[e0,e1] at key;have key:lp qaz K0 ((F,encK Q w0,((P.length:Nat):Int),0,()),((encK P (wtP P),()),()))=some ((encK Q (wtP Q),()),((encK P (wtP P),()),())):=key;have i1:iadd .i64 ((a+1:Nat):Int) 1=((a+2:Nat):Int):=qaV (by omega);have hw:=qtg h hk ha;rw[<- eQ,<- eF] at hw;have t1:(((a+1:Nat):Int)-0).toNat=a+1:=by omega
 have t2:(((a+2:Nat):Int)).toNat=a+2:=by omega
 have c1:(decide ((0:Int)<=((a+1:Nat):Int))&&decide ((((a+1:Nat):Int):Int)<=((a+1:Nat):Int))&&decide ((((a+1:Nat):Int):Int)<=((P.length+1:Nat):Int)))=true:=by
  simp only[jE,decide_eq_true_eq];omega
 rw[qcE,el,cnd' (by omega),cnd' (by omega),cnd' (by omega),hw,bS0];dsimp only;rw[el,c1,cond_true,t1,blt (by rw[ji,el];simp;omega),cond_true,i1,cnd2 (by omega) (by omega),t2,jS,blt (by rw[ji,List.length_drop,el];omega),cond_true,eo,lQ,key,eQ];rfl
theorem qB4 {f:Nat} {q:Rat} {ok:Bool} {w:List AP} (h:∀ p∈w,p.1≠f):(qk8 f q ok w).Perm ((f,q,ok)::w):=by
 induction w with
 | nil=>exact ja.refl _
 | cons p w ih =>
  have h1:p.1≠f:=h p List.mem_cons_self;have ih:=ih fun x hx=>h x (List.mem_cons_of_mem _ hx)
  simp only[qk8];split
  · exact(ja.cons _ ih).trans (ja.swap _ _ _)
  · first | exact ja.refl _ | (rw[if_neg h1])
theorem qB3 {f:Nat} {q s:Rat} {ok o:Bool} {w:List AP} (hs:qtd w) (hm:(f,s,o)∈w):∃ r:List AP,w.Perm ((f,s,o)::r)/\(qk8 f q ok w).Perm ((f,s*q,o&&ok)::r):=by
 induction w with
 | nil=>cases hm
 | cons p w ih =>
  have hs2:=List.pairwise_cons.1 hs;rcases jT.1 hm with e | hm
  · subst e;refine⟨w,ja.refl _,?_⟩;simp only[qk8];simp
  · obtain ⟨r, h1, h2⟩ := ih hs2.2 hm;have hlt:p.1<f:=hs2.1 _ hm;refine⟨p::r,(ja.cons _ h1).trans (ja.swap _ _ _),?_⟩;simp only[qk8];rw[if_pos hlt];exact(ja.cons _ h2).trans (ja.swap _ _ _)
theorem qBu {P:List AP} {f:Nat}:(∀ p∈P,p.1≠f)\/∃ a,∃ ha:a<P.length,P[a].1=f/\∀ j (hj:j<P.length),j<a->P[j].1≠f:=by
 induction P with
 | nil=>exact .inl (by simp)
 | cons p P ih =>
  by_cases e:p.1=f
  · exact .inr ⟨0,by simp,e,fun j _ hj=>by omega⟩
  · rcases ih with h | ⟨a, ha, h1, h2⟩
    · exact .inl fun x hx=>by rcases jT.1 hx with rfl | hx;exact e;exact h x hx
    · refine .inr ⟨a + 1, by simpa using ha, by simpa using h1, fun j hj hja => ?_⟩;cases j with
      | zero=>exact e
      | succ j=>simpa using h2 j (by simpa using hj) (by omega)
theorem qif.mono {P:List AP} {k k' g:Nat} (h:qif P k g) (hk:k<=k'):qif P k' g:=⟨h.nd,fun p hp=>(h.sz p hp).mono hk,h.len,h.lt,h.pos⟩
theorem qif.snoc {P:List AP} {k g:Nat} (h:qif P k g) {f:Nat} {q:Rat} {ok:Bool} (hf:∀ p∈P,p.1≠f) (hq:SzQ q k) (hq0:0<q) (hl:P.length<20) (hfg:f<g):qif (P++[(f,q,ok)]) k g:=by
 have hp:(P++[((f,q,ok):AP)]).Perm ((f,q,ok)::P):=jF.trans (ja.refl _);have hmem:∀ p∈P++[((f,q,ok):AP)],p=(f,q,ok)\/p∈P:=fun p hp=>by
   rcases jr.1 hp with h | h
   · exact .inr h
   · exact .inl (jt.1 h)
 refine⟨?_,fun p hp=>?_,by rw[jn];simp;omega,fun p hp=>?_,fun p hp=>?_⟩
 · rw [(hp.map (·.1)).nodup_iff];refine jB.2 ⟨fun hm=>?_,h.nd⟩;obtain⟨p,hp,e⟩:=jj.1 hm;exact hf p hp e
 · rcases hmem p hp with rfl | h'
   · exact hq
   · exact h.sz p h'
 · rcases hmem p hp with rfl | h'
   · exact hfg
   · exact h.lt p h'
 · rcases hmem p hp with rfl | h'
   · exact hq0
   · exact h.pos p h'
theorem qE6 {P w:List AP} {m g:Nat} (h:qif P (8*m+1) g) (hw:P.Perm w) (hs:qtd w) {f:Nat} {q:Rat} {ok:Bool} (hf:f<g) (hg:g<1000000) (hq:SzQ q 8) (hq0:0<q) (hl:P.length<=m) (hm:m<8)
   (at0:Int) (b1:Bool) (b2 b3:List Int) :
   ∃ P',P'.Perm (qk8 f q ok w)/\qif P' (8*(m+1)+1) g/\P'.length<=m+1 /\
     qa7 at0 b1 b2 b3 (f:Int) (canQ q).1.1 (canQ q).1.2 (canQ q).2 ok (encK P (wtP P))=some (at0,b1,b2,b3,(f:Int),(canQ q).1.1,(canQ q).1.2,(canQ q).2,ok,encK P' (wtP P')):=by
 have c0:¬ (f:Int)<0:=by omega
 rcases qBu (P:=P) (f:=f) with hn | ⟨a,ha,he,hn⟩
 · have h1 := h.mono (show 8 * m + 1 <= 8 * (m + 1) + 1 by omega);have hq1:=hq.mono (show 8<=8*(m+1)+1 by omega);refine⟨P++[(f,q,ok)],?_,h1.snoc hn hq1 hq0 (by omega) hf,by rw[jn];simp;omega,?_⟩
   · have hn2 : ∀ p ∈ w, p.1 ≠ f := fun p hp => hn p (hw.symm.mem_iff.1 hp)
     have:(P++[((f,q,ok):AP)]).Perm ((f,q,ok)::P):=jF.trans (ja.refl _);exact(this.trans (ja.cons _ hw)).trans (qB4 hn2).symm
   · have he := qwB h1 (f := f) (q := q) (ok := ok) hn hq1 hq0 (by omega) (by omega) (by omega);rw[qa7,cnd' c0,qyN hn (by omega),bS0];dsimp only;rw[cnd' (by omega)];show(qaW (f:Int) (canQ q) ok (encK P (wtP P))).bind _=_;rw[he];rfl
 · have ho := (h.out ha).mono (show 8 * m + 1 <= 8 * (m + 1) + 1 by omega);have hno:=h.notin ha;rw[he] at hno;have hz:SzQ P[a].2.1 (8*m+1):=h.sz _ (gM0 ha);have hz0:0<P[a].2.1:=h.pos _ (gM0 ha);have hq1:SzQ (q*P[a].2.1) (8*(m+1)+1):=(hq.mul hz).mono (by omega);have hqz:0<q*P[a].2.1:=Rat.mul_pos hq0 hz0;have hol:=qeM ha;have hm1:=qax (hq.sm (by omega)) (hz.sm (by omega));rw[qae,qae] at hm1;have hm1:qaj (((canQ q).1.1,(canQ q).1.2),(canQ q).2) (canQ P[a].2.1)=some (canQ (q*P[a].2.1)):=hm1;refine⟨qbY P a++[(f,q*P[a].2.1,P[a].2.2&&ok)],?_,ho.snoc hno hq1 hqz (by omega) hf,by rw[jn];simp;omega,?_⟩
   · have hmem : (f, P[a].2.1, P[a].2.2) ∈ w := by
      have:(P[a]:AP)=(f,P[a].2.1,P[a].2.2):=by rw[<- he]
      rw[<- this];exact hw.mem_iff.1 (gM0 ha)
     obtain⟨r,r1,r2⟩:=qB3 (q:=q) (ok:=ok) hs hmem;have e1:(P[a]:AP)=(f,P[a].2.1,P[a].2.2):=by rw[<- he]
     have p1:((f,P[a].2.1,P[a].2.2)::qbY P a).Perm ((f,P[a].2.1,P[a].2.2)::r):=by
      have:=qkP ha;rw[e1] at this;exact(this.symm.trans hw).trans r1
     have p2:=ja.cons_inv p1;have p3:(qbY P a++[((f,q*P[a].2.1,P[a].2.2&&ok):AP)]).Perm ((f,q*P[a].2.1,P[a].2.2&&ok)::qbY P a):=jF.trans (ja.refl _);refine(p3.trans ?_).trans r2.symm;rw[Rat.mul_comm];exact ja.cons _ p2
   · have hE := qwB ho (f := f) (q := q * P[a].2.1) (ok := P[a].2.2 && ok) hno hq1 hqz (by omega) (by omega) (by omega);have hU:=qB8 h (by omega) ha;have c1:((a+1:Nat):Int)>0:=by omega
     have i1:isub .i64 ((a+1:Nat):Int) 1=(a:Int):=by rw[qci (by omega) (by omega)];omega
     have d1:(0:Int)<=(a:Int):=by omega
     have d2:(a:Int)<((encW P).length:Int):=by rw[qrm];omega
     have g1:(encW P)[a]?=some (encP P[a]):=by simp [encW,ha]
     rw[qa7,cnd' c0,qFw ha he hn (by omega),bS0];dsimp only;rw[cnd c1,qtI (by omega),bS0,i1];dsimp only;rw[cnd2 d1 d2,tN0,g1,bS0];show(qaj (((canQ q).1.1,(canQ q).1.2),(canQ q).2) (canQ P[a].2.1)).bind _=_;rw[hm1,bS0];cases ok with
     | true =>
      rw[Bool.and_true] at hE ⊢;rw[cond_true,hU,bS0];dsimp only;show(qaW (f:Int) (canQ (q*P[a].2.1)) P[a].2.2 _).bind _=_;rw[hE];rfl
     | false =>
      rw[Bool.and_false] at hE ⊢;rw[cond_false,hU,bS0];dsimp only;rw[hE];rfl
def lfT (P:List AP) (v:Rat) (f i:Nat):Rat:=match P[i]? with
 | some p=>if p.1=f then sumP P i*(one0 p.2.2-p.2.1)*v else 0
 | none=>0
def qzC (P:List AP) (v:Rat) (f:Nat):Rat:=rsum (lfT P v f) P.length
theorem qsi {P:List AP} {v:Rat} {f i:Nat} (h:i<P.length):lfT P v f i=if P[i].1=f then sumP P i*(one0 P[i].2.2-P[i].2.1)*v else 0:=by
 simp only[lfT,gE0 h]
def apF (p:AP):FP:=(p.1,fcP p)
theorem qrQ (P:List AP) (S:Nat):qdA S P=qom (P.map apF) S:=by
 unfold qdA qom;rw[jq];congr 1
theorem qEs {P:List AP} {a:Nat} (h:a<P.length):sumP P a=EE ((qbY P a).map fcP) fun k=>wq k ((qbY P a).length+1):=by
 have hl:=qeM h;rw[qFx,jU,hl];unfold sumP;refine qbq fun i _=>?_
 unfold wtP ekP;rw[Rat.mul_comm,hl]
theorem qrR {P Q:List AP} (h:P.Perm Q) (S:Nat):qdA S P=qdA S Q:=qtt (h.map _)
theorem qzB {P:List AP} {k n f:Nat} (h:qif P k n) (hf:f<n) (v:Rat):qzC P v f=qeV (fun S=>qdA S P*v) n f:=by
 rw[qAy];rcases qBu (P:=P) (f:=f) with hn | ⟨a,ha,he,_⟩
 · have e1 : qeV (fun S => qdA S P) n f = 0 := by
    have:(fun S=>qdA S P)=qom (P.map apF):=funext fun S=>qrQ P S
    rw[this];refine qAx fun hm=>?_
    rw[jq] at hm;obtain⟨p,hp,e⟩:=jj.1 hm;exact hn p hp e
   rw[e1,jo];refine qjm fun i hi=>?_
   rw[qsi hi,if_neg (hn _ (gM0 hi))]
 · have hno := h.notin ha;rw[he] at hno;have ho:=h.out ha;have e1:qeV (fun S=>qdA S P) n f=(one0 P[a].2.2-P[a].2.1)*sumP P a:=by
    have e2:(fun S=>qdA S P)=fun S=>pick (fcP P[a]) (S.testBit f)*qom ((qbY P a).map apF) S:=funext fun S=>by
      rw[qrR (qkP ha) S];show facP S P[a]*qdA S (qbY P a)=_;rw[qrQ,<- he];rfl
    rw[e2,qAw hf (by rw[jq];exact ho.nd) (fun p hp=>by
      obtain⟨x,hx,rfl⟩:=jj.1 hp;exact ho.lt x hx) (fun hm=>by
      rw[jq] at hm;obtain⟨p,hp,e⟩:=jj.1 hm;exact hno p hp e),qEs ha]
    rw[jq,jU];rfl
   rw[e1];have hone:∀ i,i<P.length->i≠a->lfT P v f i=0:=fun i hi hne=>by
    rw[qsi hi];refine if_neg fun e=>hne ?_
    have hnd:=h.nd;have hpw:=List.pairwise_iff_getElem.1 (show(P.map (·.1)).Pairwise (·≠·) from hnd);rcases Nat.lt_trichotomy i a with hlt | heq | hlt
    · have h5 := hpw i a (by simpa using hi) (by simpa using ha) hlt;simp [e,he] at h5
    · exact heq
    · have h5 := hpw a i (by simpa using ha) (by simpa using hi) hlt;simp [e,he] at h5
   have key:∀ n,n<=P.length->rsum (lfT P v f) n=if a<n then lfT P v f a else 0:=by
    intro n
    induction n with
    | zero=>intro _;rw[if_neg (by omega)];rfl
    | succ n ih =>
      intro hn;rw[rsum,ih (by omega)];by_cases e:n=a
      · subst e;rw[if_neg (by omega),if_pos (by omega),ju]
      · rw [hone n (by omega) e, j9];by_cases h1:a<n
        · rw[if_pos h1,if_pos (by omega)]
        · rw[if_neg h1,if_neg (by omega)]
   unfold qzC;rw[key _ (jp _),if_pos ha,qsi ha,if_pos he]
   grind
theorem ekS8 {k n:Nat} (hk:k<=70) (hn:n<=8):ekS k n<=20000:=by
 have h1:=qyy k hn;have h2:ekS k 8<=ekS 70 8:=by
  have:∀ n,ekS k n<=ekS 70 n:=by
   intro n
   induction n with
   | zero=>exact jp _
   | succ n ih=>simp only[ekS];omega
  exact this 8
 have h3:ekS 70 8<=20000:=by decide +kernel
 omega
theorem qo0 {f:Nat->Rat} {k:Nat}:∀ n,(∀ i,i<n->SzQ (f i) k)->SzQ (rsum f n) (1+n*(k+1)):=by
 intro n
 induction n with
 | zero=>intro _;exact SzQ.zero.mono (by omega)
 | succ n ih =>
  intro h;have h1:=ih fun i hi=>h i (by omega)
  have e:(n+1)*(k+1)=n*(k+1)+(k+1):=Nat.succ_mul _ _;exact(h1.add (h n (by omega))).mono (by omega)
theorem qAo {P:List AP} {k g a:Nat} (h:qif P k g) (hk:k<=70) (hl:P.length<=8) (ha:a<P.length):SzQ (sumP P a) 170000:=by
 have hS:=ekS8 (k:=k) (n:=(qbY P a).length) hk (by have:=qeM ha;omega);have:=qo0 (k:=20030) P.length (fun i hi=>(qAS h hk ha i hi).mono (by omega));refine this.mono ?_;have:P.length*(20030+1)<=8*(20030+1):=jb _ hl;omega
theorem qD2 {P:List AP} {k g:Nat} {v:Rat} (h:qif P k g) (hk:k<=70) (hl:P.length<=8) (hv:SzQ v 200) (f:Nat) {i:Nat} (hi:i<P.length):SzQ (lfT P v f i) 180000:=by
 rw[qsi hi];split
 · have h1 := qAo h hk hl hi;have h2:SzQ P[i].2.1 k:=h.sz _ (gM0 hi);have h3:=(qAY P[i].2.2).sub h2;exact((h1.mul h3).mul hv).mono (by omega)
 · exact SzQ.zero.mono (by omega)
theorem qE3 {t:List NODE} {row:List CELL} {fx:Int} {on:Bool} {n k:Nat} {P:List AP} (h:qif P k n) (hk:k<=70) (hl:P.length<=8) {i:Nat} (hi:i<t.length) {gn:Rat} (hg:SzQ gn 100) (hs:TSz t 4)
  {o:Nat->Rat} (ho:∀ f,f<n->SzQ (o f) 100000000000) (hn:n<1000000) (a4:Int) (a5:Bool) (a6 a7:List Int) (a8:Bool) :
  qbL (i:Int) (canQ gn).1.1 (canQ gn).1.2 (canQ gn).2 a4 a5 a6 a7 a8 t row fx on (flo n o) (encK P (wtP P)) =
   some (flo n (fun f=>o f+qzC P (gn*rv (nVal (qdB t i))) f),t,row,fx,on,encK P (wtP P)):=by
 obtain⟨v,hv⟩:∃ v,v=gn*rv (nVal (qdB t i)):=⟨_,rfl⟩;have zv:=(hs.at hi).2.1;have m0:=qax (a:=canQ gn) (b:=nVal (qdB t i)) (hg.sm (by decide)) (zv.sm (by decide));rw[qae,<- hv] at m0;have vsz:SzQ v 200:=by rw[hv];exact(hg.mul (zv.szQ (by decide))).mono (by decide)
 rw[<- hv];have key:=qfM (step:=qau) (fun j=>((encW P,(P.length:Int),(j:Int),()),(((i:Int),(canQ gn).1.1,(canQ gn).1.2,(canQ gn).2,a4,a5,a6,a7,a8,()),((canQ v).1.1,(canQ v).1.2,(canQ v).2,()),(t,row,fx,on,flo n (fun f=>o f+rsum (lfT P v f) j),()),(encK P (wtP P),()),()))) P.length
  (r:=((),((t,row,fx,on,flo n (fun f=>o f+rsum (lfT P v f) P.length),()),(encK P (wtP P),()),()))) (by omega) (by
  intro g j hj;have d0:(j:Int)<(P.length:Int):=by omega
  have d1:(0:Int)<=(j:Int):=by omega
  have d2:(j:Int)<((encW P).length:Int):=by rw[qrm];exact d0
  have g1:=qDi hj;have q1:iadd .i64 (j:Int) 1=((j+1:Nat):Int):=qaV (by omega);have s1:=qDC h hk hj;have zp:SzQ P[j].2.1 k:=h.sz _ (gM0 hj);have n1:=qqI (zp.sm (by omega));rw[qae] at n1;have hfl:P[j].1<n:=h.lt _ (gM0 hj);obtain⟨F,hF⟩:∃ F,F=P[j].1:=⟨_,rfl⟩;rw[<- hF] at hfl;have zn:SzQ (-P[j].2.1) (k+4):=by
   have:=SzQ.zero.sub zp;rw[jV,ju] at this;exact this.mono (by omega)
  have c1:(0:Int)<=((F:Nat):Int):=by omega
  have c2:((F:Nat):Int)<((flo n (fun f=>o f+rsum (lfT P v f) j)).length:Int):=by rw[qbi];omega
  have g2:=qgJ (n:=n) (f:=F) (fun f=>o f+rsum (lfT P v f) j) hfl;have zs:=qAo h hk hl hj;have zr:SzQ (o F+rsum (lfT P v F) j) 100010000000:=by
   have h1:SzQ (rsum (lfT P v F) j) (1+j*(180000+1)):=qo0 j (fun i hi=>qD2 h hk hl vsz F (by omega));have:j*(180000+1)<=8*(180000+1):=jb _ (by omega);exact((ho F hfl).add h1).mono (by omega)
  have hset:∀ x,x=o F+rsum (lfT P v F) (j+1)->(flo n (fun f=>o f+rsum (lfT P v f) j)).set F (canQ x)=flo n (fun f=>o f+rsum (lfT P v f) (j+1)):=fun x hx=>by
   refine qBr hx.symm fun f hf=>?_
   rw[rsum,qsi hj,if_neg (by rw[<- hF];exact fun e=>hf e.symm),j9]
  show qau g ((encW P,(P.length:Int),(j:Int),()),_)=_;rw[qau,cnd d0,cnd2 d1 d2,tN0,g1,bS0,q1,s1,bS0];show(qjG (canQ P[j].2.1)).bind _=_;rw[n1,bS0];have e1:(encP P[j]).1=(F:Int):=by rw[hF];rfl
  have e2:(encP P[j]).2.2=P[j].2.2:=rfl;rw[e1,e2];cases hok:P[j].2.2 with
  | true =>
   have a1:=qbN (SzQ.one.sm (by decide)) (zn.sm (by omega));rw[qae,qae,<- jV] at a1;have z1:SzQ (1-P[j].2.1) 100:=(SzQ.one.sub zp).mono (by omega);have m1:=qax (zs.sm (by decide)) (z1.sm (by decide));rw[qae,qae] at m1;have z2:SzQ (sumP P j*(1-P[j].2.1)) 170100:=(zs.mul z1).mono (by omega);have m2:=qax (z2.sm (by decide)) (vsz.sm (by decide));rw[qae,qae] at m2;have m2:qaj (canQ (sumP P j*(1-P[j].2.1))) (((canQ v).1.1,(canQ v).1.2),(canQ v).2)=_:=m2;have z3:SzQ (sumP P j*(1-P[j].2.1)*v) 170300:=(z2.mul vsz).mono (by omega);have a2:=qbN (zr.sm (by decide)) (z3.sm (by decide));rw[qae,qae] at a2;have hx:=hset (o F+rsum (lfT P v F) j+sumP P j*(1-P[j].2.1)*v) (by
    rw[rsum,qsi hj,if_pos hF.symm,hok];simp only[one0,if_true];grind)
   rw[cond_true,qmj,bS0,a1,bS0,cnd2 c1 c2,tN0,g2,bS0,m1,bS0,m2,bS0,a2,bS0,cnd2 c1 c2,bS0,hx]
  | false =>
   have m1:=qax (zs.sm (by decide)) (zn.sm (by omega));rw[qae,qae] at m1;have z2:SzQ (sumP P j*(-P[j].2.1)) 170100:=(zs.mul zn).mono (by omega);have m2:=qax (z2.sm (by decide)) (vsz.sm (by decide));rw[qae,qae] at m2;have m2:qaj (canQ (sumP P j*(-P[j].2.1))) (((canQ v).1.1,(canQ v).1.2),(canQ v).2)=_:=m2;have z3:SzQ (sumP P j*(-P[j].2.1)*v) 170300:=(z2.mul vsz).mono (by omega);have a2:=qbN (zr.sm (by decide)) (z3.sm (by decide));rw[qae,qae] at a2;have hx:=hset (o F+rsum (lfT P v F) j+sumP P j*(-P[j].2.1)*v) (by
    rw[rsum,qsi hj,if_pos hF.symm,hok];simp only[one0,jc,if_false];grind)
   rw[cond_false,cnd2 c1 c2,tN0,g2,bS0,m1,bS0,m2,bS0,a2,bS0,cnd2 c1 c2,bS0,hx]) (by
  intro g;rw[qau,cnd' (by omega)])
 have e0:flo n (fun f=>o f+rsum (lfT P v f) 0)=flo n o:=qmM fun f _=>j9 _
 rw[e0] at key;have key:lp qau K0 ((encW P,(P.length:Int),0,()),(((i:Int),(canQ gn).1.1,(canQ gn).1.2,(canQ gn).2,a4,a5,a6,a7,a8,()),((canQ v).1.1,(canQ v).1.2,(canQ v).2,()),(t,row,fx,on,flo n o,()),(encK P (wtP P),()),()))=_:=key;have m0:qaj (((canQ gn).1.1,(canQ gn).1.2),(canQ gn).2) t[i].2.2.2.2.2.2.1=some (canQ v):=by
  rw[qdG hi] at m0;exact m0
 rw[qbL,cnd (by omega),tN0,gE0 hi,bS0,m0,bS0,qtI (by omega),bS0];dsimp only;rw[qrm,key,bS0];dsimp only;rw[qbi,qbi,jv,cond_true,bS0];rfl
def kOn (t:List NODE) (row:List CELL) (fx:Int) (on:Bool) (i:Nat) (side:Bool):Bool:=if qcP (qdB t i)=fx then (if on then goL t row i == side else true) else true
def kG (t:List NODE) (fx:Int) (on:Bool) (i c:Nat) (g:Rat):Rat:=if qcP (qdB t i)=fx then (if on then g else g*(cov t c/cov t i)) else g
def kF (t:List NODE) (fx:Int) (i:Nat):Int:=if qcP (qdB t i)=fx then -1 else qcP (qdB t i)
def kW (t:List NODE) (row:List CELL) (fx:Int) (i c:Nat) (side:Bool) (w:List AP):List AP:=if qcP (qdB t i)=fx then w else qk8 (qs4 t i) (cov t c/cov t i) (goL t row i == side) w
abbrev PL:=Rat×List AP
def qlE (t:List NODE) (row:List CELL) (fx:Int) (on:Bool):TR->List AP->Rat->List PL
 | .leaf i,w,g=>[(g*rv (nVal (qdB t i)),w)]
 | .split i l r,w,g =>
  (if kOn t row fx on i true then qlE t row fx on l (kW t row fx i l.top true w) (kG t fx on i l.top g) else []) ++
  (if kOn t row fx on i false then qlE t row fx on r (kW t row fx i r.top false w) (kG t fx on i r.top g) else [])
def visF (t:List NODE) (row:List CELL) (fx:Int) (on:Bool):TR->Nat
 | .leaf i=>1
 | .split i l r=>1+(if kOn t row fx on i true then visF t row fx on l else 0)+(if kOn t row fx on i false then visF t row fx on r else 0)
theorem qxS (t:List NODE) (row:List CELL) (fx:Int) (on:Bool) (T:TR):0<visF t row fx on T:=by cases T<;>simp [visF];omega
theorem qEm (t:List NODE) (row:List CELL) (fx:Int) (on:Bool) (T:TR):visF t row fx on T<=T.size:=by
 induction T with
 | leaf i=>simp [visF,TR.size]
 | split i l r ihl ihr =>
  simp only[visF,TR.size];split<;>split<;>omega
structure IT where
 T:TR
 P:List AP
 g:Rat
 s:PART
 w:List AP
abbrev ITE:=Int×(Option ((Option (List (Int×RAT×CELL)))×Unit))×RAT×PART
def encI (x:IT):ITE:=((x.T.top:Int),some (some (encK x.P (wtP x.P)),()),canQ x.g,x.s)
def qwA (t:List NODE) (n:Nat) (x:IT):Prop:=∃ m,Is t (n:Int) x.T/\m+x.T.deep<=8/\SzQ x.g (8*m+1)/\qtd x.w /\
 ((x.s.1 = -1 /\ qif x.P (8 * m + 1) n /\ x.P.length <= m /\ x.P.Perm x.w) \/
  ∃ (m' f:Nat) (q:Rat) (ok:Bool) (w0:List AP),m=m'+1/\x.s=((f:Int),canQ q,ok)/\f<n/\SzQ q 8/\0<q/\qif x.P (8*m'+1) n/\x.P.length<=m'/\x.P.Perm w0/\qtd w0/\x.w=qk8 f q ok w0)
theorem qwA.join {t:List NODE} {n:Nat} {x:IT} (h:qwA t n x) (hn:n<1000000):∃ (m:Nat) (P':List AP),Is t (n:Int) x.T/\m+x.T.deep<=8/\SzQ x.g (8*m+1)/\qtd x.w/\qif P' (8*m+1) n/\P'.length<=m/\P'.Perm x.w /\
   qa7 (x.T.top:Int) (canQ x.g).1.1 (canQ x.g).1.2 (canQ x.g).2 x.s.1 x.s.2.1.1.1 x.s.2.1.1.2 x.s.2.1.2 x.s.2.2 (encK x.P (wtP x.P)) =
    some ((x.T.top:Int),(canQ x.g).1.1,(canQ x.g).1.2,(canQ x.g).2,x.s.1,x.s.2.1.1.1,x.s.2.1.1.2,x.s.2.1.2,x.s.2.2,encK P' (wtP P')):=by
 obtain⟨m,h1,h2,h3,h4,h5⟩:=h;have hd:=x.T.deep_pos;rcases h5 with ⟨a1,a2,a3,a4⟩ | ⟨m',f,q,ok,w0,b1,b2,b3,b4,b5,b6,b7,b8,b9,b10⟩
 · refine ⟨m, x.P, h1, h2, h3, h4, a2, a3, a4, ?_⟩;rw[a1,qa7,cnd (by omega)]
 · subst b1;obtain⟨P',p1,p2,p3,p4⟩:=qE6 b6 b8 b9 (ok:=ok) b3 hn b4 b5 b7 (by omega) (x.T.top:Int) (canQ x.g).1.1 (canQ x.g).1.2 (canQ x.g).2;refine⟨m'+1,P',h1,h2,h3,h4,p2,p3,by rw[b10];exact p1,?_⟩;rw[b2];exact p4
def kid (t:List NODE) (row:List CELL) (fx:Int) (on:Bool) (i:Nat) (side:Bool) (c:TR) (P w:List AP) (g:Rat):IT :=
 ⟨c,P,kG t fx on i c.top g,(kF t fx i,canQ (cov t c.top/cov t i),goL t row i == side),kW t row fx i c.top side w⟩
theorem qyh {t:List NODE} {row:List CELL} {fx:Int} {on:Bool} {n i m:Nat} {side:Bool} {c:TR} {P w:List AP} {g:Rat} (hs:TSz t 4) (hcov:qhC t) (hi:i<t.length) (f0:0<=qcP t[i]) (f1:qcP t[i]<(n:Int)) (hc:Is t (n:Int) c)
   (hm:m+1+c.deep<=8) (hg:SzQ g (8*m+1)) (hw:qtd w) (hP:qif P (8*m+1) n) (hl:P.length<=m) (hpw:P.Perm w):qwA t n (kid t row fx on i side c P w g):=by
 have hsh:=qx2 hs hc.top_lt hi;refine⟨m+1,hc,hm,?_,?_,?_⟩
 · show SzQ (kG t fx on i c.top g) _;unfold kG;split
   · split
     · exact hg.mono (by omega)
     · exact(hg.mul hsh).mono (by omega)
   · exact hg.mono (by omega)
 · show qtd (kW t row fx i c.top side w);unfold kW;split
   · exact hw
   · exact qz0 hw
 · by_cases hf : qcP (qdB t i) = fx
   · refine .inl ⟨?_, hP.mono (by omega), by show P.length <= _; omega, ?_⟩
     · show kF t fx i = -1;exact if_pos hf
     · show P.Perm (kW t row fx i c.top side w);rw[kW,if_pos hf];exact hpw
   · refine .inr ⟨m, qs4 t i, cov t c.top / cov t i, goL t row i == side, w, rfl, ?_, ?_, hsh, ?_, hP, hl, hpw, hw, ?_⟩
     · show (kF t fx i, _, _) = _;rw[kF,if_neg hf,qs4,qdG hi];rw[show((((qcP t[i]).toNat:Nat)):Int)=qcP t[i] by omega]
     · rw[qs4,qdG hi];omega
     · have h1 : 0 < cov t c.top := by have := hcov c.top hc.top_lt; rwa [<- qie hc.top_lt] at this
       have h2:0<cov t i:=by have:=hcov i hi;rwa [<- qie hi] at this
       rw[jG];exact Rat.mul_pos h1 (Rat.inv_pos.2 h2)
     · show kW t row fx i c.top side w = _;exact if_neg hf
theorem qCf {P:List AP} {w:Nat->Rat} (hl:P.length<=1000000):qd6 (encK P w)=some (encK P w,encK P w):=by
 rw[qd6,blt (by rw[qed];simp;omega),cond_true,jS]
theorem qyF {t:List NODE} {row:List CELL} {fx:Int} {on:Bool} {i:Nat} {c:TR} {P w:List AP} {W:Nat->Rat} {g:Rat} {m:Nat} (hs:TSz t 4) (hc:CSz row 9) (hcov:qhC t) (hi:i<t.length) (hleaf:qi9 t[i]=false) (f0:0<=qcP t[i]) (f1:qcP t[i]<(row.length:Int))
   (hl:c.top<t.length) (hP:P.length<=1000000) (hg:SzQ g 1000) (side:Bool) (out:List RAT) (a4:Int) (a5:Bool) (a6 a7:List Int) (a8:Bool) :
   qb1 (i:Int) (canQ g).1.1 (canQ g).1.2 (canQ g).2 a4 a5 a6 a7 a8 (c.top:Int) side t row fx on out (encK P W) =
    some (out,(c.top:Int),(canQ (kG t fx on i c.top g)).1.1,(canQ (kG t fx on i c.top g)).1.2,(canQ (kG t fx on i c.top g)).2,kF t fx i,(canQ (cov t c.top/cov t i)).1.1,(canQ (cov t c.top/cov t i)).1.2,(canQ (cov t c.top/cov t i)).2,(goL t row i == side),kOn t row fx on i side,t,row,fx,on,encK P W,encK P W):=by
 obtain⟨cc,g1,g2,g3⟩:=qD7 (f:=0) hs hc hi f0 f1;have z:=hs _ (gM0 hi);have zl:=hs _ (gM0 hl);have hne:rv (nCov t[i])≠0:=by have:=hcov.ne i hi;rwa [qie hi] at this
 have d1:=qqN (a:=nCov t[c.top]) (b:=nCov t[i]) (zl.2.2.sm (by decide)) (z.2.2.sm (by decide));rw[if_neg hne,<- qie hl,<- qie hi] at d1;have hsh:=qx2 hs hl hi;have hb:∀ {α:Type} {a b:α},(bif Nat.beq out.length out.length then a else b)=a:=fun {α a b}=>by rw[jv,cond_true]
 have hfe:qcP (qdB t i)=t[i].2.1:=by rw[qdG hi]
 have hgl:(!qi9 t[i]&&goes t[i] cc)=goL t row i:=by rw[hleaf,jm,Bool.true_and,g3]
 rw[qb1,cnd (by omega),tN0,gE0 hi,bS0,cnd (by omega),tN0,gE0 hl,bS0];show(qjH (nCov t[c.top]) (nCov t[i])).bind _=_;rw[d1,bS0,cnd (by exact f0)];show((row[(qcP t[i]).toNat]?).bind _)=_;rw[g1,bS0,qCd z.1 (by decide) g2 (by decide),bS0,hgl,qCf hP,bS0];by_cases hf:qcP (qdB t i)=fx
 · have e1 : (!decide (t[i].2.1 = fx)) = false := by rw [<- hfe, decide_eq_true hf]; rfl
   have e2:kF t fx i=-1:=if_pos hf;rw[e1,cond_false,e2];cases on with
   | true =>
    have e3:kG t fx true i c.top g=g:=by rw[kG,if_pos hf];rfl
    have e4:kOn t row fx true i side=(goL t row i == side):=by rw[kOn,if_pos hf];rfl
    rw[cond_true,hb,bS0,e3,e4]
   | false =>
    have e3:kG t fx false i c.top g=g*(cov t c.top/cov t i):=by rw[kG,if_pos hf];rfl
    have e4:kOn t row fx false i side=true:=by rw[kOn,if_pos hf];rfl
    have m1:=qax (hg.sm (by decide)) (hsh.sm (by decide));rw[qae,qae] at m1;have m1:qaj (((canQ g).1.1,(canQ g).1.2),(canQ g).2) (canQ (cov t c.top/cov t i))=_:=m1;rw[cond_false,m1,bS0,hb,bS0,e3,e4]
 · have e1 : (!decide (t[i].2.1 = fx)) = true := by rw [<- hfe, decide_eq_false hf]; rfl
   have e2:kF t fx i=t[i].2.1:=by rw[kF,if_neg hf,hfe]
   have e3:kG t fx on i c.top g=g:=if_neg hf;have e4:kOn t row fx on i side=true:=if_neg hf;rw[e1,cond_true,hb,bS0,e2,e3,e4]
def qut (t:List NODE) (row:List CELL) (fx:Int) (on:Bool) (i:Nat) (l r:TR) (P w:List AP) (g:Rat):List IT :=
 (if kOn t row fx on i false then [kid t row fx on i false r P w g] else [])++(if kOn t row fx on i true then [kid t row fx on i true l P w g] else [])
theorem qE5 {t:List NODE} {row:List CELL} {fx:Int} {on:Bool} {i:Nat} {l r:TR} {P w:List AP} {g:Rat} (hs:TSz t 4) (hc:CSz row 9) (hcov:qhC t) (hi:i<t.length) (hleaf:qi9 t[i]=false) (f0:0<=qcP t[i]) (f1:qcP t[i]<(row.length:Int))
  (hl:l.top<t.length) (hr:r.top<t.length) (hP:P.length<=1000000) (hg:SzQ g 1000) (out:List RAT) (a4:Int) (a5:Bool) (a6 a7:List Int) (a8:Bool) (c0:Bool) (c1:Int) (c2:Bool) (c3 c4:List Int) (c7 c8:Bool) (c9 c10:List Int) (c11:Bool) (c12 c13:List Int)
  (base:List ITE) (hb:base.length<=1000000) :
  lp qan K0 (((false,(true,())),0,()),(((i:Int),(canQ g).1.1,(canQ g).1.2,(canQ g).2,a4,a5,a6,a7,a8,()),(c0,c1,c2,c3,c4,(l.top:Int),(r.top:Int),c7,c8,c9,c10,c11,c12,c13,()),(encK P (wtP P),()),(t,row,fx,on,out,base,()),())) =
    some ((),((t,row,fx,on,out,base++(qut t row fx on i l r P w g).map encI,()),())):=by
 obtain⟨A,eA⟩:∃ A:List IT,A=if kOn t row fx on i false then [kid t row fx on i false r P w g] else []:=⟨_,rfl⟩
 obtain⟨B,eB⟩:∃ B:List IT,B=if kOn t row fx on i true then [kid t row fx on i true l P w g] else []:=⟨_,rfl⟩
 have eK:qut t row fx on i l r P w g=A++B:=by rw[eA,eB];rfl
 have lA:A.length<=1:=by rw[eA];split<;>simp
 obtain⟨K,hK⟩:∃ K:Nat->List ITE,K=fun j=>if j=0 then [] else if j=1 then A.map encI else (A++B).map encI:=⟨_,rfl⟩
 have K0':K 0=[]:=by rw[hK];rfl
 have K1:K 1=A.map encI:=by rw[hK];rfl
 have K2:K 2=(A++B).map encI:=by rw[hK];rfl
 have ov:over out 0 out=out:=qny rfl;have hc1:=fun side=>qyF (fx:=fx) (on:=on) (c:=r) (P:=P) (w:=w) (W:=wtP P) (g:=g) (m:=0) hs hc hcov hi hleaf f0 f1 hr hP hg side out a4 a5 a6 a7 a8
 have hc2:=fun side=>qyF (fx:=fx) (on:=on) (c:=l) (P:=P) (w:=w) (W:=wtP P) (g:=g) (m:=0) hs hc hcov hi hleaf f0 f1 hl hP hg side out a4 a5 a6 a7 a8
 have key:=qfM (step:=qan) (fun j=>(((false,(true,())),(j:Int),()),(((i:Int),(canQ g).1.1,(canQ g).1.2,(canQ g).2,a4,a5,a6,a7,a8,()),(c0,c1,c2,c3,c4,(l.top:Int),(r.top:Int),c7,c8,c9,c10,c11,c12,c13,()),(encK P (wtP P),()),(t,row,fx,on,out,base++K j,()),()))) 2
  (r:=((),((t,row,fx,on,out,base++K 2,()),()))) (by omega) (by
  intro g' j hj;have hj2:j=0\/j=1:=by omega
  rcases hj2 with rfl | rfl
  · rw [qan, cnd (by omega), cnd (by omega)];show((([false,true]:List Bool)[0]?).bind _)=_;rw[show(([false,true]:List Bool)[0]?)=some false from rfl,bS0,cond_false,hc1 false,bS0];dsimp only;rw[K0',jw,show((0+1:Nat))=1 from rfl,K1,ov];cases hk:kOn t row fx on i false with
    | true =>
     have eA':A=[kid t row fx on i false r P w g]:=by rw[eA,hk];rfl
     rw[cond_true,blt (by simp;omega),cond_true,eA'];rfl
    | false =>
     have eA':A=[]:=by rw[eA,hk];rfl
     rw[cond_false,eA',jd,jw];rfl
  · rw [qan, cnd (by omega), cnd (by omega)];show((([false,true]:List Bool)[1]?).bind _)=_;rw[show(([false,true]:List Bool)[1]?)=some true from rfl,bS0,cond_true,hc2 true,bS0];dsimp only;rw[show((1+1:Nat))=2 from rfl,K1,K2,ov];cases hk:kOn t row fx on i true with
    | true =>
     have eB':B=[kid t row fx on i true l P w g]:=by rw[eB,hk];rfl
     rw[cond_true,blt (by simp;omega),cond_true,eB',je,<- List.append_assoc];rfl
    | false =>
     have eB':B=[]:=by rw[eB,hk];rfl
     rw[cond_false,eB',jw];rfl) (by
  intro g';rw[qan,cnd' (by omega)])
 rw[K0',K2,<- eK,jw] at key;exact key
def totL (n f:Nat) (l:List PL):Rat:=lsum (l.map fun y=>qeV (fun S=>qdA S y.2*y.1) n f)
theorem qwJ (n f:Nat) (a b:List PL):totL n f (a++b)=totL n f a+totL n f b:=by rw[totL,je,qgH];rfl
def totI (t:List NODE) (row:List CELL) (fx:Int) (on:Bool) (n f:Nat) (x:IT):Rat:=totL n f (qlE t row fx on x.T x.w x.g)
def visL (t:List NODE) (row:List CELL) (fx:Int) (on:Bool):List IT->Nat
 | []=>0
 | x::L=>visF t row fx on x.T+visL t row fx on L
theorem qol (t:List NODE) (row:List CELL) (fx:Int) (on:Bool) (a b:List IT):visL t row fx on (a++b)=visL t row fx on a+visL t row fx on b:=by
 induction a with
 | nil=>simp [visL]
 | cons x a ih=>simp only[List.cons_append,visL,ih];omega
theorem qxR (t:List NODE) (row:List CELL) (fx:Int) (on:Bool) (a:List IT):a.length<=visL t row fx on a:=by
 induction a with
 | nil=>simp [visL]
 | cons x a ih=>have:=qxS t row fx on x.T;simp only[jH,visL];omega
theorem qC8 (t:List NODE) (row:List CELL) (fx:Int) (on:Bool) (i:Nat) (l r:TR) (P w:List AP) (g:Rat) :
  visF t row fx on (.split i l r)=1+visL t row fx on (qut t row fx on i l r P w g):=by
 rw[qut,qol];simp only[visF];cases kOn t row fx on i true<;>cases kOn t row fx on i false<;>simp [visL,kid]<;>omega
theorem qC9 (t:List NODE) (row:List CELL) (fx:Int) (on:Bool) (n f i:Nat) (l r:TR) (P w:List AP) (g:Rat) :
   totL n f (qlE t row fx on (.split i l r) w g)=lsum ((qut t row fx on i l r P w g).map (totI t row fx on n f)):=by
 rw[qut,je,qgH];simp only[qlE];rw[qwJ,Rat.add_comm];congr 1
 · cases kOn t row fx on i false
   · rfl
   · simp only[if_true,jg,jd,lsum,j9];rfl
 · cases kOn t row fx on i true
   · rfl
   · simp only[if_true,jg,jd,lsum,j9];rfl
theorem qz6 {t:List NODE} {row:List CELL} {fx:Int} {on:Bool} {T:TR} {o:Nat->Rat} (hs:TSz t 4) (hc:CSz row 9) (hcov:qhC t) (hT:Is t (row.length:Int) T) (h0:T.top=0) (hd:T.deep<=8) (hz:T.size<=100) (hrl:row.length<=64)
  {S:Nat} (ho:∀ f,f<row.length->SzQ (o f) S) (hS:S<=50000000000) :
  (∃ st,qcD t row fx on (flo row.length o) []=some (flo row.length (fun f=>o f+totL row.length f (qlE t row fx on T [] 1)),t,row,fx,on,st))/\∀ f,f<row.length->SzQ (o f+totL row.length f (qlE t row fx on T [] 1)) (S+200000000):=by
 obtain⟨n,hn⟩:∃ n,n=row.length:=⟨_,rfl⟩;obtain⟨N,hN⟩:∃ N,N=visF t row fx on T:=⟨_,rfl⟩;have hN2:N<=100:=by rw[hN];exact Nat.le_trans (qEm _ _ _ _ _) hz
 obtain⟨x0,hx0⟩:∃ x0:IT,x0=⟨T,[],1,(-1,(((false,[]),[]),false)),[]⟩:=⟨_,rfl⟩;have t0:∀ f,totI t row fx on n f x0=totL n f (qlE t row fx on T [] 1):=fun f=>by rw[hx0];rfl
 have hg0:qwA t n x0:=by
  refine⟨0,by rw[hx0,hn];exact hT,by rw[hx0];show 0+T.deep<=8;omega,by rw[hx0];exact SzQ.one,by rw[hx0];exact jW.nil,.inl ⟨by rw[hx0],?_,by simp [hx0],by simp [hx0]⟩⟩
  rw[hx0];exact⟨jW.nil,fun p hp=>absurd hp (by simp),by simp,fun p hp=>absurd hp (by simp),fun p hp=>absurd hp (by simp)⟩
 rw[<- hn];obtain⟨res,hres,hlp⟩:=qjS (step:=qat)
  (fun j v=>∃ (L:List IT) (o':Nat->Rat),v=((),((t,row,fx,on,flo n o',L.map encI,()),()))/\(∀ x∈L,qwA t n x)/\j+visL t row fx on L=N/\(∀ f,f<n->SzQ (o' f) (S+2000000*j))/\∀ f,f<n->o' f+lsum (L.map (totI t row fx on n f))=o f+totI t row fx on n f x0)
  (fun r=>(∃ (st:List ITE),r=((),((t,row,fx,on,flo n (fun f=>o f+totI t row fx on n f x0),st,()),())))/\∀ f,f<n->SzQ (o f+totI t row fx on n f x0) (S+200000000)) N
  (v:=((),((t,row,fx,on,flo n o,[x0].map encI,()),())))
  ⟨[x0],o,rfl,fun x hx=>by rw[jt.1 hx];exact hg0,by simp only[visL,hx0];omega,fun f hf=>(ho f (by omega)).mono (by omega),fun f hf=>by simp only[jg,jd,lsum,j9]⟩
  (by omega)
  (by
   rintro j v hj ⟨L,o',rfl,hL,hv,hsz,htot⟩;rcases List.eq_nil_or_concat L with rfl | ⟨L0,x,rfl⟩
   · simp only[visL] at hv;omega
   rw[List.concat_eq_append] at *;have hx:qwA t n x:=hL x (by simp);obtain⟨m,P',j1,j2,j3,j4,j5,j6,j7,j8⟩:=hx.join (by omega);rw[qol] at hv;simp only[visL,Nat.add_zero] at hv;have hvp:=qxS t row fx on x.T;have hvl:=qxR t row fx on L0;obtain⟨base,hbase⟩:∃ base,base=L0.map encI:=⟨_,rfl⟩;have lb:base.length=L0.length:=by rw[hbase];simp
   have eS:(L0++[x]).map encI=base++[encI x]:=by rw[hbase];simp
   have hi:=j1.top_lt;have qS:∀ y:ITE,isub .i64 ((base++[y]).length:Int) 1=(base.length:Int):=fun y=>by
     rw[jn,jx,qci (by omega) (by omega)];omega
   have gS:(base++[encI x])[base.length]?=some (encI x):=by simp
   have sS:∀ y,(base++[encI x]).set base.length y=base++[y]:=fun y=>by simp
   have cS:∀ y:ITE,(decide ((0:Int)<=(base.length:Int))&&decide (((base.length:Int):Int)<=(base.length:Int))&&decide (((base.length:Int):Int)<=((base++[y]).length:Int)))=true:=fun y=>by
     simp only[jE,decide_eq_true_eq,jn,jx];omega
   have tS:∀ y:ITE,(base++[y]).take (((base.length:Int)-0).toNat)=base:=fun y=>by
     rw[show((base.length:Int)-0).toNat=base.length by omega];simp
   have hpos:(((base++[encI x]).length:Nat):Int)>0:=by rw[jn,jx];omega
   have d2:(base.length:Int)<(((base++[encI x]).length:Nat):Int):=by rw[jn,jx];omega
   have walkE:∀ g,qat g ((),((t,row,fx,on,flo n o',(L0++[x]).map encI,()),())) =
       bif t[x.T.top].1 then ((qbL (x.T.top:Int) (canQ x.g).1.1 (canQ x.g).1.2 (canQ x.g).2 x.s.1 x.s.2.1.1.1 x.s.2.1.1.2 x.s.2.1.2 x.s.2.2 t row fx on (flo n o') (encK P' (wtP P'))).bind fun r8=>g ((()),((r8.2.1,r8.2.2.1,r8.2.2.2.1,r8.2.2.2.2.1,(over (flo n o') 0 r8.1),base,()),())))
       else ((lp qan K0 (((false,(true,())),0,()),(((x.T.top:Int),(canQ x.g).1.1,(canQ x.g).1.2,(canQ x.g).2,x.s.1,x.s.2.1.1.1,x.s.2.1.1.2,x.s.2.1.2,x.s.2.2,()),(t[x.T.top].1,t[x.T.top].2.1,t[x.T.top].2.2.1.1.1,t[x.T.top].2.2.1.1.2,t[x.T.top].2.2.1.2,t[x.T.top].2.2.2.1,t[x.T.top].2.2.2.2.1,t[x.T.top].2.2.2.2.2.1,t[x.T.top].2.2.2.2.2.2.1.1.1,t[x.T.top].2.2.2.2.2.2.1.1.2,t[x.T.top].2.2.2.2.2.2.1.2,t[x.T.top].2.2.2.2.2.2.2.1.1,t[x.T.top].2.2.2.2.2.2.2.1.2,t[x.T.top].2.2.2.2.2.2.2.2,()),(encK P' (wtP P'),()),(t,row,fx,on,flo n o',base,()),()))).bind fun t12=>g ((()),((t12.2.1.1,t12.2.1.2.1,t12.2.1.2.2.1,t12.2.1.2.2.2.1,t12.2.1.2.2.2.2.1,t12.2.1.2.2.2.2.2.1,()),()))):=fun g=>by
     rw[qat,eS,cnd hpos,qS,cnd2 (by omega) d2,tN0,gS,bS0];show((some (some (encK x.P (wtP x.P)),()):Option ((Option (List (Int×RAT×CELL)))×Unit)).bind _)=_;rw[bS0];show((some (encK x.P (wtP x.P)):Option (List (Int×RAT×CELL))).bind _)=_;rw[bS0,sS,qS,cS,cond_true,tS];show(qa7 (x.T.top:Int) (canQ x.g).1.1 (canQ x.g).1.2 (canQ x.g).2 x.s.1 x.s.2.1.1.1 x.s.2.1.1.2 x.s.2.1.2 x.s.2.2 (encK x.P (wtP x.P))).bind _=_;rw[j8,bS0];dsimp only;rw[cnd (by omega),tN0,gE0 hi,bS0]
   have hm7:m<=7:=by have:=x.T.deep_pos;omega
   cases hxT:x.T with
   | leaf i =>
     rw[hxT] at j1 j2 hi hv;simp only[hxT] at walkE;obtain⟨i1,i2⟩:=j1;have hlf:=qE3 (t:=t) (row:=row) (fx:=fx) (on:=on) j5 (by omega) (by omega) i1 (j3.mono (by omega)) hs (o:=o') (fun f hf=>(hsz f hf).mono (by omega)) (by omega) x.s.1 x.s.2.1.1.1 x.s.2.1.1.2 x.s.2.1.2 x.s.2.2;obtain⟨v,hv'⟩:∃ v,v=x.g*rv (nVal (qdB t i)):=⟨_,rfl⟩;rw[<- hv'] at hlf;have hvz:SzQ v 200:=by rw[hv'];exact((j3.mono (show 8*m+1<=100 by omega)).mul ((hs.at i1).2.1.szQ (by decide))).mono (by decide)
     refine⟨((),((t,row,fx,on,flo n (fun f=>o' f+qzC P' v f),L0.map encI,()),())),⟨L0,_,rfl,fun y hy=>hL y (by simp [hy]),by simp only[visF] at hv;omega,fun f hf=>?_,fun f hf=>?_⟩,fun g=>?_⟩
     · have h1 := qo0 (k := 180000) P'.length (fun i hi => qD2 j5 (by omega) (by omega) hvz f hi);have h1:SzQ (qzC P' v f) _:=h1;have:P'.length*(180000+1)<=8*(180000+1):=jb _ (by omega);exact((hsz f hf).add h1).mono (by omega)
     · have e := htot f hf;rw[je,qgH] at e;simp only[jg,jd,lsum,j9] at e;have e2:totI t row fx on n f x=qzC P' v f:=by
         rw[totI,hxT,qzB j5 hf];simp only[qlE,totL,jg,jd,lsum,j9];rw[<- hv'];refine qrK hf fun S _=>?_
         rw[qrR j7]
       rw[e2] at e;rw[<- e];grind
     · rw [walkE g];show(bif t[i].1 then _ else _)=_;rw[show t[i].1=true from i2,cond_true];show(qbL (i:Int) _ _ _ _ _ _ _ _ _ _ _ _ _ _).bind _=_;rw[hlf,bS0];dsimp only;rw[qny (by rw[qbi,qbi]),hbase]
   | split i l r =>
     rw[hxT] at j1 j2 hi hv;simp only[hxT,TR.top] at walkE;obtain⟨i1,i2,f0,f1,i3,i4,i5,i6⟩:=j1;simp only[TR.deep] at j2;have hkd:=qE5 (t:=t) (row:=row) (fx:=fx) (on:=on) (i:=i) (l:=l) (r:=r) (P:=P') (w:=x.w) (g:=x.g) hs hc hcov i1 i2 f0 (by omega) i5.top_lt i6.top_lt (by omega) (j3.mono (by omega)) (flo n o') x.s.1 x.s.2.1.1.1 x.s.2.1.1.2 x.s.2.1.2 x.s.2.2
       false t[i].2.1 t[i].2.2.1.1.1 t[i].2.2.1.1.2 t[i].2.2.1.2 t[i].2.2.2.2.2.1 t[i].2.2.2.2.2.2.1.1.1 t[i].2.2.2.2.2.2.1.1.2 t[i].2.2.2.2.2.2.1.2 t[i].2.2.2.2.2.2.2.1.1 t[i].2.2.2.2.2.2.2.1.2 t[i].2.2.2.2.2.2.2.2 base (by omega)
     refine⟨((),((t,row,fx,on,flo n o',(L0++qut t row fx on i l r P' x.w x.g).map encI,()),())),⟨L0++qut t row fx on i l r P' x.w x.g,o',rfl,fun y hy=>?_,?_,fun f hf=>(hsz f hf).mono (by omega),fun f hf=>?_⟩,fun g=>?_⟩
     · rcases jr.1 hy with hy | hy
       · exact hL y (by simp [hy])
       · have hgl : ∀ side, qwA t n (kid t row fx on i side l P' x.w x.g) := fun side => qyh hs hcov i1 f0 f1 i5 (by omega) j3 j4 j5 j6 j7
         have hgr:∀ side,qwA t n (kid t row fx on i side r P' x.w x.g):=fun side=>qyh hs hcov i1 f0 f1 i6 (by omega) j3 j4 j5 j6 j7
         rcases jr.1 hy with hy | hy
         · split at hy
           · rw[jt.1 hy];exact hgr _
           · cases hy
         · split at hy
           · rw[jt.1 hy];exact hgl _
           · cases hy
     · have := qC8 t row fx on i l r P' x.w x.g;rw[qol];omega
     · have e := htot f hf;rw[je,qgH] at e;simp only[jg,jd,lsum,j9] at e;have e2:totI t row fx on n f x=lsum ((qut t row fx on i l r P' x.w x.g).map (totI t row fx on n f)):=by
         rw[totI,hxT];exact qC9 t row fx on n f i l r P' x.w x.g
       rw[e2] at e;rw[je,qgH];exact e
     · rw [walkE g];show(bif t[i].1 then _ else _)=_;rw[show t[i].1=false from i2,cond_false];rw[show t[i].2.2.2.1=(l.top:Int) from i3,show t[i].2.2.2.2.1=(r.top:Int) from i4,hkd,bS0];dsimp only;rw[hbase,<- je])
  (by
   rintro v ⟨L,o',rfl,hL,hv,hsz,htot⟩;have hl:=qxR t row fx on L;have:L=[]:=by
     cases L with
     | nil=>rfl
     | cons x L=>simp only[jH] at hl;omega
   subst this;refine⟨((),((t,row,fx,on,flo n o',List.map encI [],()),())),⟨⟨List.map encI [],?_⟩,fun f hf=>?_⟩,fun g=>?_⟩
   · have : flo n o' = flo n (fun f => o f + totI t row fx on n f x0) := qmM fun f hf => by
       rw[<- htot f hf];simp only[jd,lsum,j9]
     rw[this]
   · rw [<- htot f hf];simp only[jd,lsum,j9];exact(hsz f hf).mono (by omega)
   · rw[qat,cnd' (by simp)])
 obtain⟨⟨st,rfl⟩,hrs⟩:=hres;refine⟨⟨st,?_⟩,fun f hf=>by have:=hrs f hf;rwa [t0] at this⟩
 have e0:[x0].map encI=[((0:Int),(some (some (encK [] (wtP [])),()):Option ((Option (List (Int×RAT×CELL)))×Unit)),canQ 1,((-1:Int),(((false,[]),[]),false)))]:=by
  rw[hx0];simp only[jg,jd,encI,h0];rfl
 rw[e0] at hlp;rw[qcD,qDG,bS0,qmj,bS0];have hlp:lp qat K0 (((),((t,row,fx,on,flo n o,[(0,((some ((some (encK [] (wtP []))),())),(canQ 1,((-1),(((false,[]),[]),false)))))],()),())))=_:=hlp;rw[hlp,bS0];dsimp only;rw[qbi,qbi,jv,cond_true,bS0];simp only[t0]
def trV (t:List NODE) (row:List CELL) (fx:Int) (on:Bool) (f:Nat):Rat:=totL row.length f (qlE t row fx on (treeOf t) [] 1)
def qir (m:qas) (row:List CELL) (fx:Int) (on:Bool) (f:Nat):Rat:=rsum (fun j=>trV (qdn m j) row fx on f) m.2.length
theorem Askd.deep8 {m:qas} {row:List CELL} (h:Askd m row) {i:Nat} (hi:i<m.2.length):(treeOf m.2[i]).deep<=8/\(treeOf m.2[i]).size<=15:=by
 have h1:=h.good.treeOf hi;have hsh:qtH m.2[i]:=h.good.2 1 (by decide) i hi;have h2:=qAk hsh h1.1;have h3:=qBI (treeOf m.2[i]);have h4:=h.mt _ (gM0 hi);omega
theorem Askd.walk {m:qas} {row:List CELL} (h:Askd m row) {i:Nat} (hi:i<m.2.length) (fx:Int) (on:Bool) {o:Nat->Rat} {S:Nat} (ho:∀ f,f<row.length->SzQ (o f) S) (hS:S<=50000000000) :
  (∃ st,qcD m.2[i] row fx on (flo row.length o) []=some (flo row.length (fun f=>o f+trV (qdn m i) row fx on f),m.2[i],row,fx,on,st))/\∀ f,f<row.length->SzQ (o f+trV (qdn m i) row fx on f) (S+200000000):=by
 obtain⟨t1,t2,t3,t4,t5⟩:=h.tree hi;rw[t5] at t2 t3 ⊢;obtain⟨d1,d2⟩:=h.deep8 hi;exact qz6 t1 h.cs (h.cov hi) t2 t3 d1 (by omega) h.f64 ho hS
theorem qDU {m:qas} {row:List CELL} (h:Askd m row) {i:Nat} (hi:i<m.2.length) (fx:Int) (on:Bool) {f:Nat} (hf:f<row.length):SzQ (trV (qdn m i) row fx on f) 200000010:=by
 have:=(h.walk hi fx on (o:=fun _=>0) (S:=1) (fun _ _=>SzQ.zero) (by decide)).2 f hf;rw[ju] at this;exact this.mono (by decide)
theorem qlj {m:qas} {row:List CELL} (h:Askd m row) (fx:Int) (on:Bool) {f:Nat} (hf:f<row.length):SzQ (qir m row fx on f) 1500000000:=by
 have h1:=qo0 (f:=fun j=>trV (qdn m j) row fx on f) (k:=200000010) m.2.length (fun i hi=>qDU h hi fx on hf);have:m.2.length*(200000010+1)<=6*(200000010+1):=jb _ h.ml;exact h1.mono (by omega)
theorem qAK {n:Nat} (h:n<=1000000):qgo (n:Int)=some (flo n fun _=>0):=by
 have key:=qfM (step:=qbB) (fun i=>((flo i (fun _=>0),(n:Int),(i:Int),()),())) n (r:=((flo n (fun _=>0),()),())) (by omega) (by
  intro g i hi;have d0:(i:Int)<(n:Int):=by omega
  rw[qbB,cnd d0,qdx,bS0,blt (by rw[qbi];omega),cond_true,qaV (by omega)];simp only[flo,jy,je];rfl) (by
  intro g;rw[qbB,cnd' (by omega)])
 have key:lp qbB K0 (([],(n:Int),0,()),())=_:=key;rw[qgo,key];rfl
theorem qyI {m:qas} {row:List CELL} (h:Askd m row) (fx:Int) (on:Bool):qgT m row fx on=some (flo row.length (qir m row fx on)):=by
 have ml:=h.ml;have h64:=h.f64;have hsz:∀ j,j<=m.2.length->∀ f,f<row.length->SzQ (rsum (fun j=>trV (qdn m j) row fx on f) j) 1500000000:=fun j hj f hf=>by
  have h1:=qo0 (f:=fun j=>trV (qdn m j) row fx on f) (k:=200000010) j (fun i hi=>qDU h (by omega) fx on hf);have:j*(200000010+1)<=6*(200000010+1):=jb _ (by omega);exact h1.mono (by omega)
 have key:=qfM (step:=qcq) (fun j=>((row,fx,on,flo row.length (fun f=>rsum (fun j=>trV (qdn m j) row fx on f) j),m.2,(m.2.length:Int),(j:Int),()),())) m.2.length (r:=((flo row.length (qir m row fx on),()),())) (by omega) (by
  intro g j hj;have d0:(j:Int)<(m.2.length:Int):=by omega
  obtain⟨st,hw⟩:=(h.walk hj fx on (hsz j (by omega)) (by decide)).1;rw[qcq,cnd d0,cnd (by omega),tN0,gE0 hj,bS0,hw,bS0];dsimp only;rw[qny (by rw[qbi,qbi]),qaV (by omega)];rfl) (by
  intro g;rw[qcq,cnd' (by omega)];rfl)
 have key:lp qcq K0 ((row,fx,on,flo row.length (fun _=>0),m.2,(m.2.length:Int),0,()),())=_:=key;rw[qgT,show m.1=((row.length:Nat):Int) by have:=h.len;omega,qAK (by omega),bS0,key];rfl
theorem qxI {m:qas} {row:List CELL} (h:Askd m row):qdO m row=some (flo row.length (qir m row (-1) false),0):=by
 obtain⟨e,_,h1,h2⟩:=qBt (row:=row) (by have:=h.ml;omega) (fun t ht=>by have:=h.mt t ht;omega) h.ms;have e0:e=0:=h2.2 ⟨h.good,h.len⟩;subst e0;rw[qdO,h1,bS0,show(!decide ((0:Int)=0))=false by decide,cond_false,qyI h];rfl
theorem qwx {m:qas} {row:List CELL} {e:Int} (h:qcC m row=some e) (he:e≠0):qdO m row=some ([],e):=by
 rw[qdO,h,bS0,decide_eq_false he];rfl
theorem qzE {t:List NODE} {row:List CELL} {n:Nat} {T:TR} (h:Is t (n:Int) T):∀ (w:List AP) (g:Rat),qlE t row (-1) false T w g=(qvZ t row T w).map fun x=>(g*x.2.1,x.2.2):=by
 induction T with
 | leaf i=>intro w g;rfl
 | split i l r ihl ihr =>
  intro w g;obtain⟨h1,h2,f0,f1,h3,h4,h5,h6⟩:=h;have hne:¬ qcP (qdB t i)=-1:=by rw[qdG h1];omega
  have e1:(goL t row i == true)=goL t row i:=by cases goL t row i<;>rfl
  have e2:(goL t row i == false)=!goL t row i:=by cases goL t row i<;>rfl
  simp only[qlE,qvZ,je];rw[kOn,if_neg hne,if_pos rfl,kOn,if_neg hne,if_pos rfl,kW,if_neg hne,kG,if_neg hne,kW,if_neg hne,kG,if_neg hne,e1,e2,ihl h5,ihr h6]
theorem qCp {t:List NODE} {row:List CELL} (hc:qhC t) (h:Is t (row.length:Int) (treeOf t)) {f:Nat} (hf:f<row.length) :
  trV t row (-1) false f=qeV (fun S=>expT t row S (treeOf t)) row.length f:=by
 have e1:∀ S,expT t row S (treeOf t)=lsum ((qvZ t row (treeOf t) []).map (legV S)):=fun S=>by
  rw[qC2 hc.ne h []];show _=qiB []*_;rw[qiB,jz]
 rw[qrK hf fun S _=>e1 S,qyW (fun x S=>legV S x)];unfold trV totL;rw[qzE h,jq];congr 1;refine js fun x _=>?_
 show qeV (fun S=>qdA S x.2.2*(1*x.2.1)) _ _=_;rw[jz];rfl
theorem qy9 {m:qas} {row:List CELL} (h:Askd m row) {f:Nat} (hf:f<row.length):qir m row (-1) false f=qeV (sayM m row) row.length f:=by
 have e:=qyV (fun j S=>expT (qdn m j) row S (treeOf (qdn m j))) row.length f m.2.length;have e:qeV (sayM m row) row.length f=_:=e;rw[e];refine qbq fun j hj=>?_
 obtain⟨t1,t2,t3,t4,t5⟩:=h.tree hj;rw[t5] at t2 ⊢;exact qCp (h.cov hj) t2 hf
theorem qu8 {t:List NODE} {g:Int} {row:List CELL} {f S:Nat} {T:TR} (h:Is t g T) (ha:askT t f=false) (hS:S.testBit f=false):expT t row (S+2 ^ f) T=expT t row S T:=by
 induction T with
 | leaf i=>rfl
 | split i l r ihl ihr =>
  have hu:=qtR h ha;obtain⟨h1,h2,f0,f1,h3,h4,h5,h6⟩:=h;simp only[expT];rw[ihl h5,ihr h6,qgO hS,decide_eq_false hu,jh]
theorem qEu {m:qas} {row:List CELL} (h:Askd m row) (ml:m.2.length<=3) (hn:row.length<=6):qbM (tabS m row (2 ^ row.length)) (row.length:Int) (-1) false=some (flo row.length (qir m row (-1) false)):=by
 have sz:∀ S,SzQ (sayM m row S) 4000000:=fun S=>(qwM h.good h.ms h.mt (jp _)).mono (by
  have:=jb 1048577 (show m.2.length<=3 by omega);omega)
 have hS:=qz1 (v:=sayM m row) (L:=tabS m row (2 ^ row.length)) (n:=row.length) (k:=4000000) (by omega) (fun S hS=>qxV m row hS) (fun S _=>sz S) (by decide);have e:flo row.length (qeV (sayM m row) row.length)=flo row.length (qir m row (-1) false):=qmM fun f hf=>(qy9 h hf).symm
 rw[hS,e]
def on01 (on:Bool):Nat:=if on then 1 else 0
def qoY (v:Nat->Rat) (n fx:Nat) (on:Bool) (f S:Nat):Rat :=
 if S.testBit f then 0 else if S.testBit fx=on then wq (popc n S-on01 on) (n-1)*(v (S+2 ^ f)-v S) else 0
def qhW (v:Nat->Rat) (n fx:Nat) (on:Bool) (f:Nat):Rat:=if f=fx then 0 else rsum (qoY v n fx on f) (2 ^ n)
theorem qvb (F:Nat->Rat) (a:Nat):∀ b,rsum F (a+b)=rsum F a+rsum (fun i=>F (a+i)) b:=by
 intro b
 induction b with
 | zero=>show _=_+0;rw[j9];rfl
 | succ b ih=>rw[show a+(b+1)=a+b+1 by omega,rsum,ih,rsum,Rat.add_assoc]
theorem qo1 (fx:Nat):∀ (n:Nat) (F:Nat->Rat),fx<n->rsum F (2 ^ n)=rsum (fun S=>if S.testBit fx then 0 else F S+F (S+2 ^ fx)) (2 ^ n):=by
 intro n
 induction n with
 | zero=>intro F h;omega
 | succ n ih =>
  intro F h;rw[jI,Nat.mul_two,qvb,qvb];by_cases e:fx=n
  · subst e;have h1:rsum (fun S=>if S.testBit fx then 0 else F S+F (S+2 ^ fx)) (2 ^ fx)=rsum (fun S=>F S+F (S+2 ^ fx)) (2 ^ fx):=qbq fun S hS=>by
     rw[jX hS,if_neg (by decide)]
    have h2:rsum (fun i=>if (2 ^ fx+i).testBit fx then 0 else F (2 ^ fx+i)+F (2 ^ fx+i+2 ^ fx)) (2 ^ fx)=0:=qjm fun S hS=>by
     rw[Nat.testBit_two_pow_add_eq,jX hS,jm,if_pos rfl]
    rw[h1,h2,qmf,j9];congr 1;exact qbq fun i _=>by rw[Nat.add_comm]
  · have hf : fx < n := by omega
    rw[ih F hf,ih (fun i=>F (2 ^ n+i)) hf];congr 1;refine qbq fun S _=>?_
    rw[Nat.testBit_two_pow_add_gt hf,show 2 ^ n+S+2 ^ fx=2 ^ n+(S+2 ^ fx) by omega]
theorem qri {S fx:Nat} (h:S.testBit fx=false):∀ n,popc n (S+2 ^ fx)=popc n S+(if fx<n then 1 else 0):=by
 intro n
 induction n with
 | zero=>rfl
 | succ n ih =>
  rw[popc,popc,ih,qgO h];by_cases e:n=fx
  · subst e;have a1:¬ n<n:=by omega
    have a2:n<n+1:=by omega
    simp [h,a1,a2]
  · by_cases h1 : fx < n
    · have a2 : fx < n + 1 := by omega
      rw[decide_eq_false e,jh,if_pos h1,if_pos a2];omega
    · have a2 : ¬ fx < n + 1 := by omega
      rw[decide_eq_false e,jh,if_neg h1,if_neg a2];omega
theorem qCK {n f fx S:Nat} (hf:f<n) (hx:fx<n) (hne:f≠fx) (h1:S.testBit f=false) (h2:S.testBit fx=false):popc n S+2<=n:=by
 have a:=qri h1 n;have b:(S+2 ^ f).testBit fx=false:=by rw[qgO h1,decide_eq_false (fun e=>hne e.symm),jh,h2]
 have c:=qri b n;rw[if_pos hf] at a;rw[if_pos hx] at c;have:=qon n (S+2 ^ f+2 ^ fx);omega
theorem qpX {v:Nat->Rat} {n f fx:Nat} (on:Bool) (hf:f<n) (hx:fx<n) (hne:f≠fx) (hv:∀ S,S.testBit fx=false->v (S+2 ^ fx)=v S):qeV v n f=qhW v n fx on f:=by
 rw[qhW,if_neg hne,qeV,qo1 fx n _ hx,qo1 fx n (qoY v n fx on f) hx];refine qbq fun S _=>?_
 cases h2:S.testBit fx with
 | true=>rfl
 | false =>
  rw[if_neg (by decide),if_neg (by decide)];have hfx:(S+2 ^ fx).testBit fx=true:=by rw[qgO h2,decide_eq_true rfl,jY]
  have hff:(S+2 ^ fx).testBit f=S.testBit f:=by rw[qgO h2,decide_eq_false hne,jh]
  unfold qnH qoY;rw[hff,hfx,h2];cases h1:S.testBit f with
  | true=>rfl
  | false =>
   have hp:=qCK hf hx hne h1 h2;have ha:=qri h2 n;rw[if_pos hx] at ha;have hb:(S+2 ^ f).testBit fx=false:=by rw[qgO h1,decide_eq_false (fun e=>hne e.symm),jh,h2]
   have e1:v (S+2 ^ fx+2 ^ f)=v (S+2 ^ f):=by rw[show S+2 ^ fx+2 ^ f=S+2 ^ f+2 ^ fx by omega,hv _ hb]
   have e2:=hv S h2;have hw:=qDS (k:=popc n S) (n:=n-1) (by omega);rw[show n-1+1=n by omega] at hw;rw[ha,e1,e2];have o1:popc n S+1-on01 true=popc n S:=rfl;have o2:popc n S-on01 false=popc n S:=rfl;cases on with
   | true =>
    simp only[jc,if_false,if_true,o1];rw[<- hw];grind
   | false =>
    simp only[jc,if_false,if_true,o2];rw[<- hw];simp;grind
theorem qwL {v w:Nat->Rat} {n fx:Nat} {on:Bool} {f:Nat} (hne:f≠fx->f<n) (h:∀ S,S.testBit fx=on->v S=w S):qhW v n fx on f=qhW w n fx on f:=by
 unfold qhW;split
 · rfl
 · rename_i hf;refine qbq fun S _=>?_
   unfold qoY;cases h1:S.testBit f with
   | true=>rfl
   | false =>
    by_cases h2:S.testBit fx=on
    · simp only [jc, if_false, if_pos h2];rw[h S h2,h (S+2 ^ f) (by rw[qgO h1,decide_eq_false (fun e=>hf e.symm),jh];exact h2)]
    · simp only[jc,if_false,if_neg h2]
theorem qu6 (v w:Nat->Rat) (n fx:Nat) (on:Bool) (f:Nat):qhW (fun S=>v S+w S) n fx on f=qhW v n fx on f+qhW w n fx on f:=by
 unfold qhW;split
 · rw[j9]
 · rw [<- qmf];refine qbq fun S _=>?_
   unfold qoY;split
   · rw[j9]
   · split
     · grind
     · rw[j9]
theorem qtk (n fx:Nat) (on:Bool) (f:Nat):qhW (fun _=>0) n fx on f=0:=by
 unfold qhW;split
 · rfl
 · refine qjm fun S _ => ?_
   unfold qoY;split
   · rfl
   · split
     · grind
     · rfl
theorem qyY {α:Type} (v:α->Nat->Rat) (n fx:Nat) (on:Bool) (f:Nat):∀ l:List α,qhW (fun S=>lsum (l.map fun x=>v x S)) n fx on f=lsum (l.map fun x=>qhW (v x) n fx on f):=by
 intro l
 induction l with
 | nil=>exact qtk n fx on f
 | cons x l ih=>rw[jg,lsum,<- ih,<- qu6];rfl
theorem qyX (v:Nat->Nat->Rat) (n fx:Nat) (on:Bool) (f:Nat):∀ k,qhW (fun S=>rsum (fun i=>v i S) k) n fx on f=rsum (fun i=>qhW (v i) n fx on f) k:=by
 intro k
 induction k with
 | zero=>exact qtk n fx on f
 | succ k ih=>rw[rsum,<- ih,<- qu6];rfl
theorem qBa {t:List NODE} {row:List CELL} {fx n S:Nat} {on:Bool} (hc:∀ i,i<t.length->cov t i≠0) (hS:S.testBit fx=on) {T:TR} (h:Is t (n:Int) T) :
  ∀ (w:List AP) (g:Rat),lsum ((qlE t row (fx:Int) on T w g).map fun y=>qdA S y.2*y.1)=qdA S w*g*expT t row S T:=by
 induction T with
 | leaf i=>intro w g;simp only[qlE,jg,jd,lsum,expT,j9];grind
 | split i l r ihl ihr =>
  intro w g;obtain⟨h1,h2,f0,f1,h3,h4,h5,h6⟩:=h;have ihl:=ihl h5;have ihr:=ihr h6;have hci:=hc i h1;simp only[qlE,je,qgH,expT];by_cases hf:qcP (qdB t i)=(fx:Int)
  · have hbit : S.testBit (qcP (qdB t i)).toNat = on := by rw [hf, tN0]; exact hS
    rw[hbit];cases on with
    | true =>
     have k1:kOn t row (fx:Int) true i true=goL t row i:=by rw[kOn,if_pos hf];cases goL t row i<;>rfl
     have k2:kOn t row (fx:Int) true i false=!goL t row i:=by rw[kOn,if_pos hf];cases goL t row i<;>rfl
     rw[k1,k2,kW,if_pos hf,kW,if_pos hf,kG,if_pos hf,kG,if_pos hf];simp only[if_true];cases goL t row i with
     | true=>simp only[if_true,jf,jc,if_false,jd,lsum,j9];exact ihl w g
     | false=>simp only[jm,if_true,jc,if_false,jd,lsum,ju];exact ihr w g
    | false =>
     have k1:∀ s,kOn t row (fx:Int) false i s=true:=fun s=>by rw[kOn,if_pos hf];rfl
     rw[k1,k1,kW,if_pos hf,kW,if_pos hf,kG,if_pos hf,kG,if_pos hf];simp only[if_true,jc,if_false];rw[ihl,ihr];simp only[jG]
     grind
  · have k1 : ∀ s, kOn t row (fx : Int) on i s = true := fun s => if_neg hf
    rw[k1,k1,kW,if_neg hf,kW,if_neg hf,kG,if_neg hf,kG,if_neg hf];simp only[if_true];rw[ihl,ihr,qmh,qmh];unfold facP;have ef:qs4 t i=(qcP (qdB t i)).toNat:=rfl;rw[ef];cases S.testBit (qcP (qdB t i)).toNat with
    | true =>
     cases goL t row i with
     | true=>simp;grind
     | false=>simp;grind
    | false =>
     simp only[jc,if_false,jG]
     grind
theorem qBb {t:List NODE} {row:List CELL} {fx:Nat} {on:Bool} {n:Nat} {T:TR} (h:Is t (n:Int) T):∀ (w:List AP) (g:Rat),(∀ p∈w,p.1≠fx)->∀ y∈qlE t row (fx:Int) on T w g,∀ p∈y.2,p.1≠fx:=by
 induction T with
 | leaf i=>intro w g hw y hy;simp only[qlE,jt] at hy;subst hy;exact hw
 | split i l r ihl ihr =>
  intro w g hw y hy;obtain⟨h1,h2,f0,f1,h3,h4,h5,h6⟩:=h;have hk:∀ c s,∀ p∈kW t row (fx:Int) i c s w,p.1≠fx:=fun c s=>by
    unfold kW;split
    · exact hw
    · rename_i hf;intro p hp;rcases qwv p hp with e | ⟨p',q1,q2⟩
      · rw [e, qs4];rw[qdG h1] at hf ⊢;omega
      · have:=hw p' q1;omega
  simp only[qlE,jr] at hy;rcases hy with hy | hy
  · split at hy
    · exact ihl h5 _ _ (hk _ _) y hy
    · cases hy
  · split at hy
    · exact ihr h6 _ _ (hk _ _) y hy
    · cases hy
theorem qAF {w:List AP} {fx S:Nat} (hw:∀ p∈w,p.1≠fx) (hS:S.testBit fx=false):qdA (S+2 ^ fx) w=qdA S w:=by
 unfold qdA;congr 1;refine js fun p hp=>?_
 unfold facP;rw[qgO hS,decide_eq_false (hw p hp),jh]
theorem qAl {t:List NODE} {row:List CELL} {fx:Nat} {on:Bool} (hc:qhC t) (h:Is t (row.length:Int) (treeOf t)) (hx:fx<row.length) {f:Nat} (hf:f<row.length) :
   trV t row (fx:Int) on f=qhW (fun S=>expT t row S (treeOf t)) row.length fx on f:=by
 have hoff:=qBb (row:=row) (fx:=fx) (on:=on) h [] 1 (by simp);have e1:qhW (fun S=>expT t row S (treeOf t)) row.length fx on f=qhW (fun S=>lsum ((qlE t row (fx:Int) on (treeOf t) [] 1).map fun y=>qdA S y.2*y.1)) row.length fx on f:=by
   refine qwL (fun _=>hf) fun S hS=>?_
   rw[qBa hc.ne hS h];show _=qiB []*1*_;rw[qiB,jz,jz]
 rw[e1,qyY (fun(y:PL) S=>qdA S y.2*y.1)];unfold trV totL;congr 1;refine js fun y hy=>?_
 have hv:∀ S,S.testBit fx=false->(fun S=>qdA S y.2*y.1) (S+2 ^ fx)=(fun S=>qdA S y.2*y.1) S:=fun S hS=>by
   show qdA (S+2 ^ fx) y.2*y.1=_;rw[qAF (hoff y hy) hS]
 by_cases e:f=fx
 · subst e;rw[qhW,if_pos rfl];refine qjm fun S _=>?_
   unfold qnH;cases hb:S.testBit f with
   | true=>rfl
   | false =>
    rw[if_neg (by decide),hv S hb];grind
 · exact qpX on hf hx e hv
theorem qlk {m:qas} {row:List CELL} (h:Askd m row) {fx:Nat} (on:Bool) (hx:fx<row.length) {f:Nat} (hf:f<row.length):qir m row (fx:Int) on f=qhW (sayM m row) row.length fx on f:=by
 have e:=qyX (fun j S=>expT (qdn m j) row S (treeOf (qdn m j))) row.length fx on f m.2.length;have e:qhW (sayM m row) row.length fx on f=_:=e;rw[e];refine qbq fun j hj=>?_
 obtain⟨t1,t2,t3,t4,t5⟩:=h.tree hj;rw[t5] at t2 ⊢;exact qAl (h.cov hj) t2 hx hf
theorem qCs {m:qas} {row:List CELL} (ha:Askd m row) (h6:m.1<=6):qfQ m row=some (tabS m row (2 ^ row.length),0):=by
 have hT:=qDB ha (by omega);have:=ha.len;rw[show m.1.toNat=row.length by omega] at hT;exact hT
theorem qtJ {m:qas} {row:List CELL} {fx:Nat} {on:Bool} (h:qcC m row=some 0) (ha:Askd m row) (hx:(fx:Int)<m.1):qfl m row (fx:Int) on=some (flo row.length (qir m row (fx:Int) on),0):=by
 rw[qfl,h,bS0,show(!decide ((0:Int)=0))=false by decide,cond_false,cnd' (by omega),cnd' (by omega),qyI ha];rfl
theorem bnd2 {α:Type} {a b:α} {p q:Prop} [Decidable p] [Decidable q] (hp:p) (hq:q):(bif decide p&&decide q then a else b)=a:=by simp [hp,hq]
def qxj:Rat:=((1:Int):Rat)/((2:Int):Rat)
def qhE (m:qas) (row:List CELL) (i k:Nat):Rat:=(qir m row (k:Int) true i-qir m row (k:Int) false i)*qxj
theorem qBg {m:qas} {row:List CELL} (h:Askd m row) {i:Nat} (k:Nat) (hi:i<row.length):SzQ (qhE m row i k) 3000000010 :=
 (((qlj h (k:Int) true hi).sub (qlj h (k:Int) false hi)).mul qsn).mono (by decide)
theorem qBP {m:qas} {row:List CELL} (h:Askd m row) (hf:qcC m row=some 0) {k:Nat} (hk:k<row.length):qeP m row (k:Int)=some (flo row.length fun i=>qhE m row i k):=by
 have hl:=h.len;have h64:=h.f64;have hkm:(k:Int)<m.1:=by omega
 have key:=qfM (step:=qbj) (fun i=>((flo row.length (qir m row (k:Int) true),flo row.length (qir m row (k:Int) false),flo i (fun i=>qhE m row i k),(row.length:Int),(i:Int),()),())) row.length (r:=((flo row.length (fun i=>qhE m row i k),()),())) (by omega) (by
  intro g i hi;have d0:(i:Int)<(row.length:Int):=by omega
  have s1:=qlj h (k:Int) true hi;have s2:=qlj h (k:Int) false hi;rw[qbj,cnd d0,bnd2 (by omega) (by rw[qbi];exact d0),tN0,qgJ _ hi,bS0,bnd2 (by omega) (by rw[qbi];exact d0),qgJ _ hi,bS0,
   qfE (s1.sm (by decide)) (s2.sm (by decide)),bS0,qae,qae,qli (by decide) (by decide) (by decide) (by decide),bS0,
   qax ((s1.sub s2).sm (by decide)) (qsn.sm (by decide)),bS0,qae,qae,blt (by rw[qbi];omega),cond_true,qaV (by omega)]
  simp only[flo,jy,je];rfl) (by
  intro g;rw[qbj,cnd' (by omega)])
 have key:lp qbj K0 ((flo row.length (qir m row (k:Int) true),flo row.length (qir m row (k:Int) false),[],(row.length:Int),0,()),())=_:=key;rw[qeP,qtJ hf h hkm,bS0,qtJ hf h hkm,bS0]
 try dsimp only
 rw[qbi,key];rfl
def grd (r n:Nat) (g:Nat->Nat->Rat):List (Option (List RAT)):=(List.range r).map fun i=>some (flo n (g i))
theorem qh8 (r n:Nat) (g:Nat->Nat->Rat):(grd r n g).length=r:=by simp [grd]
theorem qqj {r n i:Nat} (g:Nat->Nat->Rat) (h:i<r):(grd r n g)[i]?=some (some (flo n (g i))):=by simp [grd,h]
theorem qiG {r n:Nat} {g g':Nat->Nat->Rat} (h:∀ i,i<r->∀ j,j<n->g i j=g' i j):grd r n g=grd r n g':=by
 unfold grd;exact js fun i hi=>by rw[qmM (h i (jD.1 hi))]
theorem qE8 {r n i:Nat} {g g':Nat->Nat->Rat} (h1:∀ j,j<n->g' i j=g' i j) (h2:∀ a,a<r->a≠i->∀ j,j<n->g' a j=g a j):(grd r n g).set i (some (flo n (g' i)))=grd r n g':=by
 apply jC;intro a;rw[jL];by_cases ha:a<r
 · rw [qqj _ ha, qqj _ ha, qh8];by_cases e:i=a
   · subst e;rw[if_pos rfl,if_pos ha]
   · rw[if_neg e,qmM (fun j hj=>h2 a ha (fun e'=>e e'.symm) j hj)]
 · have q1 : (grd r n g)[a]? = none := jk (by rw [qh8]; omega);have q2:(grd r n g')[a]?=none:=jk (by rw[qh8];omega);rw[q1,q2];split
   · rw[if_neg (by rw[qh8];omega)]
   · rfl
theorem qBm {r n i k:Nat} {g g':Nat->Nat->Rat} {x:Rat} (h1:g' i k=x) (h2:∀ j,j≠k->g' i j=g i j) (h3:∀ a,a<r->a≠i->∀ j,j<n->g' a j=g a j):(grd r n g).set i (some ((flo n (g i)).set k (canQ x)))=grd r n g':=by
 rw[qBr (o:=g i) (p:=g' i) h1 h2];exact qE8 (fun _ _=>rfl) h3
theorem qCr {n:Nat} (h:n<=1000000):qgy (n:Int)=some (grd n n fun _ _=>0):=by
 have inner:∀ (out:List (Option (List RAT))) (v5 v6:Int),lp qbH K0 (((n:Int),out,[],v5,v6,(n:Int),0,()),())=some (((n:Int),out,flo n (fun _=>0),v5,v6,()),()):=fun out v5 v6 =>
  qfM (step:=qbH) (fun j=>(((n:Int),out,flo j (fun _=>0),v5,v6,(n:Int),(j:Int),()),())) n (r:=(((n:Int),out,flo n (fun _=>0),v5,v6,()),())) (by omega) (by
   intro g j hj;have d0:(j:Int)<(n:Int):=by omega
   rw[qbH,cnd d0,qdx,bS0,blt (by rw[qbi];omega),cond_true,qaV (by omega)];simp only[flo,jy,je];rfl) (by
   intro g;rw[qbH,cnd' (by omega)])
 have key:=qfM (step:=qbI) (fun i=>(((n:Int),grd i n (fun _ _=>0),(n:Int),(i:Int),()),())) n (r:=((grd n n (fun _ _=>0),()),())) (by omega) (by
  intro g i hi;have d0:(i:Int)<(n:Int):=by omega
  rw[qbI,cnd d0,inner,bS0]
  try dsimp only
  rw[blt (by rw[qh8];simp only[jH,List.length_nil];omega),cond_true,qaV (by omega)]
  simp only[grd,jy,je];rfl) (by
  intro g;rw[qbI,cnd' (by omega)])
 have key:lp qbI K0 (((n:Int),[],(n:Int),0,()),())=_:=key;rw[qgy,key];rfl
theorem qFs {n k:Nat} {w:Nat->Rat} (hw:∀ i,i<n->SzQ (w i) k) (hk:1+n*(k+1)<1099511627776) (hn:n<1000000):qip (flo n w)=some (flo n w,canQ (rsum w n)):=by
 have hsz:∀ i,i<=n->SzQ (rsum w i) (1+i*(k+1)):=fun i hi=>qme (n:=i) (fun j hj=>hw j (by omega))
 have hpart:∀ i,i<=n->Sm (canQ (rsum w i)):=fun i hi=>by
  refine(hsz i hi).sm (jZ ?_ hk);have:=jb (k+1) hi;omega
 have key:=qfM (step:=qcm) (fun i=>((flo n w,(n:Int),(i:Int),()),((false,[],[],()),((canQ (rsum w i)).1.1,(canQ (rsum w i)).1.2,(canQ (rsum w i)).2,()),()))) n
  (r:=((flo n w,()),((false,[],[],()),((canQ (rsum w n)).1.1,(canQ (rsum w n)).1.2,(canQ (rsum w n)).2,()),()))) (by omega) (by
  intro g i hi;have d0:(i:Int)<(n:Int):=by omega
  have hk1:k<1099511627776:=by have:1*(k+1)<=n*(k+1):=jb _ (by omega);omega
  have hp:=qbN (hpart i (by omega)) ((hw i hi).sm hk1);rw[qae,qae] at hp;have hp':qaU (((canQ (rsum w i)).1.1,(canQ (rsum w i)).1.2),(canQ (rsum w i)).2) (canQ (w i))=some (canQ (rsum w (i+1))):=hp;rw[qcm,cnd d0,bnd2 (by omega) (by rw[qbi];exact d0),tN0,qgJ _ hi,bS0,hp',bS0,qaV (by omega)];rfl) (by
  intro g;rw[qcm,cnd' (by omega)])
 have key':lp qcm K0 ((flo n w,(n:Int),0,()),((false,[],[],()),((canQ 0).1.1,(canQ 0).1.2,(canQ 0).2,()),()))=_:=key;rw[qip,qdx,bS0,qbi,key',bS0]
 try dsimp only
 rw[qbi,jv];rfl
def offQ (m:qas) (row:List CELL) (a b:Nat):Rat:=if a=b then 0 else if quU m b then qhE m row a b else 0
def qnF (m:qas) (row:List CELL) (a b:Nat):Rat:=if a=b then qir m row (-1) false a-rsum (offQ m row a) row.length else offQ m row a b
theorem qp4 {m:qas} {row:List CELL} (h:Askd m row) {a:Nat} (b:Nat) (ha:a<row.length):SzQ (offQ m row a b) 3000000010:=by
 unfold offQ;split
 · exact SzQ.zero.mono (by decide)
 · split
   · exact qBg h b ha
   · exact SzQ.zero.mono (by decide)
theorem qxH {m:qas} {row:List CELL} (h:Askd m row) (hf:qcC m row=some 0) (hv:qfn m=some true) (h8:row.length<=70):qc2 m row=some (grd row.length row.length (qnF m row),0):=by
 have hl:=h.len;have h64:=h.f64;have hml:(qrG m).length=row.length:=by rw[qAb];omega
 obtain⟨n,hn⟩:∃ n,n=row.length:=⟨_,rfl⟩;have hm1:m.1=(n:Int):=by omega
 have inner:∀ (G:Nat->Nat->Rat) (k:Nat),k<n->lp qa9 K0 ((row,flo n (qir m row (-1) false),grd n n G,qrG m,(k:Int),(n:Int),(k:Int),flo n (fun i=>qhE m row i k),(n:Int),0,()),((m.1,m.2,()),())) =
   some ((row,flo n (qir m row (-1) false),grd n n (fun a b=>if b=k/\a<n/\a≠k then qhE m row a k else G a b),qrG m,(n:Int),(k:Int),()),((m.1,m.2,()),())):=by
  intro G k hk;have e0:grd n n G=grd n n (fun a b=>if b=k/\a<0/\a≠k then qhE m row a k else G a b):=qiG fun a _ b _=>by rw[if_neg (fun h=>absurd h.2.1 (Nat.not_lt_zero a))]
  rw[e0];refine qfM (step:=qa9) (fun i=>((row,flo n (qir m row (-1) false),grd n n (fun a b=>if b=k/\a<i/\a≠k then qhE m row a k else G a b),qrG m,(k:Int),(n:Int),(k:Int),flo n (fun i=>qhE m row i k),(n:Int),(i:Int),()),((m.1,m.2,()),()))) n (by omega) (by
   intro g i hi;have d0:(i:Int)<(n:Int):=by omega
   rw[qa9,cnd d0,bnd2 (by omega) (by rw[qbi];exact d0),tN0,qgJ _ hi,bS0];by_cases e:i=k
   · subst e;rw[decide_eq_true rfl,jf,cond_false,qaV (by omega)];rw[qiG (g':=fun a b=>if b=i/\a<i+1/\a≠i then qhE m row a i else G a b) (fun a _ b _=>by
       by_cases e1:b=i/\a<i/\a≠i
       · rw[if_pos e1,if_pos ⟨e1.1,by omega,e1.2.2⟩]
       · rw[if_neg e1,if_neg (fun h=>e1 ⟨h.1,by omega,h.2.2⟩)])]
     rfl
   · rw [decide_eq_false (show ¬ (i : Int) = (k : Int) by omega), jm, cond_true, bnd2 (by omega) (by rw [qh8]; exact d0), qqj _ hi, bS0, bS0];rw[bS0,bnd2 (by omega) (by rw[qbi];omega),tN0,bS0,bS0,qgJ _ hk,bS0,qaV (by omega)];rw [qBm (g := fun a b => if b = k /\ a < i /\ a ≠ k then qhE m row a k else G a b) (g' := fun a b => if b = k /\ a < i + 1 /\ a ≠ k then qhE m row a k else G a b) (by (try dsimp only); rw [if_pos ⟨rfl, by omega, e⟩]) (fun j hj => by
         (try dsimp only);rw[if_neg (fun h=>hj h.1),if_neg (fun h=>hj h.1)]) (fun a _ ha j _=>by
         try dsimp only
         by_cases e1:j=k/\a<i/\a≠k
         · rw[if_pos e1,if_pos ⟨e1.1,by omega,e1.2.2⟩]
         · rw[if_neg e1,if_neg (fun h=>e1 ⟨h.1,by omega,h.2.2⟩)])]
     rfl) (by
   intro g;rw[qa9,cnd' (by omega)])
 have outer:=qfM (step:=qbk) (fun k=>((row,flo n (qir m row (-1) false),grd n n (fun a b=>if b<k then offQ m row a b else 0),qrG m,(n:Int),(k:Int),()),((m.1,m.2,()),()))) n
  (r:=((flo n (qir m row (-1) false),grd n n (offQ m row),()),())) (by omega) (by
  intro g k hk;have d0:(k:Int)<(n:Int):=by omega
  rw[qbk,cnd d0,cnd (by omega),tN0,qAc (by omega),bS0];cases hu:quU m k with
  | false =>
   rw[jm,cond_true,qaV (by omega)];rw[qiG (g':=fun a b=>if b<k+1 then offQ m row a b else 0) (fun a _ b _=>by
     by_cases e1:b<k
     · rw[if_pos e1,if_pos (by omega)]
     · rw [if_neg e1];by_cases e2:b=k
       · rw[if_pos (by omega),offQ,e2,hu];simp
       · rw[if_neg (by omega)])]
   rfl
  | true =>
   rw[jf,cond_false,show((m.1,m.2):qas)=m from rfl,qBP h hf (by omega),bS0,qbi,<- hn,inner _ k hk,bS0]
   try dsimp only
   rw[qaV (by omega)];rw[qiG (g':=fun a b=>if b<k+1 then offQ m row a b else 0) (fun a ha b _=>by
     by_cases e1:b=k
     · subst e1;rw[if_pos (show b<b+1 by omega)];by_cases e2:a=b
       · rw[if_neg (fun h=>h.2.2 e2),if_neg (Nat.lt_irrefl b),offQ,if_pos e2]
       · rw[if_pos ⟨rfl,ha,e2⟩,offQ,if_neg e2,if_pos hu]
     · rw [if_neg (fun h => e1 h.1)];by_cases e2:b<k
       · rw[if_pos e2,if_pos (by omega)]
       · rw[if_neg e2,if_neg (by omega)])]
   rfl) (by
  intro g;rw[qbk,cnd' (by omega)];rw[qiG (g':=offQ m row) (fun a _ b hb=>by rw[if_pos hb])])
 have osz:∀ i,i<n->SzQ (rsum (offQ m row i) n) 300000002000:=fun i hi=>by
  have h1:=qme (f:=offQ m row i) (k:=3000000010) (n:=n) (fun j _=>qp4 h j (by omega));have:n*(3000000010+1)<=70*(3000000010+1):=jb _ (by omega);exact h1.mono (by omega)
 have last:=qfM (step:=qa8) (fun i=>((flo n (qir m row (-1) false),grd n n (fun a b=>if a<i then qnF m row a b else offQ m row a b),(n:Int),(i:Int),()),())) n
  (r:=((grd n n (qnF m row),()),())) (by omega) (by
  intro g i hi;have d0:(i:Int)<(n:Int):=by omega
  have hsum:=qFs (n:=n) (w:=offQ m row i) (k:=3000000010) (fun j _=>qp4 h j (by omega)) (by
   have:n*(3000000010+1)<=70*(3000000010+1):=jb _ (by omega);omega) (by omega)
  have hrow:(fun b=>if i<i then qnF m row i b else offQ m row i b)=offQ m row i:=by
   funext b;rw[if_neg (by omega)]
  have s0:SzQ (offQ m row i i) 3000000010:=qp4 h i (by omega);have s1:=osz i hi;have e0:offQ m row i i=0:=by rw[offQ,if_pos rfl]
  rw[qa8,cnd d0,bnd2 (by omega) (by rw[qh8];exact d0),tN0,qqj _ hi,hrow,bS0,bnd2 (by omega) (by rw[qbi];exact d0),qgJ _ hi,bS0,bnd2 (by omega) (by rw[qh8];exact d0),bS0,bS0,bS0,hsum,bS0]
  try dsimp only
  rw[qny rfl,qzN,cond_true,bnd2 (by omega) (by rw[qh8];exact d0),bS0,bS0,bS0,bnd2 (by omega) (by rw[qbi];exact d0),bS0,bS0,qgJ _ hi,bS0,
   qfE (s1.sm (by decide)) (s0.sm (by decide)),bS0,qae,qae,qfE ((qlj h (-1) false (show i<row.length by omega)).sm (by decide)) ((s1.sub s0).sm (by decide)),bS0,qae,qae,
   bS0,bS0,bnd2 (by omega) (by rw[qbi];exact d0),bS0,bS0,qgJ _ hi,bS0,qaV (by omega)]
  have hset:=qBm (r:=n) (n:=n) (i:=i) (k:=i) (g:=fun a b=>if a<i then qnF m row a b else offQ m row a b) (g':=fun a b=>if a<i+1 then qnF m row a b else offQ m row a b) (x:=qir m row (-1) false i-(rsum (offQ m row i) n-offQ m row i i)) (by
     try dsimp only
     rw[if_pos (by omega),qnF,if_pos rfl,e0,hn];grind) (fun j hj=>by
     try dsimp only
     rw[if_pos (by omega),if_neg (by omega),qnF,if_neg (fun h=>hj h.symm)]) (fun a _ ha j _=>by
     try dsimp only
     by_cases e1:a<i
     · rw[if_pos e1,if_pos (by omega)]
     · rw[if_neg e1,if_neg (by omega)])
  try dsimp only at hset
  rw[hrow] at hset;rw[hset];rfl) (by
  intro g;rw[qa8,cnd' (by omega)];rw[qiG (g':=qnF m row) (fun a ha b _=>by rw[if_pos ha])])
 have outer:lp qbk K0 ((row,flo n (qir m row (-1) false),grd n n (fun a b=>if b<0 then offQ m row a b else 0),qrG m,(n:Int),0,()),((m.1,m.2,()),()))=_:=outer;have last:lp qa8 K0 ((flo n (qir m row (-1) false),grd n n (fun a b=>if a<0 then qnF m row a b else offQ m row a b),(n:Int),0,()),())=_:=last;rw[qc2,qxI h,bS0]
 try dsimp only
 rw[decide_eq_true rfl,jf,cond_false,hm1,qCr (by omega),bS0,qFr hv h.good,bS0,<- hn,qiG (g':=fun a b=>if b<0 then offQ m row a b else 0) (fun a _ b _=>by rw[if_neg (by omega)]),<- hm1,show(m.1:Int)=(n:Int) from hm1];rw[show((n:Int),m.2,())=(m.1,m.2,()) by rw[hm1],outer,bS0]
 try dsimp only
 rw[qh8,qiG (g:=offQ m row) (g':=fun a b=>if a<0 then qnF m row a b else offQ m row a b) (fun a _ b _=>by rw[if_neg (by omega)]),last];rfl
theorem qki:qa3=some true:=by decide +kernel
theorem quu {m:qas} {row:List CELL} (h:Askd m row) {i k:Nat} (hi:i<row.length) (hk:k<row.length) (hne:i≠k) (hu:quU m k=false):qhE m row i k=0:=by
 have hv:∀ S,S.testBit k=false->sayM m row (S+2 ^ k)=sayM m row S:=fun S hS=>by
  unfold sayM;refine qbq fun j hj=>?_
  obtain⟨t1,t2,t3,t4,t5⟩:=h.tree hj;rw[t5] at t2 ⊢;exact qu8 t2 (qwI hu (gM0 hj)) hS
 unfold qhE;rw[qlk h true hk hi,qlk h false hk hi,<- qpX true hi hk hne hv,<- qpX false hi hk hne hv]
 grind
theorem qEL {m:qas} {row:List CELL} (h:Askd m row) {a b:Nat} (ha:a<row.length) (hb:b<row.length):offQ m row a b=if a=b then 0 else qhE m row a b:=by
 unfold offQ;by_cases e:a=b
 · rw[if_pos e,if_pos e]
 · rw [if_neg e, if_neg e];cases hu:quU m b with
   | true=>rw[if_pos rfl]
   | false=>rw[if_neg (by decide),quu h ha hb e hu]
theorem qyr {J:Type} {n a b:Nat} (g:Nat->Nat->Rat) (ha:a<n) (hb:b<n) (K:RAT->Option J) :
  (bif decide (0<=(a:Int))&&decide ((a:Int)<((grd n n g).length:Int)) then ((grd n n g)[(a:Int).toNat]?).bind fun _=>((grd n n g)[(a:Int).toNat]?).bind fun x=>x.bind fun y=>bif decide (0<=(b:Int))&&decide ((b:Int)<(y.length:Int)) then ((grd n n g)[(a:Int).toNat]?).bind fun x=>x.bind fun y=>(y[(b:Int).toNat]?).bind fun z=>K z else none else none)=K (canQ (g a b)):=by
 rw[bnd2 (by omega) (by rw[qh8];omega),tN0,tN0,qqj _ ha,bS0,bS0,bS0,bnd2 (by omega) (by rw[qbi];omega),bS0,bS0,qgJ _ hb,bS0]
def twoT (v:Nat->Rat) (n i k S:Nat):Rat :=
 if S.testBit k then 0 else if S.testBit i then 0 else wq (popc n S) (n-1)*(v (S+2 ^ i+2 ^ k)-v (S+2 ^ k)-(v (S+2 ^ i)-v S))
theorem qAz (v:Nat->Rat) {n i k:Nat} (hi:i<n) (hk:k<n) (hne:i≠k):qhW v n k true i-qhW v n k false i=rsum (twoT v n i k) (2 ^ n):=by
 have key:qhW v n k true i=qhW v n k false i+rsum (twoT v n i k) (2 ^ n):=by
  rw[qhW,if_neg hne,qhW,if_neg hne,qo1 k n (qoY v n k true i) hk,qo1 k n (qoY v n k false i) hk,<- qmf];refine qbq fun S _=>?_
  unfold twoT;cases h2:S.testBit k with
  | true=>simp only[if_true];rw[j9]
  | false =>
   simp only[jc,if_false];have hfx:(S+2 ^ k).testBit k=true:=by rw[qgO h2,decide_eq_true rfl,jY]
   have hff:(S+2 ^ k).testBit i=S.testBit i:=by rw[qgO h2,decide_eq_false hne,jh]
   unfold qoY;rw[hff,hfx,h2];cases h1:S.testBit i with
   | true=>simp only[if_true];rw[j9,j9]
   | false =>
    have ha:=qri h2 n;rw[if_pos hk] at ha;rw[ha];have o1:popc n S+1-on01 true=popc n S:=rfl;have o2:popc n S-on01 false=popc n S:=rfl;simp only[jc,if_false,if_true,o1,o2];rw[show S+2 ^ k+2 ^ i=S+2 ^ i+2 ^ k by omega];simp
    grind
 rw[key];grind
theorem qzK {m:qas} {row:List CELL} (h:Askd m row) {i k:Nat} (hi:i<row.length) (hk:k<row.length) (hne:i≠k):qhE m row i k=rsum (twoT (sayM m row) row.length i k) (2 ^ row.length)*qxj:=by
 rw[qhE,qlk h true hk hi,qlk h false hk hi,qAz _ hi hk hne]
theorem qCj {m:qas} {row:List CELL} (h:Askd m row) (h8:row.length<=8) {a:Nat} (b:Nat) (ha:a<row.length):SzQ (qnF m row a b) 26000000000:=by
 unfold qnF;split
 · have h1 := qme (f := offQ m row a) (k := 3000000010) (n := row.length) (fun j _ => qp4 h j ha);have:row.length*(3000000010+1)<=8*(3000000010+1):=jb _ h8;exact((qlj h (-1) false ha).sub h1).mono (by omega)
 · exact(qp4 h b ha).mono (by decide)
theorem qww {m:qas} {row:List CELL} {e:Int} (h:qcC m row=some e) (he:e≠0):qc2 m row=some ([],e):=by
 rw[qc2,qwx h he,bS0];dsimp only;rw[decide_eq_false he];rfl
theorem qnv {n:Nat} (h:n<=30):qbW (n:Int)=some ((2 ^ n:Nat):Int):=by
 have key:=qfM (step:=qba) (fun i=>(((n:Int),((2 ^ i:Nat):Int),(i:Int),()),())) n (r:=((((2 ^ n:Nat):Int),()),())) (by omega) (by
  intro g i hi;have d0:(i:Int)<(n:Int):=by omega
  have hpi:2 ^ i<=2 ^ 30:=jA (by decide) (by omega);have em:imul .i64 2 ((2 ^ i:Nat):Int)=((2 ^ (i+1):Nat):Int):=by
   obtain⟨x,hx⟩:∃ x,x=2 ^ i:=⟨_,rfl⟩;have:2 ^ (i+1)=2*x:=by rw[hx,jI];omega
   rw[<- hx] at hpi;rw[this,<- hx,qym]<;>omega
  rw[qba,cnd d0,em,qaV (by omega)];rfl) (by
  intro g;rw[qba,cnd' (by omega)])
 have key:lp qba K0 (((n:Int),1,0,()),())=_:=key;rw[qbW,key];rfl
theorem qqi {S f:Nat} (hS:S<9223372036854775808) (hf:f<=1000000):qdU (S:Int) (f:Int)=some (S.testBit f):=by
 have key:=qfM (step:=qbl) (fun i=>((((S/2 ^ i:Nat):Int),(f:Int),(i:Int),()),())) f (r:=((((S/2 ^ f:Nat):Int),()),())) (by omega) (by
  intro g i hi;have d0:(i:Int)<(f:Int):=by omega
  have hd:(S/2 ^ i:Nat)<9223372036854775808:=jZ (Nat.div_le_self _ _) hS;have hq:iquo .i64 ((S/2 ^ i:Nat):Int) 2=((S/2 ^ (i+1):Nat):Int):=by
   obtain⟨x,hx⟩:∃ x,x=S/2 ^ i:=⟨_,rfl⟩;rw[jI,<- Nat.div_div_eq_div_mul,<- hx];rw[<- hx] at hd;rw[qq4 (by omega) (by omega) (by omega)];omega
  rw[qbl,cnd d0,hq,qaV (by omega)];rfl) (by
  intro g;rw[qbl,cnd' (by omega)])
 have e0:((S/2 ^ 0:Nat):Int)=(S:Int):=by simp
 rw[e0] at key;have key:lp qbl K0 (((S:Int),(f:Int),0,()),())=_:=key;rw[qdU,key,bS0];dsimp only;congr 1;have:=qlc S f;obtain⟨x,hx⟩:∃ x,x=S/2 ^ f:=⟨_,rfl⟩;rw[<- hx] at this ⊢;rw[qog (by omega)];cases hb:S.testBit f with
 | true=>rw[hb] at this;have:=this.2 rfl;exact decide_eq_true (by omega)
 | false=>rw[hb] at this;exact decide_eq_false (fun e=>by have:=this.1 (by omega);exact absurd this (by decide))
theorem qDF {d st sm:Int} {f:List WH} (h:Tab d st sm f) {s n:Nat} (hs:s+2<=n) (hn:n<=64) :
  qfa (s:Int) (n:Int) d st sm f=some (canQ (wq s (n-1)*qxj),0,1,0,sm,qst):=by
 have e1:isub .i64 (isub .i64 (n:Int) (s:Int)) 2=((n-1-s-1:Nat):Int):=by
  rw[qci (x:=(n:Int)) (y:=(s:Int)) (by omega) (by omega),qci (by omega) (by omega)];omega
 have e2:isub .i64 (n:Int) 1=((n-1:Nat):Int):=by rw[qci (by omega) (by omega)];omega
 have e3:isub .i64 (n:Int) 2=(n:Int)-2:=by rw[qci (by omega) (by omega)]
 have z:SzQ (wq s (n-1)) 30:=quO (by omega) (by omega);have m:=qax (z.sm (by decide)) (qsn.sm (by decide));rw[qae,qae] at m;rw[qfa,cnd' (by omega),cnd' (by omega),cnd' (by omega),e3,cnd' (by omega),e1,e2,qrW h (by omega) (by omega) (by omega),bS0,qli (by decide) (by decide) (by decide) (by decide),bS0];dsimp only;rw[show quo s (n-1-s-1) (n-1)=wq s (n-1) from rfl,m];rfl
theorem qx9 {n i k S:Nat} (hi:i<n) (hk:k<n) (hne:i≠k) (h1:S.testBit i=false) (h2:S.testBit k=false):popc n S+2<=n:=by
 have one:∀ j,S.testBit j=false->∀ m,j<m->popc m S+1<=m:=by
   intro j hj m
   induction m with
   | zero=>intro h;omega
   | succ m ih =>
    intro h;rw[popc];by_cases e:m=j
    · subst e;rw[hj,if_neg (by decide)];have:=qon m S;omega
    · have := ih (by omega);split<;>omega
 have two:∀ a b,a<b->S.testBit a=false->S.testBit b=false->∀ m,b<m->popc m S+2<=m:=by
   intro a b hab ha hb m
   induction m with
   | zero=>intro h;omega
   | succ m ih =>
    intro h;rw[popc];by_cases e:m=b
    · subst e;rw[hb,if_neg (by decide)];have:=one a ha m hab;omega
    · have := ih (by omega);split<;>omega
 rcases Nat.lt_or_gt_of_ne hne with h | h
 · exact two i k h h1 h2 n hk
 · exact two k i h h2 h1 n hi
theorem qAr {L:List RAT} {S n:Nat} (hS:S<9223372036854775808) (hn:n<=1000000) (i k:Int) (A B:Bool×List Int×List Int×Unit) (C:Int×Int×Int×List WH×Unit) :
  lp qaY K0 ((L,(n:Int),i,k,(S:Int),0,0,()),(A,B,C,()))=some ((L,(n:Int),i,k,(S:Int),((popc n S:Nat):Int),()),(A,B,C,())):=by
 obtain⟨a0,a1,a2,_⟩:=A;obtain⟨b0,b1,b2,_⟩:=B;obtain⟨c0,c1,c2,c3,_⟩:=C;have key:=qfM (step:=qaY) (fun j=>((L,(n:Int),i,k,(S:Int),((popc j S:Nat):Int),(j:Int),()),((a0,a1,a2,()),(b0,b1,b2,()),(c0,c1,c2,c3,()),()))) n (r:=((L,(n:Int),i,k,(S:Int),((popc n S:Nat):Int),()),((a0,a1,a2,()),(b0,b1,b2,()),(c0,c1,c2,c3,()),()))) (by omega) (by
  intro g j hj;have d0:(j:Int)<(n:Int):=by omega
  have hp:=qon j S;have i1:iadd .i64 (j:Int) 1=(j:Int)+1:=qaV (by omega);have i2:iadd .i64 ((popc j S:Nat):Int) 1=((popc j S:Nat):Int)+1:=qaV (by omega);rw[qaY,cnd d0,qqi hS (by omega),bS0,i1,i2,popc];cases hb:S.testBit j with
  | true=>rw[cond_true,if_pos rfl];rfl
  | false=>rw[cond_false,if_neg (by decide)];rfl) (by
  intro g;rw[qaY,cnd' (by omega)])
 exact key
def qq7 (v:Nat->Rat) (n i k S:Nat):Rat:=twoT v n i k S*qxj
theorem qAQ (v:Nat->Rat) (n i k:Nat):rsum (qq7 v n i k) (2 ^ n)=rsum (twoT v n i k) (2 ^ n)*qxj:=qle _ _ _
theorem qFD {n s:Nat} (hs:s+2<=n) (hn:n<=64):SzQ (wq s (n-1)*qxj) 32:=(quO (show s<n-1 by omega) (by omega)).mul qsn
theorem qCP {v:Nat->Rat} {n i k S:Nat} (h1:S.testBit i=false) (h2:S.testBit k=false):wq (popc n S) (n-1)*qxj*(v (S+2 ^ i+2 ^ k)+v S-(v (S+2 ^ i)+v (S+2 ^ k)))=qq7 v n i k S:=by
 unfold qq7 twoT;rw[h1,h2,if_neg (by decide),if_neg (by decide)]
 grind
theorem qyb {v:Nat->Rat} {n i k K S:Nat} (hn:n<=8) (hi:i<n) (hk:k<n) (hne:i≠k) (hv:∀ S,SzQ (v S) K):SzQ (qq7 v n i k S) (4*K+40):=by
 unfold qq7 twoT;split
 · rw[jo];exact SzQ.zero.mono (by omega)
 · rename_i h2;split
   · rw[jo];exact SzQ.zero.mono (by omega)
   · rename_i h1;have:=qx9 (n:=n) hi hk hne (by simpa using h1) (by simpa using h2);exact(((quO (show popc n S<n-1 by omega) (by omega)).mul (((hv _).sub (hv _)).sub ((hv _).sub (hv _)))).mul qsn).mono (by omega)
theorem qAR {v:Nat->Rat} {L:List RAT} {n i k K:Nat} (hn:n<=8) (hi:i<n) (hk:k<n) (hne:i≠k) (hL:∀ S,S<2 ^ n->L[S]?=some (canQ (v S))) (hv:∀ S,SzQ (v S) K) (hK:K<10000000) :
  qdL L (n:Int) (i:Int) (k:Int)=some (canQ (rsum (qq7 v n i k) (2 ^ n))):=by
 obtain⟨d,st,sm,f,hN,hT⟩:=qEe;have hp8:2 ^ n<=2 ^ 8:=jA (by decide) hn;have hp8:2 ^ n<=256:=hp8;obtain⟨s,hs⟩:∃ s:Nat->Rat,s=rsum (qq7 v n i k):=⟨_,rfl⟩;have ssz:∀ S,S<=2 ^ n->SzQ (s S) 20000000000:=fun S hS=>by
  have:=qme (f:=qq7 v n i k) (k:=4*K+40) (n:=S) (fun j hj=>qyb hn hi hk hne hv);rw[hs];exact this.mono (by have:=Nat.mul_le_mul (show S<=256 by omega) (show 4*K+40+1<=40000041 by omega);omega)
 obtain⟨r,hr,e⟩:=qjS (step:=qaL)
  (fun S w=>∃ d st sm f,w=((L,(n:Int),(i:Int),(k:Int),(S:Int),()),((false,[],[],()),((canQ (s S)).1.1,(canQ (s S)).1.2,(canQ (s S)).2,()),(d,st,sm,f,()),()))/\Tab d st sm f)
  (fun r=>r=((),((false,[],[],()),((canQ (s (2 ^ n))).1.1,(canQ (s (2 ^ n))).1.2,(canQ (s (2 ^ n))).2,()),()))) (2 ^ n)
  (v:=((L,(n:Int),(i:Int),(k:Int),0,()),((false,[],[],()),((canQ 0).1.1,(canQ 0).1.2,(canQ 0).2,()),(d,st,sm,f,()),())))
  ⟨d,st,sm,f,by rw[hs];rfl,hT⟩ (by omega) (by
  rintro S w hS ⟨d,st,sm,f,rfl,hT⟩;have c0:(S:Int)<((2 ^ n:Nat):Int):=by omega
  have en:s (S+1)=s S+qq7 v n i k S:=by rw[hs];rfl
  cases h1:S.testBit i with
  | true =>
   have:s (S+1)=s S:=by
    rw[en,qq7,twoT,h1,if_pos rfl];split<;>rw[jo,j9]
   refine⟨_,⟨d,st,sm,f,rfl,hT⟩,fun g=>?_⟩;rw[qaL,qnv (by omega),bS0,cnd c0,qqi (by omega) (by omega),bS0,h1,cond_true,qaV (by omega),this];rfl
  | false =>
  cases h2:S.testBit k with
  | true =>
   have:s (S+1)=s S:=by rw[en,qq7,twoT,h2,if_pos rfl,jo,j9]
   refine⟨_,⟨d,st,sm,f,rfl,hT⟩,fun g=>?_⟩;rw[qaL,qnv (by omega),bS0,cnd c0,qqi (by omega) (by omega),bS0,h1,cond_false,qqi (by omega) (by omega),bS0,h2,cond_true,qaV (by omega),this];rfl
  | false =>
  have hi2:2 ^ i<=2 ^ 8:=jA (by decide) (by omega);have hi2:2 ^ i<=256:=hi2;have hk2:2 ^ k<=2 ^ 8:=jA (by decide) (by omega);have hk2:2 ^ k<=256:=hk2;have b1:(S+2 ^ i).testBit k=false:=by rw[qgO h1,decide_eq_false (fun e=>hne e.symm),h2];rfl
  have l1:=qjx h1 hS hi;have l2:=qjx h2 hS hk;have l3:=qjx b1 l1 hk;have hpc:=qx9 (n:=n) hi hk hne h1 h2;have hW:=qDF hT (s:=popc n S) (n:=n) hpc (by omega);have hsz:=qAr (L:=L) (S:=S) (n:=n) (by omega) (by omega) (i:Int) (k:Int) (false,[],[],()) ((canQ (s S)).1.1,(canQ (s S)).1.2,(canQ (s S)).2,()) (d,st,sm,f,());have x1:iadd .i64 (S:Int) ((2 ^ i:Nat):Int)=((S+2 ^ i:Nat):Int):=qrl (by omega);have x2:iadd .i64 (S:Int) ((2 ^ k:Nat):Int)=((S+2 ^ k:Nat):Int):=qrl (by omega);have x3:iadd .i64 ((S+2 ^ i:Nat):Int) ((2 ^ k:Nat):Int)=((S+2 ^ i+2 ^ k:Nat):Int):=qrl (by omega);have a1:=qbN ((hv (S+2 ^ i+2 ^ k)).sm (by omega)) ((hv S).sm (by omega));have a2:=qbN ((hv (S+2 ^ i)).sm (by omega)) ((hv (S+2 ^ k)).sm (by omega));have z1:=(hv (S+2 ^ i+2 ^ k)).add (hv S);have z2:=(hv (S+2 ^ i)).add (hv (S+2 ^ k));have a3:=qfE (z1.sm (by omega)) (z2.sm (by omega));have a4:=qax ((qFD hpc (by omega)).sm (by decide)) ((z1.sub z2).sm (by omega));rw[qae,qae] at a1 a2 a3 a4;rw[qCP h1 h2] at a4;have zp:=qyb (S:=S) hn hi hk hne hv;have a5:=qbN ((ssz S (by omega)).sm (by decide)) (zp.sm (by omega));rw[qae,qae,<- en] at a5;have a5:qaU (((canQ (s S)).1.1,(canQ (s S)).1.2),(canQ (s S)).2) (canQ (qq7 v n i k S))=some (canQ (s (S+1))):=a5;have p1:(0:Int)<=((S+2 ^ i+2 ^ k:Nat):Int):=jJ _;have p2:(0:Int)<=(S:Int):=by omega
  have p3:(0:Int)<=((S+2 ^ i:Nat):Int):=jJ _;have p4:(0:Int)<=((S+2 ^ k:Nat):Int):=jJ _;refine⟨_,⟨1,0,sm,qst,rfl,tab1 sm⟩,fun g=>?_⟩;rw[qaL,qnv (by omega),bS0,cnd c0,qqi (by omega) (by omega),bS0,h1,cond_false,qqi (by omega) (by omega),bS0,h2,cond_false,hsz,bS0];dsimp only;rw[hW,bS0,qnv (by omega),bS0,qnv (by omega),bS0,x1,x3,cnd p1,tN0,hL _ l3,bS0,cnd p2,tN0,hL _ hS,bS0,a1,bS0,bS0,x1,cnd p3,tN0,hL _ l1,bS0,bS0,x2,cnd p4,tN0,hL _ l2,bS0,a2,bS0,a3,bS0];dsimp only;rw[a4,bS0,a5,bS0,qaV (by omega)];rfl) (by
  rintro w ⟨d,st,sm,f,rfl,hT⟩;refine⟨_,rfl,fun g=>?_⟩;rw[qaL,qnv (by omega),bS0,cnd' (by omega)])
 rw[qdL,hN,bS0,qdx,bS0,e,hr];rw[hs];rfl
theorem qoU (m0:qas) (row0:List CELL) (hl:m0.2.length<=9223372036854775807) (ht:∀ t∈m0.2,t.length<=9223372036854775807) (hr:row0.length<=9223372036854775807):qcy m0 row0=some true:=by
 obtain⟨m,row,hs,ms,ml,mt,cs⟩:=qDE m0 row0 hl ht hr;obtain⟨b,hv,hb⟩:=qGk (m:=m) (by omega) (fun t h=>by have:=mt t h;omega) ms (by decide);obtain⟨r1,r2⟩:=qEj hv row;rw[qcy,hs,bS0];dsimp only;rw[r2,bS0];by_cases he:whyR b m row=0
 · have hbt : b = true := by cases b with
     | true=>rfl
     | false=>exact absurd he (by rw[whyR,if_neg (by decide)];decide)
   subst hbt;have hlen:(row.length:Int)=m.1:=by
     apply Classical.byContradiction;intro hn;rw[whyR,if_pos rfl,if_neg hn] at he;exact absurd he (by decide)
   rw[he] at r1 ⊢;rw[cnd rfl];by_cases h5:m.1>5
   · rw[cnd h5,qki];rfl
   rw[cnd' h5];have ha:Askd m row:=⟨hb.1 rfl,hlen,ms,by omega,mt,cs⟩;obtain⟨n,hn⟩:∃ n,n=row.length:=⟨_,rfl⟩;obtain⟨V,eV⟩:∃ V,V=qir m row (-1) false:=⟨_,rfl⟩;obtain⟨g,eg⟩:∃ g,g=qnF m row:=⟨_,rfl⟩;obtain⟨T,eT⟩:∃ T,T=tabS m row (2 ^ row.length):=⟨_,rfl⟩;have hVals:=qxH ha r1 hv (by omega);have hS:=qEu ha ml (by omega);have hTab:=qCs ha (by omega);have sz:∀ S,SzQ (sayM m row S) 4000000:=fun S=>(qwM ha.good ms mt (jp _)).mono (by
     have:=jb 1048577 (show m.2.length<=3 by omega);omega)
   have hL:∀ S,S<2 ^ n->T[S]?=some (canQ (sayM m row S)):=fun S h=>by rw[eT];exact qxV m row (by rw[<- hn];exact h)
   have hp:∀ i k,i<n->k<n->i≠k->qdL T (n:Int) (i:Int) (k:Int)=some (canQ (offQ m row i k)):=fun i k hi hk hne=>by
     have h1:=qAR (v:=sayM m row) (L:=T) (n:=n) (K:=4000000) (by omega) hi hk hne hL sz (by decide);rw[h1,qAQ,qEL ha (by omega) (by omega),if_neg hne,qzK ha (by omega) (by omega) hne,<- hn]
   rw[<- eT,<- hn,<- eV] at hS;rw[<- eg,<- hn] at hVals;rw[<- eT] at hTab;have fz:∀ f,f<n->SzQ (V f) 1500000000:=fun f hf=>by rw[eV];exact qlj ha (-1) false (by omega)
   have gz:∀ a b,a<n->SzQ (g a b) 26000000000:=fun a b h=>by rw[eg];exact qCj ha (by omega) b (by omega)
   have oz:∀ a b,a<n->SzQ (offQ m row a b) 3000000010:=fun a b h=>qp4 ha b (by omega)
   have wz:∀ a j,a<n->j<=n->SzQ (V a-rsum (offQ m row a) j) 22000000000:=fun a j h hj=>by
     have h1:=qme (f:=offQ m row a) (k:=3000000010) (n:=j) (fun i hi=>oz a i h);have:=jb (3000000010+1) (show j<=5 by omega);exact((fz a h).sub h1).mono (by omega)
   have gne:∀ a b,a≠b->g a b=offQ m row a b:=fun a b h=>by rw[eg,qnF,if_neg h]
   have gii:∀ a,g a a=V a-rsum (offQ m row a) n:=fun a=>by rw[eg,qnF,if_pos rfl,eV,hn]
   have k1:∀ i,i<n->lp qag K0 ((grd n n g,T,(n:Int),flo n V,(i:Int),0,()),(((canQ (V i)).1.1,(canQ (V i)).1.2,(canQ (V i)).2,()),()))=some (.inl ((grd n n g,T,(n:Int),flo n V,(i:Int),()),(((canQ (g i i)).1.1,(canQ (g i i)).1.2,(canQ (g i i)).2,()),()))):=by
     intro i hi;have key:=qfM (step:=qag) (fun j=>((grd n n g,T,(n:Int),flo n V,(i:Int),(j:Int),()),(((canQ (V i-rsum (offQ m row i) j)).1.1,(canQ (V i-rsum (offQ m row i) j)).1.2,(canQ (V i-rsum (offQ m row i) j)).2,()),()))) n
      (r:=.inl ((grd n n g,T,(n:Int),flo n V,(i:Int),()),(((canQ (g i i)).1.1,(canQ (g i i)).1.2,(canQ (g i i)).2,()),()))) (by omega) (by
      intro K j hj;have e:rsum (offQ m row i) (j+1)=rsum (offQ m row i) j+offQ m row i j:=rfl;by_cases hij:i=j
      · subst hij;have e0:offQ m row i i=0:=by rw[offQ,if_pos rfl]
        rw[qag,cnd (by omega),cnd rfl,qaV (by omega),e,e0,j9];rfl
      · have hsub := qfE ((wz i j hi (by omega)).sm (by decide)) ((oz i j hi).sm (by decide));rw[qae,qae,show V i-rsum (offQ m row i) j-offQ m row i j=V i-rsum (offQ m row i) (j+1) by rw[e];grind] at hsub;have hsub:qcZ (((canQ (V i-rsum (offQ m row i) j)).1.1,(canQ (V i-rsum (offQ m row i) j)).1.2),(canQ (V i-rsum (offQ m row i) j)).2) (canQ (offQ m row i j))=_:=hsub;have his:=qBe (q:=g i j) (r:=offQ m row i j) (gz i j hi) (by decide) (oz i j hi) (by decide) (gne i j hij);rw[qag,cnd (by omega),cnd' (by omega),hp i j hi hj hij,bS0,hsub,bS0,qyr _ hi hj,his,bS0,jf,cond_false,qaV (by omega)];rfl) (by
      intro K;rw[qag,cnd' (by omega),<- gii])
     have e0:V i-rsum (offQ m row i) 0=V i:=by show V i-0=V i;grind
     rw[e0] at key;exact key
   have k2:=qfM (step:=qah) (fun i=>((grd n n g,T,(n:Int),flo n V,(i:Int),()),())) n
     (r:=.inl ((),())) (by omega) (by
     intro K i hi;have his:=qBe (q:=g i i) (r:=g i i) (gz i i hi) (by decide) (gz i i hi) (by decide) rfl;have his:qc3 (canQ (g i i)) (((canQ (g i i)).1.1,(canQ (g i i)).1.2),(canQ (g i i)).2)=some true:=his;rw[qah,cnd (by omega),bnd2 (by omega) (by rw[qbi];omega),tN0,qgJ _ hi,bS0];rw[bnd2 (by omega) (by rw[qh8];omega),qqj _ hi,bS0,bS0,bS0,qbi,decide_eq_true rfl,jf,cond_false,k1 i hi,bS0];dsimp only;rw[qyr _ hi hi,his,bS0,jf,cond_false,qaV (by omega)];rfl) (by
     intro K;rw[qah,cnd' (by omega)])
   have k2:lp qah K0 ((grd n n g,T,(n:Int),flo n V,0,()),())=_:=k2;have em:m.1=(n:Int):=by omega
   rw[hVals,bS0,decide_eq_true rfl,jf,cond_false,hTab,bS0];dsimp only;rw[decide_eq_true rfl,jf,cond_false,qh8,em,decide_eq_true rfl,jf,cond_false,hS,bS0,k2,bS0];dsimp only;rw[cond_false,qki];rfl
 · rw [cnd' he, qww r1 he, bS0, decide_eq_false he, jm, cond_true, decide_eq_true rfl, cond_true, qki];rfl
end Go.Proofs.YtiefddjokkihdaaGreatDoor.X
