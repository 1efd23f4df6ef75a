/- Own work: part of the proof; the first line of each part says what it tells. -/
import Derived.Test.YtilflbimpjokjaaGreatDoorLv8


namespace Go.Proofs.YtilflbimpjokjaaGreatDoor.X
open Go
set_option linter.unusedVariables false
set_option linter.unusedSimpArgs false
def outP1 (P:List AP) (a:Nat):List AP:=P.take a ++ P.drop (a+1)
theorem outP1_len {P:List AP} {a:Nat} (h:a < P.length):(outP1 P a).length+1=P.length:=by simp [outP1];omega
theorem outP1_perm {P:List AP} {a:Nat} (h:a < P.length):P.Perm (P[a] :: outP1 P a):=by
 have e:P=P.take a ++ P[a] :: P.drop (a+1):=by rw[← List.drop_eq_getElem_cons h,List.take_append_drop]
 have:(P.take a ++ P[a] :: P.drop (a+1)).Perm (P[a] :: (P.take a ++ P.drop (a+1))):=List.perm_middle
 exact(List.Perm.of_eq e).trans this
theorem outP1_mem {P:List AP} {a:Nat}:∀ p∈outP1 P a,p∈P:=fun p hp=>by
 rcases List.mem_append.1 hp with h | h
 · exact List.mem_of_mem_take h
 · exact List.mem_of_mem_drop h
theorem ekP_take {P:List AP} {a:Nat} (h:a < P.length) (k:Nat):ekP P k=P[a].2.1*ekP (outP1 P a) k+(if k=0 then 0 else one0 P[a].2.2*ekP (outP1 P a) (k - 1)):=by
 rw[ekP_perm (outP1_perm h)];rfl
theorem PathP.out {P:List AP} {k g:Nat} (h:PathP P k g) {a:Nat} (ha:a < P.length):PathP (outP1 P a) k g:=by
 have hp:=(outP1_perm ha).map (·.1)
 have hn:=hp.nodup_iff.1 h.nd
 exact⟨(List.nodup_cons.1 hn).2,fun p hp=>h.sz p (outP1_mem p hp),by have:=outP1_len ha;have:=h.len;omega,fun p hp=>h.lt p (outP1_mem p hp),fun p hp=>h.pos p (outP1_mem p hp)⟩
theorem PathP.notin {P:List AP} {k g:Nat} (h:PathP P k g) {a:Nat} (ha:a < P.length):∀ p∈outP1 P a,p.1≠P[a].1:=by
 have hp:=(outP1_perm ha).map (·.1)
 have hn:=List.nodup_cons.1 (hp.nodup_iff.1 h.nd)
 intro p hp e
 exact hn.1 (List.mem_map.2 ⟨p,hp,e⟩)
theorem wtP_no {P:List AP} {a i:Nat} (ha:a < P.length) (hi:i < P.length) (hz:P[a].2.1≠0) (hok:P[a].2.2=false) :
  wtP P i*(((P.length+1:Nat):Rat) / ((P.length - i:Nat):Rat))*P[a].2.1⁻¹=wtP (outP1 P a) i:=by
 have hl:=outP1_len ha
 unfold wtP
 rw[ekP_take ha,hok,wq_stay (i:=i) (n:=P.length) hi,show(outP1 P a).length+1=P.length by omega]
 have n1:=natQ_ne (show 0 < P.length - i by omega)
 have n2:=natQ_ne (show 0 < P.length+1 by omega)
 generalize wq i P.length=x
 generalize ekP (outP1 P a) i=y
 generalize ekP (outP1 P a) (i - 1)=y2
 generalize ((P.length - i:Nat):Rat)=u at *
 generalize ((P.length+1:Nat):Rat)=v at *
 generalize P[a].2.1=z at *
 simp only[one0,Bool.false_eq_true,if_false,Rat.zero_mul,ite_self,Rat.add_zero]
 grind
def nxP (P:List AP) (a i:Nat):Rat:=wq (i+1) (P.length+1)*ekP (outP1 P a) i
theorem nxP_out {P:List AP} {a i:Nat} (ha:a < P.length) (hi:i < P.length):nxP P a i*(((P.length+1:Nat):Rat) / ((i+1:Nat):Rat))=wtP (outP1 P a) i:=by
 have hl:=outP1_len ha
 unfold wtP nxP
 rw[wq_join (i:=i) (n:=P.length) hi,show(outP1 P a).length+1=P.length by omega]
 have n1:=natQ_ne (show 0 < i+1 by omega)
 have n2:=natQ_ne (show 0 < P.length+1 by omega)
 generalize wq i P.length=x
 generalize ekP (outP1 P a) i=y
 generalize ((i+1:Nat):Rat)=u at *
 generalize ((P.length+1:Nat):Rat)=v at *
 grind
theorem nxP_next {P:List AP} {a i:Nat} (ha:a < P.length) (hi:i < P.length) (hok:P[a].2.2=true) :
  wtP P i - wtP (outP1 P a) i*P[a].2.1*(((P.length - i:Nat):Rat) / ((P.length+1:Nat):Rat))=if i=0 then 0 else nxP P a (i - 1):=by
 have hl:=outP1_len ha
 unfold wtP nxP
 rw[ekP_take ha,hok,wq_stay (i:=i) (n:=P.length) hi,show(outP1 P a).length+1=P.length by omega]
 cases i with
 | zero =>
  simp only[if_true]
  generalize wq 0 P.length=x
  generalize ekP (outP1 P a) 0=y
  generalize P[a].2.1=z at *
  grind
 | succ i =>
  rw[if_neg (by omega),if_neg (by omega),Nat.add_sub_cancel,wq_stay (i:=i+1) (n:=P.length) hi]
  generalize wq (i+1) P.length=x
  generalize ekP (outP1 P a) (i+1)=y
  generalize ekP (outP1 P a) i=y2
  generalize P[a].2.1=z at *
  simp only[one0,if_true]
  grind
theorem nxP_top {P:List AP} {a:Nat} (ha:a < P.length) (hok:P[a].2.2=true):wtP P P.length=nxP P a (P.length - 1):=by
 have hl:=outP1_len ha
 unfold wtP nxP
 rw[ekP_take ha,hok,ekP_out (outP1 P a) (by omega),if_neg (by omega),show P.length - 1+1=P.length by omega]
 simp only[one0,if_true]
 grind
theorem nxP_sz {P:List AP} {k g a:Nat} (h:PathP P k g) (ha:a < P.length) (hk:k≤70) {i:Nat} (hi:i < P.length):SzQ (nxP P a i) 100000000:=by
 have hl:=outP1_len ha
 have h2:=h.out ha
 have hS:=ekS_le (k:=k) (n:=(outP1 P a).length) hk h2.len
 have:=h.len
 exact((wq_sz (s:=i+1) (n:=P.length+1) (by omega) (by omega)).mul (ekP_sz h2.sz i)).mono (by omega)
def bkL (n i:Nat) (w:Nat→Rat):List RAT:=(List.range n).map fun j=>if i≤j then canQ (w j) else zR
theorem bkL_len (n i:Nat) (w:Nat→Rat):(bkL n i w).length=n:=by simp [bkL]
theorem bkL_get {n i j:Nat} (w:Nat→Rat) (h:j < n):(bkL n i w)[j]?=some (if i≤j then canQ (w j) else zR):=by simp [bkL,h]
theorem bkL_set {n i:Nat} (w:Nat→Rat):(bkL n (i+1) w).set i (canQ (w i))=bkL n i w:=by
 refine List.ext_getElem? fun j=>?_
 rw[List.getElem?_set]
 by_cases e:i=j
 · subst e
   by_cases hi:i < n
   · rw[if_pos rfl,if_pos (by rw[bkL_len];exact hi),bkL_get w hi,if_pos (Nat.le_refl _)]
   · rw[if_pos rfl,if_neg (by rw[bkL_len];exact hi),List.getElem?_eq_none (by rw[bkL_len];omega)]
 · rw [if_neg e]
   by_cases hj:j < n
   · rw [bkL_get w hj, bkL_get w hj]
     by_cases h:i≤j
     · rw[if_pos (by omega),if_pos h]
     · rw[if_neg (by omega),if_neg h]
   · rw[List.getElem?_eq_none (by rw[bkL_len];omega),List.getElem?_eq_none (by rw[bkL_len];omega)]
theorem bkL_none (n:Nat) (w:Nat→Rat):bkL n n w=List.replicate n zR:=by
 rw[List.eq_replicate_iff]
 refine⟨bkL_len _ _ _,fun x hx=>?_⟩
 obtain⟨j,hj,rfl⟩:=List.mem_map.1 hx
 have:=List.mem_range.1 hj
 exact if_neg (by omega)
theorem bkL_all (n:Nat) (w:Nat→Rat):bkL n 0 w=flo n w:=List.map_congr_left fun j _=>if_pos (Nat.zero_le _)
theorem without_ok {P:List AP} {k g:Nat} (h:PathP P k g) (hk:k≤70) {a:Nat} (ha:a < P.length) :
  pathshap_Path_without ((a+1:Nat):Int) (encK P (wtP P))=some (flo P.length (wtP (outP1 P a)),encK P (wtP P)):=by
 have hl:=outP1_len ha
 have hl2:=h.len
 have el:=encK_len P (wtP P)
 obtain⟨n,en⟩:∃ n,n=P.length:=⟨_,rfl⟩
 have hS:=ekS_le (k:=k) (n:=P.length) hk (by omega)
 have wsz:∀ i,i≤P.length→SzQ (wtP P i) 100000000:=fun i hi=>(wtP_sz h.sz hl2 hi).mono (by omega)
 have hQ:=h.out ha
 have hS2:=ekS_le (k:=k) (n:=(outP1 P a).length) hk hQ.len
 have qsz:∀ i,i < P.length→SzQ (wtP (outP1 P a) i) 100000000:=fun i hi=>(wtP_sz hQ.sz hQ.len (by omega)).mono (by omega)
 have hz:SzQ P[a].2.1 k:=h.sz _ (gM0 ha)
 have hpos:=h.pos _ (gM0 ha)
 have hz0:P[a].2.1≠0:=by intro e;rw[e] at hpos;exact absurd hpos (by decide)
 obtain⟨L,eL⟩:∃ L,L=lkF P (wtP P) (a+1):=⟨_,rfl⟩
 have eL':=eL
 rw[lkF_part ha] at eL'
 have L1:L.2.1=canQ P[a].2.1:=by rw[eL']
 have L2:L.2.2.1=P[a].2.2:=by rw[eL']
 obtain⟨nx,hnx⟩:∃ nx:Nat→Rat,nx=fun m=>if P[a].2.2 then (if m < n then nxP P a (n - 1 - m) else 0) else wtP P n:=⟨_,rfl⟩
 obtain⟨ov,hov⟩:∃ ov:Rat,ov=P[a].2.1⁻¹:=⟨_,rfl⟩
 have pn1:iadd .i64 ((n:Nat):Int) 1=((n+1:Nat):Int):=iadd1 (by omega)
 have key:=lp_up (step:=pathshap_Path_without_s7) (fun m=>(((n:Int),bkL n (n - m) (wtP (outP1 P a)),((n:Nat):Int) - 1 - (m:Int),()),((L.1,L.2.1.1.1,L.2.1.1.2,L.2.1.2,L.2.2.1,L.2.2.2.1.1,L.2.2.2.1.2,L.2.2.2.2,()),((canQ ov).1.1,(canQ ov).1.2,(canQ ov).2,()),((canQ (nx m)).1.1,(canQ (nx m)).1.2,(canQ (nx m)).2,()),(encK P (wtP P),()),()))) n
  (r:=((bkL n 0 (wtP (outP1 P a)),()),((encK P (wtP P),()),()))) (by omega) (by
  intro g m hm
  obtain⟨i,hi⟩:∃ i,n=i+m+1:=⟨n - m - 1,by omega⟩
  have ei:((n:Nat):Int) - 1 - (m:Int)=(i:Int):=by omega
  have ei2:((n:Nat):Int) - 1 - ((m+1:Nat):Int)=(i:Int) - 1:=by omega
  have en1:n - m=i+1:=by omega
  have en2:n - (m+1)=i:=by omega
  have d0:((i:Nat):Int) ≥ 0:=by omega
  have d1:(0:Int)≤(i:Int):=by omega
  have d2:(i:Int) < ((encK P (wtP P)).length:Int):=by rw[el];omega
  have d3:(i:Int) < ((bkL n (i+1) (wtP (outP1 P a))).length:Int):=by rw[bkL_len];omega
  have g1:=encK_get (P:=P) (w:=wtP P) (i:=i) (by omega)
  have g2:=bkL_get (n:=n) (i:=i+1) (j:=i) (wtP (outP1 P a)) (by omega)
  have q2:isub .i64 (n:Int) (i:Int)=((n - i:Nat):Int):=by rw[isub_i (by omega) (by omega)];omega
  have q3:isub .i64 (i:Int) 1=(i:Int) - 1:=by rw[isub_i (by omega) (by omega)]
  have q1:iadd .i64 (i:Int) 1=((i+1:Nat):Int):=iadd1 (by omega)
  have hset:=bkL_set (n:=n) (i:=i) (wtP (outP1 P a))
  show pathshap_Path_without_s7 g (((n:Int),bkL n (n - m) (wtP (outP1 P a)),((n:Nat):Int) - 1 - (m:Int),()),((L.1,L.2.1.1.1,L.2.1.1.2,L.2.1.2,L.2.2.1,L.2.2.2.1.1,L.2.2.2.1.2,L.2.2.2.2,()),((canQ ov).1.1,(canQ ov).1.2,(canQ ov).2,()),((canQ (nx m)).1.1,(canQ (nx m)).1.2,(canQ (nx m)).2,()),(encK P (wtP P),()),()))=g (((n:Int),bkL n (n - (m+1)) (wtP (outP1 P a)),((n:Nat):Int) - 1 - ((m+1:Nat):Int),()),((L.1,L.2.1.1.1,L.2.1.1.2,L.2.1.2,L.2.2.1,L.2.2.2.1.1,L.2.2.2.1.2,L.2.2.2.2,()),((canQ ov).1.1,(canQ ov).1.2,(canQ ov).2,()),((canQ (nx (m+1))).1.1,(canQ (nx (m+1))).1.2,(canQ (nx (m+1))).2,()),(encK P (wtP P),()),()))
  rw[ei,ei2,en1,en2,pathshap_Path_without_s7,cnd d0,L2]
  cases hok:P[a].2.2 with
  | false =>
   have f1:=frac_ok (a:=n+1) (b:=n - i) (by omega) (by omega)
   have s1:=frac_sz (a:=n+1) (b:=n - i) (by omega) (by omega)
   have hw:=wsz i (by omega)
   have m1:=ratio_Mul_ok (hw.sm (by decide)) (s1.sm (by decide))
   rw[rv_canQ,rv_canQ] at m1
   have z1:SzQ (wtP P i*(((n+1:Nat):Rat) / ((n - i:Nat):Rat))) 200000000:=(hw.mul s1).mono (by omega)
   have hi2:SzQ ov k:=by rw[hov];exact hz.inv
   have m2:=ratio_Mul_ok (z1.sm (by decide)) (hi2.sm (by omega))
   rw[rv_canQ,rv_canQ] at m2
   have m2:ratio_Mul (canQ (wtP P i*(((n+1:Nat):Rat) / ((n - i:Nat):Rat)))) (((canQ ov).1.1,(canQ ov).1.2),(canQ ov).2)=_:=m2
   have e1:=wtP_no ha (i:=i) (by omega) hz0 hok
   rw[← en,← hov] at e1
   have e2:nx (m+1)=nx m:=by rw[hnx];simp only[hok,Bool.false_eq_true,if_false]
   rw[Bool.not_false,cond_true,cnd2 d1 d2,tN0,g1,bS0,pn1,q2,f1,bS0,lkF_w,m1,bS0,m2,bS0,cnd2 d1 d3,g2,bS0,e1,hset,q3,e2]
  | true =>
   have f1:=frac_ok (a:=n+1) (b:=i+1) (by omega) (by omega)
   have s1:=frac_sz (a:=n+1) (b:=i+1) (by omega) (by omega)
   have enx:nx m=nxP P a i:=by rw[hnx];simp only[hok,if_true];rw[if_pos hm,show n - 1 - m=i by omega]
   have nsz:=nxP_sz h ha hk (i:=i) (by omega)
   have m1:=ratio_Mul_ok (nsz.sm (by decide)) (s1.sm (by decide))
   rw[rv_canQ,rv_canQ] at m1
   have e1:=nxP_out ha (i:=i) (by omega)
   rw[← en] at e1
   rw[e1] at m1
   have m1:ratio_Mul (((canQ (nxP P a i)).1.1,(canQ (nxP P a i)).1.2),(canQ (nxP P a i)).2) (canQ (((n+1:Nat):Rat) / ((i+1:Nat):Rat)))=some (canQ (wtP (outP1 P a) i)):=m1
   have d4:(i:Int) < ((bkL n i (wtP (outP1 P a))).length:Int):=by rw[bkL_len];omega
   have g3:=bkL_get (n:=n) (i:=i) (j:=i) (wtP (outP1 P a)) (by omega)
   rw[if_pos (Nat.le_refl _)] at g3
   have hq:=qsz i (by omega)
   have m2:=ratio_Mul_ok (hq.sm (by decide)) (hz.sm (by omega))
   rw[rv_canQ,rv_canQ] at m2
   have m2:ratio_Mul (canQ (wtP (outP1 P a) i)) ((L.2.1.1.1,L.2.1.1.2),L.2.1.2)=some (canQ (wtP (outP1 P a) i*P[a].2.1)):=by
    show ratio_Mul _ L.2.1=_
    rw[L1];exact m2
   have f2:=frac_ok (a:=n - i) (b:=n+1) (by omega) (by omega)
   have s2:=frac_sz (a:=n - i) (b:=n+1) (by omega) (by omega)
   have z2:SzQ (wtP (outP1 P a) i*P[a].2.1) 200000000:=(hq.mul hz).mono (by omega)
   have m3:=ratio_Mul_ok (z2.sm (by decide)) (s2.sm (by decide))
   rw[rv_canQ,rv_canQ] at m3
   have z3:SzQ (wtP (outP1 P a) i*P[a].2.1*(((n - i:Nat):Rat) / ((n+1:Nat):Rat))) 300000000:=(z2.mul s2).mono (by omega)
   have hw:=wsz i (by omega)
   have m4:=ratio_Sub_ok (hw.sm (by decide)) (z3.sm (by decide))
   rw[rv_canQ,rv_canQ] at m4
   have e2:=nxP_next ha (i:=i) (by omega) hok
   rw[← en] at e2
   rw[e2] at m4
   have e3:nx (m+1)=if i=0 then 0 else nxP P a (i - 1):=by
    rw[hnx];simp only[hok,if_true]
    by_cases h0:i=0
    · rw[if_neg (by omega),if_pos h0]
    · rw[if_pos (by omega),if_neg h0,show n - 1 - (m+1)=i - 1 by omega]
   rw[Bool.not_true,cond_false,pn1,q1,f1,bS0,enx,m1,bS0,cnd2 d1 d3,tN0,g2,bS0,cnd2 d1 d2,g1,bS0,hset,cnd2 d1 d4,g3,bS0,m2,bS0,q2,f2,bS0,m3,bS0,lkF_w,m4,bS0,q3,e3]) (by
  intro g
  rw[Nat.sub_self,pathshap_Path_without_s7,cnd' (by omega)])
 have i1:isub .i64 ((P.length+1:Nat):Int) 1=(n:Int):=by rw[isub_i (by omega) (by omega)];omega
 have i2:isub .i64 (n:Int) 1=((n:Nat):Int) - 1 - ((0:Nat):Int):=by rw[isub_i (by omega) (by omega)];omega
 have c0:(0:Int)≤((a+1:Nat):Int):=by omega
 have c1:((a+1:Nat):Int) < ((P.length+1:Nat):Int):=by omega
 have hinv:=ratio_Inv_ok (hz.sm (by omega))
 rw[rv_canQ,if_neg hz0,← hov] at hinv
 have c2:(decide ((n:Int)=(n:Int))&&decide ((0:Int)≤(n:Int))&&decide ((((56:Nat):Int)*(n:Int))≤281474976710656)&&decide ((n:Int)≤9223372036854775807))=true:=by
  simp only[Bool.and_eq_true,decide_eq_true_eq]
  refine⟨⟨⟨trivial,by omega⟩,?_⟩,by omega⟩
  show(56:Int)*(n:Int)≤281474976710656
  omega
 have ev:nx 0=wtP P n:=by
  rw[hnx]
  cases hok:P[a].2.2 with
  | false=>simp
  | true=>simp only[if_true];rw[if_pos (by omega),en,nxP_top ha hok,Nat.sub_zero]
 have gn:=encK_get (P:=P) (w:=wtP P) (i:=n) (by omega)
 rw[pathshap_Path_without,el,cnd2 c0 c1,tN0,encK_get (by omega),bS0,i1,c2,cond_true,← eL,L1,hinv,bS0,cnd2 (by omega) (by omega),tN0,gn,bS0,i2]
 dsimp only
 rw[lkF_w,← ev]
 have key:lp pathshap_Path_without_s7 K0 (((n:Int),List.replicate n (((false,[]),[]):RAT),((n:Nat):Int) - 1 - ((0:Nat):Int),()),((L.1,(canQ P[a].2.1).1.1,(canQ P[a].2.1).1.2,(canQ P[a].2.1).2,L.2.2.1,L.2.2.2.1.1,L.2.2.2.1.2,L.2.2.2.2,()),((canQ ov).1.1,(canQ ov).1.2,(canQ ov).2,()),((canQ (nx 0)).1.1,(canQ (nx 0)).1.2,(canQ (nx 0)).2,()),(encK P (wtP P),()),()))=some ((bkL n 0 (wtP (outP1 P a)),()),((encK P (wtP P),()),())):=by
  have k2:=key
  rw[Nat.sub_zero,bkL_none,L1] at k2
  exact k2
 rw[key,bkL_all,en];rfl
theorem floSum_ok {n k:Nat} {w:Nat→Rat} (hw:∀ i,i < n→SzQ (w i) k) (hk:1+n*(k+1) < 1099511627776) (hn:n < 1000000):ratio_Sum (flo n w)=some (canQ (rsum w n)):=by
 have hv:∀ i,i < n→vals (flo n w) i=w i:=fun i hi=>by
  rw[vals,flo_get w hi]
  show rv (canQ (w i))=w i
  exact rv_canQ _
 have h:=ratio_Sum_ok (l:=flo n w) (k:=k) (fun x hx=>by
  obtain⟨i,hi,rfl⟩:=List.mem_map.1 hx
  have hi:=List.mem_range.1 hi
  refine(hw i hi).sm ?_
  have:1*(k+1)≤n*(k+1):=Nat.mul_le_mul_right _ (by omega)
  omega) (fun i hi=>by rw[flo_len] at hi;rw[hv i hi];exact hw i hi) (by rw[flo_len];exact hk) (by rw[flo_len];omega)
 rw[h,flo_len]
 congr 2
 exact rsum_congr fun i hi=>hv i hi
def sumP (P:List AP) (a:Nat):Rat:=rsum (wtP (outP1 P a)) P.length
theorem outW_sz {P:List AP} {k g:Nat} (h:PathP P k g) (hk:k≤70) {a:Nat} (ha:a < P.length):∀ i,i < P.length→SzQ (wtP (outP1 P a) i) (30+ekS k (outP1 P a).length):=fun i hi=>by
 have:=outP1_len ha
 exact wtP_sz (h.out ha).sz (h.out ha).len (by omega)
theorem Sum15_ok {P:List AP} {k g:Nat} (h:PathP P k g) (hk:k≤70) {a:Nat} (ha:a < P.length) :
  pathshap_Path_Sum ((a+1:Nat):Int) (encK P (wtP P))=some (canQ (sumP P a),0,encK P (wtP P)):=by
 have el:=encK_len P (wtP P)
 have hl2:=h.len
 have hS2:=ekS_le (k:=k) (n:=(outP1 P a).length) hk (h.out ha).len
 have hs:=floSum_ok (n:=P.length) (w:=wtP (outP1 P a)) (k:=100000000) (fun i hi=>(outW_sz h hk ha i hi).mono (by omega)) (by omega) (by omega)
 rw[pathshap_Path_Sum,el,cnd' (by omega),cnd' (by omega),cnd' (by omega),without_ok h hk ha,bS0]
 dsimp only
 rw[hs];rfl
theorem encK_out {P:List AP} {w:Nat→Rat} {a:Nat} (ha:a < P.length):(encK P w).take (a+1) ++ (encK P w).drop (a+2)=encK (outP1 P a) fun j=>if j≤a then w j else w (j+1):=by
 have el:=encK_len P w
 have hl:=outP1_len ha
 have ho:∀ j,(outP1 P a)[j]?=if j < a then P[j]? else P[j+1]?:=fun j=>by
   unfold outP1
   by_cases hj:j < a
   · rw[if_pos hj,List.getElem?_append_left (by rw[List.length_take];omega),List.getElem?_take,if_pos hj]
   · rw [if_neg hj, List.getElem?_append_right (by rw [List.length_take]; omega), List.length_take, Nat.min_eq_left (by omega), List.getElem?_drop]
     congr 1;omega
 refine List.ext_getElem? fun j=>?_
 by_cases hj:j < a+1
 · rw [List.getElem?_append_left (by rw [List.length_take]; omega), List.getElem?_take, if_pos hj, encK_get (by omega), encK_get (by omega)]
   unfold lkF
   split
   · rename_i e;subst e;simp
   · have e1 : (outP1 P a)[j - 1]? = P[j - 1]? := by rw [ho, if_pos (by omega)]
     have e2:(if j≤a then w j else w (j+1))=w j:=if_pos (by omega)
     simp only[e1,e2]
 · rw [List.getElem?_append_right (by rw [List.length_take]; omega), List.length_take, Nat.min_eq_left (by omega), List.getElem?_drop, show a + 2 + (j - (a + 1)) = j + 1 by omega]
   by_cases hj2:j+1 < P.length+1
   · rw [encK_get hj2, encK_get (by omega)]
     unfold lkF
     have e1:(outP1 P a)[j - 1]?=P[j]?:=by rw[ho,if_neg (by omega)];congr 1;omega
     have e2:(if j≤a then w j else w (j+1))=w (j+1):=if_neg (by omega)
     rw[if_neg (by omega),if_neg (by omega)]
     simp only[e1,e2,Nat.add_sub_cancel]
   · rw[List.getElem?_eq_none (by omega),List.getElem?_eq_none (by rw[encK_len];omega)]
theorem Unwind_ok {P:List AP} {k g:Nat} (h:PathP P k g) (hk:k≤70) {a:Nat} (ha:a < P.length) :
  pathshap_Path_Unwind ((a+1:Nat):Int) (encK P (wtP P))=some (0,encK (outP1 P a) (wtP (outP1 P a))):=by
 have el:=encK_len P (wtP P)
 have hl2:=h.len
 have hl:=outP1_len ha
 obtain⟨Q,eQ⟩:∃ Q,Q=outP1 P a:=⟨_,rfl⟩
 have eo:=encK_out (w:=wtP P) ha
 rw[← eQ] at eo hl
 obtain⟨w0,hw0⟩:∃ w0:Nat→Rat,w0=fun j=>if j≤a then wtP P j else wtP P (j+1):=⟨_,rfl⟩
 rw[← hw0] at eo
 obtain⟨F,eF⟩:∃ F,F=flo P.length (wtP Q):=⟨_,rfl⟩
 have lF:F.length=P.length:=by rw[eF,flo_len]
 have lQ:∀ w,(encK Q w).length=P.length:=fun w=>by rw[encK_len];exact hl
 have key:=lp_up (step:=pathshap_Path_Unwind_s8) (fun i=>((F,encK Q (fun j=>if j < i then wtP Q j else w0 j),((P.length:Nat):Int),(i:Int),()),((encK P (wtP P),()),()))) P.length
  (r:=((encK Q (fun j=>if j < P.length then wtP Q j else w0 j),()),((encK P (wtP P),()),()))) (by omega) (by
  intro gg i hi
  have d0:(i:Int) < ((P.length:Nat):Int):=by omega
  have d1:(0:Int)≤(i:Int):=by omega
  have d2:(i:Int) < (F.length:Int):=by rw[lF];exact d0
  have d3:(i:Int) < ((encK Q (fun j=>if j < i then wtP Q j else w0 j)).length:Int):=by rw[lQ];exact d0
  have g1:F[i]?=some (canQ (wtP Q i)):=by rw[eF];exact flo_get _ hi
  have g2:=encK_get (P:=Q) (w:=fun j=>if j < i then wtP Q j else w0 j) (i:=i) (by omega)
  have u:=encK_set (P:=Q) (w:=fun j=>if j < i then wtP Q j else w0 j) (i:=i) (wtP Q i)
  have e:encK Q (fun j=>if j=i then wtP Q i else if j < i then wtP Q j else w0 j)=encK Q (fun j=>if j < i+1 then wtP Q j else w0 j):=by
   refine encK_congr fun j _=>?_
   by_cases e1:j=i
   · rw[if_pos e1,if_pos (by omega),e1]
   · rw [if_neg e1]
     by_cases e2:j < i
     · rw[if_pos e2,if_pos (by omega)]
     · rw[if_neg e2,if_neg (by omega)]
  rw[pathshap_Path_Unwind_s8,cnd d0,cnd2 d1 d2,tN0,g1,bS0,cnd2 d1 d3,g2,bS0,u,e,iadd1 (by omega)]
  rfl) (by
  intro gg
  rw[pathshap_Path_Unwind_s8,cnd' (by omega)])
 have e0:encK Q (fun j=>if j < 0 then wtP Q j else w0 j)=encK Q w0:=encK_congr fun j _=>if_neg (by omega)
 have e1:encK Q (fun j=>if j < P.length then wtP Q j else w0 j)=encK Q (wtP Q):=encK_congr fun j hj=>if_pos (by omega)
 rw[e0,e1] at key
 have key:lp pathshap_Path_Unwind_s8 K0 ((F,encK Q w0,((P.length:Nat):Int),0,()),((encK P (wtP P),()),()))=some ((encK Q (wtP Q),()),((encK P (wtP P),()),())):=key
 have i1:iadd .i64 ((a+1:Nat):Int) 1=((a+2:Nat):Int):=iadd1 (by omega)
 have hw:=without_ok h hk ha
 rw[← eQ,← eF] at hw
 have t1:(((a+1:Nat):Int) - 0).toNat=a+1:=by omega
 have t2:(((a+2:Nat):Int)).toNat=a+2:=by omega
 have c1:(decide ((0:Int)≤((a+1:Nat):Int))&&decide ((((a+1:Nat):Int):Int)≤((a+1:Nat):Int))&&decide ((((a+1:Nat):Int):Int)≤((P.length+1:Nat):Int)))=true:=by
  simp only[Bool.and_eq_true,decide_eq_true_eq];omega
 rw[pathshap_Path_Unwind,el,cnd' (by omega),cnd' (by omega),cnd' (by omega),hw,bS0]
 dsimp only
 rw[el,c1,cond_true,t1,blt (by rw[List.length_take,el];simp;omega),cond_true,i1,cnd2 (by omega) (by omega),t2,List.nil_append,blt (by rw[List.length_take,List.length_drop,el];omega),cond_true,eo,lQ,key,eQ]
 rfl
theorem along_new {f:Nat} {q:Rat} {ok:Bool} {w:List AP} (h:∀ p∈w,p.1≠f):(along f q ok w).Perm ((f,q,ok) :: w):=by
 induction w with
 | nil=>exact List.Perm.refl _
 | cons p w ih =>
  have h1:p.1≠f:=h p List.mem_cons_self
  have ih:=ih fun x hx=>h x (List.mem_cons_of_mem _ hx)
  simp only[along]
  split
  · exact(List.Perm.cons _ ih).trans (List.Perm.swap _ _ _)
  · first | exact List.Perm.refl _ | (rw[if_neg h1])
theorem along_old {f:Nat} {q s:Rat} {ok o:Bool} {w:List AP} (hs:SortA w) (hm:(f,s,o)∈w):∃ r:List AP,w.Perm ((f,s,o) :: r)∧(along f q ok w).Perm ((f,s*q,o&&ok) :: r):=by
 induction w with
 | nil=>cases hm
 | cons p w ih =>
  have hs2:=List.pairwise_cons.1 hs
  rcases List.mem_cons.1 hm with e | hm
  · subst e
    refine⟨w,List.Perm.refl _,?_⟩
    simp only[along]
    simp
  · obtain ⟨r, h1, h2⟩ := ih hs2.2 hm
    have hlt:p.1 < f:=hs2.1 _ hm
    refine⟨p :: r,(List.Perm.cons _ h1).trans (List.Perm.swap _ _ _),?_⟩
    simp only[along]
    rw[if_pos hlt]
    exact(List.Perm.cons _ h2).trans (List.Perm.swap _ _ _)
theorem find_ix {P:List AP} {f:Nat}:(∀ p∈P,p.1≠f)∨∃ a,∃ ha:a < P.length,P[a].1=f∧∀ j (hj:j < P.length),j < a→P[j].1≠f:=by
 induction P with
 | nil=>exact .inl (by simp)
 | cons p P ih =>
  by_cases e:p.1=f
  · exact .inr ⟨0,by simp,e,fun j _ hj=>by omega⟩
  · rcases ih with h | ⟨a, ha, h1, h2⟩
    · exact .inl fun x hx=>by rcases List.mem_cons.1 hx with rfl | hx;exact e;exact h x hx
    · refine .inr ⟨a + 1, by simpa using ha, by simpa using h1, fun j hj hja => ?_⟩
      cases j with
      | zero=>exact e
      | succ j=>simpa using h2 j (by simpa using hj) (by omega)
theorem PathP.mono {P:List AP} {k k' g:Nat} (h:PathP P k g) (hk:k≤k'):PathP P k' g:=⟨h.nd,fun p hp=>(h.sz p hp).mono hk,h.len,h.lt,h.pos⟩
theorem PathP.snoc {P:List AP} {k g:Nat} (h:PathP P k g) {f:Nat} {q:Rat} {ok:Bool} (hf:∀ p∈P,p.1≠f) (hq:SzQ q k) (hq0:0 < q) (hl:P.length < 20) (hfg:f < g):PathP (P ++ [(f,q,ok)]) k g:=by
 have hp:(P ++ [((f,q,ok):AP)]).Perm ((f,q,ok) :: P):=List.perm_append_comm.trans (List.Perm.refl _)
 have hmem:∀ p∈P ++ [((f,q,ok):AP)],p=(f,q,ok)∨p∈P:=fun p hp=>by
   rcases List.mem_append.1 hp with h | h
   · exact .inr h
   · exact .inl (List.mem_singleton.1 h)
 refine⟨?_,fun p hp=>?_,by rw[List.length_append];simp;omega,fun p hp=>?_,fun p hp=>?_⟩
 · rw [(hp.map (·.1)).nodup_iff]
   refine List.nodup_cons.2 ⟨fun hm=>?_,h.nd⟩
   obtain⟨p,hp,e⟩:=List.mem_map.1 hm
   exact hf p hp e
 · rcases hmem p hp with rfl | h'
   · exact hq
   · exact h.sz p h'
 · rcases hmem p hp with rfl | h'
   · exact hfg
   · exact h.lt p h'
 · rcases hmem p hp with rfl | h'
   · exact hq0
   · exact h.pos p h'
theorem join_ok {P w:List AP} {m g:Nat} (h:PathP P (8*m+1) g) (hw:P.Perm w) (hs:SortA w) {f:Nat} {q:Rat} {ok:Bool} (hf:f < g) (hg:g < 1000000) (hq:SzQ q 8) (hq0:0 < q) (hl:P.length≤m) (hm:m < 8)
   (at0:Int) (b1:Bool) (b2 b3:List Int) :
   ∃ P',P'.Perm (along f q ok w)∧PathP P' (8*(m+1)+1) g∧P'.length≤m+1 ∧
     pathshap_place_join at0 b1 b2 b3 (f:Int) (canQ q).1.1 (canQ q).1.2 (canQ q).2 ok (encK P (wtP P))=some (at0,b1,b2,b3,(f:Int),(canQ q).1.1,(canQ q).1.2,(canQ q).2,ok,encK P' (wtP P')):=by
 have c0:¬ (f:Int) < 0:=by omega
 rcases find_ix (P:=P) (f:=f) with hn | ⟨a,ha,he,hn⟩
 · have h1 := h.mono (show 8 * m + 1 ≤ 8 * (m + 1) + 1 by omega)
   have hq1:=hq.mono (show 8≤8*(m+1)+1 by omega)
   refine⟨P ++ [(f,q,ok)],?_,h1.snoc hn hq1 hq0 (by omega) hf,by rw[List.length_append];simp;omega,?_⟩
   · have hn2 : ∀ p ∈ w, p.1 ≠ f := fun p hp => hn p (hw.symm.mem_iff.1 hp)
     have:(P ++ [((f,q,ok):AP)]).Perm ((f,q,ok) :: P):=List.perm_append_comm.trans (List.Perm.refl _)
     exact(this.trans (List.Perm.cons _ hw)).trans (along_new hn2).symm
   · have he := Extend_ok h1 (f := f) (q := q) (ok := ok) hn hq1 hq0 (by omega) (by omega) (by omega)
     rw[pathshap_place_join,cnd' c0,Find_not hn (by omega),bS0]
     dsimp only
     rw[cnd' (by omega)]
     show(pathshap_Path_Extend (f:Int) (canQ q) ok (encK P (wtP P))).bind _=_
     rw[he];rfl
 · have ho := (h.out ha).mono (show 8 * m + 1 ≤ 8 * (m + 1) + 1 by omega)
   have hno:=h.notin ha
   rw[he] at hno
   have hz:SzQ P[a].2.1 (8*m+1):=h.sz _ (gM0 ha)
   have hz0:0 < P[a].2.1:=h.pos _ (gM0 ha)
   have hq1:SzQ (q*P[a].2.1) (8*(m+1)+1):=(hq.mul hz).mono (by omega)
   have hqz:0 < q*P[a].2.1:=Rat.mul_pos hq0 hz0
   have hol:=outP1_len ha
   have hm1:=ratio_Mul_ok (hq.sm (by omega)) (hz.sm (by omega))
   rw[rv_canQ,rv_canQ] at hm1
   have hm1:ratio_Mul (((canQ q).1.1,(canQ q).1.2),(canQ q).2) (canQ P[a].2.1)=some (canQ (q*P[a].2.1)):=hm1
   refine⟨outP1 P a ++ [(f,q*P[a].2.1,P[a].2.2&&ok)],?_,ho.snoc hno hq1 hqz (by omega) hf,by rw[List.length_append];simp;omega,?_⟩
   · have hmem : (f, P[a].2.1, P[a].2.2) ∈ w := by
      have:(P[a]:AP)=(f,P[a].2.1,P[a].2.2):=by rw[← he]
      rw[← this]
      exact hw.mem_iff.1 (gM0 ha)
     obtain⟨r,r1,r2⟩:=along_old (q:=q) (ok:=ok) hs hmem
     have e1:(P[a]:AP)=(f,P[a].2.1,P[a].2.2):=by rw[← he]
     have p1:((f,P[a].2.1,P[a].2.2) :: outP1 P a).Perm ((f,P[a].2.1,P[a].2.2) :: r):=by
      have:=outP1_perm ha
      rw[e1] at this
      exact(this.symm.trans hw).trans r1
     have p2:=List.Perm.cons_inv p1
     have p3:(outP1 P a ++ [((f,q*P[a].2.1,P[a].2.2&&ok):AP)]).Perm ((f,q*P[a].2.1,P[a].2.2&&ok) :: outP1 P a):=List.perm_append_comm.trans (List.Perm.refl _)
     refine(p3.trans ?_).trans r2.symm
     rw[Rat.mul_comm]
     exact List.Perm.cons _ p2
   · have hE := Extend_ok ho (f := f) (q := q * P[a].2.1) (ok := P[a].2.2 && ok) hno hq1 hqz (by omega) (by omega) (by omega)
     have hU:=Unwind_ok h (by omega) ha
     have c1:((a+1:Nat):Int) > 0:=by omega
     have i1:isub .i64 ((a+1:Nat):Int) 1=(a:Int):=by rw[isub_i (by omega) (by omega)];omega
     have d1:(0:Int)≤(a:Int):=by omega
     have d2:(a:Int) < ((encW P).length:Int):=by rw[encW_len];omega
     have g1:(encW P)[a]?=some (encP P[a]):=by simp [encW,ha]
     rw[pathshap_place_join,cnd' c0,Find_at ha he hn (by omega),bS0]
     dsimp only
     rw[cnd c1,Parts15_ok (by omega),bS0,i1]
     dsimp only
     rw[cnd2 d1 d2,tN0,g1,bS0]
     show(ratio_Mul (((canQ q).1.1,(canQ q).1.2),(canQ q).2) (canQ P[a].2.1)).bind _=_
     rw[hm1,bS0]
     cases ok with
     | true =>
      rw[Bool.and_true] at hE ⊢
      rw[cond_true,hU,bS0]
      dsimp only
      show(pathshap_Path_Extend (f:Int) (canQ (q*P[a].2.1)) P[a].2.2 _).bind _=_
      rw[hE];rfl
     | false =>
      rw[Bool.and_false] at hE ⊢
      rw[cond_false,hU,bS0]
      dsimp only
      rw[hE];rfl
def lfT (P:List AP) (v:Rat) (f i:Nat):Rat:=match P[i]? with
 | some p=>if p.1=f then sumP P i*(one0 p.2.2 - p.2.1)*v else 0
 | none=>0
def lfAdd (P:List AP) (v:Rat) (f:Nat):Rat:=rsum (lfT P v f) P.length
theorem lfT_at {P:List AP} {v:Rat} {f i:Nat} (h:i < P.length):lfT P v f i=if P[i].1=f then sumP P i*(one0 P[i].2.2 - P[i].2.1)*v else 0:=by
 simp only[lfT,gE0 h]
def apF (p:AP):FP:=(p.1,fcP p)
theorem reachA_prod (P:List AP) (S:Nat):reachA S P=prodP (P.map apF) S:=by
 unfold reachA prodP
 rw[List.map_map]
 congr 1
theorem sumP_EE {P:List AP} {a:Nat} (h:a < P.length):sumP P a=EE ((outP1 P a).map fcP) fun k=>wq k ((outP1 P a).length+1):=by
 have hl:=outP1_len h
 rw[EE_rsum,List.length_map,hl]
 unfold sumP
 refine rsum_congr fun i _=>?_
 unfold wtP ekP
 rw[Rat.mul_comm,hl]
theorem reachA_perm {P Q:List AP} (h:P.Perm Q) (S:Nat):reachA S P=reachA S Q:=lprod_perm (h.map _)
theorem lfAdd_shap {P:List AP} {k n f:Nat} (h:PathP P k n) (hf:f < n) (v:Rat):lfAdd P v f=shapQ (fun S=>reachA S P*v) n f:=by
 rw[shapQ_mul]
 rcases find_ix (P:=P) (f:=f) with hn | ⟨a,ha,he,_⟩
 · have e1 : shapQ (fun S => reachA S P) n f = 0 := by
    have:(fun S=>reachA S P)=prodP (P.map apF):=funext fun S=>reachA_prod P S
    rw[this]
    refine shap_none fun hm=>?_
    rw[List.map_map] at hm
    obtain⟨p,hp,e⟩:=List.mem_map.1 hm
    exact hn p hp e
   rw[e1,Rat.zero_mul]
   refine rsum_zeros fun i hi=>?_
   rw[lfT_at hi,if_neg (hn _ (gM0 hi))]
 · have hno := h.notin ha
   rw[he] at hno
   have ho:=h.out ha
   have e1:shapQ (fun S=>reachA S P) n f=(one0 P[a].2.2 - P[a].2.1)*sumP P a:=by
    have e2:(fun S=>reachA S P)=fun S=>pick (fcP P[a]) (S.testBit f)*prodP ((outP1 P a).map apF) S:=funext fun S=>by
      rw[reachA_perm (outP1_perm ha) S]
      show facP S P[a]*reachA S (outP1 P a)=_
      rw[reachA_prod,← he]
      rfl
    rw[e2,shap_prod hf (by rw[List.map_map];exact ho.nd) (fun p hp=>by
      obtain⟨x,hx,rfl⟩:=List.mem_map.1 hp
      exact ho.lt x hx) (fun hm=>by
      rw[List.map_map] at hm
      obtain⟨p,hp,e⟩:=List.mem_map.1 hm
      exact hno p hp e),sumP_EE ha]
    rw[List.map_map,List.length_map]
    rfl
   rw[e1]
   have hone:∀ i,i < P.length→i≠a→lfT P v f i=0:=fun i hi hne=>by
    rw[lfT_at hi]
    refine if_neg fun e=>hne ?_
    have hnd:=h.nd
    have hpw:=List.pairwise_iff_getElem.1 (show(P.map (·.1)).Pairwise (·≠·) from hnd)
    rcases Nat.lt_trichotomy i a with hlt | heq | hlt
    · have h5 := hpw i a (by simpa using hi) (by simpa using ha) hlt
      simp [e,he] at h5
    · exact heq
    · have h5 := hpw a i (by simpa using ha) (by simpa using hi) hlt
      simp [e,he] at h5
   have key:∀ n,n≤P.length→rsum (lfT P v f) n=if a < n then lfT P v f a else 0:=by
    intro n
    induction n with
    | zero=>intro _;rw[if_neg (by omega)];rfl
    | succ n ih =>
      intro hn
      rw[rsum,ih (by omega)]
      by_cases e:n=a
      · subst e;rw[if_neg (by omega),if_pos (by omega),Rat.zero_add]
      · rw [hone n (by omega) e, Rat.add_zero]
        by_cases h1:a < n
        · rw[if_pos h1,if_pos (by omega)]
        · rw[if_neg h1,if_neg (by omega)]
   unfold lfAdd
   rw[key _ (Nat.le_refl _),if_pos ha,lfT_at ha,if_pos he]
   grind
theorem ekS8 {k n:Nat} (hk:k≤70) (hn:n≤8):ekS k n≤20000:=by
 have h1:=ekS_mono k hn
 have h2:ekS k 8≤ekS 70 8:=by
  have:∀ n,ekS k n≤ekS 70 n:=by
   intro n
   induction n with
   | zero=>exact Nat.le_refl _
   | succ n ih=>simp only[ekS];omega
  exact this 8
 have h3:ekS 70 8≤20000:=by decide +kernel
 omega
theorem rsum_szQ {f:Nat→Rat} {k:Nat}:∀ n,(∀ i,i < n→SzQ (f i) k)→SzQ (rsum f n) (1+n*(k+1)):=by
 intro n
 induction n with
 | zero=>intro _;exact SzQ.zero.mono (by omega)
 | succ n ih =>
  intro h
  have h1:=ih fun i hi=>h i (by omega)
  have e:(n+1)*(k+1)=n*(k+1)+(k+1):=Nat.succ_mul _ _
  exact(h1.add (h n (by omega))).mono (by omega)
theorem sumP_sz {P:List AP} {k g a:Nat} (h:PathP P k g) (hk:k≤70) (hl:P.length≤8) (ha:a < P.length):SzQ (sumP P a) 170000:=by
 have hS:=ekS8 (k:=k) (n:=(outP1 P a).length) hk (by have:=outP1_len ha;omega)
 have:=rsum_szQ (k:=20030) P.length (fun i hi=>(outW_sz h hk ha i hi).mono (by omega))
 refine this.mono ?_
 have:P.length*(20030+1)≤8*(20030+1):=Nat.mul_le_mul_right _ hl
 omega
theorem lfT_sz {P:List AP} {k g:Nat} {v:Rat} (h:PathP P k g) (hk:k≤70) (hl:P.length≤8) (hv:SzQ v 200) (f:Nat) {i:Nat} (hi:i < P.length):SzQ (lfT P v f i) 180000:=by
 rw[lfT_at hi]
 split
 · have h1 := sumP_sz h hk hl hi
   have h2:SzQ P[i].2.1 k:=h.sz _ (gM0 hi)
   have h3:=(one0_sz P[i].2.2).sub h2
   exact((h1.mul h3).mul hv).mono (by omega)
 · exact SzQ.zero.mono (by omega)
theorem leaf_ok {t:List NODE} {row:List CELL} {fx:Int} {on:Bool} {n k:Nat} {P:List AP} (h:PathP P k n) (hk:k≤70) (hl:P.length≤8) {i:Nat} (hi:i < t.length) {gn:Rat} (hg:SzQ gn 100) (hs:TSz t 4)
  {o:Nat→Rat} (ho:∀ f,f < n→SzQ (o f) 100000000000) (hn:n < 1000000) (a4:Int) (a5:Bool) (a6 a7:List Int) (a8:Bool) :
  pathshap_walker_leaf (i:Int) (canQ gn).1.1 (canQ gn).1.2 (canQ gn).2 a4 a5 a6 a7 a8 t row fx on (flo n o) (encK P (wtP P)) =
   some (flo n (fun f=>o f+lfAdd P (gn*rv (nVal (nodeAt t i))) f),t,row,fx,on,encK P (wtP P)):=by
 obtain⟨v,hv⟩:∃ v,v=gn*rv (nVal (nodeAt t i)):=⟨_,rfl⟩
 have zv:=(hs.at hi).2.1
 have m0:=ratio_Mul_ok (a:=canQ gn) (b:=nVal (nodeAt t i)) (hg.sm (by decide)) (zv.sm (by decide))
 rw[rv_canQ,← hv] at m0
 have vsz:SzQ v 200:=by rw[hv];exact(hg.mul (zv.szQ (by decide))).mono (by decide)
 rw[← hv]
 have key:=lp_up (step:=pathshap_walker_leaf_s3) (fun j=>((encW P,(P.length:Int),(j:Int),()),(((i:Int),(canQ gn).1.1,(canQ gn).1.2,(canQ gn).2,a4,a5,a6,a7,a8,()),((canQ v).1.1,(canQ v).1.2,(canQ v).2,()),(t,row,fx,on,flo n (fun f=>o f+rsum (lfT P v f) j),()),(encK P (wtP P),()),()))) P.length
  (r:=((),((t,row,fx,on,flo n (fun f=>o f+rsum (lfT P v f) P.length),()),(encK P (wtP P),()),()))) (by omega) (by
  intro g j hj
  have d0:(j:Int) < (P.length:Int):=by omega
  have d1:(0:Int)≤(j:Int):=by omega
  have d2:(j:Int) < ((encW P).length:Int):=by rw[encW_len];exact d0
  have g1:=encW_get hj
  have q1:iadd .i64 (j:Int) 1=((j+1:Nat):Int):=iadd1 (by omega)
  have s1:=Sum15_ok h hk hj
  have zp:SzQ P[j].2.1 k:=h.sz _ (gM0 hj)
  have n1:=ratio_Neg_ok (zp.sm (by omega))
  rw[rv_canQ] at n1
  have hfl:P[j].1 < n:=h.lt _ (gM0 hj)
  obtain⟨F,hF⟩:∃ F,F=P[j].1:=⟨_,rfl⟩
  rw[← hF] at hfl
  have zn:SzQ (-P[j].2.1) (k+4):=by
   have:=SzQ.zero.sub zp
   rw[Rat.sub_eq_add_neg,Rat.zero_add] at this
   exact this.mono (by omega)
  have c1:(0:Int)≤((F:Nat):Int):=by omega
  have c2:((F:Nat):Int) < ((flo n (fun f=>o f+rsum (lfT P v f) j)).length:Int):=by rw[flo_len];omega
  have g2:=flo_get (n:=n) (f:=F) (fun f=>o f+rsum (lfT P v f) j) hfl
  have zs:=sumP_sz h hk hl hj
  have zr:SzQ (o F+rsum (lfT P v F) j) 100010000000:=by
   have h1:SzQ (rsum (lfT P v F) j) (1+j*(180000+1)):=rsum_szQ j (fun i hi=>lfT_sz h hk hl vsz F (by omega))
   have:j*(180000+1)≤8*(180000+1):=Nat.mul_le_mul_right _ (by omega)
   exact((ho F hfl).add h1).mono (by omega)
  have hset:∀ x,x=o F+rsum (lfT P v F) (j+1)→(flo n (fun f=>o f+rsum (lfT P v f) j)).set F (canQ x)=flo n (fun f=>o f+rsum (lfT P v f) (j+1)):=fun x hx=>by
   refine flo_set hx.symm fun f hf=>?_
   rw[rsum,lfT_at hj,if_neg (by rw[← hF];exact fun e=>hf e.symm),Rat.add_zero]
  show pathshap_walker_leaf_s3 g ((encW P,(P.length:Int),(j:Int),()),_)=_
  rw[pathshap_walker_leaf_s3,cnd d0,cnd2 d1 d2,tN0,g1,bS0,q1,s1,bS0]
  show(ratio_Neg (canQ P[j].2.1)).bind _=_
  rw[n1,bS0]
  have e1:(encP P[j]).1=(F:Int):=by rw[hF];rfl
  have e2:(encP P[j]).2.2=P[j].2.2:=rfl
  rw[e1,e2]
  cases hok:P[j].2.2 with
  | true =>
   have a1:=ratio_Add_ok (SzQ.one.sm (by decide)) (zn.sm (by omega))
   rw[rv_canQ,rv_canQ,← Rat.sub_eq_add_neg] at a1
   have z1:SzQ (1 - P[j].2.1) 100:=(SzQ.one.sub zp).mono (by omega)
   have m1:=ratio_Mul_ok (zs.sm (by decide)) (z1.sm (by decide))
   rw[rv_canQ,rv_canQ] at m1
   have z2:SzQ (sumP P j*(1 - P[j].2.1)) 170100:=(zs.mul z1).mono (by omega)
   have m2:=ratio_Mul_ok (z2.sm (by decide)) (vsz.sm (by decide))
   rw[rv_canQ,rv_canQ] at m2
   have m2:ratio_Mul (canQ (sumP P j*(1 - P[j].2.1))) (((canQ v).1.1,(canQ v).1.2),(canQ v).2)=_:=m2
   have z3:SzQ (sumP P j*(1 - P[j].2.1)*v) 170300:=(z2.mul vsz).mono (by omega)
   have a2:=ratio_Add_ok (zr.sm (by decide)) (z3.sm (by decide))
   rw[rv_canQ,rv_canQ] at a2
   have hx:=hset (o F+rsum (lfT P v F) j+sumP P j*(1 - P[j].2.1)*v) (by
    rw[rsum,lfT_at hj,if_pos hF.symm,hok];simp only[one0,if_true];grind)
   rw[cond_true,ratio_One_ok,bS0,a1,bS0,cnd2 c1 c2,tN0,g2,bS0,m1,bS0,m2,bS0,a2,bS0,cnd2 c1 c2,bS0,hx]
  | false =>
   have m1:=ratio_Mul_ok (zs.sm (by decide)) (zn.sm (by omega))
   rw[rv_canQ,rv_canQ] at m1
   have z2:SzQ (sumP P j*(-P[j].2.1)) 170100:=(zs.mul zn).mono (by omega)
   have m2:=ratio_Mul_ok (z2.sm (by decide)) (vsz.sm (by decide))
   rw[rv_canQ,rv_canQ] at m2
   have m2:ratio_Mul (canQ (sumP P j*(-P[j].2.1))) (((canQ v).1.1,(canQ v).1.2),(canQ v).2)=_:=m2
   have z3:SzQ (sumP P j*(-P[j].2.1)*v) 170300:=(z2.mul vsz).mono (by omega)
   have a2:=ratio_Add_ok (zr.sm (by decide)) (z3.sm (by decide))
   rw[rv_canQ,rv_canQ] at a2
   have hx:=hset (o F+rsum (lfT P v F) j+sumP P j*(-P[j].2.1)*v) (by
    rw[rsum,lfT_at hj,if_pos hF.symm,hok];simp only[one0,Bool.false_eq_true,if_false];grind)
   rw[cond_false,cnd2 c1 c2,tN0,g2,bS0,m1,bS0,m2,bS0,a2,bS0,cnd2 c1 c2,bS0,hx]) (by
  intro g
  rw[pathshap_walker_leaf_s3,cnd' (by omega)])
 have e0:flo n (fun f=>o f+rsum (lfT P v f) 0)=flo n o:=flo_congr fun f _=>Rat.add_zero _
 rw[e0] at key
 have key:lp pathshap_walker_leaf_s3 K0 ((encW P,(P.length:Int),0,()),(((i:Int),(canQ gn).1.1,(canQ gn).1.2,(canQ gn).2,a4,a5,a6,a7,a8,()),((canQ v).1.1,(canQ v).1.2,(canQ v).2,()),(t,row,fx,on,flo n o,()),(encK P (wtP P),()),()))=_:=key
 have m0:ratio_Mul (((canQ gn).1.1,(canQ gn).1.2),(canQ gn).2) t[i].2.2.2.2.2.2.1=some (canQ v):=by
  rw[nodeAt_get hi] at m0;exact m0
 rw[pathshap_walker_leaf,cnd (by omega),tN0,gE0 hi,bS0,m0,bS0,Parts15_ok (by omega),bS0]
 dsimp only
 rw[encW_len,key,bS0]
 dsimp only
 rw[flo_len,flo_len,Nat.beq_refl,cond_true,bS0]
 rfl
def kOn (t:List NODE) (row:List CELL) (fx:Int) (on:Bool) (i:Nat) (side:Bool):Bool:=if nFeat (nodeAt t i)=fx then (if on then goL t row i == side else true) else true
def kG (t:List NODE) (fx:Int) (on:Bool) (i c:Nat) (g:Rat):Rat:=if nFeat (nodeAt t i)=fx then (if on then g else g*(cov t c / cov t i)) else g
def kF (t:List NODE) (fx:Int) (i:Nat):Int:=if nFeat (nodeAt t i)=fx then -1 else nFeat (nodeAt t i)
def kW (t:List NODE) (row:List CELL) (fx:Int) (i c:Nat) (side:Bool) (w:List AP):List AP:=if nFeat (nodeAt t i)=fx then w else along (featT t i) (cov t c / cov t i) (goL t row i == side) w
abbrev PL:=Rat×List AP
def legsF (t:List NODE) (row:List CELL) (fx:Int) (on:Bool):TR→List AP→Rat→List PL
 | .leaf i,w,g=>[(g*rv (nVal (nodeAt t i)),w)]
 | .split i l r,w,g =>
  (if kOn t row fx on i true then legsF t row fx on l (kW t row fx i l.top true w) (kG t fx on i l.top g) else []) ++
  (if kOn t row fx on i false then legsF t row fx on r (kW t row fx i r.top false w) (kG t fx on i r.top g) else [])
def visF (t:List NODE) (row:List CELL) (fx:Int) (on:Bool):TR→Nat
 | .leaf i=>1
 | .split i l r=>1+(if kOn t row fx on i true then visF t row fx on l else 0)+(if kOn t row fx on i false then visF t row fx on r else 0)
theorem visF_pos (t:List NODE) (row:List CELL) (fx:Int) (on:Bool) (T:TR):0 < visF t row fx on T:=by cases T <;> simp [visF];omega
theorem visF_le (t:List NODE) (row:List CELL) (fx:Int) (on:Bool) (T:TR):visF t row fx on T≤T.size:=by
 induction T with
 | leaf i=>simp [visF,TR.size]
 | split i l r ihl ihr =>
  simp only[visF,TR.size]
  split <;> split <;> omega
structure IT where
 T:TR
 P:List AP
 g:Rat
 s:PART
 w:List AP
abbrev ITE:=Int×(Option ((Option (List (Int×RAT×CELL)))×Unit))×RAT×PART
def encI (x:IT):ITE:=((x.T.top:Int),some (some (encK x.P (wtP x.P)),()),canQ x.g,x.s)
def GoodI (t:List NODE) (n:Nat) (x:IT):Prop:=∃ m,Is t (n:Int) x.T∧m+x.T.deep≤8∧SzQ x.g (8*m+1)∧SortA x.w ∧
 ((x.s.1 = -1 ∧ PathP x.P (8 * m + 1) n ∧ x.P.length ≤ m ∧ x.P.Perm x.w) ∨
  ∃ (m' f:Nat) (q:Rat) (ok:Bool) (w0:List AP),m=m'+1∧x.s=((f:Int),canQ q,ok)∧f < n∧SzQ q 8∧0 < q∧PathP x.P (8*m'+1) n∧x.P.length≤m'∧x.P.Perm w0∧SortA w0∧x.w=along f q ok w0)
theorem GoodI.join {t:List NODE} {n:Nat} {x:IT} (h:GoodI t n x) (hn:n < 1000000):∃ (m:Nat) (P':List AP),Is t (n:Int) x.T∧m+x.T.deep≤8∧SzQ x.g (8*m+1)∧SortA x.w∧PathP P' (8*m+1) n∧P'.length≤m∧P'.Perm x.w ∧
   pathshap_place_join (x.T.top:Int) (canQ x.g).1.1 (canQ x.g).1.2 (canQ x.g).2 x.s.1 x.s.2.1.1.1 x.s.2.1.1.2 x.s.2.1.2 x.s.2.2 (encK x.P (wtP x.P)) =
    some ((x.T.top:Int),(canQ x.g).1.1,(canQ x.g).1.2,(canQ x.g).2,x.s.1,x.s.2.1.1.1,x.s.2.1.1.2,x.s.2.1.2,x.s.2.2,encK P' (wtP P')):=by
 obtain⟨m,h1,h2,h3,h4,h5⟩:=h
 have hd:=x.T.deep_pos
 rcases h5 with ⟨a1,a2,a3,a4⟩ | ⟨m',f,q,ok,w0,b1,b2,b3,b4,b5,b6,b7,b8,b9,b10⟩
 · refine ⟨m, x.P, h1, h2, h3, h4, a2, a3, a4, ?_⟩
   rw[a1,pathshap_place_join,cnd (by omega)]
 · subst b1
   obtain⟨P',p1,p2,p3,p4⟩:=join_ok b6 b8 b9 (ok:=ok) b3 hn b4 b5 b7 (by omega) (x.T.top:Int) (canQ x.g).1.1 (canQ x.g).1.2 (canQ x.g).2
   refine⟨m'+1,P',h1,h2,h3,h4,p2,p3,by rw[b10];exact p1,?_⟩
   rw[b2]
   exact p4
def kid (t:List NODE) (row:List CELL) (fx:Int) (on:Bool) (i:Nat) (side:Bool) (c:TR) (P w:List AP) (g:Rat):IT :=
 ⟨c,P,kG t fx on i c.top g,(kF t fx i,canQ (cov t c.top / cov t i),goL t row i == side),kW t row fx i c.top side w⟩
theorem kid_good {t:List NODE} {row:List CELL} {fx:Int} {on:Bool} {n i m:Nat} {side:Bool} {c:TR} {P w:List AP} {g:Rat} (hs:TSz t 4) (hcov:CoversP t) (hi:i < t.length) (f0:0≤nFeat t[i]) (f1:nFeat t[i] < (n:Int)) (hc:Is t (n:Int) c)
   (hm:m+1+c.deep≤8) (hg:SzQ g (8*m+1)) (hw:SortA w) (hP:PathP P (8*m+1) n) (hl:P.length≤m) (hpw:P.Perm w):GoodI t n (kid t row fx on i side c P w g):=by
 have hsh:=share_sz hs hc.top_lt hi
 refine⟨m+1,hc,hm,?_,?_,?_⟩
 · show SzQ (kG t fx on i c.top g) _
   unfold kG
   split
   · split
     · exact hg.mono (by omega)
     · exact(hg.mul hsh).mono (by omega)
   · exact hg.mono (by omega)
 · show SortA (kW t row fx i c.top side w)
   unfold kW
   split
   · exact hw
   · exact along_sort hw
 · by_cases hf : nFeat (nodeAt t i) = fx
   · refine .inl ⟨?_, hP.mono (by omega), by show P.length ≤ _; omega, ?_⟩
     · show kF t fx i = -1
       exact if_pos hf
     · show P.Perm (kW t row fx i c.top side w)
       rw[kW,if_pos hf];exact hpw
   · refine .inr ⟨m, featT t i, cov t c.top / cov t i, goL t row i == side, w, rfl, ?_, ?_, hsh, ?_, hP, hl, hpw, hw, ?_⟩
     · show (kF t fx i, _, _) = _
       rw[kF,if_neg hf,featT,nodeAt_get hi]
       rw[show((((nFeat t[i]).toNat:Nat)):Int)=nFeat t[i] by omega]
     · rw[featT,nodeAt_get hi];omega
     · have h1 : 0 < cov t c.top := by have := hcov c.top hc.top_lt; rwa [← cov_get hc.top_lt] at this
       have h2:0 < cov t i:=by have:=hcov i hi;rwa [← cov_get hi] at this
       rw[Rat.div_def]
       exact Rat.mul_pos h1 (Rat.inv_pos.2 h2)
     · show kW t row fx i c.top side w = _
       exact if_neg hf
theorem Copy15_ok {P:List AP} {w:Nat→Rat} (hl:P.length≤1000000):pathshap_Path_Copy (encK P w)=some (encK P w,encK P w):=by
 rw[pathshap_Path_Copy,blt (by rw[encK_len];simp;omega),cond_true,List.nil_append]
theorem child_ok {t:List NODE} {row:List CELL} {fx:Int} {on:Bool} {i:Nat} {c:TR} {P w:List AP} {W:Nat→Rat} {g:Rat} {m:Nat} (hs:TSz t 4) (hc:CSz row 9) (hcov:CoversP t) (hi:i < t.length) (hleaf:nLeaf t[i]=false) (f0:0≤nFeat t[i]) (f1:nFeat t[i] < (row.length:Int))
   (hl:c.top < t.length) (hP:P.length≤1000000) (hg:SzQ g 1000) (side:Bool) (out:List RAT) (a4:Int) (a5:Bool) (a6 a7:List Int) (a8:Bool) :
   pathshap_walker_child (i:Int) (canQ g).1.1 (canQ g).1.2 (canQ g).2 a4 a5 a6 a7 a8 (c.top:Int) side t row fx on out (encK P W) =
    some (out,(c.top:Int),(canQ (kG t fx on i c.top g)).1.1,(canQ (kG t fx on i c.top g)).1.2,(canQ (kG t fx on i c.top g)).2,kF t fx i,(canQ (cov t c.top / cov t i)).1.1,(canQ (cov t c.top / cov t i)).1.2,(canQ (cov t c.top / cov t i)).2,(goL t row i == side),kOn t row fx on i side,t,row,fx,on,encK P W,encK P W):=by
 obtain⟨cc,g1,g2,g3⟩:=goL_ok (f:=0) hs hc hi f0 f1
 have z:=hs _ (gM0 hi)
 have zl:=hs _ (gM0 hl)
 have hne:rv (nCov t[i])≠0:=by have:=hcov.ne i hi;rwa [cov_get hi] at this
 have d1:=ratio_Div_ok (a:=nCov t[c.top]) (b:=nCov t[i]) (zl.2.2.sm (by decide)) (z.2.2.sm (by decide))
 rw[if_neg hne,← cov_get hl,← cov_get hi] at d1
 have hsh:=share_sz hs hl hi
 have hb:∀ {α:Type} {a b:α},(bif Nat.beq out.length out.length then a else b)=a:=fun {α a b}=>by rw[Nat.beq_refl,cond_true]
 have hfe:nFeat (nodeAt t i)=t[i].2.1:=by rw[nodeAt_get hi]
 have hgl:(!nLeaf t[i]&&goes t[i] cc)=goL t row i:=by rw[hleaf,Bool.not_false,Bool.true_and,g3]
 rw[pathshap_walker_child,cnd (by omega),tN0,gE0 hi,bS0,cnd (by omega),tN0,gE0 hl,bS0]
 show(ratio_Div (nCov t[c.top]) (nCov t[i])).bind _=_
 rw[d1,bS0,cnd (by exact f0)]
 show((row[(nFeat t[i]).toNat]?).bind _)=_
 rw[g1,bS0,Left_ok z.1 (by decide) g2 (by decide),bS0,hgl,Copy15_ok hP,bS0]
 by_cases hf:nFeat (nodeAt t i)=fx
 · have e1 : (!decide (t[i].2.1 = fx)) = false := by rw [← hfe, decide_eq_true hf]; rfl
   have e2:kF t fx i=-1:=if_pos hf
   rw[e1,cond_false,e2]
   cases on with
   | true =>
    have e3:kG t fx true i c.top g=g:=by rw[kG,if_pos hf];rfl
    have e4:kOn t row fx true i side=(goL t row i == side):=by rw[kOn,if_pos hf];rfl
    rw[cond_true,hb,bS0,e3,e4]
   | false =>
    have e3:kG t fx false i c.top g=g*(cov t c.top / cov t i):=by rw[kG,if_pos hf];rfl
    have e4:kOn t row fx false i side=true:=by rw[kOn,if_pos hf];rfl
    have m1:=ratio_Mul_ok (hg.sm (by decide)) (hsh.sm (by decide))
    rw[rv_canQ,rv_canQ] at m1
    have m1:ratio_Mul (((canQ g).1.1,(canQ g).1.2),(canQ g).2) (canQ (cov t c.top / cov t i))=_:=m1
    rw[cond_false,m1,bS0,hb,bS0,e3,e4]
 · have e1 : (!decide (t[i].2.1 = fx)) = true := by rw [← hfe, decide_eq_false hf]; rfl
   have e2:kF t fx i=t[i].2.1:=by rw[kF,if_neg hf,hfe]
   have e3:kG t fx on i c.top g=g:=if_neg hf
   have e4:kOn t row fx on i side=true:=if_neg hf
   rw[e1,cond_true,hb,bS0,e2,e3,e4]
def kidsL (t:List NODE) (row:List CELL) (fx:Int) (on:Bool) (i:Nat) (l r:TR) (P w:List AP) (g:Rat):List IT :=
 (if kOn t row fx on i false then [kid t row fx on i false r P w g] else []) ++ (if kOn t row fx on i true then [kid t row fx on i true l P w g] else [])
theorem kids_ok {t:List NODE} {row:List CELL} {fx:Int} {on:Bool} {i:Nat} {l r:TR} {P w:List AP} {g:Rat} (hs:TSz t 4) (hc:CSz row 9) (hcov:CoversP t) (hi:i < t.length) (hleaf:nLeaf t[i]=false) (f0:0≤nFeat t[i]) (f1:nFeat t[i] < (row.length:Int))
  (hl:l.top < t.length) (hr:r.top < t.length) (hP:P.length≤1000000) (hg:SzQ g 1000) (out:List RAT) (a4:Int) (a5:Bool) (a6 a7:List Int) (a8:Bool) (c0:Bool) (c1:Int) (c2:Bool) (c3 c4:List Int) (c7 c8:Bool) (c9 c10:List Int) (c11:Bool) (c12 c13:List Int)
  (base:List ITE) (hb:base.length≤1000000) :
  lp pathshap_walker_walk_s9 K0 (((false,(true,())),0,()),(((i:Int),(canQ g).1.1,(canQ g).1.2,(canQ g).2,a4,a5,a6,a7,a8,()),(c0,c1,c2,c3,c4,(l.top:Int),(r.top:Int),c7,c8,c9,c10,c11,c12,c13,()),(encK P (wtP P),()),(t,row,fx,on,out,base,()),())) =
    some ((),((t,row,fx,on,out,base ++ (kidsL t row fx on i l r P w g).map encI,()),())):=by
 obtain⟨A,eA⟩:∃ A:List IT,A=if kOn t row fx on i false then [kid t row fx on i false r P w g] else []:=⟨_,rfl⟩
 obtain⟨B,eB⟩:∃ B:List IT,B=if kOn t row fx on i true then [kid t row fx on i true l P w g] else []:=⟨_,rfl⟩
 have eK:kidsL t row fx on i l r P w g=A ++ B:=by rw[eA,eB];rfl
 have lA:A.length≤1:=by rw[eA];split <;> simp
 obtain⟨K,hK⟩:∃ K:Nat→List ITE,K=fun j=>if j=0 then [] else if j=1 then A.map encI else (A ++ B).map encI:=⟨_,rfl⟩
 have K0':K 0=[]:=by rw[hK];rfl
 have K1:K 1=A.map encI:=by rw[hK];rfl
 have K2:K 2=(A ++ B).map encI:=by rw[hK];rfl
 have ov:over out 0 out=out:=over_all rfl
 have hc1:=fun side=>child_ok (fx:=fx) (on:=on) (c:=r) (P:=P) (w:=w) (W:=wtP P) (g:=g) (m:=0) hs hc hcov hi hleaf f0 f1 hr hP hg side out a4 a5 a6 a7 a8
 have hc2:=fun side=>child_ok (fx:=fx) (on:=on) (c:=l) (P:=P) (w:=w) (W:=wtP P) (g:=g) (m:=0) hs hc hcov hi hleaf f0 f1 hl hP hg side out a4 a5 a6 a7 a8
 have key:=lp_up (step:=pathshap_walker_walk_s9) (fun j=>(((false,(true,())),(j:Int),()),(((i:Int),(canQ g).1.1,(canQ g).1.2,(canQ g).2,a4,a5,a6,a7,a8,()),(c0,c1,c2,c3,c4,(l.top:Int),(r.top:Int),c7,c8,c9,c10,c11,c12,c13,()),(encK P (wtP P),()),(t,row,fx,on,out,base ++ K j,()),()))) 2
  (r:=((),((t,row,fx,on,out,base ++ K 2,()),()))) (by omega) (by
  intro g' j hj
  have hj2:j=0∨j=1:=by omega
  rcases hj2 with rfl | rfl
  · rw [pathshap_walker_walk_s9, cnd (by omega), cnd (by omega)]
    show((([false,true]:List Bool)[0]?).bind _)=_
    rw[show(([false,true]:List Bool)[0]?)=some false from rfl,bS0,cond_false,hc1 false,bS0]
    dsimp only
    rw[K0',List.append_nil,show((0+1:Nat))=1 from rfl,K1,ov]
    cases hk:kOn t row fx on i false with
    | true =>
     have eA':A=[kid t row fx on i false r P w g]:=by rw[eA,hk];rfl
     rw[cond_true,blt (by simp;omega),cond_true,eA']
     rfl
    | false =>
     have eA':A=[]:=by rw[eA,hk];rfl
     rw[cond_false,eA',List.map_nil,List.append_nil]
     rfl
  · rw [pathshap_walker_walk_s9, cnd (by omega), cnd (by omega)]
    show((([false,true]:List Bool)[1]?).bind _)=_
    rw[show(([false,true]:List Bool)[1]?)=some true from rfl,bS0,cond_true,hc2 true,bS0]
    dsimp only
    rw[show((1+1:Nat))=2 from rfl,K1,K2,ov]
    cases hk:kOn t row fx on i true with
    | true =>
     have eB':B=[kid t row fx on i true l P w g]:=by rw[eB,hk];rfl
     rw[cond_true,blt (by simp;omega),cond_true,eB',List.map_append,← List.append_assoc]
     rfl
    | false =>
     have eB':B=[]:=by rw[eB,hk];rfl
     rw[cond_false,eB',List.append_nil]
     rfl) (by
  intro g'
  rw[pathshap_walker_walk_s9,cnd' (by omega)])
 rw[K0',K2,← eK,List.append_nil] at key
 exact key
def totL (n f:Nat) (l:List PL):Rat:=lsum (l.map fun y=>shapQ (fun S=>reachA S y.2*y.1) n f)
theorem totL_append (n f:Nat) (a b:List PL):totL n f (a ++ b)=totL n f a+totL n f b:=by rw[totL,List.map_append,lsum_append];rfl
def totI (t:List NODE) (row:List CELL) (fx:Int) (on:Bool) (n f:Nat) (x:IT):Rat:=totL n f (legsF t row fx on x.T x.w x.g)
def visL (t:List NODE) (row:List CELL) (fx:Int) (on:Bool):List IT→Nat
 | []=>0
 | x :: L=>visF t row fx on x.T+visL t row fx on L
theorem visL_append (t:List NODE) (row:List CELL) (fx:Int) (on:Bool) (a b:List IT):visL t row fx on (a ++ b)=visL t row fx on a+visL t row fx on b:=by
 induction a with
 | nil=>simp [visL]
 | cons x a ih=>simp only[List.cons_append,visL,ih];omega
theorem visL_len (t:List NODE) (row:List CELL) (fx:Int) (on:Bool) (a:List IT):a.length≤visL t row fx on a:=by
 induction a with
 | nil=>simp [visL]
 | cons x a ih=>have:=visF_pos t row fx on x.T;simp only[List.length_cons,visL];omega
theorem kids_vis (t:List NODE) (row:List CELL) (fx:Int) (on:Bool) (i:Nat) (l r:TR) (P w:List AP) (g:Rat) :
  visF t row fx on (.split i l r)=1+visL t row fx on (kidsL t row fx on i l r P w g):=by
 rw[kidsL,visL_append]
 simp only[visF]
 cases kOn t row fx on i true <;> cases kOn t row fx on i false <;> simp [visL,kid] <;> omega
theorem kids_tot (t:List NODE) (row:List CELL) (fx:Int) (on:Bool) (n f i:Nat) (l r:TR) (P w:List AP) (g:Rat) :
   totL n f (legsF t row fx on (.split i l r) w g)=lsum ((kidsL t row fx on i l r P w g).map (totI t row fx on n f)):=by
 rw[kidsL,List.map_append,lsum_append]
 simp only[legsF]
 rw[totL_append,Rat.add_comm]
 congr 1
 · cases kOn t row fx on i false
   · rfl
   · simp only[if_true,List.map_cons,List.map_nil,lsum,Rat.add_zero];rfl
 · cases kOn t row fx on i true
   · rfl
   · simp only[if_true,List.map_cons,List.map_nil,lsum,Rat.add_zero];rfl
theorem walk15_ok {t:List NODE} {row:List CELL} {fx:Int} {on:Bool} {T:TR} {o:Nat→Rat} (hs:TSz t 4) (hc:CSz row 9) (hcov:CoversP t) (hT:Is t (row.length:Int) T) (h0:T.top=0) (hd:T.deep≤8) (hz:T.size≤100) (hrl:row.length≤64)
  {S:Nat} (ho:∀ f,f < row.length→SzQ (o f) S) (hS:S≤50000000000) :
  (∃ st,pathshap_walker_walk t row fx on (flo row.length o) []=some (flo row.length (fun f=>o f+totL row.length f (legsF t row fx on T [] 1)),t,row,fx,on,st))∧∀ f,f < row.length→SzQ (o f+totL row.length f (legsF t row fx on T [] 1)) (S+200000000):=by
 obtain⟨n,hn⟩:∃ n,n=row.length:=⟨_,rfl⟩
 obtain⟨N,hN⟩:∃ N,N=visF t row fx on T:=⟨_,rfl⟩
 have hN2:N≤100:=by rw[hN];exact Nat.le_trans (visF_le _ _ _ _ _) hz
 obtain⟨x0,hx0⟩:∃ x0:IT,x0=⟨T,[],1,(-1,(((false,[]),[]),false)),[]⟩:=⟨_,rfl⟩
 have t0:∀ f,totI t row fx on n f x0=totL n f (legsF t row fx on T [] 1):=fun f=>by rw[hx0];rfl
 have hg0:GoodI t n x0:=by
  refine⟨0,by rw[hx0,hn];exact hT,by rw[hx0];show 0+T.deep≤8;omega,by rw[hx0];exact SzQ.one,by rw[hx0];exact List.Pairwise.nil,.inl ⟨by rw[hx0],?_,by simp [hx0],by simp [hx0]⟩⟩
  rw[hx0]
  exact⟨List.Pairwise.nil,fun p hp=>absurd hp (by simp),by simp,fun p hp=>absurd hp (by simp),fun p hp=>absurd hp (by simp)⟩
 rw[← hn]
 obtain⟨res,hres,hlp⟩:=lp_inv (step:=pathshap_walker_walk_s1)
  (fun j v=>∃ (L:List IT) (o':Nat→Rat),v=((),((t,row,fx,on,flo n o',L.map encI,()),()))∧(∀ x∈L,GoodI t n x)∧j+visL t row fx on L=N∧(∀ f,f < n→SzQ (o' f) (S+2000000*j))∧∀ f,f < n→o' f+lsum (L.map (totI t row fx on n f))=o f+totI t row fx on n f x0)
  (fun r=>(∃ (st:List ITE),r=((),((t,row,fx,on,flo n (fun f=>o f+totI t row fx on n f x0),st,()),())))∧∀ f,f < n→SzQ (o f+totI t row fx on n f x0) (S+200000000)) N
  (v:=((),((t,row,fx,on,flo n o,[x0].map encI,()),())))
  ⟨[x0],o,rfl,fun x hx=>by rw[List.mem_singleton.1 hx];exact hg0,by simp only[visL,hx0];omega,fun f hf=>(ho f (by omega)).mono (by omega),fun f hf=>by simp only[List.map_cons,List.map_nil,lsum,Rat.add_zero]⟩
  (by omega)
  (by
   rintro j v hj ⟨L,o',rfl,hL,hv,hsz,htot⟩
   rcases List.eq_nil_or_concat L with rfl | ⟨L0,x,rfl⟩
   · simp only[visL] at hv;omega
   rw[List.concat_eq_append] at *
   have hx:GoodI t n x:=hL x (by simp)
   obtain⟨m,P',j1,j2,j3,j4,j5,j6,j7,j8⟩:=hx.join (by omega)
   rw[visL_append] at hv
   simp only[visL,Nat.add_zero] at hv
   have hvp:=visF_pos t row fx on x.T
   have hvl:=visL_len t row fx on L0
   obtain⟨base,hbase⟩:∃ base,base=L0.map encI:=⟨_,rfl⟩
   have lb:base.length=L0.length:=by rw[hbase];simp
   have eS:(L0 ++ [x]).map encI=base ++ [encI x]:=by rw[hbase];simp
   have hi:=j1.top_lt
   have qS:∀ y:ITE,isub .i64 ((base ++ [y]).length:Int) 1=(base.length:Int):=fun y=>by
     rw[List.length_append,List.length_singleton,isub_i (by omega) (by omega)];omega
   have gS:(base ++ [encI x])[base.length]?=some (encI x):=by simp
   have sS:∀ y,(base ++ [encI x]).set base.length y=base ++ [y]:=fun y=>by simp
   have cS:∀ y:ITE,(decide ((0:Int)≤(base.length:Int))&&decide (((base.length:Int):Int)≤(base.length:Int))&&decide (((base.length:Int):Int)≤((base ++ [y]).length:Int)))=true:=fun y=>by
     simp only[Bool.and_eq_true,decide_eq_true_eq,List.length_append,List.length_singleton];omega
   have tS:∀ y:ITE,(base ++ [y]).take (((base.length:Int) - 0).toNat)=base:=fun y=>by
     rw[show((base.length:Int) - 0).toNat=base.length by omega];simp
   have hpos:(((base ++ [encI x]).length:Nat):Int) > 0:=by rw[List.length_append,List.length_singleton];omega
   have d2:(base.length:Int) < (((base ++ [encI x]).length:Nat):Int):=by rw[List.length_append,List.length_singleton];omega
   have walkE:∀ g,pathshap_walker_walk_s1 g ((),((t,row,fx,on,flo n o',(L0 ++ [x]).map encI,()),())) =
       bif t[x.T.top].1 then ((pathshap_walker_leaf (x.T.top:Int) (canQ x.g).1.1 (canQ x.g).1.2 (canQ x.g).2 x.s.1 x.s.2.1.1.1 x.s.2.1.1.2 x.s.2.1.2 x.s.2.2 t row fx on (flo n o') (encK P' (wtP P'))).bind fun r8=>g ((()),((r8.2.1,r8.2.2.1,r8.2.2.2.1,r8.2.2.2.2.1,(over (flo n o') 0 r8.1),base,()),())))
       else ((lp pathshap_walker_walk_s9 K0 (((false,(true,())),0,()),(((x.T.top:Int),(canQ x.g).1.1,(canQ x.g).1.2,(canQ x.g).2,x.s.1,x.s.2.1.1.1,x.s.2.1.1.2,x.s.2.1.2,x.s.2.2,()),(t[x.T.top].1,t[x.T.top].2.1,t[x.T.top].2.2.1.1.1,t[x.T.top].2.2.1.1.2,t[x.T.top].2.2.1.2,t[x.T.top].2.2.2.1,t[x.T.top].2.2.2.2.1,t[x.T.top].2.2.2.2.2.1,t[x.T.top].2.2.2.2.2.2.1.1.1,t[x.T.top].2.2.2.2.2.2.1.1.2,t[x.T.top].2.2.2.2.2.2.1.2,t[x.T.top].2.2.2.2.2.2.2.1.1,t[x.T.top].2.2.2.2.2.2.2.1.2,t[x.T.top].2.2.2.2.2.2.2.2,()),(encK P' (wtP P'),()),(t,row,fx,on,flo n o',base,()),()))).bind fun t12=>g ((()),((t12.2.1.1,t12.2.1.2.1,t12.2.1.2.2.1,t12.2.1.2.2.2.1,t12.2.1.2.2.2.2.1,t12.2.1.2.2.2.2.2.1,()),()))):=fun g=>by
     rw[pathshap_walker_walk_s1,eS,cnd hpos,qS,cnd2 (by omega) d2,tN0,gS,bS0]
     show((some (some (encK x.P (wtP x.P)),()):Option ((Option (List (Int×RAT×CELL)))×Unit)).bind _)=_
     rw[bS0]
     show((some (encK x.P (wtP x.P)):Option (List (Int×RAT×CELL))).bind _)=_
     rw[bS0,sS,qS,cS,cond_true,tS]
     show(pathshap_place_join (x.T.top:Int) (canQ x.g).1.1 (canQ x.g).1.2 (canQ x.g).2 x.s.1 x.s.2.1.1.1 x.s.2.1.1.2 x.s.2.1.2 x.s.2.2 (encK x.P (wtP x.P))).bind _=_
     rw[j8,bS0]
     dsimp only
     rw[cnd (by omega),tN0,gE0 hi,bS0]
   have hm7:m≤7:=by have:=x.T.deep_pos;omega
   cases hxT:x.T with
   | leaf i =>
     rw[hxT] at j1 j2 hi hv
     simp only[hxT] at walkE
     obtain⟨i1,i2⟩:=j1
     have hlf:=leaf_ok (t:=t) (row:=row) (fx:=fx) (on:=on) j5 (by omega) (by omega) i1 (j3.mono (by omega)) hs (o:=o') (fun f hf=>(hsz f hf).mono (by omega)) (by omega) x.s.1 x.s.2.1.1.1 x.s.2.1.1.2 x.s.2.1.2 x.s.2.2
     obtain⟨v,hv'⟩:∃ v,v=x.g*rv (nVal (nodeAt t i)):=⟨_,rfl⟩
     rw[← hv'] at hlf
     have hvz:SzQ v 200:=by rw[hv'];exact((j3.mono (show 8*m+1≤100 by omega)).mul ((hs.at i1).2.1.szQ (by decide))).mono (by decide)
     refine⟨((),((t,row,fx,on,flo n (fun f=>o' f+lfAdd P' v f),L0.map encI,()),())),⟨L0,_,rfl,fun y hy=>hL y (by simp [hy]),by simp only[visF] at hv;omega,fun f hf=>?_,fun f hf=>?_⟩,fun g=>?_⟩
     · have h1 := rsum_szQ (k := 180000) P'.length (fun i hi => lfT_sz j5 (by omega) (by omega) hvz f hi)
       have h1:SzQ (lfAdd P' v f) _:=h1
       have:P'.length*(180000+1)≤8*(180000+1):=Nat.mul_le_mul_right _ (by omega)
       exact((hsz f hf).add h1).mono (by omega)
     · have e := htot f hf
       rw[List.map_append,lsum_append] at e
       simp only[List.map_cons,List.map_nil,lsum,Rat.add_zero] at e
       have e2:totI t row fx on n f x=lfAdd P' v f:=by
         rw[totI,hxT,lfAdd_shap j5 hf]
         simp only[legsF,totL,List.map_cons,List.map_nil,lsum,Rat.add_zero]
         rw[← hv']
         refine shapQ_congr hf fun S _=>?_
         rw[reachA_perm j7]
       rw[e2] at e
       rw[← e];grind
     · rw [walkE g]
       show(bif t[i].1 then _ else _)=_
       rw[show t[i].1=true from i2,cond_true]
       show(pathshap_walker_leaf (i:Int) _ _ _ _ _ _ _ _ _ _ _ _ _ _).bind _=_
       rw[hlf,bS0]
       dsimp only
       rw[over_all (by rw[flo_len,flo_len]),hbase]
   | split i l r =>
     rw[hxT] at j1 j2 hi hv
     simp only[hxT,TR.top] at walkE
     obtain⟨i1,i2,f0,f1,i3,i4,i5,i6⟩:=j1
     simp only[TR.deep] at j2
     have hkd:=kids_ok (t:=t) (row:=row) (fx:=fx) (on:=on) (i:=i) (l:=l) (r:=r) (P:=P') (w:=x.w) (g:=x.g) hs hc hcov i1 i2 f0 (by omega) i5.top_lt i6.top_lt (by omega) (j3.mono (by omega)) (flo n o') x.s.1 x.s.2.1.1.1 x.s.2.1.1.2 x.s.2.1.2 x.s.2.2
       false t[i].2.1 t[i].2.2.1.1.1 t[i].2.2.1.1.2 t[i].2.2.1.2 t[i].2.2.2.2.2.1 t[i].2.2.2.2.2.2.1.1.1 t[i].2.2.2.2.2.2.1.1.2 t[i].2.2.2.2.2.2.1.2 t[i].2.2.2.2.2.2.2.1.1 t[i].2.2.2.2.2.2.2.1.2 t[i].2.2.2.2.2.2.2.2 base (by omega)
     refine⟨((),((t,row,fx,on,flo n o',(L0 ++ kidsL t row fx on i l r P' x.w x.g).map encI,()),())),⟨L0 ++ kidsL t row fx on i l r P' x.w x.g,o',rfl,fun y hy=>?_,?_,fun f hf=>(hsz f hf).mono (by omega),fun f hf=>?_⟩,fun g=>?_⟩
     · rcases List.mem_append.1 hy with hy | hy
       · exact hL y (by simp [hy])
       · have hgl : ∀ side, GoodI t n (kid t row fx on i side l P' x.w x.g) := fun side => kid_good hs hcov i1 f0 f1 i5 (by omega) j3 j4 j5 j6 j7
         have hgr:∀ side,GoodI t n (kid t row fx on i side r P' x.w x.g):=fun side=>kid_good hs hcov i1 f0 f1 i6 (by omega) j3 j4 j5 j6 j7
         rcases List.mem_append.1 hy with hy | hy
         · split at hy
           · rw[List.mem_singleton.1 hy];exact hgr _
           · cases hy
         · split at hy
           · rw[List.mem_singleton.1 hy];exact hgl _
           · cases hy
     · have := kids_vis t row fx on i l r P' x.w x.g
       rw[visL_append];omega
     · have e := htot f hf
       rw[List.map_append,lsum_append] at e
       simp only[List.map_cons,List.map_nil,lsum,Rat.add_zero] at e
       have e2:totI t row fx on n f x=lsum ((kidsL t row fx on i l r P' x.w x.g).map (totI t row fx on n f)):=by
         rw[totI,hxT];exact kids_tot t row fx on n f i l r P' x.w x.g
       rw[e2] at e
       rw[List.map_append,lsum_append];exact e
     · rw [walkE g]
       show(bif t[i].1 then _ else _)=_
       rw[show t[i].1=false from i2,cond_false]
       rw[show t[i].2.2.2.1=(l.top:Int) from i3,show t[i].2.2.2.2.1=(r.top:Int) from i4,hkd,bS0]
       dsimp only
       rw[hbase,← List.map_append])
  (by
   rintro v ⟨L,o',rfl,hL,hv,hsz,htot⟩
   have hl:=visL_len t row fx on L
   have:L=[]:=by
     cases L with
     | nil=>rfl
     | cons x L=>simp only[List.length_cons] at hl;omega
   subst this
   refine⟨((),((t,row,fx,on,flo n o',List.map encI [],()),())),⟨⟨List.map encI [],?_⟩,fun f hf=>?_⟩,fun g=>?_⟩
   · have : flo n o' = flo n (fun f => o f + totI t row fx on n f x0) := flo_congr fun f hf => by
       rw[← htot f hf];simp only[List.map_nil,lsum,Rat.add_zero]
     rw[this]
   · rw [← htot f hf]
     simp only[List.map_nil,lsum,Rat.add_zero]
     exact(hsz f hf).mono (by omega)
   · rw[pathshap_walker_walk_s1,cnd' (by simp)])
 obtain⟨⟨st,rfl⟩,hrs⟩:=hres
 refine⟨⟨st,?_⟩,fun f hf=>by have:=hrs f hf;rwa [t0] at this⟩
 have e0:[x0].map encI=[((0:Int),(some (some (encK [] (wtP [])),()):Option ((Option (List (Int×RAT×CELL)))×Unit)),canQ 1,((-1:Int),(((false,[]),[]),false)))]:=by
  rw[hx0]
  simp only[List.map_cons,List.map_nil,encI,h0];rfl
 rw[e0] at hlp
 rw[pathshap_walker_walk,New15_ok,bS0,ratio_One_ok,bS0]
 have hlp:lp pathshap_walker_walk_s1 K0 (((),((t,row,fx,on,flo n o,[(0,((some ((some (encK [] (wtP []))),())),(canQ 1,((-1),(((false,[]),[]),false)))))],()),())))=_:=hlp
 rw[hlp,bS0]
 dsimp only
 rw[flo_len,flo_len,Nat.beq_refl,cond_true,bS0]
 simp only[t0]
def trV (t:List NODE) (row:List CELL) (fx:Int) (on:Bool) (f:Nat):Rat:=totL row.length f (legsF t row fx on (treeOf t) [] 1)
def pvals (m:MODEL) (row:List CELL) (fx:Int) (on:Bool) (f:Nat):Rat:=rsum (fun j=>trV (treeAt m j) row fx on f) m.2.length
theorem Askd.deep8 {m:MODEL} {row:List CELL} (h:Askd m row) {i:Nat} (hi:i < m.2.length):(treeOf m.2[i]).deep≤8∧(treeOf m.2[i]).size≤15:=by
 have h1:=h.good.treeOf hi
 have hsh:ShapeP m.2[i]:=h.good.2 1 (by decide) i hi
 have h2:=tree_size hsh h1.1
 have h3:=deep_half (treeOf m.2[i])
 have h4:=h.mt _ (gM0 hi)
 omega
theorem Askd.walk {m:MODEL} {row:List CELL} (h:Askd m row) {i:Nat} (hi:i < m.2.length) (fx:Int) (on:Bool) {o:Nat→Rat} {S:Nat} (ho:∀ f,f < row.length→SzQ (o f) S) (hS:S≤50000000000) :
  (∃ st,pathshap_walker_walk m.2[i] row fx on (flo row.length o) []=some (flo row.length (fun f=>o f+trV (treeAt m i) row fx on f),m.2[i],row,fx,on,st))∧∀ f,f < row.length→SzQ (o f+trV (treeAt m i) row fx on f) (S+200000000):=by
 obtain⟨t1,t2,t3,t4,t5⟩:=h.tree hi
 rw[t5] at t2 t3 ⊢
 obtain⟨d1,d2⟩:=h.deep8 hi
 exact walk15_ok t1 h.cs (h.cov hi) t2 t3 d1 (by omega) h.f64 ho hS
theorem trV_sz {m:MODEL} {row:List CELL} (h:Askd m row) {i:Nat} (hi:i < m.2.length) (fx:Int) (on:Bool) {f:Nat} (hf:f < row.length):SzQ (trV (treeAt m i) row fx on f) 200000010:=by
 have:=(h.walk hi fx on (o:=fun _=>0) (S:=1) (fun _ _=>SzQ.zero) (by decide)).2 f hf
 rw[Rat.zero_add] at this
 exact this.mono (by decide)
theorem pvals_sz {m:MODEL} {row:List CELL} (h:Askd m row) (fx:Int) (on:Bool) {f:Nat} (hf:f < row.length):SzQ (pvals m row fx on f) 1500000000:=by
 have h1:=rsum_szQ (f:=fun j=>trV (treeAt m j) row fx on f) (k:=200000010) m.2.length (fun i hi=>trV_sz h hi fx on hf)
 have:m.2.length*(200000010+1)≤6*(200000010+1):=Nat.mul_le_mul_right _ h.ml
 exact h1.mono (by omega)
theorem pzeros_ok {n:Nat} (h:n≤1000000):pathshap_zeros (n:Int)=some (flo n fun _=>0):=by
 have key:=lp_up (step:=pathshap_zeros_s3) (fun i=>((flo i (fun _=>0),(n:Int),(i:Int),()),())) n (r:=((flo n (fun _=>0),()),())) (by omega) (by
  intro g i hi
  have d0:(i:Int) < (n:Int):=by omega
  rw[pathshap_zeros_s3,cnd d0,ratio_Zero_ok,bS0,blt (by rw[flo_len];omega),cond_true,iadd1 (by omega)]
  simp only[flo,List.range_succ,List.map_append]
  rfl) (by
  intro g
  rw[pathshap_zeros_s3,cnd' (by omega)])
 have key:lp pathshap_zeros_s3 K0 (([],(n:Int),0,()),())=_:=key
 rw[pathshap_zeros,key];rfl
theorem all15_ok {m:MODEL} {row:List CELL} (h:Askd m row) (fx:Int) (on:Bool):pathshap_all m row fx on=some (flo row.length (pvals m row fx on)):=by
 have ml:=h.ml
 have h64:=h.f64
 have hsz:∀ j,j≤m.2.length→∀ f,f < row.length→SzQ (rsum (fun j=>trV (treeAt m j) row fx on f) j) 1500000000:=fun j hj f hf=>by
  have h1:=rsum_szQ (f:=fun j=>trV (treeAt m j) row fx on f) (k:=200000010) j (fun i hi=>trV_sz h (by omega) fx on hf)
  have:j*(200000010+1)≤6*(200000010+1):=Nat.mul_le_mul_right _ (by omega)
  exact h1.mono (by omega)
 have key:=lp_up (step:=pathshap_all_s3) (fun j=>((row,fx,on,flo row.length (fun f=>rsum (fun j=>trV (treeAt m j) row fx on f) j),m.2,(m.2.length:Int),(j:Int),()),())) m.2.length (r:=((flo row.length (pvals m row fx on),()),())) (by omega) (by
  intro g j hj
  have d0:(j:Int) < (m.2.length:Int):=by omega
  obtain⟨st,hw⟩:=(h.walk hj fx on (hsz j (by omega)) (by decide)).1
  rw[pathshap_all_s3,cnd d0,cnd (by omega),tN0,gE0 hj,bS0,hw,bS0]
  dsimp only
  rw[over_all (by rw[flo_len,flo_len]),iadd1 (by omega)]
  rfl) (by
  intro g
  rw[pathshap_all_s3,cnd' (by omega)]
  rfl)
 have key:lp pathshap_all_s3 K0 ((row,fx,on,flo row.length (fun _=>0),m.2,(m.2.length:Int),0,()),())=_:=key
 rw[pathshap_all,show m.1=((row.length:Nat):Int) by have:=h.len;omega,pzeros_ok (by omega),bS0,key];rfl
theorem Values15_ok {m:MODEL} {row:List CELL} (h:Askd m row):pathshap_Values m row=some (flo row.length (pvals m row (-1) false),0):=by
 obtain⟨e,_,h1,h2⟩:=fitsOk (row:=row) (by have:=h.ml;omega) (fun t ht=>by have:=h.mt t ht;omega) h.ms
 have e0:e=0:=h2.2 ⟨h.good,h.len⟩
 subst e0
 rw[pathshap_Values,h1,bS0,show(!decide ((0:Int)=0))=false by decide,cond_false,all15_ok h];rfl
theorem Values15_bad {m:MODEL} {row:List CELL} {e:Int} (h:route_Fits m row=some e) (he:e≠0):pathshap_Values m row=some ([],e):=by
 rw[pathshap_Values,h,bS0,decide_eq_false he];rfl
theorem law15_awake_ok:dendronlaw15_awake=some true:=by decide +kernel
theorem legsF_none {t:List NODE} {row:List CELL} {n:Nat} {T:TR} (h:Is t (n:Int) T):∀ (w:List AP) (g:Rat),legsF t row (-1) false T w g=(legsT t row T w).map fun x=>(g*x.2.1,x.2.2):=by
 induction T with
 | leaf i=>intro w g;rfl
 | split i l r ihl ihr =>
  intro w g
  obtain⟨h1,h2,f0,f1,h3,h4,h5,h6⟩:=h
  have hne:¬ nFeat (nodeAt t i)=-1:=by rw[nodeAt_get h1];omega
  have e1:(goL t row i == true)=goL t row i:=by cases goL t row i <;> rfl
  have e2:(goL t row i == false)=!goL t row i:=by cases goL t row i <;> rfl
  simp only[legsF,legsT,List.map_append]
  rw[kOn,if_neg hne,if_pos rfl,kOn,if_neg hne,if_pos rfl,kW,if_neg hne,kG,if_neg hne,kW,if_neg hne,kG,if_neg hne,e1,e2,ihl h5,ihr h6]
theorem trV_shap {t:List NODE} {row:List CELL} (hc:CoversP t) (h:Is t (row.length:Int) (treeOf t)) {f:Nat} (hf:f < row.length) :
  trV t row (-1) false f=shapQ (fun S=>expT t row S (treeOf t)) row.length f:=by
 have e1:∀ S,expT t row S (treeOf t)=lsum ((legsT t row (treeOf t) []).map (legV S)):=fun S=>by
  rw[legs_say hc.ne h []]
  show _=lprod []*_
  rw[lprod,Rat.one_mul]
 rw[shapQ_congr hf fun S _=>e1 S,shapQ_lsum (fun x S=>legV S x)]
 unfold trV totL
 rw[legsF_none h,List.map_map]
 congr 1
 refine List.map_congr_left fun x _=>?_
 show shapQ (fun S=>reachA S x.2.2*(1*x.2.1)) _ _=_
 rw[Rat.one_mul];rfl
theorem pvals_shap {m:MODEL} {row:List CELL} (h:Askd m row) {f:Nat} (hf:f < row.length):pvals m row (-1) false f=shapQ (sayM m row) row.length f:=by
 have e:=shapQ_rsum (fun j S=>expT (treeAt m j) row S (treeOf (treeAt m j))) row.length f m.2.length
 have e:shapQ (sayM m row) row.length f=_:=e
 rw[e]
 refine rsum_congr fun j hj=>?_
 obtain⟨t1,t2,t3,t4,t5⟩:=h.tree hj
 rw[t5] at t2 ⊢
 exact trV_shap (h.cov hj) t2 hf
theorem sets_ok {m:MODEL} {row:List CELL} (h:Askd m row) (ml:m.2.length≤3) (hn:row.length≤6):dendronlaw15_Shapley (tabS m row (2 ^ row.length)) (row.length:Int) (-1) false=some (flo row.length (pvals m row (-1) false)):=by
 have sz:∀ S,SzQ (sayM m row S) 4000000:=fun S=>(sayM_sz h.good h.ms h.mt (Nat.le_refl _)).mono (by
  have:=Nat.mul_le_mul_right 1048577 (show m.2.length≤3 by omega);omega)
 have hS:=Shapley_ok (v:=sayM m row) (L:=tabS m row (2 ^ row.length)) (n:=row.length) (k:=4000000) (by omega) (fun S hS=>tabS_get m row hS) (fun S _=>sz S) (by decide)
 have e:flo row.length (shapQ (sayM m row) row.length)=flo row.length (pvals m row (-1) false):=flo_congr fun f hf=>(pvals_shap h hf).symm
 rw[hS,e]
theorem flo_same {n k:Nat} {o:Nat→Rat} (ho:∀ f,f < n→SzQ (o f) k) (hk:k < 91625968980) (hn:n≤1000000):dendronref10_All (flo n o) (flo n o)=some true:=by
 refine All_true (n:=k) (m:=k) hk hk (fun x hx=>?_) rfl (by rw[flo_len];omega) (fun i hi hi'=>?_)
 · obtain ⟨f, hf, rfl⟩ := List.mem_map.1 hx
   exact(ho f (List.mem_range.1 hf)).szR
 · rw [flo_len] at hi
   have:=flo_get o hi
   rw[gE0 hi'] at this
   have e:=Option.some.inj this
   exact⟨_,ho i hi,e,by rw[e,rv_canQ]⟩
theorem ask_of {m:MODEL} {row:List CELL} {b:Bool} (hb:b=true ↔ Good m) (ms:MSz m 4) (ml:m.2.length≤3) (mt:∀ t∈m.2,t.length≤15) (cs:CSz row 9) (he:whyR b m row=0):Askd m row:=by
 have hbt:b=true:=by cases b with
  | true=>rfl
  | false=>exact absurd he (by rw[whyR,if_neg (by decide)];decide)
 subst hbt
 have hlen:(row.length:Int)=m.1:=by
  apply Classical.byContradiction
  intro hn
  rw[whyR,if_pos rfl,if_neg hn] at he
  exact absurd he (by decide)
 exact⟨hb.1 rfl,hlen,ms,by omega,mt,cs⟩
theorem table_of {m:MODEL} {row:List CELL} (ha:Askd m row) (h6:m.1≤6):expect_Table m row=some (tabS m row (2 ^ row.length),0):=by
 have hT:=Table_ok ha (by omega)
 have:=ha.len
 rw[show m.1.toNat=row.length by omega] at hT
 exact hT
theorem PathshapValues_true (m0:MODEL) (row0:List CELL) (hl:m0.2.length≤9223372036854775807) (ht:∀ t∈m0.2,t.length≤9223372036854775807) (hr:row0.length≤9223372036854775807):dendronlaw15_PathshapValues m0 row0=some true:=by
 obtain⟨m,row,hs,ms,ml,mt,cs⟩:=Small_ok m0 row0 hl ht hr
 obtain⟨b,hv,hb⟩:=Ok_ok (m:=m) (by omega) (fun t h=>by have:=mt t h;omega) ms (by decide)
 obtain⟨r1,r2⟩:=whyR_ok hv row
 rw[dendronlaw15_PathshapValues,hs,bS0]
 dsimp only
 rw[r2,bS0]
 by_cases he:whyR b m row=0
 · have ha := ask_of hb ms ml mt cs he
   rw[he,cnd rfl]
   by_cases h6:m.1 > 6
   · rw[cnd h6,law15_awake_ok];rfl
   · have hlen := ha.len
     have hT:=table_of ha (by omega)
     have hS:dendronlaw15_Shapley (tabS m row (2 ^ row.length)) m.1 (-1) false=some (flo row.length (pvals m row (-1) false)):=by
      rw[← hlen];exact sets_ok ha ml (by omega)
     have hA:=flo_same (n:=row.length) (o:=pvals m row (-1) false) (k:=1500000000) (fun f hf=>pvals_sz ha (-1) false hf) (by decide) (by omega)
     rw[cnd' h6,Values15_ok ha,bS0,show(!decide ((0:Int)=0))=false by decide,cond_false,hT,bS0]
     dsimp only
     rw[cnd rfl,cnd rfl,hS,bS0,hA,bS0,cond_true,law15_awake_ok]
     rfl
 · rw [cnd' he, Values15_bad r1 he, bS0, decide_eq_false he, Bool.not_false, cond_true]
   dsimp only
   rw[cnd (by simp),cnd rfl,law15_awake_ok]
   rfl
end Go.Proofs.YtilflbimpjokjaaGreatDoor.X
