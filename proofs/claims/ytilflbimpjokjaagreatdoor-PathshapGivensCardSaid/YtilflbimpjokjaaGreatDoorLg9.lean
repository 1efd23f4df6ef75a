/- Own work: part of the proof; the first line of each part says what it tells. -/
import Derived.Test.YtilflbimpjokjaaGreatDoorLg8


namespace Go.Proofs.YtilflbimpjokjaaGreatDoor.X
open Go
set_option linter.unusedVariables false
set_option linter.unusedSimpArgs false
theorem floSum_ok {n k:Nat} {w:Nat→Rat} (hw:∀ i,i<n→SzQ (w i) k) (hk:1+n*(k+1)<1099511627776) (hn:n<1000000):ratio_Sum (flo n w)=some (canQ (rsum w n)):=by
 have hv:∀ i,i<n→vals (flo n w) i=w i:=fun i hi=>by
  rw[vals,flo_get w hi]
  show rv (canQ (w i))=w i
  exact rv_canQ _
 have h:=ratio_Sum_ok (l:=flo n w) (k:=k) (fun x hx=>by
  obtain⟨i,hi,rfl⟩:=List.mem_map.1 hx
  have hi:=List.mem_range.1 hi
  refine(hw i hi).sm ?_
  have:1*(k+1)≤n*(k+1):=Nat.mul_le_mul_right _ (by omega)
  omega) (fun i hi=>by rw[flo_len] at hi;rw[hv i hi];exact hw i hi) (by rw[flo_len];exact hk) (by rw[flo_len];omega)
 rw[h,flo_len]
 congr 2
 exact rsum_congr fun i hi=>hv i hi
def sumP (P:List AP) (a:Nat):Rat:=rsum (wtP (outP1 P a)) P.length
theorem outW_sz {P:List AP} {k g:Nat} (h:PathP P k g) (hk:k≤70) {a:Nat} (ha:a<P.length):∀ i,i<P.length→SzQ (wtP (outP1 P a) i) (30+ekS k (outP1 P a).length):=fun i hi=>by
 have:=outP1_len ha
 exact wtP_sz (h.out ha).sz (h.out ha).len (by omega)
theorem Sum15_ok {P:List AP} {k g:Nat} (h:PathP P k g) (hk:k≤70) {a:Nat} (ha:a<P.length) :
  pathshap_Path_Sum ((a+1:Nat):Int) (encK P (wtP P))=some (canQ (sumP P a),0,encK P (wtP P)):=by
 have el:=encK_len P (wtP P)
 have hl2:=h.len
 have hS2:=ekS_le (k:=k) (n:=(outP1 P a).length) hk (h.out ha).len
 have hs:=floSum_ok (n:=P.length) (w:=wtP (outP1 P a)) (k:=100000000) (fun i hi=>(outW_sz h hk ha i hi).mono (by omega)) (by omega) (by omega)
 rw[pathshap_Path_Sum,el,cnd' (by omega),cnd' (by omega),cnd' (by omega),without_ok h hk ha,bS0]
 dsimp only
 rw[hs];rfl
theorem encK_out {P:List AP} {w:Nat→Rat} {a:Nat} (ha:a<P.length):(encK P w).take (a+1)++(encK P w).drop (a+2)=encK (outP1 P a) fun j=>if j≤a then w j else w (j+1):=by
 have el:=encK_len P w
 have hl:=outP1_len ha
 have ho:∀ j,(outP1 P a)[j]?=if j<a then P[j]? else P[j+1]?:=fun j=>by
   unfold outP1
   by_cases hj:j<a
   · rw[if_pos hj,List.getElem?_append_left (by rw[List.length_take];omega),List.getElem?_take,if_pos hj]
   · rw [if_neg hj, List.getElem?_append_right (by rw [List.length_take]; omega), List.length_take, Nat.min_eq_left (by omega), List.getElem?_drop]
     congr 1;omega
 refine List.ext_getElem? fun j=>?_
 by_cases hj:j<a+1
 · rw [List.getElem?_append_left (by rw [List.length_take]; omega), List.getElem?_take, if_pos hj, encK_get (by omega), encK_get (by omega)]
   unfold lkF
   split
   · rename_i e;subst e;simp
   · have e1 : (outP1 P a)[j - 1]? = P[j - 1]? := by rw [ho, if_pos (by omega)]
     have e2:(if j≤a then w j else w (j+1))=w j:=if_pos (by omega)
     simp only[e1,e2]
 · rw [List.getElem?_append_right (by rw [List.length_take]; omega), List.length_take, Nat.min_eq_left (by omega), List.getElem?_drop, show a + 2 + (j - (a + 1)) = j + 1 by omega]
   by_cases hj2:j+1<P.length+1
   · rw [encK_get hj2, encK_get (by omega)]
     unfold lkF
     have e1:(outP1 P a)[j-1]?=P[j]?:=by rw[ho,if_neg (by omega)];congr 1;omega
     have e2:(if j≤a then w j else w (j+1))=w (j+1):=if_neg (by omega)
     rw[if_neg (by omega),if_neg (by omega)]
     simp only[e1,e2,Nat.add_sub_cancel]
   · rw[List.getElem?_eq_none (by omega),List.getElem?_eq_none (by rw[encK_len];omega)]
theorem Unwind_ok {P:List AP} {k g:Nat} (h:PathP P k g) (hk:k≤70) {a:Nat} (ha:a<P.length) :
  pathshap_Path_Unwind ((a+1:Nat):Int) (encK P (wtP P))=some (0,encK (outP1 P a) (wtP (outP1 P a))):=by
 have el:=encK_len P (wtP P)
 have hl2:=h.len
 have hl:=outP1_len ha
 obtain⟨Q,eQ⟩:∃ Q,Q=outP1 P a:=⟨_,rfl⟩
 have eo:=encK_out (w:=wtP P) ha
 rw[← eQ] at eo hl
 obtain⟨w0,hw0⟩:∃ w0:Nat→Rat,w0=fun j=>if j≤a then wtP P j else wtP P (j+1):=⟨_,rfl⟩
 rw[← hw0] at eo
 obtain⟨F,eF⟩:∃ F,F=flo P.length (wtP Q):=⟨_,rfl⟩
 have lF:F.length=P.length:=by rw[eF,flo_len]
 have lQ:∀ w,(encK Q w).length=P.length:=fun w=>by rw[encK_len];exact hl
 have key:=lp_up (step:=pathshap_Path_Unwind_s8) (fun i=>((F,encK Q (fun j=>if j<i then wtP Q j else w0 j),((P.length:Nat):Int),(i:Int),()),((encK P (wtP P),()),()))) P.length
  (r:=((encK Q (fun j=>if j<P.length then wtP Q j else w0 j),()),((encK P (wtP P),()),()))) (by omega) (by
  intro gg i hi
  have d0:(i:Int)<((P.length:Nat):Int):=by omega
  have d1:(0:Int)≤(i:Int):=by omega
  have d2:(i:Int)<(F.length:Int):=by rw[lF];exact d0
  have d3:(i:Int)<((encK Q (fun j=>if j<i then wtP Q j else w0 j)).length:Int):=by rw[lQ];exact d0
  have g1:F[i]?=some (canQ (wtP Q i)):=by rw[eF];exact flo_get _ hi
  have g2:=encK_get (P:=Q) (w:=fun j=>if j<i then wtP Q j else w0 j) (i:=i) (by omega)
  have u:=encK_set (P:=Q) (w:=fun j=>if j<i then wtP Q j else w0 j) (i:=i) (wtP Q i)
  have e:encK Q (fun j=>if j=i then wtP Q i else if j<i then wtP Q j else w0 j)=encK Q (fun j=>if j<i+1 then wtP Q j else w0 j):=by
   refine encK_congr fun j _=>?_
   by_cases e1:j=i
   · rw[if_pos e1,if_pos (by omega),e1]
   · rw [if_neg e1]
     by_cases e2:j<i
     · rw[if_pos e2,if_pos (by omega)]
     · rw[if_neg e2,if_neg (by omega)]
  rw[pathshap_Path_Unwind_s8,cnd d0,cnd2 d1 d2,tN0,g1,bS0,cnd2 d1 d3,g2,bS0,u,e,iadd1 (by omega)]
  rfl) (by
  intro gg
  rw[pathshap_Path_Unwind_s8,cnd' (by omega)])
 have e0:encK Q (fun j=>if j<0 then wtP Q j else w0 j)=encK Q w0:=encK_congr fun j _=>if_neg (by omega)
 have e1:encK Q (fun j=>if j<P.length then wtP Q j else w0 j)=encK Q (wtP Q):=encK_congr fun j hj=>if_pos (by omega)
 rw[e0,e1] at key
 have key:lp pathshap_Path_Unwind_s8 K0 ((F,encK Q w0,((P.length:Nat):Int),0,()),((encK P (wtP P),()),()))=some ((encK Q (wtP Q),()),((encK P (wtP P),()),())):=key
 have i1:iadd .i64 ((a+1:Nat):Int) 1=((a+2:Nat):Int):=iadd1 (by omega)
 have hw:=without_ok h hk ha
 rw[← eQ,← eF] at hw
 have t1:(((a+1:Nat):Int)-0).toNat=a+1:=by omega
 have t2:(((a+2:Nat):Int)).toNat=a+2:=by omega
 have c1:(decide ((0:Int)≤((a+1:Nat):Int))&&decide ((((a+1:Nat):Int):Int)≤((a+1:Nat):Int))&&decide ((((a+1:Nat):Int):Int)≤((P.length+1:Nat):Int)))=true:=by
  simp only[Bool.and_eq_true,decide_eq_true_eq];omega
 rw[pathshap_Path_Unwind,el,cnd' (by omega),cnd' (by omega),cnd' (by omega),hw,bS0]
 dsimp only
 rw[el,c1,cond_true,t1,blt (by rw[List.length_take,el];simp;omega),cond_true,i1,cnd2 (by omega) (by omega),t2,List.nil_append,blt (by rw[List.length_take,List.length_drop,el];omega),cond_true,eo,lQ,key,eQ]
 rfl
theorem along_new {f:Nat} {q:Rat} {ok:Bool} {w:List AP} (h:∀ p∈w,p.1≠f):(along f q ok w).Perm ((f,q,ok)::w):=by
 induction w with
 | nil=>exact List.Perm.refl _
 | cons p w ih =>
  have h1:p.1≠f:=h p List.mem_cons_self
  have ih:=ih fun x hx=>h x (List.mem_cons_of_mem _ hx)
  simp only[along]
  split
  · exact(List.Perm.cons _ ih).trans (List.Perm.swap _ _ _)
  · first | exact List.Perm.refl _ | (rw[if_neg h1])
theorem along_old {f:Nat} {q s:Rat} {ok o:Bool} {w:List AP} (hs:SortA w) (hm:(f,s,o)∈w):∃ r:List AP,w.Perm ((f,s,o)::r)∧(along f q ok w).Perm ((f,s*q,o&&ok)::r):=by
 induction w with
 | nil=>cases hm
 | cons p w ih =>
  have hs2:=List.pairwise_cons.1 hs
  rcases List.mem_cons.1 hm with e | hm
  · subst e
    refine⟨w,List.Perm.refl _,?_⟩
    simp only[along]
    simp
  · obtain ⟨r, h1, h2⟩ := ih hs2.2 hm
    have hlt:p.1<f:=hs2.1 _ hm
    refine⟨p::r,(List.Perm.cons _ h1).trans (List.Perm.swap _ _ _),?_⟩
    simp only[along]
    rw[if_pos hlt]
    exact(List.Perm.cons _ h2).trans (List.Perm.swap _ _ _)
theorem find_ix {P:List AP} {f:Nat}:(∀ p∈P,p.1≠f)∨∃ a,∃ ha:a<P.length,P[a].1=f∧∀ j (hj:j<P.length),j<a→P[j].1≠f:=by
 induction P with
 | nil=>exact .inl (by simp)
 | cons p P ih =>
  by_cases e:p.1=f
  · exact .inr ⟨0,by simp,e,fun j _ hj=>by omega⟩
  · rcases ih with h | ⟨a, ha, h1, h2⟩
    · exact .inl fun x hx=>by rcases List.mem_cons.1 hx with rfl | hx;exact e;exact h x hx
    · refine .inr ⟨a + 1, by simpa using ha, by simpa using h1, fun j hj hja => ?_⟩
      cases j with
      | zero=>exact e
      | succ j=>simpa using h2 j (by simpa using hj) (by omega)
theorem PathP.mono {P:List AP} {k k' g:Nat} (h:PathP P k g) (hk:k≤k'):PathP P k' g:=⟨h.nd,fun p hp=>(h.sz p hp).mono hk,h.len,h.lt,h.pos⟩
theorem PathP.snoc {P:List AP} {k g:Nat} (h:PathP P k g) {f:Nat} {q:Rat} {ok:Bool} (hf:∀ p∈P,p.1≠f) (hq:SzQ q k) (hq0:0<q) (hl:P.length<20) (hfg:f<g):PathP (P++[(f,q,ok)]) k g:=by
 have hp:(P++[((f,q,ok):AP)]).Perm ((f,q,ok)::P):=List.perm_append_comm.trans (List.Perm.refl _)
 have hmem:∀ p∈P++[((f,q,ok):AP)],p=(f,q,ok)∨p∈P:=fun p hp=>by
   rcases List.mem_append.1 hp with h | h
   · exact .inr h
   · exact .inl (List.mem_singleton.1 h)
 refine⟨?_,fun p hp=>?_,by rw[List.length_append];simp;omega,fun p hp=>?_,fun p hp=>?_⟩
 · rw [(hp.map (·.1)).nodup_iff]
   refine List.nodup_cons.2 ⟨fun hm=>?_,h.nd⟩
   obtain⟨p,hp,e⟩:=List.mem_map.1 hm
   exact hf p hp e
 · rcases hmem p hp with rfl | h'
   · exact hq
   · exact h.sz p h'
 · rcases hmem p hp with rfl | h'
   · exact hfg
   · exact h.lt p h'
 · rcases hmem p hp with rfl | h'
   · exact hq0
   · exact h.pos p h'
theorem join_ok {P w:List AP} {m g:Nat} (h:PathP P (8*m+1) g) (hw:P.Perm w) (hs:SortA w) {f:Nat} {q:Rat} {ok:Bool} (hf:f<g) (hg:g<1000000) (hq:SzQ q 8) (hq0:0<q) (hl:P.length≤m) (hm:m<8)
   (at0:Int) (b1:Bool) (b2 b3:List Int) :
   ∃ P',P'.Perm (along f q ok w)∧PathP P' (8*(m+1)+1) g∧P'.length≤m+1 ∧
     pathshap_place_join at0 b1 b2 b3 (f:Int) (canQ q).1.1 (canQ q).1.2 (canQ q).2 ok (encK P (wtP P))=some (at0,b1,b2,b3,(f:Int),(canQ q).1.1,(canQ q).1.2,(canQ q).2,ok,encK P' (wtP P')):=by
 have c0:¬ (f:Int)<0:=by omega
 rcases find_ix (P:=P) (f:=f) with hn | ⟨a,ha,he,hn⟩
 · have h1 := h.mono (show 8 * m + 1 ≤ 8 * (m + 1) + 1 by omega)
   have hq1:=hq.mono (show 8≤8*(m+1)+1 by omega)
   refine⟨P++[(f,q,ok)],?_,h1.snoc hn hq1 hq0 (by omega) hf,by rw[List.length_append];simp;omega,?_⟩
   · have hn2 : ∀ p ∈ w, p.1 ≠ f := fun p hp => hn p (hw.symm.mem_iff.1 hp)
     have:(P++[((f,q,ok):AP)]).Perm ((f,q,ok)::P):=List.perm_append_comm.trans (List.Perm.refl _)
     exact(this.trans (List.Perm.cons _ hw)).trans (along_new hn2).symm
   · have he := Extend_ok h1 (f := f) (q := q) (ok := ok) hn hq1 hq0 (by omega) (by omega) (by omega)
     rw[pathshap_place_join,cnd' c0,Find_not hn (by omega),bS0]
     dsimp only
     rw[cnd' (by omega)]
     show(pathshap_Path_Extend (f:Int) (canQ q) ok (encK P (wtP P))).bind _=_
     rw[he];rfl
 · have ho := (h.out ha).mono (show 8 * m + 1 ≤ 8 * (m + 1) + 1 by omega)
   have hno:=h.notin ha
   rw[he] at hno
   have hz:SzQ P[a].2.1 (8*m+1):=h.sz _ (gM0 ha)
   have hz0:0<P[a].2.1:=h.pos _ (gM0 ha)
   have hq1:SzQ (q*P[a].2.1) (8*(m+1)+1):=(hq.mul hz).mono (by omega)
   have hqz:0<q*P[a].2.1:=Rat.mul_pos hq0 hz0
   have hol:=outP1_len ha
   have hm1:=ratio_Mul_ok (hq.sm (by omega)) (hz.sm (by omega))
   rw[rv_canQ,rv_canQ] at hm1
   have hm1:ratio_Mul (((canQ q).1.1,(canQ q).1.2),(canQ q).2) (canQ P[a].2.1)=some (canQ (q*P[a].2.1)):=hm1
   refine⟨outP1 P a++[(f,q*P[a].2.1,P[a].2.2&&ok)],?_,ho.snoc hno hq1 hqz (by omega) hf,by rw[List.length_append];simp;omega,?_⟩
   · have hmem : (f, P[a].2.1, P[a].2.2) ∈ w := by
      have:(P[a]:AP)=(f,P[a].2.1,P[a].2.2):=by rw[← he]
      rw[← this]
      exact hw.mem_iff.1 (gM0 ha)
     obtain⟨r,r1,r2⟩:=along_old (q:=q) (ok:=ok) hs hmem
     have e1:(P[a]:AP)=(f,P[a].2.1,P[a].2.2):=by rw[← he]
     have p1:((f,P[a].2.1,P[a].2.2)::outP1 P a).Perm ((f,P[a].2.1,P[a].2.2)::r):=by
      have:=outP1_perm ha
      rw[e1] at this
      exact(this.symm.trans hw).trans r1
     have p2:=List.Perm.cons_inv p1
     have p3:(outP1 P a++[((f,q*P[a].2.1,P[a].2.2&&ok):AP)]).Perm ((f,q*P[a].2.1,P[a].2.2&&ok)::outP1 P a):=List.perm_append_comm.trans (List.Perm.refl _)
     refine(p3.trans ?_).trans r2.symm
     rw[Rat.mul_comm]
     exact List.Perm.cons _ p2
   · have hE := Extend_ok ho (f := f) (q := q * P[a].2.1) (ok := P[a].2.2 && ok) hno hq1 hqz (by omega) (by omega) (by omega)
     have hU:=Unwind_ok h (by omega) ha
     have c1:((a+1:Nat):Int)>0:=by omega
     have i1:isub .i64 ((a+1:Nat):Int) 1=(a:Int):=by rw[isub_i (by omega) (by omega)];omega
     have d1:(0:Int)≤(a:Int):=by omega
     have d2:(a:Int)<((encW P).length:Int):=by rw[encW_len];omega
     have g1:(encW P)[a]?=some (encP P[a]):=by simp [encW,ha]
     rw[pathshap_place_join,cnd' c0,Find_at ha he hn (by omega),bS0]
     dsimp only
     rw[cnd c1,Parts15_ok (by omega),bS0,i1]
     dsimp only
     rw[cnd2 d1 d2,tN0,g1,bS0]
     show(ratio_Mul (((canQ q).1.1,(canQ q).1.2),(canQ q).2) (canQ P[a].2.1)).bind _=_
     rw[hm1,bS0]
     cases ok with
     | true =>
      rw[Bool.and_true] at hE ⊢
      rw[cond_true,hU,bS0]
      dsimp only
      show(pathshap_Path_Extend (f:Int) (canQ (q*P[a].2.1)) P[a].2.2 _).bind _=_
      rw[hE];rfl
     | false =>
      rw[Bool.and_false] at hE ⊢
      rw[cond_false,hU,bS0]
      dsimp only
      rw[hE];rfl
def lfT (P:List AP) (v:Rat) (f i:Nat):Rat:=match P[i]? with
 | some p=>if p.1=f then sumP P i*(one0 p.2.2-p.2.1)*v else 0
 | none=>0
def lfAdd (P:List AP) (v:Rat) (f:Nat):Rat:=rsum (lfT P v f) P.length
theorem lfT_at {P:List AP} {v:Rat} {f i:Nat} (h:i<P.length):lfT P v f i=if P[i].1=f then sumP P i*(one0 P[i].2.2-P[i].2.1)*v else 0:=by
 simp only[lfT,gE0 h]
def apF (p:AP):FP:=(p.1,fcP p)
theorem reachA_prod (P:List AP) (S:Nat):reachA S P=prodP (P.map apF) S:=by
 unfold reachA prodP
 rw[List.map_map]
 congr 1
theorem sumP_EE {P:List AP} {a:Nat} (h:a<P.length):sumP P a=EE ((outP1 P a).map fcP) fun k=>wq k ((outP1 P a).length+1):=by
 have hl:=outP1_len h
 rw[EE_rsum,List.length_map,hl]
 unfold sumP
 refine rsum_congr fun i _=>?_
 unfold wtP ekP
 rw[Rat.mul_comm,hl]
theorem reachA_perm {P Q:List AP} (h:P.Perm Q) (S:Nat):reachA S P=reachA S Q:=lprod_perm (h.map _)
theorem lfAdd_shap {P:List AP} {k n f:Nat} (h:PathP P k n) (hf:f<n) (v:Rat):lfAdd P v f=shapQ (fun S=>reachA S P*v) n f:=by
 rw[shapQ_mul]
 rcases find_ix (P:=P) (f:=f) with hn | ⟨a,ha,he,_⟩
 · have e1 : shapQ (fun S => reachA S P) n f = 0 := by
    have:(fun S=>reachA S P)=prodP (P.map apF):=funext fun S=>reachA_prod P S
    rw[this]
    refine shap_none fun hm=>?_
    rw[List.map_map] at hm
    obtain⟨p,hp,e⟩:=List.mem_map.1 hm
    exact hn p hp e
   rw[e1,Rat.zero_mul]
   refine rsum_zeros fun i hi=>?_
   rw[lfT_at hi,if_neg (hn _ (gM0 hi))]
 · have hno := h.notin ha
   rw[he] at hno
   have ho:=h.out ha
   have e1:shapQ (fun S=>reachA S P) n f=(one0 P[a].2.2-P[a].2.1)*sumP P a:=by
    have e2:(fun S=>reachA S P)=fun S=>pick (fcP P[a]) (S.testBit f)*prodP ((outP1 P a).map apF) S:=funext fun S=>by
      rw[reachA_perm (outP1_perm ha) S]
      show facP S P[a]*reachA S (outP1 P a)=_
      rw[reachA_prod,← he]
      rfl
    rw[e2,shap_prod hf (by rw[List.map_map];exact ho.nd) (fun p hp=>by
      obtain⟨x,hx,rfl⟩:=List.mem_map.1 hp
      exact ho.lt x hx) (fun hm=>by
      rw[List.map_map] at hm
      obtain⟨p,hp,e⟩:=List.mem_map.1 hm
      exact hno p hp e),sumP_EE ha]
    rw[List.map_map,List.length_map]
    rfl
   rw[e1]
   have hone:∀ i,i<P.length→i≠a→lfT P v f i=0:=fun i hi hne=>by
    rw[lfT_at hi]
    refine if_neg fun e=>hne ?_
    have hnd:=h.nd
    have hpw:=List.pairwise_iff_getElem.1 (show(P.map (·.1)).Pairwise (·≠·) from hnd)
    rcases Nat.lt_trichotomy i a with hlt | heq | hlt
    · have h5 := hpw i a (by simpa using hi) (by simpa using ha) hlt
      simp [e,he] at h5
    · exact heq
    · have h5 := hpw a i (by simpa using ha) (by simpa using hi) hlt
      simp [e,he] at h5
   have key:∀ n,n≤P.length→rsum (lfT P v f) n=if a<n then lfT P v f a else 0:=by
    intro n
    induction n with
    | zero=>intro _;rw[if_neg (by omega)];rfl
    | succ n ih =>
      intro hn
      rw[rsum,ih (by omega)]
      by_cases e:n=a
      · subst e;rw[if_neg (by omega),if_pos (by omega),Rat.zero_add]
      · rw [hone n (by omega) e, Rat.add_zero]
        by_cases h1:a<n
        · rw[if_pos h1,if_pos (by omega)]
        · rw[if_neg h1,if_neg (by omega)]
   unfold lfAdd
   rw[key _ (Nat.le_refl _),if_pos ha,lfT_at ha,if_pos he]
   grind
theorem ekS8 {k n:Nat} (hk:k≤70) (hn:n≤8):ekS k n≤20000:=by
 have h1:=ekS_mono k hn
 have h2:ekS k 8≤ekS 70 8:=by
  have:∀ n,ekS k n≤ekS 70 n:=by
   intro n
   induction n with
   | zero=>exact Nat.le_refl _
   | succ n ih=>simp only[ekS];omega
  exact this 8
 have h3:ekS 70 8≤20000:=by decide +kernel
 omega
theorem rsum_szQ {f:Nat→Rat} {k:Nat}:∀ n,(∀ i,i<n→SzQ (f i) k)→SzQ (rsum f n) (1+n*(k+1)):=by
 intro n
 induction n with
 | zero=>intro _;exact SzQ.zero.mono (by omega)
 | succ n ih =>
  intro h
  have h1:=ih fun i hi=>h i (by omega)
  have e:(n+1)*(k+1)=n*(k+1)+(k+1):=Nat.succ_mul _ _
  exact(h1.add (h n (by omega))).mono (by omega)
theorem sumP_sz {P:List AP} {k g a:Nat} (h:PathP P k g) (hk:k≤70) (hl:P.length≤8) (ha:a<P.length):SzQ (sumP P a) 170000:=by
 have hS:=ekS8 (k:=k) (n:=(outP1 P a).length) hk (by have:=outP1_len ha;omega)
 have:=rsum_szQ (k:=20030) P.length (fun i hi=>(outW_sz h hk ha i hi).mono (by omega))
 refine this.mono ?_
 have:P.length*(20030+1)≤8*(20030+1):=Nat.mul_le_mul_right _ hl
 omega
theorem lfT_sz {P:List AP} {k g:Nat} {v:Rat} (h:PathP P k g) (hk:k≤70) (hl:P.length≤8) (hv:SzQ v 200) (f:Nat) {i:Nat} (hi:i<P.length):SzQ (lfT P v f i) 180000:=by
 rw[lfT_at hi]
 split
 · have h1 := sumP_sz h hk hl hi
   have h2:SzQ P[i].2.1 k:=h.sz _ (gM0 hi)
   have h3:=(one0_sz P[i].2.2).sub h2
   exact((h1.mul h3).mul hv).mono (by omega)
 · exact SzQ.zero.mono (by omega)
theorem leaf_ok {t:List NODE} {row:List CELL} {fx:Int} {on:Bool} {n k:Nat} {P:List AP} (h:PathP P k n) (hk:k≤70) (hl:P.length≤8) {i:Nat} (hi:i<t.length) {gn:Rat} (hg:SzQ gn 100) (hs:TSz t 4)
  {o:Nat→Rat} (ho:∀ f,f<n→SzQ (o f) 100000000000) (hn:n<1000000) (a4:Int) (a5:Bool) (a6 a7:List Int) (a8:Bool) :
  pathshap_walker_leaf (i:Int) (canQ gn).1.1 (canQ gn).1.2 (canQ gn).2 a4 a5 a6 a7 a8 t row fx on (flo n o) (encK P (wtP P)) =
   some (flo n (fun f=>o f+lfAdd P (gn*rv (nVal (nodeAt t i))) f),t,row,fx,on,encK P (wtP P)):=by
 obtain⟨v,hv⟩:∃ v,v=gn*rv (nVal (nodeAt t i)):=⟨_,rfl⟩
 have zv:=(hs.at hi).2.1
 have m0:=ratio_Mul_ok (a:=canQ gn) (b:=nVal (nodeAt t i)) (hg.sm (by decide)) (zv.sm (by decide))
 rw[rv_canQ,← hv] at m0
 have vsz:SzQ v 200:=by rw[hv];exact(hg.mul (zv.szQ (by decide))).mono (by decide)
 rw[← hv]
 have key:=lp_up (step:=pathshap_walker_leaf_s3) (fun j=>((encW P,(P.length:Int),(j:Int),()),(((i:Int),(canQ gn).1.1,(canQ gn).1.2,(canQ gn).2,a4,a5,a6,a7,a8,()),((canQ v).1.1,(canQ v).1.2,(canQ v).2,()),(t,row,fx,on,flo n (fun f=>o f+rsum (lfT P v f) j),()),(encK P (wtP P),()),()))) P.length
  (r:=((),((t,row,fx,on,flo n (fun f=>o f+rsum (lfT P v f) P.length),()),(encK P (wtP P),()),()))) (by omega) (by
  intro g j hj
  have d0:(j:Int)<(P.length:Int):=by omega
  have d1:(0:Int)≤(j:Int):=by omega
  have d2:(j:Int)<((encW P).length:Int):=by rw[encW_len];exact d0
  have g1:=encW_get hj
  have q1:iadd .i64 (j:Int) 1=((j+1:Nat):Int):=iadd1 (by omega)
  have s1:=Sum15_ok h hk hj
  have zp:SzQ P[j].2.1 k:=h.sz _ (gM0 hj)
  have n1:=ratio_Neg_ok (zp.sm (by omega))
  rw[rv_canQ] at n1
  have hfl:P[j].1<n:=h.lt _ (gM0 hj)
  obtain⟨F,hF⟩:∃ F,F=P[j].1:=⟨_,rfl⟩
  rw[← hF] at hfl
  have zn:SzQ (-P[j].2.1) (k+4):=by
   have:=SzQ.zero.sub zp
   rw[Rat.sub_eq_add_neg,Rat.zero_add] at this
   exact this.mono (by omega)
  have c1:(0:Int)≤((F:Nat):Int):=by omega
  have c2:((F:Nat):Int)<((flo n (fun f=>o f+rsum (lfT P v f) j)).length:Int):=by rw[flo_len];omega
  have g2:=flo_get (n:=n) (f:=F) (fun f=>o f+rsum (lfT P v f) j) hfl
  have zs:=sumP_sz h hk hl hj
  have zr:SzQ (o F+rsum (lfT P v F) j) 100010000000:=by
   have h1:SzQ (rsum (lfT P v F) j) (1+j*(180000+1)):=rsum_szQ j (fun i hi=>lfT_sz h hk hl vsz F (by omega))
   have:j*(180000+1)≤8*(180000+1):=Nat.mul_le_mul_right _ (by omega)
   exact((ho F hfl).add h1).mono (by omega)
  have hset:∀ x,x=o F+rsum (lfT P v F) (j+1)→(flo n (fun f=>o f+rsum (lfT P v f) j)).set F (canQ x)=flo n (fun f=>o f+rsum (lfT P v f) (j+1)):=fun x hx=>by
   refine flo_set hx.symm fun f hf=>?_
   rw[rsum,lfT_at hj,if_neg (by rw[← hF];exact fun e=>hf e.symm),Rat.add_zero]
  show pathshap_walker_leaf_s3 g ((encW P,(P.length:Int),(j:Int),()),_)=_
  rw[pathshap_walker_leaf_s3,cnd d0,cnd2 d1 d2,tN0,g1,bS0,q1,s1,bS0]
  show(ratio_Neg (canQ P[j].2.1)).bind _=_
  rw[n1,bS0]
  have e1:(encP P[j]).1=(F:Int):=by rw[hF];rfl
  have e2:(encP P[j]).2.2=P[j].2.2:=rfl
  rw[e1,e2]
  cases hok:P[j].2.2 with
  | true =>
   have a1:=ratio_Add_ok (SzQ.one.sm (by decide)) (zn.sm (by omega))
   rw[rv_canQ,rv_canQ,← Rat.sub_eq_add_neg] at a1
   have z1:SzQ (1-P[j].2.1) 100:=(SzQ.one.sub zp).mono (by omega)
   have m1:=ratio_Mul_ok (zs.sm (by decide)) (z1.sm (by decide))
   rw[rv_canQ,rv_canQ] at m1
   have z2:SzQ (sumP P j*(1-P[j].2.1)) 170100:=(zs.mul z1).mono (by omega)
   have m2:=ratio_Mul_ok (z2.sm (by decide)) (vsz.sm (by decide))
   rw[rv_canQ,rv_canQ] at m2
   have m2:ratio_Mul (canQ (sumP P j*(1-P[j].2.1))) (((canQ v).1.1,(canQ v).1.2),(canQ v).2)=_:=m2
   have z3:SzQ (sumP P j*(1-P[j].2.1)*v) 170300:=(z2.mul vsz).mono (by omega)
   have a2:=ratio_Add_ok (zr.sm (by decide)) (z3.sm (by decide))
   rw[rv_canQ,rv_canQ] at a2
   have hx:=hset (o F+rsum (lfT P v F) j+sumP P j*(1-P[j].2.1)*v) (by
    rw[rsum,lfT_at hj,if_pos hF.symm,hok];simp only[one0,if_true];grind)
   rw[cond_true,ratio_One_ok,bS0,a1,bS0,cnd2 c1 c2,tN0,g2,bS0,m1,bS0,m2,bS0,a2,bS0,cnd2 c1 c2,bS0,hx]
  | false =>
   have m1:=ratio_Mul_ok (zs.sm (by decide)) (zn.sm (by omega))
   rw[rv_canQ,rv_canQ] at m1
   have z2:SzQ (sumP P j*(-P[j].2.1)) 170100:=(zs.mul zn).mono (by omega)
   have m2:=ratio_Mul_ok (z2.sm (by decide)) (vsz.sm (by decide))
   rw[rv_canQ,rv_canQ] at m2
   have m2:ratio_Mul (canQ (sumP P j*(-P[j].2.1))) (((canQ v).1.1,(canQ v).1.2),(canQ v).2)=_:=m2
   have z3:SzQ (sumP P j*(-P[j].2.1)*v) 170300:=(z2.mul vsz).mono (by omega)
   have a2:=ratio_Add_ok (zr.sm (by decide)) (z3.sm (by decide))
   rw[rv_canQ,rv_canQ] at a2
   have hx:=hset (o F+rsum (lfT P v F) j+sumP P j*(-P[j].2.1)*v) (by
    rw[rsum,lfT_at hj,if_pos hF.symm,hok];simp only[one0,Bool.false_eq_true,if_false];grind)
   rw[cond_false,cnd2 c1 c2,tN0,g2,bS0,m1,bS0,m2,bS0,a2,bS0,cnd2 c1 c2,bS0,hx]) (by
  intro g
  rw[pathshap_walker_leaf_s3,cnd' (by omega)])
 have e0:flo n (fun f=>o f+rsum (lfT P v f) 0)=flo n o:=flo_congr fun f _=>Rat.add_zero _
 rw[e0] at key
 have key:lp pathshap_walker_leaf_s3 K0 ((encW P,(P.length:Int),0,()),(((i:Int),(canQ gn).1.1,(canQ gn).1.2,(canQ gn).2,a4,a5,a6,a7,a8,()),((canQ v).1.1,(canQ v).1.2,(canQ v).2,()),(t,row,fx,on,flo n o,()),(encK P (wtP P),()),()))=_:=key
 have m0:ratio_Mul (((canQ gn).1.1,(canQ gn).1.2),(canQ gn).2) t[i].2.2.2.2.2.2.1=some (canQ v):=by
  rw[nodeAt_get hi] at m0;exact m0
 rw[pathshap_walker_leaf,cnd (by omega),tN0,gE0 hi,bS0,m0,bS0,Parts15_ok (by omega),bS0]
 dsimp only
 rw[encW_len,key,bS0]
 dsimp only
 rw[flo_len,flo_len,Nat.beq_refl,cond_true,bS0]
 rfl
def kOn (t:List NODE) (row:List CELL) (fx:Int) (on:Bool) (i:Nat) (side:Bool):Bool:=if nFeat (nodeAt t i)=fx then (if on then goL t row i == side else true) else true
def kG (t:List NODE) (fx:Int) (on:Bool) (i c:Nat) (g:Rat):Rat:=if nFeat (nodeAt t i)=fx then (if on then g else g*(cov t c/cov t i)) else g
def kF (t:List NODE) (fx:Int) (i:Nat):Int:=if nFeat (nodeAt t i)=fx then -1 else nFeat (nodeAt t i)
def kW (t:List NODE) (row:List CELL) (fx:Int) (i c:Nat) (side:Bool) (w:List AP):List AP:=if nFeat (nodeAt t i)=fx then w else along (featT t i) (cov t c/cov t i) (goL t row i == side) w
abbrev PL:=Rat×List AP
def legsF (t:List NODE) (row:List CELL) (fx:Int) (on:Bool):TR→List AP→Rat→List PL
 | .leaf i,w,g=>[(g*rv (nVal (nodeAt t i)),w)]
 | .split i l r,w,g =>
  (if kOn t row fx on i true then legsF t row fx on l (kW t row fx i l.top true w) (kG t fx on i l.top g) else []) ++
  (if kOn t row fx on i false then legsF t row fx on r (kW t row fx i r.top false w) (kG t fx on i r.top g) else [])
def visF (t:List NODE) (row:List CELL) (fx:Int) (on:Bool):TR→Nat
 | .leaf i=>1
 | .split i l r=>1+(if kOn t row fx on i true then visF t row fx on l else 0)+(if kOn t row fx on i false then visF t row fx on r else 0)
theorem visF_pos (t:List NODE) (row:List CELL) (fx:Int) (on:Bool) (T:TR):0<visF t row fx on T:=by cases T<;>simp [visF];omega
theorem visF_le (t:List NODE) (row:List CELL) (fx:Int) (on:Bool) (T:TR):visF t row fx on T≤T.size:=by
 induction T with
 | leaf i=>simp [visF,TR.size]
 | split i l r ihl ihr =>
  simp only[visF,TR.size]
  split<;>split<;>omega
structure IT where
 T:TR
 P:List AP
 g:Rat
 s:PART
 w:List AP
abbrev ITE:=Int×(Option ((Option (List (Int×RAT×CELL)))×Unit))×RAT×PART
def encI (x:IT):ITE:=((x.T.top:Int),some (some (encK x.P (wtP x.P)),()),canQ x.g,x.s)
def GoodI (t:List NODE) (n:Nat) (x:IT):Prop:=∃ m,Is t (n:Int) x.T∧m+x.T.deep≤8∧SzQ x.g (8*m+1)∧SortA x.w ∧
 ((x.s.1 = -1 ∧ PathP x.P (8 * m + 1) n ∧ x.P.length ≤ m ∧ x.P.Perm x.w) ∨
  ∃ (m' f:Nat) (q:Rat) (ok:Bool) (w0:List AP),m=m'+1∧x.s=((f:Int),canQ q,ok)∧f<n∧SzQ q 8∧0<q∧PathP x.P (8*m'+1) n∧x.P.length≤m'∧x.P.Perm w0∧SortA w0∧x.w=along f q ok w0)
theorem GoodI.join {t:List NODE} {n:Nat} {x:IT} (h:GoodI t n x) (hn:n<1000000):∃ (m:Nat) (P':List AP),Is t (n:Int) x.T∧m+x.T.deep≤8∧SzQ x.g (8*m+1)∧SortA x.w∧PathP P' (8*m+1) n∧P'.length≤m∧P'.Perm x.w ∧
   pathshap_place_join (x.T.top:Int) (canQ x.g).1.1 (canQ x.g).1.2 (canQ x.g).2 x.s.1 x.s.2.1.1.1 x.s.2.1.1.2 x.s.2.1.2 x.s.2.2 (encK x.P (wtP x.P)) =
    some ((x.T.top:Int),(canQ x.g).1.1,(canQ x.g).1.2,(canQ x.g).2,x.s.1,x.s.2.1.1.1,x.s.2.1.1.2,x.s.2.1.2,x.s.2.2,encK P' (wtP P')):=by
 obtain⟨m,h1,h2,h3,h4,h5⟩:=h
 have hd:=x.T.deep_pos
 rcases h5 with ⟨a1,a2,a3,a4⟩ | ⟨m',f,q,ok,w0,b1,b2,b3,b4,b5,b6,b7,b8,b9,b10⟩
 · refine ⟨m, x.P, h1, h2, h3, h4, a2, a3, a4, ?_⟩
   rw[a1,pathshap_place_join,cnd (by omega)]
 · subst b1
   obtain⟨P',p1,p2,p3,p4⟩:=join_ok b6 b8 b9 (ok:=ok) b3 hn b4 b5 b7 (by omega) (x.T.top:Int) (canQ x.g).1.1 (canQ x.g).1.2 (canQ x.g).2
   refine⟨m'+1,P',h1,h2,h3,h4,p2,p3,by rw[b10];exact p1,?_⟩
   rw[b2]
   exact p4
def kid (t:List NODE) (row:List CELL) (fx:Int) (on:Bool) (i:Nat) (side:Bool) (c:TR) (P w:List AP) (g:Rat):IT :=
 ⟨c,P,kG t fx on i c.top g,(kF t fx i,canQ (cov t c.top/cov t i),goL t row i == side),kW t row fx i c.top side w⟩
theorem kid_good {t:List NODE} {row:List CELL} {fx:Int} {on:Bool} {n i m:Nat} {side:Bool} {c:TR} {P w:List AP} {g:Rat} (hs:TSz t 4) (hcov:CoversP t) (hi:i<t.length) (f0:0≤nFeat t[i]) (f1:nFeat t[i]<(n:Int)) (hc:Is t (n:Int) c)
   (hm:m+1+c.deep≤8) (hg:SzQ g (8*m+1)) (hw:SortA w) (hP:PathP P (8*m+1) n) (hl:P.length≤m) (hpw:P.Perm w):GoodI t n (kid t row fx on i side c P w g):=by
 have hsh:=share_sz hs hc.top_lt hi
 refine⟨m+1,hc,hm,?_,?_,?_⟩
 · show SzQ (kG t fx on i c.top g) _
   unfold kG
   split
   · split
     · exact hg.mono (by omega)
     · exact(hg.mul hsh).mono (by omega)
   · exact hg.mono (by omega)
 · show SortA (kW t row fx i c.top side w)
   unfold kW
   split
   · exact hw
   · exact along_sort hw
 · by_cases hf : nFeat (nodeAt t i) = fx
   · refine .inl ⟨?_, hP.mono (by omega), by show P.length ≤ _; omega, ?_⟩
     · show kF t fx i = -1
       exact if_pos hf
     · show P.Perm (kW t row fx i c.top side w)
       rw[kW,if_pos hf];exact hpw
   · refine .inr ⟨m, featT t i, cov t c.top / cov t i, goL t row i == side, w, rfl, ?_, ?_, hsh, ?_, hP, hl, hpw, hw, ?_⟩
     · show (kF t fx i, _, _) = _
       rw[kF,if_neg hf,featT,nodeAt_get hi]
       rw[show((((nFeat t[i]).toNat:Nat)):Int)=nFeat t[i] by omega]
     · rw[featT,nodeAt_get hi];omega
     · have h1 : 0 < cov t c.top := by have := hcov c.top hc.top_lt; rwa [← cov_get hc.top_lt] at this
       have h2:0<cov t i:=by have:=hcov i hi;rwa [← cov_get hi] at this
       rw[Rat.div_def]
       exact Rat.mul_pos h1 (Rat.inv_pos.2 h2)
     · show kW t row fx i c.top side w = _
       exact if_neg hf
theorem Copy15_ok {P:List AP} {w:Nat→Rat} (hl:P.length≤1000000):pathshap_Path_Copy (encK P w)=some (encK P w,encK P w):=by
 rw[pathshap_Path_Copy,blt (by rw[encK_len];simp;omega),cond_true,List.nil_append]
theorem child_ok {t:List NODE} {row:List CELL} {fx:Int} {on:Bool} {i:Nat} {c:TR} {P w:List AP} {W:Nat→Rat} {g:Rat} {m:Nat} (hs:TSz t 4) (hc:CSz row 9) (hcov:CoversP t) (hi:i<t.length) (hleaf:nLeaf t[i]=false) (f0:0≤nFeat t[i]) (f1:nFeat t[i]<(row.length:Int))
   (hl:c.top<t.length) (hP:P.length≤1000000) (hg:SzQ g 1000) (side:Bool) (out:List RAT) (a4:Int) (a5:Bool) (a6 a7:List Int) (a8:Bool) :
   pathshap_walker_child (i:Int) (canQ g).1.1 (canQ g).1.2 (canQ g).2 a4 a5 a6 a7 a8 (c.top:Int) side t row fx on out (encK P W) =
    some (out,(c.top:Int),(canQ (kG t fx on i c.top g)).1.1,(canQ (kG t fx on i c.top g)).1.2,(canQ (kG t fx on i c.top g)).2,kF t fx i,(canQ (cov t c.top/cov t i)).1.1,(canQ (cov t c.top/cov t i)).1.2,(canQ (cov t c.top/cov t i)).2,(goL t row i == side),kOn t row fx on i side,t,row,fx,on,encK P W,encK P W):=by
 obtain⟨cc,g1,g2,g3⟩:=goL_ok (f:=0) hs hc hi f0 f1
 have z:=hs _ (gM0 hi)
 have zl:=hs _ (gM0 hl)
 have hne:rv (nCov t[i])≠0:=by have:=hcov.ne i hi;rwa [cov_get hi] at this
 have d1:=ratio_Div_ok (a:=nCov t[c.top]) (b:=nCov t[i]) (zl.2.2.sm (by decide)) (z.2.2.sm (by decide))
 rw[if_neg hne,← cov_get hl,← cov_get hi] at d1
 have hsh:=share_sz hs hl hi
 have hb:∀ {α:Type} {a b:α},(bif Nat.beq out.length out.length then a else b)=a:=fun {α a b}=>by rw[Nat.beq_refl,cond_true]
 have hfe:nFeat (nodeAt t i)=t[i].2.1:=by rw[nodeAt_get hi]
 have hgl:(!nLeaf t[i]&&goes t[i] cc)=goL t row i:=by rw[hleaf,Bool.not_false,Bool.true_and,g3]
 rw[pathshap_walker_child,cnd (by omega),tN0,gE0 hi,bS0,cnd (by omega),tN0,gE0 hl,bS0]
 show(ratio_Div (nCov t[c.top]) (nCov t[i])).bind _=_
 rw[d1,bS0,cnd (by exact f0)]
 show((row[(nFeat t[i]).toNat]?).bind _)=_
 rw[g1,bS0,Left_ok z.1 (by decide) g2 (by decide),bS0,hgl,Copy15_ok hP,bS0]
 by_cases hf:nFeat (nodeAt t i)=fx
 · have e1 : (!decide (t[i].2.1 = fx)) = false := by rw [← hfe, decide_eq_true hf]; rfl
   have e2:kF t fx i=-1:=if_pos hf
   rw[e1,cond_false,e2]
   cases on with
   | true =>
    have e3:kG t fx true i c.top g=g:=by rw[kG,if_pos hf];rfl
    have e4:kOn t row fx true i side=(goL t row i == side):=by rw[kOn,if_pos hf];rfl
    rw[cond_true,hb,bS0,e3,e4]
   | false =>
    have e3:kG t fx false i c.top g=g*(cov t c.top/cov t i):=by rw[kG,if_pos hf];rfl
    have e4:kOn t row fx false i side=true:=by rw[kOn,if_pos hf];rfl
    have m1:=ratio_Mul_ok (hg.sm (by decide)) (hsh.sm (by decide))
    rw[rv_canQ,rv_canQ] at m1
    have m1:ratio_Mul (((canQ g).1.1,(canQ g).1.2),(canQ g).2) (canQ (cov t c.top/cov t i))=_:=m1
    rw[cond_false,m1,bS0,hb,bS0,e3,e4]
 · have e1 : (!decide (t[i].2.1 = fx)) = true := by rw [← hfe, decide_eq_false hf]; rfl
   have e2:kF t fx i=t[i].2.1:=by rw[kF,if_neg hf,hfe]
   have e3:kG t fx on i c.top g=g:=if_neg hf
   have e4:kOn t row fx on i side=true:=if_neg hf
   rw[e1,cond_true,hb,bS0,e2,e3,e4]
def kidsL (t:List NODE) (row:List CELL) (fx:Int) (on:Bool) (i:Nat) (l r:TR) (P w:List AP) (g:Rat):List IT :=
 (if kOn t row fx on i false then [kid t row fx on i false r P w g] else [])++(if kOn t row fx on i true then [kid t row fx on i true l P w g] else [])
theorem kids_ok {t:List NODE} {row:List CELL} {fx:Int} {on:Bool} {i:Nat} {l r:TR} {P w:List AP} {g:Rat} (hs:TSz t 4) (hc:CSz row 9) (hcov:CoversP t) (hi:i<t.length) (hleaf:nLeaf t[i]=false) (f0:0≤nFeat t[i]) (f1:nFeat t[i]<(row.length:Int))
  (hl:l.top<t.length) (hr:r.top<t.length) (hP:P.length≤1000000) (hg:SzQ g 1000) (out:List RAT) (a4:Int) (a5:Bool) (a6 a7:List Int) (a8:Bool) (c0:Bool) (c1:Int) (c2:Bool) (c3 c4:List Int) (c7 c8:Bool) (c9 c10:List Int) (c11:Bool) (c12 c13:List Int)
  (base:List ITE) (hb:base.length≤1000000) :
  lp pathshap_walker_walk_s9 K0 (((false,(true,())),0,()),(((i:Int),(canQ g).1.1,(canQ g).1.2,(canQ g).2,a4,a5,a6,a7,a8,()),(c0,c1,c2,c3,c4,(l.top:Int),(r.top:Int),c7,c8,c9,c10,c11,c12,c13,()),(encK P (wtP P),()),(t,row,fx,on,out,base,()),())) =
    some ((),((t,row,fx,on,out,base++(kidsL t row fx on i l r P w g).map encI,()),())):=by
 obtain⟨A,eA⟩:∃ A:List IT,A=if kOn t row fx on i false then [kid t row fx on i false r P w g] else []:=⟨_,rfl⟩
 obtain⟨B,eB⟩:∃ B:List IT,B=if kOn t row fx on i true then [kid t row fx on i true l P w g] else []:=⟨_,rfl⟩
 have eK:kidsL t row fx on i l r P w g=A++B:=by rw[eA,eB];rfl
 have lA:A.length≤1:=by rw[eA];split<;>simp
 obtain⟨K,hK⟩:∃ K:Nat→List ITE,K=fun j=>if j=0 then [] else if j=1 then A.map encI else (A++B).map encI:=⟨_,rfl⟩
 have K0':K 0=[]:=by rw[hK];rfl
 have K1:K 1=A.map encI:=by rw[hK];rfl
 have K2:K 2=(A++B).map encI:=by rw[hK];rfl
 have ov:over out 0 out=out:=over_all rfl
 have hc1:=fun side=>child_ok (fx:=fx) (on:=on) (c:=r) (P:=P) (w:=w) (W:=wtP P) (g:=g) (m:=0) hs hc hcov hi hleaf f0 f1 hr hP hg side out a4 a5 a6 a7 a8
 have hc2:=fun side=>child_ok (fx:=fx) (on:=on) (c:=l) (P:=P) (w:=w) (W:=wtP P) (g:=g) (m:=0) hs hc hcov hi hleaf f0 f1 hl hP hg side out a4 a5 a6 a7 a8
 have key:=lp_up (step:=pathshap_walker_walk_s9) (fun j=>(((false,(true,())),(j:Int),()),(((i:Int),(canQ g).1.1,(canQ g).1.2,(canQ g).2,a4,a5,a6,a7,a8,()),(c0,c1,c2,c3,c4,(l.top:Int),(r.top:Int),c7,c8,c9,c10,c11,c12,c13,()),(encK P (wtP P),()),(t,row,fx,on,out,base++K j,()),()))) 2
  (r:=((),((t,row,fx,on,out,base++K 2,()),()))) (by omega) (by
  intro g' j hj
  have hj2:j=0∨j=1:=by omega
  rcases hj2 with rfl | rfl
  · rw [pathshap_walker_walk_s9, cnd (by omega), cnd (by omega)]
    show((([false,true]:List Bool)[0]?).bind _)=_
    rw[show(([false,true]:List Bool)[0]?)=some false from rfl,bS0,cond_false,hc1 false,bS0]
    dsimp only
    rw[K0',List.append_nil,show((0+1:Nat))=1 from rfl,K1,ov]
    cases hk:kOn t row fx on i false with
    | true =>
     have eA':A=[kid t row fx on i false r P w g]:=by rw[eA,hk];rfl
     rw[cond_true,blt (by simp;omega),cond_true,eA']
     rfl
    | false =>
     have eA':A=[]:=by rw[eA,hk];rfl
     rw[cond_false,eA',List.map_nil,List.append_nil]
     rfl
  · rw [pathshap_walker_walk_s9, cnd (by omega), cnd (by omega)]
    show((([false,true]:List Bool)[1]?).bind _)=_
    rw[show(([false,true]:List Bool)[1]?)=some true from rfl,bS0,cond_true,hc2 true,bS0]
    dsimp only
    rw[show((1+1:Nat))=2 from rfl,K1,K2,ov]
    cases hk:kOn t row fx on i true with
    | true =>
     have eB':B=[kid t row fx on i true l P w g]:=by rw[eB,hk];rfl
     rw[cond_true,blt (by simp;omega),cond_true,eB',List.map_append,← List.append_assoc]
     rfl
    | false =>
     have eB':B=[]:=by rw[eB,hk];rfl
     rw[cond_false,eB',List.append_nil]
     rfl) (by
  intro g'
  rw[pathshap_walker_walk_s9,cnd' (by omega)])
 rw[K0',K2,← eK,List.append_nil] at key
 exact key
def totL (n f:Nat) (l:List PL):Rat:=lsum (l.map fun y=>shapQ (fun S=>reachA S y.2*y.1) n f)
theorem totL_append (n f:Nat) (a b:List PL):totL n f (a++b)=totL n f a+totL n f b:=by rw[totL,List.map_append,lsum_append];rfl
def totI (t:List NODE) (row:List CELL) (fx:Int) (on:Bool) (n f:Nat) (x:IT):Rat:=totL n f (legsF t row fx on x.T x.w x.g)
def visL (t:List NODE) (row:List CELL) (fx:Int) (on:Bool):List IT→Nat
 | []=>0
 | x::L=>visF t row fx on x.T+visL t row fx on L
theorem visL_append (t:List NODE) (row:List CELL) (fx:Int) (on:Bool) (a b:List IT):visL t row fx on (a++b)=visL t row fx on a+visL t row fx on b:=by
 induction a with
 | nil=>simp [visL]
 | cons x a ih=>simp only[List.cons_append,visL,ih];omega
theorem visL_len (t:List NODE) (row:List CELL) (fx:Int) (on:Bool) (a:List IT):a.length≤visL t row fx on a:=by
 induction a with
 | nil=>simp [visL]
 | cons x a ih=>have:=visF_pos t row fx on x.T;simp only[List.length_cons,visL];omega
theorem kids_vis (t:List NODE) (row:List CELL) (fx:Int) (on:Bool) (i:Nat) (l r:TR) (P w:List AP) (g:Rat) :
  visF t row fx on (.split i l r)=1+visL t row fx on (kidsL t row fx on i l r P w g):=by
 rw[kidsL,visL_append]
 simp only[visF]
 cases kOn t row fx on i true<;>cases kOn t row fx on i false<;>simp [visL,kid]<;>omega
theorem kids_tot (t:List NODE) (row:List CELL) (fx:Int) (on:Bool) (n f i:Nat) (l r:TR) (P w:List AP) (g:Rat) :
   totL n f (legsF t row fx on (.split i l r) w g)=lsum ((kidsL t row fx on i l r P w g).map (totI t row fx on n f)):=by
 rw[kidsL,List.map_append,lsum_append]
 simp only[legsF]
 rw[totL_append,Rat.add_comm]
 congr 1
 · cases kOn t row fx on i false
   · rfl
   · simp only[if_true,List.map_cons,List.map_nil,lsum,Rat.add_zero];rfl
 · cases kOn t row fx on i true
   · rfl
   · simp only[if_true,List.map_cons,List.map_nil,lsum,Rat.add_zero];rfl
theorem walk15_ok {t:List NODE} {row:List CELL} {fx:Int} {on:Bool} {T:TR} {o:Nat→Rat} (hs:TSz t 4) (hc:CSz row 9) (hcov:CoversP t) (hT:Is t (row.length:Int) T) (h0:T.top=0) (hd:T.deep≤8) (hz:T.size≤100) (hrl:row.length≤64)
  {S:Nat} (ho:∀ f,f<row.length→SzQ (o f) S) (hS:S≤50000000000) :
  (∃ st,pathshap_walker_walk t row fx on (flo row.length o) []=some (flo row.length (fun f=>o f+totL row.length f (legsF t row fx on T [] 1)),t,row,fx,on,st))∧∀ f,f<row.length→SzQ (o f+totL row.length f (legsF t row fx on T [] 1)) (S+200000000):=by
 obtain⟨n,hn⟩:∃ n,n=row.length:=⟨_,rfl⟩
 obtain⟨N,hN⟩:∃ N,N=visF t row fx on T:=⟨_,rfl⟩
 have hN2:N≤100:=by rw[hN];exact Nat.le_trans (visF_le _ _ _ _ _) hz
 obtain⟨x0,hx0⟩:∃ x0:IT,x0=⟨T,[],1,(-1,(((false,[]),[]),false)),[]⟩:=⟨_,rfl⟩
 have t0:∀ f,totI t row fx on n f x0=totL n f (legsF t row fx on T [] 1):=fun f=>by rw[hx0];rfl
 have hg0:GoodI t n x0:=by
  refine⟨0,by rw[hx0,hn];exact hT,by rw[hx0];show 0+T.deep≤8;omega,by rw[hx0];exact SzQ.one,by rw[hx0];exact List.Pairwise.nil,.inl ⟨by rw[hx0],?_,by simp [hx0],by simp [hx0]⟩⟩
  rw[hx0]
  exact⟨List.Pairwise.nil,fun p hp=>absurd hp (by simp),by simp,fun p hp=>absurd hp (by simp),fun p hp=>absurd hp (by simp)⟩
 rw[← hn]
 obtain⟨res,hres,hlp⟩:=lp_inv (step:=pathshap_walker_walk_s1)
  (fun j v=>∃ (L:List IT) (o':Nat→Rat),v=((),((t,row,fx,on,flo n o',L.map encI,()),()))∧(∀ x∈L,GoodI t n x)∧j+visL t row fx on L=N∧(∀ f,f<n→SzQ (o' f) (S+2000000*j))∧∀ f,f<n→o' f+lsum (L.map (totI t row fx on n f))=o f+totI t row fx on n f x0)
  (fun r=>(∃ (st:List ITE),r=((),((t,row,fx,on,flo n (fun f=>o f+totI t row fx on n f x0),st,()),())))∧∀ f,f<n→SzQ (o f+totI t row fx on n f x0) (S+200000000)) N
  (v:=((),((t,row,fx,on,flo n o,[x0].map encI,()),())))
  ⟨[x0],o,rfl,fun x hx=>by rw[List.mem_singleton.1 hx];exact hg0,by simp only[visL,hx0];omega,fun f hf=>(ho f (by omega)).mono (by omega),fun f hf=>by simp only[List.map_cons,List.map_nil,lsum,Rat.add_zero]⟩
  (by omega)
  (by
   rintro j v hj ⟨L,o',rfl,hL,hv,hsz,htot⟩
   rcases List.eq_nil_or_concat L with rfl | ⟨L0,x,rfl⟩
   · simp only[visL] at hv;omega
   rw[List.concat_eq_append] at *
   have hx:GoodI t n x:=hL x (by simp)
   obtain⟨m,P',j1,j2,j3,j4,j5,j6,j7,j8⟩:=hx.join (by omega)
   rw[visL_append] at hv
   simp only[visL,Nat.add_zero] at hv
   have hvp:=visF_pos t row fx on x.T
   have hvl:=visL_len t row fx on L0
   obtain⟨base,hbase⟩:∃ base,base=L0.map encI:=⟨_,rfl⟩
   have lb:base.length=L0.length:=by rw[hbase];simp
   have eS:(L0++[x]).map encI=base++[encI x]:=by rw[hbase];simp
   have hi:=j1.top_lt
   have qS:∀ y:ITE,isub .i64 ((base++[y]).length:Int) 1=(base.length:Int):=fun y=>by
     rw[List.length_append,List.length_singleton,isub_i (by omega) (by omega)];omega
   have gS:(base++[encI x])[base.length]?=some (encI x):=by simp
   have sS:∀ y,(base++[encI x]).set base.length y=base++[y]:=fun y=>by simp
   have cS:∀ y:ITE,(decide ((0:Int)≤(base.length:Int))&&decide (((base.length:Int):Int)≤(base.length:Int))&&decide (((base.length:Int):Int)≤((base++[y]).length:Int)))=true:=fun y=>by
     simp only[Bool.and_eq_true,decide_eq_true_eq,List.length_append,List.length_singleton];omega
   have tS:∀ y:ITE,(base++[y]).take (((base.length:Int)-0).toNat)=base:=fun y=>by
     rw[show((base.length:Int)-0).toNat=base.length by omega];simp
   have hpos:(((base++[encI x]).length:Nat):Int)>0:=by rw[List.length_append,List.length_singleton];omega
   have d2:(base.length:Int)<(((base++[encI x]).length:Nat):Int):=by rw[List.length_append,List.length_singleton];omega
   have walkE:∀ g,pathshap_walker_walk_s1 g ((),((t,row,fx,on,flo n o',(L0++[x]).map encI,()),())) =
       bif t[x.T.top].1 then ((pathshap_walker_leaf (x.T.top:Int) (canQ x.g).1.1 (canQ x.g).1.2 (canQ x.g).2 x.s.1 x.s.2.1.1.1 x.s.2.1.1.2 x.s.2.1.2 x.s.2.2 t row fx on (flo n o') (encK P' (wtP P'))).bind fun r8=>g ((()),((r8.2.1,r8.2.2.1,r8.2.2.2.1,r8.2.2.2.2.1,(over (flo n o') 0 r8.1),base,()),())))
       else ((lp pathshap_walker_walk_s9 K0 (((false,(true,())),0,()),(((x.T.top:Int),(canQ x.g).1.1,(canQ x.g).1.2,(canQ x.g).2,x.s.1,x.s.2.1.1.1,x.s.2.1.1.2,x.s.2.1.2,x.s.2.2,()),(t[x.T.top].1,t[x.T.top].2.1,t[x.T.top].2.2.1.1.1,t[x.T.top].2.2.1.1.2,t[x.T.top].2.2.1.2,t[x.T.top].2.2.2.1,t[x.T.top].2.2.2.2.1,t[x.T.top].2.2.2.2.2.1,t[x.T.top].2.2.2.2.2.2.1.1.1,t[x.T.top].2.2.2.2.2.2.1.1.2,t[x.T.top].2.2.2.2.2.2.1.2,t[x.T.top].2.2.2.2.2.2.2.1.1,t[x.T.top].2.2.2.2.2.2.2.1.2,t[x.T.top].2.2.2.2.2.2.2.2,()),(encK P' (wtP P'),()),(t,row,fx,on,flo n o',base,()),()))).bind fun t12=>g ((()),((t12.2.1.1,t12.2.1.2.1,t12.2.1.2.2.1,t12.2.1.2.2.2.1,t12.2.1.2.2.2.2.1,t12.2.1.2.2.2.2.2.1,()),()))):=fun g=>by
     rw[pathshap_walker_walk_s1,eS,cnd hpos,qS,cnd2 (by omega) d2,tN0,gS,bS0]
     show((some (some (encK x.P (wtP x.P)),()):Option ((Option (List (Int×RAT×CELL)))×Unit)).bind _)=_
     rw[bS0]
     show((some (encK x.P (wtP x.P)):Option (List (Int×RAT×CELL))).bind _)=_
     rw[bS0,sS,qS,cS,cond_true,tS]
     show(pathshap_place_join (x.T.top:Int) (canQ x.g).1.1 (canQ x.g).1.2 (canQ x.g).2 x.s.1 x.s.2.1.1.1 x.s.2.1.1.2 x.s.2.1.2 x.s.2.2 (encK x.P (wtP x.P))).bind _=_
     rw[j8,bS0]
     dsimp only
     rw[cnd (by omega),tN0,gE0 hi,bS0]
   have hm7:m≤7:=by have:=x.T.deep_pos;omega
   cases hxT:x.T with
   | leaf i =>
     rw[hxT] at j1 j2 hi hv
     simp only[hxT] at walkE
     obtain⟨i1,i2⟩:=j1
     have hlf:=leaf_ok (t:=t) (row:=row) (fx:=fx) (on:=on) j5 (by omega) (by omega) i1 (j3.mono (by omega)) hs (o:=o') (fun f hf=>(hsz f hf).mono (by omega)) (by omega) x.s.1 x.s.2.1.1.1 x.s.2.1.1.2 x.s.2.1.2 x.s.2.2
     obtain⟨v,hv'⟩:∃ v,v=x.g*rv (nVal (nodeAt t i)):=⟨_,rfl⟩
     rw[← hv'] at hlf
     have hvz:SzQ v 200:=by rw[hv'];exact((j3.mono (show 8*m+1≤100 by omega)).mul ((hs.at i1).2.1.szQ (by decide))).mono (by decide)
     refine⟨((),((t,row,fx,on,flo n (fun f=>o' f+lfAdd P' v f),L0.map encI,()),())),⟨L0,_,rfl,fun y hy=>hL y (by simp [hy]),by simp only[visF] at hv;omega,fun f hf=>?_,fun f hf=>?_⟩,fun g=>?_⟩
     · have h1 := rsum_szQ (k := 180000) P'.length (fun i hi => lfT_sz j5 (by omega) (by omega) hvz f hi)
       have h1:SzQ (lfAdd P' v f) _:=h1
       have:P'.length*(180000+1)≤8*(180000+1):=Nat.mul_le_mul_right _ (by omega)
       exact((hsz f hf).add h1).mono (by omega)
     · have e := htot f hf
       rw[List.map_append,lsum_append] at e
       simp only[List.map_cons,List.map_nil,lsum,Rat.add_zero] at e
       have e2:totI t row fx on n f x=lfAdd P' v f:=by
         rw[totI,hxT,lfAdd_shap j5 hf]
         simp only[legsF,totL,List.map_cons,List.map_nil,lsum,Rat.add_zero]
         rw[← hv']
         refine shapQ_congr hf fun S _=>?_
         rw[reachA_perm j7]
       rw[e2] at e
       rw[← e];grind
     · rw [walkE g]
       show(bif t[i].1 then _ else _)=_
       rw[show t[i].1=true from i2,cond_true]
       show(pathshap_walker_leaf (i:Int) _ _ _ _ _ _ _ _ _ _ _ _ _ _).bind _=_
       rw[hlf,bS0]
       dsimp only
       rw[over_all (by rw[flo_len,flo_len]),hbase]
   | split i l r =>
     rw[hxT] at j1 j2 hi hv
     simp only[hxT,TR.top] at walkE
     obtain⟨i1,i2,f0,f1,i3,i4,i5,i6⟩:=j1
     simp only[TR.deep] at j2
     have hkd:=kids_ok (t:=t) (row:=row) (fx:=fx) (on:=on) (i:=i) (l:=l) (r:=r) (P:=P') (w:=x.w) (g:=x.g) hs hc hcov i1 i2 f0 (by omega) i5.top_lt i6.top_lt (by omega) (j3.mono (by omega)) (flo n o') x.s.1 x.s.2.1.1.1 x.s.2.1.1.2 x.s.2.1.2 x.s.2.2
       false t[i].2.1 t[i].2.2.1.1.1 t[i].2.2.1.1.2 t[i].2.2.1.2 t[i].2.2.2.2.2.1 t[i].2.2.2.2.2.2.1.1.1 t[i].2.2.2.2.2.2.1.1.2 t[i].2.2.2.2.2.2.1.2 t[i].2.2.2.2.2.2.2.1.1 t[i].2.2.2.2.2.2.2.1.2 t[i].2.2.2.2.2.2.2.2 base (by omega)
     refine⟨((),((t,row,fx,on,flo n o',(L0++kidsL t row fx on i l r P' x.w x.g).map encI,()),())),⟨L0++kidsL t row fx on i l r P' x.w x.g,o',rfl,fun y hy=>?_,?_,fun f hf=>(hsz f hf).mono (by omega),fun f hf=>?_⟩,fun g=>?_⟩
     · rcases List.mem_append.1 hy with hy | hy
       · exact hL y (by simp [hy])
       · have hgl : ∀ side, GoodI t n (kid t row fx on i side l P' x.w x.g) := fun side => kid_good hs hcov i1 f0 f1 i5 (by omega) j3 j4 j5 j6 j7
         have hgr:∀ side,GoodI t n (kid t row fx on i side r P' x.w x.g):=fun side=>kid_good hs hcov i1 f0 f1 i6 (by omega) j3 j4 j5 j6 j7
         rcases List.mem_append.1 hy with hy | hy
         · split at hy
           · rw[List.mem_singleton.1 hy];exact hgr _
           · cases hy
         · split at hy
           · rw[List.mem_singleton.1 hy];exact hgl _
           · cases hy
     · have := kids_vis t row fx on i l r P' x.w x.g
       rw[visL_append];omega
     · have e := htot f hf
       rw[List.map_append,lsum_append] at e
       simp only[List.map_cons,List.map_nil,lsum,Rat.add_zero] at e
       have e2:totI t row fx on n f x=lsum ((kidsL t row fx on i l r P' x.w x.g).map (totI t row fx on n f)):=by
         rw[totI,hxT];exact kids_tot t row fx on n f i l r P' x.w x.g
       rw[e2] at e
       rw[List.map_append,lsum_append];exact e
     · rw [walkE g]
       show(bif t[i].1 then _ else _)=_
       rw[show t[i].1=false from i2,cond_false]
       rw[show t[i].2.2.2.1=(l.top:Int) from i3,show t[i].2.2.2.2.1=(r.top:Int) from i4,hkd,bS0]
       dsimp only
       rw[hbase,← List.map_append])
  (by
   rintro v ⟨L,o',rfl,hL,hv,hsz,htot⟩
   have hl:=visL_len t row fx on L
   have:L=[]:=by
     cases L with
     | nil=>rfl
     | cons x L=>simp only[List.length_cons] at hl;omega
   subst this
   refine⟨((),((t,row,fx,on,flo n o',List.map encI [],()),())),⟨⟨List.map encI [],?_⟩,fun f hf=>?_⟩,fun g=>?_⟩
   · have : flo n o' = flo n (fun f => o f + totI t row fx on n f x0) := flo_congr fun f hf => by
       rw[← htot f hf];simp only[List.map_nil,lsum,Rat.add_zero]
     rw[this]
   · rw [← htot f hf]
     simp only[List.map_nil,lsum,Rat.add_zero]
     exact(hsz f hf).mono (by omega)
   · rw[pathshap_walker_walk_s1,cnd' (by simp)])
 obtain⟨⟨st,rfl⟩,hrs⟩:=hres
 refine⟨⟨st,?_⟩,fun f hf=>by have:=hrs f hf;rwa [t0] at this⟩
 have e0:[x0].map encI=[((0:Int),(some (some (encK [] (wtP [])),()):Option ((Option (List (Int×RAT×CELL)))×Unit)),canQ 1,((-1:Int),(((false,[]),[]),false)))]:=by
  rw[hx0]
  simp only[List.map_cons,List.map_nil,encI,h0];rfl
 rw[e0] at hlp
 rw[pathshap_walker_walk,New15_ok,bS0,ratio_One_ok,bS0]
 have hlp:lp pathshap_walker_walk_s1 K0 (((),((t,row,fx,on,flo n o,[(0,((some ((some (encK [] (wtP []))),())),(canQ 1,((-1),(((false,[]),[]),false)))))],()),())))=_:=hlp
 rw[hlp,bS0]
 dsimp only
 rw[flo_len,flo_len,Nat.beq_refl,cond_true,bS0]
 simp only[t0]
def trV (t:List NODE) (row:List CELL) (fx:Int) (on:Bool) (f:Nat):Rat:=totL row.length f (legsF t row fx on (treeOf t) [] 1)
def pvals (m:MODEL) (row:List CELL) (fx:Int) (on:Bool) (f:Nat):Rat:=rsum (fun j=>trV (treeAt m j) row fx on f) m.2.length
theorem Askd.deep8 {m:MODEL} {row:List CELL} (h:Askd m row) {i:Nat} (hi:i<m.2.length):(treeOf m.2[i]).deep≤8∧(treeOf m.2[i]).size≤15:=by
 have h1:=h.good.treeOf hi
 have hsh:ShapeP m.2[i]:=h.good.2 1 (by decide) i hi
 have h2:=tree_size hsh h1.1
 have h3:=deep_half (treeOf m.2[i])
 have h4:=h.mt _ (gM0 hi)
 omega
theorem Askd.walk {m:MODEL} {row:List CELL} (h:Askd m row) {i:Nat} (hi:i<m.2.length) (fx:Int) (on:Bool) {o:Nat→Rat} {S:Nat} (ho:∀ f,f<row.length→SzQ (o f) S) (hS:S≤50000000000) :
  (∃ st,pathshap_walker_walk m.2[i] row fx on (flo row.length o) []=some (flo row.length (fun f=>o f+trV (treeAt m i) row fx on f),m.2[i],row,fx,on,st))∧∀ f,f<row.length→SzQ (o f+trV (treeAt m i) row fx on f) (S+200000000):=by
 obtain⟨t1,t2,t3,t4,t5⟩:=h.tree hi
 rw[t5] at t2 t3 ⊢
 obtain⟨d1,d2⟩:=h.deep8 hi
 exact walk15_ok t1 h.cs (h.cov hi) t2 t3 d1 (by omega) h.f64 ho hS
theorem trV_sz {m:MODEL} {row:List CELL} (h:Askd m row) {i:Nat} (hi:i<m.2.length) (fx:Int) (on:Bool) {f:Nat} (hf:f<row.length):SzQ (trV (treeAt m i) row fx on f) 200000010:=by
 have:=(h.walk hi fx on (o:=fun _=>0) (S:=1) (fun _ _=>SzQ.zero) (by decide)).2 f hf
 rw[Rat.zero_add] at this
 exact this.mono (by decide)
theorem pvals_sz {m:MODEL} {row:List CELL} (h:Askd m row) (fx:Int) (on:Bool) {f:Nat} (hf:f<row.length):SzQ (pvals m row fx on f) 1500000000:=by
 have h1:=rsum_szQ (f:=fun j=>trV (treeAt m j) row fx on f) (k:=200000010) m.2.length (fun i hi=>trV_sz h hi fx on hf)
 have:m.2.length*(200000010+1)≤6*(200000010+1):=Nat.mul_le_mul_right _ h.ml
 exact h1.mono (by omega)
theorem pzeros_ok {n:Nat} (h:n≤1000000):pathshap_zeros (n:Int)=some (flo n fun _=>0):=by
 have key:=lp_up (step:=pathshap_zeros_s3) (fun i=>((flo i (fun _=>0),(n:Int),(i:Int),()),())) n (r:=((flo n (fun _=>0),()),())) (by omega) (by
  intro g i hi
  have d0:(i:Int)<(n:Int):=by omega
  rw[pathshap_zeros_s3,cnd d0,ratio_Zero_ok,bS0,blt (by rw[flo_len];omega),cond_true,iadd1 (by omega)]
  simp only[flo,List.range_succ,List.map_append]
  rfl) (by
  intro g
  rw[pathshap_zeros_s3,cnd' (by omega)])
 have key:lp pathshap_zeros_s3 K0 (([],(n:Int),0,()),())=_:=key
 rw[pathshap_zeros,key];rfl
theorem all15_ok {m:MODEL} {row:List CELL} (h:Askd m row) (fx:Int) (on:Bool):pathshap_all m row fx on=some (flo row.length (pvals m row fx on)):=by
 have ml:=h.ml
 have h64:=h.f64
 have hsz:∀ j,j≤m.2.length→∀ f,f<row.length→SzQ (rsum (fun j=>trV (treeAt m j) row fx on f) j) 1500000000:=fun j hj f hf=>by
  have h1:=rsum_szQ (f:=fun j=>trV (treeAt m j) row fx on f) (k:=200000010) j (fun i hi=>trV_sz h (by omega) fx on hf)
  have:j*(200000010+1)≤6*(200000010+1):=Nat.mul_le_mul_right _ (by omega)
  exact h1.mono (by omega)
 have key:=lp_up (step:=pathshap_all_s3) (fun j=>((row,fx,on,flo row.length (fun f=>rsum (fun j=>trV (treeAt m j) row fx on f) j),m.2,(m.2.length:Int),(j:Int),()),())) m.2.length (r:=((flo row.length (pvals m row fx on),()),())) (by omega) (by
  intro g j hj
  have d0:(j:Int)<(m.2.length:Int):=by omega
  obtain⟨st,hw⟩:=(h.walk hj fx on (hsz j (by omega)) (by decide)).1
  rw[pathshap_all_s3,cnd d0,cnd (by omega),tN0,gE0 hj,bS0,hw,bS0]
  dsimp only
  rw[over_all (by rw[flo_len,flo_len]),iadd1 (by omega)]
  rfl) (by
  intro g
  rw[pathshap_all_s3,cnd' (by omega)]
  rfl)
 have key:lp pathshap_all_s3 K0 ((row,fx,on,flo row.length (fun _=>0),m.2,(m.2.length:Int),0,()),())=_:=key
 rw[pathshap_all,show m.1=((row.length:Nat):Int) by have:=h.len;omega,pzeros_ok (by omega),bS0,key];rfl
theorem law15_awake_ok:dendronlaw15_awake=some true:=by decide +kernel
theorem flo_same {n k:Nat} {o:Nat→Rat} (ho:∀ f,f<n→SzQ (o f) k) (hk:k<91625968980) (hn:n≤1000000):dendronref10_All (flo n o) (flo n o)=some true:=by
 refine All_true (n:=k) (m:=k) hk hk (fun x hx=>?_) rfl (by rw[flo_len];omega) (fun i hi hi'=>?_)
 · obtain ⟨f, hf, rfl⟩ := List.mem_map.1 hx
   exact(ho f (List.mem_range.1 hf)).szR
 · rw [flo_len] at hi
   have:=flo_get o hi
   rw[gE0 hi'] at this
   have e:=Option.some.inj this
   exact⟨_,ho i hi,e,by rw[e,rv_canQ]⟩
def on01 (on:Bool):Nat:=if on then 1 else 0
def shapGT (v:Nat→Rat) (n fx:Nat) (on:Bool) (f S:Nat):Rat :=
 if S.testBit f then 0 else if S.testBit fx=on then wq (popc n S-on01 on) (n-1)*(v (S+2 ^ f)-v S) else 0
def shapG (v:Nat→Rat) (n fx:Nat) (on:Bool) (f:Nat):Rat:=if f=fx then 0 else rsum (shapGT v n fx on f) (2 ^ n)
theorem rsum_join (F:Nat→Rat) (a:Nat):∀ b,rsum F (a+b)=rsum F a+rsum (fun i=>F (a+i)) b:=by
 intro b
 induction b with
 | zero=>show _=_+0;rw[Rat.add_zero];rfl
 | succ b ih=>rw[show a+(b+1)=a+b+1 by omega,rsum,ih,rsum,Rat.add_assoc]
theorem rsum_pair (fx:Nat):∀ (n:Nat) (F:Nat→Rat),fx<n→rsum F (2 ^ n)=rsum (fun S=>if S.testBit fx then 0 else F S+F (S+2 ^ fx)) (2 ^ n):=by
 intro n
 induction n with
 | zero=>intro F h;omega
 | succ n ih =>
  intro F h
  rw[Nat.pow_succ,Nat.mul_two,rsum_join,rsum_join]
  by_cases e:fx=n
  · subst e
    have h1:rsum (fun S=>if S.testBit fx then 0 else F S+F (S+2 ^ fx)) (2 ^ fx)=rsum (fun S=>F S+F (S+2 ^ fx)) (2 ^ fx):=rsum_congr fun S hS=>by
     rw[Nat.testBit_lt_two_pow hS,if_neg (by decide)]
    have h2:rsum (fun i=>if (2 ^ fx+i).testBit fx then 0 else F (2 ^ fx+i)+F (2 ^ fx+i+2 ^ fx)) (2 ^ fx)=0:=rsum_zeros fun S hS=>by
     rw[Nat.testBit_two_pow_add_eq,Nat.testBit_lt_two_pow hS,Bool.not_false,if_pos rfl]
    rw[h1,h2,rsum_addF,Rat.add_zero]
    congr 1
    exact rsum_congr fun i _=>by rw[Nat.add_comm]
  · have hf : fx < n := by omega
    rw[ih F hf,ih (fun i=>F (2 ^ n+i)) hf]
    congr 1
    refine rsum_congr fun S _=>?_
    rw[Nat.testBit_two_pow_add_gt hf,show 2 ^ n+S+2 ^ fx=2 ^ n+(S+2 ^ fx) by omega]
theorem popc_add {S fx:Nat} (h:S.testBit fx=false):∀ n,popc n (S+2 ^ fx)=popc n S+(if fx<n then 1 else 0):=by
 intro n
 induction n with
 | zero=>rfl
 | succ n ih =>
  rw[popc,popc,ih,bit_add h]
  by_cases e:n=fx
  · subst e
    have a1:¬ n<n:=by omega
    have a2:n<n+1:=by omega
    simp [h,a1,a2]
  · by_cases h1 : fx < n
    · have a2 : fx < n + 1 := by omega
      rw[decide_eq_false e,Bool.false_or,if_pos h1,if_pos a2];omega
    · have a2 : ¬ fx < n + 1 := by omega
      rw[decide_eq_false e,Bool.false_or,if_neg h1,if_neg a2];omega
theorem popc_two {n f fx S:Nat} (hf:f<n) (hx:fx<n) (hne:f≠fx) (h1:S.testBit f=false) (h2:S.testBit fx=false):popc n S+2≤n:=by
 have a:=popc_add h1 n
 have b:(S+2 ^ f).testBit fx=false:=by rw[bit_add h1,decide_eq_false (fun e=>hne e.symm),Bool.false_or,h2]
 have c:=popc_add b n
 rw[if_pos hf] at a
 rw[if_pos hx] at c
 have:=popc_le n (S+2 ^ f+2 ^ fx)
 omega
theorem shap_given {v:Nat→Rat} {n f fx:Nat} (on:Bool) (hf:f<n) (hx:fx<n) (hne:f≠fx) (hv:∀ S,S.testBit fx=false→v (S+2 ^ fx)=v S):shapQ v n f=shapG v n fx on f:=by
 rw[shapG,if_neg hne,shapQ,rsum_pair fx n _ hx,rsum_pair fx n (shapGT v n fx on f) hx]
 refine rsum_congr fun S _=>?_
 cases h2:S.testBit fx with
 | true=>rfl
 | false =>
  rw[if_neg (by decide),if_neg (by decide)]
  have hfx:(S+2 ^ fx).testBit fx=true:=by rw[bit_add h2,decide_eq_true rfl,Bool.true_or]
  have hff:(S+2 ^ fx).testBit f=S.testBit f:=by rw[bit_add h2,decide_eq_false hne,Bool.false_or]
  unfold shapT shapGT
  rw[hff,hfx,h2]
  cases h1:S.testBit f with
  | true=>rfl
  | false =>
   have hp:=popc_two hf hx hne h1 h2
   have ha:=popc_add h2 n
   rw[if_pos hx] at ha
   have hb:(S+2 ^ f).testBit fx=false:=by rw[bit_add h1,decide_eq_false (fun e=>hne e.symm),Bool.false_or,h2]
   have e1:v (S+2 ^ fx+2 ^ f)=v (S+2 ^ f):=by rw[show S+2 ^ fx+2 ^ f=S+2 ^ f+2 ^ fx by omega,hv _ hb]
   have e2:=hv S h2
   have hw:=wq_add (k:=popc n S) (n:=n-1) (by omega)
   rw[show n-1+1=n by omega] at hw
   rw[ha,e1,e2]
   have o1:popc n S+1-on01 true=popc n S:=rfl
   have o2:popc n S-on01 false=popc n S:=rfl
   cases on with
   | true =>
    simp only[Bool.false_eq_true,if_false,if_true,o1]
    rw[← hw];grind
   | false =>
    simp only[Bool.false_eq_true,if_false,if_true,o2]
    rw[← hw];simp;grind
theorem shapG_congr {v w:Nat→Rat} {n fx:Nat} {on:Bool} {f:Nat} (hne:f≠fx→f<n) (h:∀ S,S.testBit fx=on→v S=w S):shapG v n fx on f=shapG w n fx on f:=by
 unfold shapG
 split
 · rfl
 · rename_i hf
   refine rsum_congr fun S _=>?_
   unfold shapGT
   cases h1:S.testBit f with
   | true=>rfl
   | false =>
    by_cases h2:S.testBit fx=on
    · simp only [Bool.false_eq_true, if_false, if_pos h2]
      rw[h S h2,h (S+2 ^ f) (by rw[bit_add h1,decide_eq_false (fun e=>hf e.symm),Bool.false_or];exact h2)]
    · simp only[Bool.false_eq_true,if_false,if_neg h2]
theorem shapG_add (v w:Nat→Rat) (n fx:Nat) (on:Bool) (f:Nat):shapG (fun S=>v S+w S) n fx on f=shapG v n fx on f+shapG w n fx on f:=by
 unfold shapG
 split
 · rw[Rat.add_zero]
 · rw [← rsum_addF]
   refine rsum_congr fun S _=>?_
   unfold shapGT
   split
   · rw[Rat.add_zero]
   · split
     · grind
     · rw[Rat.add_zero]
theorem shapG_zero (n fx:Nat) (on:Bool) (f:Nat):shapG (fun _=>0) n fx on f=0:=by
 unfold shapG
 split
 · rfl
 · refine rsum_zeros fun S _ => ?_
   unfold shapGT
   split
   · rfl
   · split
     · grind
     · rfl
theorem shapG_lsum {α:Type} (v:α→Nat→Rat) (n fx:Nat) (on:Bool) (f:Nat):∀ l:List α,shapG (fun S=>lsum (l.map fun x=>v x S)) n fx on f=lsum (l.map fun x=>shapG (v x) n fx on f):=by
 intro l
 induction l with
 | nil=>exact shapG_zero n fx on f
 | cons x l ih=>rw[List.map_cons,lsum,← ih,← shapG_add];rfl
theorem shapG_rsum (v:Nat→Nat→Rat) (n fx:Nat) (on:Bool) (f:Nat):∀ k,shapG (fun S=>rsum (fun i=>v i S) k) n fx on f=rsum (fun i=>shapG (v i) n fx on f) k:=by
 intro k
 induction k with
 | zero=>exact shapG_zero n fx on f
 | succ k ih=>rw[rsum,← ih,← shapG_add];rfl
theorem legsF_say {t:List NODE} {row:List CELL} {fx n S:Nat} {on:Bool} (hc:∀ i,i<t.length→cov t i≠0) (hS:S.testBit fx=on) {T:TR} (h:Is t (n:Int) T) :
  ∀ (w:List AP) (g:Rat),lsum ((legsF t row (fx:Int) on T w g).map fun y=>reachA S y.2*y.1)=reachA S w*g*expT t row S T:=by
 induction T with
 | leaf i=>intro w g;simp only[legsF,List.map_cons,List.map_nil,lsum,expT,Rat.add_zero];grind
 | split i l r ihl ihr =>
  intro w g
  obtain⟨h1,h2,f0,f1,h3,h4,h5,h6⟩:=h
  have ihl:=ihl h5
  have ihr:=ihr h6
  have hci:=hc i h1
  simp only[legsF,List.map_append,lsum_append,expT]
  by_cases hf:nFeat (nodeAt t i)=(fx:Int)
  · have hbit : S.testBit (nFeat (nodeAt t i)).toNat = on := by rw [hf, tN0]; exact hS
    rw[hbit]
    cases on with
    | true =>
     have k1:kOn t row (fx:Int) true i true=goL t row i:=by rw[kOn,if_pos hf];cases goL t row i<;>rfl
     have k2:kOn t row (fx:Int) true i false=!goL t row i:=by rw[kOn,if_pos hf];cases goL t row i<;>rfl
     rw[k1,k2,kW,if_pos hf,kW,if_pos hf,kG,if_pos hf,kG,if_pos hf]
     simp only[if_true]
     cases goL t row i with
     | true=>simp only[if_true,Bool.not_true,Bool.false_eq_true,if_false,List.map_nil,lsum,Rat.add_zero];exact ihl w g
     | false=>simp only[Bool.not_false,if_true,Bool.false_eq_true,if_false,List.map_nil,lsum,Rat.zero_add];exact ihr w g
    | false =>
     have k1:∀ s,kOn t row (fx:Int) false i s=true:=fun s=>by rw[kOn,if_pos hf];rfl
     rw[k1,k1,kW,if_pos hf,kW,if_pos hf,kG,if_pos hf,kG,if_pos hf]
     simp only[if_true,Bool.false_eq_true,if_false]
     rw[ihl,ihr]
     simp only[Rat.div_def]
     grind
  · have k1 : ∀ s, kOn t row (fx : Int) on i s = true := fun s => if_neg hf
    rw[k1,k1,kW,if_neg hf,kW,if_neg hf,kG,if_neg hf,kG,if_neg hf]
    simp only[if_true]
    rw[ihl,ihr,reachA_along,reachA_along]
    unfold facP
    have ef:featT t i=(nFeat (nodeAt t i)).toNat:=rfl
    rw[ef]
    cases S.testBit (nFeat (nodeAt t i)).toNat with
    | true =>
     cases goL t row i with
     | true=>simp;grind
     | false=>simp;grind
    | false =>
     simp only[Bool.false_eq_true,if_false,Rat.div_def]
     grind
theorem legsF_off {t:List NODE} {row:List CELL} {fx:Nat} {on:Bool} {n:Nat} {T:TR} (h:Is t (n:Int) T):∀ (w:List AP) (g:Rat),(∀ p∈w,p.1≠fx)→∀ y∈legsF t row (fx:Int) on T w g,∀ p∈y.2,p.1≠fx:=by
 induction T with
 | leaf i=>intro w g hw y hy;simp only[legsF,List.mem_singleton] at hy;subst hy;exact hw
 | split i l r ihl ihr =>
  intro w g hw y hy
  obtain⟨h1,h2,f0,f1,h3,h4,h5,h6⟩:=h
  have hk:∀ c s,∀ p∈kW t row (fx:Int) i c s w,p.1≠fx:=fun c s=>by
    unfold kW
    split
    · exact hw
    · rename_i hf
      intro p hp
      rcases along_mem p hp with e | ⟨p',q1,q2⟩
      · rw [e, featT]
        rw[nodeAt_get h1] at hf ⊢
        omega
      · have:=hw p' q1;omega
  simp only[legsF,List.mem_append] at hy
  rcases hy with hy | hy
  · split at hy
    · exact ihl h5 _ _ (hk _ _) y hy
    · cases hy
  · split at hy
    · exact ihr h6 _ _ (hk _ _) y hy
    · cases hy
theorem reach_off {w:List AP} {fx S:Nat} (hw:∀ p∈w,p.1≠fx) (hS:S.testBit fx=false):reachA (S+2 ^ fx) w=reachA S w:=by
 unfold reachA
 congr 1
 refine List.map_congr_left fun p hp=>?_
 unfold facP
 rw[bit_add hS,decide_eq_false (hw p hp),Bool.false_or]
theorem trV_given {t:List NODE} {row:List CELL} {fx:Nat} {on:Bool} (hc:CoversP t) (h:Is t (row.length:Int) (treeOf t)) (hx:fx<row.length) {f:Nat} (hf:f<row.length) :
   trV t row (fx:Int) on f=shapG (fun S=>expT t row S (treeOf t)) row.length fx on f:=by
 have hoff:=legsF_off (row:=row) (fx:=fx) (on:=on) h [] 1 (by simp)
 have e1:shapG (fun S=>expT t row S (treeOf t)) row.length fx on f=shapG (fun S=>lsum ((legsF t row (fx:Int) on (treeOf t) [] 1).map fun y=>reachA S y.2*y.1)) row.length fx on f:=by
   refine shapG_congr (fun _=>hf) fun S hS=>?_
   rw[legsF_say hc.ne hS h]
   show _=lprod []*1*_
   rw[lprod,Rat.one_mul,Rat.one_mul]
 rw[e1,shapG_lsum (fun(y:PL) S=>reachA S y.2*y.1)]
 unfold trV totL
 congr 1
 refine List.map_congr_left fun y hy=>?_
 have hv:∀ S,S.testBit fx=false→(fun S=>reachA S y.2*y.1) (S+2 ^ fx)=(fun S=>reachA S y.2*y.1) S:=fun S hS=>by
   show reachA (S+2 ^ fx) y.2*y.1=_
   rw[reach_off (hoff y hy) hS]
 by_cases e:f=fx
 · subst e
   rw[shapG,if_pos rfl]
   refine rsum_zeros fun S _=>?_
   unfold shapT
   cases hb:S.testBit f with
   | true=>rfl
   | false =>
    rw[if_neg (by decide),hv S hb];grind
 · exact shap_given on hf hx e hv
theorem pvals_given {m:MODEL} {row:List CELL} (h:Askd m row) {fx:Nat} (on:Bool) (hx:fx<row.length) {f:Nat} (hf:f<row.length):pvals m row (fx:Int) on f=shapG (sayM m row) row.length fx on f:=by
 have e:=shapG_rsum (fun j S=>expT (treeAt m j) row S (treeOf (treeAt m j))) row.length fx on f m.2.length
 have e:shapG (sayM m row) row.length fx on f=_:=e
 rw[e]
 refine rsum_congr fun j hj=>?_
 obtain⟨t1,t2,t3,t4,t5⟩:=h.tree hj
 rw[t5] at t2 ⊢
 exact trV_given (h.cov hj) t2 hx hf
theorem popc_lt {n i S:Nat} (hi:i<n) (hb:S.testBit i=false):popc n S<n:=by
 have a:=popc_add hb n
 rw[if_pos hi] at a
 have:=popc_le n (S+2 ^ i)
 omega
theorem popc_pos {n i S:Nat} (hi:i<n) (hb:S.testBit i=true):0<popc n S:=by
 induction n with
 | zero=>omega
 | succ n ih =>
  rw[popc]
  by_cases e:i=n
  · subst e;rw[hb,if_pos rfl];omega
  · have:=ih (by omega);omega
theorem shapGT_sz {v:Nat→Rat} {n fx f k S:Nat} {on:Bool} (hn:n≤12) (hf:f<n) (hx:fx<n) (hne:f≠fx) (hv:∀ S,S<2 ^ n→SzQ (v S) k) (hS:S<2 ^ n):SzQ (shapGT v n fx on f S) (2*k+40):=by
 unfold shapGT
 cases hb:S.testBit f with
 | true=>rw[if_pos rfl];exact SzQ.zero.mono (by omega)
 | false =>
  rw[if_neg (by decide)]
  split
  · rename_i ho
    have hp:popc n S-on01 on<n-1:=by
     cases on with
     | true =>
      have:=popc_lt hf hb
      have:=popc_pos hx ho
      show popc n S-1<n-1;omega
     | false =>
      have:=popc_two hf hx hne hb ho
      show popc n S-0<n-1;omega
    have h1:=wq_sz hp (by omega)
    have h2:=(hv _ (bit_add_lt hb hS hf)).sub (hv S hS)
    exact(h1.mul h2).mono (by omega)
  · exact SzQ.zero.mono (by omega)
theorem ShapleyG_ok {v:Nat→Rat} {L:List RAT} {n k fx:Nat} {on:Bool} (hn:n≤12) (hx:fx<n) (hL:∀ S,S<2 ^ n→L[S]?=some (canQ (v S))) (hv:∀ S,S<2 ^ n→SzQ (v S) k) (hk:k<10000000) :
  dendronlaw15_Shapley L (n:Int) (fx:Int) on=some (flo n (shapG v n fx on)):=by
 obtain⟨d,st,sm,f,hN,hT⟩:=New_ok
 have hp12:2 ^ n≤2 ^ 12:=Nat.pow_le_pow_right (by decide) hn
 have hp12:2 ^ n≤4096:=hp12
 obtain⟨r,⟨d',st',sm',f',hr⟩,e⟩:=lp_inv (step:=dendronlaw15_Shapley_s7)
  (fun i w=>∃ d st sm f,w=((L,(n:Int),(fx:Int),on,((n-1:Nat):Int),flo i (shapG v n fx on),(i:Int),()),((d,st,sm,f,()),()))∧Tab d st sm f)
  (fun r=>∃ d' st' sm' f',r=((flo n (shapG v n fx on),()),())) n
  (v:=((L,(n:Int),(fx:Int),on,((n-1:Nat):Int),[],0,()),((d,st,sm,f,()),())))
  ⟨d,st,sm,f,rfl,hT⟩ (by omega) (by
  rintro i w hi ⟨d,st,sm,f,rfl,hT⟩
  have d0:(i:Int)<(n:Int):=by omega
  have d1:(0:Int)≤(i:Int):=by omega
  have fin:flo (i+1) (shapG v n fx on)=flo i (shapG v n fx on)++[canQ (shapG v n fx on i)]:=by simp [flo,List.range_succ]
  by_cases hif:i=fx
  · subst hif
    refine⟨_,⟨d,st,sm,f,rfl,hT⟩,fun g=>?_⟩
    have e0:lp dendronlaw15_Shapley_s11 K0 ((L,(n:Int),(i:Int),on,((n-1:Nat):Int),flo i (shapG v n i on),(i:Int),0,()),(((canQ 0).1.1,(canQ 0).1.2,(canQ 0).2,()),(d,st,sm,f,()),()))=some ((L,(n:Int),(i:Int),on,((n-1:Nat):Int),flo i (shapG v n i on),(i:Int),()),(((canQ 0).1.1,(canQ 0).1.2,(canQ 0).2,()),(d,st,sm,f,()),())):=by
     have key:=lp_up (step:=dendronlaw15_Shapley_s11) (fun _=>((L,(n:Int),(i:Int),on,((n-1:Nat):Int),flo i (shapG v n i on),(i:Int),0,()),(((canQ 0).1.1,(canQ 0).1.2,(canQ 0).2,()),(d,st,sm,f,()),()))) 0 (r:=((L,(n:Int),(i:Int),on,((n-1:Nat):Int),flo i (shapG v n i on),(i:Int),()),(((canQ 0).1.1,(canQ 0).1.2,(canQ 0).2,()),(d,st,sm,f,()),()))) (by omega) (fun g j hj=>by omega) (by
      intro g
      have hp:0<2 ^ n:=Nat.two_pow_pos n
      rw[dendronlaw15_Shapley_s11,two_ok (by omega),bS0,cnd (by omega),decide_eq_true rfl,Bool.not_true,cond_false])
     exact key
    rw[dendronlaw15_Shapley_s7,cnd d0,ratio_Zero_ok,bS0,e0,bS0]
    dsimp only
    rw[blt (by rw[flo_len];omega),cond_true,iadd1 (by omega),fin]
    have:shapG v n i on i=0:=if_pos rfl
    rw[this];rfl
  · obtain ⟨s, hs⟩ : ∃ s : Nat → Rat, s = rsum (shapGT v n fx on i) := ⟨_, rfl⟩
    have ssz:∀ S,S≤2 ^ n→SzQ (s S) 100000000000:=fun S hS=>by
     have:=rsum_sz (f:=shapGT v n fx on i) (k:=2*k+40) (n:=S) (fun j hj=>shapGT_sz hn hi hx hif hv (by omega))
     rw[hs]
     exact this.mono (by have:=Nat.mul_le_mul (show S≤4096 by omega) (show 2*k+40+1≤20000041 by omega);omega)
    obtain⟨r,⟨d',st',sm',f',hr,hT'⟩,e⟩:=lp_inv (step:=dendronlaw15_Shapley_s11)
     (fun S w=>∃ d st sm f,w=((L,(n:Int),(fx:Int),on,((n-1:Nat):Int),flo i (shapG v n fx on),(i:Int),(S:Int),()),(((canQ (s S)).1.1,(canQ (s S)).1.2,(canQ (s S)).2,()),(d,st,sm,f,()),()))∧Tab d st sm f)
     (fun r=>∃ d st sm f,r=((L,(n:Int),(fx:Int),on,((n-1:Nat):Int),flo i (shapG v n fx on),(i:Int),()),(((canQ (s (2 ^ n))).1.1,(canQ (s (2 ^ n))).1.2,(canQ (s (2 ^ n))).2,()),(d,st,sm,f,()),()))∧Tab d st sm f) (2 ^ n)
     (v:=((L,(n:Int),(fx:Int),on,((n-1:Nat):Int),flo i (shapG v n fx on),(i:Int),0,()),(((canQ 0).1.1,(canQ 0).1.2,(canQ 0).2,()),(d,st,sm,f,()),())))
     ⟨d,st,sm,f,by rw[hs];rfl,hT⟩ (by omega) (by
     rintro S w hS ⟨d,st,sm,f,rfl,hT⟩
     have c0:(S:Int)<((2 ^ n:Nat):Int):=by omega
     have c1:¬ (i:Int)=(fx:Int):=by omega
     have c2:(fx:Int)≥0:=by omega
     have c3:(0:Int)≤(S:Int):=by omega
     have hin:=in15_ok (S:=S) (f:=i) (by omega) (by omega)
     have hin2:=in15_ok (S:=S) (f:=fx) (by omega) (by omega)
     have en:s (S+1)=s S+shapGT v n fx on i S:=by rw[hs];rfl
     cases hb:S.testBit i with
     | true =>
      refine⟨_,⟨d,st,sm,f,rfl,hT⟩,fun g=>?_⟩
      have:s (S+1)=s S:=by rw[en,shapGT,hb,if_pos rfl,Rat.add_zero]
      rw[dendronlaw15_Shapley_s11,two_ok (by omega),bS0,cnd c0,decide_eq_false c1,Bool.not_false,cond_true,hin,bS0,hb,cond_true,iadd1 (by omega),this]
      rfl
     | false =>
      by_cases ho:S.testBit fx=on
      · have hlt := bit_add_lt hb hS hi
        have hi2:2 ^ i≤2 ^ 12:=Nat.pow_le_pow_right (by decide) (by omega)
        have hi2:2 ^ i≤4096:=hi2
        have hp:popc n S-on01 on<n-1:=by
         cases on with
         | true =>
          have:=popc_lt hi hb
          have:=popc_pos hx ho
          show popc n S-1<n-1;omega
         | false =>
          have:=popc_two hi hx hif hb ho
          show popc n S-0<n-1;omega
        have hW:=Weight_ok hT hp (by omega)
        have hT':=tab1 sm
        have hix:iadd .i64 (S:Int) ((2 ^ i:Nat):Int)=((S+2 ^ i:Nat):Int):=iadd_nat (by omega)
        have m1:=ratio_Sub_ok ((hv _ hlt).sm (by omega)) ((hv S hS).sm (by omega))
        rw[rv_canQ,rv_canQ] at m1
        have m2:=ratio_Mul_ok ((wq_sz hp (by omega)).sm (by decide)) (((hv _ hlt).sub (hv S hS)).sm (by omega))
        rw[rv_canQ,rv_canQ] at m2
        have hz:SzQ (wq (popc n S-on01 on) (n-1)*(v (S+2 ^ i)-v S)) 100000000:=((wq_sz hp (by omega)).mul ((hv _ hlt).sub (hv S hS))).mono (by omega)
        have m3:=ratio_Add_ok ((ssz S (by omega)).sm (by decide)) (hz.sm (by decide))
        rw[rv_canQ,rv_canQ] at m3
        have hgt:shapGT v n fx on i S=wq (popc n S-on01 on) (n-1)*(v (S+2 ^ i)-v S):=by
         rw[shapGT,hb,if_neg (by decide),if_pos ho]
        refine⟨_,⟨1,0,sm,facts,rfl,hT'⟩,fun g=>?_⟩
        have hbe:(!(S.testBit fx == on))=false:=by rw[ho];cases on<;>rfl
        have ple:=popc_le n S
        rw[dendronlaw15_Shapley_s11,two_ok (by omega),bS0,cnd c0,decide_eq_false c1,Bool.not_false,cond_true,hin,bS0,hb,cond_false,cnd c2,hin2,bS0,hbe,cond_false,size15_ok (by omega) (by omega),bS0,cnd c2]
        cases on with
        | true =>
         have hpp:=popc_pos hx ho
         have hi1:isub .i64 ((popc n S:Nat):Int) 1=((popc n S-on01 true:Nat):Int):=by
          rw[isub_i (by omega) (by omega)]
          show _=((popc n S-1:Nat):Int)
          omega
         rw[cond_true,hi1,hW,bS0,two_ok (by omega),bS0,hix,cnd (Int.natCast_nonneg _),tN0,hL _ hlt,bS0,cnd c3,tN0,hL S hS,bS0,m1,bS0,m2,bS0]
         show(ratio_Add (canQ (s S)) _).bind _=_
         rw[m3,bS0,iadd1 (by omega),en,hgt]
         rfl
        | false =>
         have hW:weigh_Table_Weight ((popc n S:Nat):Int) ((n-1:Nat):Int) d st sm f=_:=hW
         rw[cond_false,hW,bS0,two_ok (by omega),bS0,hix,cnd (Int.natCast_nonneg _),tN0,hL _ hlt,bS0,cnd c3,tN0,hL S hS,bS0,m1,bS0,m2,bS0]
         show(ratio_Add (canQ (s S)) _).bind _=_
         rw[m3,bS0,iadd1 (by omega),en,hgt]
         rfl
      · refine ⟨_, ⟨d, st, sm, f, rfl, hT⟩, fun g => ?_⟩
        have hbe:(!(S.testBit fx == on))=true:=by
         cases h1:S.testBit fx<;>cases on<;>simp_all
        have:s (S+1)=s S:=by
         rw[en,shapGT,hb,if_neg (by decide),if_neg ho,Rat.add_zero]
        rw[dendronlaw15_Shapley_s11,two_ok (by omega),bS0,cnd c0,decide_eq_false c1,Bool.not_false,cond_true,hin,bS0,hb,cond_false,cnd c2,hin2,bS0,hbe,cond_true,iadd1 (by omega),this]
        rfl) (by
     rintro w ⟨d,st,sm,f,rfl,hT⟩
     refine⟨_,⟨d,st,sm,f,rfl,hT⟩,fun g=>?_⟩
     rw[dendronlaw15_Shapley_s11,two_ok (by omega),bS0,cnd' (by omega)])
    refine⟨_,⟨d',st',sm',f',rfl,hT'⟩,fun g=>?_⟩
    rw[dendronlaw15_Shapley_s7,cnd d0,ratio_Zero_ok,bS0,e,hr,bS0]
    dsimp only
    rw[blt (by rw[flo_len];omega),cond_true,iadd1 (by omega),fin]
    have:shapG v n fx on i=s (2 ^ n):=by rw[shapG,if_neg hif,hs]
    rw[this];rfl) (by
  rintro w ⟨d,st,sm,f,rfl,hT⟩
  refine⟨_,⟨d,st,sm,f,rfl⟩,fun g=>?_⟩
  rw[dendronlaw15_Shapley_s7,cnd' (by omega)])
 have i1:isub .i64 (n:Int) 1=((n-1:Nat):Int):=by rw[isub_i (by omega) (by omega)];omega
 rw[dendronlaw15_Shapley,hN,bS0,cnd (by omega),i1]
 dsimp only
 rw[e,hr];rfl
theorem ask_of {m:MODEL} {row:List CELL} {b:Bool} (hb:b=true ↔ Good m) (ms:MSz m 4) (ml:m.2.length≤3) (mt:∀ t∈m.2,t.length≤15) (cs:CSz row 9) (he:whyR b m row=0):Askd m row:=by
 have hbt:b=true:=by cases b with
  | true=>rfl
  | false=>exact absurd he (by rw[whyR,if_neg (by decide)];decide)
 subst hbt
 have hlen:(row.length:Int)=m.1:=by
  apply Classical.byContradiction
  intro hn
  rw[whyR,if_pos rfl,if_neg hn] at he
  exact absurd he (by decide)
 exact⟨hb.1 rfl,hlen,ms,by omega,mt,cs⟩
theorem table_of {m:MODEL} {row:List CELL} (ha:Askd m row) (h6:m.1≤6):expect_Table m row=some (tabS m row (2 ^ row.length),0):=by
 have hT:=Table_ok ha (by omega)
 have:=ha.len
 rw[show m.1.toNat=row.length by omega] at hT
 exact hT
theorem Given15_bad {m:MODEL} {row:List CELL} {e fx:Int} {on:Bool} (h:route_Fits m row=some e) (he:e≠0):pathshap_Given m row fx on=some ([],e):=by
 rw[pathshap_Given,h,bS0,decide_eq_false he];rfl
theorem Given15_out {m:MODEL} {row:List CELL} {fx:Int} {on:Bool} (h:route_Fits m row=some 0) (hx:fx<0∨fx≥m.1):pathshap_Given m row fx on=some ([],8):=by
 rw[pathshap_Given,h,bS0,show(!decide ((0:Int)=0))=false by decide,cond_false]
 by_cases h1:fx<0
 · rw[cnd h1]
 · rw[cnd' h1,cnd (by omega)]
theorem Given15_ok {m:MODEL} {row:List CELL} {fx:Nat} {on:Bool} (h:route_Fits m row=some 0) (ha:Askd m row) (hx:(fx:Int)<m.1):pathshap_Given m row (fx:Int) on=some (flo row.length (pvals m row (fx:Int) on),0):=by
 rw[pathshap_Given,h,bS0,show(!decide ((0:Int)=0))=false by decide,cond_false,cnd' (by omega),cnd' (by omega),all15_ok ha];rfl
theorem PathshapGivens_true (m0:MODEL) (row0:List CELL) (fx:Int) (on:Bool) (hl:m0.2.length≤9223372036854775807) (ht:∀ t∈m0.2,t.length≤9223372036854775807) (hr:row0.length≤9223372036854775807):dendronlaw15_PathshapGivens m0 row0 fx on=some true:=by
 obtain⟨m,row,hs,ms,ml,mt,cs⟩:=Small_ok m0 row0 hl ht hr
 obtain⟨b,hv,hb⟩:=Ok_ok (m:=m) (by omega) (fun t h=>by have:=mt t h;omega) ms (by decide)
 obtain⟨r1,r2⟩:=whyR_ok hv row
 rw[dendronlaw15_PathshapGivens,hs,bS0]
 dsimp only
 rw[r2,bS0]
 by_cases he:whyR b m row=0
 · have ha := ask_of hb ms ml mt cs he
   rw[he] at r1
   rw[he,cnd rfl]
   by_cases h6:m.1>6
   · rw[cnd h6,law15_awake_ok];rfl
   · have hlen := ha.len
     rw[cnd' h6]
     by_cases h1:fx<0
     · rw [Given15_out r1 (.inl h1), bS0]
       dsimp only
       rw[cnd rfl,cnd h1,show(!decide ((8:Int)=0))=true by decide,cond_true,cnd (by simp),cnd rfl,law15_awake_ok]
       rfl
     · by_cases h2 : fx ≥ m.1
       · rw [Given15_out r1 (.inr h2), bS0]
         dsimp only
         rw[cnd rfl,cnd' h1,cnd h2,show(!decide ((8:Int)=0))=true by decide,cond_true,cnd (by simp),cnd rfl,law15_awake_ok]
         rfl
       · obtain ⟨k, hk⟩ : ∃ k : Nat, fx = (k : Int) := ⟨fx.toNat, by omega⟩
         subst hk
         have hkl:k<row.length:=by omega
         have hT:=table_of ha (by omega)
         have sz:∀ S,SzQ (sayM m row S) 4000000:=fun S=>(sayM_sz ha.good ha.ms ha.mt (Nat.le_refl _)).mono (by
          have:=Nat.mul_le_mul_right 1048577 (show m.2.length≤3 by omega);omega)
         have hS:dendronlaw15_Shapley (tabS m row (2 ^ row.length)) m.1 (k:Int) on=some (flo row.length (pvals m row (k:Int) on)):=by
          have e:flo row.length (shapG (sayM m row) row.length k on)=flo row.length (pvals m row (k:Int) on):=flo_congr fun f hf=>(pvals_given ha on hkl hf).symm
          rw[← hlen,← e]
          exact ShapleyG_ok (k:=4000000) (by omega) hkl (fun S hS=>tabS_get m row hS) (fun S _=>sz S) (by decide)
         have hA:=flo_same (n:=row.length) (o:=pvals m row (k:Int) on) (k:=1500000000) (fun f hf=>pvals_sz ha (k:Int) on hf) (by decide) (by omega)
         rw[Given15_ok r1 ha (by omega),bS0]
         dsimp only
         rw[cnd rfl,cnd' h1,cnd' h2,show(!decide ((0:Int)=0))=false by decide,cond_false,hT,bS0]
         dsimp only
         rw[cnd rfl,cnd rfl,hS,bS0,hA,bS0,cond_true,law15_awake_ok]
         rfl
 · rw [cnd' he, Given15_bad r1 he, bS0]
   dsimp only
   rw[cnd' he,decide_eq_false he,Bool.not_false,cond_true,cnd (by simp),cnd rfl,law15_awake_ok]
   rfl
end Go.Proofs.YtilflbimpjokjaaGreatDoor.X
