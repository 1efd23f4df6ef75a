/- Own work: part of the proof; the first line of each part says what it tells. -/
import Derived.Test.YthcpiofmhkhbeaaGreatDoorLa8


namespace Go.Proofs.YthcpiofmhkhbeaaGreatDoor.X
open Go
set_option linter.unusedVariables false
set_option linter.unusedSimpArgs false
theorem floSum_ok {n k:Nat} {w:Nat → Rat} (hw:∀ i,i < n → SzQ (w i) k) (hk:1 + n * (k + 1) < 1099511627776) (hn:n < 1000000):ratio_Sum (flo n w) = some (canQ (rsum w n)):=by
 have hv:∀ i,i < n → vals (flo n w) i = w i:=fun i hi=>by
  rw [vals,flo_get w hi]
  show rv (canQ (w i)) = w i
  exact rv_canQ _
 have h:=ratio_Sum_ok (l:=flo n w) (k:=k) (fun x hx=>by
  obtain ⟨i,hi,rfl⟩:=List.mem_map.1 hx
  have hi:=List.mem_range.1 hi
  refine (hw i hi).sm ?_
  have:1 * (k + 1) ≤ n * (k + 1):=Nat.mul_le_mul_right _ (by omega)
  omega) (fun i hi=>by rw [flo_len] at hi;rw [hv i hi];exact hw i hi) (by rw [flo_len];exact hk) (by rw [flo_len];omega)
 rw [h,flo_len]
 congr 2
 exact rsum_congr fun i hi=>hv i hi
def sumP (P:List AP) (a:Nat):Rat:=rsum (wtP (outP1 P a)) P.length
theorem outW_sz {P:List AP} {k g:Nat} (h:PathP P k g) (hk:k ≤ 70) {a:Nat} (ha:a < P.length):∀ i,i < P.length → SzQ (wtP (outP1 P a) i) (30 + ekS k (outP1 P a).length):=fun i hi=>by
 have:=outP1_len ha
 exact wtP_sz (h.out ha).sz (h.out ha).len (by omega)
theorem Sum15_ok {P:List AP} {k g:Nat} (h:PathP P k g) (hk:k ≤ 70) {a:Nat} (ha:a < P.length) :
  pathshap_Path_Sum ((a + 1:Nat):Int) (encK P (wtP P)) = some (canQ (sumP P a),0,encK P (wtP P)):=by
 have el:=encK_len P (wtP P)
 have hl2:=h.len
 have hS2:=ekS_le (k:=k) (n:=(outP1 P a).length) hk (h.out ha).len
 have hs:=floSum_ok (n:=P.length) (w:=wtP (outP1 P a)) (k:=100000000) (fun i hi=>(outW_sz h hk ha i hi).mono (by omega)) (by omega) (by omega)
 rw [pathshap_Path_Sum,el,cnd' (by omega),cnd' (by omega),cnd' (by omega),without_ok h hk ha,Option.bind_some]
 dsimp only
 rw [hs];rfl
theorem encK_out {P:List AP} {w:Nat → Rat} {a:Nat} (ha:a < P.length):(encK P w).take (a + 1) ++ (encK P w).drop (a + 2) = encK (outP1 P a) fun j=>if j ≤ a then w j else w (j + 1):=by
 have el:=encK_len P w
 have hl:=outP1_len ha
 have ho:∀ j,(outP1 P a)[j]? = if j < a then P[j]? else P[j + 1]?:=fun j=>by
   unfold outP1
   by_cases hj:j < a
   · rw [if_pos hj,List.getElem?_append_left (by rw [List.length_take];omega),List.getElem?_take,if_pos hj]
   · rw [if_neg hj, List.getElem?_append_right (by rw [List.length_take]; omega), List.length_take, Nat.min_eq_left (by omega), List.getElem?_drop]
     congr 1;omega
 refine List.ext_getElem? fun j=>?_
 by_cases hj:j < a + 1
 · rw [List.getElem?_append_left (by rw [List.length_take]; omega), List.getElem?_take, if_pos hj, encK_get (by omega), encK_get (by omega)]
   unfold lkF
   split
   · rename_i e;subst e;simp
   · have e1 : (outP1 P a)[j - 1]? = P[j - 1]? := by rw [ho, if_pos (by omega)]
     have e2:(if j ≤ a then w j else w (j + 1)) = w j:=if_pos (by omega)
     simp only [e1,e2]
 · rw [List.getElem?_append_right (by rw [List.length_take]; omega), List.length_take, Nat.min_eq_left (by omega), List.getElem?_drop, show a + 2 + (j - (a + 1)) = j + 1 by omega]
   by_cases hj2:j + 1 < P.length + 1
   · rw [encK_get hj2, encK_get (by omega)]
     unfold lkF
     have e1:(outP1 P a)[j - 1]? = P[j]?:=by rw [ho,if_neg (by omega)];congr 1;omega
     have e2:(if j ≤ a then w j else w (j + 1)) = w (j + 1):=if_neg (by omega)
     rw [if_neg (by omega),if_neg (by omega)]
     simp only [e1,e2,Nat.add_sub_cancel]
   · rw [List.getElem?_eq_none (by omega),List.getElem?_eq_none (by rw [encK_len];omega)]
theorem Unwind_ok {P:List AP} {k g:Nat} (h:PathP P k g) (hk:k ≤ 70) {a:Nat} (ha:a < P.length) :
  pathshap_Path_Unwind ((a + 1:Nat):Int) (encK P (wtP P)) = some (0,encK (outP1 P a) (wtP (outP1 P a))):=by
 have el:=encK_len P (wtP P)
 have hl2:=h.len
 have hl:=outP1_len ha
 obtain ⟨Q,eQ⟩:∃ Q,Q = outP1 P a:=⟨_,rfl⟩
 have eo:=encK_out (w:=wtP P) ha
 rw [← eQ] at eo hl
 obtain ⟨w0,hw0⟩:∃ w0:Nat → Rat,w0 = fun j=>if j ≤ a then wtP P j else wtP P (j + 1):=⟨_,rfl⟩
 rw [← hw0] at eo
 obtain ⟨F,eF⟩:∃ F,F = flo P.length (wtP Q):=⟨_,rfl⟩
 have lF:F.length = P.length:=by rw [eF,flo_len]
 have lQ:∀ w,(encK Q w).length = P.length:=fun w=>by rw [encK_len];exact hl
 have key:=lp_up (step:=pathshap_Path_Unwind_s8) (fun i=>((F,encK Q (fun j=>if j < i then wtP Q j else w0 j),((P.length:Nat):Int),(i:Int),()),((encK P (wtP P),()),()))) P.length
  (r:=((encK Q (fun j=>if j < P.length then wtP Q j else w0 j),()),((encK P (wtP P),()),()))) (by omega) (by
  intro gg i hi
  have d0:(i:Int) < ((P.length:Nat):Int):=by omega
  have d1:(0:Int) ≤ (i:Int):=by omega
  have d2:(i:Int) < (F.length:Int):=by rw [lF];exact d0
  have d3:(i:Int) < ((encK Q (fun j=>if j < i then wtP Q j else w0 j)).length:Int):=by rw [lQ];exact d0
  have g1:F[i]? = some (canQ (wtP Q i)):=by rw [eF];exact flo_get _ hi
  have g2:=encK_get (P:=Q) (w:=fun j=>if j < i then wtP Q j else w0 j) (i:=i) (by omega)
  have u:=encK_set (P:=Q) (w:=fun j=>if j < i then wtP Q j else w0 j) (i:=i) (wtP Q i)
  have e:encK Q (fun j=>if j = i then wtP Q i else if j < i then wtP Q j else w0 j) = encK Q (fun j=>if j < i + 1 then wtP Q j else w0 j):=by
   refine encK_congr fun j _=>?_
   by_cases e1:j = i
   · rw [if_pos e1,if_pos (by omega),e1]
   · rw [if_neg e1]
     by_cases e2:j < i
     · rw [if_pos e2,if_pos (by omega)]
     · rw [if_neg e2,if_neg (by omega)]
  rw [pathshap_Path_Unwind_s8,cnd d0,cnd2 d1 d2,Int.toNat_natCast,g1,Option.bind_some,cnd2 d1 d3,g2,Option.bind_some,u,e,iadd1 (by omega)]
  rfl) (by
  intro gg
  rw [pathshap_Path_Unwind_s8,cnd' (by omega)])
 have e0:encK Q (fun j=>if j < 0 then wtP Q j else w0 j) = encK Q w0:=encK_congr fun j _=>if_neg (by omega)
 have e1:encK Q (fun j=>if j < P.length then wtP Q j else w0 j) = encK Q (wtP Q):=encK_congr fun j hj=>if_pos (by omega)
 rw [e0,e1] at key
 have key:lp pathshap_Path_Unwind_s8 K0 ((F,encK Q w0,((P.length:Nat):Int),0,()),((encK P (wtP P),()),())) = some ((encK Q (wtP Q),()),((encK P (wtP P),()),())):=key
 have i1:iadd .i64 ((a + 1:Nat):Int) 1 = ((a + 2:Nat):Int):=iadd1 (by omega)
 have hw:=without_ok h hk ha
 rw [← eQ,← eF] at hw
 have t1:(((a + 1:Nat):Int) - 0).toNat = a + 1:=by omega
 have t2:(((a + 2:Nat):Int)).toNat = a + 2:=by omega
 have c1:(decide ((0:Int) ≤ ((a + 1:Nat):Int)) && decide ((((a + 1:Nat):Int):Int) ≤ ((a + 1:Nat):Int)) && decide ((((a + 1:Nat):Int):Int) ≤ ((P.length + 1:Nat):Int))) = true:=by
  simp only [Bool.and_eq_true,decide_eq_true_eq];omega
 rw [pathshap_Path_Unwind,el,cnd' (by omega),cnd' (by omega),cnd' (by omega),hw,Option.bind_some]
 dsimp only
 rw [el,c1,cond_true,t1,blt (by rw [List.length_take,el];simp;omega),cond_true,i1,cnd2 (by omega) (by omega),t2,List.nil_append,blt (by rw [List.length_take,List.length_drop,el];omega),cond_true,eo,lQ,key,eQ]
 rfl
theorem along_new {f:Nat} {q:Rat} {ok:Bool} {w:List AP} (h:∀ p ∈ w,p.1 ≠ f):(along f q ok w).Perm ((f,q,ok) :: w):=by
 induction w with
 | nil=>exact List.Perm.refl _
 | cons p w ih =>
  have h1:p.1 ≠ f:=h p List.mem_cons_self
  have ih:=ih fun x hx=>h x (List.mem_cons_of_mem _ hx)
  simp only [along]
  split
  · exact (List.Perm.cons _ ih).trans (List.Perm.swap _ _ _)
  · first | exact List.Perm.refl _ | (rw [if_neg h1])
theorem along_old {f:Nat} {q s:Rat} {ok o:Bool} {w:List AP} (hs:SortA w) (hm:(f,s,o) ∈ w):∃ r:List AP,w.Perm ((f,s,o) :: r) ∧ (along f q ok w).Perm ((f,s * q,o && ok) :: r):=by
 induction w with
 | nil=>cases hm
 | cons p w ih =>
  have hs2:=List.pairwise_cons.1 hs
  rcases List.mem_cons.1 hm with e | hm
  · subst e
    refine ⟨w,List.Perm.refl _,?_⟩
    simp only [along]
    simp
  · obtain ⟨r, h1, h2⟩ := ih hs2.2 hm
    have hlt:p.1 < f:=hs2.1 _ hm
    refine ⟨p :: r,(List.Perm.cons _ h1).trans (List.Perm.swap _ _ _),?_⟩
    simp only [along]
    rw [if_pos hlt]
    exact (List.Perm.cons _ h2).trans (List.Perm.swap _ _ _)
theorem find_ix {P:List AP} {f:Nat}:(∀ p ∈ P,p.1 ≠ f) ∨ ∃ a,∃ ha:a < P.length,P[a].1 = f ∧ ∀ j (hj:j < P.length),j < a → P[j].1 ≠ f:=by
 induction P with
 | nil=>exact .inl (by simp)
 | cons p P ih =>
  by_cases e:p.1 = f
  · exact .inr ⟨0,by simp,e,fun j _ hj=>by omega⟩
  · rcases ih with h | ⟨a, ha, h1, h2⟩
    · exact .inl fun x hx=>by rcases List.mem_cons.1 hx with rfl | hx;exact e;exact h x hx
    · refine .inr ⟨a + 1, by simpa using ha, by simpa using h1, fun j hj hja => ?_⟩
      cases j with
      | zero=>exact e
      | succ j=>simpa using h2 j (by simpa using hj) (by omega)
theorem PathP.mono {P:List AP} {k k' g:Nat} (h:PathP P k g) (hk:k ≤ k'):PathP P k' g:=⟨h.nd,fun p hp=>(h.sz p hp).mono hk,h.len,h.lt,h.pos⟩
theorem PathP.snoc {P:List AP} {k g:Nat} (h:PathP P k g) {f:Nat} {q:Rat} {ok:Bool} (hf:∀ p ∈ P,p.1 ≠ f) (hq:SzQ q k) (hq0:0 < q) (hl:P.length < 20) (hfg:f < g):PathP (P ++ [(f,q,ok)]) k g:=by
 have hp:(P ++ [((f,q,ok):AP)]).Perm ((f,q,ok) :: P):=List.perm_append_comm.trans (List.Perm.refl _)
 have hmem:∀ p ∈ P ++ [((f,q,ok):AP)],p = (f,q,ok) ∨ p ∈ P:=fun p hp=>by
   rcases List.mem_append.1 hp with h | h
   · exact .inr h
   · exact .inl (List.mem_singleton.1 h)
 refine ⟨?_,fun p hp=>?_,by rw [List.length_append];simp;omega,fun p hp=>?_,fun p hp=>?_⟩
 · rw [(hp.map (·.1)).nodup_iff]
   refine List.nodup_cons.2 ⟨fun hm=>?_,h.nd⟩
   obtain ⟨p,hp,e⟩:=List.mem_map.1 hm
   exact hf p hp e
 · rcases hmem p hp with rfl | h'
   · exact hq
   · exact h.sz p h'
 · rcases hmem p hp with rfl | h'
   · exact hfg
   · exact h.lt p h'
 · rcases hmem p hp with rfl | h'
   · exact hq0
   · exact h.pos p h'
theorem join_ok {P w:List AP} {m g:Nat} (h:PathP P (8 * m + 1) g) (hw:P.Perm w) (hs:SortA w) {f:Nat} {q:Rat} {ok:Bool} (hf:f < g) (hg:g < 1000000) (hq:SzQ q 8) (hq0:0 < q) (hl:P.length ≤ m) (hm:m < 8)
   (at0:Int) (b1:Bool) (b2 b3:List Int) :
   ∃ P',P'.Perm (along f q ok w) ∧ PathP P' (8 * (m + 1) + 1) g ∧ P'.length ≤ m + 1 ∧
     pathshap_place_join at0 b1 b2 b3 (f:Int) (canQ q).1.1 (canQ q).1.2 (canQ q).2 ok (encK P (wtP P)) = some (at0,b1,b2,b3,(f:Int),(canQ q).1.1,(canQ q).1.2,(canQ q).2,ok,encK P' (wtP P')):=by
 have c0:¬ (f:Int) < 0:=by omega
 rcases find_ix (P:=P) (f:=f) with hn | ⟨a,ha,he,hn⟩
 · have h1 := h.mono (show 8 * m + 1 ≤ 8 * (m + 1) + 1 by omega)
   have hq1:=hq.mono (show 8 ≤ 8 * (m + 1) + 1 by omega)
   refine ⟨P ++ [(f,q,ok)],?_,h1.snoc hn hq1 hq0 (by omega) hf,by rw [List.length_append];simp;omega,?_⟩
   · have hn2 : ∀ p ∈ w, p.1 ≠ f := fun p hp => hn p (hw.symm.mem_iff.1 hp)
     have:(P ++ [((f,q,ok):AP)]).Perm ((f,q,ok) :: P):=List.perm_append_comm.trans (List.Perm.refl _)
     exact (this.trans (List.Perm.cons _ hw)).trans (along_new hn2).symm
   · have he := Extend_ok h1 (f := f) (q := q) (ok := ok) hn hq1 hq0 (by omega) (by omega) (by omega)
     rw [pathshap_place_join,cnd' c0,Find_not hn (by omega),Option.bind_some]
     dsimp only
     rw [cnd' (by omega)]
     show (pathshap_Path_Extend (f:Int) (canQ q) ok (encK P (wtP P))).bind _ = _
     rw [he];rfl
 · have ho := (h.out ha).mono (show 8 * m + 1 ≤ 8 * (m + 1) + 1 by omega)
   have hno:=h.notin ha
   rw [he] at hno
   have hz:SzQ P[a].2.1 (8 * m + 1):=h.sz _ (List.getElem_mem ha)
   have hz0:0 < P[a].2.1:=h.pos _ (List.getElem_mem ha)
   have hq1:SzQ (q * P[a].2.1) (8 * (m + 1) + 1):=(hq.mul hz).mono (by omega)
   have hqz:0 < q * P[a].2.1:=Rat.mul_pos hq0 hz0
   have hol:=outP1_len ha
   have hm1:=ratio_Mul_ok (hq.sm (by omega)) (hz.sm (by omega))
   rw [rv_canQ,rv_canQ] at hm1
   have hm1:ratio_Mul (((canQ q).1.1,(canQ q).1.2),(canQ q).2) (canQ P[a].2.1) = some (canQ (q * P[a].2.1)):=hm1
   refine ⟨outP1 P a ++ [(f,q * P[a].2.1,P[a].2.2 && ok)],?_,ho.snoc hno hq1 hqz (by omega) hf,by rw [List.length_append];simp;omega,?_⟩
   · have hmem : (f, P[a].2.1, P[a].2.2) ∈ w := by
      have:(P[a]:AP) = (f,P[a].2.1,P[a].2.2):=by rw [← he]
      rw [← this]
      exact hw.mem_iff.1 (List.getElem_mem ha)
     obtain ⟨r,r1,r2⟩:=along_old (q:=q) (ok:=ok) hs hmem
     have e1:(P[a]:AP) = (f,P[a].2.1,P[a].2.2):=by rw [← he]
     have p1:((f,P[a].2.1,P[a].2.2) :: outP1 P a).Perm ((f,P[a].2.1,P[a].2.2) :: r):=by
      have:=outP1_perm ha
      rw [e1] at this
      exact (this.symm.trans hw).trans r1
     have p2:=List.Perm.cons_inv p1
     have p3:(outP1 P a ++ [((f,q * P[a].2.1,P[a].2.2 && ok):AP)]).Perm ((f,q * P[a].2.1,P[a].2.2 && ok) :: outP1 P a):=List.perm_append_comm.trans (List.Perm.refl _)
     refine (p3.trans ?_).trans r2.symm
     rw [Rat.mul_comm]
     exact List.Perm.cons _ p2
   · have hE := Extend_ok ho (f := f) (q := q * P[a].2.1) (ok := P[a].2.2 && ok) hno hq1 hqz (by omega) (by omega) (by omega)
     have hU:=Unwind_ok h (by omega) ha
     have c1:((a + 1:Nat):Int) > 0:=by omega
     have i1:isub .i64 ((a + 1:Nat):Int) 1 = (a:Int):=by rw [isub_i (by omega) (by omega)];omega
     have d1:(0:Int) ≤ (a:Int):=by omega
     have d2:(a:Int) < ((encW P).length:Int):=by rw [encW_len];omega
     have g1:(encW P)[a]? = some (encP P[a]):=by simp [encW,ha]
     rw [pathshap_place_join,cnd' c0,Find_at ha he hn (by omega),Option.bind_some]
     dsimp only
     rw [cnd c1,Parts15_ok (by omega),Option.bind_some,i1]
     dsimp only
     rw [cnd2 d1 d2,Int.toNat_natCast,g1,Option.bind_some]
     show (ratio_Mul (((canQ q).1.1,(canQ q).1.2),(canQ q).2) (canQ P[a].2.1)).bind _ = _
     rw [hm1,Option.bind_some]
     cases ok with
     | true =>
      rw [Bool.and_true] at hE ⊢
      rw [cond_true,hU,Option.bind_some]
      dsimp only
      show (pathshap_Path_Extend (f:Int) (canQ (q * P[a].2.1)) P[a].2.2 _).bind _ = _
      rw [hE];rfl
     | false =>
      rw [Bool.and_false] at hE ⊢
      rw [cond_false,hU,Option.bind_some]
      dsimp only
      rw [hE];rfl
def lfT (P:List AP) (v:Rat) (f i:Nat):Rat:=match P[i]? with
 | some p=>if p.1 = f then sumP P i * (one0 p.2.2 - p.2.1) * v else 0
 | none=>0
def lfAdd (P:List AP) (v:Rat) (f:Nat):Rat:=rsum (lfT P v f) P.length
theorem lfT_at {P:List AP} {v:Rat} {f i:Nat} (h:i < P.length):lfT P v f i = if P[i].1 = f then sumP P i * (one0 P[i].2.2 - P[i].2.1) * v else 0:=by
 simp only [lfT,List.getElem?_eq_getElem h]
def apF (p:AP):FP:=(p.1,fcP p)
theorem reachA_prod (P:List AP) (S:Nat):reachA S P = prodP (P.map apF) S:=by
 unfold reachA prodP
 rw [List.map_map]
 congr 1
theorem sumP_EE {P:List AP} {a:Nat} (h:a < P.length):sumP P a = EE ((outP1 P a).map fcP) fun k=>wq k ((outP1 P a).length + 1):=by
 have hl:=outP1_len h
 rw [EE_rsum,List.length_map,hl]
 unfold sumP
 refine rsum_congr fun i _=>?_
 unfold wtP ekP
 rw [Rat.mul_comm,hl]
theorem reachA_perm {P Q:List AP} (h:P.Perm Q) (S:Nat):reachA S P = reachA S Q:=lprod_perm (h.map _)
theorem lfAdd_shap {P:List AP} {k n f:Nat} (h:PathP P k n) (hf:f < n) (v:Rat):lfAdd P v f = shapQ (fun S=>reachA S P * v) n f:=by
 rw [shapQ_mul]
 rcases find_ix (P:=P) (f:=f) with hn | ⟨a,ha,he,_⟩
 · have e1 : shapQ (fun S => reachA S P) n f = 0 := by
    have:(fun S=>reachA S P) = prodP (P.map apF):=funext fun S=>reachA_prod P S
    rw [this]
    refine shap_none fun hm=>?_
    rw [List.map_map] at hm
    obtain ⟨p,hp,e⟩:=List.mem_map.1 hm
    exact hn p hp e
   rw [e1,Rat.zero_mul]
   refine rsum_zeros fun i hi=>?_
   rw [lfT_at hi,if_neg (hn _ (List.getElem_mem hi))]
 · have hno := h.notin ha
   rw [he] at hno
   have ho:=h.out ha
   have e1:shapQ (fun S=>reachA S P) n f = (one0 P[a].2.2 - P[a].2.1) * sumP P a:=by
    have e2:(fun S=>reachA S P) = fun S=>pick (fcP P[a]) (S.testBit f) * prodP ((outP1 P a).map apF) S:=funext fun S=>by
      rw [reachA_perm (outP1_perm ha) S]
      show facP S P[a] * reachA S (outP1 P a) = _
      rw [reachA_prod,← he]
      rfl
    rw [e2,shap_prod hf (by rw [List.map_map];exact ho.nd) (fun p hp=>by
      obtain ⟨x,hx,rfl⟩:=List.mem_map.1 hp
      exact ho.lt x hx) (fun hm=>by
      rw [List.map_map] at hm
      obtain ⟨p,hp,e⟩:=List.mem_map.1 hm
      exact hno p hp e),sumP_EE ha]
    rw [List.map_map,List.length_map]
    rfl
   rw [e1]
   have hone:∀ i,i < P.length → i ≠ a → lfT P v f i = 0:=fun i hi hne=>by
    rw [lfT_at hi]
    refine if_neg fun e=>hne ?_
    have hnd:=h.nd
    have hpw:=List.pairwise_iff_getElem.1 (show (P.map (·.1)).Pairwise (· ≠ ·) from hnd)
    rcases Nat.lt_trichotomy i a with hlt | heq | hlt
    · have h5 := hpw i a (by simpa using hi) (by simpa using ha) hlt
      simp [e,he] at h5
    · exact heq
    · have h5 := hpw a i (by simpa using ha) (by simpa using hi) hlt
      simp [e,he] at h5
   have key:∀ n,n ≤ P.length → rsum (lfT P v f) n = if a < n then lfT P v f a else 0:=by
    intro n
    induction n with
    | zero=>intro _;rw [if_neg (by omega)];rfl
    | succ n ih =>
      intro hn
      rw [rsum,ih (by omega)]
      by_cases e:n = a
      · subst e;rw [if_neg (by omega),if_pos (by omega),Rat.zero_add]
      · rw [hone n (by omega) e, Rat.add_zero]
        by_cases h1:a < n
        · rw [if_pos h1,if_pos (by omega)]
        · rw [if_neg h1,if_neg (by omega)]
   unfold lfAdd
   rw [key _ (Nat.le_refl _),if_pos ha,lfT_at ha,if_pos he]
   grind
theorem ekS8 {k n:Nat} (hk:k ≤ 70) (hn:n ≤ 8):ekS k n ≤ 20000:=by
 have h1:=ekS_mono k hn
 have h2:ekS k 8 ≤ ekS 70 8:=by
  have:∀ n,ekS k n ≤ ekS 70 n:=by
   intro n
   induction n with
   | zero=>exact Nat.le_refl _
   | succ n ih=>simp only [ekS];omega
  exact this 8
 have h3:ekS 70 8 ≤ 20000:=by decide +kernel
 omega
theorem rsum_szQ {f:Nat → Rat} {k:Nat}:∀ n,(∀ i,i < n → SzQ (f i) k) → SzQ (rsum f n) (1 + n * (k + 1)):=by
 intro n
 induction n with
 | zero=>intro _;exact SzQ.zero.mono (by omega)
 | succ n ih =>
  intro h
  have h1:=ih fun i hi=>h i (by omega)
  have e:(n + 1) * (k + 1) = n * (k + 1) + (k + 1):=Nat.succ_mul _ _
  exact (h1.add (h n (by omega))).mono (by omega)
theorem sumP_sz {P:List AP} {k g a:Nat} (h:PathP P k g) (hk:k ≤ 70) (hl:P.length ≤ 8) (ha:a < P.length):SzQ (sumP P a) 170000:=by
 have hS:=ekS8 (k:=k) (n:=(outP1 P a).length) hk (by have:=outP1_len ha;omega)
 have:=rsum_szQ (k:=20030) P.length (fun i hi=>(outW_sz h hk ha i hi).mono (by omega))
 refine this.mono ?_
 have:P.length * (20030 + 1) ≤ 8 * (20030 + 1):=Nat.mul_le_mul_right _ hl
 omega
theorem lfT_sz {P:List AP} {k g:Nat} {v:Rat} (h:PathP P k g) (hk:k ≤ 70) (hl:P.length ≤ 8) (hv:SzQ v 200) (f:Nat) {i:Nat} (hi:i < P.length):SzQ (lfT P v f i) 180000:=by
 rw [lfT_at hi]
 split
 · have h1 := sumP_sz h hk hl hi
   have h2:SzQ P[i].2.1 k:=h.sz _ (List.getElem_mem hi)
   have h3:=(one0_sz P[i].2.2).sub h2
   exact ((h1.mul h3).mul hv).mono (by omega)
 · exact SzQ.zero.mono (by omega)
theorem leaf_ok {t:List NODE} {row:List CELL} {fx:Int} {on:Bool} {n k:Nat} {P:List AP} (h:PathP P k n) (hk:k ≤ 70) (hl:P.length ≤ 8) {i:Nat} (hi:i < t.length) {gn:Rat} (hg:SzQ gn 100) (hs:TSz t 4)
  {o:Nat → Rat} (ho:∀ f,f < n → SzQ (o f) 100000000000) (hn:n < 1000000) (a4:Int) (a5:Bool) (a6 a7:List Int) (a8:Bool) :
  pathshap_walker_leaf (i:Int) (canQ gn).1.1 (canQ gn).1.2 (canQ gn).2 a4 a5 a6 a7 a8 t row fx on (flo n o) (encK P (wtP P)) =
   some (flo n (fun f=>o f + lfAdd P (gn * rv (nVal (nodeAt t i))) f),t,row,fx,on,encK P (wtP P)):=by
 obtain ⟨v,hv⟩:∃ v,v = gn * rv (nVal (nodeAt t i)):=⟨_,rfl⟩
 have zv:=(hs.at hi).2.1
 have m0:=ratio_Mul_ok (a:=canQ gn) (b:=nVal (nodeAt t i)) (hg.sm (by decide)) (zv.sm (by decide))
 rw [rv_canQ,← hv] at m0
 have vsz:SzQ v 200:=by rw [hv];exact (hg.mul (zv.szQ (by decide))).mono (by decide)
 rw [← hv]
 have key:=lp_up (step:=pathshap_walker_leaf_s3) (fun j=>((encW P,(P.length:Int),(j:Int),()),(((i:Int),(canQ gn).1.1,(canQ gn).1.2,(canQ gn).2,a4,a5,a6,a7,a8,()),((canQ v).1.1,(canQ v).1.2,(canQ v).2,()),(t,row,fx,on,flo n (fun f=>o f + rsum (lfT P v f) j),()),(encK P (wtP P),()),()))) P.length
  (r:=((),((t,row,fx,on,flo n (fun f=>o f + rsum (lfT P v f) P.length),()),(encK P (wtP P),()),()))) (by omega) (by
  intro g j hj
  have d0:(j:Int) < (P.length:Int):=by omega
  have d1:(0:Int) ≤ (j:Int):=by omega
  have d2:(j:Int) < ((encW P).length:Int):=by rw [encW_len];exact d0
  have g1:=encW_get hj
  have q1:iadd .i64 (j:Int) 1 = ((j + 1:Nat):Int):=iadd1 (by omega)
  have s1:=Sum15_ok h hk hj
  have zp:SzQ P[j].2.1 k:=h.sz _ (List.getElem_mem hj)
  have n1:=ratio_Neg_ok (zp.sm (by omega))
  rw [rv_canQ] at n1
  have hfl:P[j].1 < n:=h.lt _ (List.getElem_mem hj)
  obtain ⟨F,hF⟩:∃ F,F = P[j].1:=⟨_,rfl⟩
  rw [← hF] at hfl
  have zn:SzQ (-P[j].2.1) (k + 4):=by
   have:=SzQ.zero.sub zp
   rw [Rat.sub_eq_add_neg,Rat.zero_add] at this
   exact this.mono (by omega)
  have c1:(0:Int) ≤ ((F:Nat):Int):=by omega
  have c2:((F:Nat):Int) < ((flo n (fun f=>o f + rsum (lfT P v f) j)).length:Int):=by rw [flo_len];omega
  have g2:=flo_get (n:=n) (f:=F) (fun f=>o f + rsum (lfT P v f) j) hfl
  have zs:=sumP_sz h hk hl hj
  have zr:SzQ (o F + rsum (lfT P v F) j) 100010000000:=by
   have h1:SzQ (rsum (lfT P v F) j) (1 + j * (180000 + 1)):=rsum_szQ j (fun i hi=>lfT_sz h hk hl vsz F (by omega))
   have:j * (180000 + 1) ≤ 8 * (180000 + 1):=Nat.mul_le_mul_right _ (by omega)
   exact ((ho F hfl).add h1).mono (by omega)
  have hset:∀ x,x = o F + rsum (lfT P v F) (j + 1) → (flo n (fun f=>o f + rsum (lfT P v f) j)).set F (canQ x) = flo n (fun f=>o f + rsum (lfT P v f) (j + 1)):=fun x hx=>by
   refine flo_set hx.symm fun f hf=>?_
   rw [rsum,lfT_at hj,if_neg (by rw [← hF];exact fun e=>hf e.symm),Rat.add_zero]
  show pathshap_walker_leaf_s3 g ((encW P,(P.length:Int),(j:Int),()),_) = _
  rw [pathshap_walker_leaf_s3,cnd d0,cnd2 d1 d2,Int.toNat_natCast,g1,Option.bind_some,q1,s1,Option.bind_some]
  show (ratio_Neg (canQ P[j].2.1)).bind _ = _
  rw [n1,Option.bind_some]
  have e1:(encP P[j]).1 = (F:Int):=by rw [hF];rfl
  have e2:(encP P[j]).2.2 = P[j].2.2:=rfl
  rw [e1,e2]
  cases hok:P[j].2.2 with
  | true =>
   have a1:=ratio_Add_ok (SzQ.one.sm (by decide)) (zn.sm (by omega))
   rw [rv_canQ,rv_canQ,← Rat.sub_eq_add_neg] at a1
   have z1:SzQ (1 - P[j].2.1) 100:=(SzQ.one.sub zp).mono (by omega)
   have m1:=ratio_Mul_ok (zs.sm (by decide)) (z1.sm (by decide))
   rw [rv_canQ,rv_canQ] at m1
   have z2:SzQ (sumP P j * (1 - P[j].2.1)) 170100:=(zs.mul z1).mono (by omega)
   have m2:=ratio_Mul_ok (z2.sm (by decide)) (vsz.sm (by decide))
   rw [rv_canQ,rv_canQ] at m2
   have m2:ratio_Mul (canQ (sumP P j * (1 - P[j].2.1))) (((canQ v).1.1,(canQ v).1.2),(canQ v).2) = _:=m2
   have z3:SzQ (sumP P j * (1 - P[j].2.1) * v) 170300:=(z2.mul vsz).mono (by omega)
   have a2:=ratio_Add_ok (zr.sm (by decide)) (z3.sm (by decide))
   rw [rv_canQ,rv_canQ] at a2
   have hx:=hset (o F + rsum (lfT P v F) j + sumP P j * (1 - P[j].2.1) * v) (by
    rw [rsum,lfT_at hj,if_pos hF.symm,hok];simp only [one0,if_true];grind)
   rw [cond_true,ratio_One_ok,Option.bind_some,a1,Option.bind_some,cnd2 c1 c2,Int.toNat_natCast,g2,Option.bind_some,m1,Option.bind_some,m2,Option.bind_some,a2,Option.bind_some,cnd2 c1 c2,Option.bind_some,hx]
  | false =>
   have m1:=ratio_Mul_ok (zs.sm (by decide)) (zn.sm (by omega))
   rw [rv_canQ,rv_canQ] at m1
   have z2:SzQ (sumP P j * (-P[j].2.1)) 170100:=(zs.mul zn).mono (by omega)
   have m2:=ratio_Mul_ok (z2.sm (by decide)) (vsz.sm (by decide))
   rw [rv_canQ,rv_canQ] at m2
   have m2:ratio_Mul (canQ (sumP P j * (-P[j].2.1))) (((canQ v).1.1,(canQ v).1.2),(canQ v).2) = _:=m2
   have z3:SzQ (sumP P j * (-P[j].2.1) * v) 170300:=(z2.mul vsz).mono (by omega)
   have a2:=ratio_Add_ok (zr.sm (by decide)) (z3.sm (by decide))
   rw [rv_canQ,rv_canQ] at a2
   have hx:=hset (o F + rsum (lfT P v F) j + sumP P j * (-P[j].2.1) * v) (by
    rw [rsum,lfT_at hj,if_pos hF.symm,hok];simp only [one0,Bool.false_eq_true,if_false];grind)
   rw [cond_false,cnd2 c1 c2,Int.toNat_natCast,g2,Option.bind_some,m1,Option.bind_some,m2,Option.bind_some,a2,Option.bind_some,cnd2 c1 c2,Option.bind_some,hx]) (by
  intro g
  rw [pathshap_walker_leaf_s3,cnd' (by omega)])
 have e0:flo n (fun f=>o f + rsum (lfT P v f) 0) = flo n o:=flo_congr fun f _=>Rat.add_zero _
 rw [e0] at key
 have key:lp pathshap_walker_leaf_s3 K0 ((encW P,(P.length:Int),0,()),(((i:Int),(canQ gn).1.1,(canQ gn).1.2,(canQ gn).2,a4,a5,a6,a7,a8,()),((canQ v).1.1,(canQ v).1.2,(canQ v).2,()),(t,row,fx,on,flo n o,()),(encK P (wtP P),()),())) = _:=key
 have m0:ratio_Mul (((canQ gn).1.1,(canQ gn).1.2),(canQ gn).2) t[i].2.2.2.2.2.2.1 = some (canQ v):=by
  rw [nodeAt_get hi] at m0;exact m0
 rw [pathshap_walker_leaf,cnd (by omega),Int.toNat_natCast,List.getElem?_eq_getElem hi,Option.bind_some,m0,Option.bind_some,Parts15_ok (by omega),Option.bind_some]
 dsimp only
 rw [encW_len,key,Option.bind_some]
 dsimp only
 rw [flo_len,flo_len,Nat.beq_refl,cond_true,Option.bind_some]
 rfl
def kOn (t:List NODE) (row:List CELL) (fx:Int) (on:Bool) (i:Nat) (side:Bool):Bool:=if nFeat (nodeAt t i) = fx then (if on then goL t row i == side else true) else true
def kG (t:List NODE) (fx:Int) (on:Bool) (i c:Nat) (g:Rat):Rat:=if nFeat (nodeAt t i) = fx then (if on then g else g * (cov t c / cov t i)) else g
def kF (t:List NODE) (fx:Int) (i:Nat):Int:=if nFeat (nodeAt t i) = fx then -1 else nFeat (nodeAt t i)
def kW (t:List NODE) (row:List CELL) (fx:Int) (i c:Nat) (side:Bool) (w:List AP):List AP:=if nFeat (nodeAt t i) = fx then w else along (featT t i) (cov t c / cov t i) (goL t row i == side) w
abbrev PL:=Rat × List AP
def legsF (t:List NODE) (row:List CELL) (fx:Int) (on:Bool):TR → List AP → Rat → List PL
 | .leaf i,w,g=>[(g * rv (nVal (nodeAt t i)),w)]
 | .split i l r,w,g =>
  (if kOn t row fx on i true then legsF t row fx on l (kW t row fx i l.top true w) (kG t fx on i l.top g) else []) ++
  (if kOn t row fx on i false then legsF t row fx on r (kW t row fx i r.top false w) (kG t fx on i r.top g) else [])
def visF (t:List NODE) (row:List CELL) (fx:Int) (on:Bool):TR → Nat
 | .leaf i=>1
 | .split i l r=>1 + (if kOn t row fx on i true then visF t row fx on l else 0) + (if kOn t row fx on i false then visF t row fx on r else 0)
theorem visF_pos (t:List NODE) (row:List CELL) (fx:Int) (on:Bool) (T:TR):0 < visF t row fx on T:=by cases T <;> simp [visF];omega
theorem visF_le (t:List NODE) (row:List CELL) (fx:Int) (on:Bool) (T:TR):visF t row fx on T ≤ T.size:=by
 induction T with
 | leaf i=>simp [visF,TR.size]
 | split i l r ihl ihr =>
  simp only [visF,TR.size]
  split <;> split <;> omega
structure IT where
 T:TR
 P:List AP
 g:Rat
 s:PART
 w:List AP
abbrev ITE:=Int × (Option ((Option (List (Int × RAT × CELL))) × Unit)) × RAT × PART
def encI (x:IT):ITE:=((x.T.top:Int),some (some (encK x.P (wtP x.P)),()),canQ x.g,x.s)
def GoodI (t:List NODE) (n:Nat) (x:IT):Prop:=∃ m,Is t (n:Int) x.T ∧ m + x.T.deep ≤ 8 ∧ SzQ x.g (8 * m + 1) ∧ SortA x.w ∧
 ((x.s.1 = -1 ∧ PathP x.P (8 * m + 1) n ∧ x.P.length ≤ m ∧ x.P.Perm x.w) ∨
  ∃ (m' f:Nat) (q:Rat) (ok:Bool) (w0:List AP),m = m' + 1 ∧ x.s = ((f:Int),canQ q,ok) ∧ f < n ∧ SzQ q 8 ∧ 0 < q ∧ PathP x.P (8 * m' + 1) n ∧ x.P.length ≤ m' ∧ x.P.Perm w0 ∧ SortA w0 ∧ x.w = along f q ok w0)
theorem GoodI.join {t:List NODE} {n:Nat} {x:IT} (h:GoodI t n x) (hn:n < 1000000):∃ (m:Nat) (P':List AP),Is t (n:Int) x.T ∧ m + x.T.deep ≤ 8 ∧ SzQ x.g (8 * m + 1) ∧ SortA x.w ∧ PathP P' (8 * m + 1) n ∧ P'.length ≤ m ∧ P'.Perm x.w ∧
   pathshap_place_join (x.T.top:Int) (canQ x.g).1.1 (canQ x.g).1.2 (canQ x.g).2 x.s.1 x.s.2.1.1.1 x.s.2.1.1.2 x.s.2.1.2 x.s.2.2 (encK x.P (wtP x.P)) =
    some ((x.T.top:Int),(canQ x.g).1.1,(canQ x.g).1.2,(canQ x.g).2,x.s.1,x.s.2.1.1.1,x.s.2.1.1.2,x.s.2.1.2,x.s.2.2,encK P' (wtP P')):=by
 obtain ⟨m,h1,h2,h3,h4,h5⟩:=h
 have hd:=x.T.deep_pos
 rcases h5 with ⟨a1,a2,a3,a4⟩ | ⟨m',f,q,ok,w0,b1,b2,b3,b4,b5,b6,b7,b8,b9,b10⟩
 · refine ⟨m, x.P, h1, h2, h3, h4, a2, a3, a4, ?_⟩
   rw [a1,pathshap_place_join,cnd (by omega)]
 · subst b1
   obtain ⟨P',p1,p2,p3,p4⟩:=join_ok b6 b8 b9 (ok:=ok) b3 hn b4 b5 b7 (by omega) (x.T.top:Int) (canQ x.g).1.1 (canQ x.g).1.2 (canQ x.g).2
   refine ⟨m' + 1,P',h1,h2,h3,h4,p2,p3,by rw [b10];exact p1,?_⟩
   rw [b2]
   exact p4
def kid (t:List NODE) (row:List CELL) (fx:Int) (on:Bool) (i:Nat) (side:Bool) (c:TR) (P w:List AP) (g:Rat):IT :=
 ⟨c,P,kG t fx on i c.top g,(kF t fx i,canQ (cov t c.top / cov t i),goL t row i == side),kW t row fx i c.top side w⟩
theorem kid_good {t:List NODE} {row:List CELL} {fx:Int} {on:Bool} {n i m:Nat} {side:Bool} {c:TR} {P w:List AP} {g:Rat} (hs:TSz t 4) (hcov:CoversP t) (hi:i < t.length) (f0:0 ≤ nFeat t[i]) (f1:nFeat t[i] < (n:Int)) (hc:Is t (n:Int) c)
   (hm:m + 1 + c.deep ≤ 8) (hg:SzQ g (8 * m + 1)) (hw:SortA w) (hP:PathP P (8 * m + 1) n) (hl:P.length ≤ m) (hpw:P.Perm w):GoodI t n (kid t row fx on i side c P w g):=by
 have hsh:=share_sz hs hc.top_lt hi
 refine ⟨m + 1,hc,hm,?_,?_,?_⟩
 · show SzQ (kG t fx on i c.top g) _
   unfold kG
   split
   · split
     · exact hg.mono (by omega)
     · exact (hg.mul hsh).mono (by omega)
   · exact hg.mono (by omega)
 · show SortA (kW t row fx i c.top side w)
   unfold kW
   split
   · exact hw
   · exact along_sort hw
 · by_cases hf : nFeat (nodeAt t i) = fx
   · refine .inl ⟨?_, hP.mono (by omega), by show P.length ≤ _; omega, ?_⟩
     · show kF t fx i = -1
       exact if_pos hf
     · show P.Perm (kW t row fx i c.top side w)
       rw [kW,if_pos hf];exact hpw
   · refine .inr ⟨m, featT t i, cov t c.top / cov t i, goL t row i == side, w, rfl, ?_, ?_, hsh, ?_, hP, hl, hpw, hw, ?_⟩
     · show (kF t fx i, _, _) = _
       rw [kF,if_neg hf,featT,nodeAt_get hi]
       rw [show ((((nFeat t[i]).toNat:Nat)):Int) = nFeat t[i] by omega]
     · rw [featT,nodeAt_get hi];omega
     · have h1 : 0 < cov t c.top := by have := hcov c.top hc.top_lt; rwa [← cov_get hc.top_lt] at this
       have h2:0 < cov t i:=by have:=hcov i hi;rwa [← cov_get hi] at this
       rw [Rat.div_def]
       exact Rat.mul_pos h1 (Rat.inv_pos.2 h2)
     · show kW t row fx i c.top side w = _
       exact if_neg hf
theorem Copy15_ok {P:List AP} {w:Nat → Rat} (hl:P.length ≤ 1000000):pathshap_Path_Copy (encK P w) = some (encK P w,encK P w):=by
 rw [pathshap_Path_Copy,blt (by rw [encK_len];simp;omega),cond_true,List.nil_append]
theorem child_ok {t:List NODE} {row:List CELL} {fx:Int} {on:Bool} {i:Nat} {c:TR} {P w:List AP} {W:Nat → Rat} {g:Rat} {m:Nat} (hs:TSz t 4) (hc:CSz row 9) (hcov:CoversP t) (hi:i < t.length) (hleaf:nLeaf t[i] = false) (f0:0 ≤ nFeat t[i]) (f1:nFeat t[i] < (row.length:Int))
   (hl:c.top < t.length) (hP:P.length ≤ 1000000) (hg:SzQ g 1000) (side:Bool) (out:List RAT) (a4:Int) (a5:Bool) (a6 a7:List Int) (a8:Bool) :
   pathshap_walker_child (i:Int) (canQ g).1.1 (canQ g).1.2 (canQ g).2 a4 a5 a6 a7 a8 (c.top:Int) side t row fx on out (encK P W) =
    some (out,(c.top:Int),(canQ (kG t fx on i c.top g)).1.1,(canQ (kG t fx on i c.top g)).1.2,(canQ (kG t fx on i c.top g)).2,kF t fx i,(canQ (cov t c.top / cov t i)).1.1,(canQ (cov t c.top / cov t i)).1.2,(canQ (cov t c.top / cov t i)).2,(goL t row i == side),kOn t row fx on i side,t,row,fx,on,encK P W,encK P W):=by
 obtain ⟨cc,g1,g2,g3⟩:=goL_ok (f:=0) hs hc hi f0 f1
 have z:=hs _ (List.getElem_mem hi)
 have zl:=hs _ (List.getElem_mem hl)
 have hne:rv (nCov t[i]) ≠ 0:=by have:=hcov.ne i hi;rwa [cov_get hi] at this
 have d1:=ratio_Div_ok (a:=nCov t[c.top]) (b:=nCov t[i]) (zl.2.2.sm (by decide)) (z.2.2.sm (by decide))
 rw [if_neg hne,← cov_get hl,← cov_get hi] at d1
 have hsh:=share_sz hs hl hi
 have hb:∀ {α:Type} {a b:α},(bif Nat.beq out.length out.length then a else b) = a:=fun {α a b}=>by rw [Nat.beq_refl,cond_true]
 have hfe:nFeat (nodeAt t i) = t[i].2.1:=by rw [nodeAt_get hi]
 have hgl:(!nLeaf t[i] && goes t[i] cc) = goL t row i:=by rw [hleaf,Bool.not_false,Bool.true_and,g3]
 rw [pathshap_walker_child,cnd (by omega),Int.toNat_natCast,List.getElem?_eq_getElem hi,Option.bind_some,cnd (by omega),Int.toNat_natCast,List.getElem?_eq_getElem hl,Option.bind_some]
 show (ratio_Div (nCov t[c.top]) (nCov t[i])).bind _ = _
 rw [d1,Option.bind_some,cnd (by exact f0)]
 show ((row[(nFeat t[i]).toNat]?).bind _) = _
 rw [g1,Option.bind_some,Left_ok z.1 (by decide) g2 (by decide),Option.bind_some,hgl,Copy15_ok hP,Option.bind_some]
 by_cases hf:nFeat (nodeAt t i) = fx
 · have e1 : (!decide (t[i].2.1 = fx)) = false := by rw [← hfe, decide_eq_true hf]; rfl
   have e2:kF t fx i = -1:=if_pos hf
   rw [e1,cond_false,e2]
   cases on with
   | true =>
    have e3:kG t fx true i c.top g = g:=by rw [kG,if_pos hf];rfl
    have e4:kOn t row fx true i side = (goL t row i == side):=by rw [kOn,if_pos hf];rfl
    rw [cond_true,hb,Option.bind_some,e3,e4]
   | false =>
    have e3:kG t fx false i c.top g = g * (cov t c.top / cov t i):=by rw [kG,if_pos hf];rfl
    have e4:kOn t row fx false i side = true:=by rw [kOn,if_pos hf];rfl
    have m1:=ratio_Mul_ok (hg.sm (by decide)) (hsh.sm (by decide))
    rw [rv_canQ,rv_canQ] at m1
    have m1:ratio_Mul (((canQ g).1.1,(canQ g).1.2),(canQ g).2) (canQ (cov t c.top / cov t i)) = _:=m1
    rw [cond_false,m1,Option.bind_some,hb,Option.bind_some,e3,e4]
 · have e1 : (!decide (t[i].2.1 = fx)) = true := by rw [← hfe, decide_eq_false hf]; rfl
   have e2:kF t fx i = t[i].2.1:=by rw [kF,if_neg hf,hfe]
   have e3:kG t fx on i c.top g = g:=if_neg hf
   have e4:kOn t row fx on i side = true:=if_neg hf
   rw [e1,cond_true,hb,Option.bind_some,e2,e3,e4]
def kidsL (t:List NODE) (row:List CELL) (fx:Int) (on:Bool) (i:Nat) (l r:TR) (P w:List AP) (g:Rat):List IT :=
 (if kOn t row fx on i false then [kid t row fx on i false r P w g] else []) ++ (if kOn t row fx on i true then [kid t row fx on i true l P w g] else [])
theorem kids_ok {t:List NODE} {row:List CELL} {fx:Int} {on:Bool} {i:Nat} {l r:TR} {P w:List AP} {g:Rat} (hs:TSz t 4) (hc:CSz row 9) (hcov:CoversP t) (hi:i < t.length) (hleaf:nLeaf t[i] = false) (f0:0 ≤ nFeat t[i]) (f1:nFeat t[i] < (row.length:Int))
  (hl:l.top < t.length) (hr:r.top < t.length) (hP:P.length ≤ 1000000) (hg:SzQ g 1000) (out:List RAT) (a4:Int) (a5:Bool) (a6 a7:List Int) (a8:Bool) (c0:Bool) (c1:Int) (c2:Bool) (c3 c4:List Int) (c7 c8:Bool) (c9 c10:List Int) (c11:Bool) (c12 c13:List Int)
  (base:List ITE) (hb:base.length ≤ 1000000) :
  lp pathshap_walker_walk_s9 K0 (((false,(true,())),0,()),(((i:Int),(canQ g).1.1,(canQ g).1.2,(canQ g).2,a4,a5,a6,a7,a8,()),(c0,c1,c2,c3,c4,(l.top:Int),(r.top:Int),c7,c8,c9,c10,c11,c12,c13,()),(encK P (wtP P),()),(t,row,fx,on,out,base,()),())) =
    some ((),((t,row,fx,on,out,base ++ (kidsL t row fx on i l r P w g).map encI,()),())):=by
 obtain ⟨A,eA⟩:∃ A:List IT,A = if kOn t row fx on i false then [kid t row fx on i false r P w g] else []:=⟨_,rfl⟩
 obtain ⟨B,eB⟩:∃ B:List IT,B = if kOn t row fx on i true then [kid t row fx on i true l P w g] else []:=⟨_,rfl⟩
 have eK:kidsL t row fx on i l r P w g = A ++ B:=by rw [eA,eB];rfl
 have lA:A.length ≤ 1:=by rw [eA];split <;> simp
 obtain ⟨K,hK⟩:∃ K:Nat → List ITE,K = fun j=>if j = 0 then [] else if j = 1 then A.map encI else (A ++ B).map encI:=⟨_,rfl⟩
 have K0':K 0 = []:=by rw [hK];rfl
 have K1:K 1 = A.map encI:=by rw [hK];rfl
 have K2:K 2 = (A ++ B).map encI:=by rw [hK];rfl
 have ov:over out 0 out = out:=over_all rfl
 have hc1:=fun side=>child_ok (fx:=fx) (on:=on) (c:=r) (P:=P) (w:=w) (W:=wtP P) (g:=g) (m:=0) hs hc hcov hi hleaf f0 f1 hr hP hg side out a4 a5 a6 a7 a8
 have hc2:=fun side=>child_ok (fx:=fx) (on:=on) (c:=l) (P:=P) (w:=w) (W:=wtP P) (g:=g) (m:=0) hs hc hcov hi hleaf f0 f1 hl hP hg side out a4 a5 a6 a7 a8
 have key:=lp_up (step:=pathshap_walker_walk_s9) (fun j=>(((false,(true,())),(j:Int),()),(((i:Int),(canQ g).1.1,(canQ g).1.2,(canQ g).2,a4,a5,a6,a7,a8,()),(c0,c1,c2,c3,c4,(l.top:Int),(r.top:Int),c7,c8,c9,c10,c11,c12,c13,()),(encK P (wtP P),()),(t,row,fx,on,out,base ++ K j,()),()))) 2
  (r:=((),((t,row,fx,on,out,base ++ K 2,()),()))) (by omega) (by
  intro g' j hj
  have hj2:j = 0 ∨ j = 1:=by omega
  rcases hj2 with rfl | rfl
  · rw [pathshap_walker_walk_s9, cnd (by omega), cnd (by omega)]
    show ((([false,true]:List Bool)[0]?).bind _) = _
    rw [show (([false,true]:List Bool)[0]?) = some false from rfl,Option.bind_some,cond_false,hc1 false,Option.bind_some]
    dsimp only
    rw [K0',List.append_nil,show ((0 + 1:Nat)) = 1 from rfl,K1,ov]
    cases hk:kOn t row fx on i false with
    | true =>
     have eA':A = [kid t row fx on i false r P w g]:=by rw [eA,hk];rfl
     rw [cond_true,blt (by simp;omega),cond_true,eA']
     rfl
    | false =>
     have eA':A = []:=by rw [eA,hk];rfl
     rw [cond_false,eA',List.map_nil,List.append_nil]
     rfl
  · rw [pathshap_walker_walk_s9, cnd (by omega), cnd (by omega)]
    show ((([false,true]:List Bool)[1]?).bind _) = _
    rw [show (([false,true]:List Bool)[1]?) = some true from rfl,Option.bind_some,cond_true,hc2 true,Option.bind_some]
    dsimp only
    rw [show ((1 + 1:Nat)) = 2 from rfl,K1,K2,ov]
    cases hk:kOn t row fx on i true with
    | true =>
     have eB':B = [kid t row fx on i true l P w g]:=by rw [eB,hk];rfl
     rw [cond_true,blt (by simp;omega),cond_true,eB',List.map_append,← List.append_assoc]
     rfl
    | false =>
     have eB':B = []:=by rw [eB,hk];rfl
     rw [cond_false,eB',List.append_nil]
     rfl) (by
  intro g'
  rw [pathshap_walker_walk_s9,cnd' (by omega)])
 rw [K0',K2,← eK,List.append_nil] at key
 exact key
def totL (n f:Nat) (l:List PL):Rat:=lsum (l.map fun y=>shapQ (fun S=>reachA S y.2 * y.1) n f)
theorem totL_append (n f:Nat) (a b:List PL):totL n f (a ++ b) = totL n f a + totL n f b:=by rw [totL,List.map_append,lsum_append];rfl
def totI (t:List NODE) (row:List CELL) (fx:Int) (on:Bool) (n f:Nat) (x:IT):Rat:=totL n f (legsF t row fx on x.T x.w x.g)
def visL (t:List NODE) (row:List CELL) (fx:Int) (on:Bool):List IT → Nat
 | []=>0
 | x :: L=>visF t row fx on x.T + visL t row fx on L
theorem visL_append (t:List NODE) (row:List CELL) (fx:Int) (on:Bool) (a b:List IT):visL t row fx on (a ++ b) = visL t row fx on a + visL t row fx on b:=by
 induction a with
 | nil=>simp [visL]
 | cons x a ih=>simp only [List.cons_append,visL,ih];omega
theorem visL_len (t:List NODE) (row:List CELL) (fx:Int) (on:Bool) (a:List IT):a.length ≤ visL t row fx on a:=by
 induction a with
 | nil=>simp [visL]
 | cons x a ih=>have:=visF_pos t row fx on x.T;simp only [List.length_cons,visL];omega
theorem kids_vis (t:List NODE) (row:List CELL) (fx:Int) (on:Bool) (i:Nat) (l r:TR) (P w:List AP) (g:Rat) :
  visF t row fx on (.split i l r) = 1 + visL t row fx on (kidsL t row fx on i l r P w g):=by
 rw [kidsL,visL_append]
 simp only [visF]
 cases kOn t row fx on i true <;> cases kOn t row fx on i false <;> simp [visL,kid] <;> omega
theorem kids_tot (t:List NODE) (row:List CELL) (fx:Int) (on:Bool) (n f i:Nat) (l r:TR) (P w:List AP) (g:Rat) :
   totL n f (legsF t row fx on (.split i l r) w g) = lsum ((kidsL t row fx on i l r P w g).map (totI t row fx on n f)):=by
 rw [kidsL,List.map_append,lsum_append]
 simp only [legsF]
 rw [totL_append,Rat.add_comm]
 congr 1
 · cases kOn t row fx on i false
   · rfl
   · simp only [if_true,List.map_cons,List.map_nil,lsum,Rat.add_zero];rfl
 · cases kOn t row fx on i true
   · rfl
   · simp only [if_true,List.map_cons,List.map_nil,lsum,Rat.add_zero];rfl
theorem walk15_ok {t:List NODE} {row:List CELL} {fx:Int} {on:Bool} {T:TR} {o:Nat → Rat} (hs:TSz t 4) (hc:CSz row 9) (hcov:CoversP t) (hT:Is t (row.length:Int) T) (h0:T.top = 0) (hd:T.deep ≤ 8) (hz:T.size ≤ 100) (hrl:row.length ≤ 64)
  {S:Nat} (ho:∀ f,f < row.length → SzQ (o f) S) (hS:S ≤ 50000000000) :
  (∃ st,pathshap_walker_walk t row fx on (flo row.length o) [] = some (flo row.length (fun f=>o f + totL row.length f (legsF t row fx on T [] 1)),t,row,fx,on,st)) ∧ ∀ f,f < row.length → SzQ (o f + totL row.length f (legsF t row fx on T [] 1)) (S + 200000000):=by
 obtain ⟨n,hn⟩:∃ n,n = row.length:=⟨_,rfl⟩
 obtain ⟨N,hN⟩:∃ N,N = visF t row fx on T:=⟨_,rfl⟩
 have hN2:N ≤ 100:=by rw [hN];exact Nat.le_trans (visF_le _ _ _ _ _) hz
 obtain ⟨x0,hx0⟩:∃ x0:IT,x0 = ⟨T,[],1,(-1,(((false,[]),[]),false)),[]⟩:=⟨_,rfl⟩
 have t0:∀ f,totI t row fx on n f x0 = totL n f (legsF t row fx on T [] 1):=fun f=>by rw [hx0];rfl
 have hg0:GoodI t n x0:=by
  refine ⟨0,by rw [hx0,hn];exact hT,by rw [hx0];show 0 + T.deep ≤ 8;omega,by rw [hx0];exact SzQ.one,by rw [hx0];exact List.Pairwise.nil,.inl ⟨by rw [hx0],?_,by simp [hx0],by simp [hx0]⟩⟩
  rw [hx0]
  exact ⟨List.Pairwise.nil,fun p hp=>absurd hp (by simp),by simp,fun p hp=>absurd hp (by simp),fun p hp=>absurd hp (by simp)⟩
 rw [← hn]
 obtain ⟨res,hres,hlp⟩:=lp_inv (step:=pathshap_walker_walk_s1)
  (fun j v=>∃ (L:List IT) (o':Nat → Rat),v = ((),((t,row,fx,on,flo n o',L.map encI,()),())) ∧ (∀ x ∈ L,GoodI t n x) ∧ j + visL t row fx on L = N ∧ (∀ f,f < n → SzQ (o' f) (S + 2000000 * j)) ∧ ∀ f,f < n → o' f + lsum (L.map (totI t row fx on n f)) = o f + totI t row fx on n f x0)
  (fun r=>(∃ (st:List ITE),r = ((),((t,row,fx,on,flo n (fun f=>o f + totI t row fx on n f x0),st,()),()))) ∧ ∀ f,f < n → SzQ (o f + totI t row fx on n f x0) (S + 200000000)) N
  (v:=((),((t,row,fx,on,flo n o,[x0].map encI,()),())))
  ⟨[x0],o,rfl,fun x hx=>by rw [List.mem_singleton.1 hx];exact hg0,by simp only [visL,hx0];omega,fun f hf=>(ho f (by omega)).mono (by omega),fun f hf=>by simp only [List.map_cons,List.map_nil,lsum,Rat.add_zero]⟩
  (by omega)
  (by
   rintro j v hj ⟨L,o',rfl,hL,hv,hsz,htot⟩
   rcases List.eq_nil_or_concat L with rfl | ⟨L0,x,rfl⟩
   · simp only [visL] at hv;omega
   rw [List.concat_eq_append] at *
   have hx:GoodI t n x:=hL x (by simp)
   obtain ⟨m,P',j1,j2,j3,j4,j5,j6,j7,j8⟩:=hx.join (by omega)
   rw [visL_append] at hv
   simp only [visL,Nat.add_zero] at hv
   have hvp:=visF_pos t row fx on x.T
   have hvl:=visL_len t row fx on L0
   obtain ⟨base,hbase⟩:∃ base,base = L0.map encI:=⟨_,rfl⟩
   have lb:base.length = L0.length:=by rw [hbase];simp
   have eS:(L0 ++ [x]).map encI = base ++ [encI x]:=by rw [hbase];simp
   have hi:=j1.top_lt
   have qS:∀ y:ITE,isub .i64 ((base ++ [y]).length:Int) 1 = (base.length:Int):=fun y=>by
     rw [List.length_append,List.length_singleton,isub_i (by omega) (by omega)];omega
   have gS:(base ++ [encI x])[base.length]? = some (encI x):=by simp
   have sS:∀ y,(base ++ [encI x]).set base.length y = base ++ [y]:=fun y=>by simp
   have cS:∀ y:ITE,(decide ((0:Int) ≤ (base.length:Int)) && decide (((base.length:Int):Int) ≤ (base.length:Int)) && decide (((base.length:Int):Int) ≤ ((base ++ [y]).length:Int))) = true:=fun y=>by
     simp only [Bool.and_eq_true,decide_eq_true_eq,List.length_append,List.length_singleton];omega
   have tS:∀ y:ITE,(base ++ [y]).take (((base.length:Int) - 0).toNat) = base:=fun y=>by
     rw [show ((base.length:Int) - 0).toNat = base.length by omega];simp
   have hpos:(((base ++ [encI x]).length:Nat):Int) > 0:=by rw [List.length_append,List.length_singleton];omega
   have d2:(base.length:Int) < (((base ++ [encI x]).length:Nat):Int):=by rw [List.length_append,List.length_singleton];omega
   have walkE:∀ g,pathshap_walker_walk_s1 g ((),((t,row,fx,on,flo n o',(L0 ++ [x]).map encI,()),())) =
       bif t[x.T.top].1 then ((pathshap_walker_leaf (x.T.top:Int) (canQ x.g).1.1 (canQ x.g).1.2 (canQ x.g).2 x.s.1 x.s.2.1.1.1 x.s.2.1.1.2 x.s.2.1.2 x.s.2.2 t row fx on (flo n o') (encK P' (wtP P'))).bind fun r8=>g ((()),((r8.2.1,r8.2.2.1,r8.2.2.2.1,r8.2.2.2.2.1,(over (flo n o') 0 r8.1),base,()),())))
       else ((lp pathshap_walker_walk_s9 K0 (((false,(true,())),0,()),(((x.T.top:Int),(canQ x.g).1.1,(canQ x.g).1.2,(canQ x.g).2,x.s.1,x.s.2.1.1.1,x.s.2.1.1.2,x.s.2.1.2,x.s.2.2,()),(t[x.T.top].1,t[x.T.top].2.1,t[x.T.top].2.2.1.1.1,t[x.T.top].2.2.1.1.2,t[x.T.top].2.2.1.2,t[x.T.top].2.2.2.1,t[x.T.top].2.2.2.2.1,t[x.T.top].2.2.2.2.2.1,t[x.T.top].2.2.2.2.2.2.1.1.1,t[x.T.top].2.2.2.2.2.2.1.1.2,t[x.T.top].2.2.2.2.2.2.1.2,t[x.T.top].2.2.2.2.2.2.2.1.1,t[x.T.top].2.2.2.2.2.2.2.1.2,t[x.T.top].2.2.2.2.2.2.2.2,()),(encK P' (wtP P'),()),(t,row,fx,on,flo n o',base,()),()))).bind fun t12=>g ((()),((t12.2.1.1,t12.2.1.2.1,t12.2.1.2.2.1,t12.2.1.2.2.2.1,t12.2.1.2.2.2.2.1,t12.2.1.2.2.2.2.2.1,()),()))):=fun g=>by
     rw [pathshap_walker_walk_s1,eS,cnd hpos,qS,cnd2 (by omega) d2,Int.toNat_natCast,gS,Option.bind_some]
     show ((some (some (encK x.P (wtP x.P)),()):Option ((Option (List (Int × RAT × CELL))) × Unit)).bind _) = _
     rw [Option.bind_some]
     show ((some (encK x.P (wtP x.P)):Option (List (Int × RAT × CELL))).bind _) = _
     rw [Option.bind_some,sS,qS,cS,cond_true,tS]
     show (pathshap_place_join (x.T.top:Int) (canQ x.g).1.1 (canQ x.g).1.2 (canQ x.g).2 x.s.1 x.s.2.1.1.1 x.s.2.1.1.2 x.s.2.1.2 x.s.2.2 (encK x.P (wtP x.P))).bind _ = _
     rw [j8,Option.bind_some]
     dsimp only
     rw [cnd (by omega),Int.toNat_natCast,List.getElem?_eq_getElem hi,Option.bind_some]
   have hm7:m ≤ 7:=by have:=x.T.deep_pos;omega
   cases hxT:x.T with
   | leaf i =>
     rw [hxT] at j1 j2 hi hv
     simp only [hxT] at walkE
     obtain ⟨i1,i2⟩:=j1
     have hlf:=leaf_ok (t:=t) (row:=row) (fx:=fx) (on:=on) j5 (by omega) (by omega) i1 (j3.mono (by omega)) hs (o:=o') (fun f hf=>(hsz f hf).mono (by omega)) (by omega) x.s.1 x.s.2.1.1.1 x.s.2.1.1.2 x.s.2.1.2 x.s.2.2
     obtain ⟨v,hv'⟩:∃ v,v = x.g * rv (nVal (nodeAt t i)):=⟨_,rfl⟩
     rw [← hv'] at hlf
     have hvz:SzQ v 200:=by rw [hv'];exact ((j3.mono (show 8 * m + 1 ≤ 100 by omega)).mul ((hs.at i1).2.1.szQ (by decide))).mono (by decide)
     refine ⟨((),((t,row,fx,on,flo n (fun f=>o' f + lfAdd P' v f),L0.map encI,()),())),⟨L0,_,rfl,fun y hy=>hL y (by simp [hy]),by simp only [visF] at hv;omega,fun f hf=>?_,fun f hf=>?_⟩,fun g=>?_⟩
     · have h1 := rsum_szQ (k := 180000) P'.length (fun i hi => lfT_sz j5 (by omega) (by omega) hvz f hi)
       have h1:SzQ (lfAdd P' v f) _:=h1
       have:P'.length * (180000 + 1) ≤ 8 * (180000 + 1):=Nat.mul_le_mul_right _ (by omega)
       exact ((hsz f hf).add h1).mono (by omega)
     · have e := htot f hf
       rw [List.map_append,lsum_append] at e
       simp only [List.map_cons,List.map_nil,lsum,Rat.add_zero] at e
       have e2:totI t row fx on n f x = lfAdd P' v f:=by
         rw [totI,hxT,lfAdd_shap j5 hf]
         simp only [legsF,totL,List.map_cons,List.map_nil,lsum,Rat.add_zero]
         rw [← hv']
         refine shapQ_congr hf fun S _=>?_
         rw [reachA_perm j7]
       rw [e2] at e
       rw [← e];grind
     · rw [walkE g]
       show (bif t[i].1 then _ else _) = _
       rw [show t[i].1 = true from i2,cond_true]
       show (pathshap_walker_leaf (i:Int) _ _ _ _ _ _ _ _ _ _ _ _ _ _).bind _ = _
       rw [hlf,Option.bind_some]
       dsimp only
       rw [over_all (by rw [flo_len,flo_len]),hbase]
   | split i l r =>
     rw [hxT] at j1 j2 hi hv
     simp only [hxT,TR.top] at walkE
     obtain ⟨i1,i2,f0,f1,i3,i4,i5,i6⟩:=j1
     simp only [TR.deep] at j2
     have hkd:=kids_ok (t:=t) (row:=row) (fx:=fx) (on:=on) (i:=i) (l:=l) (r:=r) (P:=P') (w:=x.w) (g:=x.g) hs hc hcov i1 i2 f0 (by omega) i5.top_lt i6.top_lt (by omega) (j3.mono (by omega)) (flo n o') x.s.1 x.s.2.1.1.1 x.s.2.1.1.2 x.s.2.1.2 x.s.2.2
       false t[i].2.1 t[i].2.2.1.1.1 t[i].2.2.1.1.2 t[i].2.2.1.2 t[i].2.2.2.2.2.1 t[i].2.2.2.2.2.2.1.1.1 t[i].2.2.2.2.2.2.1.1.2 t[i].2.2.2.2.2.2.1.2 t[i].2.2.2.2.2.2.2.1.1 t[i].2.2.2.2.2.2.2.1.2 t[i].2.2.2.2.2.2.2.2 base (by omega)
     refine ⟨((),((t,row,fx,on,flo n o',(L0 ++ kidsL t row fx on i l r P' x.w x.g).map encI,()),())),⟨L0 ++ kidsL t row fx on i l r P' x.w x.g,o',rfl,fun y hy=>?_,?_,fun f hf=>(hsz f hf).mono (by omega),fun f hf=>?_⟩,fun g=>?_⟩
     · rcases List.mem_append.1 hy with hy | hy
       · exact hL y (by simp [hy])
       · have hgl : ∀ side, GoodI t n (kid t row fx on i side l P' x.w x.g) := fun side => kid_good hs hcov i1 f0 f1 i5 (by omega) j3 j4 j5 j6 j7
         have hgr:∀ side,GoodI t n (kid t row fx on i side r P' x.w x.g):=fun side=>kid_good hs hcov i1 f0 f1 i6 (by omega) j3 j4 j5 j6 j7
         rcases List.mem_append.1 hy with hy | hy
         · split at hy
           · rw [List.mem_singleton.1 hy];exact hgr _
           · cases hy
         · split at hy
           · rw [List.mem_singleton.1 hy];exact hgl _
           · cases hy
     · have := kids_vis t row fx on i l r P' x.w x.g
       rw [visL_append];omega
     · have e := htot f hf
       rw [List.map_append,lsum_append] at e
       simp only [List.map_cons,List.map_nil,lsum,Rat.add_zero] at e
       have e2:totI t row fx on n f x = lsum ((kidsL t row fx on i l r P' x.w x.g).map (totI t row fx on n f)):=by
         rw [totI,hxT];exact kids_tot t row fx on n f i l r P' x.w x.g
       rw [e2] at e
       rw [List.map_append,lsum_append];exact e
     · rw [walkE g]
       show (bif t[i].1 then _ else _) = _
       rw [show t[i].1 = false from i2,cond_false]
       rw [show t[i].2.2.2.1 = (l.top:Int) from i3,show t[i].2.2.2.2.1 = (r.top:Int) from i4,hkd,Option.bind_some]
       dsimp only
       rw [hbase,← List.map_append])
  (by
   rintro v ⟨L,o',rfl,hL,hv,hsz,htot⟩
   have hl:=visL_len t row fx on L
   have:L = []:=by
     cases L with
     | nil=>rfl
     | cons x L=>simp only [List.length_cons] at hl;omega
   subst this
   refine ⟨((),((t,row,fx,on,flo n o',List.map encI [],()),())),⟨⟨List.map encI [],?_⟩,fun f hf=>?_⟩,fun g=>?_⟩
   · have : flo n o' = flo n (fun f => o f + totI t row fx on n f x0) := flo_congr fun f hf => by
       rw [← htot f hf];simp only [List.map_nil,lsum,Rat.add_zero]
     rw [this]
   · rw [← htot f hf]
     simp only [List.map_nil,lsum,Rat.add_zero]
     exact (hsz f hf).mono (by omega)
   · rw [pathshap_walker_walk_s1,cnd' (by simp)])
 obtain ⟨⟨st,rfl⟩,hrs⟩:=hres
 refine ⟨⟨st,?_⟩,fun f hf=>by have:=hrs f hf;rwa [t0] at this⟩
 have e0:[x0].map encI = [((0:Int),(some (some (encK [] (wtP [])),()):Option ((Option (List (Int × RAT × CELL))) × Unit)),canQ 1,((-1:Int),(((false,[]),[]),false)))]:=by
  rw [hx0]
  simp only [List.map_cons,List.map_nil,encI,h0];rfl
 rw [e0] at hlp
 rw [pathshap_walker_walk,New15_ok,Option.bind_some,ratio_One_ok,Option.bind_some]
 have hlp:lp pathshap_walker_walk_s1 K0 (((),((t,row,fx,on,flo n o,[(0,((some ((some (encK [] (wtP []))),())),(canQ 1,((-1),(((false,[]),[]),false)))))],()),()))) = _:=hlp
 rw [hlp,Option.bind_some]
 dsimp only
 rw [flo_len,flo_len,Nat.beq_refl,cond_true,Option.bind_some]
 simp only [t0]
def trV (t:List NODE) (row:List CELL) (fx:Int) (on:Bool) (f:Nat):Rat:=totL row.length f (legsF t row fx on (treeOf t) [] 1)
def pvals (m:MODEL) (row:List CELL) (fx:Int) (on:Bool) (f:Nat):Rat:=rsum (fun j=>trV (treeAt m j) row fx on f) m.2.length
theorem Askd.deep8 {m:MODEL} {row:List CELL} (h:Askd m row) {i:Nat} (hi:i < m.2.length):(treeOf m.2[i]).deep ≤ 8 ∧ (treeOf m.2[i]).size ≤ 15:=by
 have h1:=h.good.treeOf hi
 have hsh:ShapeP m.2[i]:=h.good.2 1 (by decide) i hi
 have h2:=tree_size hsh h1.1
 have h3:=deep_half (treeOf m.2[i])
 have h4:=h.mt _ (List.getElem_mem hi)
 omega
theorem Askd.walk {m:MODEL} {row:List CELL} (h:Askd m row) {i:Nat} (hi:i < m.2.length) (fx:Int) (on:Bool) {o:Nat → Rat} {S:Nat} (ho:∀ f,f < row.length → SzQ (o f) S) (hS:S ≤ 50000000000) :
  (∃ st,pathshap_walker_walk m.2[i] row fx on (flo row.length o) [] = some (flo row.length (fun f=>o f + trV (treeAt m i) row fx on f),m.2[i],row,fx,on,st)) ∧ ∀ f,f < row.length → SzQ (o f + trV (treeAt m i) row fx on f) (S + 200000000):=by
 obtain ⟨t1,t2,t3,t4,t5⟩:=h.tree hi
 rw [t5] at t2 t3 ⊢
 obtain ⟨d1,d2⟩:=h.deep8 hi
 exact walk15_ok t1 h.cs (h.cov hi) t2 t3 d1 (by omega) h.f64 ho hS
theorem trV_sz {m:MODEL} {row:List CELL} (h:Askd m row) {i:Nat} (hi:i < m.2.length) (fx:Int) (on:Bool) {f:Nat} (hf:f < row.length):SzQ (trV (treeAt m i) row fx on f) 200000010:=by
 have:=(h.walk hi fx on (o:=fun _=>0) (S:=1) (fun _ _=>SzQ.zero) (by decide)).2 f hf
 rw [Rat.zero_add] at this
 exact this.mono (by decide)
theorem pvals_sz {m:MODEL} {row:List CELL} (h:Askd m row) (fx:Int) (on:Bool) {f:Nat} (hf:f < row.length):SzQ (pvals m row fx on f) 1500000000:=by
 have h1:=rsum_szQ (f:=fun j=>trV (treeAt m j) row fx on f) (k:=200000010) m.2.length (fun i hi=>trV_sz h hi fx on hf)
 have:m.2.length * (200000010 + 1) ≤ 6 * (200000010 + 1):=Nat.mul_le_mul_right _ h.ml
 exact h1.mono (by omega)
theorem pzeros_ok {n:Nat} (h:n ≤ 1000000):pathshap_zeros (n:Int) = some (flo n fun _=>0):=by
 have key:=lp_up (step:=pathshap_zeros_s3) (fun i=>((flo i (fun _=>0),(n:Int),(i:Int),()),())) n (r:=((flo n (fun _=>0),()),())) (by omega) (by
  intro g i hi
  have d0:(i:Int) < (n:Int):=by omega
  rw [pathshap_zeros_s3,cnd d0,ratio_Zero_ok,Option.bind_some,blt (by rw [flo_len];omega),cond_true,iadd1 (by omega)]
  simp only [flo,List.range_succ,List.map_append]
  rfl) (by
  intro g
  rw [pathshap_zeros_s3,cnd' (by omega)])
 have key:lp pathshap_zeros_s3 K0 (([],(n:Int),0,()),()) = _:=key
 rw [pathshap_zeros,key];rfl
theorem all15_ok {m:MODEL} {row:List CELL} (h:Askd m row) (fx:Int) (on:Bool):pathshap_all m row fx on = some (flo row.length (pvals m row fx on)):=by
 have ml:=h.ml
 have h64:=h.f64
 have hsz:∀ j,j ≤ m.2.length → ∀ f,f < row.length → SzQ (rsum (fun j=>trV (treeAt m j) row fx on f) j) 1500000000:=fun j hj f hf=>by
  have h1:=rsum_szQ (f:=fun j=>trV (treeAt m j) row fx on f) (k:=200000010) j (fun i hi=>trV_sz h (by omega) fx on hf)
  have:j * (200000010 + 1) ≤ 6 * (200000010 + 1):=Nat.mul_le_mul_right _ (by omega)
  exact h1.mono (by omega)
 have key:=lp_up (step:=pathshap_all_s3) (fun j=>((row,fx,on,flo row.length (fun f=>rsum (fun j=>trV (treeAt m j) row fx on f) j),m.2,(m.2.length:Int),(j:Int),()),())) m.2.length (r:=((flo row.length (pvals m row fx on),()),())) (by omega) (by
  intro g j hj
  have d0:(j:Int) < (m.2.length:Int):=by omega
  obtain ⟨st,hw⟩:=(h.walk hj fx on (hsz j (by omega)) (by decide)).1
  rw [pathshap_all_s3,cnd d0,cnd (by omega),Int.toNat_natCast,List.getElem?_eq_getElem hj,Option.bind_some,hw,Option.bind_some]
  dsimp only
  rw [over_all (by rw [flo_len,flo_len]),iadd1 (by omega)]
  rfl) (by
  intro g
  rw [pathshap_all_s3,cnd' (by omega)]
  rfl)
 have key:lp pathshap_all_s3 K0 ((row,fx,on,flo row.length (fun _=>0),m.2,(m.2.length:Int),0,()),()) = _:=key
 rw [pathshap_all,show m.1 = ((row.length:Nat):Int) by have:=h.len;omega,pzeros_ok (by omega),Option.bind_some,key];rfl
theorem Values15_ok {m:MODEL} {row:List CELL} (h:Askd m row):pathshap_Values m row = some (flo row.length (pvals m row (-1) false),0):=by
 obtain ⟨e,_,h1,h2⟩:=fitsOk (row:=row) (by have:=h.ml;omega) (fun t ht=>by have:=h.mt t ht;omega) h.ms
 have e0:e = 0:=h2.2 ⟨h.good,h.len⟩
 subst e0
 rw [pathshap_Values,h1,Option.bind_some,show (!decide ((0:Int) = 0)) = false by decide,cond_false,all15_ok h];rfl
theorem Values15_bad {m:MODEL} {row:List CELL} {e:Int} (h:route_Fits m row = some e) (he:e ≠ 0):pathshap_Values m row = some ([],e):=by
 rw [pathshap_Values,h,Option.bind_some,decide_eq_false he];rfl
theorem Askd.one {t:List NODE} {row:List CELL} (ht:t.length ≤ 15) (hs:TSz t 4) (hc:CSz row 9) (hg:Good ((row.length:Int),[t])):Askd ((row.length:Int),[t]) row :=
 ⟨hg,rfl,fun x hx=>by rw [List.mem_singleton.1 hx];exact hs,by simp,fun x hx=>by rw [List.mem_singleton.1 hx];exact ht,hc⟩
theorem Tree15_ok {t:List NODE} {row:List CELL} (ht:t.length ≤ 15) (hs:TSz t 4) (hc:CSz row 9) (hg:Good ((row.length:Int),[t])):pathshap_Tree t row = some (flo row.length (trV t row (-1) false),0):=by
 rw [pathshap_Tree,Values15_ok (Askd.one ht hs hc hg),Option.bind_some]
 have:pvals ((row.length:Int),[t]) row (-1) false = trV t row (-1) false:=funext fun f=>by
  show 0 + trV _ _ _ _ _ = _
  rw [Rat.zero_add];rfl
 rw [this]
theorem Tree15_bad {t:List NODE} {row:List CELL} (h:valid_Tree t (row.length:Int) = some false):pathshap_Tree t row = some ([],1):=by
 have h1:valid_Ok ((row.length:Int),[t]) = some false:=by
  rw [valid_Tree] at h
  cases e:valid_Ok ((row.length:Int),[t]) with
  | none=>rw [e] at h;cases h
  | some b=>rw [e] at h;exact h
 have h2:=(whyR_ok h1 row).1
 rw [pathshap_Tree,Values15_bad h2 (by rw [whyR,if_neg (by decide)];decide),Option.bind_some];rfl
theorem law15_awake_ok:dendronlaw15_awake = some true:=by decide +kernel
def vlV (m:MODEL) (row:List CELL) (j f:Nat):Rat:=if valid_Tree (treeAt m j) (row.length:Int) = some true then trV (treeAt m j) row (-1) false f else 0
def slF (m:MODEL) (row:List CELL):Nat → Nat → RAT
 | 0,_=>zR
 | i + 1,f=>if valid_Tree (treeAt m i) (row.length:Int) = some true then canQ (rv (slF m row i f) + trV (treeAt m i) row (-1) false f) else slF m row i f
theorem slF_rv (m:MODEL) (row:List CELL) (f:Nat):∀ i,rv (slF m row i f) = rsum (fun j=>vlV m row j f) i:=by
 intro i
 induction i with
 | zero=>show rv zR = 0;decide +kernel
 | succ i ih =>
  rw [slF,rsum,vlV]
  split
  · rw [rv_canQ,ih]
  · rw [ih,Rat.add_zero]
theorem add15_ok {m:MODEL} {row:List CELL} {v5:List RAT} {v6 v8:Int} {a:Nat → RAT} {b:Nat → Rat} {j:Nat} (ha:∀ f,f < row.length → Sm (a f)) (hb:∀ f,f < row.length → SzQ (b f) j) (hj:j < 10000000000) (hl:row.length ≤ 1000000) :
  lp dendronlaw15_PathshapTrees_s14 K0 ((row,v5,v6,flx row.length a,v8,flo row.length b,0,()),((m.1,m.2,()),())) = some ((row,v5,v6,flx row.length (fun f=>canQ (rv (a f) + b f)),v8,()),((m.1,m.2,()),())):=by
 have key:=lp_up (step:=dendronlaw15_PathshapTrees_s14) (fun i=>((row,v5,v6,flx row.length (fun f=>if f < i then canQ (rv (a f) + b f) else a f),v8,flo row.length b,(i:Int),()),((m.1,m.2,()),()))) row.length
  (r:=((row,v5,v6,flx row.length (fun f=>canQ (rv (a f) + b f)),v8,()),((m.1,m.2,()),()))) (by omega) (by
  intro g i hi
  have d0:(i:Int) < (row.length:Int):=by omega
  have d1:(0:Int) ≤ (i:Int):=by omega
  have d2:(i:Int) < ((flx row.length (fun f=>if f < i then canQ (rv (a f) + b f) else a f)).length:Int):=by rw [flx_len];exact d0
  have d3:(i:Int) < ((flo row.length b).length:Int):=by rw [flo_len];exact d0
  have g1:=flx_get (fun f=>if f < i then canQ (rv (a f) + b f) else a f) hi
  rw [if_neg (Nat.lt_irrefl i)] at g1
  have g2:=flo_get b hi
  have m1:=ratio_Add_ok (ha i hi) ((hb i hi).sm (by omega))
  rw [rv_canQ] at m1
  have hset:(flx row.length (fun f=>if f < i then canQ (rv (a f) + b f) else a f)).set i (canQ (rv (a i) + b i)) = flx row.length (fun f=>if f < i + 1 then canQ (rv (a f) + b f) else a f):=flx_set (if_pos (by omega)) fun f hf=>by
   by_cases h:f < i
   · rw [if_pos h,if_pos (by omega)]
   · rw [if_neg h,if_neg (by omega)]
  rw [dendronlaw15_PathshapTrees_s14,cnd d0,cnd2 d1 d2,Int.toNat_natCast,g1,Option.bind_some,cnd2 d1 d3,g2,Option.bind_some,m1,Option.bind_some,cnd2 d1 d2,Option.bind_some,hset,iadd1 (by omega)]
  rfl) (by
  intro g
  have:flx row.length (fun f=>if f < row.length then canQ (rv (a f) + b f) else a f) = flx row.length (fun f=>canQ (rv (a f) + b f)):=flx_congr fun f hf=>if_pos hf
  rw [dendronlaw15_PathshapTrees_s14,cnd' (by omega),this])
 have e0:flx row.length (fun f=>if f < 0 then canQ (rv (a f) + b f) else a f) = flx row.length a:=flx_congr fun f _=>if_neg (by omega)
 rw [e0] at key
 exact key
theorem Small_len (m0:MODEL) (row0:List CELL) (hl:m0.2.length ≤ 9223372036854775807) (ht:∀ t ∈ m0.2,t.length ≤ 9223372036854775807) (hr:row0.length ≤ 9223372036854775807) :
  ∃ m row,dendronlaw11_Small m0 row0 = some (m,row) ∧ MSz m 4 ∧ m.2.length ≤ 3 ∧ (∀ t ∈ m.2,t.length ≤ 15) ∧ CSz row 9 ∧ row.length ≤ 70:=by
 obtain ⟨m,row,hs,ms,ml,mt,cs⟩:=Small_ok m0 row0 hl ht hr
 refine ⟨m,row,hs,ms,ml,mt,cs,?_⟩
 have hf:=Few07_ok m0 hl ht
 have h9:=Few09_ok row0 70 hr (by decide)
 have h9:dendronlaw09_Few row0 70 = some ((row0.take 70).map cutCell):=h9
 have e:row = (row0.take 70).map cutCell:=by
  rw [dendronlaw11_Small,hf,Option.bind_some] at hs
  by_cases h3:((cutM m0).2.length:Int) > 3
  · rw [cnd h3, cnd (by omega), h9] at hs
    exact (congrArg Prod.snd (Option.some.inj hs)).symm
  · rw [cnd' h3, h9] at hs
    exact (congrArg Prod.snd (Option.some.inj hs)).symm
 rw [e]
 simp
 omega
theorem PathshapTrees_true (m0:MODEL) (row0:List CELL) (hl:m0.2.length ≤ 9223372036854775807) (ht:∀ t ∈ m0.2,t.length ≤ 9223372036854775807) (hr:row0.length ≤ 9223372036854775807) :
   dendronlaw15_PathshapTrees m0 row0 = some true:=by
 obtain ⟨m,row,hs,ms,ml,mt,cs,hrow⟩:=Small_len m0 row0 hl ht hr
 obtain ⟨b,h1,h2⟩:=Ok_ok (m:=m) (by omega) (fun t h=>by have:=mt t h;omega) ms (by decide)
 obtain ⟨r1,r2⟩:=whyR_ok h1 row
 have hask:whyR b m row = 0 → Askd m row:=fun h0=>by
   have hb:b = true:=by cases b with
     | true=>rfl
     | false=>exact absurd h0 (by rw [whyR,if_neg (by decide)];decide)
   subst hb
   have hlen:(row.length:Int) = m.1:=by
     apply Classical.byContradiction
     intro hn
     rw [whyR,if_pos rfl,if_neg hn] at h0
     exact absurd h0 (by decide)
   exact ⟨h2.1 rfl,hlen,ms,by omega,mt,cs⟩
 obtain ⟨l,hV,hlv⟩:∃ l,pathshap_Values m row = some (l,whyR b m row) ∧ (whyR b m row = 0 → l = flo row.length (pvals m row (-1) false)):=by
   by_cases h0:whyR b m row = 0
   · exact ⟨_,by rw [h0];exact Values15_ok (hask h0),fun _=>rfl⟩
   · exact ⟨_,Values15_bad r1 h0,fun h=>absurd h h0⟩
 obtain ⟨e,he⟩:∃ e,e = whyR b m row:=⟨_,rfl⟩
 have hV1:∀ j (hj:j < m.2.length),∃ c:Bool,valid_Tree m.2[j] (row.length:Int) = some c ∧ (c = true → pathshap_Tree m.2[j] row = some (flo row.length (trV m.2[j] row (-1) false),0) ∧ ∀ f,f < row.length → SzQ (trV m.2[j] row (-1) false f) 200000010) ∧ (c = false → pathshap_Tree m.2[j] row = some ([],1)):=fun j hj=>by
   have t1:=mt _ (List.getElem_mem hj)
   have t2:=ms _ (List.getElem_mem hj)
   obtain ⟨c,v1,v2⟩:=TreeV_ok (f:=(row.length:Int)) t1 t2
   refine ⟨c,v1,fun hc=>?_,fun hc=>?_⟩
   · have hg := v2.1 hc
     refine ⟨Tree15_ok t1 t2 cs hg,fun f hf=>?_⟩
     exact trV_sz (Askd.one t1 t2 cs hg) (i:=0) (by simp) (-1) false hf
   · subst hc;exact Tree15_bad v1
 have vsz:∀ j,j < m.2.length → ∀ f,f < row.length → SzQ (vlV m row j f) 200000010:=fun j hj f hf=>by
   obtain ⟨c,v1,v2,_⟩:=hV1 j hj
   unfold vlV
   rw [treeAt_get hj,v1]
   split
   · rename_i h
     exact (v2 (Option.some.inj h)).2 f hf
   · exact SzQ.zero.mono (by decide)
 have ssz:∀ i,i ≤ m.2.length → ∀ f,f < row.length → SzQ (rsum (fun j=>vlV m row j f) i) 900000000:=fun i hi f hf=>by
   have h1:=rsum_szQ (f:=fun j=>vlV m row j f) (k:=200000010) i (fun j hj=>vsz j (by omega) f hf)
   have:i * (200000010 + 1) ≤ 3 * (200000010 + 1):=Nat.mul_le_mul_right _ (by omega)
   exact h1.mono (by omega)
 have lsz:∀ i,i ≤ m.2.length → ∀ f,f < row.length → SzR (slF m row i f) 900000000:=by
   intro i
   induction i with
   | zero=>intro _ f _;exact ⟨Nat.zero_le _,Nat.zero_le _⟩
   | succ i ih =>
     intro hi f hf
     rw [slF]
     split
     · rename_i hv
       have:=ssz (i + 1) hi f hf
       rw [rsum,vlV,if_pos hv,← slF_rv] at this
       exact this.szR
     · exact ih (by omega) f hf
 have key:=lp_up (step:=dendronlaw15_PathshapTrees_s5) (fun i=>((row,l,e,flx row.length (slF m row i),(i:Int),()),((m.1,m.2,()),()))) m.2.length
   (r:=.inl ((row,l,e,flx row.length (slF m row m.2.length),()),((m.1,m.2,()),()))) (by omega) (by
   intro g i hi
   have d0:(i:Int) < (m.2.length:Int):=by omega
   have d1:(0:Int) ≤ (i:Int):=by omega
   obtain ⟨c,v1,v2,v3⟩:=hV1 i hi
   cases c with
   | false =>
     have e1:flx row.length (slF m row (i + 1)) = flx row.length (slF m row i):=flx_congr fun f _=>by
       rw [slF,treeAt_get hi,v1,if_neg (by decide)]
     rw [dendronlaw15_PathshapTrees_s5,cnd d0,cnd d1,Int.toNat_natCast,List.getElem?_eq_getElem hi,Option.bind_some,v3 rfl,Option.bind_some,cnd d1,Option.bind_some,v1,Option.bind_some,Bool.not_false,cond_true]
     dsimp only
     rw [e1,iadd1 (by omega)]
     rfl
   | true =>
     obtain ⟨w1,w2⟩:=v2 rfl
     have ha:=add15_ok (m:=m) (row:=row) (v5:=l) (v6:=e) (v8:=(i:Int)) (a:=slF m row i) (fun f hf=>(lsz i (by omega) f hf).sm (by decide)) w2 (by decide) (by omega)
     have e1:flx row.length (fun f=>canQ (rv (slF m row i f) + trV m.2[i] row (-1) false f)) = flx row.length (slF m row (i + 1)):=flx_congr fun f _=>by
       rw [slF,treeAt_get hi,v1,if_pos rfl]
     rw [e1] at ha
     rw [dendronlaw15_PathshapTrees_s5,cnd d0,cnd d1,Int.toNat_natCast,List.getElem?_eq_getElem hi,Option.bind_some,w1,Option.bind_some,cnd d1,Option.bind_some,v1,Option.bind_some,Bool.not_true,cond_false]
     dsimp only
     rw [show (!decide ((0:Int) = 0)) = false by decide,cond_false,flo_len,decide_eq_true rfl,Bool.not_true,cond_false,ha,Option.bind_some,iadd1 (by omega)]
     rfl) (by
   intro g
   rw [dendronlaw15_PathshapTrees_s5,cnd' (by omega)])
 have z0:List.replicate ((row.length:Int)).toNat (((false,[]),[]):RAT) = flx row.length (slF m row 0):=by
   rw [Int.toNat_natCast,flx]
   refine (List.eq_replicate_iff.2 ⟨by simp,fun x hx=>?_⟩).symm
   obtain ⟨j,_,rfl⟩:=List.mem_map.1 hx
   rfl
 have key:lp dendronlaw15_PathshapTrees_s5 K0 ((row,l,e,flx row.length (slF m row 0),0,()),((m.1,m.2,()),())) = _:=key
 have c1:(decide ((row.length:Int) = (row.length:Int)) && decide (0 ≤ (row.length:Int)) && decide (((56:Nat):Int) * (row.length:Int) ≤ 281474976710656) && decide ((row.length:Int) ≤ 9223372036854775807)) = true:=by
   simp only [Bool.and_eq_true,decide_eq_true_eq]
   refine ⟨⟨⟨trivial,by omega⟩,?_⟩,by omega⟩
   show (56:Int) * (row.length:Int) ≤ 281474976710656
   omega
 rw [dendronlaw15_PathshapTrees,hs,Option.bind_some]
 dsimp only
 rw [hV,Option.bind_some]
 dsimp only
 rw [c1,cond_true,z0,← he,key,Option.bind_some]
 dsimp only
 rw [r2,Option.bind_some,← he]
 by_cases h0:e = 0
 · have h := hask (by rw [← he]; exact h0)
   rw [hlv (by rw [← he];exact h0)]
   have hall:∀ f,f < row.length → rv (slF m row m.2.length f) = pvals m row (-1) false f:=fun f hf=>by
     rw [slF_rv]
     refine rsum_congr fun j hj=>?_
     obtain ⟨c',v1',v2'⟩:=TreeV_ok (f:=(row.length:Int)) (mt _ (List.getElem_mem hj)) (ms _ (List.getElem_mem hj))
     rw [v2'.2 (h.goodT hj)] at v1'
     rw [vlV,treeAt_get hj,v1',if_pos rfl]
   have hA:dendronref10_All (flo row.length (pvals m row (-1) false)) (flx row.length (slF m row m.2.length)) = some true:=by
     refine All_true (n:=1500000000) (m:=1500000000) (by decide) (by decide) (fun x hx=>?_) (by rw [flo_len,flx_len]) (by rw [flo_len];omega) (fun i hi hi'=>?_)
     · obtain ⟨f, hf, rfl⟩ := List.mem_map.1 hx
       have:=lsz m.2.length (Nat.le_refl _) f (List.mem_range.1 hf)
       exact ⟨Nat.le_trans this.1 (by decide),Nat.le_trans this.2 (by decide)⟩
     · have hi2 := hi
       rw [flo_len] at hi2
       have e1:=flo_get (pvals m row (-1) false) hi2
       rw [List.getElem?_eq_getElem hi] at e1
       have e2:=flx_get (slF m row m.2.length) hi2
       rw [List.getElem?_eq_getElem hi'] at e2
       exact ⟨_,pvals_sz h (-1) false hi2,Option.some.inj e1,by rw [Option.some.inj e2,hall i hi2]⟩
   rw [h0,show (!decide ((0:Int) = 0)) = false by decide,cond_false,cnd rfl,hA,Option.bind_some,cond_true,law15_awake_ok]
   rfl
 · rw [decide_eq_false h0, Bool.not_false, cond_true, cnd rfl, law15_awake_ok]
   rfl
end Go.Proofs.YthcpiofmhkhbeaaGreatDoor.X
