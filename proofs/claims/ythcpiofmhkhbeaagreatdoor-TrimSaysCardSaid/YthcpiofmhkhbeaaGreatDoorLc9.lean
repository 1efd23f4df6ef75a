/- Own work: part of the proof; the first line of each part says what it tells. -/
import Derived.Test.YthcpiofmhkhbeaaGreatDoorLc8


namespace Go.Proofs.YthcpiofmhkhbeaaGreatDoor.X
open Go
set_option linter.unusedVariables false
set_option linter.unusedSimpArgs false
def lfT (P:List AP) (v:Rat) (f i:Nat):Rat:=match P[i]? with
 | some p=>if p.1=f then sumP P i * (one0 p.2.2 - p.2.1) * v else 0
 | none=>0
def lfAdd (P:List AP) (v:Rat) (f:Nat):Rat:=rsum (lfT P v f) P.length
theorem lfT_at {P:List AP} {v:Rat} {f i:Nat} (h:i < P.length):lfT P v f i=if P[i].1=f then sumP P i * (one0 P[i].2.2 - P[i].2.1) * v else 0:=by
 simp only [lfT,List.getElem?_eq_getElem h]
def apF (p:AP):FP:=(p.1,fcP p)
theorem reachA_prod (P:List AP) (S:Nat):reachA S P=prodP (P.map apF) S:=by
 unfold reachA prodP
 rw [List.map_map]
 congr 1
theorem sumP_EE {P:List AP} {a:Nat} (h:a < P.length):sumP P a=EE ((outP1 P a).map fcP) fun k=>wq k ((outP1 P a).length+1):=by
 have hl:=outP1_len h
 rw [EE_rsum,List.length_map,hl]
 unfold sumP
 refine rsum_congr fun i _=>?_
 unfold wtP ekP
 rw [Rat.mul_comm,hl]
theorem reachA_perm {P Q:List AP} (h:P.Perm Q) (S:Nat):reachA S P=reachA S Q:=lprod_perm (h.map _)
theorem lfAdd_shap {P:List AP} {k n f:Nat} (h:PathP P k n) (hf:f < n) (v:Rat):lfAdd P v f=shapQ (fun S=>reachA S P * v) n f:=by
 rw [shapQ_mul]
 rcases find_ix (P:=P) (f:=f) with hn | ⟨a,ha,he,_⟩
 · have e1 : shapQ (fun S => reachA S P) n f = 0 := by
    have:(fun S=>reachA S P)=prodP (P.map apF):=funext fun S=>reachA_prod P S
    rw [this]
    refine shap_none fun hm=>?_
    rw [List.map_map] at hm
    obtain ⟨p,hp,e⟩:=List.mem_map.1 hm
    exact hn p hp e
   rw [e1,Rat.zero_mul]
   refine rsum_zeros fun i hi=>?_
   rw [lfT_at hi,if_neg (hn _ (List.getElem_mem hi))]
 · have hno := h.notin ha
   rw [he] at hno
   have ho:=h.out ha
   have e1:shapQ (fun S=>reachA S P) n f=(one0 P[a].2.2 - P[a].2.1) * sumP P a:=by
    have e2:(fun S=>reachA S P)=fun S=>pick (fcP P[a]) (S.testBit f) * prodP ((outP1 P a).map apF) S:=funext fun S=>by
      rw [reachA_perm (outP1_perm ha) S]
      show facP S P[a] * reachA S (outP1 P a)=_
      rw [reachA_prod,← he]
      rfl
    rw [e2,shap_prod hf (by rw [List.map_map];exact ho.nd) (fun p hp=>by
      obtain ⟨x,hx,rfl⟩:=List.mem_map.1 hp
      exact ho.lt x hx) (fun hm=>by
      rw [List.map_map] at hm
      obtain ⟨p,hp,e⟩:=List.mem_map.1 hm
      exact hno p hp e),sumP_EE ha]
    rw [List.map_map,List.length_map]
    rfl
   rw [e1]
   have hone:∀ i,i < P.length → i ≠ a → lfT P v f i=0:=fun i hi hne=>by
    rw [lfT_at hi]
    refine if_neg fun e=>hne ?_
    have hnd:=h.nd
    have hpw:=List.pairwise_iff_getElem.1 (show (P.map (·.1)).Pairwise (· ≠ ·) from hnd)
    rcases Nat.lt_trichotomy i a with hlt | heq | hlt
    · have h5 := hpw i a (by simpa using hi) (by simpa using ha) hlt
      simp [e,he] at h5
    · exact heq
    · have h5 := hpw a i (by simpa using ha) (by simpa using hi) hlt
      simp [e,he] at h5
   have key:∀ n,n ≤ P.length → rsum (lfT P v f) n=if a < n then lfT P v f a else 0:=by
    intro n
    induction n with
    | zero=>intro _;rw [if_neg (by omega)];rfl
    | succ n ih =>
      intro hn
      rw [rsum,ih (by omega)]
      by_cases e:n=a
      · subst e;rw [if_neg (by omega),if_pos (by omega),Rat.zero_add]
      · rw [hone n (by omega) e, Rat.add_zero]
        by_cases h1:a < n
        · rw [if_pos h1,if_pos (by omega)]
        · rw [if_neg h1,if_neg (by omega)]
   unfold lfAdd
   rw [key _ (Nat.le_refl _),if_pos ha,lfT_at ha,if_pos he]
   grind
theorem ekS8 {k n:Nat} (hk:k ≤ 70) (hn:n ≤ 8):ekS k n ≤ 20000:=by
 have h1:=ekS_mono k hn
 have h2:ekS k 8 ≤ ekS 70 8:=by
  have:∀ n,ekS k n ≤ ekS 70 n:=by
   intro n
   induction n with
   | zero=>exact Nat.le_refl _
   | succ n ih=>simp only [ekS];omega
  exact this 8
 have h3:ekS 70 8 ≤ 20000:=by decide +kernel
 omega
theorem rsum_szQ {f:Nat → Rat} {k:Nat}:∀ n,(∀ i,i < n → SzQ (f i) k) → SzQ (rsum f n) (1+n * (k+1)):=by
 intro n
 induction n with
 | zero=>intro _;exact SzQ.zero.mono (by omega)
 | succ n ih =>
  intro h
  have h1:=ih fun i hi=>h i (by omega)
  have e:(n+1) * (k+1)=n * (k+1)+(k+1):=Nat.succ_mul _ _
  exact (h1.add (h n (by omega))).mono (by omega)
theorem sumP_sz {P:List AP} {k g a:Nat} (h:PathP P k g) (hk:k ≤ 70) (hl:P.length ≤ 8) (ha:a < P.length):SzQ (sumP P a) 170000:=by
 have hS:=ekS8 (k:=k) (n:=(outP1 P a).length) hk (by have:=outP1_len ha;omega)
 have:=rsum_szQ (k:=20030) P.length (fun i hi=>(outW_sz h hk ha i hi).mono (by omega))
 refine this.mono ?_
 have:P.length * (20030+1) ≤ 8 * (20030+1):=Nat.mul_le_mul_right _ hl
 omega
theorem lfT_sz {P:List AP} {k g:Nat} {v:Rat} (h:PathP P k g) (hk:k ≤ 70) (hl:P.length ≤ 8) (hv:SzQ v 200) (f:Nat) {i:Nat} (hi:i < P.length):SzQ (lfT P v f i) 180000:=by
 rw [lfT_at hi]
 split
 · have h1 := sumP_sz h hk hl hi
   have h2:SzQ P[i].2.1 k:=h.sz _ (List.getElem_mem hi)
   have h3:=(one0_sz P[i].2.2).sub h2
   exact ((h1.mul h3).mul hv).mono (by omega)
 · exact SzQ.zero.mono (by omega)
theorem leaf_ok {t:List NODE} {row:List CELL} {fx:Int} {on:Bool} {n k:Nat} {P:List AP} (h:PathP P k n) (hk:k ≤ 70) (hl:P.length ≤ 8) {i:Nat} (hi:i < t.length) {gn:Rat} (hg:SzQ gn 100) (hs:TSz t 4)
  {o:Nat → Rat} (ho:∀ f,f < n → SzQ (o f) 100000000000) (hn:n < 1000000) (a4:Int) (a5:Bool) (a6 a7:List Int) (a8:Bool) :
  pathshap_walker_leaf (i:Int) (canQ gn).1.1 (canQ gn).1.2 (canQ gn).2 a4 a5 a6 a7 a8 t row fx on (flo n o) (encK P (wtP P)) =
   some (flo n (fun f=>o f+lfAdd P (gn * rv (nVal (nodeAt t i))) f),t,row,fx,on,encK P (wtP P)):=by
 obtain ⟨v,hv⟩:∃ v,v=gn * rv (nVal (nodeAt t i)):=⟨_,rfl⟩
 have zv:=(hs.at hi).2.1
 have m0:=ratio_Mul_ok (a:=canQ gn) (b:=nVal (nodeAt t i)) (hg.sm (by decide)) (zv.sm (by decide))
 rw [rv_canQ,← hv] at m0
 have vsz:SzQ v 200:=by rw [hv];exact (hg.mul (zv.szQ (by decide))).mono (by decide)
 rw [← hv]
 have key:=lp_up (step:=pathshap_walker_leaf_s3) (fun j=>((encW P,(P.length:Int),(j:Int),()),(((i:Int),(canQ gn).1.1,(canQ gn).1.2,(canQ gn).2,a4,a5,a6,a7,a8,()),((canQ v).1.1,(canQ v).1.2,(canQ v).2,()),(t,row,fx,on,flo n (fun f=>o f+rsum (lfT P v f) j),()),(encK P (wtP P),()),()))) P.length
  (r:=((),((t,row,fx,on,flo n (fun f=>o f+rsum (lfT P v f) P.length),()),(encK P (wtP P),()),()))) (by omega) (by
  intro g j hj
  have d0:(j:Int) < (P.length:Int):=by omega
  have d1:(0:Int) ≤ (j:Int):=by omega
  have d2:(j:Int) < ((encW P).length:Int):=by rw [encW_len];exact d0
  have g1:=encW_get hj
  have q1:iadd .i64 (j:Int) 1=((j+1:Nat):Int):=iadd1 (by omega)
  have s1:=Sum15_ok h hk hj
  have zp:SzQ P[j].2.1 k:=h.sz _ (List.getElem_mem hj)
  have n1:=ratio_Neg_ok (zp.sm (by omega))
  rw [rv_canQ] at n1
  have hfl:P[j].1 < n:=h.lt _ (List.getElem_mem hj)
  obtain ⟨F,hF⟩:∃ F,F=P[j].1:=⟨_,rfl⟩
  rw [← hF] at hfl
  have zn:SzQ (-P[j].2.1) (k+4):=by
   have:=SzQ.zero.sub zp
   rw [Rat.sub_eq_add_neg,Rat.zero_add] at this
   exact this.mono (by omega)
  have c1:(0:Int) ≤ ((F:Nat):Int):=by omega
  have c2:((F:Nat):Int) < ((flo n (fun f=>o f+rsum (lfT P v f) j)).length:Int):=by rw [flo_len];omega
  have g2:=flo_get (n:=n) (f:=F) (fun f=>o f+rsum (lfT P v f) j) hfl
  have zs:=sumP_sz h hk hl hj
  have zr:SzQ (o F+rsum (lfT P v F) j) 100010000000:=by
   have h1:SzQ (rsum (lfT P v F) j) (1+j * (180000+1)):=rsum_szQ j (fun i hi=>lfT_sz h hk hl vsz F (by omega))
   have:j * (180000+1) ≤ 8 * (180000+1):=Nat.mul_le_mul_right _ (by omega)
   exact ((ho F hfl).add h1).mono (by omega)
  have hset:∀ x,x=o F+rsum (lfT P v F) (j+1) → (flo n (fun f=>o f+rsum (lfT P v f) j)).set F (canQ x)=flo n (fun f=>o f+rsum (lfT P v f) (j+1)):=fun x hx=>by
   refine flo_set hx.symm fun f hf=>?_
   rw [rsum,lfT_at hj,if_neg (by rw [← hF];exact fun e=>hf e.symm),Rat.add_zero]
  show pathshap_walker_leaf_s3 g ((encW P,(P.length:Int),(j:Int),()),_)=_
  rw [pathshap_walker_leaf_s3,cnd d0,cnd2 d1 d2,Int.toNat_natCast,g1,Option.bind_some,q1,s1,Option.bind_some]
  show (ratio_Neg (canQ P[j].2.1)).bind _=_
  rw [n1,Option.bind_some]
  have e1:(encP P[j]).1=(F:Int):=by rw [hF];rfl
  have e2:(encP P[j]).2.2=P[j].2.2:=rfl
  rw [e1,e2]
  cases hok:P[j].2.2 with
  | true =>
   have a1:=ratio_Add_ok (SzQ.one.sm (by decide)) (zn.sm (by omega))
   rw [rv_canQ,rv_canQ,← Rat.sub_eq_add_neg] at a1
   have z1:SzQ (1 - P[j].2.1) 100:=(SzQ.one.sub zp).mono (by omega)
   have m1:=ratio_Mul_ok (zs.sm (by decide)) (z1.sm (by decide))
   rw [rv_canQ,rv_canQ] at m1
   have z2:SzQ (sumP P j * (1 - P[j].2.1)) 170100:=(zs.mul z1).mono (by omega)
   have m2:=ratio_Mul_ok (z2.sm (by decide)) (vsz.sm (by decide))
   rw [rv_canQ,rv_canQ] at m2
   have m2:ratio_Mul (canQ (sumP P j * (1 - P[j].2.1))) (((canQ v).1.1,(canQ v).1.2),(canQ v).2)=_:=m2
   have z3:SzQ (sumP P j * (1 - P[j].2.1) * v) 170300:=(z2.mul vsz).mono (by omega)
   have a2:=ratio_Add_ok (zr.sm (by decide)) (z3.sm (by decide))
   rw [rv_canQ,rv_canQ] at a2
   have hx:=hset (o F+rsum (lfT P v F) j+sumP P j * (1 - P[j].2.1) * v) (by
    rw [rsum,lfT_at hj,if_pos hF.symm,hok];simp only [one0,if_true];grind)
   rw [cond_true,ratio_One_ok,Option.bind_some,a1,Option.bind_some,cnd2 c1 c2,Int.toNat_natCast,g2,Option.bind_some,m1,Option.bind_some,m2,Option.bind_some,a2,Option.bind_some,cnd2 c1 c2,Option.bind_some,hx]
  | false =>
   have m1:=ratio_Mul_ok (zs.sm (by decide)) (zn.sm (by omega))
   rw [rv_canQ,rv_canQ] at m1
   have z2:SzQ (sumP P j * (-P[j].2.1)) 170100:=(zs.mul zn).mono (by omega)
   have m2:=ratio_Mul_ok (z2.sm (by decide)) (vsz.sm (by decide))
   rw [rv_canQ,rv_canQ] at m2
   have m2:ratio_Mul (canQ (sumP P j * (-P[j].2.1))) (((canQ v).1.1,(canQ v).1.2),(canQ v).2)=_:=m2
   have z3:SzQ (sumP P j * (-P[j].2.1) * v) 170300:=(z2.mul vsz).mono (by omega)
   have a2:=ratio_Add_ok (zr.sm (by decide)) (z3.sm (by decide))
   rw [rv_canQ,rv_canQ] at a2
   have hx:=hset (o F+rsum (lfT P v F) j+sumP P j * (-P[j].2.1) * v) (by
    rw [rsum,lfT_at hj,if_pos hF.symm,hok];simp only [one0,Bool.false_eq_true,if_false];grind)
   rw [cond_false,cnd2 c1 c2,Int.toNat_natCast,g2,Option.bind_some,m1,Option.bind_some,m2,Option.bind_some,a2,Option.bind_some,cnd2 c1 c2,Option.bind_some,hx]) (by
  intro g
  rw [pathshap_walker_leaf_s3,cnd' (by omega)])
 have e0:flo n (fun f=>o f+rsum (lfT P v f) 0)=flo n o:=flo_congr fun f _=>Rat.add_zero _
 rw [e0] at key
 have key:lp pathshap_walker_leaf_s3 K0 ((encW P,(P.length:Int),0,()),(((i:Int),(canQ gn).1.1,(canQ gn).1.2,(canQ gn).2,a4,a5,a6,a7,a8,()),((canQ v).1.1,(canQ v).1.2,(canQ v).2,()),(t,row,fx,on,flo n o,()),(encK P (wtP P),()),()))=_:=key
 have m0:ratio_Mul (((canQ gn).1.1,(canQ gn).1.2),(canQ gn).2) t[i].2.2.2.2.2.2.1=some (canQ v):=by
  rw [nodeAt_get hi] at m0;exact m0
 rw [pathshap_walker_leaf,cnd (by omega),Int.toNat_natCast,List.getElem?_eq_getElem hi,Option.bind_some,m0,Option.bind_some,Parts15_ok (by omega),Option.bind_some]
 dsimp only
 rw [encW_len,key,Option.bind_some]
 dsimp only
 rw [flo_len,flo_len,Nat.beq_refl,cond_true,Option.bind_some]
 rfl
def kOn (t:List NODE) (row:List CELL) (fx:Int) (on:Bool) (i:Nat) (side:Bool):Bool:=if nFeat (nodeAt t i)=fx then (if on then goL t row i == side else true) else true
def kG (t:List NODE) (fx:Int) (on:Bool) (i c:Nat) (g:Rat):Rat:=if nFeat (nodeAt t i)=fx then (if on then g else g * (cov t c / cov t i)) else g
def kF (t:List NODE) (fx:Int) (i:Nat):Int:=if nFeat (nodeAt t i)=fx then -1 else nFeat (nodeAt t i)
def kW (t:List NODE) (row:List CELL) (fx:Int) (i c:Nat) (side:Bool) (w:List AP):List AP:=if nFeat (nodeAt t i)=fx then w else along (featT t i) (cov t c / cov t i) (goL t row i == side) w
abbrev PL:=Rat×List AP
def legsF (t:List NODE) (row:List CELL) (fx:Int) (on:Bool):TR → List AP → Rat → List PL
 | .leaf i,w,g=>[(g * rv (nVal (nodeAt t i)),w)]
 | .split i l r,w,g =>
  (if kOn t row fx on i true then legsF t row fx on l (kW t row fx i l.top true w) (kG t fx on i l.top g) else []) ++
  (if kOn t row fx on i false then legsF t row fx on r (kW t row fx i r.top false w) (kG t fx on i r.top g) else [])
def visF (t:List NODE) (row:List CELL) (fx:Int) (on:Bool):TR → Nat
 | .leaf i=>1
 | .split i l r=>1+(if kOn t row fx on i true then visF t row fx on l else 0)+(if kOn t row fx on i false then visF t row fx on r else 0)
theorem visF_pos (t:List NODE) (row:List CELL) (fx:Int) (on:Bool) (T:TR):0 < visF t row fx on T:=by cases T <;> simp [visF];omega
theorem visF_le (t:List NODE) (row:List CELL) (fx:Int) (on:Bool) (T:TR):visF t row fx on T ≤ T.size:=by
 induction T with
 | leaf i=>simp [visF,TR.size]
 | split i l r ihl ihr =>
  simp only [visF,TR.size]
  split <;> split <;> omega
structure IT where
 T:TR
 P:List AP
 g:Rat
 s:PART
 w:List AP
abbrev ITE:=Int×(Option ((Option (List (Int×RAT×CELL)))×Unit))×RAT×PART
def encI (x:IT):ITE:=((x.T.top:Int),some (some (encK x.P (wtP x.P)),()),canQ x.g,x.s)
def GoodI (t:List NODE) (n:Nat) (x:IT):Prop:=∃ m,Is t (n:Int) x.T∧m+x.T.deep ≤ 8∧SzQ x.g (8 * m+1)∧SortA x.w ∧
 ((x.s.1 = -1 ∧ PathP x.P (8 * m + 1) n ∧ x.P.length ≤ m ∧ x.P.Perm x.w) ∨
  ∃ (m' f:Nat) (q:Rat) (ok:Bool) (w0:List AP),m=m'+1∧x.s=((f:Int),canQ q,ok)∧f < n∧SzQ q 8∧0 < q∧PathP x.P (8 * m'+1) n∧x.P.length ≤ m'∧x.P.Perm w0∧SortA w0∧x.w=along f q ok w0)
theorem GoodI.join {t:List NODE} {n:Nat} {x:IT} (h:GoodI t n x) (hn:n < 1000000):∃ (m:Nat) (P':List AP),Is t (n:Int) x.T∧m+x.T.deep ≤ 8∧SzQ x.g (8 * m+1)∧SortA x.w∧PathP P' (8 * m+1) n∧P'.length ≤ m∧P'.Perm x.w ∧
   pathshap_place_join (x.T.top:Int) (canQ x.g).1.1 (canQ x.g).1.2 (canQ x.g).2 x.s.1 x.s.2.1.1.1 x.s.2.1.1.2 x.s.2.1.2 x.s.2.2 (encK x.P (wtP x.P)) =
    some ((x.T.top:Int),(canQ x.g).1.1,(canQ x.g).1.2,(canQ x.g).2,x.s.1,x.s.2.1.1.1,x.s.2.1.1.2,x.s.2.1.2,x.s.2.2,encK P' (wtP P')):=by
 obtain ⟨m,h1,h2,h3,h4,h5⟩:=h
 have hd:=x.T.deep_pos
 rcases h5 with ⟨a1,a2,a3,a4⟩ | ⟨m',f,q,ok,w0,b1,b2,b3,b4,b5,b6,b7,b8,b9,b10⟩
 · refine ⟨m, x.P, h1, h2, h3, h4, a2, a3, a4, ?_⟩
   rw [a1,pathshap_place_join,cnd (by omega)]
 · subst b1
   obtain ⟨P',p1,p2,p3,p4⟩:=join_ok b6 b8 b9 (ok:=ok) b3 hn b4 b5 b7 (by omega) (x.T.top:Int) (canQ x.g).1.1 (canQ x.g).1.2 (canQ x.g).2
   refine ⟨m'+1,P',h1,h2,h3,h4,p2,p3,by rw [b10];exact p1,?_⟩
   rw [b2]
   exact p4
def kid (t:List NODE) (row:List CELL) (fx:Int) (on:Bool) (i:Nat) (side:Bool) (c:TR) (P w:List AP) (g:Rat):IT :=
 ⟨c,P,kG t fx on i c.top g,(kF t fx i,canQ (cov t c.top / cov t i),goL t row i == side),kW t row fx i c.top side w⟩
theorem kid_good {t:List NODE} {row:List CELL} {fx:Int} {on:Bool} {n i m:Nat} {side:Bool} {c:TR} {P w:List AP} {g:Rat} (hs:TSz t 4) (hcov:CoversP t) (hi:i < t.length) (f0:0 ≤ nFeat t[i]) (f1:nFeat t[i] < (n:Int)) (hc:Is t (n:Int) c)
   (hm:m+1+c.deep ≤ 8) (hg:SzQ g (8 * m+1)) (hw:SortA w) (hP:PathP P (8 * m+1) n) (hl:P.length ≤ m) (hpw:P.Perm w):GoodI t n (kid t row fx on i side c P w g):=by
 have hsh:=share_sz hs hc.top_lt hi
 refine ⟨m+1,hc,hm,?_,?_,?_⟩
 · show SzQ (kG t fx on i c.top g) _
   unfold kG
   split
   · split
     · exact hg.mono (by omega)
     · exact (hg.mul hsh).mono (by omega)
   · exact hg.mono (by omega)
 · show SortA (kW t row fx i c.top side w)
   unfold kW
   split
   · exact hw
   · exact along_sort hw
 · by_cases hf : nFeat (nodeAt t i) = fx
   · refine .inl ⟨?_, hP.mono (by omega), by show P.length ≤ _; omega, ?_⟩
     · show kF t fx i = -1
       exact if_pos hf
     · show P.Perm (kW t row fx i c.top side w)
       rw [kW,if_pos hf];exact hpw
   · refine .inr ⟨m, featT t i, cov t c.top / cov t i, goL t row i == side, w, rfl, ?_, ?_, hsh, ?_, hP, hl, hpw, hw, ?_⟩
     · show (kF t fx i, _, _) = _
       rw [kF,if_neg hf,featT,nodeAt_get hi]
       rw [show ((((nFeat t[i]).toNat:Nat)):Int)=nFeat t[i] by omega]
     · rw [featT,nodeAt_get hi];omega
     · have h1 : 0 < cov t c.top := by have := hcov c.top hc.top_lt; rwa [← cov_get hc.top_lt] at this
       have h2:0 < cov t i:=by have:=hcov i hi;rwa [← cov_get hi] at this
       rw [Rat.div_def]
       exact Rat.mul_pos h1 (Rat.inv_pos.2 h2)
     · show kW t row fx i c.top side w = _
       exact if_neg hf
theorem Copy15_ok {P:List AP} {w:Nat → Rat} (hl:P.length ≤ 1000000):pathshap_Path_Copy (encK P w)=some (encK P w,encK P w):=by
 rw [pathshap_Path_Copy,blt (by rw [encK_len];simp;omega),cond_true,List.nil_append]
theorem child_ok {t:List NODE} {row:List CELL} {fx:Int} {on:Bool} {i:Nat} {c:TR} {P w:List AP} {W:Nat → Rat} {g:Rat} {m:Nat} (hs:TSz t 4) (hc:CSz row 9) (hcov:CoversP t) (hi:i < t.length) (hleaf:nLeaf t[i]=false) (f0:0 ≤ nFeat t[i]) (f1:nFeat t[i] < (row.length:Int))
   (hl:c.top < t.length) (hP:P.length ≤ 1000000) (hg:SzQ g 1000) (side:Bool) (out:List RAT) (a4:Int) (a5:Bool) (a6 a7:List Int) (a8:Bool) :
   pathshap_walker_child (i:Int) (canQ g).1.1 (canQ g).1.2 (canQ g).2 a4 a5 a6 a7 a8 (c.top:Int) side t row fx on out (encK P W) =
    some (out,(c.top:Int),(canQ (kG t fx on i c.top g)).1.1,(canQ (kG t fx on i c.top g)).1.2,(canQ (kG t fx on i c.top g)).2,kF t fx i,(canQ (cov t c.top / cov t i)).1.1,(canQ (cov t c.top / cov t i)).1.2,(canQ (cov t c.top / cov t i)).2,(goL t row i == side),kOn t row fx on i side,t,row,fx,on,encK P W,encK P W):=by
 obtain ⟨cc,g1,g2,g3⟩:=goL_ok (f:=0) hs hc hi f0 f1
 have z:=hs _ (List.getElem_mem hi)
 have zl:=hs _ (List.getElem_mem hl)
 have hne:rv (nCov t[i]) ≠ 0:=by have:=hcov.ne i hi;rwa [cov_get hi] at this
 have d1:=ratio_Div_ok (a:=nCov t[c.top]) (b:=nCov t[i]) (zl.2.2.sm (by decide)) (z.2.2.sm (by decide))
 rw [if_neg hne,← cov_get hl,← cov_get hi] at d1
 have hsh:=share_sz hs hl hi
 have hb:∀ {α:Type} {a b:α},(bif Nat.beq out.length out.length then a else b)=a:=fun {α a b}=>by rw [Nat.beq_refl,cond_true]
 have hfe:nFeat (nodeAt t i)=t[i].2.1:=by rw [nodeAt_get hi]
 have hgl:(!nLeaf t[i] && goes t[i] cc)=goL t row i:=by rw [hleaf,Bool.not_false,Bool.true_and,g3]
 rw [pathshap_walker_child,cnd (by omega),Int.toNat_natCast,List.getElem?_eq_getElem hi,Option.bind_some,cnd (by omega),Int.toNat_natCast,List.getElem?_eq_getElem hl,Option.bind_some]
 show (ratio_Div (nCov t[c.top]) (nCov t[i])).bind _=_
 rw [d1,Option.bind_some,cnd (by exact f0)]
 show ((row[(nFeat t[i]).toNat]?).bind _)=_
 rw [g1,Option.bind_some,Left_ok z.1 (by decide) g2 (by decide),Option.bind_some,hgl,Copy15_ok hP,Option.bind_some]
 by_cases hf:nFeat (nodeAt t i)=fx
 · have e1 : (!decide (t[i].2.1 = fx)) = false := by rw [← hfe, decide_eq_true hf]; rfl
   have e2:kF t fx i=-1:=if_pos hf
   rw [e1,cond_false,e2]
   cases on with
   | true =>
    have e3:kG t fx true i c.top g=g:=by rw [kG,if_pos hf];rfl
    have e4:kOn t row fx true i side=(goL t row i == side):=by rw [kOn,if_pos hf];rfl
    rw [cond_true,hb,Option.bind_some,e3,e4]
   | false =>
    have e3:kG t fx false i c.top g=g * (cov t c.top / cov t i):=by rw [kG,if_pos hf];rfl
    have e4:kOn t row fx false i side=true:=by rw [kOn,if_pos hf];rfl
    have m1:=ratio_Mul_ok (hg.sm (by decide)) (hsh.sm (by decide))
    rw [rv_canQ,rv_canQ] at m1
    have m1:ratio_Mul (((canQ g).1.1,(canQ g).1.2),(canQ g).2) (canQ (cov t c.top / cov t i))=_:=m1
    rw [cond_false,m1,Option.bind_some,hb,Option.bind_some,e3,e4]
 · have e1 : (!decide (t[i].2.1 = fx)) = true := by rw [← hfe, decide_eq_false hf]; rfl
   have e2:kF t fx i=t[i].2.1:=by rw [kF,if_neg hf,hfe]
   have e3:kG t fx on i c.top g=g:=if_neg hf
   have e4:kOn t row fx on i side=true:=if_neg hf
   rw [e1,cond_true,hb,Option.bind_some,e2,e3,e4]
def kidsL (t:List NODE) (row:List CELL) (fx:Int) (on:Bool) (i:Nat) (l r:TR) (P w:List AP) (g:Rat):List IT :=
 (if kOn t row fx on i false then [kid t row fx on i false r P w g] else []) ++ (if kOn t row fx on i true then [kid t row fx on i true l P w g] else [])
theorem kids_ok {t:List NODE} {row:List CELL} {fx:Int} {on:Bool} {i:Nat} {l r:TR} {P w:List AP} {g:Rat} (hs:TSz t 4) (hc:CSz row 9) (hcov:CoversP t) (hi:i < t.length) (hleaf:nLeaf t[i]=false) (f0:0 ≤ nFeat t[i]) (f1:nFeat t[i] < (row.length:Int))
  (hl:l.top < t.length) (hr:r.top < t.length) (hP:P.length ≤ 1000000) (hg:SzQ g 1000) (out:List RAT) (a4:Int) (a5:Bool) (a6 a7:List Int) (a8:Bool) (c0:Bool) (c1:Int) (c2:Bool) (c3 c4:List Int) (c7 c8:Bool) (c9 c10:List Int) (c11:Bool) (c12 c13:List Int)
  (base:List ITE) (hb:base.length ≤ 1000000) :
  lp pathshap_walker_walk_s9 K0 (((false,(true,())),0,()),(((i:Int),(canQ g).1.1,(canQ g).1.2,(canQ g).2,a4,a5,a6,a7,a8,()),(c0,c1,c2,c3,c4,(l.top:Int),(r.top:Int),c7,c8,c9,c10,c11,c12,c13,()),(encK P (wtP P),()),(t,row,fx,on,out,base,()),())) =
    some ((),((t,row,fx,on,out,base ++ (kidsL t row fx on i l r P w g).map encI,()),())):=by
 obtain ⟨A,eA⟩:∃ A:List IT,A=if kOn t row fx on i false then [kid t row fx on i false r P w g] else []:=⟨_,rfl⟩
 obtain ⟨B,eB⟩:∃ B:List IT,B=if kOn t row fx on i true then [kid t row fx on i true l P w g] else []:=⟨_,rfl⟩
 have eK:kidsL t row fx on i l r P w g=A ++ B:=by rw [eA,eB];rfl
 have lA:A.length ≤ 1:=by rw [eA];split <;> simp
 obtain ⟨K,hK⟩:∃ K:Nat → List ITE,K=fun j=>if j=0 then [] else if j=1 then A.map encI else (A ++ B).map encI:=⟨_,rfl⟩
 have K0':K 0=[]:=by rw [hK];rfl
 have K1:K 1=A.map encI:=by rw [hK];rfl
 have K2:K 2=(A ++ B).map encI:=by rw [hK];rfl
 have ov:over out 0 out=out:=over_all rfl
 have hc1:=fun side=>child_ok (fx:=fx) (on:=on) (c:=r) (P:=P) (w:=w) (W:=wtP P) (g:=g) (m:=0) hs hc hcov hi hleaf f0 f1 hr hP hg side out a4 a5 a6 a7 a8
 have hc2:=fun side=>child_ok (fx:=fx) (on:=on) (c:=l) (P:=P) (w:=w) (W:=wtP P) (g:=g) (m:=0) hs hc hcov hi hleaf f0 f1 hl hP hg side out a4 a5 a6 a7 a8
 have key:=lp_up (step:=pathshap_walker_walk_s9) (fun j=>(((false,(true,())),(j:Int),()),(((i:Int),(canQ g).1.1,(canQ g).1.2,(canQ g).2,a4,a5,a6,a7,a8,()),(c0,c1,c2,c3,c4,(l.top:Int),(r.top:Int),c7,c8,c9,c10,c11,c12,c13,()),(encK P (wtP P),()),(t,row,fx,on,out,base ++ K j,()),()))) 2
  (r:=((),((t,row,fx,on,out,base ++ K 2,()),()))) (by omega) (by
  intro g' j hj
  have hj2:j=0 ∨ j=1:=by omega
  rcases hj2 with rfl | rfl
  · rw [pathshap_walker_walk_s9, cnd (by omega), cnd (by omega)]
    show ((([false,true]:List Bool)[0]?).bind _)=_
    rw [show (([false,true]:List Bool)[0]?)=some false from rfl,Option.bind_some,cond_false,hc1 false,Option.bind_some]
    dsimp only
    rw [K0',List.append_nil,show ((0+1:Nat))=1 from rfl,K1,ov]
    cases hk:kOn t row fx on i false with
    | true =>
     have eA':A=[kid t row fx on i false r P w g]:=by rw [eA,hk];rfl
     rw [cond_true,blt (by simp;omega),cond_true,eA']
     rfl
    | false =>
     have eA':A=[]:=by rw [eA,hk];rfl
     rw [cond_false,eA',List.map_nil,List.append_nil]
     rfl
  · rw [pathshap_walker_walk_s9, cnd (by omega), cnd (by omega)]
    show ((([false,true]:List Bool)[1]?).bind _)=_
    rw [show (([false,true]:List Bool)[1]?)=some true from rfl,Option.bind_some,cond_true,hc2 true,Option.bind_some]
    dsimp only
    rw [show ((1+1:Nat))=2 from rfl,K1,K2,ov]
    cases hk:kOn t row fx on i true with
    | true =>
     have eB':B=[kid t row fx on i true l P w g]:=by rw [eB,hk];rfl
     rw [cond_true,blt (by simp;omega),cond_true,eB',List.map_append,← List.append_assoc]
     rfl
    | false =>
     have eB':B=[]:=by rw [eB,hk];rfl
     rw [cond_false,eB',List.append_nil]
     rfl) (by
  intro g'
  rw [pathshap_walker_walk_s9,cnd' (by omega)])
 rw [K0',K2,← eK,List.append_nil] at key
 exact key
def totL (n f:Nat) (l:List PL):Rat:=lsum (l.map fun y=>shapQ (fun S=>reachA S y.2 * y.1) n f)
theorem totL_append (n f:Nat) (a b:List PL):totL n f (a ++ b)=totL n f a+totL n f b:=by rw [totL,List.map_append,lsum_append];rfl
def totI (t:List NODE) (row:List CELL) (fx:Int) (on:Bool) (n f:Nat) (x:IT):Rat:=totL n f (legsF t row fx on x.T x.w x.g)
def visL (t:List NODE) (row:List CELL) (fx:Int) (on:Bool):List IT → Nat
 | []=>0
 | x :: L=>visF t row fx on x.T+visL t row fx on L
theorem visL_append (t:List NODE) (row:List CELL) (fx:Int) (on:Bool) (a b:List IT):visL t row fx on (a ++ b)=visL t row fx on a+visL t row fx on b:=by
 induction a with
 | nil=>simp [visL]
 | cons x a ih=>simp only [List.cons_append,visL,ih];omega
theorem visL_len (t:List NODE) (row:List CELL) (fx:Int) (on:Bool) (a:List IT):a.length ≤ visL t row fx on a:=by
 induction a with
 | nil=>simp [visL]
 | cons x a ih=>have:=visF_pos t row fx on x.T;simp only [List.length_cons,visL];omega
theorem kids_vis (t:List NODE) (row:List CELL) (fx:Int) (on:Bool) (i:Nat) (l r:TR) (P w:List AP) (g:Rat) :
  visF t row fx on (.split i l r)=1+visL t row fx on (kidsL t row fx on i l r P w g):=by
 rw [kidsL,visL_append]
 simp only [visF]
 cases kOn t row fx on i true <;> cases kOn t row fx on i false <;> simp [visL,kid] <;> omega
theorem kids_tot (t:List NODE) (row:List CELL) (fx:Int) (on:Bool) (n f i:Nat) (l r:TR) (P w:List AP) (g:Rat) :
   totL n f (legsF t row fx on (.split i l r) w g)=lsum ((kidsL t row fx on i l r P w g).map (totI t row fx on n f)):=by
 rw [kidsL,List.map_append,lsum_append]
 simp only [legsF]
 rw [totL_append,Rat.add_comm]
 congr 1
 · cases kOn t row fx on i false
   · rfl
   · simp only [if_true,List.map_cons,List.map_nil,lsum,Rat.add_zero];rfl
 · cases kOn t row fx on i true
   · rfl
   · simp only [if_true,List.map_cons,List.map_nil,lsum,Rat.add_zero];rfl
theorem walk15_ok {t:List NODE} {row:List CELL} {fx:Int} {on:Bool} {T:TR} {o:Nat → Rat} (hs:TSz t 4) (hc:CSz row 9) (hcov:CoversP t) (hT:Is t (row.length:Int) T) (h0:T.top=0) (hd:T.deep ≤ 8) (hz:T.size ≤ 100) (hrl:row.length ≤ 64)
  {S:Nat} (ho:∀ f,f < row.length → SzQ (o f) S) (hS:S ≤ 50000000000) :
  (∃ st,pathshap_walker_walk t row fx on (flo row.length o) []=some (flo row.length (fun f=>o f+totL row.length f (legsF t row fx on T [] 1)),t,row,fx,on,st))∧∀ f,f < row.length → SzQ (o f+totL row.length f (legsF t row fx on T [] 1)) (S+200000000):=by
 obtain ⟨n,hn⟩:∃ n,n=row.length:=⟨_,rfl⟩
 obtain ⟨N,hN⟩:∃ N,N=visF t row fx on T:=⟨_,rfl⟩
 have hN2:N ≤ 100:=by rw [hN];exact Nat.le_trans (visF_le _ _ _ _ _) hz
 obtain ⟨x0,hx0⟩:∃ x0:IT,x0=⟨T,[],1,(-1,(((false,[]),[]),false)),[]⟩:=⟨_,rfl⟩
 have t0:∀ f,totI t row fx on n f x0=totL n f (legsF t row fx on T [] 1):=fun f=>by rw [hx0];rfl
 have hg0:GoodI t n x0:=by
  refine ⟨0,by rw [hx0,hn];exact hT,by rw [hx0];show 0+T.deep ≤ 8;omega,by rw [hx0];exact SzQ.one,by rw [hx0];exact List.Pairwise.nil,.inl ⟨by rw [hx0],?_,by simp [hx0],by simp [hx0]⟩⟩
  rw [hx0]
  exact ⟨List.Pairwise.nil,fun p hp=>absurd hp (by simp),by simp,fun p hp=>absurd hp (by simp),fun p hp=>absurd hp (by simp)⟩
 rw [← hn]
 obtain ⟨res,hres,hlp⟩:=lp_inv (step:=pathshap_walker_walk_s1)
  (fun j v=>∃ (L:List IT) (o':Nat → Rat),v=((),((t,row,fx,on,flo n o',L.map encI,()),()))∧(∀ x ∈ L,GoodI t n x)∧j+visL t row fx on L=N∧(∀ f,f < n → SzQ (o' f) (S+2000000 * j))∧∀ f,f < n → o' f+lsum (L.map (totI t row fx on n f))=o f+totI t row fx on n f x0)
  (fun r=>(∃ (st:List ITE),r=((),((t,row,fx,on,flo n (fun f=>o f+totI t row fx on n f x0),st,()),())))∧∀ f,f < n → SzQ (o f+totI t row fx on n f x0) (S+200000000)) N
  (v:=((),((t,row,fx,on,flo n o,[x0].map encI,()),())))
  ⟨[x0],o,rfl,fun x hx=>by rw [List.mem_singleton.1 hx];exact hg0,by simp only [visL,hx0];omega,fun f hf=>(ho f (by omega)).mono (by omega),fun f hf=>by simp only [List.map_cons,List.map_nil,lsum,Rat.add_zero]⟩
  (by omega)
  (by
   rintro j v hj ⟨L,o',rfl,hL,hv,hsz,htot⟩
   rcases List.eq_nil_or_concat L with rfl | ⟨L0,x,rfl⟩
   · simp only [visL] at hv;omega
   rw [List.concat_eq_append] at *
   have hx:GoodI t n x:=hL x (by simp)
   obtain ⟨m,P',j1,j2,j3,j4,j5,j6,j7,j8⟩:=hx.join (by omega)
   rw [visL_append] at hv
   simp only [visL,Nat.add_zero] at hv
   have hvp:=visF_pos t row fx on x.T
   have hvl:=visL_len t row fx on L0
   obtain ⟨base,hbase⟩:∃ base,base=L0.map encI:=⟨_,rfl⟩
   have lb:base.length=L0.length:=by rw [hbase];simp
   have eS:(L0 ++ [x]).map encI=base ++ [encI x]:=by rw [hbase];simp
   have hi:=j1.top_lt
   have qS:∀ y:ITE,isub .i64 ((base ++ [y]).length:Int) 1=(base.length:Int):=fun y=>by
     rw [List.length_append,List.length_singleton,isub_i (by omega) (by omega)];omega
   have gS:(base ++ [encI x])[base.length]?=some (encI x):=by simp
   have sS:∀ y,(base ++ [encI x]).set base.length y=base ++ [y]:=fun y=>by simp
   have cS:∀ y:ITE,(decide ((0:Int) ≤ (base.length:Int)) && decide (((base.length:Int):Int) ≤ (base.length:Int)) && decide (((base.length:Int):Int) ≤ ((base ++ [y]).length:Int)))=true:=fun y=>by
     simp only [Bool.and_eq_true,decide_eq_true_eq,List.length_append,List.length_singleton];omega
   have tS:∀ y:ITE,(base ++ [y]).take (((base.length:Int) - 0).toNat)=base:=fun y=>by
     rw [show ((base.length:Int) - 0).toNat=base.length by omega];simp
   have hpos:(((base ++ [encI x]).length:Nat):Int) > 0:=by rw [List.length_append,List.length_singleton];omega
   have d2:(base.length:Int) < (((base ++ [encI x]).length:Nat):Int):=by rw [List.length_append,List.length_singleton];omega
   have walkE:∀ g,pathshap_walker_walk_s1 g ((),((t,row,fx,on,flo n o',(L0 ++ [x]).map encI,()),())) =
       bif t[x.T.top].1 then ((pathshap_walker_leaf (x.T.top:Int) (canQ x.g).1.1 (canQ x.g).1.2 (canQ x.g).2 x.s.1 x.s.2.1.1.1 x.s.2.1.1.2 x.s.2.1.2 x.s.2.2 t row fx on (flo n o') (encK P' (wtP P'))).bind fun r8=>g ((()),((r8.2.1,r8.2.2.1,r8.2.2.2.1,r8.2.2.2.2.1,(over (flo n o') 0 r8.1),base,()),())))
       else ((lp pathshap_walker_walk_s9 K0 (((false,(true,())),0,()),(((x.T.top:Int),(canQ x.g).1.1,(canQ x.g).1.2,(canQ x.g).2,x.s.1,x.s.2.1.1.1,x.s.2.1.1.2,x.s.2.1.2,x.s.2.2,()),(t[x.T.top].1,t[x.T.top].2.1,t[x.T.top].2.2.1.1.1,t[x.T.top].2.2.1.1.2,t[x.T.top].2.2.1.2,t[x.T.top].2.2.2.1,t[x.T.top].2.2.2.2.1,t[x.T.top].2.2.2.2.2.1,t[x.T.top].2.2.2.2.2.2.1.1.1,t[x.T.top].2.2.2.2.2.2.1.1.2,t[x.T.top].2.2.2.2.2.2.1.2,t[x.T.top].2.2.2.2.2.2.2.1.1,t[x.T.top].2.2.2.2.2.2.2.1.2,t[x.T.top].2.2.2.2.2.2.2.2,()),(encK P' (wtP P'),()),(t,row,fx,on,flo n o',base,()),()))).bind fun t12=>g ((()),((t12.2.1.1,t12.2.1.2.1,t12.2.1.2.2.1,t12.2.1.2.2.2.1,t12.2.1.2.2.2.2.1,t12.2.1.2.2.2.2.2.1,()),()))):=fun g=>by
     rw [pathshap_walker_walk_s1,eS,cnd hpos,qS,cnd2 (by omega) d2,Int.toNat_natCast,gS,Option.bind_some]
     show ((some (some (encK x.P (wtP x.P)),()):Option ((Option (List (Int×RAT×CELL)))×Unit)).bind _)=_
     rw [Option.bind_some]
     show ((some (encK x.P (wtP x.P)):Option (List (Int×RAT×CELL))).bind _)=_
     rw [Option.bind_some,sS,qS,cS,cond_true,tS]
     show (pathshap_place_join (x.T.top:Int) (canQ x.g).1.1 (canQ x.g).1.2 (canQ x.g).2 x.s.1 x.s.2.1.1.1 x.s.2.1.1.2 x.s.2.1.2 x.s.2.2 (encK x.P (wtP x.P))).bind _=_
     rw [j8,Option.bind_some]
     dsimp only
     rw [cnd (by omega),Int.toNat_natCast,List.getElem?_eq_getElem hi,Option.bind_some]
   have hm7:m ≤ 7:=by have:=x.T.deep_pos;omega
   cases hxT:x.T with
   | leaf i =>
     rw [hxT] at j1 j2 hi hv
     simp only [hxT] at walkE
     obtain ⟨i1,i2⟩:=j1
     have hlf:=leaf_ok (t:=t) (row:=row) (fx:=fx) (on:=on) j5 (by omega) (by omega) i1 (j3.mono (by omega)) hs (o:=o') (fun f hf=>(hsz f hf).mono (by omega)) (by omega) x.s.1 x.s.2.1.1.1 x.s.2.1.1.2 x.s.2.1.2 x.s.2.2
     obtain ⟨v,hv'⟩:∃ v,v=x.g * rv (nVal (nodeAt t i)):=⟨_,rfl⟩
     rw [← hv'] at hlf
     have hvz:SzQ v 200:=by rw [hv'];exact ((j3.mono (show 8 * m+1 ≤ 100 by omega)).mul ((hs.at i1).2.1.szQ (by decide))).mono (by decide)
     refine ⟨((),((t,row,fx,on,flo n (fun f=>o' f+lfAdd P' v f),L0.map encI,()),())),⟨L0,_,rfl,fun y hy=>hL y (by simp [hy]),by simp only [visF] at hv;omega,fun f hf=>?_,fun f hf=>?_⟩,fun g=>?_⟩
     · have h1 := rsum_szQ (k := 180000) P'.length (fun i hi => lfT_sz j5 (by omega) (by omega) hvz f hi)
       have h1:SzQ (lfAdd P' v f) _:=h1
       have:P'.length * (180000+1) ≤ 8 * (180000+1):=Nat.mul_le_mul_right _ (by omega)
       exact ((hsz f hf).add h1).mono (by omega)
     · have e := htot f hf
       rw [List.map_append,lsum_append] at e
       simp only [List.map_cons,List.map_nil,lsum,Rat.add_zero] at e
       have e2:totI t row fx on n f x=lfAdd P' v f:=by
         rw [totI,hxT,lfAdd_shap j5 hf]
         simp only [legsF,totL,List.map_cons,List.map_nil,lsum,Rat.add_zero]
         rw [← hv']
         refine shapQ_congr hf fun S _=>?_
         rw [reachA_perm j7]
       rw [e2] at e
       rw [← e];grind
     · rw [walkE g]
       show (bif t[i].1 then _ else _)=_
       rw [show t[i].1=true from i2,cond_true]
       show (pathshap_walker_leaf (i:Int) _ _ _ _ _ _ _ _ _ _ _ _ _ _).bind _=_
       rw [hlf,Option.bind_some]
       dsimp only
       rw [over_all (by rw [flo_len,flo_len]),hbase]
   | split i l r =>
     rw [hxT] at j1 j2 hi hv
     simp only [hxT,TR.top] at walkE
     obtain ⟨i1,i2,f0,f1,i3,i4,i5,i6⟩:=j1
     simp only [TR.deep] at j2
     have hkd:=kids_ok (t:=t) (row:=row) (fx:=fx) (on:=on) (i:=i) (l:=l) (r:=r) (P:=P') (w:=x.w) (g:=x.g) hs hc hcov i1 i2 f0 (by omega) i5.top_lt i6.top_lt (by omega) (j3.mono (by omega)) (flo n o') x.s.1 x.s.2.1.1.1 x.s.2.1.1.2 x.s.2.1.2 x.s.2.2
       false t[i].2.1 t[i].2.2.1.1.1 t[i].2.2.1.1.2 t[i].2.2.1.2 t[i].2.2.2.2.2.1 t[i].2.2.2.2.2.2.1.1.1 t[i].2.2.2.2.2.2.1.1.2 t[i].2.2.2.2.2.2.1.2 t[i].2.2.2.2.2.2.2.1.1 t[i].2.2.2.2.2.2.2.1.2 t[i].2.2.2.2.2.2.2.2 base (by omega)
     refine ⟨((),((t,row,fx,on,flo n o',(L0 ++ kidsL t row fx on i l r P' x.w x.g).map encI,()),())),⟨L0 ++ kidsL t row fx on i l r P' x.w x.g,o',rfl,fun y hy=>?_,?_,fun f hf=>(hsz f hf).mono (by omega),fun f hf=>?_⟩,fun g=>?_⟩
     · rcases List.mem_append.1 hy with hy | hy
       · exact hL y (by simp [hy])
       · have hgl : ∀ side, GoodI t n (kid t row fx on i side l P' x.w x.g) := fun side => kid_good hs hcov i1 f0 f1 i5 (by omega) j3 j4 j5 j6 j7
         have hgr:∀ side,GoodI t n (kid t row fx on i side r P' x.w x.g):=fun side=>kid_good hs hcov i1 f0 f1 i6 (by omega) j3 j4 j5 j6 j7
         rcases List.mem_append.1 hy with hy | hy
         · split at hy
           · rw [List.mem_singleton.1 hy];exact hgr _
           · cases hy
         · split at hy
           · rw [List.mem_singleton.1 hy];exact hgl _
           · cases hy
     · have := kids_vis t row fx on i l r P' x.w x.g
       rw [visL_append];omega
     · have e := htot f hf
       rw [List.map_append,lsum_append] at e
       simp only [List.map_cons,List.map_nil,lsum,Rat.add_zero] at e
       have e2:totI t row fx on n f x=lsum ((kidsL t row fx on i l r P' x.w x.g).map (totI t row fx on n f)):=by
         rw [totI,hxT];exact kids_tot t row fx on n f i l r P' x.w x.g
       rw [e2] at e
       rw [List.map_append,lsum_append];exact e
     · rw [walkE g]
       show (bif t[i].1 then _ else _)=_
       rw [show t[i].1=false from i2,cond_false]
       rw [show t[i].2.2.2.1=(l.top:Int) from i3,show t[i].2.2.2.2.1=(r.top:Int) from i4,hkd,Option.bind_some]
       dsimp only
       rw [hbase,← List.map_append])
  (by
   rintro v ⟨L,o',rfl,hL,hv,hsz,htot⟩
   have hl:=visL_len t row fx on L
   have:L=[]:=by
     cases L with
     | nil=>rfl
     | cons x L=>simp only [List.length_cons] at hl;omega
   subst this
   refine ⟨((),((t,row,fx,on,flo n o',List.map encI [],()),())),⟨⟨List.map encI [],?_⟩,fun f hf=>?_⟩,fun g=>?_⟩
   · have : flo n o' = flo n (fun f => o f + totI t row fx on n f x0) := flo_congr fun f hf => by
       rw [← htot f hf];simp only [List.map_nil,lsum,Rat.add_zero]
     rw [this]
   · rw [← htot f hf]
     simp only [List.map_nil,lsum,Rat.add_zero]
     exact (hsz f hf).mono (by omega)
   · rw [pathshap_walker_walk_s1,cnd' (by simp)])
 obtain ⟨⟨st,rfl⟩,hrs⟩:=hres
 refine ⟨⟨st,?_⟩,fun f hf=>by have:=hrs f hf;rwa [t0] at this⟩
 have e0:[x0].map encI=[((0:Int),(some (some (encK [] (wtP [])),()):Option ((Option (List (Int×RAT×CELL)))×Unit)),canQ 1,((-1:Int),(((false,[]),[]),false)))]:=by
  rw [hx0]
  simp only [List.map_cons,List.map_nil,encI,h0];rfl
 rw [e0] at hlp
 rw [pathshap_walker_walk,New15_ok,Option.bind_some,ratio_One_ok,Option.bind_some]
 have hlp:lp pathshap_walker_walk_s1 K0 (((),((t,row,fx,on,flo n o,[(0,((some ((some (encK [] (wtP []))),())),(canQ 1,((-1),(((false,[]),[]),false)))))],()),())))=_:=hlp
 rw [hlp,Option.bind_some]
 dsimp only
 rw [flo_len,flo_len,Nat.beq_refl,cond_true,Option.bind_some]
 simp only [t0]
def trV (t:List NODE) (row:List CELL) (fx:Int) (on:Bool) (f:Nat):Rat:=totL row.length f (legsF t row fx on (treeOf t) [] 1)
def pvals (m:MODEL) (row:List CELL) (fx:Int) (on:Bool) (f:Nat):Rat:=rsum (fun j=>trV (treeAt m j) row fx on f) m.2.length
theorem Askd.deep8 {m:MODEL} {row:List CELL} (h:Askd m row) {i:Nat} (hi:i < m.2.length):(treeOf m.2[i]).deep ≤ 8∧(treeOf m.2[i]).size ≤ 15:=by
 have h1:=h.good.treeOf hi
 have hsh:ShapeP m.2[i]:=h.good.2 1 (by decide) i hi
 have h2:=tree_size hsh h1.1
 have h3:=deep_half (treeOf m.2[i])
 have h4:=h.mt _ (List.getElem_mem hi)
 omega
theorem Askd.walk {m:MODEL} {row:List CELL} (h:Askd m row) {i:Nat} (hi:i < m.2.length) (fx:Int) (on:Bool) {o:Nat → Rat} {S:Nat} (ho:∀ f,f < row.length → SzQ (o f) S) (hS:S ≤ 50000000000) :
  (∃ st,pathshap_walker_walk m.2[i] row fx on (flo row.length o) []=some (flo row.length (fun f=>o f+trV (treeAt m i) row fx on f),m.2[i],row,fx,on,st))∧∀ f,f < row.length → SzQ (o f+trV (treeAt m i) row fx on f) (S+200000000):=by
 obtain ⟨t1,t2,t3,t4,t5⟩:=h.tree hi
 rw [t5] at t2 t3 ⊢
 obtain ⟨d1,d2⟩:=h.deep8 hi
 exact walk15_ok t1 h.cs (h.cov hi) t2 t3 d1 (by omega) h.f64 ho hS
theorem trV_sz {m:MODEL} {row:List CELL} (h:Askd m row) {i:Nat} (hi:i < m.2.length) (fx:Int) (on:Bool) {f:Nat} (hf:f < row.length):SzQ (trV (treeAt m i) row fx on f) 200000010:=by
 have:=(h.walk hi fx on (o:=fun _=>0) (S:=1) (fun _ _=>SzQ.zero) (by decide)).2 f hf
 rw [Rat.zero_add] at this
 exact this.mono (by decide)
theorem pvals_sz {m:MODEL} {row:List CELL} (h:Askd m row) (fx:Int) (on:Bool) {f:Nat} (hf:f < row.length):SzQ (pvals m row fx on f) 1500000000:=by
 have h1:=rsum_szQ (f:=fun j=>trV (treeAt m j) row fx on f) (k:=200000010) m.2.length (fun i hi=>trV_sz h hi fx on hf)
 have:m.2.length * (200000010+1) ≤ 6 * (200000010+1):=Nat.mul_le_mul_right _ h.ml
 exact h1.mono (by omega)
theorem pzeros_ok {n:Nat} (h:n ≤ 1000000):pathshap_zeros (n:Int)=some (flo n fun _=>0):=by
 have key:=lp_up (step:=pathshap_zeros_s3) (fun i=>((flo i (fun _=>0),(n:Int),(i:Int),()),())) n (r:=((flo n (fun _=>0),()),())) (by omega) (by
  intro g i hi
  have d0:(i:Int) < (n:Int):=by omega
  rw [pathshap_zeros_s3,cnd d0,ratio_Zero_ok,Option.bind_some,blt (by rw [flo_len];omega),cond_true,iadd1 (by omega)]
  simp only [flo,List.range_succ,List.map_append]
  rfl) (by
  intro g
  rw [pathshap_zeros_s3,cnd' (by omega)])
 have key:lp pathshap_zeros_s3 K0 (([],(n:Int),0,()),())=_:=key
 rw [pathshap_zeros,key];rfl
theorem all15_ok {m:MODEL} {row:List CELL} (h:Askd m row) (fx:Int) (on:Bool):pathshap_all m row fx on=some (flo row.length (pvals m row fx on)):=by
 have ml:=h.ml
 have h64:=h.f64
 have hsz:∀ j,j ≤ m.2.length → ∀ f,f < row.length → SzQ (rsum (fun j=>trV (treeAt m j) row fx on f) j) 1500000000:=fun j hj f hf=>by
  have h1:=rsum_szQ (f:=fun j=>trV (treeAt m j) row fx on f) (k:=200000010) j (fun i hi=>trV_sz h (by omega) fx on hf)
  have:j * (200000010+1) ≤ 6 * (200000010+1):=Nat.mul_le_mul_right _ (by omega)
  exact h1.mono (by omega)
 have key:=lp_up (step:=pathshap_all_s3) (fun j=>((row,fx,on,flo row.length (fun f=>rsum (fun j=>trV (treeAt m j) row fx on f) j),m.2,(m.2.length:Int),(j:Int),()),())) m.2.length (r:=((flo row.length (pvals m row fx on),()),())) (by omega) (by
  intro g j hj
  have d0:(j:Int) < (m.2.length:Int):=by omega
  obtain ⟨st,hw⟩:=(h.walk hj fx on (hsz j (by omega)) (by decide)).1
  rw [pathshap_all_s3,cnd d0,cnd (by omega),Int.toNat_natCast,List.getElem?_eq_getElem hj,Option.bind_some,hw,Option.bind_some]
  dsimp only
  rw [over_all (by rw [flo_len,flo_len]),iadd1 (by omega)]
  rfl) (by
  intro g
  rw [pathshap_all_s3,cnd' (by omega)]
  rfl)
 have key:lp pathshap_all_s3 K0 ((row,fx,on,flo row.length (fun _=>0),m.2,(m.2.length:Int),0,()),())=_:=key
 rw [pathshap_all,show m.1=((row.length:Nat):Int) by have:=h.len;omega,pzeros_ok (by omega),Option.bind_some,key];rfl
theorem Values15_ok {m:MODEL} {row:List CELL} (h:Askd m row):pathshap_Values m row=some (flo row.length (pvals m row (-1) false),0):=by
 obtain ⟨e,_,h1,h2⟩:=fitsOk (row:=row) (by have:=h.ml;omega) (fun t ht=>by have:=h.mt t ht;omega) h.ms
 have e0:e=0:=h2.2 ⟨h.good,h.len⟩
 subst e0
 rw [pathshap_Values,h1,Option.bind_some,show (!decide ((0:Int)=0))=false by decide,cond_false,all15_ok h];rfl
theorem legsF_none {t:List NODE} {row:List CELL} {n:Nat} {T:TR} (h:Is t (n:Int) T):∀ (w:List AP) (g:Rat),legsF t row (-1) false T w g=(legsT t row T w).map fun x=>(g * x.2.1,x.2.2):=by
 induction T with
 | leaf i=>intro w g;rfl
 | split i l r ihl ihr =>
  intro w g
  obtain ⟨h1,h2,f0,f1,h3,h4,h5,h6⟩:=h
  have hne:¬ nFeat (nodeAt t i)=-1:=by rw [nodeAt_get h1];omega
  have e1:(goL t row i == true)=goL t row i:=by cases goL t row i <;> rfl
  have e2:(goL t row i == false)=!goL t row i:=by cases goL t row i <;> rfl
  simp only [legsF,legsT,List.map_append]
  rw [kOn,if_neg hne,if_pos rfl,kOn,if_neg hne,if_pos rfl,kW,if_neg hne,kG,if_neg hne,kW,if_neg hne,kG,if_neg hne,e1,e2,ihl h5,ihr h6]
theorem trV_shap {t:List NODE} {row:List CELL} (hc:CoversP t) (h:Is t (row.length:Int) (treeOf t)) {f:Nat} (hf:f < row.length) :
  trV t row (-1) false f=shapQ (fun S=>expT t row S (treeOf t)) row.length f:=by
 have e1:∀ S,expT t row S (treeOf t)=lsum ((legsT t row (treeOf t) []).map (legV S)):=fun S=>by
  rw [legs_say hc.ne h []]
  show _=lprod [] * _
  rw [lprod,Rat.one_mul]
 rw [shapQ_congr hf fun S _=>e1 S,shapQ_lsum (fun x S=>legV S x)]
 unfold trV totL
 rw [legsF_none h,List.map_map]
 congr 1
 refine List.map_congr_left fun x _=>?_
 show shapQ (fun S=>reachA S x.2.2 * (1 * x.2.1)) _ _=_
 rw [Rat.one_mul];rfl
theorem pvals_shap {m:MODEL} {row:List CELL} (h:Askd m row) {f:Nat} (hf:f < row.length):pvals m row (-1) false f=shapQ (sayM m row) row.length f:=by
 have e:=shapQ_rsum (fun j S=>expT (treeAt m j) row S (treeOf (treeAt m j))) row.length f m.2.length
 have e:shapQ (sayM m row) row.length f=_:=e
 rw [e]
 refine rsum_congr fun j hj=>?_
 obtain ⟨t1,t2,t3,t4,t5⟩:=h.tree hj
 rw [t5] at t2 ⊢
 exact trV_shap (h.cov hj) t2 hf
structure Keeps (g:NODE → NODE) (f f':Int) (c:Rat):Prop where
 leaf:∀ n,nLeaf (g n)=nLeaf n
 l:∀ n,nLeaf n=false → nL (g n)=nL n
 r:∀ n,nLeaf n=false → nR (g n)=nR n
 feat:∀ n,nLeaf n=false → 0 ≤ nFeat n → nFeat n < f → 0 ≤ nFeat (g n)∧nFeat (g n) < f'
 fits:∀ n,nLeaf n=true → NodeFits n → NodeFits (g n)
 cov:∀ n,rv (nCov (g n))=c * rv (nCov n)
 pos:0 < c
 low:0 ≤ f'
 high:f' ≤ 64
variable {g:NODE → NODE} {f f':Int} {c:Rat}
theorem nodeAt_map (hk:Keeps g f f' c) {t:List NODE} {i:Nat} (hi:i < t.length):nodeAt (t.map g) i=g (nodeAt t i):=by
 rw [nodeAt_get hi,nodeAt_get (by simpa using hi),List.getElem_map]
theorem cov_map (hk:Keeps g f f' c) {t:List NODE} {i:Nat} (hi:i < t.length):cov (t.map g) i=c * cov t i:=by
 rw [cov_get hi,cov_get (by simpa using hi),List.getElem_map,hk.cov]
theorem kids_map (hk:Keeps g f f' c) (t:List NODE):kids (t.map g)=kids t:=by
 funext i
 by_cases hi:i < t.length
 · cases hl : nLeaf t[i] with
   | true=>rw [kids_leaf hi hl,kids_leaf (t:=t.map g) (by simpa using hi) (by rw [List.getElem_map,hk.leaf];exact hl)]
   | false=>rw [kids_split hi hl,kids_split (t:=t.map g) (by simpa using hi) (by rw [List.getElem_map,hk.leaf];exact hl),List.getElem_map,hk.l _ hl,hk.r _ hl]
 · unfold kids
   rw [List.getElem?_eq_none (by simpa using hi),List.getElem?_eq_none (by omega)]
theorem cnt_map (hk:Keeps g f f' c) (t:List NODE) (i j:Nat):cnt (t.map g) i j=cnt t i j:=by
 unfold cnt;rw [kids_map hk]
theorem Is.map (hk:Keeps g f f' c) {t:List NODE}:∀ {T:TR},Is t f T → Is (t.map g) f' T:=by
 intro T
 induction T with
 | leaf i =>
  rintro ⟨h,hl⟩
  exact ⟨by simpa using h,by rw [List.getElem_map,hk.leaf];exact hl⟩
 | split i l r ihl ihr =>
  rintro ⟨h,hl,f0,f1,h1,h2,h3,h4⟩
  have hf:=hk.feat _ hl f0 f1
  refine ⟨by simpa using h,?_,?_,?_,?_,?_,ihl h3,ihr h4⟩
  · rw [List.getElem_map,hk.leaf];exact hl
  · rw [List.getElem_map];exact hf.1
  · rw [List.getElem_map];exact hf.2
  · rw [List.getElem_map,hk.l _ hl];exact h1
  · rw [List.getElem_map,hk.r _ hl];exact h2
theorem Good.map {m:MODEL} (h:Good m) (hk:Keeps g m.1 f' c):Good (f',m.2.map (List.map g)):=by
 have len:∀ i,i < (m.2.map (List.map g)).length → i < m.2.length:=fun i hi=>by simpa using hi
 have get:∀ i (hi:i < (m.2.map (List.map g)).length),(m.2.map (List.map g))[i]=(m.2[i]'(len i hi)).map g:=fun i hi=>by rw [List.getElem_map]
 refine ⟨⟨hk.low,hk.high,by simpa using h.1.2.2.1,fun i hi=>?_⟩,fun r hr i hi=>?_⟩
 · rw [show ((f', m.2.map (List.map g)) : MODEL).2[i] = _ from get i hi]
   have hi':=len i hi
   obtain ⟨t1,t2,t3⟩:=h.1.2.2.2 i hi'
   refine ⟨by simpa using t1,by simpa using t2,fun j hj=>?_⟩
   have hj':j < m.2[i].length:=by simpa using hj
   rw [List.getElem_map]
   have hn:=t3 j hj'
   cases hl:nLeaf m.2[i][j] with
   | true=>exact hk.fits _ hl hn
   | false =>
    obtain ⟨r1,r2,r3,r4,r5,r6⟩:=h.ranges hi' j hj' hl
    have hf:=hk.feat _ hl r1 r2
    have:=hk.high
    have a:=hk.l _ hl
    have b:=hk.r _ hl
    obtain ⟨n1,n2,n3,n4,n5,n6⟩:=hn
    exact ⟨hf.1,by omega,by omega,by omega,by omega,by omega⟩
 · rw [show ((f', m.2.map (List.map g)) : MODEL).2[i] = _ from get i hi]
   have hi':=len i hi
   have hr':RangesP (m.2[i].map g) f':=by
    intro j hj hl
    have hj':j < m.2[i].length:=by simpa using hj
    rw [List.getElem_map] at hl ⊢
    rw [hk.leaf] at hl
    obtain ⟨r1,r2,r3,r4,r5,r6⟩:=h.ranges hi' j hj' hl
    have hf:=hk.feat _ hl r1 r2
    rw [hk.l _ hl,hk.r _ hl]
    have e:(((m.2[i].map g).length:Nat):Int)=((m.2[i].length:Nat):Int):=by rw [List.length_map]
    exact ⟨hf.1,hf.2,r3,e ▸ r4,r5,e ▸ r6⟩
   match r,hr with
   | 0,_=>exact hr'
   | 1,_ =>
    obtain ⟨s1,rk,s2⟩:=h.shape hi'
    refine ⟨fun j h0 hj=>?_,rk,fun j hj=>?_⟩
    · rw [cnt_map hk, List.length_map]
      exact s1 j h0 (by simpa using hj)
    · rw [kids_map hk, List.length_map]
      exact s2 j (by simpa using hj)
   | 2,_ =>
    intro j hj
    rw [List.getElem_map,hk.cov]
    exact Rat.mul_pos hk.pos (h.covers hi' j (by simpa using hj))
   | 3,_ =>
    intro j hj hl
    have hj':j < m.2[i].length:=by simpa using hj
    rw [List.getElem_map] at hl ⊢
    rw [hk.leaf] at hl
    obtain ⟨r1,r2,r3,r4,r5,r6⟩:=h.ranges hi' j hj' hl
    rw [hk.l _ hl,hk.r _ hl,hk.cov,cov_map hk (by omega),cov_map hk (by omega),h.sums hi' j hj' hl,Rat.mul_add]
theorem treeOf_map {m:MODEL} (h:Good m) (hk:Keeps g m.1 f' c) {i:Nat} (hi:i < m.2.length):treeOf (m.2[i].map g)=treeOf m.2[i]:=by
 obtain ⟨h1,h2,h3⟩:=h.treeOf hi
 have:=mkT_eq (m.2[i].length+1) _ (h1.map hk) h3
 rw [h2] at this
 rw [treeOf,List.length_map]
 exact this
theorem expT_map (hk:Keeps g f f' c) {v:Rat} {t:List NODE} {row row':List CELL} {set set':Nat}
  (hv:∀ n,nLeaf n=true → rv (nVal (g n))=v * rv (nVal n)) (hgo:∀ i,i < t.length → nLeaf (nodeAt t i)=false → 0 ≤ nFeat (nodeAt t i) → nFeat (nodeAt t i) < f → goL (t.map g) row' i=goL t row i∧set'.testBit (nFeat (g (nodeAt t i))).toNat=set.testBit (nFeat (nodeAt t i)).toNat) :
  ∀ {T:TR},Is t f T → expT (t.map g) row' set' T=v * expT t row set T:=by
 intro T
 induction T with
 | leaf i =>
  rintro ⟨h,hl⟩
  simp only [expT]
  rw [nodeAt_map hk h,hv _ (by rw [nodeAt_get h];exact hl)]
 | split i l r ihl ihr =>
  rintro ⟨h,hl,f0,f1,h1,h2,h3,h4⟩
  rw [← nodeAt_get h] at hl f0 f1
  obtain ⟨q1,q2⟩:=hgo i h hl f0 f1
  simp only [expT]
  rw [nodeAt_map hk h,q1,q2,cov_map hk h,cov_map hk h3.top_lt,cov_map hk h4.top_lt,ihl h3,ihr h4]
  split
  · split <;> rfl
  · have hc : c ≠ 0 := fun e => by have := hk.pos; rw [e] at this; exact absurd this (by decide)
    rw [show c * cov t l.top * (v * expT t row set l)+c * cov t r.top * (v * expT t row set r)=c * (v * (cov t l.top * expT t row set l+cov t r.top * expT t row set r)) by grind,Rat.div_def,Rat.div_def,Rat.inv_mul_rev]
    rw [show c * (v * (cov t l.top * expT t row set l+cov t r.top * expT t row set r)) * ((cov t i)⁻¹ * c⁻¹)=(c * c⁻¹) * (v * ((cov t l.top * expT t row set l+cov t r.top * expT t row set r) * (cov t i)⁻¹)) by grind,Rat.mul_inv_cancel _ hc,Rat.one_mul]
theorem rsum_lmul (f:Nat → Rat) (v:Rat) (n:Nat):rsum (fun i=>v * f i) n=v * rsum f n:=by
 have:=rsum_mul f v n
 rw [Rat.mul_comm,← this]
 exact rsum_congr fun i _=>Rat.mul_comm _ _
theorem treeAt_map (m:MODEL) (f':Int) (g:NODE → NODE) {i:Nat} (hi:i < m.2.length):treeAt (f',m.2.map (List.map g)) i=(treeAt m i).map g:=by
 rw [treeAt_get hi,treeAt_get (m:=(f',m.2.map (List.map g))) (by simpa using hi),List.getElem_map]
theorem sayM_map {m:MODEL} (h:Good m) (hk:Keeps g m.1 f' c) {v:Rat} {row row':List CELL} {set set':Nat}
  (hv:∀ n,nLeaf n=true → rv (nVal (g n))=v * rv (nVal n)) (hgo:∀ n,nLeaf n=false → 0 ≤ nFeat n → nFeat n < m.1 → goes (g n) (cellAt row' (nFeat (g n)).toNat)=goes n (cellAt row (nFeat n).toNat)∧set'.testBit (nFeat (g n)).toNat=set.testBit (nFeat n).toNat) :
  sayM (f',m.2.map (List.map g)) row' set'=v * sayM m row set:=by
 rw [sayM,sayM,← rsum_lmul,List.length_map]
 refine rsum_congr fun i hi=>?_
 rw [treeAt_map m f' g hi]
 have e:=treeOf_map h hk hi
 rw [treeAt_get hi,e]
 exact expT_map hk hv (fun j hj hl f0 f1=>by
  obtain ⟨a,b⟩:=hgo _ hl f0 f1
  refine ⟨?_,b⟩
  rw [goL,goL,nodeAt_map hk hj,a]) (h.treeOf hi).1
theorem tidy_keeps {f:Int} (h0:0 ≤ f) (h1:f ≤ 64):Keeps tidyNode f f 1 where
 leaf n:=by
  cases hl:nLeaf n with
  | true=>rw [tidy_leaf hl];rfl
  | false=>rw [tidy_split hl]
 l n hl:=by rw [tidy_split hl]
 r n hl:=by rw [tidy_split hl]
 feat n hl a b:=by rw [tidy_split hl];exact ⟨a,b⟩
 fits n hl _:=by rw [tidy_leaf hl];exact (show NodeFits (leafOf (canQ (rv (nVal n))) (canQ (rv (nCov n)))) from ⟨Int.le_refl 0,(by decide:(0:Int) ≤ 64),Int.le_refl 0,(by decide:(0:Int) ≤ 255),Int.le_refl 0,(by decide:(0:Int) ≤ 255)⟩)
 cov n:=by
  rw [Rat.one_mul]
  cases hl:nLeaf n with
  | true=>rw [tidy_leaf hl];exact rv_canQ _
  | false=>rw [tidy_split hl];exact rv_canQ _
 pos:=by decide
 low:=h0
 high:=h1
theorem Good.tidy {m:MODEL} (h:Good m):Good (tidyM m):=h.map (tidy_keeps h.1.1 h.1.2.1)
theorem tidy_val {n:NODE} (hl:nLeaf n=true):rv (nVal (tidyNode n))=1 * rv (nVal n):=by
 rw [tidy_leaf hl,Rat.one_mul];exact rv_canQ _
theorem tidy_goes {n:NODE} (hl:nLeaf n=false) (c:CELL):goes (tidyNode n) c=goes n c:=by
 rw [tidy_split hl,goes,goes]
 show (if c.1=true then nMiss n else decide (rv c.2 < rv (canQ (rv (nCut n)))))=_
 rw [rv_canQ]
theorem sayM_tidy {m:MODEL} (h:Good m) (row:List CELL) (set:Nat):sayM (tidyM m) row set=sayM m row set:=by
 have:=sayM_map (row:=row) (row':=row) (set:=set) (set':=set) h (tidy_keeps h.1.1 h.1.2.1) (v:=1) (fun n hl=>tidy_val hl) (fun n hl f0 f1=>by
  rw [tidy_goes hl]
  rw [show nFeat (tidyNode n)=nFeat n by rw [tidy_split hl]]
  exact ⟨rfl,rfl⟩)
 rw [Rat.one_mul] at this
 exact this
theorem tidyM_sz {m:MODEL} {k:Nat} (h:MSz m k) (hk:0 < k):MSz (tidyM m) k:=by
 intro t ht
 obtain ⟨u,hu,rfl⟩:=List.mem_map.1 ht
 exact tidyTree_sz (h u hu) hk
theorem tidyM_len (m:MODEL):(tidyM m).2.length=m.2.length:=by simp [tidyM]
theorem tidyM_mem {m:MODEL} {k:Nat} (h:∀ t ∈ m.2,t.length ≤ k):∀ t ∈ (tidyM m).2,t.length ≤ k:=by
 intro t ht
 obtain ⟨u,hu,rfl⟩:=List.mem_map.1 ht
 simpa [tidyTree] using h u hu
def sizeM (m:MODEL):Nat:=(m.2.map List.length).sum
theorem Size_ok {m:MODEL} (ml:m.2.length ≤ 64) (mt:∀ t ∈ m.2,t.length ≤ 255):trim_Size m=some (sizeM m:Int)∧sizeM m ≤ 255 * 64:=by
 have part:∀ l:List (List NODE),(∀ t ∈ l,t.length ≤ 255) → (l.map List.length).sum ≤ 255 * l.length:=by
  intro l
  induction l with
  | nil=>intro _;simp
  | cons t l ih =>
   intro h
   have h1:=ih fun u hu=>h u (List.mem_cons_of_mem _ hu)
   have h2:=h t List.mem_cons_self
   simp only [List.map_cons,List.sum_cons,List.length_cons]
   omega
 have bound:sizeM m ≤ 255 * 64:=Nat.le_trans (part m.2 mt) (Nat.mul_le_mul_left _ ml)
 refine ⟨?_,bound⟩
 have key:=lp_up (step:=trim_Size_s3) (fun i=>((((((m.2.take i).map List.length).sum:Nat):Int),m.2,(m.2.length:Int),(i:Int),()),())) m.2.length (r:=(((sizeM m:Int),()),())) (by omega) (by
  intro g i hi
  have d0:(i:Int) < (m.2.length:Int):=by omega
  have d1:(0:Int) ≤ (i:Int):=by omega
  have h1:=part (m.2.take i) (fun t h=>mt t (List.mem_of_mem_take h))
  have h2:=mt _ (List.getElem_mem hi)
  have h3:(m.2.take i).length ≤ i:=by simp;omega
  have i2:iadd .i64 ((((m.2.take i).map List.length).sum:Nat):Int) (m.2[i].length:Int)=((((m.2.take (i+1)).map List.length).sum:Nat):Int):=by
   rw [iadd_i (by omega) (by omega),map_take_succ _ hi,List.sum_append]
   simp
  rw [trim_Size_s3,cnd d0,cnd d1,Int.toNat_natCast,List.getElem?_eq_getElem hi,Option.bind_some,i2,iadd1 (by omega)]
  rfl) (by
  intro g
  rw [trim_Size_s3,cnd' (by omega),List.take_length]
  rfl)
 have key:lp trim_Size_s3 K0 ((0,m.2,(m.2.length:Int),0,()),())=_:=key
 rw [trim_Size,key]
 rfl
theorem Lay.le {t:List NODE} {C:CT} {p:Nat} (h:Lay t C p):p+C.size ≤ t.length:=by
 have hs:=C.size_pos
 have h1:=h (C.size - 1) (by omega)
 rw [List.getElem?_eq_getElem (l:=layC C p) (by rw [layC_len];omega)] at h1
 obtain ⟨h2,_⟩:=List.getElem?_eq_some_iff.1 h1
 omega
theorem Lay.cov {t:List NODE} {C:CT} {p:Nat} (h:Lay t C p):X.cov t p=rv (covN C):=by
 have h0:=h 0 C.size_pos
 rw [Nat.add_zero] at h0
 rw [X.cov,h0]
 cases C <;> rfl
theorem GC.good {f:Int} {C:CT} (h:GC f C) (f0:0 ≤ f) (f1:f ≤ 64) (hz:C.size ≤ 255):Good (f,[layC C 0]):=by
 have hs:=C.size_pos
 have hl:=layC_len C 0
 have hL:=Lay.zero C
 have hall:=Lay.all (t:=layC C 0) (f:=f) (fun i x=>NodeFits x∧(nLeaf x=false → 0 ≤ nFeat x∧nFeat x < f∧1 ≤ nL x∧nL x < ((layC C 0).length:Int)∧1 ≤ nR x∧nR x < ((layC C 0).length:Int))∧0 < rv (nCov x) ∧
     (nLeaf x=false → rv (nCov x)=cov (layC C 0) (nL x).toNat+cov (layC C 0) (nR x).toNat)∧∀ c ∈ kids (layC C 0) i,i < c∧c < (layC C 0).length)
   (fun i n hg hi=>by
     obtain ⟨hp,e⟩:=List.getElem?_eq_some_iff.1 hi
     refine ⟨hg.2.2,fun hl=>?_,hg.2.1,fun hl=>?_,fun c hc=>?_⟩
     · rw [hg.1] at hl;cases hl
     · rw [hg.1] at hl;cases hl
     · rw [kids_leaf hp (by rw [e];exact hg.1)] at hc;cases hc)
   (fun i n l r hg hi=>by
     obtain ⟨h0,h1,h2⟩:=hi.split
     obtain ⟨hp,e⟩:=List.getElem?_eq_some_iff.1 h0
     have hle:=hi.le
     obtain ⟨g1,g2,g3,g4,g5,g6,g7,g8⟩:=hg
     have hls:=l.size_pos
     have hrs:=r.size_pos
     simp only [CT.size] at hle
     have a1:nL (setLR n ((i+1:Nat):Int) ((i+1+l.size:Nat):Int))=((i+1:Nat):Int):=rfl
     have a2:nR (setLR n ((i+1:Nat):Int) ((i+1+l.size:Nat):Int))=((i+1+l.size:Nat):Int):=rfl
     refine ⟨⟨g3,by show nFeat n ≤ 64;omega,by rw [a1];omega,by rw [a1];omega,by rw [a2];omega,by rw [a2];omega⟩,fun _=>⟨g3,g4,by rw [a1];omega,by rw [a1];omega,by rw [a2];omega,by rw [a2];omega⟩,g5,fun _=>?_,fun c hc=>?_⟩
     · rw [a1,a2,Int.toNat_natCast,Int.toNat_natCast,h1.cov,h2.cov];exact g6
     · rw [kids_split hp (by rw [e]; exact g1), e, a1, a2, Int.toNat_natCast, Int.toNat_natCast] at hc
       simp only [List.mem_cons,List.not_mem_nil,or_false] at hc
       omega) hL h
 have hat:∀ i (hi:i < (layC C 0).length),_:=fun i hi=>hall i (Nat.zero_le _) (by omega) _ (List.getElem?_eq_getElem hi)
 have rules:∀ r,r < 4 → RuleP f r (layC C 0):=by
   intro r hr
   rcases (show r=0 ∨ r=1 ∨ r=2 ∨ r=3 by omega) with rfl | rfl | rfl | rfl
   · exact fun i hi hlf=>(hat i hi).2.1 hlf
   · refine ⟨fun j h0 hj => ?_, fun i => (layC C 0).length - i, fun i hi => ⟨by show (layC C 0).length - i ≤ _; omega, fun c hc => ?_⟩⟩
     · have := Lay.cnt (t := layC C 0) j hL h
       rw [cntR_cnt,← hl,if_pos ⟨h0,by omega⟩] at this
       exact this
     · have := (hat i hi).2.2.2.2 c hc
       show (layC C 0).length - c < (layC C 0).length - i
       omega
   · exact fun i hi=>(hat i hi).2.2.1
   · exact fun i hi hlf=>(hat i hi).2.2.2.1 hlf
 refine ⟨⟨f0,f1,by simp,fun i hi=>?_⟩,fun r hr i hi=>?_⟩
 · have hi : i < 1 := hi
   have:i=0:=by omega
   subst this
   exact ⟨by show 1 ≤ (layC C 0).length;omega,by show (layC C 0).length ≤ 255;omega,fun j hj=>(hat j hj).1⟩
 · have hi : i < 1 := hi
   have:i=0:=by omega
   subst this
   exact rules r hr
theorem treeOf_lay {f:Int} {C:CT} (h:GC f C):treeOf (layC C 0)=trOf C 0:=by
 have hi:=(Lay.zero C).isT h
 have e:=mkT_eq (t:=layC C 0) ((layC C 0).length+1) _ hi (by rw [trOf_deep,layC_len];have:=C.deep_le;omega)
 rw [trOf_top] at e
 exact e
theorem say_lay {f:Int} {C:CT} (h:GC f C) (row:List CELL) (set:Nat):expT (layC C 0) row set (treeOf (layC C 0))=expC row set C:=by
 rw [treeOf_lay h,expT_C,(Lay.zero C).ofT h]
theorem leafOf_fits (v c:RAT):0 ≤ nFeat (leafOf v c)∧nFeat (leafOf v c) ≤ 64∧0 ≤ nL (leafOf v c)∧nL (leafOf v c) ≤ 255∧0 ≤ nR (leafOf v c)∧nR (leafOf v c) ≤ 255 :=
 ⟨show (0:Int) ≤ 0 by decide,show (0:Int) ≤ 64 by decide,show (0:Int) ≤ 0 by decide,show (0:Int) ≤ 255 by decide,show (0:Int) ≤ 0 by decide,show (0:Int) ≤ 255 by decide⟩
theorem tidyC_all {f:Int} {C:CT} (h:GC f C) (row:List CELL) (set:Nat):GC f (tidyC C)∧rv (covN (tidyC C))=rv (covN C)∧expC row set (tidyC C)=expC row set C:=by
 induction C with
 | leaf n =>
  obtain ⟨h1,h2,h3⟩:=h
  have e1:rv (nCov (tidyNode n))=rv (nCov n):=by rw [tidy_leaf h1];exact rv_canQ _
  have e2:rv (nVal (tidyNode n))=rv (nVal n):=by rw [tidy_leaf h1];exact rv_canQ _
  refine ⟨⟨by rw [tidy_leaf h1];rfl,by rw [e1];exact h2,?_⟩,e1,e2⟩
  rw [tidy_leaf h1]
  exact leafOf_fits _ _
 | split n l r ihl ihr =>
  obtain ⟨g1,g2,g3,g4,g5,g6,g7,g8⟩:=h
  obtain ⟨a1,a2,a3⟩:=ihl g7
  obtain ⟨b1,b2,b3⟩:=ihr g8
  have e1:rv (nCov (tidyNode n))=rv (nCov n):=by rw [tidy_split g1];exact rv_canQ _
  have e2:nFeat (tidyNode n)=nFeat n:=by rw [tidy_split g1]
  refine ⟨⟨by rw [tidy_split g1],by rw [← tidy_norm g1,g2],by rw [e2];exact g3,by rw [e2];exact g4,by rw [e1];exact g5,by rw [e1,a2,b2];exact g6,a1,b1⟩,e1,?_⟩
  simp only [tidyC,expC]
  rw [e2,tidy_goes g1,a2,b2,a3,b3,e1]
theorem shrinkC_all {f:Int} {C:CT} (h:GC f C) (row:List CELL) (set:Nat):GC f (shrinkC C)∧rv (covN (shrinkC C))=rv (covN C)∧expC row set (shrinkC C)=expC row set C:=by
 induction C with
 | leaf n=>exact ⟨h,rfl,rfl⟩
 | split n l r ihl ihr =>
  obtain ⟨g1,g2,g3,g4,g5,g6,g7,g8⟩:=h
  obtain ⟨a1,a2,a3⟩:=ihl g7
  obtain ⟨b1,b2,b3⟩:=ihr g8
  show GC f (joinC n (shrinkC l) (shrinkC r))∧rv (covN (joinC n (shrinkC l) (shrinkC r)))=_∧expC row set (joinC n (shrinkC l) (shrinkC r))=_
  by_cases hj:∃ a b,shrinkC l=.leaf a∧shrinkC r=.leaf b∧rv (nVal a)=rv (nVal b)
  · obtain ⟨a, b, ea, eb, ev⟩ := hj
    rw [ea] at a3
    rw [eb] at b3
    have a3:rv (nVal a)=expC row set l:=a3
    have b3:rv (nVal b)=expC row set r:=b3
    have e:joinC n (shrinkC l) (shrinkC r)=.leaf (leafOf (nVal a) (nCov n)):=by
      rw [ea,eb]
      exact if_pos ev
    rw [e]
    refine ⟨⟨rfl,g5,leafOf_fits _ _⟩,rfl,?_⟩
    show rv (nVal a)=_
    have hne:rv (nCov n) ≠ 0:=fun e0=>by rw [e0] at g5;exact absurd g5 (by decide)
    simp only [expC]
    rw [← a3,← b3,← ev]
    split
    · split <;> rfl
    · rw [Rat.div_def, ← Rat.add_mul, ← g6]
      grind
  · rw [joinC_split hj]
    refine ⟨⟨g1,g2,g3,g4,g5,by rw [a2,b2];exact g6,a1,b1⟩,rfl,?_⟩
    simp only [expC]
    rw [a2,b2,a3,b3]
theorem shrinkC_sz {k:Nat} {C:CT} (h:SzC k C):SzC k (shrinkC C):=by
 induction C with
 | leaf n=>exact h
 | split n l r ihl ihr =>
  obtain ⟨h1,h2,h3⟩:=h
  have a:=ihl h2
  have b:=ihr h3
  show SzC k (joinC n (shrinkC l) (shrinkC r))
  by_cases hj:∃ a b,shrinkC l=.leaf a∧shrinkC r=.leaf b∧rv (nVal a)=rv (nVal b)
  · obtain ⟨x, y, ea, eb, ev⟩ := hj
    rw [ea] at a
    have e:joinC n (shrinkC l) (shrinkC r)=.leaf (leafOf (nVal x) (nCov n)):=by
     rw [ea,eb]
     exact if_pos ev
    rw [e]
    have a:NSz x k:=a
    exact ⟨⟨Nat.zero_le _,Nat.zero_le _⟩,a.2.1,h1.2.2⟩
  · rw [joinC_split hj]
    exact ⟨h1,a,b⟩
def shrT (t:List NODE):List NODE:=layC (shrinkC (tidyC (ofT t (treeOf t)))) 0
theorem shrT_ok {t:List NODE} {f:Int} (hs:TSz t 4) (hg:Good (f,[t])):Good (f,[shrT t])∧TSz (shrT t) 4∧(shrT t).length ≤ t.length∧∀ row set,expT (shrT t) row set (treeOf (shrT t))=expT t row set (treeOf t):=by
 obtain ⟨g1,g2,g3⟩:=hg.one
 have hc:CoversP t:=hg.covers (i:=0) (by simp)
 have hsm:SumsP t:=hg.sums (i:=0) (by simp)
 have hsh:ShapeP t:=hg.shape (i:=0) (by simp)
 have htf:TreeFits t:=hg.1.2.2.2 0 (by simp)
 have hft:=htf.2.2
 have G0:=ofT_GC hc hsm hft g1
 have G1:=(tidyC_all G0 [] 0).1
 have G2:=(shrinkC_all G1 [] 0).1
 have z1:=shrinkC_size (tidyC (ofT t (treeOf t)))
 rw [tidyC_size,ofT_size] at z1
 have z2:=tree_size hsh g1
 have hsz:SzC 4 (tidyC (ofT t (treeOf t))):=g1.rep.tidy.szC (tidyTree_sz hs (by decide))
 refine ⟨G2.good hg.1.1 hg.1.2.1 (by have:=htf.2.1;omega),(shrinkC_sz hsz).lay 0,by show (layC _ 0).length ≤ _;rw [layC_len];omega,fun row set=>?_⟩
 show expT (layC _ 0) row set (treeOf (layC _ 0))=_
 rw [say_lay G2,(shrinkC_all G1 row set).2.2,(tidyC_all G0 row set).2.2,expT_C]
def shrM (m:MODEL):MODEL:=(m.1,m.2.map shrT)
theorem Good.each {m:MODEL} (h:Good m) {i:Nat} (hi:i < m.2.length):Good (m.1,[m.2[i]]):=by
 refine ⟨⟨h.1.1,h.1.2.1,by simp,fun j hj=>?_⟩,fun r hr j hj=>?_⟩
 · have hj : j < 1 := hj
   have:j=0:=by omega
   subst this
   exact h.1.2.2.2 i hi
 · have hj : j < 1 := hj
   have:j=0:=by omega
   subst this
   exact h.2 r hr i hi
theorem shrM_ok {m:MODEL} (h:Good m) (hs:MSz m 4):Good (shrM m)∧MSz (shrM m) 4∧∀ row set,sayM (shrM m) row set=sayM m row set:=by
 have len:(shrM m).2.length=m.2.length:=by simp [shrM]
 have get:∀ i (hi:i < m.2.length),(shrM m).2[i]'(by rw [len];exact hi)=shrT m.2[i]:=fun i hi=>by simp [shrM]
 have one:∀ i (hi:i < m.2.length),_:=fun i hi=>shrT_ok (hs _ (List.getElem_mem hi)) (h.each hi)
 refine ⟨⟨⟨h.1.1,h.1.2.1,by rw [len];exact h.1.2.2.1,fun i hi=>?_⟩,fun r hr i hi=>?_⟩,fun t ht=>?_,fun row set=>?_⟩
 · have hi' : i < m.2.length := by rw [len] at hi; exact hi
   rw [get i hi']
   exact (one i hi').1.1.2.2.2 0 (by simp)
 · have hi' : i < m.2.length := by rw [len] at hi; exact hi
   rw [get i hi']
   exact (one i hi').1.2 r hr 0 (by simp)
 · obtain ⟨u, hu, rfl⟩ := List.mem_map.1 ht
   obtain ⟨i,hi,rfl⟩:=List.mem_iff_getElem.1 hu
   exact (one i hi).2.1
 · unfold sayM
   rw [len]
   refine rsum_congr fun i hi=>?_
   rw [treeAt_get hi,treeAt_get (by rw [len];exact hi),get i hi]
   exact (one i hi).2.2.2 row set
theorem every_ok {m:MODEL} (hb:valid_Ok m=some true) (hg:Good m) (ms:MSz m 4) (ml:m.2.length ≤ 3) (mt:∀ t ∈ m.2,t.length ≤ 15):trim_All m=some (shrM (tidyM m),0):=by
 have hgt:=hg.tidy
 have mst:=tidyM_sz ms (k:=4) (by decide)
 have len:=tidyM_len m
 have mtt:=tidyM_mem mt
 have key:=lp_up (step:=trim_every_v62_s5) (fun i=>(((tidyM m).2,((tidyM m).2.length:Int),(i:Int),()),((0,[],()),(m.1,((tidyM m).2.take i).map shrT,()),(m.1,m.2,()),()))) (tidyM m).2.length
  (r:=((),((0,[],()),(m.1,(shrM (tidyM m)).2,()),(m.1,m.2,()),()))) (by omega) (by
  intro g i hi
  have hS:=Shrink_ok (t:=(tidyM m).2[i]) (f:=m.1) (mtt _ (List.getElem_mem hi)) (mst _ (List.getElem_mem hi)) (hgt.each hi)
  have hS:trim_Shrink (tidyM m).2[i] m.1=some (shrT (tidyM m).2[i],0):=hS
  have hm:=map_take_succ shrT hi
  rw [trim_every_v62_s5,cnd (by omega),cnd (by omega),Int.toNat_natCast,List.getElem?_eq_getElem hi,Option.bind_some,trim_All_c1,hS,Option.bind_some,Option.bind_some,blt (by rw [List.length_map,List.length_take];omega),cond_true,hm,iadd1 (by omega)]
  rfl) (by
  intro g
  rw [trim_every_v62_s5,cnd' (by omega),List.take_of_length_le (Nat.le_refl _)]
  rfl)
 have key:lp trim_every_v62_s5 K0 (((tidyM m).2,((tidyM m).2.length:Int),0,()),((0,[],()),(m.1,[],()),(m.1,m.2,()),()))=_:=key
 rw [trim_All,trim_every_v62,hb,Option.bind_some,Bool.not_true,cond_false,Tidy_ok (by omega) (fun t ht=>by have:=mt t ht;omega) ms (by decide),Option.bind_some,key]
 rfl
theorem every_bad {m:MODEL} (hb:valid_Ok m=some false):trim_All m=some ((0,[]),1):=by
 rw [trim_All,trim_every_v62,hb];rfl
theorem sizeM_le {l:List (List NODE)} (g:List NODE → List NODE) (h:∀ t ∈ l,(g t).length ≤ t.length):((l.map g).map List.length).sum ≤ (l.map List.length).sum:=by
 induction l with
 | nil=>simp
 | cons t l ih =>
  have h1:=h t List.mem_cons_self
  have h2:=ih fun x hx=>h x (List.mem_cons_of_mem _ hx)
  simp only [List.map_cons,List.sum_cons];omega
theorem TrimSays_true (m0:MODEL) (row0:List CELL) (set:Int) (hl:m0.2.length ≤ 9223372036854775807) (ht:∀ t ∈ m0.2,t.length ≤ 9223372036854775807) (hr:row0.length ≤ 9223372036854775807) (h0:0 ≤ set) (h1:set < 18446744073709551616) :
  dendronlaw25_TrimSays m0 row0 set=some true:=by
 obtain ⟨m,row,hs,ms,ml,mt,cs⟩:=Small_ok m0 row0 hl ht hr
 obtain ⟨S,eS⟩:∃ S:Nat,set=(S:Int):=⟨set.toNat,by omega⟩
 subst eS
 obtain ⟨b,hv,hb⟩:=Ok_ok (m:=m) (by omega) (fun t h=>by have:=mt t h;omega) ms (by decide)
 rw [dendronlaw25_TrimSays,hs,Option.bind_some]
 dsimp only
 cases b with
 | false =>
  have hsame:=Same_self (m:=((0,[]):MODEL)) (by simp) (by simp) (fun t ht=>by cases ht)
  rw [every_bad hv,Option.bind_some,hv,Option.bind_some,Bool.not_false,cond_true]
  dsimp only
  rw [cnd rfl,hsame,Option.bind_some,cond_true,law25_awake_ok];rfl
 | true =>
  have hg:=hb.1 rfl
  have hgt:=hg.tidy
  have mst:=tidyM_sz ms (k:=4) (by decide)
  obtain ⟨s,es⟩:∃ s,s=shrM (tidyM m):=⟨_,rfl⟩
  obtain ⟨k1,k2,k3⟩:=shrM_ok hgt mst
  rw [← es] at k1 k2 k3
  have sl:s.2.length=m.2.length:=by rw [es];simp [shrM,tidyM]
  have slen:∀ t ∈ (tidyM m).2,(shrT t).length ≤ t.length:=fun t ht=>by
    obtain ⟨i,hi,rfl⟩:=List.mem_iff_getElem.1 ht
    exact (shrT_ok (mst _ ht) (hgt.each hi)).2.2.1
  have st:∀ t ∈ s.2,t.length ≤ 15:=fun t ht=>by
    rw [es] at ht
    obtain ⟨u,hu,rfl⟩:=List.mem_map.1 ht
    exact Nat.le_trans (slen u hu) (tidyM_mem mt u hu)
  have s1:s.1=m.1:=by rw [es];rfl
  obtain ⟨b2,hv2,hb2⟩:=Ok_ok (m:=s) (by omega) (fun t h=>by have:=st t h;omega) k2 (by decide)
  have hb2:=hb2.2 k1
  subst hb2
  have Z1:=(Size_ok (m:=s) (by omega) (fun t h=>by have:=st t h;omega)).1
  have Z2:=(Size_ok (m:=m) (by omega) (fun t h=>by have:=mt t h;omega)).1
  have zle:sizeM s ≤ sizeM m:=by
    have a:=sizeM_le shrT slen
    have b:=sizeM_le (l:=m.2) tidyTree (fun t _=>by simp [tidyTree])
    rw [es]
    exact Nat.le_trans a b
  have hsay:∀ set,sayM s row set=sayM m row set:=fun set=>by rw [k3,sayM_tidy hg]
  rw [every_ok hv hg ms ml mt,← es,Option.bind_some,hv,Option.bind_some,Bool.not_true,cond_false]
  dsimp only
  rw [show (!decide ((0:Int)=0))=false by decide,cond_false,hv2,Option.bind_some,Bool.not_true,cond_false,s1,decide_eq_true rfl,Bool.not_true,cond_false,sl,decide_eq_true rfl,Bool.not_true,cond_false,Z1,Option.bind_some,Z2,Option.bind_some,cnd' (by omega)]
  by_cases hlen:(row.length:Int)=m.1
  · have ha : Askd m row := ⟨hg, hlen, ms, by omega, mt, cs⟩
    have has:Askd s row:=⟨k1,by rw [s1];exact hlen,k2,by omega,st,cs⟩
    have hsm:=sl
    have eP:flo row.length (pvals s row (-1) false)=flo row.length (pvals m row (-1) false):=flo_congr fun f hf=>by
     rw [pvals_shap has hf,pvals_shap ha hf]
     exact shapQ_congr hf fun S _=>hsay S
    have V1:=Values15_ok ha
    have V2:=Values15_ok has
    rw [eP] at V2
    have lF:=flo_len row.length (pvals m row (-1) false)
    obtain ⟨F,eF⟩:∃ F,F=flo row.length (pvals m row (-1) false):=⟨_,rfl⟩
    rw [← eF] at V1 V2 lF
    have key:=lp_up (step:=dendronlaw25_TrimSays_s14) (fun i=>((row,(S:Int),F,F,(i:Int),()),((m.1,m.2,()),(s.1,s.2,()),()))) row.length (r:=.inl ((row,(S:Int),()),((m.1,m.2,()),(s.1,s.2,()),()))) (by have:=ha.f64;omega) (by
     intro g i hi
     have d0:(i:Int) < (F.length:Int):=by omega
     have d1:(0:Int) ≤ (i:Int):=by omega
     have g1:F[i]?=some (canQ (pvals m row (-1) false i)):=by rw [eF];exact flo_get _ hi
     have sm:=ratio_Same_ok ((pvals_sz ha (-1) false hi).sm (by decide)) ((pvals_sz ha (-1) false hi).sm (by decide))
     rw [decide_eq_true rfl] at sm
     rw [dendronlaw25_TrimSays_s14,cnd d0,cnd2 d1 d0,Int.toNat_natCast,g1,Option.bind_some,cnd2 d1 d0,Option.bind_some,sm,Option.bind_some,Bool.not_true,cond_false,iadd1 (by have:=ha.f64;omega)]
     rfl) (by
     intro g
     rw [dendronlaw25_TrimSays_s14,cnd' (by omega)])
    have key:lp dendronlaw25_TrimSays_s14 K0 ((row,(S:Int),F,F,0,()),((m.1,m.2,()),(s.1,s.2,()),()))=_:=key
    have W1:=Value11_ok ha (set:=S) (by omega)
    have W2:=Value11_ok has (set:=S) (by omega)
    rw [hsay] at W2
    have W2:dendronlaw11_Value (m.1,s.2) row (S:Int)=some (canQ (sayM m row S)):=by rw [← s1];exact W2
    rw [s1] at key
    have sz:SzQ (sayM m row S) 4000000:=(sayM_sz hg ms mt (Nat.le_refl _)).mono (by
     have:=Nat.mul_le_mul_right 1048577 (show m.2.length ≤ 3 by omega);omega)
    have sm:=ratio_Same_ok (sz.sm (by decide)) (sz.sm (by decide))
    rw [decide_eq_true rfl] at sm
    rw [decide_eq_true hlen,Bool.not_true,cond_false,V1,Option.bind_some,V2,Option.bind_some]
    dsimp only
    rw [show (!decide ((0:Int)=0))=false by decide,cond_false,cond_false,decide_eq_true rfl,Bool.not_true,cond_false,key,Option.bind_some]
    dsimp only
    rw [W1,Option.bind_some,W2,Option.bind_some,sm,Option.bind_some,cond_true,law25_awake_ok];rfl
  · rw [decide_eq_false hlen,Bool.not_false,cond_true,law25_awake_ok];rfl
end Go.Proofs.YthcpiofmhkhbeaaGreatDoor.X
