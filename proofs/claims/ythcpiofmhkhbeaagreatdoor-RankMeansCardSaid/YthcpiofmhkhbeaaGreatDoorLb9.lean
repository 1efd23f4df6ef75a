/- Own work: part of the proof; the first line of each part says what it tells. -/
import Derived.Test.YthcpiofmhkhbeaaGreatDoorLb8


namespace Go.Proofs.YthcpiofmhkhbeaaGreatDoor.X
open Go
set_option linter.unusedVariables false
set_option linter.unusedSimpArgs false
def lfT (P:List AP) (v:Rat) (f i:Nat):Rat:=match P[i]? with
 | some p=>if p.1=f then sumP P i * (one0 p.2.2 - p.2.1) * v else 0
 | none=>0
def lfAdd (P:List AP) (v:Rat) (f:Nat):Rat:=rsum (lfT P v f) P.length
theorem lfT_at {P:List AP} {v:Rat} {f i:Nat} (h:i < P.length):lfT P v f i=if P[i].1=f then sumP P i * (one0 P[i].2.2 - P[i].2.1) * v else 0:=by
 simp only [lfT,List.getElem?_eq_getElem h]
def apF (p:AP):FP:=(p.1,fcP p)
theorem reachA_prod (P:List AP) (S:Nat):reachA S P=prodP (P.map apF) S:=by
 unfold reachA prodP
 rw [List.map_map]
 congr 1
theorem sumP_EE {P:List AP} {a:Nat} (h:a < P.length):sumP P a=EE ((outP1 P a).map fcP) fun k=>wq k ((outP1 P a).length+1):=by
 have hl:=outP1_len h
 rw [EE_rsum,List.length_map,hl]
 unfold sumP
 refine rsum_congr fun i _=>?_
 unfold wtP ekP
 rw [Rat.mul_comm,hl]
theorem reachA_perm {P Q:List AP} (h:P.Perm Q) (S:Nat):reachA S P=reachA S Q:=lprod_perm (h.map _)
theorem lfAdd_shap {P:List AP} {k n f:Nat} (h:PathP P k n) (hf:f < n) (v:Rat):lfAdd P v f=shapQ (fun S=>reachA S P * v) n f:=by
 rw [shapQ_mul]
 rcases find_ix (P:=P) (f:=f) with hn | ⟨a,ha,he,_⟩
 · have e1 : shapQ (fun S => reachA S P) n f = 0 := by
    have:(fun S=>reachA S P)=prodP (P.map apF):=funext fun S=>reachA_prod P S
    rw [this]
    refine shap_none fun hm=>?_
    rw [List.map_map] at hm
    obtain ⟨p,hp,e⟩:=List.mem_map.1 hm
    exact hn p hp e
   rw [e1,Rat.zero_mul]
   refine rsum_zeros fun i hi=>?_
   rw [lfT_at hi,if_neg (hn _ (List.getElem_mem hi))]
 · have hno := h.notin ha
   rw [he] at hno
   have ho:=h.out ha
   have e1:shapQ (fun S=>reachA S P) n f=(one0 P[a].2.2 - P[a].2.1) * sumP P a:=by
    have e2:(fun S=>reachA S P)=fun S=>pick (fcP P[a]) (S.testBit f) * prodP ((outP1 P a).map apF) S:=funext fun S=>by
      rw [reachA_perm (outP1_perm ha) S]
      show facP S P[a] * reachA S (outP1 P a)=_
      rw [reachA_prod,← he]
      rfl
    rw [e2,shap_prod hf (by rw [List.map_map];exact ho.nd) (fun p hp=>by
      obtain ⟨x,hx,rfl⟩:=List.mem_map.1 hp
      exact ho.lt x hx) (fun hm=>by
      rw [List.map_map] at hm
      obtain ⟨p,hp,e⟩:=List.mem_map.1 hm
      exact hno p hp e),sumP_EE ha]
    rw [List.map_map,List.length_map]
    rfl
   rw [e1]
   have hone:∀ i,i < P.length → i ≠ a → lfT P v f i=0:=fun i hi hne=>by
    rw [lfT_at hi]
    refine if_neg fun e=>hne ?_
    have hnd:=h.nd
    have hpw:=List.pairwise_iff_getElem.1 (show (P.map (·.1)).Pairwise (· ≠ ·) from hnd)
    rcases Nat.lt_trichotomy i a with hlt | heq | hlt
    · have h5 := hpw i a (by simpa using hi) (by simpa using ha) hlt
      simp [e,he] at h5
    · exact heq
    · have h5 := hpw a i (by simpa using ha) (by simpa using hi) hlt
      simp [e,he] at h5
   have key:∀ n,n ≤ P.length → rsum (lfT P v f) n=if a < n then lfT P v f a else 0:=by
    intro n
    induction n with
    | zero=>intro _;rw [if_neg (by omega)];rfl
    | succ n ih =>
      intro hn
      rw [rsum,ih (by omega)]
      by_cases e:n=a
      · subst e;rw [if_neg (by omega),if_pos (by omega),Rat.zero_add]
      · rw [hone n (by omega) e, Rat.add_zero]
        by_cases h1:a < n
        · rw [if_pos h1,if_pos (by omega)]
        · rw [if_neg h1,if_neg (by omega)]
   unfold lfAdd
   rw [key _ (Nat.le_refl _),if_pos ha,lfT_at ha,if_pos he]
   grind
theorem ekS8 {k n:Nat} (hk:k ≤ 70) (hn:n ≤ 8):ekS k n ≤ 20000:=by
 have h1:=ekS_mono k hn
 have h2:ekS k 8 ≤ ekS 70 8:=by
  have:∀ n,ekS k n ≤ ekS 70 n:=by
   intro n
   induction n with
   | zero=>exact Nat.le_refl _
   | succ n ih=>simp only [ekS];omega
  exact this 8
 have h3:ekS 70 8 ≤ 20000:=by decide +kernel
 omega
theorem rsum_szQ {f:Nat → Rat} {k:Nat}:∀ n,(∀ i,i < n → SzQ (f i) k) → SzQ (rsum f n) (1+n * (k+1)):=by
 intro n
 induction n with
 | zero=>intro _;exact SzQ.zero.mono (by omega)
 | succ n ih =>
  intro h
  have h1:=ih fun i hi=>h i (by omega)
  have e:(n+1) * (k+1)=n * (k+1)+(k+1):=Nat.succ_mul _ _
  exact (h1.add (h n (by omega))).mono (by omega)
theorem sumP_sz {P:List AP} {k g a:Nat} (h:PathP P k g) (hk:k ≤ 70) (hl:P.length ≤ 8) (ha:a < P.length):SzQ (sumP P a) 170000:=by
 have hS:=ekS8 (k:=k) (n:=(outP1 P a).length) hk (by have:=outP1_len ha;omega)
 have:=rsum_szQ (k:=20030) P.length (fun i hi=>(outW_sz h hk ha i hi).mono (by omega))
 refine this.mono ?_
 have:P.length * (20030+1) ≤ 8 * (20030+1):=Nat.mul_le_mul_right _ hl
 omega
theorem lfT_sz {P:List AP} {k g:Nat} {v:Rat} (h:PathP P k g) (hk:k ≤ 70) (hl:P.length ≤ 8) (hv:SzQ v 200) (f:Nat) {i:Nat} (hi:i < P.length):SzQ (lfT P v f i) 180000:=by
 rw [lfT_at hi]
 split
 · have h1 := sumP_sz h hk hl hi
   have h2:SzQ P[i].2.1 k:=h.sz _ (List.getElem_mem hi)
   have h3:=(one0_sz P[i].2.2).sub h2
   exact ((h1.mul h3).mul hv).mono (by omega)
 · exact SzQ.zero.mono (by omega)
theorem leaf_ok {t:List NODE} {row:List CELL} {fx:Int} {on:Bool} {n k:Nat} {P:List AP} (h:PathP P k n) (hk:k ≤ 70) (hl:P.length ≤ 8) {i:Nat} (hi:i < t.length) {gn:Rat} (hg:SzQ gn 100) (hs:TSz t 4)
  {o:Nat → Rat} (ho:∀ f,f < n → SzQ (o f) 100000000000) (hn:n < 1000000) (a4:Int) (a5:Bool) (a6 a7:List Int) (a8:Bool) :
  pathshap_walker_leaf (i:Int) (canQ gn).1.1 (canQ gn).1.2 (canQ gn).2 a4 a5 a6 a7 a8 t row fx on (flo n o) (encK P (wtP P)) =
   some (flo n (fun f=>o f+lfAdd P (gn * rv (nVal (nodeAt t i))) f),t,row,fx,on,encK P (wtP P)):=by
 obtain ⟨v,hv⟩:∃ v,v=gn * rv (nVal (nodeAt t i)):=⟨_,rfl⟩
 have zv:=(hs.at hi).2.1
 have m0:=ratio_Mul_ok (a:=canQ gn) (b:=nVal (nodeAt t i)) (hg.sm (by decide)) (zv.sm (by decide))
 rw [rv_canQ,← hv] at m0
 have vsz:SzQ v 200:=by rw [hv];exact (hg.mul (zv.szQ (by decide))).mono (by decide)
 rw [← hv]
 have key:=lp_up (step:=pathshap_walker_leaf_s3) (fun j=>((encW P,(P.length:Int),(j:Int),()),(((i:Int),(canQ gn).1.1,(canQ gn).1.2,(canQ gn).2,a4,a5,a6,a7,a8,()),((canQ v).1.1,(canQ v).1.2,(canQ v).2,()),(t,row,fx,on,flo n (fun f=>o f+rsum (lfT P v f) j),()),(encK P (wtP P),()),()))) P.length
  (r:=((),((t,row,fx,on,flo n (fun f=>o f+rsum (lfT P v f) P.length),()),(encK P (wtP P),()),()))) (by omega) (by
  intro g j hj
  have d0:(j:Int) < (P.length:Int):=by omega
  have d1:(0:Int) ≤ (j:Int):=by omega
  have d2:(j:Int) < ((encW P).length:Int):=by rw [encW_len];exact d0
  have g1:=encW_get hj
  have q1:iadd .i64 (j:Int) 1=((j+1:Nat):Int):=iadd1 (by omega)
  have s1:=Sum15_ok h hk hj
  have zp:SzQ P[j].2.1 k:=h.sz _ (List.getElem_mem hj)
  have n1:=ratio_Neg_ok (zp.sm (by omega))
  rw [rv_canQ] at n1
  have hfl:P[j].1 < n:=h.lt _ (List.getElem_mem hj)
  obtain ⟨F,hF⟩:∃ F,F=P[j].1:=⟨_,rfl⟩
  rw [← hF] at hfl
  have zn:SzQ (-P[j].2.1) (k+4):=by
   have:=SzQ.zero.sub zp
   rw [Rat.sub_eq_add_neg,Rat.zero_add] at this
   exact this.mono (by omega)
  have c1:(0:Int) ≤ ((F:Nat):Int):=by omega
  have c2:((F:Nat):Int) < ((flo n (fun f=>o f+rsum (lfT P v f) j)).length:Int):=by rw [flo_len];omega
  have g2:=flo_get (n:=n) (f:=F) (fun f=>o f+rsum (lfT P v f) j) hfl
  have zs:=sumP_sz h hk hl hj
  have zr:SzQ (o F+rsum (lfT P v F) j) 100010000000:=by
   have h1:SzQ (rsum (lfT P v F) j) (1+j * (180000+1)):=rsum_szQ j (fun i hi=>lfT_sz h hk hl vsz F (by omega))
   have:j * (180000+1) ≤ 8 * (180000+1):=Nat.mul_le_mul_right _ (by omega)
   exact ((ho F hfl).add h1).mono (by omega)
  have hset:∀ x,x=o F+rsum (lfT P v F) (j+1) → (flo n (fun f=>o f+rsum (lfT P v f) j)).set F (canQ x)=flo n (fun f=>o f+rsum (lfT P v f) (j+1)):=fun x hx=>by
   refine flo_set hx.symm fun f hf=>?_
   rw [rsum,lfT_at hj,if_neg (by rw [← hF];exact fun e=>hf e.symm),Rat.add_zero]
  show pathshap_walker_leaf_s3 g ((encW P,(P.length:Int),(j:Int),()),_)=_
  rw [pathshap_walker_leaf_s3,cnd d0,cnd2 d1 d2,Int.toNat_natCast,g1,Option.bind_some,q1,s1,Option.bind_some]
  show (ratio_Neg (canQ P[j].2.1)).bind _=_
  rw [n1,Option.bind_some]
  have e1:(encP P[j]).1=(F:Int):=by rw [hF];rfl
  have e2:(encP P[j]).2.2=P[j].2.2:=rfl
  rw [e1,e2]
  cases hok:P[j].2.2 with
  | true =>
   have a1:=ratio_Add_ok (SzQ.one.sm (by decide)) (zn.sm (by omega))
   rw [rv_canQ,rv_canQ,← Rat.sub_eq_add_neg] at a1
   have z1:SzQ (1 - P[j].2.1) 100:=(SzQ.one.sub zp).mono (by omega)
   have m1:=ratio_Mul_ok (zs.sm (by decide)) (z1.sm (by decide))
   rw [rv_canQ,rv_canQ] at m1
   have z2:SzQ (sumP P j * (1 - P[j].2.1)) 170100:=(zs.mul z1).mono (by omega)
   have m2:=ratio_Mul_ok (z2.sm (by decide)) (vsz.sm (by decide))
   rw [rv_canQ,rv_canQ] at m2
   have m2:ratio_Mul (canQ (sumP P j * (1 - P[j].2.1))) (((canQ v).1.1,(canQ v).1.2),(canQ v).2)=_:=m2
   have z3:SzQ (sumP P j * (1 - P[j].2.1) * v) 170300:=(z2.mul vsz).mono (by omega)
   have a2:=ratio_Add_ok (zr.sm (by decide)) (z3.sm (by decide))
   rw [rv_canQ,rv_canQ] at a2
   have hx:=hset (o F+rsum (lfT P v F) j+sumP P j * (1 - P[j].2.1) * v) (by
    rw [rsum,lfT_at hj,if_pos hF.symm,hok];simp only [one0,if_true];grind)
   rw [cond_true,ratio_One_ok,Option.bind_some,a1,Option.bind_some,cnd2 c1 c2,Int.toNat_natCast,g2,Option.bind_some,m1,Option.bind_some,m2,Option.bind_some,a2,Option.bind_some,cnd2 c1 c2,Option.bind_some,hx]
  | false =>
   have m1:=ratio_Mul_ok (zs.sm (by decide)) (zn.sm (by omega))
   rw [rv_canQ,rv_canQ] at m1
   have z2:SzQ (sumP P j * (-P[j].2.1)) 170100:=(zs.mul zn).mono (by omega)
   have m2:=ratio_Mul_ok (z2.sm (by decide)) (vsz.sm (by decide))
   rw [rv_canQ,rv_canQ] at m2
   have m2:ratio_Mul (canQ (sumP P j * (-P[j].2.1))) (((canQ v).1.1,(canQ v).1.2),(canQ v).2)=_:=m2
   have z3:SzQ (sumP P j * (-P[j].2.1) * v) 170300:=(z2.mul vsz).mono (by omega)
   have a2:=ratio_Add_ok (zr.sm (by decide)) (z3.sm (by decide))
   rw [rv_canQ,rv_canQ] at a2
   have hx:=hset (o F+rsum (lfT P v F) j+sumP P j * (-P[j].2.1) * v) (by
    rw [rsum,lfT_at hj,if_pos hF.symm,hok];simp only [one0,Bool.false_eq_true,if_false];grind)
   rw [cond_false,cnd2 c1 c2,Int.toNat_natCast,g2,Option.bind_some,m1,Option.bind_some,m2,Option.bind_some,a2,Option.bind_some,cnd2 c1 c2,Option.bind_some,hx]) (by
  intro g
  rw [pathshap_walker_leaf_s3,cnd' (by omega)])
 have e0:flo n (fun f=>o f+rsum (lfT P v f) 0)=flo n o:=flo_congr fun f _=>Rat.add_zero _
 rw [e0] at key
 have key:lp pathshap_walker_leaf_s3 K0 ((encW P,(P.length:Int),0,()),(((i:Int),(canQ gn).1.1,(canQ gn).1.2,(canQ gn).2,a4,a5,a6,a7,a8,()),((canQ v).1.1,(canQ v).1.2,(canQ v).2,()),(t,row,fx,on,flo n o,()),(encK P (wtP P),()),()))=_:=key
 have m0:ratio_Mul (((canQ gn).1.1,(canQ gn).1.2),(canQ gn).2) t[i].2.2.2.2.2.2.1=some (canQ v):=by
  rw [nodeAt_get hi] at m0;exact m0
 rw [pathshap_walker_leaf,cnd (by omega),Int.toNat_natCast,List.getElem?_eq_getElem hi,Option.bind_some,m0,Option.bind_some,Parts15_ok (by omega),Option.bind_some]
 dsimp only
 rw [encW_len,key,Option.bind_some]
 dsimp only
 rw [flo_len,flo_len,Nat.beq_refl,cond_true,Option.bind_some]
 rfl
def kOn (t:List NODE) (row:List CELL) (fx:Int) (on:Bool) (i:Nat) (side:Bool):Bool:=if nFeat (nodeAt t i)=fx then (if on then goL t row i == side else true) else true
def kG (t:List NODE) (fx:Int) (on:Bool) (i c:Nat) (g:Rat):Rat:=if nFeat (nodeAt t i)=fx then (if on then g else g * (cov t c / cov t i)) else g
def kF (t:List NODE) (fx:Int) (i:Nat):Int:=if nFeat (nodeAt t i)=fx then -1 else nFeat (nodeAt t i)
def kW (t:List NODE) (row:List CELL) (fx:Int) (i c:Nat) (side:Bool) (w:List AP):List AP:=if nFeat (nodeAt t i)=fx then w else along (featT t i) (cov t c / cov t i) (goL t row i == side) w
abbrev PL:=Rat×List AP
def legsF (t:List NODE) (row:List CELL) (fx:Int) (on:Bool):TR → List AP → Rat → List PL
 | .leaf i,w,g=>[(g * rv (nVal (nodeAt t i)),w)]
 | .split i l r,w,g =>
  (if kOn t row fx on i true then legsF t row fx on l (kW t row fx i l.top true w) (kG t fx on i l.top g) else []) ++
  (if kOn t row fx on i false then legsF t row fx on r (kW t row fx i r.top false w) (kG t fx on i r.top g) else [])
def visF (t:List NODE) (row:List CELL) (fx:Int) (on:Bool):TR → Nat
 | .leaf i=>1
 | .split i l r=>1+(if kOn t row fx on i true then visF t row fx on l else 0)+(if kOn t row fx on i false then visF t row fx on r else 0)
theorem visF_pos (t:List NODE) (row:List CELL) (fx:Int) (on:Bool) (T:TR):0 < visF t row fx on T:=by cases T <;> simp [visF];omega
theorem visF_le (t:List NODE) (row:List CELL) (fx:Int) (on:Bool) (T:TR):visF t row fx on T ≤ T.size:=by
 induction T with
 | leaf i=>simp [visF,TR.size]
 | split i l r ihl ihr =>
  simp only [visF,TR.size]
  split <;> split <;> omega
structure IT where
 T:TR
 P:List AP
 g:Rat
 s:PART
 w:List AP
abbrev ITE:=Int×(Option ((Option (List (Int×RAT×CELL)))×Unit))×RAT×PART
def encI (x:IT):ITE:=((x.T.top:Int),some (some (encK x.P (wtP x.P)),()),canQ x.g,x.s)
def GoodI (t:List NODE) (n:Nat) (x:IT):Prop:=∃ m,Is t (n:Int) x.T∧m+x.T.deep ≤ 8∧SzQ x.g (8 * m+1)∧SortA x.w ∧
 ((x.s.1 = -1 ∧ PathP x.P (8 * m + 1) n ∧ x.P.length ≤ m ∧ x.P.Perm x.w) ∨
  ∃ (m' f:Nat) (q:Rat) (ok:Bool) (w0:List AP),m=m'+1∧x.s=((f:Int),canQ q,ok)∧f < n∧SzQ q 8∧0 < q∧PathP x.P (8 * m'+1) n∧x.P.length ≤ m'∧x.P.Perm w0∧SortA w0∧x.w=along f q ok w0)
theorem GoodI.join {t:List NODE} {n:Nat} {x:IT} (h:GoodI t n x) (hn:n < 1000000):∃ (m:Nat) (P':List AP),Is t (n:Int) x.T∧m+x.T.deep ≤ 8∧SzQ x.g (8 * m+1)∧SortA x.w∧PathP P' (8 * m+1) n∧P'.length ≤ m∧P'.Perm x.w ∧
   pathshap_place_join (x.T.top:Int) (canQ x.g).1.1 (canQ x.g).1.2 (canQ x.g).2 x.s.1 x.s.2.1.1.1 x.s.2.1.1.2 x.s.2.1.2 x.s.2.2 (encK x.P (wtP x.P)) =
    some ((x.T.top:Int),(canQ x.g).1.1,(canQ x.g).1.2,(canQ x.g).2,x.s.1,x.s.2.1.1.1,x.s.2.1.1.2,x.s.2.1.2,x.s.2.2,encK P' (wtP P')):=by
 obtain ⟨m,h1,h2,h3,h4,h5⟩:=h
 have hd:=x.T.deep_pos
 rcases h5 with ⟨a1,a2,a3,a4⟩ | ⟨m',f,q,ok,w0,b1,b2,b3,b4,b5,b6,b7,b8,b9,b10⟩
 · refine ⟨m, x.P, h1, h2, h3, h4, a2, a3, a4, ?_⟩
   rw [a1,pathshap_place_join,cnd (by omega)]
 · subst b1
   obtain ⟨P',p1,p2,p3,p4⟩:=join_ok b6 b8 b9 (ok:=ok) b3 hn b4 b5 b7 (by omega) (x.T.top:Int) (canQ x.g).1.1 (canQ x.g).1.2 (canQ x.g).2
   refine ⟨m'+1,P',h1,h2,h3,h4,p2,p3,by rw [b10];exact p1,?_⟩
   rw [b2]
   exact p4
def kid (t:List NODE) (row:List CELL) (fx:Int) (on:Bool) (i:Nat) (side:Bool) (c:TR) (P w:List AP) (g:Rat):IT :=
 ⟨c,P,kG t fx on i c.top g,(kF t fx i,canQ (cov t c.top / cov t i),goL t row i == side),kW t row fx i c.top side w⟩
theorem kid_good {t:List NODE} {row:List CELL} {fx:Int} {on:Bool} {n i m:Nat} {side:Bool} {c:TR} {P w:List AP} {g:Rat} (hs:TSz t 4) (hcov:CoversP t) (hi:i < t.length) (f0:0 ≤ nFeat t[i]) (f1:nFeat t[i] < (n:Int)) (hc:Is t (n:Int) c)
   (hm:m+1+c.deep ≤ 8) (hg:SzQ g (8 * m+1)) (hw:SortA w) (hP:PathP P (8 * m+1) n) (hl:P.length ≤ m) (hpw:P.Perm w):GoodI t n (kid t row fx on i side c P w g):=by
 have hsh:=share_sz hs hc.top_lt hi
 refine ⟨m+1,hc,hm,?_,?_,?_⟩
 · show SzQ (kG t fx on i c.top g) _
   unfold kG
   split
   · split
     · exact hg.mono (by omega)
     · exact (hg.mul hsh).mono (by omega)
   · exact hg.mono (by omega)
 · show SortA (kW t row fx i c.top side w)
   unfold kW
   split
   · exact hw
   · exact along_sort hw
 · by_cases hf : nFeat (nodeAt t i) = fx
   · refine .inl ⟨?_, hP.mono (by omega), by show P.length ≤ _; omega, ?_⟩
     · show kF t fx i = -1
       exact if_pos hf
     · show P.Perm (kW t row fx i c.top side w)
       rw [kW,if_pos hf];exact hpw
   · refine .inr ⟨m, featT t i, cov t c.top / cov t i, goL t row i == side, w, rfl, ?_, ?_, hsh, ?_, hP, hl, hpw, hw, ?_⟩
     · show (kF t fx i, _, _) = _
       rw [kF,if_neg hf,featT,nodeAt_get hi]
       rw [show ((((nFeat t[i]).toNat:Nat)):Int)=nFeat t[i] by omega]
     · rw [featT,nodeAt_get hi];omega
     · have h1 : 0 < cov t c.top := by have := hcov c.top hc.top_lt; rwa [← cov_get hc.top_lt] at this
       have h2:0 < cov t i:=by have:=hcov i hi;rwa [← cov_get hi] at this
       rw [Rat.div_def]
       exact Rat.mul_pos h1 (Rat.inv_pos.2 h2)
     · show kW t row fx i c.top side w = _
       exact if_neg hf
theorem Copy15_ok {P:List AP} {w:Nat → Rat} (hl:P.length ≤ 1000000):pathshap_Path_Copy (encK P w)=some (encK P w,encK P w):=by
 rw [pathshap_Path_Copy,blt (by rw [encK_len];simp;omega),cond_true,List.nil_append]
theorem child_ok {t:List NODE} {row:List CELL} {fx:Int} {on:Bool} {i:Nat} {c:TR} {P w:List AP} {W:Nat → Rat} {g:Rat} {m:Nat} (hs:TSz t 4) (hc:CSz row 9) (hcov:CoversP t) (hi:i < t.length) (hleaf:nLeaf t[i]=false) (f0:0 ≤ nFeat t[i]) (f1:nFeat t[i] < (row.length:Int))
   (hl:c.top < t.length) (hP:P.length ≤ 1000000) (hg:SzQ g 1000) (side:Bool) (out:List RAT) (a4:Int) (a5:Bool) (a6 a7:List Int) (a8:Bool) :
   pathshap_walker_child (i:Int) (canQ g).1.1 (canQ g).1.2 (canQ g).2 a4 a5 a6 a7 a8 (c.top:Int) side t row fx on out (encK P W) =
    some (out,(c.top:Int),(canQ (kG t fx on i c.top g)).1.1,(canQ (kG t fx on i c.top g)).1.2,(canQ (kG t fx on i c.top g)).2,kF t fx i,(canQ (cov t c.top / cov t i)).1.1,(canQ (cov t c.top / cov t i)).1.2,(canQ (cov t c.top / cov t i)).2,(goL t row i == side),kOn t row fx on i side,t,row,fx,on,encK P W,encK P W):=by
 obtain ⟨cc,g1,g2,g3⟩:=goL_ok (f:=0) hs hc hi f0 f1
 have z:=hs _ (List.getElem_mem hi)
 have zl:=hs _ (List.getElem_mem hl)
 have hne:rv (nCov t[i]) ≠ 0:=by have:=hcov.ne i hi;rwa [cov_get hi] at this
 have d1:=ratio_Div_ok (a:=nCov t[c.top]) (b:=nCov t[i]) (zl.2.2.sm (by decide)) (z.2.2.sm (by decide))
 rw [if_neg hne,← cov_get hl,← cov_get hi] at d1
 have hsh:=share_sz hs hl hi
 have hb:∀ {α:Type} {a b:α},(bif Nat.beq out.length out.length then a else b)=a:=fun {α a b}=>by rw [Nat.beq_refl,cond_true]
 have hfe:nFeat (nodeAt t i)=t[i].2.1:=by rw [nodeAt_get hi]
 have hgl:(!nLeaf t[i] && goes t[i] cc)=goL t row i:=by rw [hleaf,Bool.not_false,Bool.true_and,g3]
 rw [pathshap_walker_child,cnd (by omega),Int.toNat_natCast,List.getElem?_eq_getElem hi,Option.bind_some,cnd (by omega),Int.toNat_natCast,List.getElem?_eq_getElem hl,Option.bind_some]
 show (ratio_Div (nCov t[c.top]) (nCov t[i])).bind _=_
 rw [d1,Option.bind_some,cnd (by exact f0)]
 show ((row[(nFeat t[i]).toNat]?).bind _)=_
 rw [g1,Option.bind_some,Left_ok z.1 (by decide) g2 (by decide),Option.bind_some,hgl,Copy15_ok hP,Option.bind_some]
 by_cases hf:nFeat (nodeAt t i)=fx
 · have e1 : (!decide (t[i].2.1 = fx)) = false := by rw [← hfe, decide_eq_true hf]; rfl
   have e2:kF t fx i=-1:=if_pos hf
   rw [e1,cond_false,e2]
   cases on with
   | true =>
    have e3:kG t fx true i c.top g=g:=by rw [kG,if_pos hf];rfl
    have e4:kOn t row fx true i side=(goL t row i == side):=by rw [kOn,if_pos hf];rfl
    rw [cond_true,hb,Option.bind_some,e3,e4]
   | false =>
    have e3:kG t fx false i c.top g=g * (cov t c.top / cov t i):=by rw [kG,if_pos hf];rfl
    have e4:kOn t row fx false i side=true:=by rw [kOn,if_pos hf];rfl
    have m1:=ratio_Mul_ok (hg.sm (by decide)) (hsh.sm (by decide))
    rw [rv_canQ,rv_canQ] at m1
    have m1:ratio_Mul (((canQ g).1.1,(canQ g).1.2),(canQ g).2) (canQ (cov t c.top / cov t i))=_:=m1
    rw [cond_false,m1,Option.bind_some,hb,Option.bind_some,e3,e4]
 · have e1 : (!decide (t[i].2.1 = fx)) = true := by rw [← hfe, decide_eq_false hf]; rfl
   have e2:kF t fx i=t[i].2.1:=by rw [kF,if_neg hf,hfe]
   have e3:kG t fx on i c.top g=g:=if_neg hf
   have e4:kOn t row fx on i side=true:=if_neg hf
   rw [e1,cond_true,hb,Option.bind_some,e2,e3,e4]
def kidsL (t:List NODE) (row:List CELL) (fx:Int) (on:Bool) (i:Nat) (l r:TR) (P w:List AP) (g:Rat):List IT :=
 (if kOn t row fx on i false then [kid t row fx on i false r P w g] else []) ++ (if kOn t row fx on i true then [kid t row fx on i true l P w g] else [])
theorem kids_ok {t:List NODE} {row:List CELL} {fx:Int} {on:Bool} {i:Nat} {l r:TR} {P w:List AP} {g:Rat} (hs:TSz t 4) (hc:CSz row 9) (hcov:CoversP t) (hi:i < t.length) (hleaf:nLeaf t[i]=false) (f0:0 ≤ nFeat t[i]) (f1:nFeat t[i] < (row.length:Int))
  (hl:l.top < t.length) (hr:r.top < t.length) (hP:P.length ≤ 1000000) (hg:SzQ g 1000) (out:List RAT) (a4:Int) (a5:Bool) (a6 a7:List Int) (a8:Bool) (c0:Bool) (c1:Int) (c2:Bool) (c3 c4:List Int) (c7 c8:Bool) (c9 c10:List Int) (c11:Bool) (c12 c13:List Int)
  (base:List ITE) (hb:base.length ≤ 1000000) :
  lp pathshap_walker_walk_s9 K0 (((false,(true,())),0,()),(((i:Int),(canQ g).1.1,(canQ g).1.2,(canQ g).2,a4,a5,a6,a7,a8,()),(c0,c1,c2,c3,c4,(l.top:Int),(r.top:Int),c7,c8,c9,c10,c11,c12,c13,()),(encK P (wtP P),()),(t,row,fx,on,out,base,()),())) =
    some ((),((t,row,fx,on,out,base ++ (kidsL t row fx on i l r P w g).map encI,()),())):=by
 obtain ⟨A,eA⟩:∃ A:List IT,A=if kOn t row fx on i false then [kid t row fx on i false r P w g] else []:=⟨_,rfl⟩
 obtain ⟨B,eB⟩:∃ B:List IT,B=if kOn t row fx on i true then [kid t row fx on i true l P w g] else []:=⟨_,rfl⟩
 have eK:kidsL t row fx on i l r P w g=A ++ B:=by rw [eA,eB];rfl
 have lA:A.length ≤ 1:=by rw [eA];split <;> simp
 obtain ⟨K,hK⟩:∃ K:Nat → List ITE,K=fun j=>if j=0 then [] else if j=1 then A.map encI else (A ++ B).map encI:=⟨_,rfl⟩
 have K0':K 0=[]:=by rw [hK];rfl
 have K1:K 1=A.map encI:=by rw [hK];rfl
 have K2:K 2=(A ++ B).map encI:=by rw [hK];rfl
 have ov:over out 0 out=out:=over_all rfl
 have hc1:=fun side=>child_ok (fx:=fx) (on:=on) (c:=r) (P:=P) (w:=w) (W:=wtP P) (g:=g) (m:=0) hs hc hcov hi hleaf f0 f1 hr hP hg side out a4 a5 a6 a7 a8
 have hc2:=fun side=>child_ok (fx:=fx) (on:=on) (c:=l) (P:=P) (w:=w) (W:=wtP P) (g:=g) (m:=0) hs hc hcov hi hleaf f0 f1 hl hP hg side out a4 a5 a6 a7 a8
 have key:=lp_up (step:=pathshap_walker_walk_s9) (fun j=>(((false,(true,())),(j:Int),()),(((i:Int),(canQ g).1.1,(canQ g).1.2,(canQ g).2,a4,a5,a6,a7,a8,()),(c0,c1,c2,c3,c4,(l.top:Int),(r.top:Int),c7,c8,c9,c10,c11,c12,c13,()),(encK P (wtP P),()),(t,row,fx,on,out,base ++ K j,()),()))) 2
  (r:=((),((t,row,fx,on,out,base ++ K 2,()),()))) (by omega) (by
  intro g' j hj
  have hj2:j=0 ∨ j=1:=by omega
  rcases hj2 with rfl | rfl
  · rw [pathshap_walker_walk_s9, cnd (by omega), cnd (by omega)]
    show ((([false,true]:List Bool)[0]?).bind _)=_
    rw [show (([false,true]:List Bool)[0]?)=some false from rfl,Option.bind_some,cond_false,hc1 false,Option.bind_some]
    dsimp only
    rw [K0',List.append_nil,show ((0+1:Nat))=1 from rfl,K1,ov]
    cases hk:kOn t row fx on i false with
    | true =>
     have eA':A=[kid t row fx on i false r P w g]:=by rw [eA,hk];rfl
     rw [cond_true,blt (by simp;omega),cond_true,eA']
     rfl
    | false =>
     have eA':A=[]:=by rw [eA,hk];rfl
     rw [cond_false,eA',List.map_nil,List.append_nil]
     rfl
  · rw [pathshap_walker_walk_s9, cnd (by omega), cnd (by omega)]
    show ((([false,true]:List Bool)[1]?).bind _)=_
    rw [show (([false,true]:List Bool)[1]?)=some true from rfl,Option.bind_some,cond_true,hc2 true,Option.bind_some]
    dsimp only
    rw [show ((1+1:Nat))=2 from rfl,K1,K2,ov]
    cases hk:kOn t row fx on i true with
    | true =>
     have eB':B=[kid t row fx on i true l P w g]:=by rw [eB,hk];rfl
     rw [cond_true,blt (by simp;omega),cond_true,eB',List.map_append,← List.append_assoc]
     rfl
    | false =>
     have eB':B=[]:=by rw [eB,hk];rfl
     rw [cond_false,eB',List.append_nil]
     rfl) (by
  intro g'
  rw [pathshap_walker_walk_s9,cnd' (by omega)])
 rw [K0',K2,← eK,List.append_nil] at key
 exact key
def totL (n f:Nat) (l:List PL):Rat:=lsum (l.map fun y=>shapQ (fun S=>reachA S y.2 * y.1) n f)
theorem totL_append (n f:Nat) (a b:List PL):totL n f (a ++ b)=totL n f a+totL n f b:=by rw [totL,List.map_append,lsum_append];rfl
def totI (t:List NODE) (row:List CELL) (fx:Int) (on:Bool) (n f:Nat) (x:IT):Rat:=totL n f (legsF t row fx on x.T x.w x.g)
def visL (t:List NODE) (row:List CELL) (fx:Int) (on:Bool):List IT → Nat
 | []=>0
 | x :: L=>visF t row fx on x.T+visL t row fx on L
theorem visL_append (t:List NODE) (row:List CELL) (fx:Int) (on:Bool) (a b:List IT):visL t row fx on (a ++ b)=visL t row fx on a+visL t row fx on b:=by
 induction a with
 | nil=>simp [visL]
 | cons x a ih=>simp only [List.cons_append,visL,ih];omega
theorem visL_len (t:List NODE) (row:List CELL) (fx:Int) (on:Bool) (a:List IT):a.length ≤ visL t row fx on a:=by
 induction a with
 | nil=>simp [visL]
 | cons x a ih=>have:=visF_pos t row fx on x.T;simp only [List.length_cons,visL];omega
theorem kids_vis (t:List NODE) (row:List CELL) (fx:Int) (on:Bool) (i:Nat) (l r:TR) (P w:List AP) (g:Rat) :
  visF t row fx on (.split i l r)=1+visL t row fx on (kidsL t row fx on i l r P w g):=by
 rw [kidsL,visL_append]
 simp only [visF]
 cases kOn t row fx on i true <;> cases kOn t row fx on i false <;> simp [visL,kid] <;> omega
theorem kids_tot (t:List NODE) (row:List CELL) (fx:Int) (on:Bool) (n f i:Nat) (l r:TR) (P w:List AP) (g:Rat) :
   totL n f (legsF t row fx on (.split i l r) w g)=lsum ((kidsL t row fx on i l r P w g).map (totI t row fx on n f)):=by
 rw [kidsL,List.map_append,lsum_append]
 simp only [legsF]
 rw [totL_append,Rat.add_comm]
 congr 1
 · cases kOn t row fx on i false
   · rfl
   · simp only [if_true,List.map_cons,List.map_nil,lsum,Rat.add_zero];rfl
 · cases kOn t row fx on i true
   · rfl
   · simp only [if_true,List.map_cons,List.map_nil,lsum,Rat.add_zero];rfl
theorem walk15_ok {t:List NODE} {row:List CELL} {fx:Int} {on:Bool} {T:TR} {o:Nat → Rat} (hs:TSz t 4) (hc:CSz row 9) (hcov:CoversP t) (hT:Is t (row.length:Int) T) (h0:T.top=0) (hd:T.deep ≤ 8) (hz:T.size ≤ 100) (hrl:row.length ≤ 64)
  {S:Nat} (ho:∀ f,f < row.length → SzQ (o f) S) (hS:S ≤ 50000000000) :
  (∃ st,pathshap_walker_walk t row fx on (flo row.length o) []=some (flo row.length (fun f=>o f+totL row.length f (legsF t row fx on T [] 1)),t,row,fx,on,st))∧∀ f,f < row.length → SzQ (o f+totL row.length f (legsF t row fx on T [] 1)) (S+200000000):=by
 obtain ⟨n,hn⟩:∃ n,n=row.length:=⟨_,rfl⟩
 obtain ⟨N,hN⟩:∃ N,N=visF t row fx on T:=⟨_,rfl⟩
 have hN2:N ≤ 100:=by rw [hN];exact Nat.le_trans (visF_le _ _ _ _ _) hz
 obtain ⟨x0,hx0⟩:∃ x0:IT,x0=⟨T,[],1,(-1,(((false,[]),[]),false)),[]⟩:=⟨_,rfl⟩
 have t0:∀ f,totI t row fx on n f x0=totL n f (legsF t row fx on T [] 1):=fun f=>by rw [hx0];rfl
 have hg0:GoodI t n x0:=by
  refine ⟨0,by rw [hx0,hn];exact hT,by rw [hx0];show 0+T.deep ≤ 8;omega,by rw [hx0];exact SzQ.one,by rw [hx0];exact List.Pairwise.nil,.inl ⟨by rw [hx0],?_,by simp [hx0],by simp [hx0]⟩⟩
  rw [hx0]
  exact ⟨List.Pairwise.nil,fun p hp=>absurd hp (by simp),by simp,fun p hp=>absurd hp (by simp),fun p hp=>absurd hp (by simp)⟩
 rw [← hn]
 obtain ⟨res,hres,hlp⟩:=lp_inv (step:=pathshap_walker_walk_s1)
  (fun j v=>∃ (L:List IT) (o':Nat → Rat),v=((),((t,row,fx,on,flo n o',L.map encI,()),()))∧(∀ x ∈ L,GoodI t n x)∧j+visL t row fx on L=N∧(∀ f,f < n → SzQ (o' f) (S+2000000 * j))∧∀ f,f < n → o' f+lsum (L.map (totI t row fx on n f))=o f+totI t row fx on n f x0)
  (fun r=>(∃ (st:List ITE),r=((),((t,row,fx,on,flo n (fun f=>o f+totI t row fx on n f x0),st,()),())))∧∀ f,f < n → SzQ (o f+totI t row fx on n f x0) (S+200000000)) N
  (v:=((),((t,row,fx,on,flo n o,[x0].map encI,()),())))
  ⟨[x0],o,rfl,fun x hx=>by rw [List.mem_singleton.1 hx];exact hg0,by simp only [visL,hx0];omega,fun f hf=>(ho f (by omega)).mono (by omega),fun f hf=>by simp only [List.map_cons,List.map_nil,lsum,Rat.add_zero]⟩
  (by omega)
  (by
   rintro j v hj ⟨L,o',rfl,hL,hv,hsz,htot⟩
   rcases List.eq_nil_or_concat L with rfl | ⟨L0,x,rfl⟩
   · simp only [visL] at hv;omega
   rw [List.concat_eq_append] at *
   have hx:GoodI t n x:=hL x (by simp)
   obtain ⟨m,P',j1,j2,j3,j4,j5,j6,j7,j8⟩:=hx.join (by omega)
   rw [visL_append] at hv
   simp only [visL,Nat.add_zero] at hv
   have hvp:=visF_pos t row fx on x.T
   have hvl:=visL_len t row fx on L0
   obtain ⟨base,hbase⟩:∃ base,base=L0.map encI:=⟨_,rfl⟩
   have lb:base.length=L0.length:=by rw [hbase];simp
   have eS:(L0 ++ [x]).map encI=base ++ [encI x]:=by rw [hbase];simp
   have hi:=j1.top_lt
   have qS:∀ y:ITE,isub .i64 ((base ++ [y]).length:Int) 1=(base.length:Int):=fun y=>by
     rw [List.length_append,List.length_singleton,isub_i (by omega) (by omega)];omega
   have gS:(base ++ [encI x])[base.length]?=some (encI x):=by simp
   have sS:∀ y,(base ++ [encI x]).set base.length y=base ++ [y]:=fun y=>by simp
   have cS:∀ y:ITE,(decide ((0:Int) ≤ (base.length:Int)) && decide (((base.length:Int):Int) ≤ (base.length:Int)) && decide (((base.length:Int):Int) ≤ ((base ++ [y]).length:Int)))=true:=fun y=>by
     simp only [Bool.and_eq_true,decide_eq_true_eq,List.length_append,List.length_singleton];omega
   have tS:∀ y:ITE,(base ++ [y]).take (((base.length:Int) - 0).toNat)=base:=fun y=>by
     rw [show ((base.length:Int) - 0).toNat=base.length by omega];simp
   have hpos:(((base ++ [encI x]).length:Nat):Int) > 0:=by rw [List.length_append,List.length_singleton];omega
   have d2:(base.length:Int) < (((base ++ [encI x]).length:Nat):Int):=by rw [List.length_append,List.length_singleton];omega
   have walkE:∀ g,pathshap_walker_walk_s1 g ((),((t,row,fx,on,flo n o',(L0 ++ [x]).map encI,()),())) =
       bif t[x.T.top].1 then ((pathshap_walker_leaf (x.T.top:Int) (canQ x.g).1.1 (canQ x.g).1.2 (canQ x.g).2 x.s.1 x.s.2.1.1.1 x.s.2.1.1.2 x.s.2.1.2 x.s.2.2 t row fx on (flo n o') (encK P' (wtP P'))).bind fun r8=>g ((()),((r8.2.1,r8.2.2.1,r8.2.2.2.1,r8.2.2.2.2.1,(over (flo n o') 0 r8.1),base,()),())))
       else ((lp pathshap_walker_walk_s9 K0 (((false,(true,())),0,()),(((x.T.top:Int),(canQ x.g).1.1,(canQ x.g).1.2,(canQ x.g).2,x.s.1,x.s.2.1.1.1,x.s.2.1.1.2,x.s.2.1.2,x.s.2.2,()),(t[x.T.top].1,t[x.T.top].2.1,t[x.T.top].2.2.1.1.1,t[x.T.top].2.2.1.1.2,t[x.T.top].2.2.1.2,t[x.T.top].2.2.2.1,t[x.T.top].2.2.2.2.1,t[x.T.top].2.2.2.2.2.1,t[x.T.top].2.2.2.2.2.2.1.1.1,t[x.T.top].2.2.2.2.2.2.1.1.2,t[x.T.top].2.2.2.2.2.2.1.2,t[x.T.top].2.2.2.2.2.2.2.1.1,t[x.T.top].2.2.2.2.2.2.2.1.2,t[x.T.top].2.2.2.2.2.2.2.2,()),(encK P' (wtP P'),()),(t,row,fx,on,flo n o',base,()),()))).bind fun t12=>g ((()),((t12.2.1.1,t12.2.1.2.1,t12.2.1.2.2.1,t12.2.1.2.2.2.1,t12.2.1.2.2.2.2.1,t12.2.1.2.2.2.2.2.1,()),()))):=fun g=>by
     rw [pathshap_walker_walk_s1,eS,cnd hpos,qS,cnd2 (by omega) d2,Int.toNat_natCast,gS,Option.bind_some]
     show ((some (some (encK x.P (wtP x.P)),()):Option ((Option (List (Int×RAT×CELL)))×Unit)).bind _)=_
     rw [Option.bind_some]
     show ((some (encK x.P (wtP x.P)):Option (List (Int×RAT×CELL))).bind _)=_
     rw [Option.bind_some,sS,qS,cS,cond_true,tS]
     show (pathshap_place_join (x.T.top:Int) (canQ x.g).1.1 (canQ x.g).1.2 (canQ x.g).2 x.s.1 x.s.2.1.1.1 x.s.2.1.1.2 x.s.2.1.2 x.s.2.2 (encK x.P (wtP x.P))).bind _=_
     rw [j8,Option.bind_some]
     dsimp only
     rw [cnd (by omega),Int.toNat_natCast,List.getElem?_eq_getElem hi,Option.bind_some]
   have hm7:m ≤ 7:=by have:=x.T.deep_pos;omega
   cases hxT:x.T with
   | leaf i =>
     rw [hxT] at j1 j2 hi hv
     simp only [hxT] at walkE
     obtain ⟨i1,i2⟩:=j1
     have hlf:=leaf_ok (t:=t) (row:=row) (fx:=fx) (on:=on) j5 (by omega) (by omega) i1 (j3.mono (by omega)) hs (o:=o') (fun f hf=>(hsz f hf).mono (by omega)) (by omega) x.s.1 x.s.2.1.1.1 x.s.2.1.1.2 x.s.2.1.2 x.s.2.2
     obtain ⟨v,hv'⟩:∃ v,v=x.g * rv (nVal (nodeAt t i)):=⟨_,rfl⟩
     rw [← hv'] at hlf
     have hvz:SzQ v 200:=by rw [hv'];exact ((j3.mono (show 8 * m+1 ≤ 100 by omega)).mul ((hs.at i1).2.1.szQ (by decide))).mono (by decide)
     refine ⟨((),((t,row,fx,on,flo n (fun f=>o' f+lfAdd P' v f),L0.map encI,()),())),⟨L0,_,rfl,fun y hy=>hL y (by simp [hy]),by simp only [visF] at hv;omega,fun f hf=>?_,fun f hf=>?_⟩,fun g=>?_⟩
     · have h1 := rsum_szQ (k := 180000) P'.length (fun i hi => lfT_sz j5 (by omega) (by omega) hvz f hi)
       have h1:SzQ (lfAdd P' v f) _:=h1
       have:P'.length * (180000+1) ≤ 8 * (180000+1):=Nat.mul_le_mul_right _ (by omega)
       exact ((hsz f hf).add h1).mono (by omega)
     · have e := htot f hf
       rw [List.map_append,lsum_append] at e
       simp only [List.map_cons,List.map_nil,lsum,Rat.add_zero] at e
       have e2:totI t row fx on n f x=lfAdd P' v f:=by
         rw [totI,hxT,lfAdd_shap j5 hf]
         simp only [legsF,totL,List.map_cons,List.map_nil,lsum,Rat.add_zero]
         rw [← hv']
         refine shapQ_congr hf fun S _=>?_
         rw [reachA_perm j7]
       rw [e2] at e
       rw [← e];grind
     · rw [walkE g]
       show (bif t[i].1 then _ else _)=_
       rw [show t[i].1=true from i2,cond_true]
       show (pathshap_walker_leaf (i:Int) _ _ _ _ _ _ _ _ _ _ _ _ _ _).bind _=_
       rw [hlf,Option.bind_some]
       dsimp only
       rw [over_all (by rw [flo_len,flo_len]),hbase]
   | split i l r =>
     rw [hxT] at j1 j2 hi hv
     simp only [hxT,TR.top] at walkE
     obtain ⟨i1,i2,f0,f1,i3,i4,i5,i6⟩:=j1
     simp only [TR.deep] at j2
     have hkd:=kids_ok (t:=t) (row:=row) (fx:=fx) (on:=on) (i:=i) (l:=l) (r:=r) (P:=P') (w:=x.w) (g:=x.g) hs hc hcov i1 i2 f0 (by omega) i5.top_lt i6.top_lt (by omega) (j3.mono (by omega)) (flo n o') x.s.1 x.s.2.1.1.1 x.s.2.1.1.2 x.s.2.1.2 x.s.2.2
       false t[i].2.1 t[i].2.2.1.1.1 t[i].2.2.1.1.2 t[i].2.2.1.2 t[i].2.2.2.2.2.1 t[i].2.2.2.2.2.2.1.1.1 t[i].2.2.2.2.2.2.1.1.2 t[i].2.2.2.2.2.2.1.2 t[i].2.2.2.2.2.2.2.1.1 t[i].2.2.2.2.2.2.2.1.2 t[i].2.2.2.2.2.2.2.2 base (by omega)
     refine ⟨((),((t,row,fx,on,flo n o',(L0 ++ kidsL t row fx on i l r P' x.w x.g).map encI,()),())),⟨L0 ++ kidsL t row fx on i l r P' x.w x.g,o',rfl,fun y hy=>?_,?_,fun f hf=>(hsz f hf).mono (by omega),fun f hf=>?_⟩,fun g=>?_⟩
     · rcases List.mem_append.1 hy with hy | hy
       · exact hL y (by simp [hy])
       · have hgl : ∀ side, GoodI t n (kid t row fx on i side l P' x.w x.g) := fun side => kid_good hs hcov i1 f0 f1 i5 (by omega) j3 j4 j5 j6 j7
         have hgr:∀ side,GoodI t n (kid t row fx on i side r P' x.w x.g):=fun side=>kid_good hs hcov i1 f0 f1 i6 (by omega) j3 j4 j5 j6 j7
         rcases List.mem_append.1 hy with hy | hy
         · split at hy
           · rw [List.mem_singleton.1 hy];exact hgr _
           · cases hy
         · split at hy
           · rw [List.mem_singleton.1 hy];exact hgl _
           · cases hy
     · have := kids_vis t row fx on i l r P' x.w x.g
       rw [visL_append];omega
     · have e := htot f hf
       rw [List.map_append,lsum_append] at e
       simp only [List.map_cons,List.map_nil,lsum,Rat.add_zero] at e
       have e2:totI t row fx on n f x=lsum ((kidsL t row fx on i l r P' x.w x.g).map (totI t row fx on n f)):=by
         rw [totI,hxT];exact kids_tot t row fx on n f i l r P' x.w x.g
       rw [e2] at e
       rw [List.map_append,lsum_append];exact e
     · rw [walkE g]
       show (bif t[i].1 then _ else _)=_
       rw [show t[i].1=false from i2,cond_false]
       rw [show t[i].2.2.2.1=(l.top:Int) from i3,show t[i].2.2.2.2.1=(r.top:Int) from i4,hkd,Option.bind_some]
       dsimp only
       rw [hbase,← List.map_append])
  (by
   rintro v ⟨L,o',rfl,hL,hv,hsz,htot⟩
   have hl:=visL_len t row fx on L
   have:L=[]:=by
     cases L with
     | nil=>rfl
     | cons x L=>simp only [List.length_cons] at hl;omega
   subst this
   refine ⟨((),((t,row,fx,on,flo n o',List.map encI [],()),())),⟨⟨List.map encI [],?_⟩,fun f hf=>?_⟩,fun g=>?_⟩
   · have : flo n o' = flo n (fun f => o f + totI t row fx on n f x0) := flo_congr fun f hf => by
       rw [← htot f hf];simp only [List.map_nil,lsum,Rat.add_zero]
     rw [this]
   · rw [← htot f hf]
     simp only [List.map_nil,lsum,Rat.add_zero]
     exact (hsz f hf).mono (by omega)
   · rw [pathshap_walker_walk_s1,cnd' (by simp)])
 obtain ⟨⟨st,rfl⟩,hrs⟩:=hres
 refine ⟨⟨st,?_⟩,fun f hf=>by have:=hrs f hf;rwa [t0] at this⟩
 have e0:[x0].map encI=[((0:Int),(some (some (encK [] (wtP [])),()):Option ((Option (List (Int×RAT×CELL)))×Unit)),canQ 1,((-1:Int),(((false,[]),[]),false)))]:=by
  rw [hx0]
  simp only [List.map_cons,List.map_nil,encI,h0];rfl
 rw [e0] at hlp
 rw [pathshap_walker_walk,New15_ok,Option.bind_some,ratio_One_ok,Option.bind_some]
 have hlp:lp pathshap_walker_walk_s1 K0 (((),((t,row,fx,on,flo n o,[(0,((some ((some (encK [] (wtP []))),())),(canQ 1,((-1),(((false,[]),[]),false)))))],()),())))=_:=hlp
 rw [hlp,Option.bind_some]
 dsimp only
 rw [flo_len,flo_len,Nat.beq_refl,cond_true,Option.bind_some]
 simp only [t0]
def trV (t:List NODE) (row:List CELL) (fx:Int) (on:Bool) (f:Nat):Rat:=totL row.length f (legsF t row fx on (treeOf t) [] 1)
def pvals (m:MODEL) (row:List CELL) (fx:Int) (on:Bool) (f:Nat):Rat:=rsum (fun j=>trV (treeAt m j) row fx on f) m.2.length
theorem Askd.deep8 {m:MODEL} {row:List CELL} (h:Askd m row) {i:Nat} (hi:i < m.2.length):(treeOf m.2[i]).deep ≤ 8∧(treeOf m.2[i]).size ≤ 15:=by
 have h1:=h.good.treeOf hi
 have hsh:ShapeP m.2[i]:=h.good.2 1 (by decide) i hi
 have h2:=tree_size hsh h1.1
 have h3:=deep_half (treeOf m.2[i])
 have h4:=h.mt _ (List.getElem_mem hi)
 omega
theorem Askd.walk {m:MODEL} {row:List CELL} (h:Askd m row) {i:Nat} (hi:i < m.2.length) (fx:Int) (on:Bool) {o:Nat → Rat} {S:Nat} (ho:∀ f,f < row.length → SzQ (o f) S) (hS:S ≤ 50000000000) :
  (∃ st,pathshap_walker_walk m.2[i] row fx on (flo row.length o) []=some (flo row.length (fun f=>o f+trV (treeAt m i) row fx on f),m.2[i],row,fx,on,st))∧∀ f,f < row.length → SzQ (o f+trV (treeAt m i) row fx on f) (S+200000000):=by
 obtain ⟨t1,t2,t3,t4,t5⟩:=h.tree hi
 rw [t5] at t2 t3 ⊢
 obtain ⟨d1,d2⟩:=h.deep8 hi
 exact walk15_ok t1 h.cs (h.cov hi) t2 t3 d1 (by omega) h.f64 ho hS
theorem trV_sz {m:MODEL} {row:List CELL} (h:Askd m row) {i:Nat} (hi:i < m.2.length) (fx:Int) (on:Bool) {f:Nat} (hf:f < row.length):SzQ (trV (treeAt m i) row fx on f) 200000010:=by
 have:=(h.walk hi fx on (o:=fun _=>0) (S:=1) (fun _ _=>SzQ.zero) (by decide)).2 f hf
 rw [Rat.zero_add] at this
 exact this.mono (by decide)
theorem pvals_sz {m:MODEL} {row:List CELL} (h:Askd m row) (fx:Int) (on:Bool) {f:Nat} (hf:f < row.length):SzQ (pvals m row fx on f) 1500000000:=by
 have h1:=rsum_szQ (f:=fun j=>trV (treeAt m j) row fx on f) (k:=200000010) m.2.length (fun i hi=>trV_sz h hi fx on hf)
 have:m.2.length * (200000010+1) ≤ 6 * (200000010+1):=Nat.mul_le_mul_right _ h.ml
 exact h1.mono (by omega)
theorem pzeros_ok {n:Nat} (h:n ≤ 1000000):pathshap_zeros (n:Int)=some (flo n fun _=>0):=by
 have key:=lp_up (step:=pathshap_zeros_s3) (fun i=>((flo i (fun _=>0),(n:Int),(i:Int),()),())) n (r:=((flo n (fun _=>0),()),())) (by omega) (by
  intro g i hi
  have d0:(i:Int) < (n:Int):=by omega
  rw [pathshap_zeros_s3,cnd d0,ratio_Zero_ok,Option.bind_some,blt (by rw [flo_len];omega),cond_true,iadd1 (by omega)]
  simp only [flo,List.range_succ,List.map_append]
  rfl) (by
  intro g
  rw [pathshap_zeros_s3,cnd' (by omega)])
 have key:lp pathshap_zeros_s3 K0 (([],(n:Int),0,()),())=_:=key
 rw [pathshap_zeros,key];rfl
theorem all15_ok {m:MODEL} {row:List CELL} (h:Askd m row) (fx:Int) (on:Bool):pathshap_all m row fx on=some (flo row.length (pvals m row fx on)):=by
 have ml:=h.ml
 have h64:=h.f64
 have hsz:∀ j,j ≤ m.2.length → ∀ f,f < row.length → SzQ (rsum (fun j=>trV (treeAt m j) row fx on f) j) 1500000000:=fun j hj f hf=>by
  have h1:=rsum_szQ (f:=fun j=>trV (treeAt m j) row fx on f) (k:=200000010) j (fun i hi=>trV_sz h (by omega) fx on hf)
  have:j * (200000010+1) ≤ 6 * (200000010+1):=Nat.mul_le_mul_right _ (by omega)
  exact h1.mono (by omega)
 have key:=lp_up (step:=pathshap_all_s3) (fun j=>((row,fx,on,flo row.length (fun f=>rsum (fun j=>trV (treeAt m j) row fx on f) j),m.2,(m.2.length:Int),(j:Int),()),())) m.2.length (r:=((flo row.length (pvals m row fx on),()),())) (by omega) (by
  intro g j hj
  have d0:(j:Int) < (m.2.length:Int):=by omega
  obtain ⟨st,hw⟩:=(h.walk hj fx on (hsz j (by omega)) (by decide)).1
  rw [pathshap_all_s3,cnd d0,cnd (by omega),Int.toNat_natCast,List.getElem?_eq_getElem hj,Option.bind_some,hw,Option.bind_some]
  dsimp only
  rw [over_all (by rw [flo_len,flo_len]),iadd1 (by omega)]
  rfl) (by
  intro g
  rw [pathshap_all_s3,cnd' (by omega)]
  rfl)
 have key:lp pathshap_all_s3 K0 ((row,fx,on,flo row.length (fun _=>0),m.2,(m.2.length:Int),0,()),())=_:=key
 rw [pathshap_all,show m.1=((row.length:Nat):Int) by have:=h.len;omega,pzeros_ok (by omega),Option.bind_some,key];rfl
theorem Values15_ok {m:MODEL} {row:List CELL} (h:Askd m row):pathshap_Values m row=some (flo row.length (pvals m row (-1) false),0):=by
 obtain ⟨e,_,h1,h2⟩:=fitsOk (row:=row) (by have:=h.ml;omega) (fun t ht=>by have:=h.mt t ht;omega) h.ms
 have e0:e=0:=h2.2 ⟨h.good,h.len⟩
 subst e0
 rw [pathshap_Values,h1,Option.bind_some,show (!decide ((0:Int)=0))=false by decide,cond_false,all15_ok h];rfl
def wantF (b:Bool) (m:MODEL):List (List CELL) → Int
 | []=>15
 | r :: l=>if whyR b m r ≠ 0 then whyR b m r else if wantF b m l=15 then 0 else wantF b m l
theorem whyR_15 (b:Bool) (m:MODEL) (r:List CELL):whyR b m r ≠ 15:=by
 unfold whyR;split
 · split <;> decide
 · decide
theorem wantF_nil {b:Bool} {m:MODEL}:∀ {l:List (List CELL)},wantF b m l=15 ↔ l=[]:=by
 intro l
 cases l with
 | nil=>simp [wantF]
 | cons r l =>
  simp only [wantF]
  constructor
  · intro h
    split at h
    · exact absurd h (whyR_15 b m r)
    · split at h
      · cases h
      · rename_i h2;exact absurd h h2
  · intro h;cases h
theorem wantF_all {b:Bool} {m:MODEL} {l:List (List CELL)} (h:∀ r ∈ l,whyR b m r=0):wantF b m l=if l=[] then 15 else 0:=by
 induction l with
 | nil=>rfl
 | cons r l ih =>
  have ih:=ih fun x hx=>h x (List.mem_cons_of_mem _ hx)
  have hne:¬ (r :: l=[]):=by simp
  rw [wantF,if_neg (by rw [h r List.mem_cons_self];simp),ih,if_neg hne]
  by_cases e:l=[]
  · rw [if_pos e,if_pos rfl]
  · rw [if_neg e,if_neg (by decide)]
theorem wantF_cases {b:Bool} {m:MODEL} (l:List (List CELL)):(∀ r ∈ l,whyR b m r=0) ∨ ∃ i,∃ hi:i < l.length,whyR b m l[i] ≠ 0∧wantF b m l=whyR b m l[i]∧∀ j (hj:j < l.length),j < i → whyR b m l[j]=0:=by
 induction l with
 | nil=>exact .inl (by simp)
 | cons r l ih =>
  by_cases h:whyR b m r=0
  · rcases ih with h1 | ⟨i, hi, h1, h2, h3⟩
    · exact .inl fun x hx=>by rcases List.mem_cons.1 hx with rfl | hx;exact h;exact h1 x hx
    · refine .inr ⟨i + 1, by simpa using hi, by simpa using h1, ?_, fun j hj hji => ?_⟩
      · rw [wantF,if_neg (by rw [h];simp),h2,if_neg (whyR_15 b m _)];simp
      · cases j with
        | zero=>exact h
        | succ j=>simpa using h3 j (by simpa using hj) (by omega)
  · exact .inr ⟨0,by simp,h,by rw [wantF,if_pos h];rfl,fun j _ hj=>by omega⟩
theorem fitsR_lp {b:Bool} {m:MODEL} (hb:valid_Ok m=some b) (l:List (List CELL)) (hl:l.length ≤ 1000) :
   lp rank_Means_s2 K0 ((l,l,(l.length:Int),0,()),((m.1,m.2,()),()))=if ∀ r ∈ l,whyR b m r=0 then some (.inl ((l,()),((m.1,m.2,()),()))) else some (.inr (([],wantF b m l,()),())):=by
 rcases wantF_cases (b:=b) (m:=m) l with h | ⟨i,hi,h1,h2,h3⟩
 · rw [if_pos h]
   have key:=lp_up (step:=rank_Means_s2) (fun i=>((l,l,(l.length:Int),(i:Int),()),((m.1,m.2,()),()))) l.length (r:=.inl ((l,()),((m.1,m.2,()),()))) (by omega) (by
    intro g i hi
    have hr:=(whyR_ok hb l[i]).1
    rw [h _ (List.getElem_mem hi)] at hr
    have hr:route_Fits (m.1,m.2) l[i]=some 0:=hr
    rw [rank_Means_s2,cnd (by omega),cnd (by omega),Int.toNat_natCast,List.getElem?_eq_getElem hi,Option.bind_some,hr,Option.bind_some,show (!decide ((0:Int)=0))=false by decide,cond_false,iadd1 (by omega)]
    rfl) (by
    intro g
    rw [rank_Means_s2,cnd' (by omega)])
   exact key
 · rw [if_neg (fun h => h1 (h _ (List.getElem_mem hi)))]
   have key:=lp_up (step:=rank_Means_s2) (fun i=>((l,l,(l.length:Int),(i:Int),()),((m.1,m.2,()),()))) i (r:=.inr (([],wantF b m l,()),())) (by omega) (by
    intro g j hj
    have hr:=(whyR_ok hb l[j]).1
    rw [h3 j (by omega) hj] at hr
    have hr:route_Fits (m.1,m.2) l[j]=some 0:=hr
    rw [rank_Means_s2,cnd (by omega),cnd (by omega),Int.toNat_natCast,List.getElem?_eq_getElem (by omega),Option.bind_some,hr,Option.bind_some,show (!decide ((0:Int)=0))=false by decide,cond_false,iadd1 (by omega)]
    rfl) (by
    intro g
    have hr:route_Fits (m.1,m.2) l[i]=some (whyR b m l[i]):=(whyR_ok hb l[i]).1
    rw [rank_Means_s2,cnd (by omega),cnd (by omega),Int.toNat_natCast,List.getElem?_eq_getElem hi,Option.bind_some,hr,Option.bind_some,decide_eq_false h1,Bool.not_false,cond_true,h2])
   exact key
theorem want_lp {b:Bool} {m:MODEL} (hb:valid_Ok m=some b) (l:List (List CELL)) (hl:l.length ≤ 1000) (x:List RAT) (e:Int) (s:List RAT) :
  lp dendronlaw27_RankMeans_s7 K0 ((l,x,e,15,s,isub .i64 (l.length:Int) 1,()),((m.1,m.2,()),()))=some ((l,x,e,wantF b m l,s,()),((m.1,m.2,()),())):=by
 have key:=lp_up (step:=dendronlaw27_RankMeans_s7) (fun k=>((l,x,e,wantF b m (l.drop (l.length - k)),s,(l.length:Int) - 1 - (k:Int),()),((m.1,m.2,()),()))) l.length (r:=((l,x,e,wantF b m l,s,()),((m.1,m.2,()),()))) (by omega) (by
  intro g k hk
  obtain ⟨i,hi⟩:∃ i,l.length=i+k+1:=⟨l.length - k - 1,by omega⟩
  have hil:i < l.length:=by omega
  have e1:(l.length:Int) - 1 - (k:Int)=(i:Int):=by omega
  have e2:(l.length:Int) - 1 - ((k+1:Nat):Int)=(i:Int) - 1:=by omega
  have e3:l.length - k=i+1:=by omega
  have e4:l.length - (k+1)=i:=by omega
  have hr:dendronlaw10_Why (m.1,m.2) l[i]=some (whyR b m l[i]):=(whyR_ok hb l[i]).2
  have q3:isub .i64 (i:Int) 1=(i:Int) - 1:=by rw [isub_i (by omega) (by omega)]
  have ed:wantF b m (l.drop i)=if whyR b m l[i] ≠ 0 then whyR b m l[i] else if wantF b m (l.drop (i+1))=15 then 0 else wantF b m (l.drop (i+1)):=by
    rw [List.drop_eq_getElem_cons hil];rfl
  show dendronlaw27_RankMeans_s7 g ((l,x,e,wantF b m (l.drop (l.length - k)),s,(l.length:Int) - 1 - (k:Int),()),((m.1,m.2,()),()))=g ((l,x,e,wantF b m (l.drop (l.length - (k+1))),s,(l.length:Int) - 1 - ((k+1:Nat):Int),()),((m.1,m.2,()),()))
  rw [e1,e2,e3,e4,ed,dendronlaw27_RankMeans_s7,cnd (by omega),cnd (by omega),Int.toNat_natCast,List.getElem?_eq_getElem hil,Option.bind_some,hr,Option.bind_some,q3]
  by_cases h:whyR b m l[i]=0
  · rw [h, show (!decide ((0 : Int) = 0)) = false by decide, cond_false, if_neg (by simp)]
    by_cases h5:wantF b m (l.drop (i+1))=15
    · rw [cnd h5,if_pos h5]
    · rw [cnd' h5,if_neg h5]
  · rw [decide_eq_false h,Bool.not_false,cond_true,if_pos h]) (by
  intro g
  rw [Nat.sub_self,List.drop_zero,dendronlaw27_RankMeans_s7,cnd' (by omega)])
 have e0:isub .i64 (l.length:Int) 1=(l.length:Int) - 1 - ((0:Nat):Int):=by rw [isub_i (by omega) (by omega)];omega
 rw [e0]
 have ed:wantF b m (l.drop (l.length - 0))=15:=by rw [Nat.sub_zero,List.drop_length];rfl
 rw [ed] at key
 exact key
def absV (m:MODEL) (l:List (List CELL)) (i f:Nat):Rat:=rabs (pvals m (rowAt l i) (-1) false f)
theorem mabs_lp {m:MODEL} {n:Nat} {l l':List (List CELL)} {c1 c2:Int} {o p:Nat → Rat} {k j:Nat} (hn:n ≤ 1000)
  (ho:∀ f,f < n → SzQ (o f) k) (hp:∀ f,f < n → SzQ (p f) j) (hk:k < 10000000000) (hj:j < 10000000000) :
  lp rank_Means_s21 K0 ((l,flo n o,l',c1,c2,flo n p,((flo n p).length:Int),0,()),((m.1,m.2,()),()))=some ((l,flo n (fun f=>o f+rabs (p f)),l',c1,c2,()),((m.1,m.2,()),())):=by
 have pl:=flo_len n p
 have key:=lp_up (step:=rank_Means_s21) (fun i=>((l,flo n (fun f=>if f < i then o f+rabs (p f) else o f),l',c1,c2,flo n p,((flo n p).length:Int),(i:Int),()),((m.1,m.2,()),()))) n (r:=((l,flo n (fun f=>o f+rabs (p f)),l',c1,c2,()),((m.1,m.2,()),()))) (by omega) (by
  intro g i hi
  have ol:=flo_len n (fun f=>if f < i then o f+rabs (p f) else o f)
  have d0:(i:Int) < ((flo n p).length:Int):=by omega
  have d1:(0:Int) ≤ (i:Int):=by omega
  have d2:(i:Int) < ((flo n (fun f=>if f < i then o f+rabs (p f) else o f)).length:Int):=by omega
  have hb:=ratio_Abs_ok ((hp i hi).sm (by omega))
  rw [rv_canQ] at hb
  have ha:=ratio_Add_ok ((ho i hi).sm (by omega)) ((hp i hi).abs.sm (by omega))
  rw [rv_canQ,rv_canQ] at ha
  have g1:=flo_get (fun f=>if f < i then o f+rabs (p f) else o f) hi
  rw [if_neg (Nat.lt_irrefl i)] at g1
  have hset:(flo n (fun f=>if f < i then o f+rabs (p f) else o f)).set i (canQ (o i+rabs (p i)))=flo n (fun f=>if f < i+1 then o f+rabs (p f) else o f):=flo_set (if_pos (by omega)) fun f hf=>by
   by_cases h:f < i
   · rw [if_pos h,if_pos (by omega)]
   · rw [if_neg h,if_neg (by omega)]
  rw [rank_Means_s21,cnd d0,cnd2 d1 d0,Int.toNat_natCast,flo_get _ hi,Option.bind_some,cnd2 d1 d2,g1,Option.bind_some,hb,Option.bind_some,ha,Option.bind_some,cnd2 d1 d2,Option.bind_some,hset,iadd1 (by omega)]
  rfl) (by
  intro g
  have:flo n (fun f=>if f < n then o f+rabs (p f) else o f)=flo n (fun f=>o f+rabs (p f)):=flo_congr fun f hf=>if_pos hf
  rw [rank_Means_s21,cnd' (by omega),this])
 have e0:flo n (fun f=>if f < 0 then o f+rabs (p f) else o f)=flo n o:=flo_congr fun f _=>if_neg (by omega)
 rw [e0] at key
 exact key
def sumA (m:MODEL) (l:List (List CELL)) (k f:Nat):Rat:=rsum (fun i=>absV m l i f) k
theorem Means_ok {m:MODEL} {l:List (List CELL)} {n:Nat} (hb:valid_Ok m=some true) (hA:∀ r ∈ l,Askd m r) (hl:l.length ≤ 4) (hne:l ≠ []) (hn:m.1=(n:Int)) (hn64:n ≤ 64) :
  rank_Means m l=some (flo n (fun f=>sumA m l l.length f * part1 l),0)∧∀ k,k ≤ l.length → ∀ f,f < n → SzQ (sumA m l k f) 6100000000:=by
 have hlen:l.length ≠ 0:=fun e=>hne (List.length_eq_zero_iff.1 e)
 have hw:∀ r ∈ l,whyR true m r=0:=fun r hr=>by rw [whyR,if_pos rfl,if_pos (hA r hr).len]
 have hnr:∀ i (hi:i < l.length),l[i].length=n:=fun i hi=>by have:=(hA _ (List.getElem_mem hi)).len;omega
 have az:∀ i,i < l.length → ∀ f,f < n → SzQ (absV m l i f) 1500000000:=fun i hi f hf=>by
  rw [absV,rowAt_get hi]
  exact (pvals_sz (hA _ (List.getElem_mem hi)) (-1) false (by rw [hnr i hi];exact hf)).abs
 have sz:∀ k,k ≤ l.length → ∀ f,f < n → SzQ (sumA m l k f) 6100000000:=fun k hk f hf=>by
  have h1:=rsum_szQ (f:=fun i=>absV m l i f) (k:=1500000000) k (fun i hi=>az i (by omega) f hf)
  have:k * (1500000000+1) ≤ 4 * (1500000000+1):=Nat.mul_le_mul_right _ (by omega)
  exact h1.mono (by omega)
 refine ⟨?_,sz⟩
 have key1:=lp_up (step:=rank_Means_s12) (fun i=>((l,flx n (fun f=>if f < i then canQ 0 else zR),(n:Int),(i:Int),()),((m.1,m.2,()),()))) n (r:=((l,flo n (fun _=>0),()),((m.1,m.2,()),()))) (by omega) (by
  intro g i hi
  have d2:(i:Int) < ((flx n (fun f=>if f < i then canQ 0 else zR)).length:Int):=by rw [flx_len];omega
  have hset:(flx n (fun f=>if f < i then canQ 0 else zR)).set i (canQ 0)=flx n (fun f=>if f < i+1 then canQ 0 else zR):=flx_set (if_pos (by omega)) fun f hf=>by
   by_cases h:f < i
   · rw [if_pos h,if_pos (by omega)]
   · rw [if_neg h,if_neg (by omega)]
  rw [rank_Means_s12,cnd (by omega),ratio_Zero_ok,Option.bind_some,cnd2 (by omega) d2,Int.toNat_natCast,flx_get _ hi,Option.bind_some,hset,iadd1 (by omega)]
  rfl) (by
  intro g
  have:flx n (fun f=>if f < n then canQ 0 else zR)=flo n (fun _=>0):=flx_congr fun f hf=>if_pos hf
  rw [rank_Means_s12,cnd' (by omega),this])
 have key2:=lp_up (step:=rank_Means_s17) (fun i=>((l,flo n (sumA m l i),l,(l.length:Int),(i:Int),()),((m.1,m.2,()),()))) l.length (r:=((l,flo n (sumA m l l.length),()),())) (by omega) (by
  intro g i hi
  have hv:pathshap_Values (m.1,m.2) l[i]=some (flo l[i].length (pvals m l[i] (-1) false),0):=Values15_ok (hA _ (List.getElem_mem hi))
  rw [hnr i hi] at hv
  have hlp:=mabs_lp (m:=m) (n:=n) (l:=l) (l':=l) (c1:=(l.length:Int)) (c2:=(i:Int)) (o:=sumA m l i) (p:=pvals m l[i] (-1) false) (by omega) (sz i (by omega)) (fun f hf=>pvals_sz (hA _ (List.getElem_mem hi)) (-1) false (by rw [hnr i hi];exact hf)) (by decide) (by decide)
  have e:flo n (fun f=>sumA m l i f+rabs (pvals m l[i] (-1) false f))=flo n (sumA m l (i+1)):=flo_congr fun f _=>by
   show _=rsum _ (i+1)
   rw [rsum,absV,rowAt_get hi];rfl
  rw [e] at hlp
  rw [rank_Means_s17,cnd (by omega),cnd (by omega),Int.toNat_natCast,List.getElem?_eq_getElem hi,Option.bind_some,hv,Option.bind_some]
  dsimp only
  rw [hlp,Option.bind_some,iadd1 (by omega)]
  rfl) (by
  intro g
  rw [rank_Means_s17,cnd' (by omega)])
 have pz:=part1_sz (l:=l) (by omega)
 have fr:ratio_Frac 1 (l.length:Int)=some (canQ (part1 l)):=by
  have:=frac_ok (a:=1) (b:=l.length) (by omega) (by omega)
  exact this
 have key3:=lp_up (step:=rank_Means_s27) (fun i=>((l,flo n (fun f=>if f < i then sumA m l l.length f * part1 l else sumA m l l.length f),(n:Int),(i:Int),()),())) n (r:=((flo n (fun f=>sumA m l l.length f * part1 l),()),())) (by omega) (by
  intro g i hi
  have d2:(i:Int) < ((flo n (fun f=>if f < i then sumA m l l.length f * part1 l else sumA m l l.length f)).length:Int):=by rw [flo_len];omega
  have g1:=flo_get (fun f=>if f < i then sumA m l l.length f * part1 l else sumA m l l.length f) hi
  rw [if_neg (Nat.lt_irrefl i)] at g1
  have m1:=ratio_Mul_ok ((sz l.length (Nat.le_refl _) i hi).sm (by decide)) (pz.sm (by decide))
  rw [rv_canQ,rv_canQ] at m1
  have hset:(flo n (fun f=>if f < i then sumA m l l.length f * part1 l else sumA m l l.length f)).set i (canQ (sumA m l l.length i * part1 l))=flo n (fun f=>if f < i+1 then sumA m l l.length f * part1 l else sumA m l l.length f):=flo_set (if_pos (by omega)) fun f hf=>by
   by_cases h:f < i
   · rw [if_pos h,if_pos (by omega)]
   · rw [if_neg h,if_neg (by omega)]
  rw [rank_Means_s27,cnd (by omega),cnd2 (by omega) d2,Int.toNat_natCast,g1,Option.bind_some,fr,Option.bind_some,m1,Option.bind_some,cnd2 (by omega) d2,Option.bind_some,hset,iadd1 (by omega)]
  rfl) (by
  intro g
  have:flo n (fun f=>if f < n then sumA m l l.length f * part1 l else sumA m l l.length f)=flo n (fun f=>sumA m l l.length f * part1 l):=flo_congr fun f hf=>if_pos hf
  rw [rank_Means_s27,cnd' (by omega),this])
 have z0:List.replicate n (((false,[]),[]):RAT)=flx n (fun f=>if f < 0 then canQ 0 else zR):=by
  rw [flx]
  refine (List.eq_replicate_iff.2 ⟨by simp,fun x hx=>?_⟩).symm
  obtain ⟨j,_,rfl⟩:=List.mem_map.1 hx
  exact if_neg (by omega)
 have z3:flo n (fun f=>if f < 0 then sumA m l l.length f * part1 l else sumA m l l.length f)=flo n (sumA m l l.length):=flo_congr fun f _=>if_neg (by omega)
 rw [← z0] at key1
 rw [z3] at key3
 have key1:lp rank_Means_s12 K0 ((l,List.replicate n (((false,[]),[]):RAT),(n:Int),0,()),((m.1,m.2,()),()))=_:=key1
 have key2:lp rank_Means_s17 K0 ((l,flo n (fun _=>0),l,(l.length:Int),0,()),((m.1,m.2,()),()))=_:=key2
 have key3:lp rank_Means_s27 K0 ((l,flo n (sumA m l l.length),(n:Int),0,()),())=_:=key3
 have c1:(decide ((n:Int)=(n:Int)) && decide (0 ≤ (n:Int)) && decide (((56:Nat):Int) * (n:Int) ≤ 281474976710656) && decide ((n:Int) ≤ 9223372036854775807))=true:=by
  simp only [Bool.and_eq_true,decide_eq_true_eq]
  refine ⟨⟨⟨trivial,by omega⟩,?_⟩,by omega⟩
  show (56:Int) * (n:Int) ≤ 281474976710656
  omega
 rw [hn] at key1 key2
 rw [rank_Means,fitsR_lp hb l (by omega),if_pos hw,Option.bind_some]
 dsimp only
 rw [cnd' (by omega),hn,c1,cond_true,Int.toNat_natCast,List.length_replicate,key1,Option.bind_some]
 dsimp only
 rw [key2,Option.bind_some]
 dsimp only
 rw [flo_len,key3,Option.bind_some]
theorem Means_bad {b:Bool} {m:MODEL} {l:List (List CELL)} (hb:valid_Ok m=some b) (hl:l.length ≤ 4) (h:wantF b m l ≠ 0):rank_Means m l=some ([],wantF b m l):=by
 rw [rank_Means,fitsR_lp hb l (by omega)]
 by_cases hw:∀ r ∈ l,whyR b m r=0
 · have e := wantF_all hw
   have hl0:l=[]:=by
    apply Classical.byContradiction
    intro hn
    rw [if_neg hn] at e
    exact h e
   subst hl0
   rw [if_pos hw,Option.bind_some]
   dsimp only
   rw [cnd (by simp)];rfl
 · rw [if_neg hw,Option.bind_some]
def sumB (m:MODEL) (l:List (List CELL)) (k f:Nat):Rat:=rsum (fun i=>absV m l i f * part1 l) k
theorem sumB_eq (m:MODEL) (l:List (List CELL)) (k f:Nat):sumB m l k f=sumA m l k f * part1 l:=rsum_mul _ _ _
theorem lmean_lp {m:MODEL} {n:Nat} {l:List (List CELL)} {x:List RAT} {e c:Int} {o p:Nat → Rat} {k j:Nat} (hn:n ≤ 1000) (hl:l.length ≤ 4)
  (ho:∀ f,f < n → SzQ (o f) k) (hp:∀ f,f < n → SzQ (p f) j) (hk:k < 50000000000) (hj:j < 10000000000) :
  lp dendronlaw27_RankMeans_s25 K0 ((l,x,e,flo n o,c,flo n p,0,()),((m.1,m.2,()),()))=some ((l,x,e,flo n (fun f=>o f+rabs (p f) * part1 l),c,()),((m.1,m.2,()),())):=by
 have pl:=flo_len n p
 have pz:=part1_sz (l:=l) (by omega)
 have fr:ratio_Frac 1 (l.length:Int)=some (canQ (part1 l)):=frac_ok (a:=1) (b:=l.length) (by omega) (by omega)
 have key:=lp_up (step:=dendronlaw27_RankMeans_s25) (fun i=>((l,x,e,flo n (fun f=>if f < i then o f+rabs (p f) * part1 l else o f),c,flo n p,(i:Int),()),((m.1,m.2,()),()))) n (r:=((l,x,e,flo n (fun f=>o f+rabs (p f) * part1 l),c,()),((m.1,m.2,()),()))) (by omega) (by
  intro g i hi
  have ol:=flo_len n (fun f=>if f < i then o f+rabs (p f) * part1 l else o f)
  have d0:(i:Int) < ((flo n p).length:Int):=by omega
  have d1:(0:Int) ≤ (i:Int):=by omega
  have d2:(i:Int) < ((flo n (fun f=>if f < i then o f+rabs (p f) * part1 l else o f)).length:Int):=by omega
  have hb:=ratio_Abs_ok ((hp i hi).sm (by omega))
  rw [rv_canQ] at hb
  have hm:=ratio_Mul_ok ((hp i hi).abs.sm (by omega)) (pz.sm (by decide))
  rw [rv_canQ,rv_canQ] at hm
  have hz:SzQ (rabs (p i) * part1 l) (j+2):=(hp i hi).abs.mul pz
  have ha:=ratio_Add_ok ((ho i hi).sm (by omega)) (hz.sm (by omega))
  rw [rv_canQ,rv_canQ] at ha
  have g1:=flo_get (fun f=>if f < i then o f+rabs (p f) * part1 l else o f) hi
  rw [if_neg (Nat.lt_irrefl i)] at g1
  have hset:(flo n (fun f=>if f < i then o f+rabs (p f) * part1 l else o f)).set i (canQ (o i+rabs (p i) * part1 l))=flo n (fun f=>if f < i+1 then o f+rabs (p f) * part1 l else o f):=flo_set (if_pos (by omega)) fun f hf=>by
   by_cases h:f < i
   · rw [if_pos h,if_pos (by omega)]
   · rw [if_neg h,if_neg (by omega)]
  rw [dendronlaw27_RankMeans_s25,cnd d0,cnd2 d1 d2,Int.toNat_natCast,g1,Option.bind_some,cnd2 d1 d0,flo_get _ hi,Option.bind_some,hb,Option.bind_some,fr,Option.bind_some,hm,Option.bind_some,ha,Option.bind_some,cnd2 d1 d2,Option.bind_some,hset,iadd1 (by omega)]
  rfl) (by
  intro g
  have:flo n (fun f=>if f < n then o f+rabs (p f) * part1 l else o f)=flo n (fun f=>o f+rabs (p f) * part1 l):=flo_congr fun f hf=>if_pos hf
  rw [dendronlaw27_RankMeans_s25,cnd' (by omega),this])
 have e0:flo n (fun f=>if f < 0 then o f+rabs (p f) * part1 l else o f)=flo n o:=flo_congr fun f _=>if_neg (by omega)
 rw [e0] at key
 exact key
theorem RankMeans_true (m0:MODEL) (l0:List (List CELL)) (hl:m0.2.length ≤ 9223372036854775807) (ht:∀ t ∈ m0.2,t.length ≤ 9223372036854775807)
   (hl0:l0.length ≤ 9223372036854775807) (hlr:∀ r ∈ l0,r.length ≤ 9223372036854775807):dendronlaw27_RankMeans m0 l0=some true:=by
 obtain ⟨m,row,hs,ms,ml,mt,cs⟩:=Small_ok m0 [] hl ht (by simp)
 have h9:=All09n_ok 4 (by decide) l0 hl0 hlr
 have h9:dendronlaw09_All l0 4 70=some (cutRowsN 4 l0):=h9
 have lsz:=cutRowsN_sz 4 l0
 have lll:=cutRowsN_len 4 l0
 obtain ⟨l,el⟩:∃ l,l=cutRowsN 4 l0:=⟨_,rfl⟩
 rw [← el] at h9 lsz lll
 obtain ⟨b,h1,h2⟩:=Ok_ok (m:=m) (by omega) (fun t h=>by have:=mt t h;omega) ms (by decide)
 obtain ⟨W,eW⟩:∃ W,W=wantF b m l:=⟨_,rfl⟩
 rw [dendronlaw27_RankMeans,hs,Option.bind_some,h9,Option.bind_some]
 dsimp only
 by_cases h0:W=0
 · have hall : ∀ r ∈ l, whyR b m r = 0 := by
    rcases wantF_cases (b:=b) (m:=m) l with h | ⟨i,hi,q1,q2,_⟩
    · exact h
    · exact absurd (by rw [← q2,← eW,h0]) q1
   have hne:l ≠ []:=fun e=>by
    have:=(wantF_nil (b:=b) (m:=m)).2 e
    rw [← eW,h0] at this
    exact absurd this (by decide)
   obtain ⟨r0,hr0⟩:∃ r,r ∈ l:=List.exists_mem_of_ne_nil l hne
   have hb:b=true:=by cases b with
    | true=>rfl
    | false=>exact absurd (hall r0 hr0) (by rw [whyR,if_neg (by decide)];decide)
   subst hb
   have hA:∀ r ∈ l,Askd m r:=fun r hr=>by
    refine ⟨h2.1 rfl,?_,ms,by omega,mt,lsz r hr⟩
    apply Classical.byContradiction
    intro hn
    have:=hall r hr
    rw [whyR,if_pos rfl,if_neg hn] at this
    exact absurd this (by decide)
   obtain ⟨n,hn⟩:∃ n:Nat,m.1=(n:Int):=⟨r0.length,(hA r0 hr0).len.symm⟩
   have hn64:n ≤ 64:=by have:=(hA r0 hr0).good.1.2.1;omega
   have hnr:∀ i (hi:i < l.length),l[i].length=n:=fun i hi=>by have:=(hA _ (List.getElem_mem hi)).len;omega
   obtain ⟨M1,M2⟩:=Means_ok h1 hA lll hne hn hn64
   have pz:=part1_sz (l:=l) (by omega)
   have Bz:∀ k,k ≤ l.length → ∀ f,f < n → SzQ (sumB m l k f) 6100000002:=fun k hk f hf=>by
    rw [sumB_eq];exact ((M2 k hk f hf).mul pz).mono (by decide)
   have hW:=want_lp h1 l (by omega) (flo n (fun f=>sumA m l l.length f * part1 l)) 0 []
   rw [← eW,h0] at hW
   have key1:=lp_up (step:=dendronlaw27_RankMeans_s15) (fun i=>((l,flo n (fun f=>sumA m l l.length f * part1 l),0,flo i (fun _=>0),(i:Int),()),((m.1,m.2,()),()))) n (r:=((l,flo n (fun f=>sumA m l l.length f * part1 l),0,flo n (sumB m l 0),()),((m.1,m.2,()),()))) (by omega) (by
    intro g i hi
    rw [dendronlaw27_RankMeans_s15,cnd (by omega),ratio_Zero_ok,Option.bind_some,blt (by rw [flo_len];omega),cond_true,iadd1 (by omega)]
    simp only [flo,List.range_succ,List.map_append]
    rfl) (by
    intro g
    rw [dendronlaw27_RankMeans_s15,cnd' (by omega)]
    rfl)
   have key1:lp dendronlaw27_RankMeans_s15 K0 ((l,flo n (fun f=>sumA m l l.length f * part1 l),0,[],0,()),((m.1,m.2,()),()))=_:=key1
   have key2:=lp_up (step:=dendronlaw27_RankMeans_s19) (fun i=>((l,flo n (fun f=>sumA m l l.length f * part1 l),0,flo n (sumB m l i),(i:Int),()),((m.1,m.2,()),()))) l.length (r:=.inl ((flo n (fun f=>sumA m l l.length f * part1 l),0,flo n (sumB m l l.length),()),())) (by omega) (by
    intro g i hi
    have hv:pathshap_Values (m.1,m.2) l[i]=some (flo l[i].length (pvals m l[i] (-1) false),0):=Values15_ok (hA _ (List.getElem_mem hi))
    rw [hnr i hi] at hv
    have hlp:=lmean_lp (m:=m) (n:=n) (l:=l) (x:=flo n (fun f=>sumA m l l.length f * part1 l)) (e:=0) (c:=(i:Int)) (o:=sumB m l i) (p:=pvals m l[i] (-1) false) (by omega) lll (Bz i (by omega)) (fun f hf=>pvals_sz (hA _ (List.getElem_mem hi)) (-1) false (by rw [hnr i hi];exact hf)) (by decide) (by decide)
    have e:flo n (fun f=>sumB m l i f+rabs (pvals m l[i] (-1) false f) * part1 l)=flo n (sumB m l (i+1)):=flo_congr fun f _=>by
      show _=rsum _ (i+1)
      rw [rsum,absV,rowAt_get hi];rfl
    rw [e] at hlp
    rw [dendronlaw27_RankMeans_s19,cnd (by omega),cnd (by omega),Int.toNat_natCast,List.getElem?_eq_getElem hi,Option.bind_some,hv,Option.bind_some]
    dsimp only
    rw [show (!decide ((0:Int)=0))=false by decide,cond_false,flo_len,decide_eq_true hn.symm,Bool.not_true,cond_false,hlp,Option.bind_some,iadd1 (by omega)]
    rfl) (by
    intro g
    rw [dendronlaw27_RankMeans_s19,cnd' (by omega)])
   have key2:lp dendronlaw27_RankMeans_s19 K0 ((l,flo n (fun f=>sumA m l l.length f * part1 l),0,flo n (sumB m l 0),0,()),((m.1,m.2,()),()))=_:=key2
   have e:flo n (fun f=>sumA m l l.length f * part1 l)=flo n (sumB m l l.length):=flo_congr fun f _=>(sumB_eq m l l.length f).symm
   have hAll:dendronref10_All (flo n (sumB m l l.length)) (flo n (sumB m l l.length))=some true:=by
    refine All_true (n:=6100000002) (m:=6100000002) (by decide) (by decide) (fun x hx=>?_) rfl (by rw [flo_len];omega) (fun i hi hi'=>?_)
    · obtain ⟨f, hf, rfl⟩ := List.mem_map.1 hx
      exact (Bz _ (Nat.le_refl _) f (List.mem_range.1 hf)).szR
    · rw [flo_len] at hi
      have:=flo_get (sumB m l l.length) hi
      rw [List.getElem?_eq_getElem hi'] at this
      have e:=Option.some.inj this
      exact ⟨_,Bz _ (Nat.le_refl _) i hi,e,by rw [e,rv_canQ]⟩
   rw [M1,Option.bind_some]
   dsimp only
   rw [show List.replicate 0 (((false,[]),[]):RAT)=[] from rfl,hW,Option.bind_some]
   dsimp only
   rw [show (!decide ((0:Int)=0))=false by decide,cond_false,key1,Option.bind_some]
   dsimp only
   rw [key2,Option.bind_some]
   dsimp only
   rw [cnd rfl,e,hAll,Option.bind_some,cond_true,law27_awake_ok]
   rfl
 · have hW := want_lp h1 l (by omega) [] W []
   rw [← eW] at hW
   rw [Means_bad h1 lll (by rw [← eW];exact h0),Option.bind_some,← eW]
   dsimp only
   rw [show List.replicate 0 (((false,[]),[]):RAT)=[] from rfl,hW,Option.bind_some]
   dsimp only
   rw [decide_eq_false h0,Bool.not_false,cond_true,cnd (by simp),cnd rfl,law27_awake_ok]
   rfl
end Go.Proofs.YthcpiofmhkhbeaaGreatDoor.X
