/- Own work: part of the proof; the first line of each part says what it tells. -/
import Derived.Test.YthcpiofmhkhbeaaDoorLa8


namespace Go.Proofs.YthcpiofmhkhbeaaDoor.X
open Go
set_option linter.unusedVariables false
set_option linter.unusedSimpArgs false
def totL (n f:Nat) (l:List PL):Rat:=lsum (l.map fun y=>shapQ (fun S=>reachA S y.2 * y.1) n f)
theorem totL_append (n f:Nat) (a b:List PL):totL n f (a ++ b) = totL n f a + totL n f b:=by rw [totL,List.map_append,lsum_append];rfl
def totI (t:List NODE) (row:List CELL) (fx:Int) (on:Bool) (n f:Nat) (x:IT):Rat:=totL n f (legsF t row fx on x.T x.w x.g)
def visL (t:List NODE) (row:List CELL) (fx:Int) (on:Bool):List IT → Nat
 | []=>0
 | x :: L=>visF t row fx on x.T + visL t row fx on L
theorem visL_append (t:List NODE) (row:List CELL) (fx:Int) (on:Bool) (a b:List IT):visL t row fx on (a ++ b) = visL t row fx on a + visL t row fx on b:=by
 induction a with
 | nil=>simp [visL]
 | cons x a ih=>simp only [List.cons_append,visL,ih];omega
theorem visL_len (t:List NODE) (row:List CELL) (fx:Int) (on:Bool) (a:List IT):a.length ≤ visL t row fx on a:=by
 induction a with
 | nil=>simp [visL]
 | cons x a ih=>have:=visF_pos t row fx on x.T;simp only [List.length_cons,visL];omega
theorem kids_vis (t:List NODE) (row:List CELL) (fx:Int) (on:Bool) (i:Nat) (l r:TR) (P w:List AP) (g:Rat) :
  visF t row fx on (.split i l r) = 1 + visL t row fx on (kidsL t row fx on i l r P w g):=by
 rw [kidsL,visL_append]
 simp only [visF]
 cases kOn t row fx on i true <;> cases kOn t row fx on i false <;> simp [visL,kid] <;> omega
theorem kids_tot (t:List NODE) (row:List CELL) (fx:Int) (on:Bool) (n f i:Nat) (l r:TR) (P w:List AP) (g:Rat) :
   totL n f (legsF t row fx on (.split i l r) w g) = lsum ((kidsL t row fx on i l r P w g).map (totI t row fx on n f)):=by
 rw [kidsL,List.map_append,lsum_append]
 simp only [legsF]
 rw [totL_append,Rat.add_comm]
 congr 1
 · cases kOn t row fx on i false
   · rfl
   · simp only [if_true,List.map_cons,List.map_nil,lsum,Rat.add_zero];rfl
 · cases kOn t row fx on i true
   · rfl
   · simp only [if_true,List.map_cons,List.map_nil,lsum,Rat.add_zero];rfl
theorem walk15_ok {t:List NODE} {row:List CELL} {fx:Int} {on:Bool} {T:TR} {o:Nat → Rat} (hs:TSz t 4) (hc:CSz row 9) (hcov:CoversP t) (hT:Is t (row.length:Int) T) (h0:T.top = 0) (hd:T.deep ≤ 8) (hz:T.size ≤ 100) (hrl:row.length ≤ 64)
  {S:Nat} (ho:∀ f,f < row.length → SzQ (o f) S) (hS:S ≤ 50000000000) :
  (∃ st,pathshap_walker_walk t row fx on (flo row.length o) [] = some (flo row.length (fun f=>o f + totL row.length f (legsF t row fx on T [] 1)),t,row,fx,on,st)) ∧ ∀ f,f < row.length → SzQ (o f + totL row.length f (legsF t row fx on T [] 1)) (S + 200000000):=by
 obtain ⟨n,hn⟩:∃ n,n = row.length:=⟨_,rfl⟩
 obtain ⟨N,hN⟩:∃ N,N = visF t row fx on T:=⟨_,rfl⟩
 have hN2:N ≤ 100:=by rw [hN];exact Nat.le_trans (visF_le _ _ _ _ _) hz
 obtain ⟨x0,hx0⟩:∃ x0:IT,x0 = ⟨T,[],1,(-1,(((false,[]),[]),false)),[]⟩:=⟨_,rfl⟩
 have t0:∀ f,totI t row fx on n f x0 = totL n f (legsF t row fx on T [] 1):=fun f=>by rw [hx0];rfl
 have hg0:GoodI t n x0:=by
  refine ⟨0,by rw [hx0,hn];exact hT,by rw [hx0];show 0 + T.deep ≤ 8;omega,by rw [hx0];exact SzQ.one,by rw [hx0];exact List.Pairwise.nil,.inl ⟨by rw [hx0],?_,by simp [hx0],by simp [hx0]⟩⟩
  rw [hx0]
  exact ⟨List.Pairwise.nil,fun p hp=>absurd hp (by simp),by simp,fun p hp=>absurd hp (by simp),fun p hp=>absurd hp (by simp)⟩
 rw [← hn]
 obtain ⟨res,hres,hlp⟩:=lp_inv (step:=pathshap_walker_walk_s1)
  (fun j v=>∃ (L:List IT) (o':Nat → Rat),v = ((),((t,row,fx,on,flo n o',L.map encI,()),())) ∧ (∀ x ∈ L,GoodI t n x) ∧ j + visL t row fx on L = N ∧ (∀ f,f < n → SzQ (o' f) (S + 2000000 * j)) ∧ ∀ f,f < n → o' f + lsum (L.map (totI t row fx on n f)) = o f + totI t row fx on n f x0)
  (fun r=>(∃ (st:List ITE),r = ((),((t,row,fx,on,flo n (fun f=>o f + totI t row fx on n f x0),st,()),()))) ∧ ∀ f,f < n → SzQ (o f + totI t row fx on n f x0) (S + 200000000)) N
  (v:=((),((t,row,fx,on,flo n o,[x0].map encI,()),())))
  ⟨[x0],o,rfl,fun x hx=>by rw [List.mem_singleton.1 hx];exact hg0,by simp only [visL,hx0];omega,fun f hf=>(ho f (by omega)).mono (by omega),fun f hf=>by simp only [List.map_cons,List.map_nil,lsum,Rat.add_zero]⟩
  (by omega)
  (by
   rintro j v hj ⟨L,o',rfl,hL,hv,hsz,htot⟩
   rcases List.eq_nil_or_concat L with rfl | ⟨L0,x,rfl⟩
   · simp only [visL] at hv;omega
   rw [List.concat_eq_append] at *
   have hx:GoodI t n x:=hL x (by simp)
   obtain ⟨m,P',j1,j2,j3,j4,j5,j6,j7,j8⟩:=hx.join (by omega)
   rw [visL_append] at hv
   simp only [visL,Nat.add_zero] at hv
   have hvp:=visF_pos t row fx on x.T
   have hvl:=visL_len t row fx on L0
   obtain ⟨base,hbase⟩:∃ base,base = L0.map encI:=⟨_,rfl⟩
   have lb:base.length = L0.length:=by rw [hbase];simp
   have eS:(L0 ++ [x]).map encI = base ++ [encI x]:=by rw [hbase];simp
   have hi:=j1.top_lt
   have qS:∀ y:ITE,isub .i64 ((base ++ [y]).length:Int) 1 = (base.length:Int):=fun y=>by
     rw [List.length_append,List.length_singleton,isub_i (by omega) (by omega)];omega
   have gS:(base ++ [encI x])[base.length]? = some (encI x):=by simp
   have sS:∀ y,(base ++ [encI x]).set base.length y = base ++ [y]:=fun y=>by simp
   have cS:∀ y:ITE,(decide ((0:Int) ≤ (base.length:Int)) && decide (((base.length:Int):Int) ≤ (base.length:Int)) && decide (((base.length:Int):Int) ≤ ((base ++ [y]).length:Int))) = true:=fun y=>by
     simp only [Bool.and_eq_true,decide_eq_true_eq,List.length_append,List.length_singleton];omega
   have tS:∀ y:ITE,(base ++ [y]).take (((base.length:Int) - 0).toNat) = base:=fun y=>by
     rw [show ((base.length:Int) - 0).toNat = base.length by omega];simp
   have hpos:(((base ++ [encI x]).length:Nat):Int) > 0:=by rw [List.length_append,List.length_singleton];omega
   have d2:(base.length:Int) < (((base ++ [encI x]).length:Nat):Int):=by rw [List.length_append,List.length_singleton];omega
   have walkE:∀ g,pathshap_walker_walk_s1 g ((),((t,row,fx,on,flo n o',(L0 ++ [x]).map encI,()),())) =
       bif t[x.T.top].1 then ((pathshap_walker_leaf (x.T.top:Int) (canQ x.g).1.1 (canQ x.g).1.2 (canQ x.g).2 x.s.1 x.s.2.1.1.1 x.s.2.1.1.2 x.s.2.1.2 x.s.2.2 t row fx on (flo n o') (encK P' (wtP P'))).bind fun r8=>g ((()),((r8.2.1,r8.2.2.1,r8.2.2.2.1,r8.2.2.2.2.1,(over (flo n o') 0 r8.1),base,()),())))
       else ((lp pathshap_walker_walk_s9 K0 (((false,(true,())),0,()),(((x.T.top:Int),(canQ x.g).1.1,(canQ x.g).1.2,(canQ x.g).2,x.s.1,x.s.2.1.1.1,x.s.2.1.1.2,x.s.2.1.2,x.s.2.2,()),(t[x.T.top].1,t[x.T.top].2.1,t[x.T.top].2.2.1.1.1,t[x.T.top].2.2.1.1.2,t[x.T.top].2.2.1.2,t[x.T.top].2.2.2.1,t[x.T.top].2.2.2.2.1,t[x.T.top].2.2.2.2.2.1,t[x.T.top].2.2.2.2.2.2.1.1.1,t[x.T.top].2.2.2.2.2.2.1.1.2,t[x.T.top].2.2.2.2.2.2.1.2,t[x.T.top].2.2.2.2.2.2.2.1.1,t[x.T.top].2.2.2.2.2.2.2.1.2,t[x.T.top].2.2.2.2.2.2.2.2,()),(encK P' (wtP P'),()),(t,row,fx,on,flo n o',base,()),()))).bind fun t12=>g ((()),((t12.2.1.1,t12.2.1.2.1,t12.2.1.2.2.1,t12.2.1.2.2.2.1,t12.2.1.2.2.2.2.1,t12.2.1.2.2.2.2.2.1,()),()))):=fun g=>by
     rw [pathshap_walker_walk_s1,eS,cnd hpos,qS,cnd2 (by omega) d2,Int.toNat_natCast,gS,Option.bind_some]
     show ((some (some (encK x.P (wtP x.P)),()):Option ((Option (List (Int × RAT × CELL))) × Unit)).bind _) = _
     rw [Option.bind_some]
     show ((some (encK x.P (wtP x.P)):Option (List (Int × RAT × CELL))).bind _) = _
     rw [Option.bind_some,sS,qS,cS,cond_true,tS]
     show (pathshap_place_join (x.T.top:Int) (canQ x.g).1.1 (canQ x.g).1.2 (canQ x.g).2 x.s.1 x.s.2.1.1.1 x.s.2.1.1.2 x.s.2.1.2 x.s.2.2 (encK x.P (wtP x.P))).bind _ = _
     rw [j8,Option.bind_some]
     dsimp only
     rw [cnd (by omega),Int.toNat_natCast,List.getElem?_eq_getElem hi,Option.bind_some]
   have hm7:m ≤ 7:=by have:=x.T.deep_pos;omega
   cases hxT:x.T with
   | leaf i =>
     rw [hxT] at j1 j2 hi hv
     simp only [hxT] at walkE
     obtain ⟨i1,i2⟩:=j1
     have hlf:=leaf_ok (t:=t) (row:=row) (fx:=fx) (on:=on) j5 (by omega) (by omega) i1 (j3.mono (by omega)) hs (o:=o') (fun f hf=>(hsz f hf).mono (by omega)) (by omega) x.s.1 x.s.2.1.1.1 x.s.2.1.1.2 x.s.2.1.2 x.s.2.2
     obtain ⟨v,hv'⟩:∃ v,v = x.g * rv (nVal (nodeAt t i)):=⟨_,rfl⟩
     rw [← hv'] at hlf
     have hvz:SzQ v 200:=by rw [hv'];exact ((j3.mono (show 8 * m + 1 ≤ 100 by omega)).mul ((hs.at i1).2.1.szQ (by decide))).mono (by decide)
     refine ⟨((),((t,row,fx,on,flo n (fun f=>o' f + lfAdd P' v f),L0.map encI,()),())),⟨L0,_,rfl,fun y hy=>hL y (by simp [hy]),by simp only [visF] at hv;omega,fun f hf=>?_,fun f hf=>?_⟩,fun g=>?_⟩
     · have h1 := rsum_szQ (k := 180000) P'.length (fun i hi => lfT_sz j5 (by omega) (by omega) hvz f hi)
       have h1:SzQ (lfAdd P' v f) _:=h1
       have:P'.length * (180000 + 1) ≤ 8 * (180000 + 1):=Nat.mul_le_mul_right _ (by omega)
       exact ((hsz f hf).add h1).mono (by omega)
     · have e := htot f hf
       rw [List.map_append,lsum_append] at e
       simp only [List.map_cons,List.map_nil,lsum,Rat.add_zero] at e
       have e2:totI t row fx on n f x = lfAdd P' v f:=by
         rw [totI,hxT,lfAdd_shap j5 hf]
         simp only [legsF,totL,List.map_cons,List.map_nil,lsum,Rat.add_zero]
         rw [← hv']
         refine shapQ_congr hf fun S _=>?_
         rw [reachA_perm j7]
       rw [e2] at e
       rw [← e];grind
     · rw [walkE g]
       show (bif t[i].1 then _ else _) = _
       rw [show t[i].1 = true from i2,cond_true]
       show (pathshap_walker_leaf (i:Int) _ _ _ _ _ _ _ _ _ _ _ _ _ _).bind _ = _
       rw [hlf,Option.bind_some]
       dsimp only
       rw [over_all (by rw [flo_len,flo_len]),hbase]
   | split i l r =>
     rw [hxT] at j1 j2 hi hv
     simp only [hxT,TR.top] at walkE
     obtain ⟨i1,i2,f0,f1,i3,i4,i5,i6⟩:=j1
     simp only [TR.deep] at j2
     have hkd:=kids_ok (t:=t) (row:=row) (fx:=fx) (on:=on) (i:=i) (l:=l) (r:=r) (P:=P') (w:=x.w) (g:=x.g) hs hc hcov i1 i2 f0 (by omega) i5.top_lt i6.top_lt (by omega) (j3.mono (by omega)) (flo n o') x.s.1 x.s.2.1.1.1 x.s.2.1.1.2 x.s.2.1.2 x.s.2.2
       false t[i].2.1 t[i].2.2.1.1.1 t[i].2.2.1.1.2 t[i].2.2.1.2 t[i].2.2.2.2.2.1 t[i].2.2.2.2.2.2.1.1.1 t[i].2.2.2.2.2.2.1.1.2 t[i].2.2.2.2.2.2.1.2 t[i].2.2.2.2.2.2.2.1.1 t[i].2.2.2.2.2.2.2.1.2 t[i].2.2.2.2.2.2.2.2 base (by omega)
     refine ⟨((),((t,row,fx,on,flo n o',(L0 ++ kidsL t row fx on i l r P' x.w x.g).map encI,()),())),⟨L0 ++ kidsL t row fx on i l r P' x.w x.g,o',rfl,fun y hy=>?_,?_,fun f hf=>(hsz f hf).mono (by omega),fun f hf=>?_⟩,fun g=>?_⟩
     · rcases List.mem_append.1 hy with hy | hy
       · exact hL y (by simp [hy])
       · have hgl : ∀ side, GoodI t n (kid t row fx on i side l P' x.w x.g) := fun side => kid_good hs hcov i1 f0 f1 i5 (by omega) j3 j4 j5 j6 j7
         have hgr:∀ side,GoodI t n (kid t row fx on i side r P' x.w x.g):=fun side=>kid_good hs hcov i1 f0 f1 i6 (by omega) j3 j4 j5 j6 j7
         rcases List.mem_append.1 hy with hy | hy
         · split at hy
           · rw [List.mem_singleton.1 hy];exact hgr _
           · cases hy
         · split at hy
           · rw [List.mem_singleton.1 hy];exact hgl _
           · cases hy
     · have := kids_vis t row fx on i l r P' x.w x.g
       rw [visL_append];omega
     · have e := htot f hf
       rw [List.map_append,lsum_append] at e
       simp only [List.map_cons,List.map_nil,lsum,Rat.add_zero] at e
       have e2:totI t row fx on n f x = lsum ((kidsL t row fx on i l r P' x.w x.g).map (totI t row fx on n f)):=by
         rw [totI,hxT];exact kids_tot t row fx on n f i l r P' x.w x.g
       rw [e2] at e
       rw [List.map_append,lsum_append];exact e
     · rw [walkE g]
       show (bif t[i].1 then _ else _) = _
       rw [show t[i].1 = false from i2,cond_false]
       rw [show t[i].2.2.2.1 = (l.top:Int) from i3,show t[i].2.2.2.2.1 = (r.top:Int) from i4,hkd,Option.bind_some]
       dsimp only
       rw [hbase,← List.map_append])
  (by
   rintro v ⟨L,o',rfl,hL,hv,hsz,htot⟩
   have hl:=visL_len t row fx on L
   have:L = []:=by
     cases L with
     | nil=>rfl
     | cons x L=>simp only [List.length_cons] at hl;omega
   subst this
   refine ⟨((),((t,row,fx,on,flo n o',List.map encI [],()),())),⟨⟨List.map encI [],?_⟩,fun f hf=>?_⟩,fun g=>?_⟩
   · have : flo n o' = flo n (fun f => o f + totI t row fx on n f x0) := flo_congr fun f hf => by
       rw [← htot f hf];simp only [List.map_nil,lsum,Rat.add_zero]
     rw [this]
   · rw [← htot f hf]
     simp only [List.map_nil,lsum,Rat.add_zero]
     exact (hsz f hf).mono (by omega)
   · rw [pathshap_walker_walk_s1,cnd' (by simp)])
 obtain ⟨⟨st,rfl⟩,hrs⟩:=hres
 refine ⟨⟨st,?_⟩,fun f hf=>by have:=hrs f hf;rwa [t0] at this⟩
 have e0:[x0].map encI = [((0:Int),(some (some (encK [] (wtP [])),()):Option ((Option (List (Int × RAT × CELL))) × Unit)),canQ 1,((-1:Int),(((false,[]),[]),false)))]:=by
  rw [hx0]
  simp only [List.map_cons,List.map_nil,encI,h0];rfl
 rw [e0] at hlp
 rw [pathshap_walker_walk,New15_ok,Option.bind_some,ratio_One_ok,Option.bind_some]
 have hlp:lp pathshap_walker_walk_s1 K0 (((),((t,row,fx,on,flo n o,[(0,((some ((some (encK [] (wtP []))),())),(canQ 1,((-1),(((false,[]),[]),false)))))],()),()))) = _:=hlp
 rw [hlp,Option.bind_some]
 dsimp only
 rw [flo_len,flo_len,Nat.beq_refl,cond_true,Option.bind_some]
 simp only [t0]
def trV (t:List NODE) (row:List CELL) (fx:Int) (on:Bool) (f:Nat):Rat:=totL row.length f (legsF t row fx on (treeOf t) [] 1)
def pvals (m:MODEL) (row:List CELL) (fx:Int) (on:Bool) (f:Nat):Rat:=rsum (fun j=>trV (treeAt m j) row fx on f) m.2.length
theorem Askd.deep8 {m:MODEL} {row:List CELL} (h:Askd m row) {i:Nat} (hi:i < m.2.length):(treeOf m.2[i]).deep ≤ 8 ∧ (treeOf m.2[i]).size ≤ 15:=by
 have h1:=h.good.treeOf hi
 have hsh:ShapeP m.2[i]:=h.good.2 1 (by decide) i hi
 have h2:=tree_size hsh h1.1
 have h3:=deep_half (treeOf m.2[i])
 have h4:=h.mt _ (List.getElem_mem hi)
 omega
theorem Askd.walk {m:MODEL} {row:List CELL} (h:Askd m row) {i:Nat} (hi:i < m.2.length) (fx:Int) (on:Bool) {o:Nat → Rat} {S:Nat} (ho:∀ f,f < row.length → SzQ (o f) S) (hS:S ≤ 50000000000) :
  (∃ st,pathshap_walker_walk m.2[i] row fx on (flo row.length o) [] = some (flo row.length (fun f=>o f + trV (treeAt m i) row fx on f),m.2[i],row,fx,on,st)) ∧ ∀ f,f < row.length → SzQ (o f + trV (treeAt m i) row fx on f) (S + 200000000):=by
 obtain ⟨t1,t2,t3,t4,t5⟩:=h.tree hi
 rw [t5] at t2 t3 ⊢
 obtain ⟨d1,d2⟩:=h.deep8 hi
 exact walk15_ok t1 h.cs (h.cov hi) t2 t3 d1 (by omega) h.f64 ho hS
theorem trV_sz {m:MODEL} {row:List CELL} (h:Askd m row) {i:Nat} (hi:i < m.2.length) (fx:Int) (on:Bool) {f:Nat} (hf:f < row.length):SzQ (trV (treeAt m i) row fx on f) 200000010:=by
 have:=(h.walk hi fx on (o:=fun _=>0) (S:=1) (fun _ _=>SzQ.zero) (by decide)).2 f hf
 rw [Rat.zero_add] at this
 exact this.mono (by decide)
theorem pvals_sz {m:MODEL} {row:List CELL} (h:Askd m row) (fx:Int) (on:Bool) {f:Nat} (hf:f < row.length):SzQ (pvals m row fx on f) 1500000000:=by
 have h1:=rsum_szQ (f:=fun j=>trV (treeAt m j) row fx on f) (k:=200000010) m.2.length (fun i hi=>trV_sz h hi fx on hf)
 have:m.2.length * (200000010 + 1) ≤ 6 * (200000010 + 1):=Nat.mul_le_mul_right _ h.ml
 exact h1.mono (by omega)
theorem pzeros_ok {n:Nat} (h:n ≤ 1000000):pathshap_zeros (n:Int) = some (flo n fun _=>0):=by
 have key:=lp_up (step:=pathshap_zeros_s3) (fun i=>((flo i (fun _=>0),(n:Int),(i:Int),()),())) n (r:=((flo n (fun _=>0),()),())) (by omega) (by
  intro g i hi
  have d0:(i:Int) < (n:Int):=by omega
  rw [pathshap_zeros_s3,cnd d0,ratio_Zero_ok,Option.bind_some,blt (by rw [flo_len];omega),cond_true,iadd1 (by omega)]
  simp only [flo,List.range_succ,List.map_append]
  rfl) (by
  intro g
  rw [pathshap_zeros_s3,cnd' (by omega)])
 have key:lp pathshap_zeros_s3 K0 (([],(n:Int),0,()),()) = _:=key
 rw [pathshap_zeros,key];rfl
theorem all15_ok {m:MODEL} {row:List CELL} (h:Askd m row) (fx:Int) (on:Bool):pathshap_all m row fx on = some (flo row.length (pvals m row fx on)):=by
 have ml:=h.ml
 have h64:=h.f64
 have hsz:∀ j,j ≤ m.2.length → ∀ f,f < row.length → SzQ (rsum (fun j=>trV (treeAt m j) row fx on f) j) 1500000000:=fun j hj f hf=>by
  have h1:=rsum_szQ (f:=fun j=>trV (treeAt m j) row fx on f) (k:=200000010) j (fun i hi=>trV_sz h (by omega) fx on hf)
  have:j * (200000010 + 1) ≤ 6 * (200000010 + 1):=Nat.mul_le_mul_right _ (by omega)
  exact h1.mono (by omega)
 have key:=lp_up (step:=pathshap_all_s3) (fun j=>((row,fx,on,flo row.length (fun f=>rsum (fun j=>trV (treeAt m j) row fx on f) j),m.2,(m.2.length:Int),(j:Int),()),())) m.2.length (r:=((flo row.length (pvals m row fx on),()),())) (by omega) (by
  intro g j hj
  have d0:(j:Int) < (m.2.length:Int):=by omega
  obtain ⟨st,hw⟩:=(h.walk hj fx on (hsz j (by omega)) (by decide)).1
  rw [pathshap_all_s3,cnd d0,cnd (by omega),Int.toNat_natCast,List.getElem?_eq_getElem hj,Option.bind_some,hw,Option.bind_some]
  dsimp only
  rw [over_all (by rw [flo_len,flo_len]),iadd1 (by omega)]
  rfl) (by
  intro g
  rw [pathshap_all_s3,cnd' (by omega)]
  rfl)
 have key:lp pathshap_all_s3 K0 ((row,fx,on,flo row.length (fun _=>0),m.2,(m.2.length:Int),0,()),()) = _:=key
 rw [pathshap_all,show m.1 = ((row.length:Nat):Int) by have:=h.len;omega,pzeros_ok (by omega),Option.bind_some,key];rfl
theorem Values15_ok {m:MODEL} {row:List CELL} (h:Askd m row):pathshap_Values m row = some (flo row.length (pvals m row (-1) false),0):=by
 obtain ⟨e,_,h1,h2⟩:=fitsOk (row:=row) (by have:=h.ml;omega) (fun t ht=>by have:=h.mt t ht;omega) h.ms
 have e0:e = 0:=h2.2 ⟨h.good,h.len⟩
 subst e0
 rw [pathshap_Values,h1,Option.bind_some,show (!decide ((0:Int) = 0)) = false by decide,cond_false,all15_ok h];rfl
theorem Values15_bad {m:MODEL} {row:List CELL} {e:Int} (h:route_Fits m row = some e) (he:e ≠ 0):pathshap_Values m row = some ([],e):=by
 rw [pathshap_Values,h,Option.bind_some,decide_eq_false he];rfl
theorem law15_awake_ok:dendronlaw15_awake = some true:=by decide +kernel
theorem legsF_none {t:List NODE} {row:List CELL} {n:Nat} {T:TR} (h:Is t (n:Int) T):∀ (w:List AP) (g:Rat),legsF t row (-1) false T w g = (legsT t row T w).map fun x=>(g * x.2.1,x.2.2):=by
 induction T with
 | leaf i=>intro w g;rfl
 | split i l r ihl ihr =>
  intro w g
  obtain ⟨h1,h2,f0,f1,h3,h4,h5,h6⟩:=h
  have hne:¬ nFeat (nodeAt t i) = -1:=by rw [nodeAt_get h1];omega
  have e1:(goL t row i == true) = goL t row i:=by cases goL t row i <;> rfl
  have e2:(goL t row i == false) = !goL t row i:=by cases goL t row i <;> rfl
  simp only [legsF,legsT,List.map_append]
  rw [kOn,if_neg hne,if_pos rfl,kOn,if_neg hne,if_pos rfl,kW,if_neg hne,kG,if_neg hne,kW,if_neg hne,kG,if_neg hne,e1,e2,ihl h5,ihr h6]
theorem trV_shap {t:List NODE} {row:List CELL} (hc:CoversP t) (h:Is t (row.length:Int) (treeOf t)) {f:Nat} (hf:f < row.length) :
  trV t row (-1) false f = shapQ (fun S=>expT t row S (treeOf t)) row.length f:=by
 have e1:∀ S,expT t row S (treeOf t) = lsum ((legsT t row (treeOf t) []).map (legV S)):=fun S=>by
  rw [legs_say hc.ne h []]
  show _ = lprod [] * _
  rw [lprod,Rat.one_mul]
 rw [shapQ_congr hf fun S _=>e1 S,shapQ_lsum (fun x S=>legV S x)]
 unfold trV totL
 rw [legsF_none h,List.map_map]
 congr 1
 refine List.map_congr_left fun x _=>?_
 show shapQ (fun S=>reachA S x.2.2 * (1 * x.2.1)) _ _ = _
 rw [Rat.one_mul];rfl
theorem SortA.nodup {w:List AP} (h:SortA w):(w.map (·.1)).Nodup:=by
 unfold List.Nodup
 rw [List.pairwise_map]
 exact h.imp fun hab=>by omega
theorem along_pos {f:Nat} {q:Rat} {ok:Bool} {w:List AP} (h:∀ p ∈ w,0 < p.2.1) (hq:0 < q):∀ p ∈ along f q ok w,0 < p.2.1:=by
 induction w with
 | nil=>intro p hp;simp [along] at hp;subst hp;exact hq
 | cons a w ih =>
  have ha:=h a List.mem_cons_self
  have hw:∀ p ∈ w,0 < p.2.1:=fun p hp=>h p (List.mem_cons_of_mem _ hp)
  intro p hp
  simp only [along] at hp
  split at hp
  · rcases List.mem_cons.1 hp with rfl | hp
    · exact ha
    · exact ih hw p hp
  · split at hp
    · rcases List.mem_cons.1 hp with rfl | hp
      · exact Rat.mul_pos ha hq
      · exact hw p hp
    · rcases List.mem_cons.1 hp with rfl | hp
      · exact hq
      · rcases List.mem_cons.1 hp with rfl | hp
        · exact ha
        · exact hw p hp
theorem share_pos {t:List NODE} (hc:CoversP t) {a i:Nat} (ha:a < t.length) (hi:i < t.length):0 < cov t a / cov t i:=by
 have h1:0 < cov t a:=by have:=hc a ha;rwa [← cov_get ha] at this
 have h2:0 < cov t i:=by have:=hc i hi;rwa [← cov_get hi] at this
 rw [Rat.div_def]
 exact Rat.mul_pos h1 (Rat.inv_pos.2 h2)
theorem legs_pos {t:List NODE} {row:List CELL} {g:Int} {T:TR} (hc:CoversP t) (h:Is t g T):∀ {w:List AP},(∀ p ∈ w,0 < p.2.1) → ∀ x ∈ legsT t row T w,∀ p ∈ x.2.2,0 < p.2.1:=by
 induction T with
 | leaf i=>intro w hw x hx;simp only [legsT,List.mem_singleton] at hx;subst hx;exact hw
 | split i l r ihl ihr =>
  obtain ⟨h1,h2,f0,f1,h3,h4,h5,h6⟩:=h
  intro w hw x hx
  simp only [legsT,List.mem_append] at hx
  rcases hx with hx | hx
  · exact ihl h5 (along_pos hw (share_pos hc h5.top_lt h1)) x hx
  · exact ihr h6 (along_pos hw (share_pos hc h6.top_lt h1)) x hx
theorem legs_path {t:List NODE} {row:List CELL} {n:Nat} {T:TR} (hs:TSz t 4) (hc:CoversP t) (h:Is t (n:Int) T) (hd:T.deep ≤ 8):∀ x ∈ legsT t row T [],PathP x.2.2 70 n ∧ x.2.2.length ≤ 8:=by
 intro x hx
 have h1:=legsT_sz hs h (WSz.nil n) x hx
 have h2:=legs_sort T (w:=[]) List.Pairwise.nil x hx
 have h3:=legs_pos hc h (w:=[]) (fun p hp=>absurd hp (by simp)) x hx
 have hl:=h1.1.2.1
 exact ⟨⟨h2.nodup,fun p hp=>(h1.1.1 p hp).mono (by omega),by omega,h1.1.2.2,h3⟩,by omega⟩
def GE (L:List BA) (c:Nat → Rat):Rat:=rsum (fun i=>(((L[i]?).getD (0,0)).2 - ((L[i]?).getD (0,0)).1) * EE (L.take i ++ L.drop (i + 1)) c) L.length
def tlF (n:Nat) (c:Nat → Rat) (k:Nat):Rat:=(k:Rat) * (if k = 0 then 0 else c (k - 1)) - ((n:Rat) - (k:Rat)) * c k
theorem EE_sub {L:List BA} {c d:Nat → Rat}:EE L (fun k=>c k - d k) = EE L c - EE L d:=by
 have h1:EE L (fun k=>c k - d k) = EE L fun k=>c k + (-1) * d k:=EE_congr fun k _=>by grind
 rw [h1,EE_add (c:=c) (d:=fun k=>(-1) * d k),EE_mul];grind
theorem GE_eq (L:List BA):∀ c,GE L c = EE L (tlF L.length c):=by
 induction L with
 | nil=>intro c;show (0:Rat) = tlF 0 c 0;unfold tlF;simp;grind
 | cons x L ih =>
  intro c
  have e1:GE (x :: L) c = (x.2 - x.1) * EE L c + (x.1 * GE L c + x.2 * GE L fun k=>c (k + 1)):=by
   unfold GE
   rw [List.length_cons,rsum_shift]
   congr 1
   rw [Rat.mul_comm x.1,← rsum_mul,Rat.mul_comm x.2,← rsum_mul,← rsum_addF]
   refine rsum_congr fun i hi=>?_
   simp only [List.getElem?_cons_succ,List.take_succ_cons,List.drop_succ_cons,List.cons_append,EE]
   grind
  have e2:EE L (tlF (L.length + 1) c) = EE L (tlF L.length c) - EE L c:=by
   rw [← EE_sub]
   refine EE_congr fun k _=>?_
   unfold tlF
   push_cast
   grind
  have e3:EE L (fun k=>tlF (L.length + 1) c (k + 1)) = EE L (tlF L.length fun k=>c (k + 1)) + EE L c:=by
   rw [← EE_add]
   refine EE_congr fun k _=>?_
   unfold tlF
   rw [if_neg (by omega),Nat.add_sub_cancel]
   push_cast
   by_cases h0:k = 0
   · subst h0;rw [if_pos rfl];push_cast;grind
   · rw [if_neg h0,show k - 1 + 1 = k by omega];grind
  rw [e1,ih,ih,List.length_cons,EE,e2,e3]
  grind
theorem EE_nil0 {L:List BA} {c:Nat → Rat} (h:∀ k,k ≤ L.length → c k = 0):EE L c = 0:=by
 have e:EE L c = EE L fun k=>0 * c k:=EE_congr fun k hk=>by rw [h k hk];grind
 rw [e,EE_mul,Rat.zero_mul]
theorem EE_top (L:List BA):EE L (fun k=>if k = L.length then 1 else 0) = lprod (L.map (·.2)):=by
 induction L with
 | nil=>rfl
 | cons x L ih =>
  rw [EE,List.map_cons,lprod,← ih]
  rw [EE_nil0 (L:=L) (c:=fun k=>if k = (x :: L).length then 1 else 0) (fun k hk=>if_neg (by simp only [List.length_cons];omega))]
  have:EE L (fun k=>if k + 1 = (x :: L).length then 1 else 0) = EE L fun k=>if k = L.length then 1 else 0:=EE_congr fun k _=>by
   by_cases h:k = L.length
   · rw [if_pos h,if_pos (by simp [h])]
   · rw [if_neg h,if_neg (by simp only [List.length_cons];omega)]
  rw [this];grind
theorem EE_bot (L:List BA):EE L (fun k=>if k = 0 then 1 else 0) = lprod (L.map (·.1)):=by
 induction L with
 | nil=>rfl
 | cons x L ih =>
  rw [EE,List.map_cons,lprod,← ih]
  rw [EE_nil0 (L:=L) (c:=fun k=>if k + 1 = 0 then 1 else 0) (fun k hk=>if_neg (by omega))]
  grind
theorem wq_tel {k n:Nat} (h:k ≤ n):tlF n (fun k=>wq k n) k = (if k = n then 1 else 0) - (if k = 0 then 1 else 0):=by
 have hn:=natQ_ne (fac_pos n)
 unfold tlF
 by_cases hk:k = 0
 · subst hk
   rw [if_pos rfl,if_pos rfl]
   by_cases h0:n = 0
   · subst h0;rw [if_pos rfl];grind
   · obtain ⟨j, rfl⟩ : ∃ j, n = j + 1 := ⟨n - 1, by omega⟩
     rw [if_neg (by omega)]
     have e:((fac (j + 1):Nat):Rat) = ((j + 1:Nat):Rat) * ((fac j:Nat):Rat):=by rw [fac];push_cast;rfl
     have e0:((fac 0:Nat):Rat) = 1:=by decide +kernel
     simp only [wq,quo]
     rw [show j + 1 - 0 - 1 = j by omega,e0]
     rw [e] at hn ⊢
     generalize ((fac j:Nat):Rat) = y at *
     generalize ((j + 1:Nat):Rat) = u at *
     rw [Rat.div_def]
     push_cast
     grind
 · rw [if_neg hk, if_neg hk]
   obtain ⟨i,rfl⟩:∃ i,k = i + 1:=⟨k - 1,by omega⟩
   have e:((fac (i + 1):Nat):Rat) = ((i + 1:Nat):Rat) * ((fac i:Nat):Rat):=by rw [fac];push_cast;rfl
   by_cases hkn:i + 1 = n
   · subst hkn
     have e0:((fac 0:Nat):Rat) = 1:=by decide +kernel
     rw [if_pos rfl,Nat.add_sub_cancel,Rat.sub_self,Rat.zero_mul]
     simp only [wq,quo]
     rw [show i + 1 - i - 1 = 0 by omega,e0]
     rw [e] at hn ⊢
     generalize ((fac i:Nat):Rat) = y at *
     generalize ((i + 1:Nat):Rat) = u at *
     rw [Rat.div_def]
     grind
   · obtain ⟨j, rfl⟩ : ∃ j, n = i + 1 + j + 1 := ⟨n - (i + 1) - 1, by omega⟩
     have e2:((fac (j + 1):Nat):Rat) = ((j + 1:Nat):Rat) * ((fac j:Nat):Rat):=by rw [fac];push_cast;rfl
     have e3:((i + 1 + j + 1:Nat):Rat) - ((i + 1:Nat):Rat) = ((j + 1:Nat):Rat):=by push_cast;grind
     rw [if_neg hkn,Nat.add_sub_cancel,e3]
     simp only [wq,quo]
     rw [show i + 1 + j + 1 - i - 1 = j + 1 by omega,show i + 1 + j + 1 - (i + 1) - 1 = j by omega,e,e2]
     generalize ((fac i:Nat):Rat) = y
     generalize ((fac j:Nat):Rat) = z
     generalize ((fac (i + 1 + j + 1):Nat):Rat) = x at *
     generalize ((i + 1:Nat):Rat) = u
     generalize ((j + 1:Nat):Rat) = v
     rw [Rat.div_def,Rat.div_def]
     grind
theorem GE_wq (L:List BA):GE L (fun k=>wq k L.length) = lprod (L.map (·.2)) - lprod (L.map (·.1)):=by
 rw [GE_eq,← EE_top,← EE_bot,← EE_sub]
 exact EE_congr fun k hk=>wq_tel hk
theorem rsum_swap (g:Nat → Nat → Rat) (n:Nat):∀ k,rsum (fun f=>rsum (g f) k) n = rsum (fun i=>rsum (fun f=>g f i) n) k:=by
 intro k
 induction k with
 | zero=>exact rsum_zeros fun _ _=>rfl
 | succ k ih =>
  have:rsum (fun f=>rsum (g f) (k + 1)) n = rsum (fun f=>rsum (g f) k + g f k) n:=rfl
  rw [this,rsum_addF,ih];rfl
theorem rsum_lsumF {α:Type} (g:Nat → α → Rat) (n:Nat) (l:List α):rsum (fun f=>lsum (l.map (g f))) n = lsum (l.map fun x=>rsum (fun f=>g f x) n):=by
 induction l with
 | nil=>exact rsum_zeros fun _ _=>rfl
 | cons x l ih =>
  have:rsum (fun f=>lsum ((x :: l).map (g f))) n = rsum (fun f=>g f x + lsum (l.map (g f))) n:=rfl
  rw [this,rsum_addF,ih];rfl
theorem lfAdd_all {P:List AP} {k n:Nat} (h:PathP P k n) (v:Rat):rsum (lfAdd P v) n = (lprod (P.map fun p=>one0 p.2.2) - lprod (P.map fun p=>p.2.1)) * v:=by
 have e1:rsum (lfAdd P v) n = rsum (fun i=>rsum (fun f=>lfT P v f i) n) P.length:=rsum_swap (fun f i=>lfT P v f i) n P.length
 have e2:rsum (fun i=>rsum (fun f=>lfT P v f i) n) P.length = GE (P.map fcP) (fun k=>wq k (P.map fcP).length) * v:=by
  unfold GE
  rw [List.length_map,← rsum_mul]
  refine rsum_congr fun i hi=>?_
  have e3:∀ f,lfT P v f i = if P[i].1 = f then sumP P i * (one0 P[i].2.2 - P[i].2.1) * v else 0:=fun f=>lfT_at hi
  have e4:rsum (fun f=>lfT P v f i) n = sumP P i * (one0 P[i].2.2 - P[i].2.1) * v:=by
   rw [show (fun f=>lfT P v f i) = _ from funext e3,rsum_at,if_pos (h.lt _ (List.getElem_mem hi))]
  rw [e4,sumP_EE hi,outP1_len hi,← List.map_take,← List.map_drop,← List.map_append]
  simp only [List.getElem?_map,List.getElem?_eq_getElem hi,Option.map_some,Option.getD_some]
  show EE ((outP1 P i).map fcP) _ * (one0 P[i].2.2 - P[i].2.1) * v = (one0 P[i].2.2 - P[i].2.1) * EE ((outP1 P i).map fcP) _ * v
  grind
 rw [e1,e2,GE_wq,List.map_map,List.map_map]
 rfl
theorem reach_full {P:List AP} {n S:Nat} (h:∀ p ∈ P,p.1 < n) (hS:∀ j,j < n → S.testBit j = true):reachA S P = lprod (P.map fun p=>one0 p.2.2):=by
 unfold reachA
 congr 1
 refine List.map_congr_left fun p hp=>?_
 rw [facP,hS _ (h p hp),if_pos rfl];rfl
theorem reach_none (P:List AP):reachA 0 P = lprod (P.map fun p=>p.2.1):=by
 unfold reachA
 congr 1
 refine List.map_congr_left fun p _=>?_
 rw [facP,Nat.zero_testBit,if_neg (by decide)]
theorem trV_all {t:List NODE} {row:List CELL} (hs:TSz t 4) (hc:CoversP t) (h:Is t (row.length:Int) (treeOf t)) (hd:(treeOf t).deep ≤ 8) :
  rsum (trV t row (-1) false) row.length = predT t row (treeOf t) - expT t row 0 (treeOf t):=by
 obtain ⟨S,eS⟩:∃ S,S = 2 ^ row.length - 1:=⟨_,rfl⟩
 have hS:∀ j,j < row.length → S.testBit j = true:=fun j hj=>by rw [eS,Nat.testBit_two_pow_sub_one,decide_eq_true hj]
 have hp:=legs_path (row:=row) hs hc h hd
 have e1:rsum (trV t row (-1) false) row.length = lsum ((legsT t row (treeOf t) []).map fun x=>rsum (lfAdd x.2.2 x.2.1) row.length):=by
  refine Eq.trans ?_ (rsum_lsumF (fun f (x:AL)=>lfAdd x.2.2 x.2.1 f) row.length (legsT t row (treeOf t) []))
  refine rsum_congr fun f hf=>?_
  unfold trV totL
  rw [legsF_none h,List.map_map]
  congr 1
  refine List.map_congr_left fun x hx=>?_
  show shapQ (fun S=>reachA S x.2.2 * (1 * x.2.1)) _ _ = _
  rw [Rat.one_mul,lfAdd_shap (hp x hx).1 hf]
 have e2:∀ x ∈ legsT t row (treeOf t) [],rsum (lfAdd x.2.2 x.2.1) row.length = legV S x + (-1) * legV 0 x:=fun x hx=>by
  rw [lfAdd_all (hp x hx).1,← reach_full (hp x hx).1.lt hS,← reach_none]
  unfold legV;grind
 rw [e1,List.map_congr_left e2]
 have e3:∀ l:List AL,lsum (l.map fun x=>legV S x + (-1) * legV 0 x) = lsum (l.map (legV S)) - lsum (l.map (legV 0)):=by
  intro l
  induction l with
  | nil=>show (0:Rat) = 0 - 0;rw [Rat.sub_self]
  | cons x l ih=>simp only [List.map_cons,lsum,ih];grind
 rw [e3,legs_say hc.ne h,legs_say hc.ne h,expT_all h (fun j hj=>hS j (by omega))]
 have:∀ S,reachA S [] = 1:=fun _=>rfl
 rw [this,this,Rat.one_mul,Rat.one_mul]
theorem pvals_all {m:MODEL} {row:List CELL} (h:Askd m row):rsum (pvals m row (-1) false) row.length = predM m row - sayM m row 0:=by
 have e1:rsum (pvals m row (-1) false) row.length = rsum (fun j=>rsum (fun f=>trV (treeAt m j) row (-1) false f) row.length) m.2.length:=rsum_swap (fun f j=>trV (treeAt m j) row (-1) false f) row.length m.2.length
 have e2:rsum (fun j=>rsum (fun f=>trV (treeAt m j) row (-1) false f) row.length) m.2.length = rsum (fun j=>predT (treeAt m j) row (treeOf (treeAt m j)) + (-1) * expT (treeAt m j) row 0 (treeOf (treeAt m j))) m.2.length:=rsum_congr fun j hj=>by
  obtain ⟨t1,t2,t3,t4,t5⟩:=h.tree hj
  have hd:=(h.deep8 hj).1
  rw [t5] at t2 ⊢
  rw [show rsum (fun f=>trV m.2[j] row (-1) false f) row.length = _ from trV_all t1 (h.cov hj) t2 hd];grind
 rw [e1,e2,rsum_addF]
 have:rsum (fun j=>(-1) * expT (treeAt m j) row 0 (treeOf (treeAt m j))) m.2.length = -(sayM m row 0):=by
  rw [show (fun j=>(-1) * expT (treeAt m j) row 0 (treeOf (treeAt m j))) = fun j=>expT (treeAt m j) row 0 (treeOf (treeAt m j)) * (-1) from funext fun j=>Rat.mul_comm _ _,rsum_mul]
  unfold sayM;grind
 rw [this]
 unfold predM;grind
theorem sayT_unasked {t:List NODE} {g:Int} {row:List CELL} {f S:Nat} {T:TR} (h:Is t g T) (ha:askT t f = false) (hS:S.testBit f = false):expT t row (S + 2 ^ f) T = expT t row S T:=by
 induction T with
 | leaf i=>rfl
 | split i l r ihl ihr =>
  have hu:=unasked_split h ha
  obtain ⟨h1,h2,f0,f1,h3,h4,h5,h6⟩:=h
  simp only [expT]
  rw [ihl h5,ihr h6,bit_add hS,decide_eq_false hu,Bool.false_or]
theorem trV_unasked {t:List NODE} {row:List CELL} (hc:CoversP t) (h:Is t (row.length:Int) (treeOf t)) {f:Nat} (hf:f < row.length) (ha:askT t f = false):trV t row (-1) false f = 0:=by
 rw [trV_shap hc h hf]
 refine rsum_zeros fun S _=>?_
 unfold shapT
 cases hb:S.testBit f with
 | true=>rfl
 | false =>
  rw [if_neg (by decide)]
  dsimp only
  rw [sayT_unasked h ha hb];grind
theorem pvals_unasked {m:MODEL} {row:List CELL} (h:Askd m row) {f:Nat} (hf:f < row.length) (hu:usedQ m f = false):pvals m row (-1) false f = 0:=by
 refine rsum_zeros fun j hj=>?_
 obtain ⟨t1,t2,t3,t4,t5⟩:=h.tree hj
 rw [t5] at t2 ⊢
 exact trV_unasked (h.cov hj) t2 hf (unused_tree hu (List.getElem_mem hj))
theorem PathshapAdds_true (m0:MODEL) (row0:List CELL) (hl:m0.2.length ≤ 9223372036854775807) (ht:∀ t ∈ m0.2,t.length ≤ 9223372036854775807) (hr:row0.length ≤ 9223372036854775807):dendronlaw15_PathshapAdds m0 row0 = some true:=by
 obtain ⟨m,row,hs,ms,ml,mt,cs⟩:=Small_ok m0 row0 hl ht hr
 obtain ⟨b,hv,hb⟩:=Ok_ok (m:=m) (by omega) (fun t h=>by have:=mt t h;omega) ms (by decide)
 obtain ⟨r1,r2⟩:=whyR_ok hv row
 rw [dendronlaw15_PathshapAdds,hs,Option.bind_some]
 dsimp only
 by_cases he:whyR b m row = 0
 · have hbt : b = true := by cases b with
    | true=>rfl
    | false=>exact absurd he (by rw [whyR,if_neg (by decide)];decide)
   subst hbt
   have hlen:(row.length:Int) = m.1:=by
    apply Classical.byContradiction
    intro hn
    rw [whyR,if_pos rfl,if_neg hn] at he
    exact absurd he (by decide)
   have ha:Askd m row:=⟨hb.1 rfl,hlen,ms,by omega,mt,cs⟩
   have f0:=ha.good.1.1
   have f1:=ha.good.1.2.1
   obtain ⟨n,hn⟩:∃ n,n = row.length:=⟨_,rfl⟩
   obtain ⟨V,eV⟩:∃ V,V = pvals m row (-1) false:=⟨_,rfl⟩
   have hU:=Used_ok hv ha.good
   have ul:(usedL m).length = n:=by rw [usedL_len];omega
   have ug:∀ i,i < n → (usedL m)[i]? = some (usedQ m i):=fun i hi=>usedL_get (by omega)
   have hV:=Values15_ok ha
   rw [← eV,← hn] at hV
   have lv:=flo_len n V
   have fz:∀ f,f < n → SzQ (V f) 1500000000:=fun f hf=>by rw [eV];exact pvals_sz ha (-1) false (by omega)
   have hun:∀ f,f < n → usedQ m f = false → V f = 0:=fun f hf hu=>by rw [eV];exact pvals_unasked ha (by omega) hu
   have key:=lp_up (step:=dendronlaw15_PathshapAdds_s11) (fun i=>((flo n V,usedL m,(i:Int),()),(((canQ (predM m row)).1.1,(canQ (predM m row)).1.2,(canQ (predM m row)).2,()),((canQ (sayM m row 0)).1.1,(canQ (sayM m row 0)).1.2,(canQ (sayM m row 0)).2,()),()))) n
    (r:=.inl ((flo n V,()),(((canQ (predM m row)).1.1,(canQ (predM m row)).1.2,(canQ (predM m row)).2,()),((canQ (sayM m row 0)).1.1,(canQ (sayM m row 0)).1.2,(canQ (sayM m row 0)).2,()),()))) (by omega) (by
    intro g i hi
    have d0:(i:Int) < ((flo n V).length:Int):=by omega
    rw [dendronlaw15_PathshapAdds_s11,cnd d0,cnd (by omega),Int.toNat_natCast,ug i hi,Option.bind_some,iadd1 (by omega)]
    cases hu:usedQ m i with
    | true=>rw [Bool.not_true,cond_false];rfl
    | false =>
     rw [Bool.not_false,cond_true,cnd2 (by omega) d0,flo_get _ hi,Option.bind_some,hun i hi hu,ratio_Sign_ok (SzQ.zero.sm (by decide)),Option.bind_some,rv_canQ,show rcmp 0 0 = 0 by decide,show (!decide ((0:Int) = 0)) = false by decide,cond_false]
     rfl) (by
    intro g
    rw [dendronlaw15_PathshapAdds_s11,cnd' (by omega)])
   have key:lp dendronlaw15_PathshapAdds_s11 K0 ((flo n V,usedL m,0,()),(((canQ (predM m row)).1.1,(canQ (predM m row)).1.2,(canQ (predM m row)).2,()),((canQ (sayM m row 0)).1.1,(canQ (sayM m row 0)).1.2,(canQ (sayM m row 0)).2,()),())) = _:=key
   have hS:=floSum_ok (n:=n) (w:=V) (k:=1500000000) fz (by
    have:=Nat.mul_le_mul_right (1500000000 + 1) (show n ≤ 64 by omega)
    omega) (by omega)
   rw [eV,hn,pvals_all ha] at hS
   rw [← eV,← hn] at hS
   have pz:SzQ (predM m row) 31:=(predM_sz (row:=row) ha.good ms (n:=m.2.length) (Nat.le_refl _)).mono (by omega)
   have sz:SzQ (sayM m row 0) 4000000:=(sayM_sz ha.good ms mt (Nat.le_refl _)).mono (by
    have:=Nat.mul_le_mul_right 1048577 (show m.2.length ≤ 3 by omega);omega)
   have hD:=ratio_Sub_ok (pz.sm (by decide)) (sz.sm (by decide))
   rw [rv_canQ,rv_canQ] at hD
   have dz:=pz.sub sz
   have hE:=ratio_Same_ok (dz.sm (by decide)) (dz.sm (by decide))
   rw [decide_eq_true rfl] at hE
   rw [hV,Option.bind_some,show (!decide ((0:Int) = 0)) = false by decide,cond_false,Predict_ok ha,Option.bind_some,Base_ok ha.good ms (by omega) mt row,Option.bind_some,hU,Option.bind_some]
   dsimp only
   rw [show (!decide ((0:Int) = 0)) = false by decide,cond_false,cond_false,ul,lv,decide_eq_true rfl,Bool.not_true,cond_false,key,Option.bind_some]
   dsimp only
   rw [hS,Option.bind_some]
   show (ratio_Sub (canQ _) (canQ _)).bind _ = _
   rw [hD,Option.bind_some,hE,Option.bind_some,law15_awake_ok]
   rfl
 · rw [Values15_bad r1 he, Option.bind_some, decide_eq_false he, Bool.not_false, cond_true, r2, Option.bind_some]
   dsimp only
   rw [cnd rfl,law15_awake_ok]
   rfl
end Go.Proofs.YthcpiofmhkhbeaaDoor.X
