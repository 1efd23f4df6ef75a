/- Own work: part of the proof; the first line of each part says what it tells. -/
import Derived.Test.YthcpiofmhkhbeaaDoorLb8


namespace Go.Proofs.YthcpiofmhkhbeaaDoor.X
open Go
set_option linter.unusedVariables false
set_option linter.unusedSimpArgs false
def farN (n:NODE):NODE:=(n.1,((if n.1 then 0 else 13 * n.2.1),n.2.2))
def upW (w:List AP):List AP:=w.map fun p=>(13 * p.1,p.2)
theorem farN_keeps {f:Int} (hf:f ≤ 5):Keeps farN f 64 1 where
 leaf _:=rfl
 l _ _:=rfl
 r _ _:=rfl
 feat n hl h0 h1:=by
  have e:nFeat (farN n) = 13 * nFeat n:=by
   have hl:n.1 = false:=hl
   show (if n.1 then 0 else 13 * n.2.1) = _
   rw [hl];rfl
  rw [e];omega
 fits n hl hn:=by
  have hl:n.1 = true:=hl
  have e:nFeat (farN n) = 0:=by
   show (if n.1 then 0 else 13 * n.2.1) = _
   rw [hl];rfl
  obtain ⟨n1,n2,n3,n4,n5,n6⟩:=hn
  exact ⟨by rw [e];decide,by rw [e];decide,n3,n4,n5,n6⟩
 cov n:=by rw [Rat.one_mul];rfl
 pos:=by decide
 low:=by decide
 high:=by decide
theorem upW_len (w:List AP):(upW w).length = w.length:=by simp [upW]
theorem upW_out (w:List AP) (a:Nat):outP1 (upW w) a = upW (outP1 w a):=by simp [outP1,upW,List.map_take,List.map_drop]
theorem ekP_up (w:List AP):ekP (upW w) = ekP w:=by
 unfold ekP upW
 rw [List.map_map];rfl
theorem wtP_up (w:List AP):wtP (upW w) = wtP w:=by
 funext k
 unfold wtP
 rw [ekP_up,upW_len]
theorem sumP_up (w:List AP) (a:Nat):sumP (upW w) a = sumP w a:=by
 unfold sumP
 rw [upW_out,wtP_up,upW_len]
theorem lfAdd_up (w:List AP) (v:Rat) (f:Nat):lfAdd (upW w) v (13 * f) = lfAdd w v f:=by
 unfold lfAdd
 rw [upW_len]
 refine rsum_congr fun i hi=>?_
 rw [lfT_at hi,lfT_at (by rw [upW_len];exact hi),sumP_up]
 have e:(upW w)[i]'(by rw [upW_len];exact hi) = (13 * w[i].1,w[i].2):=by simp [upW]
 rw [e]
 by_cases h:w[i].1 = f
 · rw [if_pos h,if_pos (by show 13 * w[i].1 = 13 * f;omega)]
 · rw [if_neg h,if_neg (by show ¬ 13 * w[i].1 = 13 * f;omega)]
theorem lfAdd_off {w:List AP} {v:Rat} {k n:Nat} (hw:∀ p ∈ w,p.1 < n) (hk:∀ f,f < n → 13 * f ≠ k):lfAdd (upW w) v k = 0:=by
 refine rsum_zeros fun i hi=>?_
 have hi':i < w.length:=by rw [upW_len] at hi;exact hi
 rw [lfT_at hi]
 have e:(upW w)[i] = (13 * w[i].1,w[i].2):=by simp [upW]
 rw [e]
 exact if_neg (hk _ (hw _ (List.getElem_mem hi')))
theorem along_up (f:Nat) (q:Rat) (ok:Bool) (w:List AP):along (13 * f) q ok (upW w) = upW (along f q ok w):=by
 induction w with
 | nil=>rfl
 | cons p w ih =>
  show along (13 * f) q ok ((13 * p.1,p.2) :: upW w) = _
  simp only [along]
  by_cases h1:p.1 < f
  · rw [if_pos (show 13 * p.1 < 13 * f by omega),if_pos h1,ih];rfl
  · rw [if_neg (show ¬ 13 * p.1 < 13 * f by omega), if_neg h1]
    by_cases h2:p.1 = f
    · rw [if_pos (show 13 * p.1 = 13 * f by omega),if_pos h2];rfl
    · rw [if_neg (show ¬ 13 * p.1 = 13 * f by omega),if_neg h2];rfl
theorem legs_up {t:List NODE} {row wide:List CELL} {f:Int} (hf:f ≤ 5) (hw:∀ k:Nat,(k:Int) < f → cellAt wide (13 * k) = cellAt row k) {T:TR} (h:Is t f T) :
  ∀ w:List AP,legsT (t.map farN) wide T (upW w) = (legsT t row T w).map fun x=>(x.1,x.2.1,upW x.2.2):=by
 have hk:=farN_keeps hf
 induction T with
 | leaf i =>
  intro w
  have h1:=h.1
  simp only [legsT,List.map_cons,List.map_nil]
  rw [nodeAt_map hk h1];rfl
 | split i l r ihl ihr =>
  intro w
  obtain ⟨h1,h2,f0,f1,h3,h4,h5,h6⟩:=h
  have hn:nodeAt (t.map farN) i = farN t[i]:=by rw [nodeAt_map hk h1,nodeAt_get h1]
  have hl:t[i].1 = false:=h2
  have ef:nFeat (farN t[i]) = 13 * nFeat t[i]:=by
   show (if t[i].1 then 0 else 13 * t[i].2.1) = _
   rw [hl];rfl
  have e1:featT (t.map farN) i = 13 * featT t i:=by
   unfold featT
   rw [hn,ef,nodeAt_get h1];omega
  have e2:∀ {c:Nat},c < t.length → cov (t.map farN) c = cov t c:=fun hc=>by rw [cov_map hk hc,Rat.one_mul]
  have e3:goL (t.map farN) wide i = goL t row i:=by
   unfold goL
   rw [hn,ef,nodeAt_get h1]
   have e:(13 * nFeat t[i]).toNat = 13 * (nFeat t[i]).toNat:=by omega
   rw [e,hw _ (by omega)]
   rfl
  simp only [legsT,List.map_append]
  rw [e1,e2 h5.top_lt,e2 h6.top_lt,e2 h1,e3,along_up,along_up,ihl h5,ihr h6]
theorem trV_legs {t:List NODE} {row:List CELL} (hs:TSz t 4) (hc:CoversP t) (h:Is t (row.length:Int) (treeOf t)) (hd:(treeOf t).deep ≤ 8) {f:Nat} (hf:f < row.length) :
  trV t row (-1) false f = lsum ((legsT t row (treeOf t) []).map fun x=>lfAdd x.2.2 x.2.1 f):=by
 unfold trV totL
 rw [legsF_none h,List.map_map]
 congr 1
 refine List.map_congr_left fun x hx=>?_
 show shapQ (fun S=>reachA S x.2.2 * (1 * x.2.1)) _ _ = _
 rw [Rat.one_mul,lfAdd_shap (legs_path hs hc h hd x hx).1 hf]
theorem far_lp {t:List NODE} {row:List CELL} {f:Int} (hf:f ≤ 5) (ht:t.length ≤ 15) (hr:∀ i (hi:i < t.length),nLeaf t[i] = false → 0 ≤ nFeat t[i] ∧ nFeat t[i] < f) :
  lp dendronlaw15_PathshapMany_s7 K0 ((t,row,[],0,()),()) = some ((t,row,t.map farN,()),()):=by
 have key:=lp_up (step:=dendronlaw15_PathshapMany_s7) (fun i=>((t,row,(t.take i).map farN,(i:Int),()),())) t.length (r:=((t,row,t.map farN,()),())) (by omega) (by
  intro g i hi
  have hm:=map_take_succ farN hi
  rw [dendronlaw15_PathshapMany_s7,cnd (by omega),cnd (by omega),Int.toNat_natCast,List.getElem?_eq_getElem hi,Option.bind_some,iadd1 (by omega)]
  cases hl:t[i].1 with
  | true =>
   have e:farN t[i] = (true,(0,t[i].2.2)):=by rw [farN,hl];rfl
   rw [cond_true,blt (by rw [List.length_map,List.length_take];omega),cond_true,hm,e]
   rfl
  | false =>
   obtain ⟨r1,r2⟩:=hr i hi hl
   have r1:0 ≤ t[i].2.1:=r1
   have r2:t[i].2.1 < f:=r2
   have e:farN t[i] = (false,(13 * t[i].2.1,t[i].2.2)):=by rw [farN,hl];rfl
   have q:imul .i64 13 t[i].2.1 = 13 * t[i].2.1:=wrap_i (by omega) (by omega)
   rw [cond_false,blt (by rw [List.length_map,List.length_take];omega),cond_true,hm,e,q]
   rfl) (by
  intro g
  rw [dendronlaw15_PathshapMany_s7,cnd' (by omega),List.take_of_length_le (Nat.le_refl _)])
 exact key
def wideR (row:List CELL) (n:Nat):List CELL:=(List.range 64).map fun k=>if k % 13 = 0 ∧ k / 13 < n then cellAt row (k / 13) else (false,zR)
theorem wide_lp {t t':List NODE} {row:List CELL} (hr:row.length ≤ 5) :
  lp dendronlaw15_PathshapMany_s16 K0 ((t,row,t',List.replicate 64 ((false,((false,[]),[])):CELL),0,()),()) = some ((t,row,t',wideR row row.length,()),()):=by
 have key:=lp_up (step:=dendronlaw15_PathshapMany_s16) (fun i=>((t,row,t',wideR row i,(i:Int),()),())) row.length (r:=((t,row,t',wideR row row.length,()),())) (by omega) (by
  intro g i hi
  have q:imul .i64 13 (i:Int) = ((13 * i:Nat):Int):=by
   rw [show imul .i64 13 (i:Int) = 13 * (i:Int) from wrap_i (by omega) (by omega)];omega
  have hl:(wideR row i).length = 64:=by simp [wideR]
  have hset:(wideR row i).set (13 * i) row[i] = wideR row (i + 1):=by
   refine List.ext_getElem? fun k=>?_
   rw [List.getElem?_set]
   by_cases hk:k < 64
   · have g1 : ∀ n, (wideR row n)[k]? = some (if k % 13 = 0 ∧ k / 13 < n then cellAt row (k / 13) else (false, zR)) := fun n => by simp [wideR, hk]
     rw [g1,g1]
     by_cases e:13 * i = k
     · rw [if_pos e,if_pos (by rw [hl];omega),if_pos ⟨by omega,by omega⟩,show k / 13 = i by omega,cellAt_get hi]
     · rw [if_neg e]
       by_cases h1:k % 13 = 0 ∧ k / 13 < i
       · rw [if_pos h1,if_pos ⟨h1.1,by omega⟩]
       · rw [if_neg h1,if_neg (by omega)]
   · have g1 : ∀ n, (wideR row n)[k]? = none := fun n => List.getElem?_eq_none (by simp [wideR]; omega)
     rw [g1,g1,if_neg (by omega)]
  rw [dendronlaw15_PathshapMany_s16,cnd (by omega),cnd2 (by omega) (by omega),Int.toNat_natCast,List.getElem?_eq_getElem hi,Option.bind_some,q,cnd2 (by omega) (by rw [hl];omega),Int.toNat_natCast,List.getElem?_eq_getElem (by rw [hl];omega),Option.bind_some,hset,iadd1 (by omega)]
  rfl) (by
  intro g
  rw [dendronlaw15_PathshapMany_s16,cnd' (by omega)])
 have e0:wideR row 0 = List.replicate 64 ((false,((false,[]),[])):CELL):=by
  rw [wideR]
  refine (List.eq_replicate_iff.2 ⟨by simp,fun x hx=>?_⟩)
  obtain ⟨j,_,rfl⟩:=List.mem_map.1 hx
  exact if_neg (by omega)
 rw [e0] at key
 exact key
theorem PathshapMany_true (t0:List NODE) (row0:List CELL) (hl:t0.length ≤ 9223372036854775807) (hr:row0.length ≤ 9223372036854775807):dendronlaw15_PathshapMany t0 row0 = some true:=by
 have h9:=Few09_ok row0 5 hr (by decide)
 have h9:dendronlaw09_Few row0 5 = some ((row0.take 5).map cutCell):=h9
 obtain ⟨row,er⟩:∃ row,row = (row0.take 5).map cutCell:=⟨_,rfl⟩
 have cs:CSz row 9:=er ▸ cutRow_sz (row0.take 5)
 have hrl:row.length ≤ 5:=by rw [er];simp;omega
 rw [← er] at h9
 have hf:=Few07_ok (0,[t0]) (by simp) (by intro u hu;simp at hu;subst hu;exact hl)
 have ht:=cutTree_len t0
 have hs:=cutTree_sz t0
 obtain ⟨t,et⟩:∃ t,t = cutTree t0:=⟨_,rfl⟩
 have hf':dendronlaw07_Few (0,[t0]) = some (0,[t]):=by rw [hf,et];rfl
 rw [← et] at ht hs
 obtain ⟨b,h1,h2⟩:=TreeV_ok (f:=(row.length:Int)) ht hs
 rw [dendronlaw15_PathshapMany,h9,Option.bind_some,hf',Option.bind_some,List.getElem?_cons_zero,Option.bind_some,h1,Option.bind_some]
 cases b with
 | false=>rw [Bool.not_false,cond_true,law15_awake_ok];rfl
 | true =>
  have hg:=h2.1 rfl
  have ha:=Askd.one ht hs cs hg
  obtain ⟨wide,ew⟩:∃ w,w = wideR row row.length:=⟨_,rfl⟩
  have hwl:wide.length = 64:=by rw [ew];simp [wideR]
  have hk:=farN_keeps (f:=(row.length:Int)) (by omega)
  have hg2:Good ((wide.length:Int),[t.map farN]):=by
   have:=hg.map hk
   rw [hwl];exact this
  have cs2:CSz wide 9:=by
   intro c hc
   rw [ew] at hc
   obtain ⟨k,_,rfl⟩:=List.mem_map.1 hc
   split
   · rename_i h
     rw [cellAt_get h.2]
     exact cs _ (List.getElem_mem h.2)
   · exact ⟨Nat.zero_le _,Nat.zero_le _⟩
  have hs2:TSz (t.map farN) 4:=by
   intro n hn
   obtain ⟨x,hx,rfl⟩:=List.mem_map.1 hn
   exact hs x hx
  have ht2:(t.map farN).length ≤ 15:=by rw [List.length_map];exact ht
  have hb:=Askd.one ht2 hs2 cs2 hg2
  have i0:(0:Nat) < ((row.length:Int),[t]).2.length:=by simp
  have i1:(0:Nat) < ((wide.length:Int),[t.map farN]).2.length:=by simp
  have tr1:=hg.treeOf (i:=0) (by simp)
  have tr2:=hg2.treeOf (i:=0) (by simp)
  have d1:=(ha.deep8 (i:=0) (by simp)).1
  have d2:=(hb.deep8 (i:=0) (by simp)).1
  have c1:=ha.cov (i:=0) (by simp)
  have c2:=hb.cov (i:=0) (by simp)
  have I1:Is t (row.length:Int) (treeOf t):=tr1.1
  have I2:Is (t.map farN) (wide.length:Int) (treeOf (t.map farN)):=tr2.1
  have d1:(treeOf t).deep ≤ 8:=d1
  have d2:(treeOf (t.map farN)).deep ≤ 8:=d2
  have c1:CoversP t:=c1
  have c2:CoversP (t.map farN):=c2
  have et2:treeOf (t.map farN) = treeOf t:=treeOf_map hg hk (i:=0) (by simp)
  have hcell:∀ k:Nat,(k:Int) < (row.length:Int) → cellAt wide (13 * k) = cellAt row k:=fun k hk=>by
   have:wide[13 * k]? = some (cellAt row k):=by
     rw [ew,wideR]
     simp only [List.getElem?_map]
     rw [List.getElem?_eq_getElem (by simp;omega)]
     simp only [List.getElem_range,Option.map_some]
     rw [if_pos ⟨by omega,by omega⟩,show 13 * k / 13 = k by omega]
   rw [cellAt,this];rfl
  have hlegs:=legs_up (t:=t) (row:=row) (wide:=wide) (f:=(row.length:Int)) (by omega) hcell I1 []
  have hlegs:legsT (t.map farN) wide (treeOf t) [] = (legsT t row (treeOf t) []).map fun x=>(x.1,x.2.1,upW x.2.2):=hlegs
  have hv:∀ k,k < 64 → trV (t.map farN) wide (-1) false k = if k % 13 = 0 ∧ k / 13 < row.length then trV t row (-1) false (k / 13) else 0:=fun k hk=>by
   rw [trV_legs hs2 c2 I2 d2 (by rw [hwl];exact hk),et2,hlegs,List.map_map]
   split
   · rename_i h
     rw [trV_legs hs c1 I1 d1 h.2]
     congr 1
     refine List.map_congr_left fun x _=>?_
     show lfAdd (upW x.2.2) x.2.1 k = _
     have e:=lfAdd_up x.2.2 x.2.1 (k / 13)
     rw [show 13 * (k / 13) = k by omega] at e
     exact e
   · rename_i h
     refine lsum_zero fun y hy=>?_
     obtain ⟨x,hx,rfl⟩:=List.mem_map.1 hy
     exact lfAdd_off (n:=row.length) ((legs_path hs c1 I1 d1) x hx).1.lt fun f hf e=>h ⟨by omega,by omega⟩
  have T1:=Tree15_ok ht hs cs hg
  have T2:=Tree15_ok ht2 hs2 cs2 hg2
  rw [hwl] at T2
  have z1:∀ f,f < row.length → SzQ (trV t row (-1) false f) 200000010:=fun f hf=>trV_sz ha (i:=0) (by simp) (-1) false hf
  have lA:=flo_len row.length (trV t row (-1) false)
  have lB:=flo_len 64 (trV (t.map farN) wide (-1) false)
  have key:=lp_up (step:=dendronlaw15_PathshapMany_s24) (fun i=>((flo row.length (trV t row (-1) false),flo 64 (trV (t.map farN) wide (-1) false),(i:Int),()),())) 64 (r:=.inl ((),())) (by omega) (by
   intro g i hi
   have q1:irem (i:Int) 13 = ((i % 13:Nat):Int):=by
     show Int.tmod _ _ = _
     rw [Int.tmod_eq_emod_of_nonneg (by omega)];omega
   have q2:iquo .i64 (i:Int) 13 = ((i / 13:Nat):Int):=by
     show IntKind.wrap .i64 (Int.tdiv _ _) = _
     rw [Int.tdiv_eq_ediv_of_nonneg (by omega),wrap_i (by omega) (by omega)];omega
   have gb:=flo_get (trV (t.map farN) wide (-1) false) hi
   have eb:=hv i hi
   rw [dendronlaw15_PathshapMany_s24,cnd (by omega),ratio_Zero_ok,Option.bind_some,q1,q2]
   by_cases h:i % 13 = 0
   · rw [cnd (by omega), lA]
     by_cases h3:i / 13 < row.length
     · have sm := ratio_Same_ok ((z1 _ h3).sm (by decide)) ((z1 _ h3).sm (by decide))
       rw [decide_eq_true rfl] at sm
       rw [if_pos ⟨h,h3⟩] at eb
       rw [eb] at gb
       rw [cnd (by omega),cnd2 (by omega) (by omega),Int.toNat_natCast,flo_get _ h3,Option.bind_some,cnd2 (by omega) (by rw [lB];omega),Int.toNat_natCast,gb,Option.bind_some,sm,Option.bind_some,Bool.not_true,cond_false,iadd1 (by omega)]
       rfl
     · have sm := ratio_Same_ok (SzQ.zero.sm (by decide)) (SzQ.zero.sm (by decide))
       rw [decide_eq_true rfl] at sm
       rw [if_neg (fun h'=>h3 h'.2)] at eb
       rw [eb] at gb
       rw [cnd' (by omega),cnd2 (by omega) (by rw [lB];omega),Int.toNat_natCast,gb,Option.bind_some,sm,Option.bind_some,Bool.not_true,cond_false,iadd1 (by omega)]
       rfl
   · have sm := ratio_Same_ok (SzQ.zero.sm (by decide)) (SzQ.zero.sm (by decide))
     rw [decide_eq_true rfl] at sm
     rw [if_neg (fun h'=>h h'.1)] at eb
     rw [eb] at gb
     rw [cnd' (by omega),cnd2 (by omega) (by rw [lB];omega),Int.toNat_natCast,gb,Option.bind_some,sm,Option.bind_some,Bool.not_true,cond_false,iadd1 (by omega)]
     rfl) (by
   intro g
   rw [dendronlaw15_PathshapMany_s24,cnd' (by omega)])
  have key:lp dendronlaw15_PathshapMany_s24 K0 ((flo row.length (trV t row (-1) false),flo 64 (trV (t.map farN) wide (-1) false),0,()),()) = _:=key
  have hfar:=far_lp (t:=t) (row:=row) (f:=(row.length:Int)) (by omega) ht (fun i hi hl=>by
   have:=hg.ranges (i:=0) (by simp) i hi hl
   exact ⟨this.1,this.2.1⟩)
  have hwide:=wide_lp (t:=t) (t':=t.map farN) hrl
  rw [← ew] at hwide
  rw [Bool.not_true,cond_false,hfar,Option.bind_some]
  dsimp only
  rw [hwide,Option.bind_some]
  dsimp only
  rw [T1,Option.bind_some,T2,Option.bind_some]
  dsimp only
  rw [show (!decide ((0:Int) = 0)) = false by decide,cond_false,cond_false,lA,decide_eq_true rfl,Bool.not_true,cond_false,lB,show (!decide (((64:Nat):Int) = 64)) = false by decide,cond_false,key,Option.bind_some]
  dsimp only
  rw [law15_awake_ok];rfl
end Go.Proofs.YthcpiofmhkhbeaaDoor.X
