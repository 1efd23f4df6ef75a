/- Own work: part of the proof; the first line of each part says what it tells. -/
import Derived.Test.YtfoedjifcmfogaaDoorLb9


namespace Go.Proofs.YtfoedjifcmfogaaDoor.X
open Go
set_option linter.unusedVariables false
set_option linter.unusedSimpArgs false
theorem qzA {S i k:Nat} (h1:S.testBit i=false) (h2:S.testBit k=false) (hne:i≠k) (j:Nat):(S+2 ^ i+2 ^ k).testBit j=(decide (j=k) || (decide (j=i) || S.testBit j)):=by
 have b1:(S+2 ^ i).testBit k=false:=by rw[qcy h1,decide_eq_false (fun e=>hne e.symm),h2];rfl
 rw[qcy b1,qcy h1]
theorem qmD {t:List NODE} {row:List CELL} {S k:Nat} (h2:S.testBit k=false):∀ T:TR,qjL t T k=false->expT t row (S+2 ^ k) T=expT t row S T:=by
 intro T
 induction T with
 | leaf i=>intro _;rfl
 | split i l r ihl ihr =>
  intro h;simp only[qjL,Bool.or_eq_false_iff,decide_eq_false_iff_not] at h;simp only[expT];rw[ihl h.2.1,ihr h.2.2,qcy h2,show decide ((qb3 (qcd t i)).toNat=k)=false from decide_eq_false h.1,Bool.false_or]
theorem qxx {t:List NODE} {row:List CELL} {S i k:Nat} (h1:S.testBit i=false) (h2:S.testBit k=false) (hne:i≠k):∀ T:TR,qmq t T i k=false ->
  expT t row (S+2 ^ i+2 ^ k) T-expT t row (S+2 ^ k) T-(expT t row (S+2 ^ i) T-expT t row S T)=0:=by
 have b1:(S+2 ^ i).testBit k=false:=by rw[qcy h1,decide_eq_false (fun e=>hne e.symm),h2];rfl
 have b2:(S+2 ^ k).testBit i=false:=by rw[qcy h2,decide_eq_false hne,h1];rfl
 have hsw:S+2 ^ i+2 ^ k=S+2 ^ k+2 ^ i:=by omega
 intro T
 induction T with
 | leaf j=>intro _;simp only[expT];grind
 | split j l r ihl ihr =>
  intro h;simp only[qmq,Bool.or_eq_false_iff,Bool.and_eq_false_iff,decide_eq_false_iff_not] at h;obtain⟨p1,p2,p3,p4⟩:=h;by_cases ei:ftN t j=i
  · have hk : qjL t (.split j l r) k = false := by
      have q:=p1.resolve_left (fun h=>h ei);rw[qjL,q.1,q.2,decide_eq_false (show ¬ ftN t j=k by omega)];rfl
    rw[qmD b1 _ hk,qmD h2 _ hk];grind
  · by_cases ek : ftN t j = k
    · have hi : qjL t (.split j l r) i = false := by
       have q:=p2.resolve_left (fun h=>h ek);rw[qjL,q.1,q.2,decide_eq_false ei];rfl
      rw[hsw,qmD b2 _ hi,qmD h1 _ hi];grind
    · have il := ihl p3;have ir:=ihr p4;simp only[expT];have e0:(qb3 (qcd t j)).toNat=ftN t j:=rfl;rw[e0,qzA h1 h2 hne,qcy h2,qcy h1,decide_eq_false ei,decide_eq_false ek,Bool.false_or,Bool.false_or];cases S.testBit (ftN t j) with
      | true =>
       rw[if_pos rfl,if_pos rfl,if_pos rfl,if_pos rfl];cases goL t row j with
       | true=>rw[if_pos rfl,if_pos rfl,if_pos rfl,if_pos rfl];exact il
       | false=>rw[if_neg (by decide),if_neg (by decide),if_neg (by decide),if_neg (by decide)];exact ir
      | false =>
       rw[if_neg (by decide),if_neg (by decide),if_neg (by decide),if_neg (by decide),Rat.div_def,Rat.div_def,Rat.div_def,Rat.div_def]
       grind
theorem qr5 {m:qaq} {row:List CELL} (h:Askd m row) {i k:Nat} (hi:i<row.length) (hk:k<row.length) (hne:i≠k) (hm:qqL m m.2.length i k=false):qe7 m row i k=0:=by
 rw[quc h hi hk hne,qgp,Rat.zero_mul];intro S _;unfold twoT;cases h2:S.testBit k with
 | true=>rfl
 | false =>
  rw[if_neg (by decide)];cases h1:S.testBit i with
  | true=>rfl
  | false =>
   rw[if_neg (by decide)];have key:∀ n,n<=m.2.length->rsum (fun j=>expT (qbS m j) row (S+2 ^ i+2 ^ k) (treeOf (qbS m j))) n-rsum (fun j=>expT (qbS m j) row (S+2 ^ k) (treeOf (qbS m j))) n-(rsum (fun j=>expT (qbS m j) row (S+2 ^ i) (treeOf (qbS m j))) n-rsum (fun j=>expT (qbS m j) row S (treeOf (qbS m j))) n)=0:=by
    intro n
    induction n with
    | zero=>intro _;show(0:Rat)-0-(0-0)=0;grind
    | succ n ih =>
     intro hn;have e:=ih (by omega);have hp:qmq (qbS m n) (treeOf (qbS m n)) i k=false:=by
      cases hq:qmq (qbS m n) (treeOf (qbS m n)) i k with
      | false=>rfl
      | true=>rw[qtZ (show n<m.2.length by omega) hq] at hm;cases hm
     have e2:=qxx (row:=row) h1 h2 hne _ hp;simp only[rsum]
     grind
   have e:sayM m row (S+2 ^ i+2 ^ k)-sayM m row (S+2 ^ k)-(sayM m row (S+2 ^ i)-sayM m row S)=0:=key m.2.length (Nat.le_refl _);rw[e,Rat.mul_zero]
theorem qle (m0:qaq) (row0:List CELL) (hl:m0.2.length<=9223372036854775807) (ht:∀ t∈m0.2,t.length<=9223372036854775807) (hr:row0.length<=9223372036854775807):qbR m0 row0=some true:=by
 obtain⟨m,row,hs,ms,ml,mt,cs⟩:=qxT m0 row0 hl ht hr;obtain⟨b,hv,hb⟩:=qAo (m:=m) (by omega) (fun t h=>by have:=mt t h;omega) ms (by decide);obtain⟨r1,r2⟩:=qyy hv row;rw[qbR,hs,bS0];dsimp only;by_cases h8:m.1>8
 · rw[cnd h8,qhb];rfl
 rw[cnd' h8];have hMeet:∃ r4,qcJ m=some r4:=by
   cases b with
   | false=>exact⟨_,by rw[qcJ,hv];rfl⟩
   | true =>
    have hg:=hb.1 rfl;obtain⟨n,hn⟩:=Int.eq_ofNat_of_zero_le hg.1.1;exact⟨_,qwy hv hg hn (by omega) (by omega) mt⟩
 by_cases he:whyR b m row=0
 · have hbt : b = true := by cases b with
    | true=>rfl
    | false=>exact absurd he (by rw[whyR,if_neg (by decide)];decide)
   subst hbt;have hlen:(row.length:Int)=m.1:=by
    apply Classical.byContradiction;intro hn;rw[whyR,if_pos rfl,if_neg hn] at he;exact absurd he (by decide)
   have hg:=hb.1 rfl;have ha:Askd m row:=⟨hg,hlen,ms,by omega,mt,cs⟩;rw[he] at r1;obtain⟨n,hn⟩:∃ n,n=row.length:=⟨_,rfl⟩;have hVals:=qsn ha r1 hv (by omega);have hM:=qwy hv hg (n:=n) (by omega) (by omega) (by omega) mt;obtain⟨G,eG⟩:∃ G,G=qmr m m.2.length:=⟨_,rfl⟩;obtain⟨g,eg⟩:∃ g,g=qjZ m row:=⟨_,rfl⟩;rw[<- eG] at hM;rw[<- eg,<- hn] at hVals;have gz:∀ a b,a<n->SzQ (g a b) 26000000000:=fun a b h=>by rw[eg];exact qwF ha (by omega) b (by omega)
   have g0:∀ a b,a<n->b<n->a≠b->G a b=false->g a b=0:=fun a b h h' hne hf=>by
    rw[eG,qmr,if_neg hne] at hf;rw[eg,qjZ,if_neg hne,qyY ha (by omega) (by omega),if_neg hne];exact qr5 ha (by omega) (by omega) hne hf
   have k1:∀ i,i<n->lp qae K0 ((grd n n g,grb n G,(i:Int),0,()),())=some (.inl ((grd n n g,grb n G,(i:Int),()),())):=by
    intro i hi;refine qfM (step:=qae) (fun k=>((grd n n g,grb n G,(i:Int),(k:Int),()),())) n (by omega) (by
     intro K k hk;have u0:(0:Int)<=(i:Int):=by omega
     have u1:(i:Int)<((grd n n g).length:Int):=by rw[qeB];omega
     have u2:(i:Int)<((grb n G).length:Int):=by rw[qvH];omega
     have u3:(k:Int)<((flo n (g i)).length:Int):=by rw[qa2];omega
     have u4:(k:Int)<((rowB n (G i)).length:Int):=by rw[qwU];omega
     have u5:(0:Int)<=(k:Int):=by omega
     rw[qae,bnd2 u0 u1,tN0,qlE _ hi,bS0,bS0,bS0,cnd u3,cnd u0,qzk _ hi,bS0,cnd u4];by_cases e:i=k
     · rw [decide_eq_true (show (i : Int) = (k : Int) by omega), Bool.not_true, cond_false, qbr (by omega)];rfl
     · rw [decide_eq_false (show ¬ (i : Int) = (k : Int) by omega), Bool.not_false, cond_true, cnd u0, bS0, cnd u5, tN0, qwV _ hk, bS0];cases hG:G i k with
       | true =>
        rw[Bool.not_true,cond_false,qbr (by omega)];rfl
       | false =>
        have hsg:=qh3 ((gz i k hi).sm (by decide));rw[qai,g0 i k hi hk e hG,show rcmp 0 0=0 by decide +kernel] at hsg;rw[Bool.not_false,cond_true,bnd2 u0 u1,bS0,bS0,bS0,bnd2 u5 u3,bS0,bS0,qe9 _ hk,bS0,g0 i k hi hk e hG,hsg,bS0,decide_eq_true rfl,Bool.not_true,cond_false,qbr (by omega)];rfl) (by
     intro K;have u0:(0:Int)<=(i:Int):=by omega
     have u1:(i:Int)<((grd n n g).length:Int):=by rw[qeB];omega
     have u3:¬ ((n:Nat):Int)<((flo n (g i)).length:Int):=by rw[qa2];omega
     rw[qae,bnd2 u0 u1,tN0,qlE _ hi,bS0,bS0,bS0,cnd' u3])
   have k2:=qfM (step:=qaf) (fun i=>((grd n n g,grb n G,(i:Int),()),())) n (r:=.inl ((),())) (by omega) (by
    intro K i hi;rw[qaf,cnd (by rw[qeB];omega),k1 i hi,bS0];dsimp only;rw[qbr (by omega)];rfl) (by
    intro K;rw[qaf,cnd' (by rw[qeB];omega)])
   have k2:lp qaf K0 ((grd n n g,grb n G,0,()),())=_:=k2;rw[hVals,bS0,hM,bS0];dsimp only;rw[show(!decide ((0:Int)=0))=false by decide,cond_false,cond_false,qeB,qvH,decide_eq_true rfl,Bool.not_true,cond_false,k2,bS0];dsimp only;rw[qhb];rfl
 · obtain ⟨r4, hM⟩ := hMeet;rw[qrh r1 he,bS0,hM,bS0];dsimp only;rw[decide_eq_false he,Bool.not_false,cond_true,r2,bS0,cnd rfl,qhb];rfl
end Go.Proofs.YtfoedjifcmfogaaDoor.X
