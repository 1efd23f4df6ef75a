/- Own work: part of the proof; the first line of each part says what it tells. -/
import Derived.Test.YtemlifeamdpjeaaGreatDoorLa7


namespace Go.Proofs.YtemlifeamdpjeaaGreatDoor.X
open Go
set_option linter.unusedVariables false
set_option linter.unusedSimpArgs false
theorem qvM {a q:List Int} {i:Int} {y R:Nat} (hy:(digs y).length<1099511627776) (hR:(digs R).length<1099511627776) (hRy:R<y*10000) :
  lp qaw K0 ((a,digs y,q,digs R,i,0,10000,()),())=some ((a,digs y,q,digs R,i,((R/y:Nat):Int),()),()):=by
 have hy0:0<y:=by
  rcases Nat.eq_zero_or_pos y with h | h
  · subst h;omega
  · exact h
 obtain⟨r,rfl,hlp⟩:=qk9 (step:=qaw) (fun s=>∃ lo hi:Nat,s=((a,digs y,q,digs R,i,(lo:Int),(hi:Int),()),())∧lo<hi∧hi≤10000∧y*lo≤R∧R<y*hi) (fun s=>(s.1.2.2.2.2.2.2.1-s.1.2.2.2.2.2.1).toNat)
  (fun r=>r=((a,digs y,q,digs R,i,((R/y:Nat):Int),()),())) (v:=((a,digs y,q,digs R,i,0,10000,()),())) ⟨0,10000,rfl,by omega,by omega,by simp,hRy⟩ (by simp) (by
    rintro s ⟨lo,hi,rfl,hlt,hh,h1,h2⟩
    have e1:isub .i64 (hi:Int) (lo:Int)=(hi:Int)-lo:=by rw[qbw]<;>omega
    by_cases hd:hi-lo≤1
    · have : hi = lo + 1 := by omega
      subst this
      have hq:R/y=lo:=by
        rw[Nat.div_eq_iff hy0]
        rw[Nat.mul_add,Nat.mul_one] at h2
        rw[Nat.mul_comm];omega
      refine .inl ⟨_,rfl,fun g=>?_⟩
      rw[qaw,e1,cnd' (by omega),hq]
    · have e2 : iquo .i64 (iadd .i64 (lo : Int) (hi : Int)) 2 = (((lo + hi) / 2 : Nat) : Int) := by
        have:iadd .i64 (lo:Int) (hi:Int)=((lo+hi:Nat):Int):=by rw[qdC]<;>omega
        rw[this,qse (by omega) (by omega) (by omega)];omega
      have hmid:(lo+hi)/2<10000:=by omega
      have hs:=qiO (n:=(lo+hi)/2) (by omega)
      have hdl:(digs ((lo+hi)/2)).length≤1:=qc2 (by omega)
      have ht:=qn4 (qdE y) (qdE ((lo+hi)/2)) (by omega) (by omega)
      rw[qcD,qcD] at ht
      have hml:=qjk y ((lo+hi)/2)
      have ho:=qn5 (n:=y*((lo+hi)/2)) (m:=R) (by omega)
      have hmlo:lo<(lo+hi)/2:=by omega
      have hmhi:(lo+hi)/2<hi:=by omega
      generalize (lo+hi)/2=mid at *
      have step:∀ g,qaw g ((a,digs y,q,digs R,i,(lo:Int),(hi:Int),()),())=bif decide (ncmp (y*mid) R≤0) then g ((a,digs y,q,digs R,i,(mid:Int),(hi:Int),()),()) else g ((a,digs y,q,digs R,i,(lo:Int),(mid:Int),()),()):=by
        intro g
        rw[qaw,e1,cnd (by omega),e2,hs,bS0,ht,bS0,ho,bS0]
      by_cases hc:y*mid≤R
      · have c : ncmp (y * mid) R ≤ 0 := by unfold ncmp; split <;> (try split) <;> omega
        exact .inr ⟨_,⟨mid,hi,rfl,hmhi,hh,hc,h2⟩,by show((hi:Int)-(mid:Int)).toNat<((hi:Int)-(lo:Int)).toNat;omega,fun g=>by rw[step,cnd c]⟩
      · have c : ¬ ncmp (y * mid) R ≤ 0 := by unfold ncmp; rw [if_neg (by omega), if_pos (by omega)]; decide
        exact .inr ⟨_,⟨lo,mid,rfl,hmlo,by omega,h1,by omega⟩,by show((mid:Int)-(lo:Int)).toNat<((hi:Int)-(lo:Int)).toNat;omega,fun g=>by rw[step,cnd' c]⟩)
 exact hlp
theorem qA1 {R y k:Nat} (h:R<y*10000) (hy:y<10000 ^ k):R<10000 ^ (k+1):=by
 rw[Nat.pow_succ]
 exact Nat.lt_of_lt_of_le h (Nat.mul_le_mul_right _ (Nat.le_of_lt hy))
theorem qAY {a:List Int} {y:Nat} (ha:Dig a) (hl:a.length<1099511627776) (hy:(digs y).length<1099511627775) (hy0:0<y):qd5 a (digs y)=some (digs (dd a/y),digs (dd a % y)):=by
 obtain⟨r,⟨s,c,rfl,hs,hsl,hc,hsn⟩,hlp⟩:=qk9 (step:=qaZ)
  (fun v=>∃ (j:Nat) (s:List Int) (c:Nat),j≤a.length∧v=((a,digs y,List.replicate j 0++s,digs c,(j:Int)-1,()),())∧j+s.length=a.length∧Dig s∧c<y∧dd (a.drop j)=y*dd s+c)
  (fun v=>(v.1.2.2.2.2.1+1).toNat)
  (fun r=>∃ (s:List Int) (c:Nat),r=((s,digs c,()),())∧s.length=a.length∧Dig s∧c<y∧dd a=y*dd s+c) (v:=((a,digs y,List.replicate a.length 0,[],(a.length:Int)-1,()),()))
  ⟨a.length, [], 0, Nat.le_refl _, by simp [qdt], by simp, Dig.nil, hy0, by simp⟩ (by simp; omega) (by
   rintro v ⟨j,s,c,hj,rfl,hjl,hsl,hc,hn⟩
   cases j with
   | zero =>
    refine .inl ⟨((s,digs c,()),()),⟨s,c,rfl,by omega,hsl,hc,by simpa using hn⟩,fun g=>by simp [qaZ]⟩
   | succ j =>
    have hja:j<a.length:=by omega
    have b:=ha.at hja
    have e3:((j+1:Nat):Int)-1=(j:Int):=by omega
    rw[e3]
    obtain⟨x,hx⟩:=Int.eq_ofNat_of_zero_le b.1
    have hx':x<10000:=by omega
    have hcl:=qis (Nat.le_of_lt hc)
    have htr:=qp5 (a:=[a[j]]++digs c) (Dig.append (Dig.cons b Dig.nil) (qdE c)) (by simp;omega)
    have hval:dd ([a[j]]++digs c)=x+10000*c:=by
      show dd (a[j]::digs c)=_
      rw[dd,qcD];omega
    rw[hval] at htr
    have hR:x+10000*c<y*10000:=by omega
    have hRl:(digs (x+10000*c)).length<1099511627776:=by
      have h5:x+10000*c<10000 ^ ((digs y).length+1):=by
       have h6:=qrS (digs y)
       rw[qcD] at h6
       exact qA1 hR h6
      have:=qc2 h5
      omega
    have hin:=qvM (a:=a) (q:=List.replicate (j+1) 0++s) (i:=(j:Int)) (by omega) hRl hR
    have k1:=Nat.div_add_mod (x+10000*c) y
    have k5:=Nat.mod_lt (x+10000*c) hy0
    have hq:(x+10000*c)/y<10000:=by rw[Nat.div_lt_iff_lt_mul hy0];omega
    have hs1:=qiO (n:=(x+10000*c)/y) (by omega)
    have hdl:(digs ((x+10000*c)/y)).length≤1:=qc2 (by omega)
    have ht:=qn4 (qdE y) (qdE ((x+10000*c)/y)) (by omega) (by omega)
    rw[qcD,qcD] at ht
    have hm:=qzc (qdE (x+10000*c)) (qdE (y*((x+10000*c)/y))) (by omega) (by rw[qcD,qcD];omega)
    rw[qcD,qcD] at hm
    have hrest:x+10000*c-y*((x+10000*c)/y)=(x+10000*c) % y:=by omega
    rw[hrest] at hm
    generalize (x+10000*c)/y=qd at *
    generalize (x+10000*c) % y=rr at *
    refine .inr ⟨((a,digs y,List.replicate j 0++(qd:Int)::s,digs rr,(j:Int)-1,()),()),⟨j,_,_,by omega,rfl,by simp;omega,Dig.cons (by omega) hsl,k5,?_⟩,by simp,fun g=>?_⟩
    · rw [qDA a hja, hn, dd]
      have k2:((qd:Int) % 10000).toNat=qd:=by omega
      have k3:(a[j] % 10000).toNat=x:=by omega
      rw[k2,k3]
      grind
    · have q5 : isub .i64 (j : Int) 1 = (j : Int) - 1 := by rw [qbw] <;> omega
      have e5:(List.replicate (j+1) (0:Int)++s).set j (qd:Int)=List.replicate j 0++(qd:Int)::s:=by
       rw[List.replicate_succ',List.append_assoc,List.set_append_right _ _ (by simp)]
       simp
      have e6:j<(List.replicate (j+1) (0:Int)++s).length:=by simp;omega
      have e7:((j:Nat):Int)<((List.replicate (j+1) (0:Int)++s).length:Int):=by omega
      have e8:(0:Int)≤((j:Nat):Int):=by omega
      have c0:(j:Int)≥0:=by omega
      have c1:(Nat.ble ((([a[j]]:List Int).length+(digs c).length)*8) 140737488355328&&!false)=true:=blt (by simp;omega)
      rw[qaZ,cnd c0,cnd e8,tN0,gE0 hja,bS0,c1,cond_true,htr,bS0,hin,bS0,cnd2 e8 e7,tN0,gE0 e6,bS0,hs1,bS0,ht,bS0,hm,bS0,e5,q5])
 have g1:((8:Nat):Int)*(a.length:Int)≤281474976710656:=by omega
 have g2:(a.length:Int)≤9223372036854775807:=by omega
 have g4:(0:Int)≤(a.length:Int):=by omega
 have g3:isub .i64 (a.length:Int) 1=(a.length:Int)-1:=by rw[qbw]<;>omega
 have k1:dd a/y=dd s:=by rw[hsn,Nat.mul_add_div hy0,Nat.div_eq_of_lt hc];simp
 have k2:dd a % y=c:=by rw[hsn,Nat.mul_add_mod,Nat.mod_eq_of_lt hc]
 rw[k1,k2]
 rw[qd5,decide_eq_true rfl,decide_eq_true g4,decide_eq_true g1,decide_eq_true g2,tN0,g3,hlp]
 simp only[Bool.and_self,cond_true,bS0,qp5 hsl (show s.length<4611686018427387904 by omega)]
theorem qDk {x y:Nat} (hy:y≠0) (h:2*x≤y):lenN x<lenN y:=by
 unfold lenN
 by_cases hx:x=0
 · rw[if_pos hx,if_neg hy];omega
 · rw [if_neg hx, if_neg hy]
   have:=qqZ hx h
   omega
theorem qDl {n k:Nat} (h:n<2 ^ k):lenN n≤k:=by
 unfold lenN
 by_cases hx:n=0
 · rw[if_pos hx];omega
 · rw[if_neg hx];have:=(Nat.log2_lt hx).2 h;omega
theorem quT (n:Nat):lenN n≤14*(digs n).length:=by
 apply qDl
 have h1:=qrS (digs n)
 rw[qcD] at h1
 have h2:10000 ^ (digs n).length≤(2 ^ 14) ^ (digs n).length:=Nat.pow_le_pow_left (by decide) _
 rw[← Nat.pow_mul] at h2
 omega
theorem qCW {x y:Nat} (hx:(digs x).length<1099511627775) (hy:(digs y).length<1099511627775):qcJ (digs x) (digs y)=some (digs (Nat.gcd x y)):=by
 obtain⟨r,rfl,hlp⟩:=qk9 (step:=qbd) (fun s=>∃ p q:Nat,s=((digs p,digs q,()),())∧(digs p).length<1099511627775∧(digs q).length<1099511627775∧Nat.gcd p q=Nat.gcd x y)
  (fun s=>2*(lenN (dd s.1.1)+lenN (dd s.1.2.1))+if dd s.1.1<dd s.1.2.1 then 1 else 0) (fun r=>r=((digs (Nat.gcd x y),()),())) (v:=((digs x,digs y,()),()))
  ⟨x, y, rfl, hx, hy, rfl⟩ (by
   have h1:=quT x
   have h2:=quT y
   simp only[qcD]
   split<;>omega) (by
   rintro s ⟨p,q,rfl,hp,hq,hg⟩
   by_cases h0:q=0
   · subst h0
     refine .inl ⟨_,rfl,fun g=>?_⟩
     rw[Nat.gcd_zero_right] at hg
     rw[qdt,qbd,cnd' (by decide),← hg]
   · have c0 : ((digs q).length : Int) > 0 := qlS.2 h0
     have ho:=qAY (qdE p) (by omega) hq (Nat.pos_of_ne_zero h0)
     rw[qcD] at ho
     have hml:=Nat.mod_lt p (Nat.pos_of_ne_zero h0)
     refine .inr ⟨((digs q,digs (p % q),()),()),⟨q,p % q,rfl,hq,Nat.lt_of_le_of_lt (qis (Nat.le_of_lt hml)) hq,?_⟩,?_,fun g=>?_⟩
     · rw[← hg,Nat.gcd_comm q,← Nat.gcd_rec,Nat.gcd_comm]
     · simp only [qcD]
       rw[if_neg (by omega)]
       by_cases hpq:p<q
       · rw[if_pos hpq,Nat.mod_eq_of_lt hpq];omega
       · rw [if_neg hpq]
         have:2*(p % q)≤p:=by
          have h1:=Nat.div_add_mod p q
          have h2:1≤p/q:=Nat.div_pos (by omega) (by omega)
          have h3:q*1≤q*(p/q):=Nat.mul_le_mul_left _ h2
          omega
         have:=qDk (by omega) this
         omega
     · rw[qbd,cnd c0,ho,bS0])
 rw[qcJ,hlp];rfl
theorem qgN {n k:Nat} (h:n<4294967296 ^ k):(digs n).length≤3*k:=by
 apply qc2
 have:4294967296 ^ k≤(10000 ^ 3) ^ k:=Nat.pow_le_pow_left (by decide) _
 rw[← Nat.pow_mul] at this
 omega
theorem qp6 {a:List Int} (hl:a.length<274877906944):qaE a=some (digs (nn a)):=by
 have hu:=qiO (n:=4294967296) (by decide)
 obtain⟨r,rfl,hlp⟩:=qk9 (step:=qa0) (fun s=>∃ j:Nat,j≤a.length∧s=((a,digs (nn (a.drop j)),digs 4294967296,(j:Int)-1,()),())) (fun s=>(s.1.2.2.2.1+1).toNat)
  (fun r => r = ((digs (nn a), ()), ())) (v := ((a, [], digs 4294967296, (a.length : Int) - 1, ()), ())) ⟨a.length, Nat.le_refl _, by rw [List.drop_length, qCe, qdt]⟩ (by simp; omega) (by
   rintro s ⟨j,hj,rfl⟩
   cases j with
   | zero=>exact .inl ⟨_,rfl,fun g=>by simp [qa0]⟩
   | succ j =>
    have hja:j<a.length:=by omega
    have e3:((j+1:Nat):Int)-1=(j:Int):=by omega
    rw[e3]
    have hnl:=qfQ (a.drop (j+1))
    rw[List.length_drop] at hnl
    have hd:=qgN hnl
    have hu2:(digs 4294967296).length≤3:=qc2 (by decide)
    have ht:=qn4 (qdE (nn (a.drop (j+1)))) (qdE 4294967296) (by omega) (by omega)
    rw[qcD,qcD] at ht
    have hml:=qjk (nn (a.drop (j+1))) 4294967296
    have hw:IntKind.wrap .i64 (iand .u64 a[j] 4294967295)=(((a[j] % 4294967296).toNat:Nat):Int):=by
     rw[qgK,qtC (by omega) (by omega)];omega
    have hs:=qiO (n:=(a[j] % 4294967296).toNat) (by omega)
    have hsl:(digs (a[j] % 4294967296).toNat).length≤3:=qc2 (by omega)
    have hp:=qAX (x:=nn (a.drop (j+1))*4294967296) (y:=(a[j] % 4294967296).toNat) (by omega) (by omega)
    have hval:nn (a.drop (j+1))*4294967296+(a[j] % 4294967296).toNat=nn (a.drop j):=by rw[qvX a hja];omega
    rw[hval] at hp
    refine .inr ⟨((a,digs (nn (a.drop j)),digs 4294967296,(j:Int)-1,()),()),⟨j,by omega,rfl⟩,by simp,fun g=>?_⟩
    have q5:isub .i64 (j:Int) 1=(j:Int)-1:=by rw[qbw]<;>omega
    have c0:(j:Int)≥0:=by omega
    have c1:(0:Int)≤(j:Int):=by omega
    rw[qa0,cnd c0,ht,bS0,cnd c1,tN0,gE0 hja,bS0,hw,hs,bS0,hp,bS0,q5])
 have g3:isub .i64 (a.length:Int) 1=(a.length:Int)-1:=by rw[qbw]<;>omega
 rw[show((4294967296:Nat):Int)=4294967296 from rfl] at hu
 rw[qaE,hu,bS0,g3,hlp];rfl
theorem qud {n:Nat} (hl:(qab n).length<4398046511104):qcG (qab n)=some true:=by
 have la:=qaR n
 have hc:=(qq3 n).2
 generalize qab n=a at *
 have key:=qfu (step:=qaH) (fun i=>((a,(i:Int),()),())) a.length (r:=.inl ((a,()),())) (by omega) (by
   intro g i hi
   have b:=la.at hi
   have c0:(i:Int)<((a.length:Nat):Int):=by omega
   have c1:(0:Int)≤(i:Int):=by omega
   rw[qaH,cnd c0,cnd c1,tN0,gE0 hi,bS0,cnd' (by omega),qa4 (by omega)]
   rfl) (by
   intro g
   rw[qaH,cnd' (by omega)])
 have key':lp qaH K0 ((a,0,()),())=some (.inl ((a,()),())):=key
 rw[qcG,key',bS0]
 by_cases h0:a=[]
 · subst h0;rfl
 · have hlen := List.length_pos_iff.2 h0
   have e:isub .i64 (a.length:Int) 1=((a.length-1:Nat):Int):=by rw[qbw]<;>omega
   have hlt:a.length-1<a.length:=by omega
   have hne:a[a.length-1]≠0:=hc _ (by rw[List.getLast?_eq_getElem?];exact gE0 hlt)
   have c0:¬ ((a.length:Nat):Int)=0:=by omega
   have c1:(0:Int)≤((a.length-1:Nat):Int):=by omega
   simp only[]
   rw[cnd' c0,e,cnd c1,tN0,gE0 hlt,bS0,decide_eq_false hne]
   rfl
def qla (z:Int):WH:=(decide (z<0),digs z.natAbs)
theorem qn6 (b:Bool) (n:Nat):qbL b (digs n)=some (qla (if b then -(n:Int) else n)):=by
 cases b with
 | false =>
  show some (false,digs n)=some (qla (n:Int))
  unfold qla
  rw[decide_eq_false (by omega),Int.natAbs_natCast]
 | true =>
  show some (decide (((digs n).length:Int)>0),digs n)=some (qla (-(n:Int)))
  unfold qla
  rw[Int.natAbs_neg,Int.natAbs_natCast]
  congr 2
  rw[decide_eq_decide,qlS]
  omega
theorem qr3 {x y:Int} (hx:(digs x.natAbs).length<1099511627776) (hy:(digs y.natAbs).length<1099511627776):qcF (qla x) (qla y)=some (qla (x*y)):=by
 have hm:=qn4 (qdE x.natAbs) (qdE y.natAbs) (by omega) (by omega)
 rw[qcD,qcD] at hm
 rw[qcF]
 simp only[qla,hm,bS0,qn6]
 have key:(if (!decide (x<0) == decide (y<0))=true then -(((x.natAbs*y.natAbs:Nat)):Int) else ((x.natAbs*y.natAbs:Nat):Int))=x*y:=by
  rw[Int.natCast_mul]
  by_cases h1:x<0<;>by_cases h2:y<0
  · rw[show((x.natAbs:Nat):Int)=-x by omega,show((y.natAbs:Nat):Int)=-y by omega];simp [h1,h2,Int.neg_mul_neg]
  · rw[show((x.natAbs:Nat):Int)=-x by omega,show((y.natAbs:Nat):Int)=y by omega];simp [h1,h2,Int.neg_mul]
  · rw[show((x.natAbs:Nat):Int)=x by omega,show((y.natAbs:Nat):Int)=-y by omega];simp [h1,h2,Int.mul_neg]
  · rw[show((x.natAbs:Nat):Int)=x by omega,show((y.natAbs:Nat):Int)=y by omega];simp [h1,h2]
 exact congrArg (fun z=>some (qla z)) key
theorem qxM {x y:Int} (hx:(digs x.natAbs).length<4398046511104) (hy:(digs y.natAbs).length<4398046511104):qdw (qla x) (qla y)=some (icmp x y):=by
 have e1:=qn5 (n:=x.natAbs) (m:=y.natAbs) (by omega)
 have e2:=qn5 (n:=y.natAbs) (m:=x.natAbs) (by omega)
 rw[qdw]
 simp only[qla,e1,e2]
 by_cases h1:x<0<;>by_cases h2:y<0<;>simp [h1,h2,icmp,ncmp]<;>(repeat' split)<;>omega
theorem que {a:WH} (h:a.2.length<274877906944):qd4 a=some (qla (wv a)):=by
 rw[qd4,qp6 h,bS0,qn6];rfl
theorem qzd {a:RAT} {n:Nat} (h:SzR a n) (hn:n<91625968980):∃ (z:Int) (d:Nat),qbK a=some (qla z,digs d)∧0<d∧rv a=mkRat z d∧(digs z.natAbs).length≤3*n+1∧(digs d).length≤3*n+1:=by
 have h1:=h.1
 have h2:=h.2
 rw[qbK,qp6 (by omega),bS0]
 by_cases h0:nn a.2=0
 · refine ⟨0, 1, ?_, by omega, ?_, by simp [qdt], qc2 (by rw [Nat.pow_add]; have : 0 < 10000 ^ (3 * n) := Nat.pow_pos (by decide); omega)⟩
   · have s1 := qiO (n := 1) (by decide)
     have s0:=qiO (n:=0) (by decide)
     rw[show((1:Nat):Int)=1 from rfl] at s1
     rw[show((0:Nat):Int)=0 from rfl] at s0
     rw[h0,qdt,cnd (by rfl),qeI,qeJ,cnd' (by decide),s0,bS0,qn6,bS0,bS0,s1]
     rfl
   · rw[rv,h0];simp
 · have hne : ¬ ((digs (nn a.2)).length : Int) = 0 := by rw [qvf]; exact h0
   refine⟨wv a.1,nn a.2,?_,Nat.pos_of_ne_zero h0,rfl,?_,?_⟩
   · rw[cnd' hne,que (by omega)];rfl
   · rw [qeK]
     have:=qgN (qfQ a.1.2)
     omega
   · have := qgN (qfQ a.2)
     omega
theorem qE9 {q:Rat} {b:RAT} {n m:Nat} (hq:SzQ q n) (hn:n<91625968980) (hb:SzR b m) (hm:m<91625968980):qd3 (canQ q) b=some (decide (q=rv b)):=by
 obtain⟨z,d,hf,hd0,hv,hz,hd⟩:=qzd hb hm
 have hr:=hq.szR
 have r1:(qab q.num.natAbs).length≤n:=hr.1
 have r2:(qab q.den).length≤n:=hr.2
 have hnum:=qgN hq.1
 have hden:=qgN hq.2
 have f1:=qp6 (a:=qab q.num.natAbs) (by omega)
 have f2:=qp6 (a:=qab q.den) (by omega)
 rw[q9q] at f1 f2
 have hg:=qCW (x:=q.num.natAbs) (y:=q.den) (by omega) (by omega)
 rw[show Nat.gcd q.num.natAbs q.den=1 from q.reduced] at hg
 have s1:=qiO (n:=1) (by decide)
 rw[show((1:Nat):Int)=1 from rfl] at s1
 have hl1:(digs 1).length≤1:=qc2 (by decide)
 have ho:=qn5 (n:=1) (m:=1) (by omega)
 have hcm:ncmp 1 1=0:=rfl
 have hdne:¬ (((qab q.den).length:Nat):Int)=0:=by rw[qiG];exact q.den_nz
 have hright:qdu (canQ q)=some true:=by
  have hfin:((qaE (qab q.num.natAbs)).bind fun r3=>(qaE (qab q.den)).bind fun r4=>(qcJ r3 r4).bind fun r5=>(qam 1).bind fun r6=>(qaj r5 r6).bind fun r7=>some (decide (r7=0)))=some true:=by
    rw[f1,bS0,f2,bS0,hg,bS0,s1,bS0,ho,bS0,hcm];rfl
  rw[show canQ q=((decide (q.num<0),qab q.num.natAbs),qab q.den) from rfl,qdu,qud (show(qab q.num.natAbs).length<4398046511104 by omega),bS0,Bool.not_true,cond_false,qud (show(qab q.den).length<4398046511104 by omega),bS0,Bool.not_true,cond_false,cnd' hdne]
  by_cases hz0:q.num.natAbs=0
  · have hnn : ¬ q.num < 0 := by omega
    have hl0:(((qab q.num.natAbs).length:Nat):Int)=0:=qiG.2 hz0
    rw[cnd hl0,cnd' hnn]
    exact hfin
  · have hl0 : ¬ (((qab q.num.natAbs).length : Nat) : Int) = 0 := by rw [qiG]; exact hz0
    rw[cnd' hl0]
    exact hfin
 have hfrom:qbK (canQ q)=some (qla q.num,digs q.den):=by
  have hdne2:¬ (((digs q.den).length:Nat):Int)=0:=by rw[qvf];exact q.den_nz
  have f3:=que (a:=qay q.num) (by show(qab _).length<_;omega)
  rw[qcs] at f3
  rw[qbK]
  simp only[canQ,f2,bS0,f3]
  exact cnd' hdne2
 have m1:=qr3 (x:=q.num) (y:=(d:Int)) (by omega) (by rw[Int.natAbs_natCast];omega)
 have m2:=qr3 (x:=z) (y:=(q.den:Int)) (by omega) (by rw[Int.natAbs_natCast];omega)
 have l1:=qjk q.num.natAbs d
 have l2:=qjk z.natAbs q.den
 have oo:=qxM (x:=q.num*(d:Int)) (y:=z*(q.den:Int)) (by rw[Int.natAbs_mul,Int.natAbs_natCast];omega) (by rw[Int.natAbs_mul,Int.natAbs_natCast];omega)
 have k1:=qn6 false d
 have k2:=qn6 false q.den
 have horder:qdv (qla q.num,digs q.den) (qla z,digs d)=some (icmp (q.num*(d:Int)) (z*(q.den:Int))):=by
  rw[qdv]
  simp only[qeo,k1,k2,bS0,Bool.false_eq_true,if_false,m1,m2,oo]
 have hiff:icmp (q.num*(d:Int)) (z*(q.den:Int))=0 ↔ q=rv b:=by
  rw[hv]
  have h1:icmp (q.num*(d:Int)) (z*(q.den:Int))=0 ↔ q.num*(d:Int)=z*(q.den:Int):=by
    unfold icmp;(repeat' split)<;>omega
  rw[h1]
  conv=>rhs;rw[← Rat.mkRat_self q]
  rw[Rat.mkRat_eq_iff q.den_nz (by omega)]
 rw[qd3,hf,bS0,qgO,hright,bS0,cond_true,hfrom,bS0,horder,bS0,bS0]
 congr 1
 rw[decide_eq_decide]
 exact hiff
def rsum (f:Nat→Rat):Nat→Rat
 | 0=>0
 | n+1=>rsum f n+f n
theorem qex {f g:Nat→Rat} {n:Nat} (h:∀ i,i<n→f i=g i):rsum f n=rsum g n:=by
 induction n with
 | zero=>rfl
 | succ n ih=>simp only[rsum];rw[ih (fun i hi=>h i (by omega)),h n (by omega)]
theorem qmr (f:Nat→Rat) (c:Rat) (n:Nat):rsum (fun i=>f i*c) n=rsum f n*c:=by
 induction n with
 | zero=>simp [rsum]
 | succ n ih=>simp only[rsum,ih];rw[Rat.add_mul]
theorem qy6 {f:Nat→Rat} {k n:Nat} (h:∀ i,i<n→SzQ (f i) k):SzQ (rsum f n) (1+n*(k+1)):=by
 induction n with
 | zero=>simpa [rsum] using SzQ.zero
 | succ n ih =>
  have:=(ih fun i hi=>h i (by omega)).add (h n (by omega))
  simp only[rsum]
  exact this.mono (by rw[Nat.add_mul];omega)
theorem qCA {l:List RAT} {k:Nat} (h:∀ x∈l,SzR x k) (hk:0<k) {i:Nat} (hi:i<l.length):SzQ (vals l i) k:=by
 rw[qp3 hi];exact(h _ (gM0 hi)).szQ hk
def fac:Nat→Nat
 | 0=>1
 | n+1=>(n+1)*fac n
theorem qwi (n:Nat):0<fac n:=by
 induction n with
 | zero=>decide
 | succ n ih=>exact Nat.mul_pos (by omega) ih
def qtm:List WH:=(List.range 65).map fun n=>qay (fac n:Nat)
theorem qvP:qes=some qtm:=by decide +kernel
def Tab (d st sm:Int) (f:List WH):Prop:=(d=0∧st=0)∨(d=1∧st=0∧f=qtm)
theorem qEy:∃ d st sm f,qnO=some (d,st,sm,f)∧Tab d st sm f:=⟨0,0,0,[],rfl,.inl ⟨rfl,rfl⟩⟩
theorem qzT {n:Nat} (h:n<65):qtm[n]?=some (qay (fac n:Nat)):=by
 simp [qtm,h]
theorem qDI {d st sm:Int} {f:List WH} (h:Tab d st sm f) {n:Nat} (hn:n≤64):qik (n:Int) d st sm f=some (qay (fac n:Nat),1,0,sm,qtm):=by
 have h0:(0:Int)≤(n:Int):=by omega
 have hg:=qzT (n:=n) (by omega)
 rcases h with ⟨rfl,rfl⟩ | ⟨rfl,rfl,rfl⟩
 · rw[qik,cnd h0,cnd rfl,cnd rfl,qvP,bS0,tN0,hg,bS0]
 · rw[qik,cnd h0,cnd' (by decide),tN0,hg,bS0]
theorem tab1 (sm:Int):Tab 1 0 sm qtm:=.inr ⟨rfl,rfl,rfl⟩
theorem qxk {n:Nat} (h:n≤64):fac n<4294967296 ^ 10:=by
 have hm:∀ a b,a≤b→fac a≤fac b:=by
  intro a b hab
  induction hab with
  | refl=>exact Nat.le_refl _
  | step _ ih =>
   refine Nat.le_trans ih ?_
   simp only[fac]
   exact Nat.le_mul_of_pos_left _ (by omega)
 have:=hm n 64 h
 have h64:fac 64<4294967296 ^ 10:=by decide +kernel
 omega
theorem qzU {n:Nat} (h:n≤64):SzQ ((fac n:Nat):Rat) 10:=by
 have:=qxk h
 exact⟨by simpa using this,by simp⟩
def quo (a b c:Nat):Rat:=((fac a:Nat):Rat)*((fac b:Nat):Rat)/((fac c:Nat):Rat)
theorem qD6 {a b c:Nat} (ha:a≤64) (hb:b≤64) (hc:c≤64):SzQ (quo a b c) 30:=((qzU ha).mul (qzU hb)).div (qzU hc)
theorem qq4 {n k:Nat} (h:n<4294967296 ^ k):(qay (n:Nat)).2.length≤k:=by
 rw[qyc];exact qcv (by simpa using h)
theorem qwG (n:Nat):wv (qay (n:Nat))=(n:Int):=by
 simp [qcs]
theorem qvN {d st sm:Int} {f:List WH} (h:Tab d st sm f) {a b c:Nat} (ha:a≤64) (hb:b≤64) (hc:c≤64) :
  qcL (a:Int) (b:Int) (c:Int) d st sm f=some (canQ (quo a b c),1,0,sm,qtm):=by
 have hl:∀ {n:Nat},n≤64→(qay (fac n:Nat)).2.length<1099511627776:=fun h=>Nat.lt_of_le_of_lt (qq4 (qxk h)) (by decide)
 have hm:qdH (qay (fac a:Nat)) (qay (fac b:Nat))=some (qay ((fac a*fac b:Nat):Int)):=by
  have:=qvx (a:=qay (fac a:Nat)) (b:=qay (fac b:Nat)) (Nat.lt_of_lt_of_le (hl ha) (by decide)) (Nat.lt_of_lt_of_le (hl hb) (by decide))
  rw[this,qwG,qwG];simp
 have hlen:(qay ((fac a*fac b:Nat):Int)).2.length<1099511627776:=by
  have h1:=qxk ha
  have h2:=qxk hb
  have:fac a*fac b<4294967296 ^ 20:=by
   have:=Nat.mul_lt_mul'' h1 h2
   rw[← Nat.pow_add] at this;exact this
  exact Nat.lt_of_le_of_lt (qq4 this) (by decide)
 have hmk:=qkp hlen (hl hc)
 rw[qwG,qwG,if_neg (by have:=qwi c;omega)] at hmk
 have hq:(((fac a*fac b:Nat):Int):Rat)/(((fac c:Nat):Int):Rat)=quo a b c:=by
  simp [quo];rfl
 rw[hq] at hmk
 rw[qcL,qDI h ha,bS0,qDI (tab1 sm) hb,bS0,hm,bS0,qDI (tab1 sm) hc,bS0,hmk,bS0]
def wq (s n:Nat):Rat:=quo s (n-s-1) n
theorem qAG {s n:Nat} (hs:s<n) (hn:n≤64):SzQ (wq s n) 30:=qD6 (by omega) (by omega) (by omega)
theorem qAr {d st sm:Int} {f:List WH} (h:Tab d st sm f) {s n:Nat} (hs:s<n) (hn:n≤64) :
  qdg (s:Int) (n:Int) d st sm f=some (canQ (wq s n),0,1,0,sm,qtm):=by
 have e1:isub .i64 (isub .i64 (n:Int) (s:Int)) 1=((n-s-1:Nat):Int):=by
  rw[qbw (x:=(n:Int)) (y:=(s:Int)) (by omega) (by omega),qbw (by omega) (by omega)];omega
 rw[qdg,cnd' (by omega),cnd' (by omega),cnd' (by omega),cnd' (by omega),e1,qvN h (by omega) (by omega) (by omega),bS0]
 rfl
def vabs (l:List RAT) (i:Nat):Rat:=rabs (vals l i)
def vsum (l:List RAT):Rat:=rsum (vabs l) l.length
def qD0 (l:List RAT) (i:Nat):Rat:=vabs l i/vsum l
def qCa (l:List RAT) (n:Nat):List RAT:=(List.range n).map fun i=>canQ (qD0 l i)
@[simp] theorem qDT (l:List RAT) (n:Nat):(qCa l n).length=n:=by simp [qCa]
section
variable {l:List RAT} (hsz:∀ x∈l,SzR x 2) (hlen:l.length≤33)
include hsz
end
theorem qt0 {l:List RAT} {k:Nat} (hs:∀ x∈l,Sm x) (hk:∀ i,i<l.length→SzQ (vals l i) k) (hl:1+l.length*(k+1)<1099511627776) (hlen:l.length<4398046511104):qjL l=some (canQ (rsum (vals l) l.length)):=by
 have hpart:∀ i,i≤l.length→Sm (canQ (rsum (vals l) i)):=by
  intro i hi
  have h1:=qy6 (f:=vals l) (k:=k) (n:=i) (fun j hj=>hk j (by omega))
  refine h1.sm (Nat.lt_of_le_of_lt ?_ hl)
  have:=Nat.mul_le_mul_right (k+1) hi
  omega
 have key:=qfu (step:=qdj) (fun i=>((l,((l.length:Nat):Int),(i:Int),()),((false,[],[],()),((canQ (rsum (vals l) i)).1.1,(canQ (rsum (vals l) i)).1.2,(canQ (rsum (vals l) i)).2,()),()))) l.length
  (r:=((),((false,[],[],()),((canQ (rsum (vals l) l.length)).1.1,(canQ (rsum (vals l) l.length)).1.2,(canQ (rsum (vals l) l.length)).2,()),()))) (by omega) (by
  intro g i hi
  have d0:(i:Int)<((l.length:Nat):Int):=by omega
  have d1:(0:Int)≤(i:Int):=by omega
  have hp:=qce (hpart i (Nat.le_of_lt hi)) (hs _ (gM0 hi))
  rw[qae,← qp3 hi] at hp
  have hp':qct (((canQ (rsum (vals l) i)).1.1,(canQ (rsum (vals l) i)).1.2),(canQ (rsum (vals l) i)).2) l[i]=some (canQ (rsum (vals l) (i+1))):=hp
  rw[qdj,cnd d0,cnd d1,tN0,gE0 hi,bS0,hp',bS0,qa4 (by omega)]
  rfl) (by
  intro g
  rw[qdj,cnd' (by omega)])
 have key':lp qdj K0 ((l,((l.length:Nat):Int),0,()),((false,[],[],()),((canQ 0).1.1,(canQ 0).1.2,(canQ 0).2,()),()))=_:=key
 rw[qjL,qea,bS0,key']
 rfl
theorem qDe {V T:Type} {step:(V→Option T)→V→Option T} (f:Nat→V) (n:Nat) (ok:Nat→Prop) (bad:Nat→T) (fin:T)
  (hs:∀ i,i<n→(ok i∧∀ g,step g (f i)=g (f (i+1)))∨(¬ ok i∧∀ g,step g (f i)=some (bad i))) (he:∀ g,step g (f n)=some fin) :
  ∀ (d i m:Nat),i+d=n→d<m→(∀ j,j<i→ok j)→((∀ i,i<n→ok i)∧lp step m (f i)=some fin)∨∃ j,j<n∧¬ ok j∧lp step m (f i)=some (bad j):=by
 intro d
 induction d with
 | zero =>
  intro i m hi hm hok
  obtain⟨m,rfl⟩:∃ k,m=k+1:=⟨m-1,by omega⟩
  have:i=n:=by omega
  subst this
  exact .inl ⟨hok,he _⟩
 | succ d ih =>
  intro i m hi hm hok
  obtain⟨m,rfl⟩:∃ k,m=k+1:=⟨m-1,by omega⟩
  rcases hs i (by omega) with ⟨h1,h2⟩ | ⟨h1,h2⟩
  · have := ih (i + 1) m (by omega) (by omega) (fun j hj => by
     by_cases e:j=i
     · subst e;exact h1
     · exact hok j (by omega))
    have e:lp step (m+1) (f i)=lp step m (f (i+1)):=h2 _
    rw[e];exact this
  · exact .inr ⟨i,by omega,h1,h2 _⟩
theorem qpR {V T:Type} {step:(V→Option T)→V→Option T} (f:Nat→V) (n:Nat) (ok:Nat→Prop) (bad:Nat→T) (fin:T) (hn:n<18446744073709551616)
  (hs:∀ i,i<n→(ok i∧∀ g,step g (f i)=g (f (i+1)))∨(¬ ok i∧∀ g,step g (f i)=some (bad i))) (he:∀ g,step g (f n)=some fin) :
  ((∀ i,i<n→ok i)∧lp step K0 (f 0)=some fin)∨∃ i,i<n∧¬ ok i∧lp step K0 (f 0)=some (bad i) :=
 qDe f n ok bad fin hs he n 0 K0 (by omega) hn (fun j h=>by omega)
abbrev qiZ (n:NODE):Bool:=n.1
abbrev qdb (n:NODE):Int:=n.2.1
abbrev nCut (n:NODE):RAT:=n.2.2.1
abbrev nL (n:NODE):Int:=n.2.2.2.1
abbrev nR (n:NODE):Int:=n.2.2.2.2.1
abbrev qE5 (n:NODE):Bool:=n.2.2.2.2.2.1
abbrev nVal (n:NODE):RAT:=n.2.2.2.2.2.2.1
abbrev nCov (n:NODE):RAT:=n.2.2.2.2.2.2.2
def NSz (n:NODE) (k:Nat):Prop:=SzR (nCut n) k∧SzR (nVal n) k∧SzR (nCov n) k
def TSz (t:List NODE) (k:Nat):Prop:=∀ n∈t,NSz n k
def qib (t:List NODE) (f:Int):Prop:=∀ i (h:i<t.length),qiZ t[i]=false→0≤qdb t[i]∧qdb t[i]<f∧1≤nL t[i]∧nL t[i]<t.length∧1≤nR t[i]∧nR t[i]<t.length
def qfz (t:List NODE):Prop:=∀ i (h:i<t.length),0<rv (nCov t[i])
def cov (t:List NODE) (i:Nat):Rat:=rv (nCov ((t[i]?).getD (false,0,((false,[]),[]),0,0,false,((false,[]),[]),((false,[]),[]))))
theorem qfb {t:List NODE} {i:Nat} (h:i<t.length):cov t i=rv (nCov t[i]):=by simp [cov,h]
def qEx (t:List NODE):Prop:=∀ i (h:i<t.length),qiZ t[i]=false→rv (nCov t[i])=cov t (nL t[i]).toNat+cov t (nR t[i]).toNat
theorem qzb {t:List NODE} {f:Int} (hl:t.length<4294967296):∃ a e,qf4 t f=some (a,e)∧(e=0 ↔ qib t f):=by
 rcases qpR (step:=qa9) (fun i=>((t,f,t,((t.length:Nat):Int),(i:Int),()),())) t.length
   (fun i=>∀ h:i<t.length,qiZ t[i]=false→0≤qdb t[i]∧qdb t[i]<f∧1≤nL t[i]∧nL t[i]<t.length∧1≤nR t[i]∧nR t[i]<t.length)
   (fun i => .inr (((i : Int), 8, ()), ())) (.inl ((), ())) (by omega) (by
    intro i hi
    have d0:(i:Int)<((t.length:Nat):Int):=by omega
    have d1:(0:Int)≤(i:Int):=by omega
    have head:∀ g,qa9 g ((t,f,t,((t.length:Nat):Int),(i:Int),()),())=bif qiZ t[i] then (g ((t,f,t,((t.length:Nat):Int),((i+1:Nat):Int),()),())) else (bif (decide (qdb t[i]<0)) then (some (.inr (((i:Int),8,()),()))) else (bif (decide (qdb t[i]≥f)) then (some (.inr (((i:Int),8,()),()))) else (bif (decide (nL t[i]<1)) then (some (.inr (((i:Int),8,()),()))) else (bif (decide (nL t[i]≥(t.length:Int))) then (some (.inr (((i:Int),8,()),()))) else (bif (decide (nR t[i]<1)) then (some (.inr (((i:Int),8,()),()))) else (bif (decide (nR t[i]≥(t.length:Int))) then (some (.inr (((i:Int),8,()),()))) else (g ((t,f,t,((t.length:Nat):Int),((i+1:Nat):Int),()),())))))))):=by
     intro g
     rw[qa9,cnd d0,cnd d1,tN0,gE0 hi,bS0,qa4 (by omega)]
     rfl
    cases hleaf:qiZ t[i] with
    | true=>exact .inl ⟨fun h h2=>absurd h2 (by rw[hleaf];decide),fun g=>by rw[head,hleaf];rfl⟩
    | false =>
     by_cases h:0≤qdb t[i]∧qdb t[i]<f∧1≤nL t[i]∧nL t[i]<t.length∧1≤nR t[i]∧nR t[i]<t.length
     · refine .inl ⟨fun _ _ => h, fun g => ?_⟩
       obtain⟨h1,h2,h3,h4,h5,h6⟩:=h
       rw[head,hleaf,cond_false,cnd' (by omega),cnd' (by omega),cnd' (by omega),cnd' (by omega),cnd' (by omega),cnd' (by omega)]
     · refine .inr ⟨fun h' => h (h' hi hleaf), fun g => ?_⟩
       rw[head,hleaf,cond_false]
       by_cases h1:qdb t[i]<0
       · rw[cnd h1]
       by_cases h2:qdb t[i]≥f
       · rw[cnd' h1,cnd h2]
       by_cases h3:nL t[i]<1
       · rw[cnd' h1,cnd' h2,cnd h3]
       by_cases h4:nL t[i]≥(t.length:Int)
       · rw[cnd' h1,cnd' h2,cnd' h3,cnd h4]
       by_cases h5:nR t[i]<1
       · rw[cnd' h1,cnd' h2,cnd' h3,cnd' h4,cnd h5]
       by_cases h6:nR t[i]≥(t.length:Int)
       · rw[cnd' h1,cnd' h2,cnd' h3,cnd' h4,cnd' h5,cnd h6]
       exfalso;apply h;omega) (by
    intro g
    rw[qa9,cnd' (by omega)]) with ⟨h,hlp⟩ | ⟨i,hi,h,hlp⟩
 · have hlp : lp qa9 K0 ((t, f, t, ((t.length : Nat) : Int), 0, ()), ()) = some (.inl ((), ())) := hlp
   refine⟨0,0,by rw[qf4,hlp];rfl,?_⟩
   exact⟨fun _ i hi=>h i hi hi,fun _=>rfl⟩
 · have hlp : lp qa9 K0 ((t, f, t, ((t.length : Nat) : Int), 0, ()), ()) = some (.inr (((i : Int), 8, ()), ())) := hlp
   refine⟨(i:Int),8,by rw[qf4,hlp];rfl,?_⟩
   exact⟨fun e=>(by cases e),fun hp=>absurd (fun hh=>hp i hh) h⟩
theorem qAb {t:List NODE} (hl:t.length<4294967296) {k:Nat} (hs:TSz t k) (hk:k<1099511627776):∃ a e,qf5 t=some (a,e)∧(e=0 ↔ qfz t):=by
 rcases qpR (step:=qba) (fun i=>((t,((t.length:Nat):Int),(i:Int),()),())) t.length (fun i=>∀ h:i<t.length,0<rv (nCov t[i]))
   (fun i => .inr (((i : Int), 12, ()), ())) (.inl ((), ())) (by omega) (by
    intro i hi
    have d0:(i:Int)<((t.length:Nat):Int):=by omega
    have d1:(0:Int)≤(i:Int):=by omega
    have hsg:=qko ((hs _ (gM0 hi)).2.2.sm hk)
    have head:∀ g,qba g ((t,((t.length:Nat):Int),(i:Int),()),())=bif decide (rcmp (rv (nCov t[i])) 0≤0) then some (.inr (((i:Int),12,()),())) else g ((t,((t.length:Nat):Int),((i+1:Nat):Int),()),()):=by
      intro g
      rw[qba,cnd d0,cnd d1,tN0,gE0 hi,bS0,hsg,bS0,qa4 (by omega)]
      rfl
    by_cases h:0<rv (nCov t[i])
    · exact .inl ⟨fun _=>h,fun g=>by rw[head,cnd' (fun h'=>Rat.not_le.2 h (qza.1 h'))]⟩
    · exact .inr ⟨fun h'=>h (h' hi),fun g=>by rw[head,cnd (qza.2 (Rat.not_lt.1 h))]⟩) (by
    intro g
    rw[qba,cnd' (by omega)]) with ⟨h,hlp⟩ | ⟨i,hi,h,hlp⟩
 · have hlp : lp qba K0 ((t, ((t.length : Nat) : Int), 0, ()), ()) = some (.inl ((), ())) := hlp
   exact⟨0,0,by rw[qf5,hlp];rfl,fun _ i hi=>h i hi hi,fun _=>rfl⟩
 · have hlp : lp qba K0 ((t, ((t.length : Nat) : Int), 0, ()), ()) = some (.inr (((i : Int), 12, ()), ())) := hlp
   exact⟨(i:Int),12,by rw[qf5,hlp];rfl,fun e=>(by cases e),fun hp=>absurd (fun hh=>hp i hh) h⟩
theorem qCG {t:List NODE} {f:Int} (hl:t.length<4294967296) {k:Nat} (hs:TSz t k) (hk:k<500000000000) (hr:qib t f):∃ a e,qix t=some (a,e)∧(e=0 ↔ qEx t):=by
 rcases qpR (step:=qby) (fun i=>((t,t,((t.length:Nat):Int),(i:Int),()),())) t.length (fun i=>∀ h:i<t.length,qiZ t[i]=false→rv (nCov t[i])=cov t (nL t[i]).toNat+cov t (nR t[i]).toNat)
   (fun i => .inr (((i : Int), 13, ()), ())) (.inl ((), ())) (by omega) (by
    intro i hi
    have d0:(i:Int)<((t.length:Nat):Int):=by omega
    have d1:(0:Int)≤(i:Int):=by omega
    cases hleaf:qiZ t[i] with
    | true =>
     refine .inl ⟨fun h h2=>absurd h2 (by rw[hleaf];decide),fun g=>?_⟩
     rw[qby,cnd d0,cnd d1,tN0,gE0 hi,bS0,show t[i].1=true from hleaf,qa4 (by omega)]
     rfl
    | false =>
     obtain⟨r1,r2,r3,r4,r5,r6⟩:=hr i hi hleaf
     have l1:(nL t[i]).toNat<t.length:=by omega
     have l2:(nR t[i]).toNat<t.length:=by omega
     have c1:(0:Int)≤nL t[i]:=by omega
     have c2:(0:Int)≤nR t[i]:=by omega
     have z1:=(hs _ (gM0 l1)).2.2
     have z2:=(hs _ (gM0 l2)).2.2
     have z0:=(hs _ (gM0 hi)).2.2
     have hadd:=qce (z1.sm (by omega)) (z2.sm (by omega))
     rw[← qfb l1,← qfb l2] at hadd
     have zz:SzQ (cov t (nL t[i]).toNat+cov t (nR t[i]).toNat) (max k 1+max k 1+1):=by
       rw[qfb l1,qfb l2]
       have y1:SzR (nCov t[(nL t[i]).toNat]) (max k 1):=⟨Nat.le_trans z1.1 (Nat.le_max_left _ _),Nat.le_trans z1.2 (Nat.le_max_left _ _)⟩
       have y2:SzR (nCov t[(nR t[i]).toNat]) (max k 1):=⟨Nat.le_trans z2.1 (Nat.le_max_left _ _),Nat.le_trans z2.2 (Nat.le_max_left _ _)⟩
       exact(y1.szQ (by omega)).add (y2.szQ (by omega))
     have hsame:=qsR (z0.sm (by omega)) (zz.sm (by omega))
     rw[qae] at hsame
     have head:∀ g,qby g ((t,t,((t.length:Nat):Int),(i:Int),()),())=bif (!decide (rv (nCov t[i])=cov t (nL t[i]).toNat+cov t (nR t[i]).toNat)) then some (.inr (((i:Int),13,()),())) else g ((t,t,((t.length:Nat):Int),((i+1:Nat):Int),()),()):=by
       intro g
       rw[qby,cnd d0,cnd d1,tN0,gE0 hi,bS0,show t[i].1=false from hleaf,Bool.not_false,cond_true,cnd c1,gE0 l1,bS0,cnd c2,gE0 l2,bS0,hadd,bS0,hsame,bS0,qa4 (by omega)]
       rfl
     by_cases h:rv (nCov t[i])=cov t (nL t[i]).toNat+cov t (nR t[i]).toNat
     · exact .inl ⟨fun _ _=>h,fun g=>by rw[head,decide_eq_true h];rfl⟩
     · exact .inr ⟨fun h'=>h (h' hi hleaf),fun g=>by rw[head,decide_eq_false h];rfl⟩) (by
    intro g
    rw[qby,cnd' (by omega)]) with ⟨h,hlp⟩ | ⟨i,hi,h,hlp⟩
 · have hlp : lp qby K0 ((t, t, ((t.length : Nat) : Int), 0, ()), ()) = some (.inl ((), ())) := hlp
   exact⟨0,0,by rw[qix,hlp];rfl,fun _ i hi=>h i hi hi,fun _=>rfl⟩
 · have hlp : lp qby K0 ((t, t, ((t.length : Nat) : Int), 0, ()), ()) = some (.inr (((i : Int), 13, ()), ())) := hlp
   exact⟨(i:Int),13,by rw[qix,hlp];rfl,fun e=>(by cases e),fun hp=>absurd (fun hh=>hp i hh) h⟩
def kids (t:List NODE) (i:Nat):List Nat :=
 match t[i]? with
 | some n=>if qiZ n then [] else [(nL n).toNat,(nR n).toNat]
 | none=>[]
theorem qq9 {t:List NODE} {i:Nat} (h:i<t.length) (hl:qiZ t[i]=true):kids t i=[]:=by
 have hl':t[i].1=true:=hl
 simp [kids,h,hl']
theorem qhs {t:List NODE} {i:Nat} (h:i<t.length) (hl:qiZ t[i]=false):kids t i=[(nL t[i]).toNat,(nR t[i]).toNat]:=by
 have hl':t[i].1=false:=hl
 simp [kids,h,hl']
def cnt (t:List NODE) (i j:Nat):Nat:=((List.range i).flatMap (kids t)).count j
theorem qxq (t:List NODE) (j:Nat):cnt t 0 j=0:=by simp [cnt]
theorem qoy (t:List NODE) (i j:Nat):cnt t (i+1) j=cnt t i j+(kids t i).count j:=by
 simp [cnt,List.range_succ,List.flatMap_append]
theorem qCp (t:List NODE) (i j:Nat):cnt t i j≤2*i:=by
 induction i with
 | zero=>simp [qxq]
 | succ i ih =>
  rw[qoy]
  have h1:(kids t i).count j≤(kids t i).length:=List.count_le_length
  have h2:(kids t i).length≤2:=by
   unfold kids
   split
   · split<;>simp
   · simp
  omega
def qxx (t:List NODE):Prop:=∃ rk:Nat→Nat,∀ i,i<t.length→rk i≤t.length∧∀ c∈kids t i,rk c<rk i
def qsq (t:List NODE):Prop:=(∀ j,0<j→j<t.length→cnt t t.length j=1)∧qxx t
theorem qlu:∀ {n:Nat} {V:List Nat},V.Nodup→(∀ x∈V,x<n)→V.length≤n
 | 0,V,_,h=>by
  cases V with
  | nil=>simp
  | cons x V=>have:=h x List.mem_cons_self;omega
 | n+1,V,hnd,h=>by
  by_cases hm:n∈V
  · have h1 : (V.erase n).Nodup := hnd.sublist List.erase_sublist
    have h2:∀ x∈V.erase n,x<n:=by
     intro x hx
     have:=(List.Nodup.mem_erase_iff hnd).1 hx
     have:=h x this.2
     omega
    have h3:=qlu h1 h2
    have h4:=List.length_erase_of_mem hm
    omega
  · have := qlu hnd (n := n) (fun x hx => by
     have:=h x hx
     have:x≠n:=fun e=>hm (e ▸ hx)
     omega)
    omega
section
variable {t:List NODE} {f:Int}
theorem qtg (hr:qib t f) {i c:Nat} (hi:i<t.length) (hc:c∈kids t i):0<c∧c<t.length:=by
 cases hl:qiZ t[i] with
 | true=>rw[qq9 hi hl] at hc;cases hc
 | false =>
  obtain⟨_,_,h1,h2,h3,h4⟩:=hr i hi hl
  rw[qhs hi hl] at hc
  simp at hc
  rcases hc with rfl | rfl<;>omega
theorem qvk (t:List NODE) (j:Nat) {a n:Nat} (ha:a<n):(kids t a).count j≤cnt t n j:=by
 induction n with
 | zero=>omega
 | succ n ih =>
  rw[qoy]
  by_cases e:a=n
  · subst e;omega
  · have:=ih (by omega);omega
theorem qAc (t:List NODE) (j:Nat) {a b n:Nat} (hab:a<b) (hb:b<n):(kids t a).count j+(kids t b).count j≤cnt t n j:=by
 induction n with
 | zero=>omega
 | succ n ih =>
  rw[qoy]
  by_cases e:b=n
  · subst e
    have:=qvk t j hab
    omega
  · have:=ih (by omega);omega
theorem qxP (hc:∀ j,0<j→j<t.length→cnt t t.length j=1) (hr:qib t f) {a b j:Nat} (ha:a<t.length) (hb:b<t.length) (h1:j∈kids t a) (h2:j∈kids t b):a=b:=by
 obtain⟨j0,jl⟩:=qtg hr ha h1
 have c1:=List.count_pos_iff.2 h1
 have c2:=List.count_pos_iff.2 h2
 have:=hc j j0 jl
 rcases Nat.lt_trichotomy a b with h | h | h
 · have:=qAc t j h hb;omega
 · exact h
 · have:=qAc t j h ha;omega
theorem qyj (hc:∀ j,0<j→j<t.length→cnt t t.length j=1) (hr:qib t f) {a:Nat} (ha:a<t.length):(kids t a).Nodup:=by
 rw[List.nodup_iff_count]
 intro j
 by_cases hj:j∈kids t a
 · obtain ⟨j0, jl⟩ := qtg hr ha hj
   have h1:=qvk t j ha
   have h2:=hc j j0 jl
   exact Nat.le_trans h1 (Nat.le_of_eq h2)
 · rw[List.count_eq_zero_of_not_mem hj];omega
theorem qkd (hc:∀ j,0<j→j<t.length→cnt t t.length j=1) {j:Nat} (h0:0<j) (hj:j<t.length):∃ p,p<t.length∧j∈kids t p:=by
 have h1:=hc j h0 hj
 have h2:j∈(List.range t.length).flatMap (kids t):=List.count_pos_iff.1 (by rw[← cnt,h1];omega)
 obtain⟨p,hp,hm⟩:=List.mem_flatMap.1 h2
 exact⟨p,by simpa using hp,hm⟩
end
structure Srch (t:List NODE) (V S:List Nat):Prop where
 nd:(V++S).Nodup
 lt:∀ x∈V++S,x<t.length
 par:∀ c∈V++S,c≠0→∃ p∈V,c∈kids t p
 kid:∀ p∈V,∀ c∈kids t p,c∈V++S
 root:0∈V++S
 ord:V.Pairwise fun a b=>a ∉ kids t b
 self:∀ x∈V,x ∉ kids t x
theorem Srch.init {t:List NODE} (h:0<t.length):Srch t [] [0] where
 nd:=by simp
 lt:=by simpa using h
 par:=by simp
 kid:=by simp
 root:=by simp
 ord:=List.Pairwise.nil
 self:=by simp
theorem Srch.step {t:List NODE} {f:Int} (hc:∀ j,0<j→j<t.length→cnt t t.length j=1) (hr:qib t f) {V S:List Nat} {x:Nat} (h:Srch t V (S++[x])):Srch t (V++[x]) (S++kids t x):=by
 have hxlt:x<t.length:=h.lt x (by simp)
 have hnd:=h.nd
 rw[← List.append_assoc,List.nodup_append] at hnd
 obtain⟨n1,n2,n3⟩:=hnd
 have hxVS:x ∉ V++S:=fun hx=>n3 x hx x (by simp) rfl
 have hnew:∀ c∈kids t x,c ∉ V++(S++[x]):=by
   intro c hcx hmem
   obtain⟨c0,cl⟩:=qtg hr hxlt hcx
   obtain⟨p,hp,hcp⟩:=h.par c hmem (by omega)
   have:=qxP hc hr (h.lt p (List.mem_append_left _ hp)) hxlt hcp hcx
   subst this
   exact hxVS (List.mem_append_left _ hp)
 have hperm:((V++[x])++(S++kids t x)).Perm ((V++(S++[x]))++kids t x):=by
   have e1:(V++[x])++(S++kids t x)=V++([x]++S)++kids t x:=by simp
   have e2:(V++(S++[x]))++kids t x=V++(S++[x])++kids t x:=rfl
   rw[e1,e2]
   exact List.Perm.append_right _ (List.Perm.append_left _ List.perm_append_comm)
 have hmem:∀ y,y∈(V++[x])++(S++kids t x) ↔ y∈V++(S++[x])∨y∈kids t x:=by
   intro y;rw[hperm.mem_iff,List.mem_append]
 refine⟨?_,?_,?_,?_,?_,?_,?_⟩
 · rw [hperm.nodup_iff, List.nodup_append]
   exact⟨h.nd,qyj hc hr hxlt,fun a ha b hb e=>hnew b hb (e ▸ ha)⟩
 · intro y hy
   rcases(hmem y).1 hy with hy | hy
   · exact h.lt y hy
   · exact(qtg hr hxlt hy).2
 · intro c hcm hc0
   rcases(hmem c).1 hcm with hy | hy
   · obtain ⟨p, hp, hcp⟩ := h.par c hy hc0
     exact⟨p,List.mem_append_left _ hp,hcp⟩
   · exact⟨x,by simp,hy⟩
 · intro p hp c hcp
   rw[hmem]
   rcases List.mem_append.1 hp with hp | hp
   · exact .inl (h.kid p hp c hcp)
   · simp at hp;subst hp;exact .inr hcp
 · rw[hmem];exact .inl h.root
 · rw [List.pairwise_append]
   refine⟨h.ord,by simp,fun a ha b hb=>?_⟩
   simp at hb;subst hb
   intro hak
   exact hnew a hak (List.mem_append_left _ ha)
 · intro y hy
   rcases List.mem_append.1 hy with hy | hy
   · exact h.self y hy
   · simp at hy; subst hy
     intro hk
     exact hnew y hk (by simp)
theorem Srch.ranked {t:List NODE} {V:List Nat} (h:Srch t V []) (hall:∀ i,i<t.length→i∈V):qxx t:=by
 have hnd:V.Nodup:=by simpa using h.nd
 have hlen:V.length≤t.length:=qlu hnd (fun x hx=>h.lt x (by simpa using hx))
 refine⟨fun i=>V.length-V.idxOf i,fun i hi=>⟨by show V.length-V.idxOf i≤t.length;omega,fun c hc=>?_⟩⟩
 have hiV:=hall i hi
 have hcV:c∈V:=by simpa using h.kid i hiV c hc
 have h1:V.idxOf i<V.length:=List.idxOf_lt_length_iff.2 hiV
 have h2:V.idxOf c<V.length:=List.idxOf_lt_length_iff.2 hcV
 have g1:V[V.idxOf i]=i:=List.getElem_idxOf h1
 have g2:V[V.idxOf c]=c:=List.getElem_idxOf h2
 have hne:¬ V.idxOf c≤V.idxOf i:=by
  intro hle
  by_cases e:V.idxOf c=V.idxOf i
  · have : c = i := by rw [← g1, ← g2]; simp [e]
    subst this
    exact h.self c hiV hc
  · have := List.pairwise_iff_getElem.1 h.ord _ _ h2 h1 (by omega)
    rw[g1,g2] at this
    exact this hc
 show V.length-V.idxOf c<V.length-V.idxOf i
 omega
theorem Srch.all {t:List NODE} {V:List Nat} (h:Srch t V []) (hc:∀ j,0<j→j<t.length→cnt t t.length j=1) (hrk:qxx t):∀ i,i<t.length→i∈V:=by
 obtain⟨rk,hrk⟩:=hrk
 have key:∀ (d i:Nat),i<t.length→t.length-rk i≤d→i∈V:=by
  intro d
  induction d with
  | zero =>
   intro i hi hd
   by_cases h0:i=0
   · subst h0;simpa using h.root
   · obtain ⟨p, hp, hm⟩ := qkd hc (by omega) hi
     have h1:=(hrk p hp).1
     have h2:=(hrk p hp).2 i hm
     omega
  | succ d ih =>
   intro i hi hd
   by_cases h0:i=0
   · subst h0;simpa using h.root
   · obtain ⟨p, hp, hm⟩ := qkd hc (by omega) hi
     have h1:=(hrk p hp).1
     have h2:=(hrk p hp).2 i hm
     have:=ih p hp (by omega)
     simpa using h.kid p this i hm
 exact fun i hi=>key _ i hi (Nat.le_refl _)
def cntL (t:List NODE) (i:Nat):List Int:=(List.range t.length).map fun j=>((cnt t i j:Nat):Int)
@[simp] theorem qqe (t:List NODE) (i:Nat):(cntL t i).length=t.length:=by simp [cntL]
theorem qkQ {t:List NODE} {i j:Nat} (h:j<t.length):(cntL t i)[j]?=some ((cnt t i j:Nat):Int):=by simp [cntL,h]
theorem qAd {t:List NODE} {i a b:Nat} (ha:a<t.length) (hb:b<t.length) (hk:kids t i=[a,b]) :
   ((cntL t i).set a (((cnt t i a:Nat):Int)+1))[b]?=some ((cnt t i b+(if a=b then 1 else 0):Nat):Int) ∧
   ((cntL t i).set a (((cnt t i a:Nat):Int)+1)).set b (((cnt t i b+(if a=b then 1 else 0):Nat):Int)+1)=cntL t (i+1):=by
 constructor
 · rw [List.getElem?_set]
   by_cases e:a=b
   · subst e;simp [ha]
   · rw[if_neg e,qkQ hb];simp [e]
 · apply List.ext_getElem?
   intro j
   by_cases hj:j<t.length
   · rw [qkQ hj, qoy, hk, List.getElem?_set, List.getElem?_set]
     by_cases e1:b=j
     · subst e1
       by_cases e2:a=b
       · subst e2;simp [ha];omega
       · simp [hb,e2,List.count_cons]
     · by_cases e2 : a = j
       · subst e2;simp [ha,e1,List.count_cons]
       · rw[if_neg e1,if_neg e2,qkQ hj];simp [List.count_cons,e1,e2]
   · rw[List.getElem?_eq_none (by simp;omega),List.getElem?_eq_none (by simp;omega)]
theorem qvC {t:List NODE} {f:Int} (hl:t.length<4294967296) (hr:qib t f) :
  lp qbU K0 ((t,List.replicate t.length 0,t,((t.length:Nat):Int),0,()),())=some ((t,cntL t t.length,()),()):=by
 have e0:cntL t 0=List.replicate t.length 0:=by simp [cntL,qxq,List.map_const']
 have:=qfu (step:=qbU) (fun i=>((t,cntL t i,t,((t.length:Nat):Int),(i:Int),()),())) t.length (r:=((t,cntL t t.length,()),())) (by omega) (by
  intro g i hi
  have d0:(i:Int)<((t.length:Nat):Int):=by omega
  have d1:(0:Int)≤(i:Int):=by omega
  cases hleaf:qiZ t[i] with
  | true =>
   have:cntL t (i+1)=cntL t i:=by
    unfold cntL
    congr 1
    funext j
    rw[qoy,qq9 hi hleaf];simp
   rw[qbU,cnd d0,cnd d1,tN0,gE0 hi,bS0,show t[i].1=true from hleaf,qa4 (by omega),this]
   rfl
  | false =>
   obtain⟨r1,r2,r3,r4,r5,r6⟩:=hr i hi hleaf
   have hk:=qhs hi hleaf
   have l1:(nL t[i]).toNat<t.length:=by omega
   have l2:(nR t[i]).toNat<t.length:=by omega
   have c1:(0:Int)≤nL t[i]:=by omega
   have c2:(0:Int)≤nR t[i]:=by omega
   have c3:nL t[i]<((cntL t i).length:Int):=by rw[qqe];omega
   obtain⟨s1,s2⟩:=qAd l1 l2 hk
   have b1:=qCp t i (nL t[i]).toNat
   have b2:=qCp t i (nR t[i]).toNat
   have e1:iadd .i64 ((cnt t i (nL t[i]).toNat:Nat):Int) 1=((cnt t i (nL t[i]).toNat:Nat):Int)+1:=qa4 (by omega)
   have e2:iadd .i64 ((cnt t i (nR t[i]).toNat+(if (nL t[i]).toNat=(nR t[i]).toNat then 1 else 0):Nat):Int) 1=((cnt t i (nR t[i]).toNat+(if (nL t[i]).toNat=(nR t[i]).toNat then 1 else 0):Nat):Int)+1:=qa4 (by split<;>omega)
   have c4:nR t[i]<(((cntL t i).set (nL t[i]).toNat (((cnt t i (nL t[i]).toNat:Nat):Int)+1)).length:Int):=by rw[List.length_set,qqe];omega
   rw[qbU,cnd d0,cnd d1,tN0,gE0 hi,bS0,show t[i].1=false from hleaf,Bool.not_false,cond_true,cnd2 c1 c3,qkQ l1,bS0,cnd2 c1 c3,bS0,e1,cnd2 c2 c4,s1,bS0,cnd2 c2 c4,bS0,e2,s2,qa4 (by omega)]
   rfl) (by
  intro g
  rw[qbU,cnd' (by omega)])
 rw[← e0]
 exact this
theorem qtU {t:List NODE} {f:Int} (hl:t.length<4294967296) (h0:0<t.length) (hr:qib t f) (hc:∀ j,0<j→j<t.length→cnt t t.length j=1) :
  ∃ V,Srch t V []∧lp qbV K0 ((t,List.replicate t.length false,[0],()),())=some ((qfD t.length V,()),()):=by
 obtain⟨r,⟨V,hV,rfl⟩,hlp⟩:=qk9 (step:=qbV) (fun s=>∃ V S:List Nat,Srch t V S∧s=((t,qfD t.length V,ints S,()),())) (fun s=>t.length+1-(s.1.2.1.filter id).length)
  (fun r=>∃ V,Srch t V []∧r=((qfD t.length V,()),())) (v:=((t,List.replicate t.length false,[0],()),()))
  ⟨[], [0], Srch.init h0, by simp [qfD, ints, List.map_const']⟩ (by simp; omega) (by
   rintro s ⟨V,S,hS,rfl⟩
   rcases List.eq_nil_or_concat S with rfl | ⟨S',x,hSx⟩
   · exact .inl ⟨_,⟨V,hS,rfl⟩,fun g=>by rw[qbV,cnd' (by simp [ints])]⟩
   · rw [List.concat_eq_append] at hSx
     subst hSx
     have hnd:=hS.nd
     have hVl:(V++(S'++[x])).length≤t.length:=qlu hnd hS.lt
     have hSl:S'.length+1≤t.length:=by simp at hVl;omega
     have hxlt:x<t.length:=hS.lt x (by simp)
     have hst:=Srch.step hc hr hS
     have hxV:x ∉ V:=by
       intro hx
       rw[List.nodup_append] at hnd
       exact hnd.2.2 x hx x (by simp) rfl
     have hcount:∀ U:List Nat,U.Nodup→(∀ y∈U,y<t.length)→((qfD t.length U).filter id).length=U.length:=by
       intro U hU hlt
       have e1:((qfD t.length U).filter id).length=((List.range t.length).filter fun j=>decide (j∈U)).length:=by
         unfold qfD
         rw[List.filter_map,List.length_map];rfl
       rw[e1]
       refine List.Perm.length_eq ?_
       rw[List.perm_iff_count]
       intro a
       have n1:((List.range t.length).filter fun j=>decide (j∈U)).Nodup:=List.Nodup.sublist List.filter_sublist List.nodup_range
       have m1:a∈((List.range t.length).filter fun j=>decide (j∈U)) ↔ a∈U:=by
         simp;exact hlt a
       by_cases ha:a∈U
       · rw[List.Nodup.count hU,if_pos ha,List.Nodup.count n1,if_pos (m1.2 ha)]
       · rw[List.count_eq_zero_of_not_mem ha,List.count_eq_zero_of_not_mem (fun h=>ha (m1.1 h))]
     have hVnd:V.Nodup:=(List.nodup_append.1 hnd).1
     have hm1:=hcount V hVnd (fun y hy=>hS.lt y (List.mem_append_left _ hy))
     have hVx:(V++[x]).Nodup:=(List.nodup_append.1 hst.nd).1
     have hm2:=hcount (V++[x]) hVx (fun y hy=>hst.lt y (List.mem_append_left _ hy))
     refine .inr ⟨_,⟨V++[x],S'++kids t x,hst,rfl⟩,?_,fun g=>?_⟩
     · show t.length + 1 - ((qfD t.length (V ++ [x])).filter id).length < t.length + 1 - ((qfD t.length V).filter id).length
       rw[hm1,hm2]
       simp at hVl ⊢;omega
     · have hlen : (ints (S' ++ [x])).length = S'.length + 1 := by simp
       have e1:isub .i64 ((S'.length+1:Nat):Int) 1=((S'.length:Nat):Int):=by rw[qbw]<;>omega
       have c0:((S'.length+1:Nat):Int)>0:=by omega
       have c1:(0:Int)≤((S'.length:Nat):Int):=by omega
       have c2:((S'.length:Nat):Int)<((S'.length+1:Nat):Int):=by omega
       have g1:(ints (S'++[x]))[S'.length]?=some ((x:Nat):Int):=by simp [ints]
       have c3:(decide ((0:Int)≤((S'.length:Nat):Int))&&decide (((S'.length:Nat):Int)≤((S'.length:Nat):Int))&&decide (((S'.length:Nat):Int)≤((S'.length+1:Nat):Int)))=true:=by
         rw[decide_eq_true c1,decide_eq_true (Int.le_refl _),decide_eq_true (Int.le_of_lt c2)];rfl
       have c4:(0:Int)≤((x:Nat):Int):=by omega
       have c5:((x:Nat):Int)<((qfD t.length V).length:Int):=by simp;omega
       have e2:(((S'.length:Nat):Int)-0).toNat=S'.length:=by omega
       have e3:(ints (S'++[x])).take S'.length=ints S':=by simp [ints]
       rw[qbV,hlen,cnd c0,e1,cnd2 c1 c2,tN0,g1,bS0,c3,cond_true,cnd2 c4 c5,tN0,qjD hxlt,bS0,cnd c4,gE0 hxlt,bS0,qxC hxlt,e2,e3]
       cases hleaf:qiZ t[x] with
       | true =>
         rw[show t[x].1=true from hleaf,qq9 hxlt hleaf,List.append_nil]
         rfl
       | false =>
         obtain⟨r1,r2,r3,r4,r5,r6⟩:=hr x hxlt hleaf
         have q1:(((nL t[x]).toNat:Nat):Int)=nL t[x]:=by omega
         have q2:(((nR t[x]).toNat:Nat):Int)=nR t[x]:=by omega
         have e4:ints (S'++kids t x)=ints S'++[nL t[x],nR t[x]]:=by
          rw[qhs hxlt hleaf]
          simp only[ints,List.map_append,List.map_cons,List.map_nil,q1,q2]
         have hb8:((ints S').length+2)*8≤140737488355328:=by rw[qBr];omega
         rw[show t[x].1=false from hleaf,blt hb8,cond_true,Bool.not_false,cond_true,e4])
 exact⟨V,hV,hlp⟩
theorem qAP {t:List NODE} {f:Int} (hl:t.length<4294967296) (h0:0<t.length) (hr:qib t f):∃ a e,qiJ t=some (a,e)∧(e=0 ↔ qsq t):=by
 have hcount:=qvC hl hr
 have gd:(decide ((t.length:Int)=(t.length:Int))&&decide (0≤(t.length:Int))&&decide (((8:Nat):Int)*(t.length:Int)≤281474976710656)&&decide ((t.length:Int)≤9223372036854775807))=true:=by
   have h1:(0:Int)≤(t.length:Int):=by omega
   have h2:((8:Nat):Int)*(t.length:Int)≤281474976710656:=by omega
   have h3:(t.length:Int)≤9223372036854775807:=by omega
   rw[decide_eq_true h1,decide_eq_true h2,decide_eq_true h3,decide_eq_true rfl];rfl
 have gd1:(decide ((t.length:Int)=(t.length:Int))&&decide (0≤(t.length:Int))&&decide (((1:Nat):Int)*(t.length:Int)≤281474976710656)&&decide ((t.length:Int)≤9223372036854775807))=true:=by
   have h1:(0:Int)≤(t.length:Int):=by omega
   have h2:((1:Nat):Int)*(t.length:Int)≤281474976710656:=by omega
   have h3:(t.length:Int)≤9223372036854775807:=by omega
   rw[decide_eq_true h1,decide_eq_true h2,decide_eq_true h3,decide_eq_true rfl];rfl
 rw[qiJ,gd,cond_true,tN0,hcount,bS0,qqe]
 rcases qpR (step:=qaW) (fun i=>((t,cntL t t.length,((t.length:Nat):Int),(i:Int),()),())) t.length (fun i=>i=0∨cnt t t.length i=1) (fun i=>.inr (((i:Int),11,()),())) (.inl ((t,()),())) (by omega) (by
     intro i hi
     have d0:(i:Int)<((t.length:Nat):Int):=by omega
     have d1:(0:Int)≤(i:Int):=by omega
     have d2:(i:Int)<((cntL t t.length).length:Int):=by rw[qqe];omega
     by_cases hi0:i=0
     · refine .inl ⟨.inl hi0, fun g => ?_⟩
       rw[qaW,cnd d0,cnd2 d1 d2,tN0,qkQ hi,bS0,cnd' (by omega),qa4 (by omega)]
       rfl
     · by_cases h1 : cnt t t.length i = 1
       · refine .inl ⟨.inr h1, fun g => ?_⟩
         rw[qaW,cnd d0,cnd2 d1 d2,tN0,qkQ hi,bS0,cnd (by omega),decide_eq_true (by omega),qa4 (by omega)]
         rfl
       · refine .inr ⟨fun h => by rcases h with h | h <;> contradiction, fun g => ?_⟩
         rw[qaW,cnd d0,cnd2 d1 d2,tN0,qkQ hi,bS0,cnd (by omega),decide_eq_false (by omega)]
         rfl) (by
     intro g
     rw[qaW,cnd' (by omega)]) with ⟨h,hlp⟩ | ⟨i,hi,h,hlp⟩
 · have hlp : lp qaW K0 ((t, cntL t t.length, ((t.length : Nat) : Int), 0, ()), ()) = some (.inl ((t, ()), ())) := hlp
   have hc:∀ j,0<j→j<t.length→cnt t t.length j=1:=fun j h1 h2=>by
     rcases h j h2 with h3 | h3
     · omega
     · exact h3
   obtain⟨V,hV,hlp2⟩:=qtU hl h0 hr hc
   rw[hlp,bS0]
   dsimp only
   rw[gd1,cond_true,tN0,hlp2,bS0]
   dsimp only
   rw[qrZ]
   rcases qpR (step:=qa8) (fun i=>((qfD t.length V,((t.length:Nat):Int),(i:Int),()),())) t.length (fun i=>i∈V) (fun i=>.inr (((i:Int),11,()),())) (.inl ((),())) (by omega) (by
       intro i hi
       have d0:(i:Int)<((t.length:Nat):Int):=by omega
       have d1:(0:Int)≤(i:Int):=by omega
       have d2:(i:Int)<((qfD t.length V).length:Int):=by rw[qrZ];omega
       by_cases hiV:i∈V
       · refine .inl ⟨hiV, fun g => ?_⟩
         rw[qa8,cnd d0,cnd2 d1 d2,tN0,qjD hi,bS0,decide_eq_true hiV,qa4 (by omega)]
         rfl
       · refine .inr ⟨hiV, fun g => ?_⟩
         rw[qa8,cnd d0,cnd2 d1 d2,tN0,qjD hi,bS0,decide_eq_false hiV]
         rfl) (by
       intro g
       rw[qa8,cnd' (by omega)]) with ⟨h2,hlp3⟩ | ⟨i,hi,h2,hlp3⟩
   · have hlp3 : lp qa8 K0 ((qfD t.length V, ((t.length : Nat) : Int), 0, ()), ()) = some (.inl ((), ())) := hlp3
     rw[hlp3]
     exact⟨0,0,rfl,fun _=>⟨hc,hV.ranked h2⟩,fun _=>rfl⟩
   · have hlp3 : lp qa8 K0 ((qfD t.length V, ((t.length : Nat) : Int), 0, ()), ()) = some (.inr (((i : Int), 11, ()), ())) := hlp3
     rw[hlp3]
     exact⟨(i:Int),11,rfl,fun e=>(by cases e),fun hp=>absurd (hV.all hc hp.2 i hi) h2⟩
 · have hlp : lp qaW K0 ((t, cntL t t.length, ((t.length : Nat) : Int), 0, ()), ()) = some (.inr (((i : Int), 11, ()), ())) := hlp
   rw[hlp]
   refine⟨(i:Int),11,rfl,fun e=>(by cases e),fun hp=>?_⟩
   exfalso;apply h
   by_cases hi0:i=0
   · exact .inl hi0
   · exact .inr (hp.1 i (by omega) hi)
theorem qBe {V T:Type} {step:(V→Option T)→V→Option T} (f:Nat→V) (n:Nat) (ok:Nat→Prop) (Q:T→Prop) (fin:T)
  (hs:∀ i,i<n→(∀ j,j<i→ok j)→(ok i∧∀ g,step g (f i)=g (f (i+1)))∨(¬ ok i∧∃ r,Q r∧∀ g,step g (f i)=some r)) (he:∀ g,step g (f n)=some fin) :
  ∀ (d i m:Nat),i+d=n→d<m→(∀ j,j<i→ok j)→((∀ i,i<n→ok i)∧lp step m (f i)=some fin)∨(¬ (∀ i,i<n→ok i)∧∃ r,Q r∧lp step m (f i)=some r):=by
 intro d
 induction d with
 | zero =>
  intro i m hi hm hok
  obtain⟨m,rfl⟩:∃ k,m=k+1:=⟨m-1,by omega⟩
  have:i=n:=by omega
  subst this
  exact .inl ⟨hok,he _⟩
 | succ d ih =>
  intro i m hi hm hok
  obtain⟨m,rfl⟩:∃ k,m=k+1:=⟨m-1,by omega⟩
  rcases hs i (by omega) hok with ⟨h1,h2⟩ | ⟨h1,r,h2,h3⟩
  · have := ih (i + 1) m (by omega) (by omega) (fun j hj => by
     by_cases e:j=i
     · subst e;exact h1
     · exact hok j (by omega))
    have e:lp step (m+1) (f i)=lp step m (f (i+1)):=h2 _
    rw[e];exact this
  · exact .inr ⟨fun h=>h1 (h i (by omega)),r,h2,h3 _⟩
theorem qDd {V T:Type} {step:(V→Option T)→V→Option T} (f:Nat→V) (n:Nat) (ok:Nat→Prop) (Q:T→Prop) (fin:T) (hn:n<18446744073709551616)
  (hs:∀ i,i<n→(∀ j,j<i→ok j)→(ok i∧∀ g,step g (f i)=g (f (i+1)))∨(¬ ok i∧∃ r,Q r∧∀ g,step g (f i)=some r)) (he:∀ g,step g (f n)=some fin) :
  ((∀ i,i<n→ok i)∧lp step K0 (f 0)=some fin)∨(¬ (∀ i,i<n→ok i)∧∃ r,Q r∧lp step K0 (f 0)=some r) :=
 qBe f n ok Q fin hs he n 0 K0 (by omega) hn (fun j h=>by omega)
def qmy (n:NODE):Prop:=0≤qdb n∧qdb n≤64∧0≤nL n∧nL n≤255∧0≤nR n∧nR n≤255
def qxw (t:List NODE):Prop:=1≤t.length∧t.length≤255∧∀ i (h:i<t.length),qmy t[i]
def qBY (m:qbf):Prop:=0≤m.1∧m.1≤64∧m.2.length≤64∧∀ i (h:i<m.2.length),qxw m.2[i]
theorem qyn (a:List (List NODE)) (b c:Int) {t:List NODE} (hl:t.length<4294967296) :
   ((∀ i (h:i<t.length),qmy t[i])∧lp qb5 K0 ((a,b,c,t,((t.length:Nat):Int),0,()),())=some (.inl ((a,b,c,()),()))) ∨
   (¬ (∀ i (h:i<t.length),qmy t[i])∧lp qb5 K0 ((a,b,c,t,((t.length:Nat):Int),0,()),())=some (.inr ((false,()),()))):=by
 rcases qpR (step:=qb5) (fun i=>((a,b,c,t,((t.length:Nat):Int),(i:Int),()),())) t.length (fun i=>∀ h:i<t.length,qmy t[i]) (fun i=>.inr ((false,()),())) (.inl ((a,b,c,()),())) (by omega) (by
    intro i hi
    have d0:(i:Int)<((t.length:Nat):Int):=by omega
    have d1:(0:Int)≤(i:Int):=by omega
    have head:∀ g,qb5 g ((a,b,c,t,((t.length:Nat):Int),(i:Int),()),())=bif (decide (qdb t[i]<0)) then (some (.inr ((false,()),()))) else (bif (decide (qdb t[i]>64)) then (some (.inr ((false,()),()))) else (bif (decide (nL t[i]<0)) then (some (.inr ((false,()),()))) else (bif (decide (nL t[i]>255)) then (some (.inr ((false,()),()))) else (bif (decide (nR t[i]<0)) then (some (.inr ((false,()),()))) else (bif (decide (nR t[i]>255)) then (some (.inr ((false,()),()))) else (g ((a,b,c,t,((t.length:Nat):Int),((i+1:Nat):Int),()),()))))))):=by
      intro g
      rw[qb5,cnd d0,cnd d1,tN0,gE0 hi,bS0,qa4 (by omega)]
      rfl
    by_cases h:qmy t[i]
    · refine .inl ⟨fun _ => h, fun g => ?_⟩
      obtain⟨h1,h2,h3,h4,h5,h6⟩:=h
      rw[head,cnd' (by omega),cnd' (by omega),cnd' (by omega),cnd' (by omega),cnd' (by omega),cnd' (by omega)]
    · refine .inr ⟨fun h' => h (h' hi), fun g => ?_⟩
      rw[head]
      by_cases h1:qdb t[i]<0
      · rw[cnd h1]
      by_cases h2:qdb t[i]>64
      · rw[cnd' h1,cnd h2]
      by_cases h3:nL t[i]<0
      · rw[cnd' h1,cnd' h2,cnd h3]
      by_cases h4:nL t[i]>255
      · rw[cnd' h1,cnd' h2,cnd' h3,cnd h4]
      by_cases h5:nR t[i]<0
      · rw[cnd' h1,cnd' h2,cnd' h3,cnd' h4,cnd h5]
      by_cases h6:nR t[i]>255
      · rw[cnd' h1,cnd' h2,cnd' h3,cnd' h4,cnd' h5,cnd h6]
      exfalso;apply h;unfold qmy;omega) (by
    intro g
    rw[qb5,cnd' (by omega)]) with ⟨h,hlp⟩ | ⟨i,hi,h,hlp⟩
 · exact .inl ⟨fun i hi=>h i hi hi,hlp⟩
 · exact .inr ⟨fun hh=>h (fun hi=>hh i hi),hlp⟩
theorem qDO {m:qbf} (hl:m.2.length<4294967296) (ht:∀ t∈m.2,t.length<4294967296):∃ b,qj8 m=some b∧(b=true ↔ qBY m):=by
 unfold qj8
 by_cases h1:m.1<0
 · exact⟨false,by rw[cnd h1],fun h=>(by cases h),fun h=>by have:=h.1;omega⟩
 by_cases h2:m.1>64
 · exact⟨false,by rw[cnd' h1,cnd h2],fun h=>(by cases h),fun h=>by have:=h.2.1;omega⟩
 by_cases h3:((m.2.length:Nat):Int)>64
 · exact⟨false,by rw[cnd' h1,cnd' h2,cnd h3],fun h=>(by cases h),fun h=>by have:=h.2.2.1;omega⟩
 rw[cnd' h1,cnd' h2,cnd' h3]
 rcases qpR (step:=qbl) (fun i=>((m.2,((m.2.length:Nat):Int),(i:Int),()),())) m.2.length (fun i=>∀ h:i<m.2.length,qxw m.2[i]) (fun i=>.inr ((false,()),())) (.inl ((),())) (by omega) (by
    intro i hi
    have d0:(i:Int)<((m.2.length:Nat):Int):=by omega
    have d1:(0:Int)≤(i:Int):=by omega
    have hti:=ht _ (gM0 hi)
    by_cases g1:((m.2[i].length:Nat):Int)<1
    · refine .inr ⟨fun h => by have := (h hi).1; omega, fun g => ?_⟩
      rw[qbl,cnd d0,cnd d1,tN0,gE0 hi,bS0,cnd g1]
    by_cases g2:((m.2[i].length:Nat):Int)>255
    · refine .inr ⟨fun h => by have := (h hi).2.1; omega, fun g => ?_⟩
      rw[qbl,cnd d0,cnd d1,tN0,gE0 hi,bS0,cnd' g1,cnd g2]
    rcases qyn m.2 ((m.2.length:Nat):Int) (i:Int) hti with ⟨h,hlp⟩ | ⟨h,hlp⟩
    · refine .inl ⟨fun _ => ⟨by omega, by omega, h⟩, fun g => ?_⟩
      rw[qbl,cnd d0,cnd d1,tN0,gE0 hi,bS0,cnd' g1,cnd' g2,hlp,bS0]
      dsimp only
      rw[qa4 (by omega)]
      rfl
    · refine .inr ⟨fun hh => h (hh hi).2.2, fun g => ?_⟩
      rw[qbl,cnd d0,cnd d1,tN0,gE0 hi,bS0,cnd' g1,cnd' g2,hlp,bS0]) (by
    intro g
    rw[qbl,cnd' (by omega)]) with ⟨h,hlp⟩ | ⟨i,hi,h,hlp⟩
 · have hlp : lp qbl K0 ((m.2, ((m.2.length : Nat) : Int), 0, ()), ()) = some (.inl ((), ())) := hlp
   exact⟨true,by rw[hlp];rfl,fun _=>⟨by omega,by omega,by omega,fun i hi=>h i hi hi⟩,fun _=>rfl⟩
 · have hlp : lp qbl K0 ((m.2, ((m.2.length : Nat) : Int), 0, ()), ()) = some (.inr ((false, ()), ())) := hlp
   exact⟨false,by rw[hlp];rfl,fun h'=>(by cases h'),fun hp=>absurd (fun hh=>hp.2.2.2 i hh) h⟩
def qtA (f:Int):Nat→List NODE→Prop
 | 0,t=>qib t f
 | 1,t=>qsq t
 | 2,t=>qfz t
 | _,t=>qEx t
def Good (m:qbf):Prop:=qBY m∧∀ r,r<4→∀ i (h:i<m.2.length),qtA m.1 r m.2[i]
theorem Good.ranges {m:qbf} (h:Good m) {i:Nat} (hi:i<m.2.length):qib m.2[i] m.1:=h.2 0 (by decide) i hi
theorem Good.shape {m:qbf} (h:Good m) {i:Nat} (hi:i<m.2.length):qsq m.2[i]:=h.2 1 (by decide) i hi
theorem Good.covers {m:qbf} (h:Good m) {i:Nat} (hi:i<m.2.length):qfz m.2[i]:=h.2 2 (by decide) i hi
def MSz (m:qbf) (k:Nat):Prop:=∀ t∈m.2,TSz t k
theorem qwt {m:qbf} {k:Nat} (hf:qBY m) (hs:MSz m k) (hk:k<500000000000) {r:Nat} (hr:r<4) (hlow:∀ r',r'<r→∀ i (h:i<m.2.length),qtA m.1 r' m.2[i]) (z:Int×Int×Int×Int) :
   ((∀ i (h:i<m.2.length),qtA m.1 r m.2[i])∧lp qaC K0 (((r:Int),(r:Int),m.2,((m.2.length:Nat):Int),0,()),((m.1,m.2,()),(z.1,z.2.1,z.2.2.1,z.2.2.2,()),()))=some (.inl (((r:Int),()),((m.1,m.2,()),(z.1,z.2.1,z.2.2.1,z.2.2.2,()),())))) ∨
   (¬ (∀ i (h:i<m.2.length),qtA m.1 r m.2[i])∧∃ e a b c,e≠0∧lp qaC K0 (((r:Int),(r:Int),m.2,((m.2.length:Nat):Int),0,()),((m.1,m.2,()),(z.1,z.2.1,z.2.2.1,z.2.2.2,()),()))=some (.inr ((),((e,a,b,c,()),())))):=by
 have hlen:=hf.2.2.1
 have ans:∀ i (h:i<m.2.length),∃ a e,(e=0 ↔ qtA m.1 r m.2[i])∧∀ g,qaC g (((r:Int),(r:Int),m.2,((m.2.length:Nat):Int),(i:Int),()),((m.1,m.2,()),(z.1,z.2.1,z.2.2.1,z.2.2.2,()),())) =
     bif (!decide (e=0)) then some (.inr ((),((e,0,(i:Int),a,()),()))) else g (((r:Int),(r:Int),m.2,((m.2.length:Nat):Int),((i+1:Nat):Int),()),((m.1,m.2,()),(z.1,z.2.1,z.2.2.1,z.2.2.2,()),())):=by
   intro i hi
   have d0:(i:Int)<((m.2.length:Nat):Int):=by omega
   have d1:(0:Int)≤(i:Int):=by omega
   have htf:=hf.2.2.2 i hi
   have htl:m.2[i].length<4294967296:=by have:=htf.2.1;omega
   have ht0:0<m.2[i].length:=htf.1
   have hts:=hs _ (gM0 hi)
   match r,hr with
   | 0, _ =>
     obtain⟨a,e,h1,h2⟩:=qzb (f:=m.1) htl
     refine⟨a,e,h2,fun g=>?_⟩
     rw[qaC,cnd d0,cnd d1,tN0,gE0 hi,bS0,cnd (by rfl),h1,bS0,qa4 (by omega)]
     rfl
   | 1, _ =>
     obtain⟨a,e,h1,h2⟩:=qAP htl ht0 (hlow 0 (by decide) i hi)
     refine⟨a,e,h2,fun g=>?_⟩
     rw[qaC,cnd d0,cnd d1,tN0,gE0 hi,bS0,cnd' (by decide),cnd (by rfl),h1,bS0,qa4 (by omega)]
     rfl
   | 2, _ =>
     obtain⟨a,e,h1,h2⟩:=qAb htl hts (by omega)
     refine⟨a,e,h2,fun g=>?_⟩
     rw[qaC,cnd d0,cnd d1,tN0,gE0 hi,bS0,cnd' (by decide),cnd' (by decide),cnd (by rfl),h1,bS0,qa4 (by omega)]
     rfl
   | 3, _ =>
     obtain⟨a,e,h1,h2⟩:=qCG htl hts hk (hlow 0 (by decide) i hi)
     refine⟨a,e,h2,fun g=>?_⟩
     rw[qaC,cnd d0,cnd d1,tN0,gE0 hi,bS0,cnd' (by decide),cnd' (by decide),cnd' (by decide),cnd (by rfl),h1,bS0,qa4 (by omega)]
     rfl
 have ans2:∀ i,∃ a e,∀ h:i<m.2.length,(e=0 ↔ qtA m.1 r m.2[i])∧∀ g,qaC g (((r:Int),(r:Int),m.2,((m.2.length:Nat):Int),(i:Int),()),((m.1,m.2,()),(z.1,z.2.1,z.2.2.1,z.2.2.2,()),())) =
     bif (!decide (e=0)) then some (.inr ((),((e,0,(i:Int),a,()),()))) else g (((r:Int),(r:Int),m.2,((m.2.length:Nat):Int),((i+1:Nat):Int),()),((m.1,m.2,()),(z.1,z.2.1,z.2.2.1,z.2.2.2,()),())):=by
   intro i
   by_cases h:i<m.2.length
   · obtain ⟨a, e, h1, h2⟩ := ans i h
     exact⟨a,e,fun _=>⟨h1,h2⟩⟩
   · exact⟨0,0,fun h'=>absurd h' h⟩
 have A:=fun i=>(ans2 i).choose
 let E:Nat→Int:=fun i=>(ans2 i).choose_spec.choose
 have hE:∀ i (h:i<m.2.length),(E i=0 ↔ qtA m.1 r m.2[i])∧∀ g,qaC g (((r:Int),(r:Int),m.2,((m.2.length:Nat):Int),(i:Int),()),((m.1,m.2,()),(z.1,z.2.1,z.2.2.1,z.2.2.2,()),())) =
     bif (!decide (E i=0)) then some (.inr ((),((E i,0,(i:Int),(ans2 i).choose,()),()))) else g (((r:Int),(r:Int),m.2,((m.2.length:Nat):Int),((i+1:Nat):Int),()),((m.1,m.2,()),(z.1,z.2.1,z.2.2.1,z.2.2.2,()),())):=fun i h=>(ans2 i).choose_spec.choose_spec h
 rcases qpR (step:=qaC) (fun i=>(((r:Int),(r:Int),m.2,((m.2.length:Nat):Int),(i:Int),()),((m.1,m.2,()),(z.1,z.2.1,z.2.2.1,z.2.2.2,()),()))) m.2.length (fun i=>E i=0) (fun i=>.inr ((),((E i,0,(i:Int),(ans2 i).choose,()),()))) (.inl (((r:Int),()),((m.1,m.2,()),(z.1,z.2.1,z.2.2.1,z.2.2.2,()),()))) (by omega) (by
     intro i hi
     obtain⟨h1,h2⟩:=hE i hi
     by_cases h0:E i=0
     · exact .inl ⟨h0,fun g=>by rw[h2,decide_eq_true h0];rfl⟩
     · exact .inr ⟨h0,fun g=>by rw[h2,decide_eq_false h0];rfl⟩) (by
     intro g
     rw[qaC,cnd' (by omega)]) with ⟨h,hlp⟩ | ⟨i,hi,h,hlp⟩
 · exact .inl ⟨fun i hi=>(hE i hi).1.1 (h i hi),hlp⟩
 · exact .inr ⟨fun hh=>h ((hE i hi).1.2 (hh i hi)),E i,0,(i:Int),_,h,hlp⟩
theorem qDL {m:qbf} {k:Nat} (hl:m.2.length<4294967296) (ht:∀ t∈m.2,t.length<4294967296) (hs:MSz m k) (hk:k<500000000000):∃ b,qhx m=some b∧(b=true ↔ Good m):=by
 obtain⟨b,hb,hbf⟩:=qDO hl ht
 cases b with
 | false =>
  have hnf:¬ qBY m:=fun h=>by have:=hbf.2 h;cases this
  refine⟨false,?_,fun h=>(by cases h),fun h=>absurd h.1 hnf⟩
  rw[qhx,qhb,hb,bS0]
  rfl
 | true =>
  have hf:=hbf.1 rfl
  rcases qDd (step:=qbu) (fun r=>(((r:Int),()),((m.1,m.2,()),(0,0,0,0,()),()))) 4 (fun r=>∀ i (h:i<m.2.length),qtA m.1 r m.2[i]) (fun r=>∃ e a b c,e≠0∧r=.inr ((),((e,a,b,c,()),()))) (.inl ((),((0,0,0,0,()),()))) (by omega) (by
     intro r hr hlow
     have d0:(r:Int)<4:=by omega
     rcases qwt hf hs hk hr (fun r' hr'=>hlow r' hr') (0,0,0,0) with ⟨h1,h2⟩ | ⟨h1,e,a,b,c,h2,h3⟩
     · refine .inl ⟨h1, fun g => ?_⟩
       rw[qbu,cnd d0,h2,bS0]
       dsimp only
       rw[qa4 (by omega)]
       rfl
     · refine .inr ⟨h1, _, ⟨e, a, b, c, h2, rfl⟩, fun g => ?_⟩
       rw[qbu,cnd d0,h3,bS0]) (by
     intro g
     rw[qbu,cnd' (by decide)]) with ⟨h,hlp⟩ | ⟨h,r,⟨e,a,b,c,he,rfl⟩,hlp⟩
  · have hlp : lp qbu K0 (((0 : Int), ()), ((m.1, m.2, ()), (0, 0, 0, 0, ()), ())) = _ := hlp
    refine⟨true,?_,fun _=>⟨hf,h⟩,fun _=>rfl⟩
    rw[qhx,qhb,hb,bS0,Bool.not_true,cond_false,hlp]
    rfl
  · have hlp : lp qbu K0 (((0 : Int), ()), ((m.1, m.2, ()), (0, 0, 0, 0, ()), ())) = _ := hlp
    refine⟨false,?_,fun h'=>(by cases h'),fun hg=>absurd hg.2 h⟩
    rw[qhx,qhb,hb,bS0,Bool.not_true,cond_false,hlp,bS0]
    dsimp only
    rw[bS0,decide_eq_false he]
    rfl
theorem qne (a:RAT):qbC a=some (cutR 4 a):=by
 obtain⟨⟨s,x⟩,y⟩:=a
 unfold qbC cutR
 by_cases h1:4<x.length
 · have c1 : ((x.length : Nat) : Int) > 4 := by omega
   have c2:(4:Int)≤((x.length:Nat):Int):=by omega
   by_cases h2:4<y.length
   · have c3 : ((y.length : Nat) : Int) > 4 := by omega
     have c4:(4:Int)≤((y.length:Nat):Int):=by omega
     rw[cnd c1,cnd c2,cnd c3,cnd c4]
   · have c3 : ¬ ((y.length : Nat) : Int) > 4 := by omega
     rw[cnd c1,cnd c2,cnd' c3,List.take_of_length_le (l:=y) (by omega)]
 · have c1 : ¬ ((x.length : Nat) : Int) > 4 := by omega
   by_cases h2:4<y.length
   · have c3 : ((y.length : Nat) : Int) > 4 := by omega
     have c4:(4:Int)≤((y.length:Nat):Int):=by omega
     rw[cnd' c1,cnd c3,cnd c4,List.take_of_length_le (l:=x) (by omega)]
   · have c3 : ¬ ((y.length : Nat) : Int) > 4 := by omega
     rw[cnd' c1,cnd' c3,List.take_of_length_le (l:=x) (by omega),List.take_of_length_le (l:=y) (by omega)]
def qtw (n:NODE):NODE:=(n.1,n.2.1,cutR 4 n.2.2.1,n.2.2.2.1,n.2.2.2.2.1,n.2.2.2.2.2.1,cutR 4 n.2.2.2.2.2.2.1,cutR 4 n.2.2.2.2.2.2.2)
def qjd (t:List NODE):List NODE:=(t.take 15).map qtw
def cutM (m:qbf):qbf:=(m.1,(m.2.take 6).map qjd)
theorem qyt (n:NODE):NSz (qtw n) 4:=⟨qrk 4 _,qrk 4 _,qrk 4 _⟩
theorem qys (t:List NODE):TSz (qjd t) 4:=by
 intro n hn
 obtain⟨x,_,rfl⟩:=List.mem_map.1 hn
 exact qyt x
theorem qws (t:List NODE):(qjd t).length≤15:=by simp [qjd];omega
theorem qDC (m:qbf):MSz (cutM m) 4:=by
 intro t ht
 obtain⟨x,_,rfl⟩:=List.mem_map.1 ht
 exact qys x
theorem qAa (m:qbf):∀ t∈(cutM m).2,t.length≤15:=by
 intro t ht
 obtain⟨x,_,rfl⟩:=List.mem_map.1 ht
 exact qws x
theorem qwE {m:qbf} {i:Nat} (hi:i<m.2.length) (hl:m.2[i].length≤9223372036854775807) (hi2:i<4611686018427387904) (z w:Int×List (List NODE)) :
  lp qaJ K0 (((i:Int),[],0,()),((m.1,m.2,()),(z.1,z.2,()),(w.1,w.2,()),()))=some (((i:Int),qjd m.2[i],()),((m.1,m.2,()),(z.1,z.2,()),(w.1,w.2,()),())):=by
 have hn:min m.2[i].length 15≤m.2[i].length:=Nat.min_le_left _ _
 exact qfu (step:=qaJ) (fun k=>(((i:Int),(m.2[i].take k).map qtw,(k:Int),()),((m.1,m.2,()),(z.1,z.2,()),(w.1,w.2,()),()))) (min m.2[i].length 15) (by omega) (by
  intro g k hk
  have h1:k<m.2[i].length:=by omega
  have d0:(0:Int)≤(i:Int):=by omega
  have d1:(k:Int)<((m.2[i].length:Nat):Int):=by omega
  have d2:(k:Int)<15:=by omega
  have d3:(0:Int)≤(k:Int):=by omega
  have d4:(((m.2[i].take k).map qtw).length+1)*208≤140737488355328:=by simp;omega
  rw[qaJ,cnd d0,tN0,gE0 hi,bS0,cnd d1,cnd d2,cnd d0,bS0,cnd d3,tN0,gE0 h1,bS0,qne,bS0,qne,bS0,qne,bS0,blt d4,cond_true,qa4 (by omega),qgJ _ h1]
  rfl) (by
  intro g
  have d0:(0:Int)≤(i:Int):=by omega
  by_cases h:m.2[i].length≤15
  · have c1 : ¬ ((min m.2[i].length 15 : Nat) : Int) < ((m.2[i].length : Nat) : Int) := by omega
    rw[qaJ,cnd d0,tN0,gE0 hi,bS0,cnd' c1,Nat.min_eq_left h,List.take_of_length_le (Nat.le_refl _),qjd,List.take_of_length_le h]
  · have c1 : ((min m.2[i].length 15 : Nat) : Int) < ((m.2[i].length : Nat) : Int) := by omega
    have c2:¬ ((min m.2[i].length 15:Nat):Int)<15:=by omega
    rw[qaJ,cnd d0,tN0,gE0 hi,bS0,cnd c1,cnd' c2,Nat.min_eq_right (by omega),qjd])
theorem qB0 (m:qbf) (hl:m.2.length≤9223372036854775807) (ht:∀ t∈m.2,t.length≤9223372036854775807):qep m=some (cutM m):=by
 have hn:min m.2.length 6≤m.2.length:=Nat.min_le_left _ _
 have key:=qfu (step:=qaK) (fun i=>(((i:Int),()),((m.1,m.2,()),(0,[],()),(m.1,(m.2.take i).map qjd,()),()))) (min m.2.length 6) (r:=((),((0,[],()),(m.1,(m.2.take 6).map qjd,()),()))) (by omega) (by
  intro g i hi
  have h1:i<m.2.length:=by omega
  have d0:(i:Int)<((m.2.length:Nat):Int):=by omega
  have d1:(i:Int)<6:=by omega
  have hin:=qwE h1 (ht _ (gM0 h1)) (by omega) (0,[]) (m.1,(m.2.take i).map qjd)
  have d4:(((m.2.take i).map qjd).length+1)*24≤140737488355328:=by simp;omega
  rw[qaK,cnd d0,cnd d1,hin,bS0,blt d4,cond_true,qa4 (by omega),qgJ _ h1]
  rfl) (by
  intro g
  by_cases h:m.2.length≤6
  · have c1 : ¬ ((min m.2.length 6 : Nat) : Int) < ((m.2.length : Nat) : Int) := by omega
    rw[qaK,cnd' c1,Nat.min_eq_left h,List.take_of_length_le (Nat.le_refl _),List.take_of_length_le h]
  · have c1 : ((min m.2.length 6 : Nat) : Int) < ((m.2.length : Nat) : Int) := by omega
    have c2:¬ ((min m.2.length 6:Nat):Int)<6:=by omega
    rw[qaK,cnd c1,cnd' c2,Nat.min_eq_right (by omega)])
 have key':lp qaK K0 ((0,()),((m.1,m.2,()),(0,[],()),(m.1,[],()),()))=_:=key
 rw[qep,key']
 rfl
inductive TR where
 | leaf (i:Nat)
 | split (i:Nat) (l r:TR)
def TR.top:TR→Nat
 | .leaf i=>i
 | .split i _ _=>i
def TR.size:TR→Nat
 | .leaf _=>1
 | .split _ l r=>1+l.size+r.size
def TR.deep:TR→Nat
 | .leaf _=>1
 | .split _ l r=>1+max l.deep r.deep
def Is (t:List NODE) (f:Int):TR→Prop
 | .leaf i=>∃ h:i<t.length,qiZ t[i]=true
 | .split i l r=>∃ h:i<t.length,qiZ t[i]=false∧0≤qdb t[i]∧qdb t[i]<f∧nL t[i]=(l.top:Int)∧nR t[i]=(r.top:Int)∧Is t f l∧Is t f r
theorem qCD {t:List NODE} {f:Int} (hr:qib t f) (hrk:qxx t):∀ i,i<t.length→∃ T,Is t f T∧T.top=i∧T.deep≤t.length+1:=by
 obtain⟨rk,hrk⟩:=hrk
 have key:∀ (d i:Nat),i<t.length→rk i≤d→∃ T,Is t f T∧T.top=i∧T.deep≤rk i+1:=by
  intro d
  induction d with
  | zero =>
   intro i hi hd
   cases hl:qiZ t[i] with
   | true=>exact⟨.leaf i,⟨hi,hl⟩,rfl,by simp [TR.deep]⟩
   | false =>
    have:=(hrk i hi).2 (nL t[i]).toNat (by rw[qhs hi hl];simp)
    omega
  | succ d ih =>
   intro i hi hd
   cases hl:qiZ t[i] with
   | true=>exact⟨.leaf i,⟨hi,hl⟩,rfl,by simp [TR.deep]⟩
   | false =>
    obtain⟨r1,r2,r3,r4,r5,r6⟩:=hr i hi hl
    have k1:=(hrk i hi).2 (nL t[i]).toNat (by rw[qhs hi hl];simp)
    have k2:=(hrk i hi).2 (nR t[i]).toNat (by rw[qhs hi hl];simp)
    obtain⟨L,hL,hLt,hLd⟩:=ih (nL t[i]).toNat (by omega) (by omega)
    obtain⟨R,hR,hRt,hRd⟩:=ih (nR t[i]).toNat (by omega) (by omega)
    refine⟨.split i L R,⟨hi,hl,r1,r2,by rw[hLt];omega,by rw[hRt];omega,hL,hR⟩,rfl,?_⟩
    simp only[TR.deep]
    omega
 intro i hi
 obtain⟨T,h1,h2,h3⟩:=key (rk i) i hi (Nat.le_refl _)
 have:=(hrk i hi).1
 exact⟨T,h1,h2,by omega⟩
theorem Good.tree {m:qbf} (h:Good m) {i:Nat} (hi:i<m.2.length):∃ T,Is m.2[i] m.1 T∧T.top=0∧T.deep≤m.2[i].length+1 :=
 qCD (h.ranges hi) (h.shape hi).2 0 (h.1.2.2.2 i hi).1
abbrev zR:RAT:=((false,[]),[])
abbrev zN:NODE:=(false,0,zR,0,0,false,zR,zR)
def qeG (t:List NODE) (i:Nat):NODE:=(t[i]?).getD zN
theorem qdd {t:List NODE} {i:Nat} (h:i<t.length):qeG t i=t[i]:=by simp [qeG,h]
def qAf (row:List CELL) (i:Nat):CELL:=(row[i]?).getD (false,zR)
theorem qyu {row:List CELL} {i:Nat} (h:i<row.length):qAf row i=row[i]:=by simp [qAf,h]
def goes (n:NODE) (c:CELL):Bool:=if c.1 then qE5 n else decide (rv c.2<rv (nCut n))
def goL (t:List NODE) (row:List CELL) (i:Nat):Bool:=goes (qeG t i) (qAf row (qdb (qeG t i)).toNat)
theorem Is.top_lt {t:List NODE} {f:Int} {T:TR} (h:Is t f T):T.top<t.length:=by
 cases T with
 | leaf i=>exact h.1
 | split i l r=>exact h.1
theorem TR.size_lt (T:TR):T.size<2 ^ T.deep:=by
 induction T with
 | leaf i=>simp [TR.size,TR.deep]
 | split i l r ihl ihr =>
  simp only[TR.size,TR.deep]
  have h1:2 ^ l.deep≤2 ^ max l.deep r.deep:=Nat.pow_le_pow_right (by decide) (Nat.le_max_left _ _)
  have h2:2 ^ r.deep≤2 ^ max l.deep r.deep:=Nat.pow_le_pow_right (by decide) (Nat.le_max_right _ _)
  rw[Nat.add_comm 1 (max l.deep r.deep),Nat.pow_succ]
  omega
theorem TR.size_le {T:TR} (h:T.deep≤16):T.size<65536:=by
 have h1:=T.size_lt
 have h2:2 ^ T.deep≤2 ^ 16:=Nat.pow_le_pow_right (by decide) h
 omega
theorem TR.deep_pos (T:TR):0<T.deep:=by cases T<;>simp [TR.deep]<;>omega
theorem TSz.at {t:List NODE} {k:Nat} (h:TSz t k) {i:Nat} (hi:i<t.length):NSz (qeG t i) k:=by rw[qdd hi];exact h _ (gM0 hi)
theorem qCo {t:List NODE} (hs:TSz t 4) {i:Nat} (hi:i<t.length):SzQ (cov t i) 4:=(hs.at hi).2.2.szQ (by decide)
def mkT (t:List NODE):Nat→Nat→TR
 | 0,i=>.leaf i
 | d+1,i=>if qiZ (qeG t i) then .leaf i else .split i (mkT t d (nL (qeG t i)).toNat) (mkT t d (nR (qeG t i)).toNat)
theorem qEn {t:List NODE} {f:Int}:∀ (d:Nat) (T:TR),Is t f T→T.deep≤d→mkT t d T.top=T:=by
 intro d
 induction d with
 | zero=>intro T _ h;have:=T.deep_pos;omega
 | succ d ih =>
  intro T h hd
  cases T with
  | leaf i =>
   obtain⟨h1,h2⟩:=h
   simp only[TR.top,mkT,qdd h1,h2,if_true]
  | split i l r =>
   obtain⟨h1,h2,_,_,h3,h4,h5,h6⟩:=h
   simp only[TR.deep] at hd
   show mkT t (d+1) i=_
   rw[mkT,qdd h1,h2,h3,h4,tN0,tN0,ih l h5 (by omega),ih r h6 (by omega)]
   rfl
def treeOf (t:List NODE):TR:=mkT t (t.length+1) 0
theorem Good.treeOf {m:qbf} (h:Good m) {i:Nat} (hi:i<m.2.length):Is m.2[i] m.1 (treeOf m.2[i])∧(treeOf m.2[i]).top=0∧(treeOf m.2[i]).deep≤m.2[i].length+1:=by
 obtain⟨T,h1,h2,h3⟩:=h.tree hi
 have:X.treeOf m.2[i]=T:=by rw[X.treeOf,← h2];exact qEn _ T h1 h3
 rw[this];exact⟨h1,h2,h3⟩
def qfE (m:qbf) (i:Nat):List NODE:=(m.2[i]?).getD []
theorem qmq {m:qbf} {i:Nat} (h:i<m.2.length):qfE m i=m.2[i]:=by simp [qfE,h]
theorem qEt {m:qbf} (h:Good m) (hl:∀ t∈m.2,t.length≤15) {i:Nat} (hi:i<m.2.length):(treeOf (qfE m i)).deep≤16:=by
 rw[qmq hi]
 have:=(h.treeOf hi).2.2
 have:=hl _ (gM0 hi)
 omega
def CSz (row:List CELL) (k:Nat):Prop:=∀ c∈row,SzR c.2 k
theorem qDt {n:NODE} {c:CELL} {k j:Nat} (hn:SzR (nCut n) k) (hk:k<1099511627776) (hc:SzR c.2 j) (hj:j<1099511627776):qjK n c=some (goes n c):=by
 unfold qjK goes
 cases h:c.1 with
 | true=>rfl
 | false =>
  rw[cond_false,qpD (hc.sm hj) (hn.sm hk),bS0,if_neg (by decide)]
  congr 1
  by_cases h:rv c.2<rv (nCut n)
  · rw[decide_eq_true (qwY.2 h),decide_eq_true h]
  · rw[decide_eq_false (fun e=>h (qwY.1 e)),decide_eq_false h]
theorem qAz {n:NODE} {c:CELL} {k j:Nat} (hn:SzR (nCut n) k) (hk:k<1099511627776) (hc:SzR c.2 j) (hj:j<1099511627776):qiy n c=some (!qiZ n&&goes n c):=by
 unfold qiy
 rw[qDt hn hk hc hj]
 show _=some (!n.1&&goes n c)
 cases h:n.1 with
 | true=>rfl
 | false=>rfl
theorem qCk {t:List NODE} {f:Int} {row:List CELL} {i:Nat} (hs:TSz t 4) (hc:CSz row 9) (hi:i<t.length) (h0:0≤qdb t[i]) (h1:qdb t[i]<(row.length:Int)) :
  ∃ c,row[(qdb t[i]).toNat]?=some c∧SzR c.2 9∧goes t[i] c=goL t row i:=by
 have hlt:(qdb t[i]).toNat<row.length:=by omega
 refine⟨row[(qdb t[i]).toNat],gE0 hlt,hc _ (gM0 hlt),?_⟩
 rw[goL,qdd hi,qyu hlt]
theorem qBR {t:List NODE} {f:Int} (ht:t.length≤15) (hs:TSz t 4):∃ b,qjC t f=some b∧(b=true ↔ Good (f,[t])):=by
 obtain⟨b,h1,h2⟩:=qDL (m:=(f,[t])) (k:=4) (by simp) (by intro u hu;simp at hu;subst hu;omega) (by intro u hu;simp at hu;subst hu;exact hs) (by decide)
 exact⟨b,by rw[qjC,h1];rfl,h2⟩
theorem qz9 (l:List CELL):CSz (l.map qjw) 9:=by
 intro c hc
 obtain⟨x,_,rfl⟩:=List.mem_map.1 hc
 exact⟨Nat.le_trans (qrk 3 _).1 (by decide),Nat.le_trans (qrk 3 _).2 (by decide)⟩
theorem qCm {m:qbf} {row:List CELL} (hl:m.2.length<4294967296) (ht:∀ t∈m.2,t.length<4294967296) (hs:MSz m 4) :
  ∃ e:Int,qey m row=some e∧qez m row=some e∧(e=0 ↔ Good m∧(row.length:Int)=m.1):=by
 obtain⟨b,h1,h2⟩:=qDL hl ht hs (by decide)
 have key:∃ e:Int,qey m row=some e∧(e=0 ↔ Good m∧(row.length:Int)=m.1):=by
  cases b with
  | false => exact ⟨1, by rw [qey, h1]; rfl, by constructor; · intro h; exact absurd h (by decide)
                                                · intro h;have:=h2.2 h.1;simp at this⟩
  | true =>
   by_cases h:(row.length:Int)=m.1
   · exact⟨0,by rw[qey,h1,bS0,Bool.not_true,cond_false,decide_eq_true h];rfl,by simp [h2.1 rfl,h]⟩
   · exact⟨14,by rw[qey,h1,bS0,Bool.not_true,cond_false,decide_eq_false h];rfl,by simp [h]⟩
 obtain⟨e,h3,h4⟩:=key
 exact⟨e,h3,by rw[qez,h3];rfl,h4⟩
structure Askd (m:qbf) (row:List CELL):Prop where
 good:Good m
 len:(row.length:Int)=m.1
 ms:MSz m 4
 ml:m.2.length≤6
 mt:∀ t∈m.2,t.length≤15
 cs:CSz row 9
theorem Askd.tree {m:qbf} {row:List CELL} (h:Askd m row) {i:Nat} (hi:i<m.2.length):TSz m.2[i] 4∧Is m.2[i] (row.length:Int) (treeOf (qfE m i))∧(treeOf (qfE m i)).top=0∧(treeOf (qfE m i)).deep≤16∧qfE m i=m.2[i]:=by
 have h1:=h.good.treeOf hi
 have h2:=qEt h.good h.mt hi
 rw[qmq hi] at h2 ⊢
 exact⟨h.ms _ (gM0 hi),by rw[h.len];exact h1.1,h1.2.1,h2,rfl⟩
theorem qDs {q r:Rat} {n m:Nat} (hq:SzQ q n) (hn:n<91625968980) (hr:SzQ r m) (hm:m<91625968980) (e:q=r):qd3 (canQ q) (canQ r)=some true:=by
 rw[qE9 hq hn hr.szR hm,qae,decide_eq_true e]
theorem qzk {a b:RAT} (ha:Sm a) (hb:Sm b) (h:rv b≠0):qht a b=some (canQ (rv a/rv b)):=by
 rw[qht,qpB ha hb,if_neg h];rfl
theorem Askd.cov {m:qbf} {row:List CELL} (h:Askd m row) {i:Nat} (hi:i<m.2.length):qfz m.2[i]:=h.good.covers hi
theorem Askd.f64 {m:qbf} {row:List CELL} (h:Askd m row):row.length≤64:=by
 have:=h.good.1.2.1
 have:=h.len
 omega
theorem qBU (m0:qbf) (row0:List CELL) (hl:m0.2.length≤9223372036854775807) (ht:∀ t∈m0.2,t.length≤9223372036854775807) (hr:row0.length≤9223372036854775807) :
   ∃ m row,qcI m0 row0=some (m,row)∧MSz m 4∧m.2.length≤3∧(∀ t∈m.2,t.length≤15)∧CSz row 9:=by
 have hf:=qB0 m0 hl ht
 have ms:=qDC m0
 have mt:=qAa m0
 have h9:=qBZ row0 70 hr (by decide)
 have h9:qcK row0 70=some ((row0.take 70).map qjw):=h9
 have cs:=qz9 (row0.take 70)
 by_cases h3:((cutM m0).2.length:Int)>3
 · refine ⟨((cutM m0).1, (cutM m0).2.take 3), (row0.take 70).map qjw, ?_, fun t h => ms t (List.mem_of_mem_take h), by simp; omega, fun t h => mt t (List.mem_of_mem_take h), cs⟩
   rw[qcI,hf,bS0,cnd h3,cnd (by omega),h9];rfl
 · refine ⟨cutM m0, (row0.take 70).map qjw, ?_, ms, by omega, mt, cs⟩
   rw[qcI,hf,bS0,cnd' h3,h9];rfl
def qkm (f:Nat→Rat):Nat→Rat
 | 0=>1
 | n+1=>qkm f n*f n
def qcan (qs:List Rat):List RAT:=qs.map canQ
@[simp] theorem qEH (qs:List Rat):(qcan qs).length=qs.length:=by simp [qcan]
theorem qw0 {α:Type} (l:List α) (x:α) {k:Nat} (hk:k≤l.length) :
  (over (l++[x]) (k+1) (((l++[x]).drop k).take ((l++[x]).drop (k+1)).length)).set k x=l.take k++x::l.drop k:=by
 have e1:((l++[x]).drop k).take ((l++[x]).drop (k+1)).length=l.drop k:=by
  rw[List.length_drop,List.length_append,List.length_singleton,List.drop_append_of_le_length hk,List.take_append_of_le_length (by rw[List.length_drop];omega),List.take_of_length_le (by rw[List.length_drop];omega)]
 rw[e1,over]
 have e2:(l++[x]).drop (k+1+(l.drop k).length)=[]:=by
  apply List.drop_of_length_le
  rw[List.length_append,List.length_drop,List.length_singleton];omega
 rw[e2,List.append_nil]
 have e3:(l++[x]).take (k+1)=(l++[x]).take k++[(l++[x])[k]'(by simp;omega)]:=List.take_succ_eq_append_getElem (by simp;omega)
 rw[e3,List.take_append_of_le_length hk,List.append_assoc,List.set_append,if_neg (by rw[List.length_take];omega),List.length_take,Nat.min_eq_left hk,Nat.sub_self]
 rfl
def qnm:TR→List Nat
 | .leaf i=>[i]
 | .split _ l r=>qnm l++qnm r
theorem qkL (T:TR):(qnm T).length≤T.size:=by
 induction T with
 | leaf i=>simp [qnm,TR.size]
 | split i l r ihl ihr=>simp only[qnm,TR.size,List.length_append];omega
def lsum:List Rat→Rat
 | []=>0
 | x::r=>x+lsum r
theorem qhq (a b:List Rat):lsum (a++b)=lsum a+lsum b:=by
 induction a with
 | nil=>simp [lsum,Rat.zero_add]
 | cons x a ih=>simp only[List.cons_append,lsum,ih,Rat.add_assoc]
theorem qfz.ne {t:List NODE} (h:qfz t):∀ i,i<t.length→cov t i≠0:=by
 intro i hi e
 have:=h i hi
 rw[qfb hi] at e
 rw[e] at this
 exact absurd this (by decide)
theorem qzj {α:Type} (l:List α) (x y:α) {k:Nat} (hk:k≤l.length) :
  (over (l++[x]) (k+1) (((l++[x]).drop k).take ((l++[x]).drop (k+1)).length)).set k y=l.take k++y::l.drop k:=by
 have h:=qw0 l x hk
 obtain⟨o,eo⟩:∃ o,o=over (l++[x]) (k+1) (((l++[x]).drop k).take ((l++[x]).drop (k+1)).length):=⟨_,rfl⟩
 rw[← eo] at h ⊢
 have e:o.set k y=(o.set k x).set k y:=by rw[List.set_set]
 rw[e,h,List.set_append,if_neg (by rw[List.length_take];omega),List.length_take,Nat.min_eq_left hk,Nat.sub_self]
 rfl
theorem qqP {α:Type} (l:List α) (x:α) {k:Nat} (hk:k≤l.length) :
  (over (l++[x]) (k+1) (((l++[x]).drop k).take ((l++[x]).drop (k+1)).length)).length=l.length+1:=by
 have h:=congrArg List.length (qw0 l x hk)
 rw[List.length_set] at h
 rw[h];simp;omega
abbrev AP:=Nat×Rat×Bool
def encP (p:AP):PART:=((p.1:Int),canQ p.2.1,p.2.2)
def encW (w:List AP):List PART:=w.map encP
theorem qhC (w:List AP):(encW w).length=w.length:=by simp [encW]
theorem qos {w:List AP} {i:Nat} (h:i<w.length):(encW w)[i]?=some (encP w[i]):=by simp [encW,h]
def along (f:Nat) (q:Rat) (ok:Bool):List AP→List AP
 | []=>[(f,q,ok)]
 | p::w=>if p.1<f then p::along f q ok w else if p.1=f then (f,p.2.1*q,p.2.2&&ok)::w else (f,q,ok)::p::w
def spot (f:Nat):List AP→Nat
 | []=>0
 | p::w=>if p.1<f then spot f w+1 else 0
theorem qCJ (f:Nat) (w:List AP):spot f w≤w.length:=by
 induction w with
 | nil=>simp [spot]
 | cons p w ih=>simp only[spot,List.length_cons];split<;>omega
theorem qCI {f:Nat} {w:List AP} {i:Nat} (h:i<spot f w):∃ hi:i<w.length,w[i].1<f:=by
 induction w generalizing i with
 | nil=>simp [spot] at h
 | cons p w ih =>
  simp only[spot] at h
  split at h
  · rename_i hp
    cases i with
    | zero=>exact⟨by simp,hp⟩
    | succ i=>obtain⟨hi,h2⟩:=ih (i:=i) (by omega);exact⟨by simp;omega,by simpa using h2⟩
  · omega
theorem qCK {f:Nat} {w:List AP} (h:spot f w<w.length):¬ w[spot f w].1<f:=by
 induction w with
 | nil=>simp at h
 | cons p w ih =>
  by_cases hp:p.1<f
  · have e : spot f (p :: w) = spot f w + 1 := by simp only [spot, if_pos hp]
    have h':spot f w<w.length:=by rw[e] at h;simpa using h
    simp only[e,List.getElem_cons_succ]
    exact ih h'
  · have e : spot f (p :: w) = 0 := by simp only [spot, if_neg hp]
    simp only[e,List.getElem_cons_zero]
    exact hp
theorem qAo {f:Nat} {q:Rat} {ok:Bool} {w:List AP} (h:spot f w<w.length) (e:w[spot f w].1=f):along f q ok w=w.set (spot f w) (f,w[spot f w].2.1*q,w[spot f w].2.2&&ok):=by
 induction w with
 | nil=>simp at h
 | cons p w ih =>
  by_cases hp:p.1<f
  · have es : spot f (p :: w) = spot f w + 1 := by simp only [spot, if_pos hp]
    have h':spot f w<w.length:=by rw[es] at h;simpa using h
    simp only[es,List.getElem_cons_succ] at e ⊢
    rw[along,if_pos hp,ih h' e,List.set_cons_succ]
  · have es : spot f (p :: w) = 0 := by simp only [spot, if_neg hp]
    simp only[es,List.getElem_cons_zero] at e ⊢
    rw[along,if_neg hp,if_pos e,List.set_cons_zero]
theorem qyC {f:Nat} {q:Rat} {ok:Bool} {w:List AP} (h:∀ h:spot f w<w.length,w[spot f w].1≠f):along f q ok w=w.take (spot f w)++(f,q,ok)::w.drop (spot f w):=by
 induction w with
 | nil=>simp [along,spot]
 | cons p w ih =>
  by_cases hp:p.1<f
  · have es : spot f (p :: w) = spot f w + 1 := by simp only [spot, if_pos hp]
    rw[along,if_pos hp,es,List.take_succ_cons,List.drop_succ_cons,List.cons_append,← ih (fun h'=>by
     have:=h (by rw[es];simpa using h')
     simpa only [es,List.getElem_cons_succ] using this)]
  · have es : spot f (p :: w) = 0 := by simp only [spot, if_neg hp]
    have hne:p.1≠f:=by
     have:=h (by rw[es];simp)
     simpa only [es,List.getElem_cons_zero] using this
    rw[along,if_neg hp,if_neg hne,es]
    rfl
theorem qAn (f:Nat) (q:Rat) (ok:Bool) (w:List AP):(along f q ok w).length≤w.length+1:=by
 induction w with
 | nil=>simp [along]
 | cons p w ih => simp only [along]; split
                  · simp only[List.length_cons];omega
                  · split<;>simp
def ASz (w:List AP) (k:Nat):Prop:=∀ p∈w,SzQ p.2.1 k
theorem qBO {f:Nat} {q:Rat} {ok:Bool} {w:List AP} {k j:Nat} (h:ASz w k) (hq:SzQ q j):ASz (along f q ok w) (k+j):=by
 induction w with
 | nil=>intro p hp;simp [along] at hp;subst hp;exact hq.mono (by omega)
 | cons p w ih =>
  have h1:SzQ p.2.1 k:=h p List.mem_cons_self
  have h2:ASz w k:=fun x hx=>h x (List.mem_cons_of_mem _ hx)
  intro x hx
  simp only[along] at hx
  split at hx
  · rcases List.mem_cons.1 hx with rfl | hx
    · exact h1.mono (by omega)
    · exact ih h2 x hx
  · split at hx
    · rcases List.mem_cons.1 hx with rfl | hx
      · exact h1.mul hq
      · exact(h2 x hx).mono (by omega)
    · rcases List.mem_cons.1 hx with rfl | hx
      · exact hq.mono (by omega)
      · exact(h x hx).mono (by omega)
theorem qxu {w:List AP} {f:Nat} {q:Rat} {ok:Bool} {k j:Nat} (hw:ASz w k) (hq:SzQ q j) (hk:k<1000000000) (hj:j<1000000000) (hl:w.length≤1000000) (hf:f<1000000) :
   qgq (encW w) (f:Int) (canQ q) ok=some (encW (along f q ok w)):=by
 have el:=qhC w
 have hs:=qCJ f w
 obtain⟨s,es⟩:∃ s,s=spot f w:=⟨_,rfl⟩
 have key:=qfu (step:=qbx) (fun i=>(((f:Int),ok,encW w,(i:Int),()),(((canQ q).1.1,(canQ q).1.2,(canQ q).2,()),()))) s (r:=(((f:Int),ok,encW w,(s:Int),()),(((canQ q).1.1,(canQ q).1.2,(canQ q).2,()),()))) (by omega) (by
   intro g i hi
   obtain⟨h1,h2⟩:=qCI (f:=f) (w:=w) (i:=i) (by omega)
   have d0:(i:Int)<((encW w).length:Int):=by omega
   have d1:(0:Int)≤(i:Int):=by omega
   have d2:(encP w[i]).1<(f:Int):=by show((w[i].1:Nat):Int)<_;omega
   rw[qbx,cnd d0,cnd2 d1 d0,tN0,qos h1,bS0,cnd d2,qa4 (by omega)]
   rfl) (by
   intro g
   by_cases h:s<w.length
   · have d0 : (s : Int) < ((encW w).length : Int) := by omega
     have d1:(0:Int)≤(s:Int):=by omega
     have h3:=qCK (f:=f) (w:=w) (by omega)
     have d2:¬ (encP w[s]).1<(f:Int):=by subst es;show ¬ ((w[spot f w].1:Nat):Int)<_;omega
     rw[qbx,cnd d0,cnd2 d1 d0,tN0,qos h,bS0,cnd' d2]
   · rw[qbx,cnd' (by omega)])
 have key:lp qbx K0 (((f:Int),ok,([]:List PART)++encW w,0,()),(((canQ q).1.1,(canQ q).1.2,(canQ q).2,()),()))=_:=key
 have c0:(Nat.ble ((([]:List PART).length+(encW w).length)*72) 140737488355328&&!false)=true:=blt (by simp;omega)
 have miss:(∀ h:spot f w<w.length,w[spot f w].1≠f)→(over (encW w++[(0,(((false,[]),[]),false))]) (s+1) (((encW w++[(0,(((false,[]),[]),false))]).drop s).take ((encW w++[(0,(((false,[]),[]),false))]).drop (s+1)).length)).set s ((f:Int),canQ q,ok)=encW (along f q ok w):=by
   intro h
   have e:=qzj (encW w) (0,(((false,[]),[]),false)) ((f:Int),canQ q,ok) (k:=s) (by omega)
   rw[e,qyC h,← es]
   simp [encW,encP]
 have ol:=qqP (encW w) (0,(((false,[]),[]),false)) (k:=s) (by omega)
 have i1:iadd .i64 (s:Int) 1=((s+1:Nat):Int):=qa4 (by omega)
 have d1:(0:Int)≤(s:Int):=by omega
 have al:(encW w++[((0,(((false,[]),[]),false)):PART)]).length=w.length+1:=by simp [encW]
 rw[qgq,c0,cond_true,key,bS0]
 dsimp only
 by_cases h:s<w.length
 · have d0 : (s : Int) < ((encW w).length : Int) := by omega
   rw[cnd d0,cnd2 d1 d0,tN0,qos h,bS0]
   by_cases e:w[s].1=f
   · have d2 : (encP w[s]).1 = (f : Int) := by show ((w[s].1 : Nat) : Int) = _; omega
     have hsz:=hw _ (gM0 h)
     have hm:=qan (hsz.sm (by omega)) (hq.sm (by omega))
     rw[qae,qae] at hm
     have hm:qah (encP w[s]).2.1 (canQ q)=some (canQ (w[s].2.1*q)):=hm
     obtain⟨x,ex⟩:∃ x:PART,x=((encP w[s]).1,canQ (w[s].2.1*q),(encP w[s]).2.2):=⟨_,rfl⟩
     have ls:((encW w).set s x).length=w.length:=by simp [encW]
     have gx:((encW w).set s x)[s]?=some x:=by rw[List.getElem?_set,if_pos rfl,if_pos (by omega)]
     have d3:(s:Int)<(((encW w).set s x).length:Int):=by omega
     have fin:(encW w).set s ((f:Int),canQ (w[s].2.1*q),w[s].2.2&&ok)=encW (along f q ok w):=by
      rw[qAo (by omega) (by subst es;exact e)]
      subst es
      simp [encW,encP]
     rw[cnd d2,cnd2 d1 d0,bS0]
     show(qah (encP w[s]).2.1 (canQ q)).bind _=_
     rw[hm,bS0,cnd2 d1 d0,bS0,← ex,cnd2 d1 d3,gx,bS0,show x.2.2=w[s].2.2 by rw[ex];rfl]
     rw[← fin]
     cases hok:w[s].2.2 with
     | true =>
      rw[cond_true,cnd2 d1 d3,bS0,List.set_set,ex,Bool.true_and]
      simp only
      rw[d2]
     | false =>
      rw[cond_false,cnd2 d1 d3,bS0,List.set_set,ex,Bool.false_and]
      simp only
      rw[d2]
   · have d2 : ¬ (encP w[s]).1 = (f : Int) := by show ¬ ((w[s].1 : Nat) : Int) = _; omega
     rw[cnd' d2,blt (by omega),cond_true,i1,cnd2 (by omega) (by rw[al];omega),cnd2 d1 (by rw[al];omega),tN0,cnd2 d1 (by rw[ol];omega),gE0 (by rw[ol];omega),bS0]
     show some _=_
     rw[← miss (fun h'=>by subst es;exact e)]
 · rw [cnd' (by omega), blt (by omega), cond_true, i1, cnd2 (by omega) (by rw [al]; omega), cnd2 d1 (by rw [al]; omega), tN0, tN0, cnd2 d1 (by rw [ol]; omega), gE0 (by rw [ol]; omega), bS0]
   show some _=_
   rw[← miss (fun h'=>absurd h' (by omega))]
abbrev AL:=Nat×Rat×List AP
def encL (x:AL):LEG:=((x.1:Int),canQ x.2.1,encW x.2.2)
def qno (t:List NODE) (i:Nat):Nat:=(qdb (qeG t i)).toNat
def qgt (t:List NODE) (row:List CELL):TR→List AP→List AL
 | .leaf i,w=>[(i,rv (nVal (qeG t i)),w)]
 | .split i l r,w=>qgt t row l (along (qno t i) (cov t l.top/cov t i) (goL t row i) w)++qgt t row r (along (qno t i) (cov t r.top/cov t i) (!goL t row i) w)
theorem qop (t:List NODE) (row:List CELL) (T:TR) (w:List AP):(qgt t row T w).length=(qnm T).length:=by
 induction T generalizing w with
 | leaf i=>rfl
 | split i l r ihl ihr=>simp only[qgt,qnm,List.length_append,ihl,ihr]
def WSz (w:List AP) (m:Nat) (f:Nat):Prop:=ASz w (8*m+1)∧w.length≤m∧∀ p∈w,p.1<f
theorem qvp {f:Nat} {q:Rat} {ok:Bool} {w:List AP}:∀ p∈along f q ok w,p.1=f∨∃ p'∈w,p'.1=p.1:=by
 induction w with
 | nil=>intro p hp;simp [along] at hp;subst hp;exact .inl rfl
 | cons a w ih =>
  intro p hp
  simp only[along] at hp
  split at hp
  · rcases List.mem_cons.1 hp with rfl | hp
    · exact .inr ⟨p,List.mem_cons_self,rfl⟩
    · rcases ih p hp with h | ⟨p', h1, h2⟩
      · exact .inl h
      · exact .inr ⟨p',List.mem_cons_of_mem _ h1,h2⟩
  · split at hp
    · rcases List.mem_cons.1 hp with rfl | hp
      · exact .inl rfl
      · exact .inr ⟨p,List.mem_cons_of_mem _ hp,rfl⟩
    · rcases List.mem_cons.1 hp with rfl | hp
      · exact .inl rfl
      · exact .inr ⟨p,hp,rfl⟩
theorem WSz.along {w:List AP} {m f g:Nat} {q:Rat} {ok:Bool} (h:WSz w m g) (hq:SzQ q 8) (hf:f<g):WSz (X.along f q ok w) (m+1) g:=by
 refine⟨fun p hp=>(qBO h.1 hq p hp).mono (by omega),Nat.le_trans (qAn _ _ _ _) (by have:=h.2.1;omega),fun p hp=>?_⟩
 rcases qvp p hp with e | ⟨p',h1,h2⟩
 · omega
 · have:=h.2.2 p' h1;omega
theorem qjf {t:List NODE} (hs:TSz t 4) {a i:Nat} (ha:a<t.length) (hi:i<t.length):SzQ (cov t a/cov t i) 8:=(qCo hs ha).div (qCo hs hi)
theorem qw7 {t:List NODE} {row:List CELL} {T:TR} {g:Nat} (hs:TSz t 4) (h:Is t (g:Int) T):∀ {w:List AP} {m:Nat},WSz w m g→∀ x∈qgt t row T w,WSz x.2.2 (m+T.deep) g∧SzQ x.2.1 4:=by
 induction T with
 | leaf i =>
  intro w m hw x hx
  simp only[qgt,List.mem_singleton] at hx
  subst hx
  refine⟨⟨fun p hp=>(hw.1 p hp).mono (by simp only[TR.deep];omega),by have:=hw.2.1;simp only[TR.deep];omega,hw.2.2⟩,(hs.at h.1).2.1.szQ (by decide)⟩
 | split i l r ihl ihr =>
  intro w m hw x hx
  obtain⟨h1,h2,f0,f1,h3,h4,h5,h6⟩:=h
  have hf:qno t i<g:=by rw[qno,qdd h1];omega
  simp only[qgt,List.mem_append] at hx
  rcases hx with hx | hx
  · have := ihl h5 (hw.along (ok := goL t row i) (qjf hs h5.top_lt h1) hf) x hx
    refine⟨⟨fun p hp=>(this.1.1 p hp).mono (by simp only[TR.deep];omega),by have:=this.1.2.1;simp only[TR.deep];omega,this.1.2.2⟩,this.2⟩
  · have := ihr h6 (hw.along (ok := !goL t row i) (qjf hs h6.top_lt h1) hf) x hx
    refine⟨⟨fun p hp=>(this.1.1 p hp).mono (by simp only[TR.deep];omega),by have:=this.1.2.1;simp only[TR.deep];omega,this.1.2.2⟩,this.2⟩
theorem qDm {t:List NODE} {row:List CELL} (hs:TSz t 4) (hc:CSz row 9) (hcov:qfz t) (hrl:row.length≤64):∀ (n:Nat) (T:TR) (w:List AP) (m:Nat),Is t (row.length:Int) T→T.deep≤n→T.size≤1000000→WSz w m row.length→m+T.deep≤10000 →
  qf1 n t row (T.top:Int) (encW w)=some ((qgt t row T w).map encL):=by
 intro n
 induction n with
 | zero=>intro T w m _ hd;have:=T.deep_pos;omega
 | succ n ih =>
  intro T w m h hd hz hw hm
  show qir (qf1 n) t row T.top (encW w)=_
  have hwl:=hw.2.1
  cases T with
  | leaf i =>
   obtain⟨h1,h2⟩:=h
   have z:=hs _ (gM0 h1)
   rw[qir,show((TR.leaf i).top:Int)=(i:Int) from rfl,cnd (by omega),tN0,gE0 h1,bS0,show t[i].1=true from h2,cond_true,qaQ (z.2.1.sm (by decide)),bS0,blt (by simp [encW];omega),cond_true]
   simp only[qgt,List.map_cons,List.map_nil,encL,qdd h1,List.nil_append]
  | split i l r =>
   obtain⟨h1,h2,f0,f1,h3,h4,h5,h6⟩:=h
   simp only[TR.deep] at hd hm
   simp only[TR.size] at hz
   have d0:(0:Int)≤(i:Int):=by omega
   obtain⟨c,g1,g2,g3⟩:=qCk (f:=0) hs hc h1 f0 f1
   have z:=hs _ (gM0 h1)
   have tl:=h5.top_lt
   have tr:=h6.top_lt
   have zl:=hs _ (gM0 tl)
   have zr:=hs _ (gM0 tr)
   have hne:rv (nCov t[i])≠0:=by have:=hcov.ne i h1;rwa [qfb h1] at this
   have o1:=qzk (zl.2.2.sm (by decide)) (z.2.2.sm (by decide)) hne
   have o2:=qzk (zr.2.2.sm (by decide)) (z.2.2.sm (by decide)) hne
   rw[← qfb tl,← qfb h1] at o1
   rw[← qfb tr,← qfb h1] at o2
   have hft:((qno t i:Nat):Int)=qdb t[i]:=by rw[qno,qdd h1];omega
   have hf:qno t i<row.length:=by omega
   have a1:=qxu (f:=qno t i) (ok:=goL t row i) hw.1 (qjf hs tl h1) (by omega) (by decide) (by omega) (by omega)
   have a2:=qxu (f:=qno t i) (ok:=!goL t row i) hw.1 (qjf hs tr h1) (by omega) (by decide) (by omega) (by omega)
   rw[hft] at a1 a2
   have el:=ih l _ (m+1) h5 (by omega) (by omega) (hw.along (ok:=goL t row i) (qjf hs tl h1) hf) (by omega)
   have er:=ih r _ (m+1) h6 (by omega) (by omega) (hw.along (ok:=!goL t row i) (qjf hs tr h1) hf) (by omega)
   have ll:=qop t row l (along (qno t i) (cov t l.top/cov t i) (goL t row i) w)
   have lr:=qop t row r (along (qno t i) (cov t r.top/cov t i) (!goL t row i) w)
   have bl:=qkL l
   have br:=qkL r
   rw[qir,show((TR.split i l r).top:Int)=(i:Int) from rfl,cnd d0,tN0,gE0 h1,bS0,show t[i].1=false from h2,cond_false,show t[i].2.1=qdb t[i] from rfl,cnd f0,g1,bS0,qAz z.1 (by decide) g2 (by decide),bS0,g3,show(!qiZ t[i])=true by rw[h2];rfl,Bool.true_and,show t[i].2.2.2.1=_ from h3,cnd (by omega),tN0,gE0 tl,bS0,o1,bS0,a1,bS0,el,bS0,show t[i].2.2.2.2.1=_ from h4,cnd (by omega),tN0,gE0 tr,bS0,o2,bS0,a2,bS0,er,bS0,blt (by simp only[List.length_map,ll,lr];omega),cond_true]
   simp only[qgt,List.map_append]
def qk8:List Rat→Rat
 | []=>1
 | x::r=>x*qk8 r
theorem qpQ (a b:List Rat):qk8 (a++b)=qk8 a*qk8 b:=by
 induction a with
 | nil=>simp [qk8,Rat.one_mul]
 | cons x a ih=>simp only[List.cons_append,qk8,ih,Rat.mul_assoc]
def facP (set:Nat) (p:AP):Rat:=if set.testBit p.1 then (if p.2.2 then 1 else 0) else p.2.1
def qkZ (set:Nat) (w:List AP):Rat:=qk8 (w.map (facP set))
theorem WSz.nil (f:Nat):WSz [] 0 f:=⟨fun p hp=>absurd hp (by simp),Nat.le_refl _,fun p hp=>absurd hp (by simp)⟩
theorem qDN {t:List NODE} {row:List CELL} (ht:t.length≤15) (hs:TSz t 4) (hc:CSz row 9) (hg:Good ((row.length:Int),[t])) (hrl:row.length≤64) :
  qhu t row=some ((qgt t row (treeOf t) []).map encL,0)∧(∀ x∈qgt t row (treeOf t) [],WSz x.2.2 16 row.length∧SzQ x.2.1 4)∧(qgt t row (treeOf t) []).length≤65536:=by
 obtain⟨b,h1,h2⟩:=qBR (f:=(row.length:Int)) ht hs
 have hb:b=true:=h2.2 hg
 subst hb
 obtain⟨g1,g2,g3⟩:=hg.treeOf (i:=0) (by simp)
 have g1:Is t (row.length:Int) (treeOf t):=g1
 have g2:(treeOf t).top=0:=g2
 have g3:(treeOf t).deep≤t.length+1:=g3
 have hz:=TR.size_le (T:=treeOf t) (by omega)
 have hcov:qfz t:=hg.covers (i:=0) (by simp)
 have hl:=qDm hs hc hcov hrl R0 (treeOf t) [] 0 g1 (by unfold R0;omega) (by omega) (WSz.nil _) (by omega)
 rw[g2] at hl
 have hl:qf1 R0 t row 0 []=_:=hl
 have hn:=qop t row (treeOf t) []
 have hn2:=qkL (treeOf t)
 refine⟨by rw[qhu,h1,bS0,Bool.not_true,cond_false,hl,bS0],fun x hx=>?_,by omega⟩
 have hw:=qw7 hs g1 (WSz.nil _) x hx
 refine⟨⟨fun p hp=>(hw.1.1 p hp).mono (by omega),by have:=hw.1.2.1;omega,hw.1.2.2⟩,hw.2⟩
theorem Askd.goodT {m:qbf} {row:List CELL} (h:Askd m row) {i:Nat} (hi:i<m.2.length):Good ((row.length:Int),[m.2[i]]):=by
 have hg:=h.good
 refine⟨⟨?_,?_,?_,?_⟩,?_⟩
 · rw[h.len];exact hg.1.1
 · rw[h.len];exact hg.1.2.1
 · simp
 · intro j hj
   have hj:j<1:=hj
   have:j=0:=by omega
   subst this
   exact hg.1.2.2.2 i hi
 · intro r hr j hj
   have hj:j<1:=hj
   have:j=0:=by omega
   subst this
   have:=hg.2 r hr i hi
   show qtA (row.length:Int) r m.2[i]
   rw[h.len];exact this
def qeF:TR→List Nat
 | .leaf i=>[i]
 | .split i l r=>i::(qeF l++qeF r)
theorem qxR (T:TR):(qeF T).length=T.size:=by
 induction T with
 | leaf i=>rfl
 | split i l r ihl ihr=>simp only[qeF,TR.size,List.length_cons,List.length_append,ihl,ihr];omega
theorem qj0 {t:List NODE} {f:Int} {T:TR} (h:Is t f T):∀ j∈qeF T,j<t.length:=by
 induction T with
 | leaf i=>intro j hj;simp [qeF] at hj;subst hj;exact h.1
 | split i l r ihl ihr =>
  obtain⟨h1,_,_,_,_,_,h2,h3⟩:=h
  intro j hj
  simp only[qeF,List.mem_cons,List.mem_append] at hj
  rcases hj with rfl | hj | hj
  · exact h1
  · exact ihl h2 j hj
  · exact ihr h3 j hj
theorem Is.kids {t:List NODE} {f:Int} {i:Nat} {l r:TR} (h:Is t f (.split i l r)):kids t i=[l.top,r.top]:=by
 obtain⟨h1,h2,_,_,h3,h4,_,_⟩:=h
 rw[qhs h1 h2,h3,h4,tN0,tN0]
theorem qkE {t:List NODE} {f:Int} {T:TR} (h:Is t f T):∀ j∈qeF T,j=T.top∨∃ p∈qeF T,j∈kids t p:=by
 induction T with
 | leaf i=>intro j hj;simp [qeF] at hj;exact .inl hj
 | split i l r ihl ihr =>
  have hk:=h.kids
  obtain⟨h1,_,_,_,_,_,h2,h3⟩:=h
  intro j hj
  simp only[qeF,List.mem_cons,List.mem_append] at hj
  have hi:i∈qeF (.split i l r):=by simp [qeF]
  rcases hj with rfl | hj | hj
  · exact .inl rfl
  · refine .inr ?_
    rcases ihl h2 j hj with rfl | ⟨p,hp,hm⟩
    · exact⟨i,hi,by rw[hk];simp⟩
    · exact⟨p,by simp [qeF,hp],hm⟩
  · refine .inr ?_
    rcases ihr h3 j hj with rfl | ⟨p,hp,hm⟩
    · exact⟨i,hi,by rw[hk];simp⟩
    · exact⟨p,by simp [qeF,hp],hm⟩
theorem qqS {t:List NODE} {f:Int} {rk:Nat→Nat} (hrk:∀ i,i<t.length→rk i≤t.length∧∀ c∈kids t i,rk c<rk i) {T:TR} (h:Is t f T):∀ j∈qeF T,rk j≤rk T.top:=by
 induction T with
 | leaf i=>intro j hj;simp [qeF] at hj;subst hj;exact Nat.le_refl _
 | split i l r ihl ihr =>
  have hk:=h.kids
  obtain⟨h1,_,_,_,_,_,h2,h3⟩:=h
  have a:=(hrk i h1).2 l.top (by rw[hk];simp)
  have b:=(hrk i h1).2 r.top (by rw[hk];simp)
  intro j hj
  simp only[qeF,List.mem_cons,List.mem_append] at hj
  show rk j≤rk i
  rcases hj with rfl | hj | hj
  · exact Nat.le_refl _
  · have:=ihl h2 j hj;omega
  · have:=ihr h3 j hj;omega
theorem qtl {t:List NODE} {n j p p':Nat} (hp:p<n) (hp':p'<n) (hne:p≠p') (h:j∈kids t p) (h':j∈kids t p'):2≤((List.range n).flatMap (kids t)).count j:=by
 have key:∀ {a b n:Nat},a<b→b<n→j∈kids t a→j∈kids t b→2≤((List.range n).flatMap (kids t)).count j:=by
   intro a b n hab hb ha hbm
   have e:List.range n=List.range b++(List.range (n-b)).map (·+b):=by
    have h1:n=b+(n-b):=by omega
    conv=>lhs;rw[h1,List.range_add]
    congr 1
    refine List.map_congr_left fun x _=>Nat.add_comm _ _
   rw[e,List.flatMap_append,List.count_append]
   have c1:0<((List.range b).flatMap (kids t)).count j:=List.count_pos_iff.2 (List.mem_flatMap.2 ⟨a,by simpa using hab,ha⟩)
   have c2:0<(((List.range (n-b)).map (·+b)).flatMap (kids t)).count j:=List.count_pos_iff.2 (List.mem_flatMap.2 ⟨b,List.mem_map.2 ⟨0,by simp;omega,by simp⟩,hbm⟩)
   omega
 rcases Nat.lt_or_gt_of_ne hne with hlt | hlt
 · exact key hlt hp' h h'
 · exact key hlt hp h' h
theorem quu {t:List NODE} {f:Int} (hs:qsq t) {T:TR} (h:Is t f T):(qeF T).Nodup:=by
 obtain⟨hc,rk,hrk⟩:=hs
 have one:∀ j p p',p<t.length→p'<t.length→0<j→j<t.length→j∈kids t p→j∈kids t p'→p=p':=by
  intro j p p' hp hp' h0 hj hm hm'
  refine Classical.byContradiction fun hne=>?_
  have h1:=qtl hp hp' hne hm hm'
  have h2:=hc j h0 hj
  rw[cnt] at h2
  omega
 induction T with
 | leaf i=>simp [qeF]
 | split i l r ihl ihr =>
  have hk:=h.kids
  obtain⟨h1,g1,g2,g3,g4,g5,h2,h3⟩:=h
  have ra:=(hrk i h1).2 l.top (by rw[hk];simp)
  have rb:=(hrk i h1).2 r.top (by rw[hk];simp)
  have nl:=qqS hrk h2
  have nr:=qqS hrk h3
  have top0:∀ j∈kids t i,0<j→True:=fun _ _ _=>trivial
  refine List.nodup_cons.2 ⟨fun hm=>?_,List.nodup_append.2 ⟨ihl h2,ihr h3,?_⟩⟩
  · rcases List.mem_append.1 hm with hm | hm
    · have:=nl i hm;omega
    · have:=nr i hm;omega
  ·
    have key:∀ (d j:Nat),t.length-rk j≤d→j∈qeF l→j∈qeF r→False:=by
      intro d
      induction d with
      | zero =>
       intro j hd hl hr
       have:=nl j hl
       have:=(hrk i h1).1
       omega
      | succ d ih =>
       intro j hd hl hr
       have hjl:=qj0 h2 j hl
       have par:∃ p p',p<t.length∧p'<t.length∧j∈kids t p∧j∈kids t p'∧((p=i∧j=l.top)∨p∈qeF l)∧((p'=i∧j=r.top)∨p'∈qeF r):=by
         have hk1:l.top∈kids t i:=by rw[hk];simp
         have hk2:r.top∈kids t i:=by rw[hk];simp
         rcases qkE h2 j hl with e | ⟨p,hp,hm⟩
         · rcases qkE h3 j hr with e' | ⟨p', hp', hm'⟩
           · exact⟨i,i,h1,h1,by rw[e];exact hk1,by rw[e];exact hk1,.inl ⟨rfl,e⟩,.inl ⟨rfl,e'⟩⟩
           · exact⟨i,p',h1,qj0 h3 p' hp',by rw[e];exact hk1,hm',.inl ⟨rfl,e⟩,.inr hp'⟩
         · rcases qkE h3 j hr with e' | ⟨p', hp', hm'⟩
           · exact⟨p,i,qj0 h2 p hp,h1,hm,by rw[e'];exact hk2,.inr hp,.inl ⟨rfl,e'⟩⟩
           · exact⟨p,p',qj0 h2 p hp,qj0 h3 p' hp',hm,hm',.inr hp,.inr hp'⟩
       obtain⟨p,p',q1,q2,q3,q4,q5,q6⟩:=par
       by_cases h0:0<j
       · have e := one j p p' q1 q2 h0 hjl q3 q4
         subst e
         rcases q5 with ⟨e1,e2⟩ | q5
         · rcases q6 with ⟨_, e3⟩ | q6
           ·
             have h5:=hc j h0 hjl
             rw[cnt] at h5
             have:((List.range t.length).flatMap (kids t)).count j≥(kids t i).count j:=by
               have hi:i∈List.range t.length:=by simpa using h1
               obtain⟨a,b,eab⟩:=List.append_of_mem hi
               rw[eab,List.flatMap_append,List.flatMap_cons,List.count_append,List.count_append]
               omega
             rw[hk,← e2,← e3] at this
             simp at this
             omega
           · rw [e1] at q6
             have:=nr i q6;omega
         · rcases q6 with ⟨e1, _⟩ | q6
           · rw [e1] at q5
             have:=nl i q5;omega
           · have := (hrk p q1).2 j q3
             have:=(hrk p q1).1
             exact ih p (by omega) q5 q6
       ·
         have j0:j=0:=by omega
         have nokid:∀ (d q:Nat),t.length-rk q≤d→q<t.length→j∈kids t q→False:=by
           intro d
           induction d with
           | zero =>
             intro q hd hq hm
             have:=(hrk q hq).2 j hm
             by_cases hq0:q=0
             · rw[j0,hq0] at this;omega
             · obtain ⟨p, hp, hpm⟩ := qkd hc (by omega) hq
               have a:=(hrk p hp).2 q hpm
               have b:=(hrk p hp).1
               omega
           | succ d ihd =>
             intro q hd hq hm
             have hlt:=(hrk q hq).2 j hm
             by_cases hq0:q=0
             · rw[j0,hq0] at hlt;omega
             ·
               have up:∀ (d2 u:Nat),t.length-rk u≤d2→u<t.length→rk q≤rk u→False:=by
                intro d2
                induction d2 with
                | zero =>
                 intro u hu hu2 hqu
                 by_cases hu0:u=0
                 · rw[hu0] at hqu;rw[j0] at hlt;omega
                 · obtain ⟨p, hp, hpm⟩ := qkd hc (by omega) hu2
                   have a:=(hrk p hp).2 u hpm
                   have b:=(hrk p hp).1
                   omega
                | succ d2 ihd2 =>
                 intro u hu hu2 hqu
                 by_cases hu0:u=0
                 · rw[hu0] at hqu;rw[j0] at hlt;omega
                 · obtain ⟨p, hp, hpm⟩ := qkd hc (by omega) hu2
                   have a:=(hrk p hp).2 u hpm
                   have b:=(hrk p hp).1
                   exact ihd2 p (by omega) hp (by omega)
               exact up _ q (Nat.le_refl _) hq (Nat.le_refl _)
         exact nokid _ p (Nat.le_refl _) q1 q3
    intro a ha b hb e
    subst e
    exact key _ a (Nat.le_refl _) ha hb
theorem qyU {t:List NODE} {f:Int} (hs:qsq t) {T:TR} (h:Is t f T):T.size≤t.length:=by
 rw[← qxR]
 exact qlu (quu hs h) (qj0 h)
theorem TR.size_pos (T:TR):0<T.size:=by cases T<;>simp [TR.size]<;>omega
theorem qz5 (T:TR):2*T.deep≤T.size+1:=by
 induction T with
 | leaf i=>simp [TR.deep,TR.size]
 | split i l r ihl ihr =>
  have:=l.size_pos
  have:=r.size_pos
  simp only[TR.deep,TR.size]
  omega
def qoE (w:List AP):Prop:=w.Pairwise fun a b=>a.1<b.1
theorem qpj {f:Nat} {q:Rat} {ok:Bool} {w:List AP} (h:qoE w):qoE (along f q ok w):=by
 induction w with
 | nil=>simp [along,qoE]
 | cons p w ih =>
  have h1:=List.pairwise_cons.1 h
  simp only[along]
  split
  · rename_i hp
    refine List.pairwise_cons.2 ⟨fun a ha=>?_,ih h1.2⟩
    rcases qvp a ha with e | ⟨p',h3,h4⟩
    · omega
    · have:=h1.1 p' h3;omega
  · split
    · rename_i e
      exact List.pairwise_cons.2 ⟨fun a ha=>by have:=h1.1 a ha;show f<a.1;omega,h1.2⟩
    · refine List.pairwise_cons.2 ⟨fun a ha => ?_, h⟩
      show f<a.1
      rcases List.mem_cons.1 ha with rfl | ha
      · omega
      · have:=h1.1 a ha;omega
def flo (n:Nat) (o:Nat→Rat):List RAT:=(List.range n).map fun f=>canQ (o f)
theorem qaB (n:Nat) (o:Nat→Rat):(flo n o).length=n:=by simp [flo]
theorem qe4 {n f:Nat} (o:Nat→Rat) (h:f<n):(flo n o)[f]?=some (canQ (o f)):=by simp [flo,h]
theorem qfS {n:Nat} {o p:Nat→Rat} (h:∀ f,f<n→o f=p f):flo n o=flo n p:=by
 rw[flo,flo]
 exact List.map_congr_left fun f hf=>by rw[h f (List.mem_range.1 hf)]
theorem qtk {n i:Nat} {o p:Nat→Rat} {x:Rat} (hx:p i=x) (hp:∀ f,f≠i→p f=o f):(flo n o).set i (canQ x)=flo n p:=by
 apply List.ext_getElem?
 intro f
 rw[List.getElem?_set]
 by_cases hf:f<n
 · rw [qe4 _ hf, qe4 _ hf, qaB]
   by_cases e:i=f
   · rw[if_pos e,if_pos (by omega),← e,hx]
   · rw[if_neg e,hp f (fun h=>e h.symm)]
 · have h1 : (flo n o)[f]? = none := List.getElem?_eq_none (by rw [qaB]; omega)
   have h2:(flo n p)[f]?=none:=List.getElem?_eq_none (by rw[qaB];omega)
   rw[h1,h2]
   split
   · rw[if_neg (by rw[qaB];omega)]
   · rfl
theorem qzF {t:List NODE} {row:List CELL} (T:TR):∀ {w:List AP},qoE w→∀ x∈qgt t row T w,qoE x.2.2:=by
 induction T with
 | leaf i=>intro w h x hx;simp only[qgt,List.mem_singleton] at hx;subst hx;exact h
 | split i l r ihl ihr =>
  intro w h x hx
  simp only[qgt,List.mem_append] at hx
  rcases hx with hx | hx
  · exact ihl (qpj h) x hx
  · exact ihr (qpj h) x hx
def whyR (b:Bool) (m:qbf) (row:List CELL):Int:=if b then (if (row.length:Int)=m.1 then 0 else 14) else 1
theorem qCw {b:Bool} {m:qbf} (h:qhx m=some b) (row:List CELL):qez m row=some (whyR b m row)∧qfX m row=some (whyR b m row):=by
 have:qey m row=some (whyR b m row):=by
  rw[qey,h,bS0,whyR]
  cases b with
  | false=>rfl
  | true =>
   rw[Bool.not_true,cond_false,if_pos rfl]
   by_cases e:(row.length:Int)=m.1
   · rw[decide_eq_true e,if_pos e];rfl
   · rw[decide_eq_false e,if_neg e];rfl
 exact⟨by rw[qez,this];rfl,this⟩
theorem qoP {f:Nat→Rat} {n:Nat} (h:∀ i,i<n→f i=0):rsum f n=0:=by
 induction n with
 | zero=>rfl
 | succ n ih=>rw[rsum,ih fun i hi=>h i (by omega),h n (by omega),Rat.add_zero]
theorem qtz {S f:Nat} (h:S.testBit f=false):∀ j,(S+2 ^ f).testBit j=(decide (j=f) || S.testBit j):=by
 induction f generalizing S with
 | zero =>
  intro j
  have h0:S % 2=0:=by rw[Nat.testBit_zero] at h;simpa using h
  cases j with
  | zero=>rw[Nat.testBit_zero];simp;omega
  | succ j =>
   rw[Nat.testBit_succ,Nat.testBit_succ,show(S+2 ^ 0)/2=S/2 by omega]
   simp
 | succ f ih =>
  intro j
  rw[Nat.testBit_succ] at h
  have e1:(S+2 ^ (f+1))/2=S/2+2 ^ f:=by rw[Nat.pow_succ];omega
  have e2:(S+2 ^ (f+1)) % 2=S % 2:=by rw[Nat.pow_succ];omega
  cases j with
  | zero=>rw[Nat.testBit_zero,Nat.testBit_zero,e2];simp
  | succ j =>
   rw[Nat.testBit_succ,Nat.testBit_succ,e1,ih h]
   simp
theorem qyy {S f n:Nat} (h:S.testBit f=false) (hS:S<2 ^ n) (hf:f<n):S+2 ^ f<2 ^ n:=by
 refine Nat.lt_pow_two_of_testBit _ fun i hi=>?_
 rw[qtz h,decide_eq_false (by omega),Bool.false_or]
 exact Nat.testBit_lt_two_pow (Nat.lt_of_lt_of_le hS (Nat.pow_le_pow_right (by decide) hi))
def popc:Nat→Nat→Nat
 | 0,_=>0
 | n+1,S=>popc n S+(if S.testBit n then 1 else 0)
theorem qxN {n S S':Nat} (h:∀ j,j<n→S.testBit j=S'.testBit j):popc n S=popc n S':=by
 induction n with
 | zero=>rfl
 | succ n ih=>rw[popc,popc,ih fun j hj=>h j (by omega),h n (by omega)]
theorem qxG (f:Nat→Rat) (a b:Nat):rsum f (a+b)=rsum f a+rsum (fun i=>f (i+a)) b:=by
 induction b with
 | zero=>simp [rsum,Rat.add_zero]
 | succ b ih=>rw[← Nat.add_assoc,rsum,ih,rsum,Rat.add_assoc,Nat.add_comm a b]
theorem qvI {f g:Nat→Rat} {n:Nat} (h:∀ i,i<n→f i=g i):qkm f n=qkm g n:=by
 induction n with
 | zero=>rfl
 | succ n ih=>rw[qkm,qkm,ih fun i hi=>h i (by omega),h n (by omega)]
abbrev BA:=Rat×Rat
def pick (x:BA) (b:Bool):Rat:=if b then x.2 else x.1
def EE:List BA→(Nat→Rat)→Rat
 | [],c=>c 0
 | x::L,c=>x.1*EE L c+x.2*EE L fun k=>c (k+1)
theorem qtB {L:List BA}:∀ {c d:Nat→Rat},(∀ k,k≤L.length→c k=d k)→EE L c=EE L d:=by
 induction L with
 | nil=>intro c d h;exact h 0 (Nat.le_refl _)
 | cons x L ih =>
  intro c d h
  rw[EE,EE,ih fun k hk=>h k (by simp only[List.length_cons];omega),ih fun k hk=>h (k+1) (by simp only[List.length_cons];omega)]
theorem qEF {L:List BA}:∀ {c d:Nat→Rat},EE L (fun k=>c k+d k)=EE L c+EE L d:=by
 induction L with
 | nil=>intro c d;rfl
 | cons x L ih=>intro c d;rw[EE,EE,EE,ih,ih];grind
theorem qEE {L:List BA}:∀ {c:Nat→Rat} {q:Rat},EE L (fun k=>q*c k)=q*EE L c:=by
 induction L with
 | nil=>intro c q;rfl
 | cons x L ih=>intro c q;rw[EE,EE,ih,ih];grind
theorem qwF {L M:List BA} (h:L.Perm M):∀ c,EE L c=EE M c:=by
 induction h with
 | nil=>intro c;rfl
 | cons x _ ih=>intro c;rw[EE,EE,ih,ih]
 | swap x y L=>intro c;simp only[EE];grind
 | trans _ _ ih1 ih2=>intro c;rw[ih1,ih2]
theorem qEB {L:List BA} {x:BA}:∀ c,EE (x::L) c=EE (L++[x]) c:=fun c=>qwF (by
 have:=(List.perm_append_comm (l₁:=[x]) (l₂:=L));simpa using this) c
theorem qEC (L:List BA) (c:Nat→Rat):EE ((1,1)::L) c=EE L fun k=>c k+c (k+1):=by
 rw[EE,qEF];grind
theorem qED (L:List BA) (c:Nat→Rat):EE ((1,0)::L) c=EE L c:=by rw[EE];grind
theorem qAQ (g:Nat→BA) (n:Nat):∀ c:Nat→Rat,rsum (fun S=>c (popc n S)*qkm (fun j=>pick (g j) (S.testBit j)) n) (2 ^ n)=EE ((List.range n).map g) c:=by
 induction n with
 | zero=>intro c;simp [rsum,popc,qkm,EE,Rat.mul_one,Rat.zero_add]
 | succ n ih =>
  intro c
  have hb:∀ S,S<2 ^ n→S.testBit n=false:=fun S hS=>Nat.testBit_lt_two_pow hS
  have e1:rsum (fun S=>c (popc (n+1) S)*qkm (fun j=>pick (g j) (S.testBit j)) (n+1)) (2 ^ n)=(g n).1*rsum (fun S=>c (popc n S)*qkm (fun j=>pick (g j) (S.testBit j)) n) (2 ^ n):=by
   rw[Rat.mul_comm (g n).1,← qmr]
   refine qex fun S hS=>?_
   rw[popc,qkm,hb S hS,if_neg (by decide),Nat.add_zero,pick,if_neg (by decide)];grind
  have e2:rsum (fun S=>c (popc (n+1) (S+2 ^ n))*qkm (fun j=>pick (g j) ((S+2 ^ n).testBit j)) (n+1)) (2 ^ n)=(g n).2*rsum (fun S=>c (popc n S+1)*qkm (fun j=>pick (g j) (S.testBit j)) n) (2 ^ n):=by
   rw[Rat.mul_comm (g n).2,← qmr]
   refine qex fun S hS=>?_
   have hj:=qtz (hb S hS)
   have hp:popc n (S+2 ^ n)=popc n S:=qxN fun j hj'=>by rw[hj j,decide_eq_false (by omega),Bool.false_or]
   have hr:qkm (fun j=>pick (g j) ((S+2 ^ n).testBit j)) n=qkm (fun j=>pick (g j) (S.testBit j)) n:=qvI fun j hj'=>by rw[hj j,decide_eq_false (by omega),Bool.false_or]
   rw[popc,qkm,hp,hr,hj n,decide_eq_true rfl,Bool.true_or,if_pos rfl,pick,if_pos rfl];grind
  rw[Nat.pow_succ,Nat.mul_two,qxG,e1,e2,ih c,ih fun k=>c (k+1),List.range_succ,List.map_append]
  show _=EE (_++[g n]) c
  rw[← qEB,EE]
theorem qDW {k n:Nat} (h:k<n):wq k (n+1)+wq (k+1) (n+1)=wq k n:=by
 unfold wq quo
 have e1:n+1-k-1=(n-k-1)+1:=by omega
 have e2:n+1-(k+1)-1=n-k-1:=by omega
 rw[e1,e2]
 obtain⟨j,hj⟩:∃ j,j=n-k-1:=⟨_,rfl⟩
 rw[← hj]
 have hn:((n:Nat):Rat)=(j:Rat)+(k:Rat)+1:=by
  have:n=j+k+1:=by omega
  rw[this];push_cast;rfl
 have f1:((fac (j+1):Nat):Rat)=((j:Rat)+1)*((fac j:Nat):Rat):=by rw[fac];push_cast;rfl
 have f2:((fac (k+1):Nat):Rat)=((k:Rat)+1)*((fac k:Nat):Rat):=by rw[fac];push_cast;rfl
 have f3:((fac (n+1):Nat):Rat)=((n:Rat)+1)*((fac n:Nat):Rat):=by rw[fac];push_cast;rfl
 have p1:((fac n:Nat):Rat)≠0:=by
  have:=qwi n
  intro e
  have:(fac n:Nat)=0:=by exact_mod_cast e
  omega
 have p2:(n:Rat)+1≠0:=by
  intro e
  have:((n+1:Nat):Rat)=0:=by push_cast;exact e
  have:(n+1:Nat)=0:=by exact_mod_cast this
  omega
 rw[f1,f2,f3]
 obtain⟨a,ha⟩:∃ a,a=((fac k:Nat):Rat):=⟨_,rfl⟩
 obtain⟨b,hb⟩:∃ b,b=((fac j:Nat):Rat):=⟨_,rfl⟩
 obtain⟨d,hd⟩:∃ d,d=((fac n:Nat):Rat):=⟨_,rfl⟩
 obtain⟨x,hx⟩:∃ x,x=(j:Rat):=⟨_,rfl⟩
 obtain⟨y,hy⟩:∃ y,y=(k:Rat):=⟨_,rfl⟩
 rw[← hd] at p1 ⊢
 rw[hn,← hx,← hy] at p2
 rw[hn,← ha,← hb,← hx,← hy]
 grind
theorem qB1 (L:List BA) (d:Nat):EE (List.replicate d (1,1)++L) (fun k=>wq k (L.length+1+d))=EE L fun k=>wq k (L.length+1):=by
 induction d with
 | zero=>rfl
 | succ d ih =>
  rw[List.replicate_succ,List.cons_append,qEC,← ih]
  refine qtB fun k hk=>?_
  simp only[List.length_append,List.length_replicate] at hk
  exact qDW (k:=k) (n:=L.length+1+d) (by omega)
def qy1 (v:Nat→Rat) (n f S:Nat):Rat:=if S.testBit f then 0 else wq (popc n S) n*(v (S+2 ^ f)-v S)
def qnc (v:Nat→Rat) (n f:Nat):Rat:=rsum (qy1 v n f) (2 ^ n)
theorem qvD {v w:Nat→Rat} {n f:Nat} (hf:f<n) (h:∀ S,S<2 ^ n→v S=w S):qnc v n f=qnc w n f:=by
 refine qex fun S hS=>?_
 unfold qy1
 cases hb:S.testBit f with
 | true=>rfl
 | false=>rw[if_neg (by decide),if_neg (by decide),h S hS,h _ (qyy hb hS hf)]
theorem qy7 (f g:Nat→Rat) (n:Nat):rsum (fun i=>f i+g i) n=rsum f n+rsum g n:=by
 induction n with
 | zero=>simp [rsum,Rat.add_zero]
 | succ n ih=>rw[rsum,rsum,rsum,ih];grind
theorem qy2 (v:Nat→Rat) (n f:Nat) (q:Rat):qnc (fun S=>v S*q) n f=qnc v n f*q:=by
 unfold qnc
 rw[← qmr]
 refine qex fun S _=>?_
 unfold qy1
 split
 · rw[Rat.zero_mul]
 · grind
abbrev FP:=Nat×BA
def lkG:List FP→Nat→BA
 | [],_=>(1,1)
 | p::P,j=>if p.1=j then p.2 else lkG P j
theorem qDg {P:List FP} {j:Nat} (h:j ∉ P.map (·.1)):lkG P j=(1,1):=by
 induction P with
 | nil=>rfl
 | cons p P ih =>
  simp only[List.map_cons,List.mem_cons,not_or] at h
  rw[lkG,if_neg (fun e=>h.1 e.symm),ih h.2]
theorem qDh {P:List FP} (hnd:(P.map (·.1)).Nodup):(P.map (·.1)).map (lkG P)=P.map (·.2):=by
 induction P with
 | nil=>rfl
 | cons p P ih =>
  have h:=List.nodup_cons.1 hnd
  have ih:=ih h.2
  simp only[List.map_cons,lkG,if_true,List.cons.injEq,true_and]
  rw[← ih]
  refine List.map_congr_left fun j hj=>?_
  exact if_neg (fun e=>h.1 (by subst e;exact hj))
theorem qxL {n:Nat} {F:List Nat} (hnd:F.Nodup) (hlt:∀ j∈F,j<n):∃ R:List Nat,(List.range n).Perm (F++R)∧∀ j∈R,j ∉ F:=by
 refine⟨(List.range n).filter fun j=>!F.contains j,?_,fun j hj=>by simpa using (List.mem_filter.1 hj).2⟩
 refine(List.perm_ext_iff_of_nodup List.nodup_range ?_).2 fun a=>?_
 · refine List.nodup_append.2 ⟨hnd, List.Nodup.sublist List.filter_sublist List.nodup_range, fun a ha b hb e => ?_⟩
   subst e
   have:=(List.mem_filter.1 hb).2
   simp at this
   exact this ha
 · simp only [List.mem_append, List.mem_filter, List.mem_range]
   constructor
   · intro h
     by_cases ha:a∈F
     · exact .inl ha
     · exact .inr ⟨h,by simpa using ha⟩
   · rintro (h | h)
     · exact hlt a h
     · exact h.1
theorem qsa {a b:List Rat} (h:a.Perm b):qk8 a=qk8 b:=by
 induction h with
 | nil=>rfl
 | cons x _ ih=>rw[qk8,qk8,ih]
 | swap x y l=>simp only[qk8];grind
 | trans _ _ h1 h2=>rw[h1,h2]
theorem qvH (h:Nat→Rat) (n:Nat):qkm h n=qk8 ((List.range n).map h):=by
 induction n with
 | zero=>rfl
 | succ n ih=>rw[qkm,ih,List.range_succ,List.map_append,qpQ];simp [qk8,Rat.mul_one]
theorem qya {l:List Rat} (h:∀ x∈l,x=1):qk8 l=1:=by
 induction l with
 | nil=>rfl
 | cons x l ih=>rw[qk8,h x List.mem_cons_self,ih fun y hy=>h y (List.mem_cons_of_mem _ hy),Rat.mul_one]
def qnd (P:List FP) (S:Nat):Rat:=qk8 (P.map fun p=>pick p.2 (S.testBit p.1))
theorem qyZ {n f:Nat} {x:BA} {P:List FP} (hf:f<n) (hnd:(P.map (·.1)).Nodup) (hlt:∀ p∈P,p.1<n) (hnf:f ∉ P.map (·.1)) :
  qnc (fun S=>pick x (S.testBit f)*qnd P S) n f=(x.2-x.1)*EE (P.map (·.2)) fun k=>wq k (P.length+1):=by
 obtain⟨R,hR,hRF⟩:=qxL (n:=n) (F:=f::P.map (·.1)) (List.nodup_cons.2 ⟨hnf,hnd⟩) (fun j hj=>by
  rcases List.mem_cons.1 hj with rfl | hj
  · exact hf
  · obtain⟨p,hp,rfl⟩:=List.mem_map.1 hj;exact hlt p hp)
 obtain⟨g,hg⟩:∃ g:Nat→BA,g=fun j=>if j=f then (1,0) else lkG P j:=⟨_,rfl⟩
 have gf:g f=(1,0):=by rw[hg];exact if_pos rfl
 have gP:(P.map (·.1)).map g=P.map (·.2):=by
  rw[← qDh hnd]
  refine List.map_congr_left fun j hj=>?_
  rw[hg]
  exact if_neg fun e=>hnf (by rw[← e];exact hj)
 have gR:∀ j∈R,g j=(1,1):=fun j hj=>by
  have:=hRF j hj
  simp only[List.mem_cons,not_or] at this
  rw[hg]
  show(if j=f then _ else _)=_
  rw[if_neg this.1,qDg this.2]
 have hlen:n=P.length+1+R.length:=by
  have:=hR.length_eq
  simp only[List.length_range,List.length_append,List.length_cons,List.length_map] at this
  omega
 have hprod:∀ S,qkm (fun j=>pick (g j) (S.testBit j)) n=if S.testBit f then 0 else qnd P S:=fun S=>by
  rw[qvH,qsa (hR.map _),List.map_append,qpQ,List.map_cons,qk8,gf,qya (l:=R.map _) (fun y hy=>by
    obtain⟨j,hj,rfl⟩:=List.mem_map.1 hy
    rw[gR j hj];unfold pick;split<;>rfl)]
  have e:((P.map (·.1)).map fun j=>pick (g j) (S.testBit j))=P.map fun p=>pick p.2 (S.testBit p.1):=by
    rw[List.map_map]
    refine List.map_congr_left fun p hp=>?_
    show pick (g p.1) _=_
    have:g p.1=p.2:=by
     obtain⟨i,hi,rfl⟩:=List.mem_iff_getElem.1 hp
     have:=congrArg (fun l=>l[i]?) gP
     simp only[List.getElem?_map,gE0 hi,Option.map_some,Option.some.injEq] at this
     exact this
    rw[this]
  rw[e]
  unfold pick qnd
  split
  · simp [Rat.zero_mul]
  · simp [Rat.one_mul,Rat.mul_one];rfl
 have hsum:qnc (fun S=>pick x (S.testBit f)*qnd P S) n f=(x.2-x.1)*rsum (fun S=>wq (popc n S) n*qkm (fun j=>pick (g j) (S.testBit j)) n) (2 ^ n):=by
  unfold qnc
  rw[Rat.mul_comm,← qmr]
  refine qex fun S hS=>?_
  rw[hprod]
  unfold qy1
  cases hb:S.testBit f with
  | true=>simp [Rat.mul_zero,Rat.zero_mul]
  | false =>
    have hb':=qtz hb
    have e1:qnd P (S+2 ^ f)=qnd P S:=by
     unfold qnd
     congr 1
     refine List.map_congr_left fun p hp=>?_
     rw[hb' p.1,decide_eq_false (fun e=>hnf (List.mem_map.2 ⟨p,hp,e⟩)),Bool.false_or]
    dsimp only
    rw[if_neg (by decide),if_neg (by decide),e1,hb' f,decide_eq_true rfl,Bool.true_or]
    simp only[pick,if_true,Bool.false_eq_true,if_false]
    grind
 have hss:=qAQ g n fun k=>wq k n
 rw[hsum,hss]
 congr 1
 have hp2:((List.range n).map g).Perm ((1,0)::(List.replicate R.length (1,1)++P.map (·.2))):=by
  refine(hR.map g).trans ?_
  rw[List.map_append,List.map_cons,gf,gP,List.cons_append]
  have:R.map g=List.replicate R.length (1,1):=by
    rw[List.eq_replicate_iff]
    exact⟨by simp,fun y hy=>by obtain⟨j,hj,rfl⟩:=List.mem_map.1 hy;exact gR j hj⟩
  rw[this]
  exact List.Perm.cons _ List.perm_append_comm
 rw[qwF hp2,qED]
 have:=qB1 (P.map (·.2)) R.length
 rw[List.length_map] at this
 rw[← this,← hlen]
theorem qy0 {n f:Nat} {P:List FP} (hnf:f ∉ P.map (·.1)):qnc (qnd P) n f=0:=by
 unfold qnc
 refine qoP fun S _=>?_
 unfold qy1
 cases hb:S.testBit f with
 | true=>rfl
 | false =>
  have e1:qnd P (S+2 ^ f)=qnd P S:=by
   unfold qnd
   congr 1
   refine List.map_congr_left fun p hp=>?_
   rw[qtz hb p.1,decide_eq_false (fun e=>hnf (List.mem_map.2 ⟨p,hp,e⟩)),Bool.false_or]
  rw[if_neg (by decide),e1];grind
def flx (n:Nat) (g:Nat→RAT):List RAT:=(List.range n).map g
theorem qkN (n:Nat) (g:Nat→RAT):(flx n g).length=n:=by simp [flx]
theorem qnn {n f:Nat} (g:Nat→RAT) (h:f<n):(flx n g)[f]?=some (g f):=by simp [flx,h]
theorem qtj {n i:Nat} {o p:Nat→RAT} {x:RAT} (hx:p i=x) (hp:∀ f,f≠i→p f=o f):(flx n o).set i x=flx n p:=by
 apply List.ext_getElem?
 intro f
 rw[List.getElem?_set]
 by_cases hf:f<n
 · rw [qnn _ hf, qnn _ hf, qkN]
   by_cases e:i=f
   · rw[if_pos e,if_pos (by omega),← e,hx]
   · rw[if_neg e,hp f (fun h=>e h.symm)]
 · have h1 : (flx n o)[f]? = none := List.getElem?_eq_none (by rw [qkN]; omega)
   have h2:(flx n p)[f]?=none:=List.getElem?_eq_none (by rw[qkN];omega)
   rw[h1,h2]
   split
   · rw[if_neg (by rw[qkN];omega)]
   · rfl
theorem qor {n:Nat} {o p:Nat→RAT} (h:∀ f,f<n→o f=p f):flx n o=flx n p:=List.map_congr_left fun f hf=>h f (List.mem_range.1 hf)
def raw0:RAT:=((false,[]),[])
theorem qvF:rv raw0=0:=by decide +kernel
def one0 (b:Bool):Rat:=if b then 1 else 0
def topN (c:Nat→Rat):Nat→Nat
 | 0=>0
 | n+1=>if c n=0 then topN c n else n+1
theorem qhc (c:Nat→Rat) (n:Nat):topN c n≤n:=by
 induction n with
 | zero=>exact Nat.le_refl _
 | succ n ih=>rw[topN];split<;>omega
theorem qgx {c:Nat→Rat} {n k:Nat} (h1:topN c n≤k) (h2:k<n):c k=0:=by
 induction n with
 | zero=>omega
 | succ n ih =>
  rw[topN] at h1
  split at h1
  · rename_i e
    by_cases hk:k=n
    · rw[hk];exact e
    · exact ih h1 (by omega)
  · omega
theorem qtJ {c:Nat→Rat} {n:Nat} (h:topN c n≠0):c (topN c n-1)≠0:=by
 induction n with
 | zero=>exact absurd rfl h
 | succ n ih =>
  rw[topN] at h ⊢
  split
  · rename_i e;rw[if_pos e] at h;exact ih h
  · assumption
theorem qnR {c:Nat→Rat} {n:Nat} (h:∀ k,k<n→c k=0):topN c n=0:=by
 induction n with
 | zero=>rfl
 | succ n ih=>rw[topN,if_pos (h n (by omega)),ih fun k hk=>h k (by omega)]
theorem qtK {c:Nat→Rat} {n:Nat} (h:c n≠0):topN c (n+1)=n+1:=by rw[topN,if_neg h]
theorem qwN {c:Nat→Rat} {n m:Nat} (h:∀ k,n≤k→c k=0) (hm:n≤m):topN c m=topN c n:=by
 induction m with
 | zero => have : n = 0 := by omega
           subst this;rfl
 | succ m ih =>
  by_cases e:n=m+1
  · rw[e]
  · rw[topN,if_pos (h m (by omega)),ih (by omega)]
def polL (n:Nat) (c:Nat→Rat):List RAT:=flo (topN c n) c
theorem qmt (n:Nat) (c:Nat→Rat):(polL n c).length=topN c n:=qaB _ _
theorem qp8 {n m:Nat} {c:Nat→Rat} (h:∀ k,n≤k→c k=0) (hm:n≤m):polL m c=polL n c:=by rw[polL,polL,qwN h hm]
theorem qAH {n k:Nat} (c:Nat→Rat):vals (flo n c) k=if k<n then c k else 0:=by
 unfold vals
 split
 · rename_i h;rw[qe4 c h];exact qae _
 · rename_i h
   rw[List.getElem?_eq_none (by rw[qaB];omega)]
   exact qvF
theorem qtI {n k:Nat} (c:Nat→Rat):vals (polL n c) k=if k<n then c k else 0:=by
 rw[polL,qAH]
 by_cases h:k<topN c n
 · rw[if_pos h,if_pos (by have:=qhc c n;omega)]
 · rw [if_neg h]
   split
   · rename_i h2;exact(qgx (c:=c) (n:=n) (k:=k) (by omega) h2).symm
   · rfl
theorem qil {l:List RAT} {k:Nat} (h:l.length≤k):vals l k=0:=by
 unfold vals
 rw[List.getElem?_eq_none h]
 exact qvF
theorem qnP {n k:Nat} {c:Nat→Rat} (h:∀ k,n≤k→c k=0):vals (polL n c) k=c k:=by
 rw[qtI]
 split
 · rfl
 · rw[h k (by omega)]
theorem qp7 {n:Nat} {c:Nat→Rat} (hn:n≤1000000) (hc:∀ k,k<n→SzQ (c k) 1000000000):qhL (flo n c)=some (polL n c):=by
 obtain⟨r,⟨d,hd,hd2⟩,e⟩:=qk9 (step:=qdl)
  (fun v=>∃ m:Nat,v=((flo n c,(m:Int),()),())∧m≤n∧topN c n=topN c m) (fun v=>v.1.2.1.toNat)
  (fun r=>∃ m:Nat,r=((flo n c,(m:Int),()),())∧m=topN c n)
  (v:=((flo n c,((flo n c).length:Int),()),())) ⟨n,by rw[qaB],Nat.le_refl _,rfl⟩ (by show((flo n c).length:Int).toNat<_;rw[qaB];omega) (by
  rintro v ⟨m,rfl,hm,ht⟩
  cases m with
  | zero =>
   left
   refine⟨_,⟨0,rfl,by rw[ht];rfl⟩,fun g=>?_⟩
   rw[qdl,cnd' (by omega)]
  | succ m =>
   have e1:isub .i64 ((m+1:Nat):Int) 1=(m:Int):=by rw[qbw (by omega) (by omega)];omega
   have st:∀ g,qdl g ((flo n c,((m+1:Nat):Int),()),())=bif decide (rcmp (c m) 0=0) then g ((flo n c,(m:Int),()),()) else some ((flo n c,((m+1:Nat):Int),()),()):=by
     intro g
     rw[qdl,cnd (by omega),e1,cnd2 (by omega) (by rw[qaB];omega),tN0,qe4 c (by omega),bS0,qko ((hc m (by omega)).sm (by decide)),bS0,qae]
   by_cases h0:c m=0
   · right
     refine⟨_,⟨m,rfl,by omega,by rw[ht,topN,if_pos h0]⟩,?_,fun g=>?_⟩
     · show((m:Nat):Int).toNat<((m+1:Nat):Int).toNat;omega
     · rw[st g,h0,show rcmp 0 0=0 by decide,cnd rfl]
   · left
     refine⟨_,⟨m+1,rfl,by rw[ht,topN,if_neg h0]⟩,fun g=>?_⟩
     have:¬ rcmp (c m) 0=0:=by
       unfold rcmp
       intro e
       split at e
       · exact absurd e (by decide)
       · split at e
         · exact absurd e (by decide)
         · rename_i h1 h2
           exact h0 (by grind)
     rw[st g,cnd' this])
 rw[qhL,e,hd,bS0]
 dsimp only
 subst hd2
 have hle:=qhc c n
 rw[decide_eq_true (by omega),decide_eq_true (by omega),decide_eq_true (by rw[qaB];omega)]
 show some _=_
 rw[Int.sub_zero,tN0,polL]
 congr 1
 unfold flo
 rw[← List.map_take,List.take_range,Nat.min_eq_left hle]
def LSz (l:List RAT) (k:Nat):Prop:=l.length≤1000∧∀ x∈l,SzR x k
theorem LSz.vals {l:List RAT} {k i:Nat} (h:LSz l k) (hk:0<k):SzQ (vals l i) k:=by
 by_cases hi:i<l.length
 · exact qCA h.2 hk hi
 · rw[qil (by omega)];exact SzQ.zero.mono hk
theorem LSz.polL {n k:Nat} {c:Nat→Rat} (hn:n≤1000) (h:∀ i,i<n→SzQ (c i) k):LSz (polL n c) k:=by
 refine⟨by rw[qmt];have:=qhc c n;omega,fun x hx=>?_⟩
 obtain⟨i,hi,rfl⟩:=List.mem_map.1 hx
 have:=List.mem_range.1 hi
 exact(h i (by have:=qhc c n;omega)).szR
theorem qff {a:List RAT} {j:Nat} (ha:LSz a j) (hj:0<j) (hj2:j<1000000000):qgc a=some (polL a.length (vals a)):=by
 obtain⟨n,hn⟩:∃ n,n=a.length:=⟨_,rfl⟩
 have n1:n≤1000:=by have:=ha.1;omega
 obtain⟨G,hG⟩:∃ G:Nat→Nat→RAT,G=fun i f=>if f<i then canQ (vals a f) else raw0:=⟨_,rfl⟩
 have key:=qfu (step:=qcQ) (fun i=>((flx n (G i),a,(a.length:Int),(i:Int),()),())) n (r:=((flo n (vals a),()),())) (by omega) (by
  intro g i hi
  have d0:(i:Int)<(a.length:Int):=by omega
  have hi':i<a.length:=by omega
  have hm:=qaQ ((ha.2 _ (gM0 hi')).sm (by omega))
  rw[qcQ,cnd d0,cnd (by omega),tN0,gE0 hi',bS0,hm,bS0,cnd2 (by omega) (by rw[qkN];omega),qnn _ hi,bS0,qa4 (by omega)]
  rw[qtj (p:=G (i+1)) (by rw[hG];show(if i<i+1 then _ else _)=_;rw[if_pos (by omega),qp3 hi']) (fun f hf=>by
   rw[hG]
   show(if f<i+1 then _ else _)=if f<i then _ else _
   by_cases h:f<i
   · rw[if_pos (by omega),if_pos h]
   · rw[if_neg (by omega),if_neg h])]
  rfl) (by
  intro g
  rw[qcQ,cnd' (by omega),qor (o:=G n) (p:=fun f=>canQ (vals a f)) (fun f hf=>by rw[hG];exact if_pos hf)];rfl)
 have e0:flx n (G 0)=List.replicate n raw0:=by
  have:G 0=fun _=>raw0:=by funext f;rw[hG];exact if_neg (by omega)
  rw[this,flx,List.map_const',List.length_range]
 rw[e0,hn] at key
 have key:lp qcQ K0 ((List.replicate a.length (((false,[]),[]):RAT),a,(a.length:Int),0,()),())=_:=key
 have c1:(decide ((a.length:Int)=(a.length:Int))&&decide (0≤(a.length:Int))&&decide (((56:Nat):Int)*(a.length:Int)≤281474976710656)&&decide ((a.length:Int)≤9223372036854775807))=true:=by
  have:=ha.1
  rw[decide_eq_true rfl,decide_eq_true (by omega),decide_eq_true (by omega),decide_eq_true (by omega)];rfl
 rw[qgc,c1,cond_true,tN0,key,bS0]
 dsimp only
 rw[qp7 (by omega) (fun i _=>(ha.vals hj).mono (by omega)),bS0]
def PS (A B:Nat→Rat) (i t:Nat):Rat:=rsum (fun i'=>if i'≤t then A i'*B (t-i') else 0) i
theorem qwC (A B:Nat→Rat) (i t:Nat):PS A B (i+1) t=PS A B i t+(if i≤t then A i*B (t-i) else 0):=rfl
theorem qvR {a b:List RAT} {j k s:Nat} (ha:LSz a j) (hb:LSz b k) (hj:0<j) (hk:0<k) (hj2:j<100000000) (hk2:k<100000000) (hs:s<1000000000)
   (hS:∀ i t,SzQ (PS (vals a) (vals b) i t) s) :
   qms a b=some (polL (topN (vals a) a.length+topN (vals b) b.length-1) (PS (vals a) (vals b) (topN (vals a) a.length))):=by
 obtain⟨A,eA⟩:∃ A,A=vals a:=⟨_,rfl⟩
 obtain⟨B,eB⟩:∃ B,B=vals b:=⟨_,rfl⟩
 have hA:∀ i,SzQ (A i) j:=fun i=>eA ▸ ha.vals hj
 have hB:∀ i,SzQ (B i) k:=fun i=>eB ▸ hb.vals hk
 have ca:=qff ha hj (by omega)
 have cb:=qff hb hk (by omega)
 rw[← eA,← eB] at hS ⊢
 rw[← eA] at ca
 rw[← eB] at cb
 have tla:=qhc A a.length
 have tlb:=qhc B b.length
 have hal:=ha.1
 have hbl:=hb.1
 have zb:∀ t,topN B b.length≤t→B t=0:=fun t ht=>by
   by_cases h:t<b.length
   · exact qgx ht h
   · rw[eB];exact qil (by omega)
 obtain⟨la,ela⟩:∃ la,la=topN A a.length:=⟨_,rfl⟩
 obtain⟨lb,elb⟩:∃ lb,lb=topN B b.length:=⟨_,rfl⟩
 have pa:polL a.length A=flo la A:=by rw[polL,ela]
 have pb:polL b.length B=flo lb B:=by rw[polL,elb]
 rw[pa] at ca
 rw[pb] at cb
 rw[← ela,← elb]
 rw[← elb] at zb
 rw[qms,ca,bS0,cb,bS0,qaB,qaB]
 by_cases h1:la=0
 · rw[cnd (by omega),h1,polL,qnR (c:=PS A B 0) (fun t _=>rfl)];rfl
 · by_cases h2 : lb = 0
   · rw[cnd' (by omega),cnd (by omega),h2,polL,qnR (c:=PS A B la) (fun t _=>qoP fun i _=>by
      rw[zb _ (by omega),Rat.mul_zero,ite_self])];rfl
   · obtain ⟨N, eN⟩ : ∃ N, N = la + lb - 1 := ⟨_, rfl⟩
     have i1:iadd .i64 (la:Int) (lb:Int)=((la+lb:Nat):Int):=by rw[qdC (by omega) (by omega)];omega
     have i2:isub .i64 ((la+lb:Nat):Int) 1=(N:Int):=by rw[qbw (by omega) (by omega)];omega
     have c1:(decide ((N:Int)=(N:Int))&&decide (0≤(N:Int))&&decide (((56:Nat):Int)*(N:Int)≤281474976710656)&&decide ((N:Int)≤9223372036854775807))=true:=by
      rw[decide_eq_true rfl,decide_eq_true (by omega),decide_eq_true (by omega),decide_eq_true (by omega)];rfl
     obtain⟨G,hG⟩:∃ G:Nat→Nat→RAT,G=fun i f=>if f<i then canQ 0 else raw0:=⟨_,rfl⟩
     have k1:=qfu (step:=qeb) (fun i=>((flo la A,flo lb B,flx N (G i),(N:Int),(i:Int),()),())) N (r:=((flo la A,flo lb B,flo N (fun _=>0),()),())) (by omega) (by
      intro g i hi
      have d0:(i:Int)<(N:Int):=by omega
      rw[qeb,cnd d0,qea,bS0,cnd2 (by omega) (by rw[qkN];omega),tN0,qnn _ hi,bS0,qa4 (by omega)]
      rw[qtj (p:=G (i+1)) (by rw[hG];show(if i<i+1 then _ else _)=_;rw[if_pos (by omega)]) (fun f hf=>by
       rw[hG]
       show(if f<i+1 then _ else _)=if f<i then _ else _
       by_cases h:f<i
       · rw[if_pos (by omega),if_pos h]
       · rw[if_neg (by omega),if_neg h])]
      rfl) (by
      intro g
      rw[qeb,cnd' (by omega),qor (o:=G N) (p:=fun f=>canQ 0) (fun f hf=>by rw[hG];exact if_pos hf)];rfl)
     have e0:flx N (G 0)=List.replicate N raw0:=by
      have:G 0=fun _=>raw0:=by funext f;rw[hG];exact if_neg (by omega)
      rw[this,flx,List.map_const',List.length_range]
     rw[e0] at k1
     have k1:lp qeb K0 ((flo la A,flo lb B,List.replicate N (((false,[]),[]):RAT),(N:Int),0,()),())=_:=k1
     have k2:=qfu (step:=qdn) (fun i=>((flo lb B,flo N (PS A B i),flo la A,(la:Int),(i:Int),()),())) la (r:=((flo N (PS A B la),()),())) (by omega) (by
      intro g i hi
      have d0:(i:Int)<(la:Int):=by omega
      have d1:(i:Int)<((flo la A).length:Int):=by rw[qaB];omega
      obtain⟨O,hO⟩:∃ O:Nat→Nat→Rat,O=fun j t=>if i≤t∧t<i+j then PS A B (i+1) t else PS A B i t:=⟨_,rfl⟩
      have k3:=qfu (step:=qdm) (fun j=>((flo lb B,flo N (O j),(i:Int),flo la A,(la:Int),(i:Int),flo lb B,((flo lb B).length:Int),(j:Int),()),(((canQ (A i)).1.1,(canQ (A i)).1.2,(canQ (A i)).2,()),()))) lb (r:=((flo lb B,flo N (PS A B (i+1)),flo la A,(la:Int),(i:Int),()),())) (by omega) (by
       intro g t ht
       have e0:(t:Int)<((flo lb B).length:Int):=by rw[qaB];omega
       have ix:iadd .i64 (i:Int) (t:Int)=((i+t:Nat):Int):=by rw[qdC (by omega) (by omega)];omega
       have hit:i+t<N:=by omega
       have o1:O t (i+t)=PS A B i (i+t):=by rw[hO];exact if_neg (by omega)
       have m1:=qan ((hA i).sm (by omega)) ((hB t).sm (by omega))
       rw[qae,qae] at m1
       have m2:=qce ((hS i (i+t)).sm (by omega)) (((hA i).mul (hB t)).sm (by omega))
       rw[qae,qae] at m2
       have e1:PS A B i (i+t)+A i*B t=PS A B (i+1) (i+t):=by rw[qwC,if_pos (by omega),show i+t-i=t by omega]
       rw[qdm,cnd e0,cnd (by omega),tN0,qe4 _ ht,bS0,ix,cnd2 (by omega) (by rw[qaB];omega),tN0,qe4 _ hit,bS0,o1]
       show(qah (canQ (A i)) (canQ (B t))).bind _=_
       rw[m1,bS0,m2,bS0,cnd2 (by omega) (by rw[qaB];omega),bS0,qa4 (by omega),e1]
       rw[qtk (p:=O (t+1)) (by rw[hO];exact if_pos (by omega)) (fun f hf=>by
         rw[hO]
         show(if i≤f∧f<i+(t+1) then _ else _)=if i≤f∧f<i+t then _ else _
         by_cases h:i≤f∧f<i+t
         · rw[if_pos (by omega),if_pos h]
         · rw[if_neg (by omega),if_neg h])]
       rfl) (by
       intro g
       rw[qdm,cnd' (by rw[qaB];omega)]
       rw[qfS (o:=O lb) (p:=PS A B (i+1)) (fun f hf=>by
         rw[hO]
         show(if i≤f∧f<i+lb then _ else _)=_
         by_cases h:i≤f∧f<i+lb
         · rw[if_pos h]
         · rw [if_neg h, qwC]
           split
           · rw[zb _ (by omega),Rat.mul_zero,Rat.add_zero]
           · rw[Rat.add_zero])])
      have e3:flo N (O 0)=flo N (PS A B i):=qfS fun f _=>by rw[hO];exact if_neg (by omega)
      rw[e3] at k3
      have k3:lp qdm K0 ((flo lb B,flo N (PS A B i),(i:Int),flo la A,(la:Int),(i:Int),flo lb B,((flo lb B).length:Int),0,()),(((canQ (A i)).1.1,(canQ (A i)).1.2,(canQ (A i)).2,()),()))=_:=k3
      rw[qdn,cnd d0,cnd2 (by omega) d1,tN0,qe4 _ hi,bS0,k3,bS0]
      dsimp only
      rw[qa4 (by omega)]
      rfl) (by
      intro g
      rw[qdn,cnd' (by omega)])
     have k2:lp qdn K0 ((flo lb B,flo N (fun _=>0),flo la A,(la:Int),0,()),())=_:=k2
     rw[cnd' (by omega),cnd' (by omega),i1,i2,c1,cond_true,tN0,List.length_replicate,k1,bS0]
     dsimp only
     rw[qaB,k2,bS0]
     dsimp only
     rw[qp7 (by omega) (fun t _=>(hS la t).mono (by omega)),bS0,eN]
def mulF (x:BA) (P:Nat→Rat) (k:Nat):Rat:=x.1*P k+(if k=0 then 0 else x.2*P (k-1))
theorem qCr {A B:Nat→Rat} (hB:∀ t,2≤t→B t=0) (i t:Nat):PS A B i t=(if t<i then A t*B 0 else 0)+(if 1≤t∧t-1<i then A (t-1)*B 1 else 0):=by
 induction i with
 | zero=>rw[if_neg (by omega),if_neg (by omega),Rat.add_zero];rfl
 | succ i ih =>
  rw[qwC,ih]
  by_cases h1:t=i
  · subst h1
    rw[if_neg (show ¬ t<t by omega),if_pos (show t≤t by omega),if_pos (show t<t+1 by omega),Nat.sub_self]
    by_cases h2:1≤t
    · rw[if_pos (show 1≤t∧t-1<t by omega),if_pos (show 1≤t∧t-1<t+1 by omega)];grind
    · rw[if_neg (show ¬ (1≤t∧t-1<t) by omega),if_neg (show ¬ (1≤t∧t-1<t+1) by omega),Rat.add_zero,Rat.zero_add,Rat.add_zero]
  · by_cases h2 : t = i + 1
    · subst h2
      rw[if_neg (show ¬ i+1<i by omega),if_neg (show ¬ (1≤i+1∧i+1-1<i) by omega),if_pos (show i≤i+1 by omega),if_neg (show ¬ i+1<i+1 by omega),if_pos (show 1≤i+1∧i+1-1<i+1 by omega),show i+1-i=1 by omega,show i+1-1=i by omega,Rat.add_zero]
    · by_cases h3 : t < i
      · rw [if_pos h3, if_neg (show ¬ i ≤ t by omega), if_pos (show t < i + 1 by omega), Rat.add_zero]
        by_cases h4:1≤t
        · rw[if_pos (show 1≤t∧t-1<i by omega),if_pos (show 1≤t∧t-1<i+1 by omega)]
        · rw[if_neg (show ¬ (1≤t∧t-1<i) by omega),if_neg (show ¬ (1≤t∧t-1<i+1) by omega)]
      · rw[if_neg h3,if_neg (show ¬ (1≤t∧t-1<i) by omega),if_pos (show i≤t by omega),if_neg (show ¬ t<i+1 by omega),if_neg (show ¬ (1≤t∧t-1<i+1) by omega),hB _ (show 2≤t-i by omega),Rat.mul_zero,Rat.add_zero]
theorem qzx {n j k:Nat} {P:Nat→Rat} {b:List RAT} {x:BA} (hn:n≤900) (hP:∀ i,SzQ (P i) j) (h0:∀ i,n≤i→P i=0) (hb:LSz b k) (hj:0<j) (hk:0<k) (hj2:j<100000000) (hk2:k<100000000)
   (b0:vals b 0=x.1) (b1:vals b 1=x.2) (b2:b.length≤2) :
   qms (polL n P) b=some (polL (n+1) (mulF x P))∧(∀ i,SzQ (mulF x P i) (2*j+2*k+1))∧∀ i,n+1≤i→mulF x P i=0:=by
 have hv:vals (polL n P)=P:=by funext i;exact qnP h0
 have hB:∀ t,2≤t→vals b t=0:=fun t ht=>qil (by omega)
 have hbz:∀ t,SzQ (vals b t) k:=fun t=>hb.vals hk
 have z0:∀ m,SzQ 0 (m+k):=fun m=>SzQ.zero.mono (by omega)
 have hS:∀ i t,SzQ (PS P (vals b) i t) (2*j+2*k+1):=fun i t=>by
   rw[qCr hB]
   have s1:SzQ (if t<i then P t*vals b 0 else 0) (j+k):=by
     split
     · exact(hP t).mul (hbz 0)
     · exact z0 j
   have s2:SzQ (if 1≤t∧t-1<i then P (t-1)*vals b 1 else 0) (j+k):=by
     split
     · exact(hP (t-1)).mul (hbz 1)
     · exact z0 j
   exact(s1.add s2).mono (by omega)
 have hM:=qvR (a:=polL n P) (b:=b) (LSz.polL (by omega) fun i _=>hP i) hb hj hk hj2 hk2 (s:=2*j+2*k+1) (by omega) (by rw[hv];exact hS)
 rw[hv] at hM
 obtain⟨la,ela⟩:∃ la,la=topN P (polL n P).length:=⟨_,rfl⟩
 obtain⟨lb,elb⟩:∃ lb,lb=topN (vals b) b.length:=⟨_,rfl⟩
 have hla:la≤n:=by rw[ela];exact Nat.le_trans (qhc _ _) (by rw[qmt];exact qhc _ _)
 have zA:∀ t,la≤t→P t=0:=fun t ht=>by
   by_cases h:t<(polL n P).length
   · exact qgx (by omega) h
   · rw[← hv];exact qil (by omega)
 have zB:∀ t,lb≤t→vals b t=0:=fun t ht=>by
   by_cases h:t<b.length
   · exact qgx (by omega) h
   · exact qil (by omega)
 have hlb:lb≤2:=by rw[elb];exact Nat.le_trans (qhc _ _) b2
 have hPS:∀ t,PS P (vals b) la t=mulF x P t:=fun t=>by
   rw[qCr hB,mulF,b0,b1]
   congr 1
   · split
     · rw[Rat.mul_comm]
     · rw[zA t (by omega),Rat.mul_zero]
   · by_cases h : t = 0
     · rw[if_neg (by omega),if_pos h]
     · rw [if_neg h]
       by_cases h2:t-1<la
       · rw[if_pos (by omega),Rat.mul_comm]
       · rw[if_neg (by omega),zA _ (by omega),Rat.mul_zero]
 have hz:∀ i,n+1≤i→mulF x P i=0:=fun i hi=>by
   rw[mulF,h0 i (by omega),if_neg (by omega),h0 (i-1) (by omega),Rat.mul_zero,Rat.mul_zero,Rat.add_zero]
 refine⟨?_,fun i=>by rw[← hPS];exact hS la i,hz⟩
 rw[hM,← ela,← elb]
 congr 1
 have e1:PS P (vals b) la=mulF x P:=by funext t;exact hPS t
 rw[e1]
 symm
 have hz2:∀ i,la+lb-1≤i→mulF x P i=0:=fun i hi=>by
   by_cases hlb0:lb=0
   · rw [mulF, ← b0, ← b1, zB 0 (by omega), zB 1 (by omega)]
     split<;>simp [Rat.zero_mul,Rat.add_zero]
   · by_cases hlb1 : lb = 1
     · rw [mulF, ← b1, zB 1 (by omega), zA i (by omega)]
       split<;>simp [Rat.zero_mul,Rat.mul_zero,Rat.add_zero]
     · rw [mulF, zA i (by omega)]
       split
       · simp [Rat.mul_zero,Rat.add_zero]
       · rw[zA (i-1) (by omega),Rat.mul_zero,Rat.mul_zero,Rat.add_zero]
 by_cases hle:la+lb-1≤n+1
 · exact qp8 hz2 hle
 · exact(qp8 hz (by omega)).symm
def polF:List BA→Nat→Rat
 | []=>fun k=>if k=0 then 1 else 0
 | x::L=>mulF x (polF L)
theorem qzh (L:List BA):∀ k,polF L k=EE L fun j=>if j=k then 1 else 0:=by
 induction L with
 | nil => intro k; show (if k = 0 then (1 : Rat) else 0) = if 0 = k then 1 else 0
          by_cases h:k=0
          · subst h;rfl
          · rw[if_neg h,if_neg (fun e=>h e.symm)]
 | cons x L ih =>
  intro k
  show mulF x (polF L) k=_
  rw[mulF,EE,ih]
  congr 1
  by_cases h:k=0
  · subst h
    rw[if_pos rfl]
    have:EE L (fun j=>if j+1=0 then (1:Rat) else 0)=EE L fun j=>0*0:=qtB fun j _=>by rw[if_neg (by omega),Rat.mul_zero]
    rw[this,qEE,Rat.zero_mul,Rat.mul_zero]
  · rw [if_neg h, ih]
    congr 1
    refine qtB fun j _=>?_
    by_cases e:j=k-1
    · rw[if_pos e,if_pos (by omega)]
    · rw[if_neg e,if_neg (by omega)]
theorem qn9 (L:List BA):∀ k,L.length+1≤k→polF L k=0:=by
 induction L with
 | nil=>intro k h;exact if_neg (by simp at h;omega)
 | cons x L ih =>
  intro k h
  simp only[List.length_cons] at h
  show mulF x (polF L) k=0
  rw[mulF,ih k (by omega),if_neg (by omega),ih (k-1) (by omega),Rat.mul_zero,Rat.mul_zero,Rat.add_zero]
def baP (p:PART):BA:=(rv p.2.1,one0 p.2.2)
def PaSz (l:List PART) (k:Nat):Prop:=l.length≤16∧∀ p∈l,SzR p.2.1 k
theorem qre {p:PART} {k:Nat} (h:SzR p.2.1 k) (hk:0<k):∃ b,qfo p=some b∧LSz b k∧b.length≤2∧vals b 0=(baP p).1∧vals b 1=(baP p).2∧b=(if p.2.2 then [p.2.1,canQ 1] else [p.2.1]):=by
 unfold qfo baP
 cases hb:p.2.2 with
 | true =>
  refine⟨[p.2.1,canQ 1],by rw[cond_true,qf8];rfl,⟨by simp,fun x hx=>?_⟩,by simp,rfl,?_,rfl⟩
  · simp only [List.mem_cons, List.not_mem_nil, or_false] at hx
    rcases hx with rfl | rfl
    · exact h
    · exact(SzQ.one.mono hk).szR
  · show rv (canQ 1) = one0 true
    rw[qae];rfl
 | false =>
  refine⟨[p.2.1],rfl,⟨by simp,fun x hx=>?_⟩,by simp,rfl,qvF,rfl⟩
  simp only[List.mem_cons,List.not_mem_nil,or_false] at hx
  subst hx;exact h
def lfac (l:List PART):List BA:=(l.map baP).reverse
theorem quS {l:List PART} {i:Nat} (h:i<l.length):lfac (l.take (i+1))=baP l[i]::lfac (l.take i):=by
 rw[lfac,List.take_succ_eq_append_getElem h,List.map_append,List.reverse_append];rfl
theorem qtf (l:List PART):(lfac l).length=l.length:=by simp [lfac]
theorem qAB {l:LEG} {k:Nat} (h:PaSz l.2.2 k) (hk:0<k) (hk2:k≤200):qhr l=some (polL (l.2.2.length+1) (polF (lfac l.2.2)))∧∀ t,SzQ (polF (lfac l.2.2) t) (65536*(2*k+2)):=by
 obtain⟨ps,eps⟩:∃ ps,ps=l.2.2:=⟨_,rfl⟩
 rw[← eps] at h ⊢
 have h16:=h.1
 obtain⟨s,hs⟩:∃ s:Nat→Nat,s=fun i=>2 ^ i*(2*k+2)-(2*k+1):=⟨_,rfl⟩
 have hs0:s 0=1:=by rw[hs];show 2 ^ 0*(2*k+2)-(2*k+1)=1;omega
 have hs1:∀ i,s (i+1)=2*s i+2*k+1:=fun i=>by
   rw[hs]
   show 2 ^ (i+1)*(2*k+2)-(2*k+1)=2*(2 ^ i*(2*k+2)-(2*k+1))+2*k+1
   have hp:1≤2 ^ i:=Nat.one_le_two_pow
   obtain⟨x,hx⟩:∃ x,x=2 ^ i*(2*k+2):=⟨_,rfl⟩
   have hx2:2 ^ (i+1)*(2*k+2)=2*x:=by rw[hx,Nat.pow_succ,Nat.mul_comm (2 ^ i) 2,Nat.mul_assoc]
   have hx3:2*k+2≤x:=by have:=Nat.mul_le_mul_right (2*k+2) hp;omega
   rw[hx2,← hx];omega
 have hsl:∀ i,i≤16→s i≤65536*(2*k+2):=fun i hi=>by
   have hp:2 ^ i≤65536:=Nat.pow_le_pow_right (n:=2) (by decide) hi
   have:=Nat.mul_le_mul_right (2*k+2) hp
   rw[hs]
   show 2 ^ i*(2*k+2)-(2*k+1)≤_
   omega
 have main:∀ i,i≤ps.length→∀ t,SzQ (polF (lfac (ps.take i)) t) (s i):=by
   intro i
   induction i with
   | zero =>
    intro _ t
    rw[hs0]
    show SzQ (if t=0 then 1 else 0) 1
    split
    · exact SzQ.one
    · exact SzQ.zero
   | succ i ih =>
    intro hi
    obtain⟨b,_,b2,b3,b4,b5,_⟩:=qre (h.2 _ (gM0 (show i<ps.length by omega))) hk
    have:=(qzx (n:=i+1) (P:=polF (lfac (ps.take i))) (b:=b) (x:=baP ps[i]) (by omega) (ih (by omega)) (fun t ht=>qn9 _ _ (by rw[qtf,List.length_take];omega)) b2 (by
      have:1≤s i:=by
       cases i with
       | zero=>omega
       | succ i=>have:=hs1 i;omega
      omega) hk (by have:=hsl i (by omega);omega) (by omega) b4 b5 b3).2.1
    intro t
    rw[quS (by omega),hs1]
    exact this t
 have key:=qfu (step:=qcq) (fun i=>((polL (i+1) (polF (lfac (ps.take i))),ps,(ps.length:Int),(i:Int),()),())) ps.length (r:=((polL (ps.length+1) (polF (lfac ps)),()),())) (by omega) (by
   intro g i hi
   have d0:(i:Int)<(ps.length:Int):=by omega
   obtain⟨b,b1,b2,b3,b4,b5,_⟩:=qre (h.2 _ (gM0 hi)) hk
   have hm:=(qzx (n:=i+1) (P:=polF (lfac (ps.take i))) (b:=b) (x:=baP ps[i]) (by omega) (main i (by omega)) (fun t ht=>qn9 _ _ (by rw[qtf,List.length_take];omega)) b2 (by
      have:1≤s i:=by
       cases i with
       | zero=>omega
       | succ i=>have:=hs1 i;omega
      omega) hk (by have:=hsl i (by omega);omega) (by omega) b4 b5 b3).1
   rw[qcq,cnd d0,cnd (by omega),tN0,gE0 hi,bS0,b1,bS0,hm,bS0,qa4 (by omega),quS hi]
   rfl) (by
   intro g
   rw[qcq,cnd' (by omega),List.take_of_length_le (Nat.le_refl _)])
 have e0:polL (0+1) (polF (lfac (ps.take 0)))=[canQ 1]:=by
   have:topN (polF (lfac (ps.take 0))) 1=1:=qtK (n:=0) (by show(if 0=0 then (1:Rat) else 0)≠0;decide)
   rw[polL,this];rfl
 rw[e0] at key
 have key:lp qcq K0 (([canQ 1],ps,(ps.length:Int),0,()),())=_:=key
 refine⟨?_,fun t=>?_⟩
 · rw[qhr,qf8,bS0,← eps,key];rfl
 · have := main ps.length (Nat.le_refl _) t
   rw[List.take_of_length_le (Nat.le_refl _)] at this
   exact this.mono (hsl _ h16)
theorem qm5:qcH=some true:=by decide +kernel
theorem qzy {x:BA} {P:Nat→Rat} {j k:Nat} (h1:SzQ x.1 k) (h2:SzQ x.2 k) (hP:∀ t,SzQ (P t) j) (t:Nat):SzQ (mulF x P t) (2*j+2*k+1):=by
 unfold mulF
 have a:=h1.mul (hP t)
 have b:SzQ (if t=0 then 0 else x.2*P (t-1)) (k+j):=by
  split
  · exact SzQ.zero.mono (by have:=h1.pos;omega)
  · exact h2.mul (hP _)
 exact(a.add b).mono (by omega)
def cutQ (Q:Nat→Rat) (m t:Nat):Rat:=if t<m then Q t else 0
theorem qrl (x:BA) (Q:Nat→Rat) (i t:Nat):mulF x (cutQ Q (i+1)) t=mulF x (cutQ Q i) t+(if t=i then Q i*x.1 else 0)+(if t=i+1 then Q i*x.2 else 0):=by
 unfold mulF cutQ
 by_cases h1:t=i
 · subst h1
   rw[if_pos (show t<t+1 by omega),if_neg (show ¬ t<t by omega),if_pos rfl,if_neg (show ¬ t=t+1 by omega)]
   by_cases h0:t=0
   · rw[if_pos h0,if_pos h0];grind
   · rw[if_neg h0,if_neg h0,if_pos (show t-1<t+1 by omega),if_pos (show t-1<t by omega)];grind
 · rw [if_neg h1]
   by_cases h2:t=i+1
   · subst h2
     rw[if_neg (show ¬ i+1<i+1 by omega),if_neg (show ¬ i+1<i by omega),if_neg (show ¬ i+1=0 by omega),if_pos rfl,if_neg (show ¬ i+1=0 by omega),show i+1-1=i by omega,if_pos (show i<i+1 by omega),if_neg (show ¬ i<i by omega)];grind
   · rw [if_neg h2]
     have e1:(if t<i+1 then Q t else 0)=if t<i then Q t else 0:=by
       by_cases h:t<i
       · rw[if_pos h,if_pos (by omega)]
       · rw[if_neg h,if_neg (by omega)]
     have e2:t≠0→(if t-1<i+1 then Q (t-1) else 0)=if t-1<i then Q (t-1) else 0:=fun h0=>by
       by_cases h:t-1<i
       · rw[if_pos h,if_pos (by omega)]
       · rw[if_neg h,if_neg (by omega)]
     rw[e1]
     by_cases h0:t=0
     · simp only[if_pos h0,Rat.add_zero]
     · simp only[if_neg h0,e2 h0,Rat.add_zero]
theorem qyF {n j k lb:Nat} {Q:Nat→Rat} {b:List RAT} {x:BA} (hn:n≤900) (hQ:∀ i,SzQ (Q i) j) (h0:∀ i,n≤i→Q i=0) (hb:LSz b k) (hk:0<k) (hj2:j<100000000) (hk2:k<1000000)
   (b0:vals b 0=x.1) (b1:vals b 1=x.2) (b2:b.length≤2) (hlb:lb=topN (vals b) b.length) (hl:lb≠0) :
   ∃ rest,qeT (polL (n+1) (mulF x Q)) b=some (polL n Q,rest,0):=by
 have hv1:SzQ x.1 k:=b0 ▸ hb.vals hk
 have hv2:SzQ x.2 k:=b1 ▸ hb.vals hk
 have hz:∀ i,n+1≤i→mulF x Q i=0:=fun i hi=>by
   rw[mulF,h0 i (by omega),if_neg (by omega),h0 (i-1) (by omega),Rat.mul_zero,Rat.mul_zero,Rat.add_zero]
 have hvals:vals (polL (n+1) (mulF x Q))=mulF x Q:=by funext t;exact qnP hz
 have hA:LSz (polL (n+1) (mulF x Q)) (2*j+2*k+1):=LSz.polL (by omega) fun i _=>qzy hv1 hv2 hQ i
 have ca:=qff hA (by omega) (by omega)
 have cb:=qff hb hk (by omega)
 rw[hvals] at ca
 have zB:∀ t,lb≤t→vals b t=0:=fun t ht=>by
   by_cases h:t<b.length
   · exact qgx (by omega) h
   · exact qil (by omega)
 have hlb2:lb≤2:=by rw[hlb];exact Nat.le_trans (qhc _ _) b2
 have hlast:vals b (lb-1)≠0:=by rw[hlb] at hl ⊢;exact qtJ hl
 have eb:polL b.length (vals b)=flo lb (vals b):=by rw[polL,hlb]
 rw[eb] at cb
 obtain⟨q0,hq0⟩:∃ q0,q0=topN Q n:=⟨_,rfl⟩
 have zQ:∀ t,q0≤t→Q t=0:=fun t ht=>by
   by_cases h:t<n
   · exact qgx (by omega) h
   · exact h0 t (by omega)
 have hq0n:q0≤n:=by rw[hq0];exact qhc _ _
 have ea:polL (polL (n+1) (mulF x Q)).length (mulF x Q)=polL (n+1) (mulF x Q):=by
   rw[qmt]
   have:polL (topN (mulF x Q) (n+1)) (mulF x Q)=polL (n+1) (mulF x Q):=by
     symm
     refine qp8 (fun t ht=>?_) (qhc _ _)
     by_cases h:t<n+1
     · exact qgx ht h
     · exact hz t (by omega)
   exact this
 rw[ea] at ca
 by_cases hq:q0=0
 ·
   have e1:topN (mulF x Q) (n+1)=0:=qnR fun t _=>by
     rw[mulF,zQ t (by omega),zQ (t-1) (by omega),Rat.mul_zero,Rat.mul_zero,ite_self,Rat.add_zero]
   have e2:polL (n+1) (mulF x Q)=[]:=by rw[polL,e1];rfl
   have e3:polL n Q=[]:=by rw[polL,← hq0,hq];rfl
   refine⟨[],?_⟩
   rw[e2] at ca ⊢
   rw[qeT,ca,bS0,cb,bS0,qaB,cnd' (by omega),cnd (by simp;omega),e3]
 · have hlq : Q (q0 - 1) ≠ 0 := by rw [hq0] at hq ⊢; exact qtJ hq
   obtain⟨la,hla⟩:∃ la,la=q0+lb-1:=⟨_,rfl⟩
   have cases2:(lb=1∧x.2=0∧x.1≠0)∨(lb=2∧x.2≠0):=by
     by_cases h1:lb=1
     · left
       refine⟨h1,by rw[← b1];exact zB 1 (by omega),by rw[← b0];rw[h1] at hlast;exact hlast⟩
     · right
       have:lb=2:=by omega
       refine⟨this,by rw[← b1];rw[this] at hlast;exact hlast⟩
   have top:∀ i,mulF x (cutQ Q (i+1)) (i+lb-1)=Q i*vals b (lb-1):=fun i=>by
     rw[qrl]
     have hc:∀ t,i≤t→cutQ Q i t=0:=fun t ht=>if_neg (by omega)
     rcases cases2 with ⟨h1,h2,h3⟩ | ⟨h1,h2⟩
     · subst h1
       rw[show i+1-1=i by omega,if_pos rfl,if_neg (by omega),mulF,h2,hc i (Nat.le_refl _),show(1:Nat)-1=0 from rfl,b0]
       split<;>grind
     · subst h1
       rw[show i+2-1=i+1 by omega,if_neg (by omega),if_pos rfl,mulF,hc (i+1) (by omega),if_neg (by omega),show i+1-1=i by omega,hc i (Nat.le_refl _),show(2:Nat)-1=1 from rfl,b1]
       grind
   have cutAll:∀ t,cutQ Q q0 t=Q t:=fun t=>by
     unfold cutQ
     split
     · rfl
     · rw[zQ t (by omega)]
   have mAll:mulF x (cutQ Q q0)=mulF x Q:=by
     have:cutQ Q q0=Q:=by funext t;exact cutAll t
     rw[this]
   have topla:topN (mulF x Q) (n+1)=la:=by
     have h1:=top (q0-1)
     rw[show q0-1+1=q0 by omega,mAll,show q0-1+lb-1=la-1 by omega] at h1
     have h2:mulF x Q (la-1)≠0:=by
       rw[h1]
       intro e
       rcases Rat.mul_eq_zero.1 e with e | e
       · exact hlq e
       · exact hlast e
     have h3:∀ t,la≤t→mulF x Q t=0:=fun t ht=>by
       rcases cases2 with ⟨h1,h2,_⟩ | ⟨h1,_⟩
       · rw[mulF,h2,zQ t (by omega),Rat.mul_zero,Rat.zero_mul,ite_self,Rat.add_zero]
       · rw[mulF,zQ t (by omega),if_neg (by omega),zQ (t-1) (by omega),Rat.mul_zero,Rat.mul_zero,Rat.add_zero]
     have e4:la=(la-1)+1:=by omega
     rw[qwN h3 (by omega),e4]
     exact qtK h2
   have ea2:polL (n+1) (mulF x Q)=flo la (mulF x Q):=by rw[polL,topla]
   have hBz:∀ t,SzQ (vals b t) k:=fun t=>hb.vals hk
   have cz:∀ m t,SzQ (cutQ Q m t) j:=fun m t=>by
     unfold cutQ
     split
     · exact hQ t
     · have:=hQ (n+t);rw[h0 (n+t) (by omega)] at this;exact this
   obtain⟨M,hM⟩:∃ M:Nat→Nat→Rat,M=fun m=>mulF x (cutQ Q m):=⟨_,rfl⟩
   have mz:∀ m t,SzQ (M m t) (2*j+2*k+1):=fun m t=>by rw[hM];exact qzy hv1 hv2 (cz m) t
   obtain⟨hd,hhd⟩:∃ hd:Rat,hd=(vals b (lb-1))⁻¹:=⟨_,rfl⟩
   have hdz:SzQ hd k:=by rw[hhd];exact(hBz _).inv
   obtain⟨G,hG⟩:∃ G:Nat→Nat→RAT,G=fun m t=>if t<m then raw0 else canQ (Q t):=⟨_,rfl⟩
   have inv:=qlm (a:=canQ (vals b (lb-1))) ((hBz _).sm (by omega))
   rw[qae] at inv
   have hi0:qhJ (canQ (vals b (lb-1)))=some (canQ hd,0):=by rw[inv,if_neg hlast,hhd]
   have key:=qfu (step:=qcp) (fun i=>((flo la (M (q0-i)),flo lb (vals b),flx q0 (G (q0-i)),(q0:Int)-1-(i:Int),()),(((canQ hd).1.1,(canQ hd).1.2,(canQ hd).2,()),()))) q0 (r:=((flo la (M 0),flx q0 (G 0),()),())) (by omega) (by
     intro g i hi
     obtain⟨m,hm⟩:∃ m,q0-i=m+1:=⟨q0-i-1,by omega⟩
     have e1:(q0:Int)-1-(i:Int)=(m:Int):=by omega
     have e2:q0-(i+1)=m:=by omega
     have e3:(q0:Int)-1-((i+1:Nat):Int)=(m:Int)-1:=by omega
     rw[hm,e1,e2,e3]
     have ix:isub .i64 (iadd .i64 (m:Int) ((flo lb (vals b)).length:Int)) 1=((m+lb-1:Nat):Int):=by
       rw[qaB,qdC (by omega) (by omega),qbw (by omega) (by omega)];omega
     have hml:m+lb-1<la:=by omega
     have hm1:=qan ((mz (m+1) (m+lb-1)).sm (by omega)) (hdz.sm (by omega))
     rw[qae,qae] at hm1
     have hq:M (m+1) (m+lb-1)*hd=Q m:=by
       rw[hM]
       show mulF x (cutQ Q (m+1)) (m+lb-1)*hd=Q m
       rw[top m,hhd,Rat.mul_assoc,Rat.mul_inv_cancel _ hlast,Rat.mul_one]
     rw[hq] at hm1
     have hset:(flx q0 (G (m+1))).set m (canQ (Q m))=flx q0 (G m):=qtj (by rw[hG];exact if_neg (by omega)) (fun f hf=>by
       rw[hG]
       show(if f<m then _ else _)=if f<m+1 then _ else _
       by_cases h:f<m
       · rw[if_pos h,if_pos (by omega)]
       · rw[if_neg h,if_neg (by omega)])
     obtain⟨O,hO⟩:∃ O:Nat→Nat→Rat,O=fun j t=>if m≤t∧t<m+j then M m t else M (m+1) t:=⟨_,rfl⟩
     have gm:(flx q0 (G m))[m]?=some (canQ (Q m)):=by
       rw[qnn _ (by omega),hG]
       exact congrArg some (if_neg (by omega))
     have k3:=qfu (step:=qbW) (fun j=>((flo la (O j),flo lb (vals b),flx q0 (G m),(m:Int),flo lb (vals b),((flo lb (vals b)).length:Int),(j:Int),()),(((canQ hd).1.1,(canQ hd).1.2,(canQ hd).2,()),()))) lb (r:=((flo la (M m),flo lb (vals b),flx q0 (G m),(m:Int),()),(((canQ hd).1.1,(canQ hd).1.2,(canQ hd).2,()),()))) (by omega) (by
       intro g t ht
       have e0:(t:Int)<((flo lb (vals b)).length:Int):=by rw[qaB];omega
       have iy:iadd .i64 (m:Int) (t:Int)=((m+t:Nat):Int):=by rw[qdC (by omega) (by omega)];omega
       have hit:m+t<la:=by omega
       have o1:O t (m+t)=M (m+1) (m+t):=by rw[hO];exact if_neg (by omega)
       have m1:=qan ((hQ m).sm (by omega)) ((hBz t).sm (by omega))
       rw[qae,qae] at m1
       have m2:=qpv ((mz (m+1) (m+t)).sm (by omega)) (((hQ m).mul (hBz t)).sm (by omega))
       rw[qae,qae] at m2
       have e1:M (m+1) (m+t)-Q m*vals b t=M m (m+t):=by
         rw[hM]
         show mulF x (cutQ Q (m+1)) (m+t)-Q m*vals b t=mulF x (cutQ Q m) (m+t)
         rw[qrl]
         have:t=0∨t=1:=by omega
         rcases this with rfl | rfl
         · rw[if_pos (show m+0=m by omega),if_neg (show ¬ m+0=m+1 by omega),b0];grind
         · rw[if_neg (show ¬ m+1=m by omega),if_pos rfl,b1];grind
       rw[qbW,cnd e0,cnd (by omega),tN0,qe4 _ ht,bS0,iy,cnd2 (by omega) (by rw[qaB];omega),tN0,qe4 _ hit,bS0,o1,cnd2 (by omega) (by rw[qkN];omega),tN0,gm,bS0,m1,bS0,m2,bS0,cnd2 (by omega) (by rw[qaB];omega),bS0,qa4 (by omega),e1]
       rw[qtk (p:=O (t+1)) (by rw[hO];exact if_pos (by omega)) (fun f hf=>by
         rw[hO]
         show(if m≤f∧f<m+(t+1) then _ else _)=if m≤f∧f<m+t then _ else _
         by_cases h:m≤f∧f<m+t
         · rw[if_pos (by omega),if_pos h]
         · rw[if_neg (by omega),if_neg h])]
       rfl) (by
       intro g
       rw[qbW,cnd' (by rw[qaB];omega)]
       rw[qfS (o:=O lb) (p:=M m) (fun f hf=>by
         rw[hO]
         show(if m≤f∧f<m+lb then _ else _)=_
         by_cases h:m≤f∧f<m+lb
         · rw[if_pos h]
         · rw [if_neg h, hM]
           show mulF x (cutQ Q (m+1)) f=mulF x (cutQ Q m) f
           rw[qrl,if_neg (by omega),Rat.add_zero]
           split
           · rename_i hf1
             have:lb=1:=by omega
             rcases cases2 with ⟨_,h2,_⟩ | ⟨h1,_⟩
             · rw[h2,Rat.mul_zero,Rat.add_zero]
             · omega
           · rw[Rat.add_zero])])
     have e4:flo la (O 0)=flo la (M (m+1)):=qfS fun f _=>by rw[hO];exact if_neg (by omega)
     rw[e4] at k3
     have k3:lp qbW K0 ((flo la (M (m+1)),flo lb (vals b),flx q0 (G m),(m:Int),flo lb (vals b),((flo lb (vals b)).length:Int),0,()),(((canQ hd).1.1,(canQ hd).1.2,(canQ hd).2,()),()))=_:=k3
     rw[qcp,cnd (by omega),ix,cnd2 (by omega) (by rw[qaB];omega),tN0,qe4 _ hml,bS0]
     show(qah _ (canQ hd)).bind _=_
     rw[hm1,bS0,cnd2 (by omega) (by rw[qkN];omega),tN0,qnn _ (by omega),bS0,hset,k3,bS0]
     dsimp only
     rw[qbw (by omega) (by omega)]) (by
     intro g
     rw[Nat.sub_self,show(q0:Int)-1-(q0:Int)=-1 by omega,qcp,cnd' (by omega)])
   rw[Nat.sub_zero,show(q0:Int)-1-((0:Nat):Int)=(q0:Int)-1 by omega] at key
   have eM:M q0=mulF x Q:=by rw[hM];exact mAll
   rw[eM] at key
   have eG:flx q0 (G q0)=List.replicate q0 raw0:=by
     have:flx q0 (G q0)=flx q0 fun _=>raw0:=qor fun t ht=>by rw[hG];exact if_pos ht
     rw[this,flx,List.map_const',List.length_range]
   rw[eG] at key
   have eG0:flx q0 (G 0)=flo q0 Q:=by rw[hG];rfl
   rw[eG0] at key
   have i1:isub .i64 (lb:Int) 1=((lb-1:Nat):Int):=by rw[qbw (by omega) (by omega)];omega
   have i2:iadd .i64 (isub .i64 (la:Int) (lb:Int)) 1=(q0:Int):=by rw[qbw (by omega) (by omega),qdC (by omega) (by omega)];omega
   have i3:isub .i64 (q0:Int) 1=(q0:Int)-1:=qbw (by omega) (by omega)
   have c1:(decide ((q0:Int)=(q0:Int))&&decide (0≤(q0:Int))&&decide (((56:Nat):Int)*(q0:Int)≤281474976710656)&&decide ((q0:Int)≤9223372036854775807))=true:=by
     rw[decide_eq_true rfl,decide_eq_true (by omega),decide_eq_true (by omega),decide_eq_true (by omega)];rfl
   refine⟨polL la (M 0),?_⟩
   rw[ea2] at ca ⊢
   rw[qeT,ca,bS0,cb,bS0,qaB,qaB,cnd' (by omega),cnd' (by omega),i1,cnd2 (by omega) (by omega),tN0,qe4 _ (by omega),bS0,hi0,bS0,i2,c1,cond_true,tN0,List.length_replicate,i3]
   dsimp only
   have key:lp qcp K0 ((flo la (mulF x Q),flo lb (vals b),List.replicate q0 (((false,[]),[]):RAT),(q0:Int)-1,()),(((canQ hd).1.1,(canQ hd).1.2,(canQ hd).2,()),()))=_:=key
   rw[key,bS0]
   dsimp only
   rw[qp7 (by omega) (fun t _=>(hQ t).mono (by omega)),bS0,qp7 (by omega) (fun t _=>(mz 0 t).mono (by omega)),bS0,qp8 zQ hq0n]
theorem qqI {L M:List BA} (h:L.Perm M):polF L=polF M:=by
 funext k;rw[qzh,qzh];exact qwF h _
theorem qBf {ps:List PART} {i:Nat} (h:i<ps.length):(lfac ps).Perm (baP ps[i]::lfac (ps.take i++ps.drop (i+1))):=by
 unfold lfac
 refine(List.reverse_perm _).trans ?_
 refine List.Perm.trans ?_ (List.Perm.cons _ (List.reverse_perm _).symm)
 have e:ps=ps.take i++ps[i]::ps.drop (i+1):=by
  rw[← List.drop_eq_getElem_cons h,List.take_append_drop]
 have hp:ps.Perm (ps[i]::(ps.take i++ps.drop (i+1))):=by
  conv=>lhs;rw[e]
  exact List.perm_middle
 have:=hp.map baP
 rwa [List.map_cons] at this
theorem quq {a b:List RAT} {j k:Nat} (ha:LSz a j) (hb:LSz b k) (hj:0<j) (hk:0<k) (hj2:j<1000000000) (hk2:k<1000000000) (h:topN (vals b) b.length=0):qeT a b=some ([],[],2):=by
 rw[qeT,qff ha hj hj2,bS0,qff hb hk hk2,bS0,qmt,h,cnd (by omega)]
theorem qyD {l:LEG} {k i:Nat} (h:PaSz l.2.2 k) (hk:0<k) (hk2:k≤200) (hi:i<l.2.2.length) :
   qcU l (i:Int)=some (if (l.2.2[i]).2.2=false∧rv (l.2.2[i]).2.1=0 then ([],2) else (polL l.2.2.length (polF (lfac (l.2.2.take i++l.2.2.drop (i+1)))),0))∧∀ t,SzQ (polF (lfac (l.2.2.take i++l.2.2.drop (i+1))) t) (65536*(2*k+2)):=by
 obtain⟨p1,p2⟩:=qAB h hk hk2
 obtain⟨fn,fq,ps⟩:=l
 have h:PaSz ps k:=h
 have hi:i<ps.length:=hi
 have p1:qhr (fn,fq,ps)=some (polL (ps.length+1) (polF (lfac ps))):=p1
 have p2:∀ t,SzQ (polF (lfac ps) t) (65536*(2*k+2)):=p2
 show qcU (fn,fq,ps) (i:Int)=some (if ps[i].2.2=false∧rv ps[i].2.1=0 then ([],2) else (polL ps.length (polF (lfac (ps.take i++ps.drop (i+1)))),0))∧∀ t,SzQ (polF (lfac (ps.take i++ps.drop (i+1))) t) (65536*(2*k+2))
 have hr:PaSz (ps.take i++ps.drop (i+1)) k:=by
   refine⟨by have:=h.1;simp;omega,fun p hp=>h.2 p ?_⟩
   rcases List.mem_append.1 hp with hp | hp
   · exact List.mem_of_mem_take hp
   · exact List.mem_of_mem_drop hp
 obtain⟨rest,er⟩:∃ rest,rest=ps.take i++ps.drop (i+1):=⟨_,rfl⟩
 have hrz:=(qAB (l:=(0,(((false,[]),[]),rest))) (er ▸ hr) hk hk2).2
 have hrz:∀ t,SzQ (polF (lfac rest) t) (65536*(2*k+2)):=hrz
 rw[← er]
 refine⟨?_,hrz⟩
 have hlen:rest.length+1=ps.length:=by rw[er];simp;omega
 obtain⟨b,b1,b2,b3,b4,b5,b6⟩:=qre (h.2 _ (gM0 hi)) hk
 have hP:polF (lfac ps)=mulF (baP ps[i]) (polF (lfac rest)):=by
   rw[qqI (qBf hi),← er];rfl
 rw[qcU]
 dsimp only
 rw[cnd' (by omega),cnd' (by omega),p1,bS0,cnd (by omega),tN0,gE0 hi,bS0,b1,bS0]
 by_cases hz:topN (vals b) b.length=0
 · have hb0 : vals b 0 = 0 := by
     by_cases h':0<b.length
     · exact qgx (by omega) h'
     · exact qil (by omega)
   have hb1:vals b 1=0:=by
     by_cases h':1<b.length
     · exact qgx (by omega) h'
     · exact qil (by omega)
   have c1:ps[i].2.2=false:=by
     rw[b5] at hb1
     have hb1:one0 ps[i].2.2=0:=hb1
     cases hh:ps[i].2.2 with
     | false=>rfl
     | true=>rw[hh] at hb1;exact absurd hb1 (by decide)
   have c2:rv ps[i].2.1=0:=by rw[b4] at hb0;exact hb0
   rw[quq (LSz.polL (by have:=h.1;omega) fun t _=>p2 t) b2 (by omega) hk (by omega) (by omega) hz,bS0,if_pos ⟨c1,c2⟩]
 · have hn : ¬ (ps[i].2.2 = false ∧ rv ps[i].2.1 = 0) := by
     rintro⟨c1,c2⟩
     apply hz
     refine qnR fun t ht=>?_
     have:t=0∨t=1:=by omega
     rcases this with rfl | rfl
     · rw[b4];exact c2
     · rw[b5];show one0 ps[i].2.2=0;rw[c1];rfl
   obtain⟨rr,hD⟩:=qyF (n:=ps.length) (Q:=polF (lfac rest)) (b:=b) (x:=baP ps[i]) (by have:=h.1;omega) hrz (fun t ht=>qn9 _ _ (by rw[qtf];omega)) b2 hk (by omega) (by omega) b4 b5 b3 rfl hz
   rw[hP,hD,bS0,if_neg hn]
end Go.Proofs.YtemlifeamdpjeaaGreatDoor.X
