/- Own work: part of the proof; the first line of each part says what it tells. -/
import Derived.Test.YtilflbimpjokjaaGreatDoorLg7


namespace Go.Proofs.YtilflbimpjokjaaGreatDoor.X
open Go
set_option linter.unusedVariables false
set_option linter.unusedSimpArgs false
theorem rOver_inner {a q:List Int} {i:Int} {y R:Nat} (hy:(digs y).length<1099511627776) (hR:(digs R).length<1099511627776) (hRy:R<y*10000) :
  lp dendronref01_Over_s12 K0 ((a,digs y,q,digs R,i,0,10000,()),())=some ((a,digs y,q,digs R,i,((R/y:Nat):Int),()),()):=by
 have hy0:0<y:=by
  rcases Nat.eq_zero_or_pos y with h | h
  · subst h;omega
  · exact h
 obtain⟨r,rfl,hlp⟩:=lp_wf (step:=dendronref01_Over_s12) (fun s=>∃ lo hi:Nat,s=((a,digs y,q,digs R,i,(lo:Int),(hi:Int),()),())∧lo<hi∧hi≤10000∧y*lo≤R∧R<y*hi) (fun s=>(s.1.2.2.2.2.2.2.1-s.1.2.2.2.2.2.1).toNat)
  (fun r=>r=((a,digs y,q,digs R,i,((R/y:Nat):Int),()),())) (v:=((a,digs y,q,digs R,i,0,10000,()),())) ⟨0,10000,rfl,by omega,by omega,by simp,hRy⟩ (by simp) (by
    rintro s ⟨lo,hi,rfl,hlt,hh,h1,h2⟩
    have e1:isub .i64 (hi:Int) (lo:Int)=(hi:Int)-lo:=by rw[isub_i]<;>omega
    by_cases hd:hi-lo≤1
    · have : hi = lo + 1 := by omega
      subst this
      have hq:R/y=lo:=by
        rw[Nat.div_eq_iff hy0]
        rw[Nat.mul_add,Nat.mul_one] at h2
        rw[Nat.mul_comm];omega
      refine .inl ⟨_,rfl,fun g=>?_⟩
      rw[dendronref01_Over_s12,e1,cnd' (by omega),hq]
    · have e2 : iquo .i64 (iadd .i64 (lo : Int) (hi : Int)) 2 = (((lo + hi) / 2 : Nat) : Int) := by
        have:iadd .i64 (lo:Int) (hi:Int)=((lo+hi:Nat):Int):=by rw[iadd_i]<;>omega
        rw[this,iquo_i (by omega) (by omega) (by omega)];omega
      have hmid:(lo+hi)/2<10000:=by omega
      have hs:=rSmall_ok (n:=(lo+hi)/2) (by omega)
      have hdl:(digs ((lo+hi)/2)).length≤1:=digs_len_le (by omega)
      have ht:=rTimes_ok (digs_dig y) (digs_dig ((lo+hi)/2)) (by omega) (by omega)
      rw[dd_digs,dd_digs] at ht
      have hml:=digs_mul_len y ((lo+hi)/2)
      have ho:=rOrder_ok (n:=y*((lo+hi)/2)) (m:=R) (by omega)
      have hmlo:lo<(lo+hi)/2:=by omega
      have hmhi:(lo+hi)/2<hi:=by omega
      generalize (lo+hi)/2=mid at *
      have step:∀ g,dendronref01_Over_s12 g ((a,digs y,q,digs R,i,(lo:Int),(hi:Int),()),())=bif decide (ncmp (y*mid) R≤0) then g ((a,digs y,q,digs R,i,(mid:Int),(hi:Int),()),()) else g ((a,digs y,q,digs R,i,(lo:Int),(mid:Int),()),()):=by
        intro g
        rw[dendronref01_Over_s12,e1,cnd (by omega),e2,hs,bS0,ht,bS0,ho,bS0]
      by_cases hc:y*mid≤R
      · have c : ncmp (y * mid) R ≤ 0 := by unfold ncmp; split <;> (try split) <;> omega
        exact .inr ⟨_,⟨mid,hi,rfl,hmhi,hh,hc,h2⟩,by show((hi:Int)-(mid:Int)).toNat<((hi:Int)-(lo:Int)).toNat;omega,fun g=>by rw[step,cnd c]⟩
      · have c : ¬ ncmp (y * mid) R ≤ 0 := by unfold ncmp; rw [if_neg (by omega), if_pos (by omega)]; decide
        exact .inr ⟨_,⟨lo,mid,rfl,hmlo,by omega,h1,by omega⟩,by show((mid:Int)-(lo:Int)).toNat<((hi:Int)-(lo:Int)).toNat;omega,fun g=>by rw[step,cnd' c]⟩)
 exact hlp
theorem pow_help {R y k:Nat} (h:R<y*10000) (hy:y<10000 ^ k):R<10000 ^ (k+1):=by
 rw[Nat.pow_succ]
 exact Nat.lt_of_lt_of_le h (Nat.mul_le_mul_right _ (Nat.le_of_lt hy))
theorem rOver_ok {a:List Int} {y:Nat} (ha:Dig a) (hl:a.length<1099511627776) (hy:(digs y).length<1099511627775) (hy0:0<y):dendronref01_Over a (digs y)=some (digs (dd a/y),digs (dd a % y)):=by
 obtain⟨r,⟨s,c,rfl,hs,hsl,hc,hsn⟩,hlp⟩:=lp_wf (step:=dendronref01_Over_s4)
  (fun v=>∃ (j:Nat) (s:List Int) (c:Nat),j≤a.length∧v=((a,digs y,List.replicate j 0++s,digs c,(j:Int)-1,()),())∧j+s.length=a.length∧Dig s∧c<y∧dd (a.drop j)=y*dd s+c)
  (fun v=>(v.1.2.2.2.2.1+1).toNat)
  (fun r=>∃ (s:List Int) (c:Nat),r=((s,digs c,()),())∧s.length=a.length∧Dig s∧c<y∧dd a=y*dd s+c) (v:=((a,digs y,List.replicate a.length 0,[],(a.length:Int)-1,()),()))
  ⟨a.length, [], 0, Nat.le_refl _, by simp [digs_zero], by simp, Dig.nil, hy0, by simp⟩ (by simp; omega) (by
   rintro v ⟨j,s,c,hj,rfl,hjl,hsl,hc,hn⟩
   cases j with
   | zero =>
    refine .inl ⟨((s,digs c,()),()),⟨s,c,rfl,by omega,hsl,hc,by simpa using hn⟩,fun g=>by simp [dendronref01_Over_s4]⟩
   | succ j =>
    have hja:j<a.length:=by omega
    have b:=ha.at hja
    have e3:((j+1:Nat):Int)-1=(j:Int):=by omega
    rw[e3]
    obtain⟨x,hx⟩:=Int.eq_ofNat_of_zero_le b.1
    have hx':x<10000:=by omega
    have hcl:=digs_len_mono (Nat.le_of_lt hc)
    have htr:=rTrim_ok (a:=[a[j]]++digs c) (Dig.append (Dig.cons b Dig.nil) (digs_dig c)) (by simp;omega)
    have hval:dd ([a[j]]++digs c)=x+10000*c:=by
      show dd (a[j]::digs c)=_
      rw[dd,dd_digs];omega
    rw[hval] at htr
    have hR:x+10000*c<y*10000:=by omega
    have hRl:(digs (x+10000*c)).length<1099511627776:=by
      have h5:x+10000*c<10000 ^ ((digs y).length+1):=by
       have h6:=dd_lt (digs y)
       rw[dd_digs] at h6
       exact pow_help hR h6
      have:=digs_len_le h5
      omega
    have hin:=rOver_inner (a:=a) (q:=List.replicate (j+1) 0++s) (i:=(j:Int)) (by omega) hRl hR
    have k1:=Nat.div_add_mod (x+10000*c) y
    have k5:=Nat.mod_lt (x+10000*c) hy0
    have hq:(x+10000*c)/y<10000:=by rw[Nat.div_lt_iff_lt_mul hy0];omega
    have hs1:=rSmall_ok (n:=(x+10000*c)/y) (by omega)
    have hdl:(digs ((x+10000*c)/y)).length≤1:=digs_len_le (by omega)
    have ht:=rTimes_ok (digs_dig y) (digs_dig ((x+10000*c)/y)) (by omega) (by omega)
    rw[dd_digs,dd_digs] at ht
    have hm:=rMinus_ok (digs_dig (x+10000*c)) (digs_dig (y*((x+10000*c)/y))) (by omega) (by rw[dd_digs,dd_digs];omega)
    rw[dd_digs,dd_digs] at hm
    have hrest:x+10000*c-y*((x+10000*c)/y)=(x+10000*c) % y:=by omega
    rw[hrest] at hm
    generalize (x+10000*c)/y=qd at *
    generalize (x+10000*c) % y=rr at *
    refine .inr ⟨((a,digs y,List.replicate j 0++(qd:Int)::s,digs rr,(j:Int)-1,()),()),⟨j,_,_,by omega,rfl,by simp;omega,Dig.cons (by omega) hsl,k5,?_⟩,by simp,fun g=>?_⟩
    · rw [dd_drop a hja, hn, dd]
      have k2:((qd:Int) % 10000).toNat=qd:=by omega
      have k3:(a[j] % 10000).toNat=x:=by omega
      rw[k2,k3]
      grind
    · have q5 : isub .i64 (j : Int) 1 = (j : Int) - 1 := by rw [isub_i] <;> omega
      have e5:(List.replicate (j+1) (0:Int)++s).set j (qd:Int)=List.replicate j 0++(qd:Int)::s:=by
       rw[List.replicate_succ',List.append_assoc,List.set_append_right _ _ (by simp)]
       simp
      have e6:j<(List.replicate (j+1) (0:Int)++s).length:=by simp;omega
      have e7:((j:Nat):Int)<((List.replicate (j+1) (0:Int)++s).length:Int):=by omega
      have e8:(0:Int)≤((j:Nat):Int):=by omega
      have c0:(j:Int)≥0:=by omega
      have c1:(Nat.ble ((([a[j]]:List Int).length+(digs c).length)*8) 140737488355328&&!false)=true:=blt (by simp;omega)
      rw[dendronref01_Over_s4,cnd c0,cnd e8,tN0,gE0 hja,bS0,c1,cond_true,htr,bS0,hin,bS0,cnd2 e8 e7,tN0,gE0 e6,bS0,hs1,bS0,ht,bS0,hm,bS0,e5,q5])
 have g1:((8:Nat):Int)*(a.length:Int)≤281474976710656:=by omega
 have g2:(a.length:Int)≤9223372036854775807:=by omega
 have g4:(0:Int)≤(a.length:Int):=by omega
 have g3:isub .i64 (a.length:Int) 1=(a.length:Int)-1:=by rw[isub_i]<;>omega
 have k1:dd a/y=dd s:=by rw[hsn,Nat.mul_add_div hy0,Nat.div_eq_of_lt hc];simp
 have k2:dd a % y=c:=by rw[hsn,Nat.mul_add_mod,Nat.mod_eq_of_lt hc]
 rw[k1,k2]
 rw[dendronref01_Over,decide_eq_true rfl,decide_eq_true g4,decide_eq_true g1,decide_eq_true g2,tN0,g3,hlp]
 simp only[Bool.and_self,cond_true,bS0,rTrim_ok hsl (show s.length<4611686018427387904 by omega)]
theorem lenN_lt {x y:Nat} (hy:y≠0) (h:2*x≤y):lenN x<lenN y:=by
 unfold lenN
 by_cases hx:x=0
 · rw[if_pos hx,if_neg hy];omega
 · rw [if_neg hx, if_neg hy]
   have:=log2_half hx h
   omega
theorem lenN_le {n k:Nat} (h:n<2 ^ k):lenN n≤k:=by
 unfold lenN
 by_cases hx:n=0
 · rw[if_pos hx];omega
 · rw[if_neg hx];have:=(Nat.log2_lt hx).2 h;omega
theorem lenN_digs (n:Nat):lenN n≤14*(digs n).length:=by
 apply lenN_le
 have h1:=dd_lt (digs n)
 rw[dd_digs] at h1
 have h2:10000 ^ (digs n).length≤(2 ^ 14) ^ (digs n).length:=Nat.pow_le_pow_left (by decide) _
 rw[← Nat.pow_mul] at h2
 omega
theorem rGcd_ok {x y:Nat} (hx:(digs x).length<1099511627775) (hy:(digs y).length<1099511627775):dendronref01_Gcd (digs x) (digs y)=some (digs (Nat.gcd x y)):=by
 obtain⟨r,rfl,hlp⟩:=lp_wf (step:=dendronref01_Gcd_s1) (fun s=>∃ p q:Nat,s=((digs p,digs q,()),())∧(digs p).length<1099511627775∧(digs q).length<1099511627775∧Nat.gcd p q=Nat.gcd x y)
  (fun s=>2*(lenN (dd s.1.1)+lenN (dd s.1.2.1))+if dd s.1.1<dd s.1.2.1 then 1 else 0) (fun r=>r=((digs (Nat.gcd x y),()),())) (v:=((digs x,digs y,()),()))
  ⟨x, y, rfl, hx, hy, rfl⟩ (by
   have h1:=lenN_digs x
   have h2:=lenN_digs y
   simp only[dd_digs]
   split<;>omega) (by
   rintro s ⟨p,q,rfl,hp,hq,hg⟩
   by_cases h0:q=0
   · subst h0
     refine .inl ⟨_,rfl,fun g=>?_⟩
     rw[Nat.gcd_zero_right] at hg
     rw[digs_zero,dendronref01_Gcd_s1,cnd' (by decide),← hg]
   · have c0 : ((digs q).length : Int) > 0 := digs_pos_len.2 h0
     have ho:=rOver_ok (digs_dig p) (by omega) hq (Nat.pos_of_ne_zero h0)
     rw[dd_digs] at ho
     have hml:=Nat.mod_lt p (Nat.pos_of_ne_zero h0)
     refine .inr ⟨((digs q,digs (p % q),()),()),⟨q,p % q,rfl,hq,Nat.lt_of_le_of_lt (digs_len_mono (Nat.le_of_lt hml)) hq,?_⟩,?_,fun g=>?_⟩
     · rw[← hg,Nat.gcd_comm q,← Nat.gcd_rec,Nat.gcd_comm]
     · simp only [dd_digs]
       rw[if_neg (by omega)]
       by_cases hpq:p<q
       · rw[if_pos hpq,Nat.mod_eq_of_lt hpq];omega
       · rw [if_neg hpq]
         have:2*(p % q)≤p:=by
          have h1:=Nat.div_add_mod p q
          have h2:1≤p/q:=Nat.div_pos (by omega) (by omega)
          have h3:q*1≤q*(p/q):=Nat.mul_le_mul_left _ h2
          omega
         have:=lenN_lt (by omega) this
         omega
     · rw[dendronref01_Gcd_s1,cnd c0,ho,bS0])
 rw[dendronref01_Gcd,hlp];rfl
theorem digs_of_limbs {n k:Nat} (h:n<4294967296 ^ k):(digs n).length≤3*k:=by
 apply digs_len_le
 have:4294967296 ^ k≤(10000 ^ 3) ^ k:=Nat.pow_le_pow_left (by decide) _
 rw[← Nat.pow_mul] at this
 omega
theorem rFrom_ok {a:List Int} (hl:a.length<274877906944):dendronref01_From a=some (digs (nn a)):=by
 have hu:=rSmall_ok (n:=4294967296) (by decide)
 obtain⟨r,rfl,hlp⟩:=lp_wf (step:=dendronref01_From_s4) (fun s=>∃ j:Nat,j≤a.length∧s=((a,digs (nn (a.drop j)),digs 4294967296,(j:Int)-1,()),())) (fun s=>(s.1.2.2.2.1+1).toNat)
  (fun r => r = ((digs (nn a), ()), ())) (v := ((a, [], digs 4294967296, (a.length : Int) - 1, ()), ())) ⟨a.length, Nat.le_refl _, by rw [List.drop_length, nn_nil, digs_zero]⟩ (by simp; omega) (by
   rintro s ⟨j,hj,rfl⟩
   cases j with
   | zero=>exact .inl ⟨_,rfl,fun g=>by simp [dendronref01_From_s4]⟩
   | succ j =>
    have hja:j<a.length:=by omega
    have e3:((j+1:Nat):Int)-1=(j:Int):=by omega
    rw[e3]
    have hnl:=nn_lt (a.drop (j+1))
    rw[List.length_drop] at hnl
    have hd:=digs_of_limbs hnl
    have hu2:(digs 4294967296).length≤3:=digs_len_le (by decide)
    have ht:=rTimes_ok (digs_dig (nn (a.drop (j+1)))) (digs_dig 4294967296) (by omega) (by omega)
    rw[dd_digs,dd_digs] at ht
    have hml:=digs_mul_len (nn (a.drop (j+1))) 4294967296
    have hw:IntKind.wrap .i64 (iand .u64 a[j] 4294967295)=(((a[j] % 4294967296).toNat:Nat):Int):=by
     rw[iand_low,wrap_i (by omega) (by omega)];omega
    have hs:=rSmall_ok (n:=(a[j] % 4294967296).toNat) (by omega)
    have hsl:(digs (a[j] % 4294967296).toNat).length≤3:=digs_len_le (by omega)
    have hp:=rPlus_ok (x:=nn (a.drop (j+1))*4294967296) (y:=(a[j] % 4294967296).toNat) (by omega) (by omega)
    have hval:nn (a.drop (j+1))*4294967296+(a[j] % 4294967296).toNat=nn (a.drop j):=by rw[nn_drop a hja];omega
    rw[hval] at hp
    refine .inr ⟨((a,digs (nn (a.drop j)),digs 4294967296,(j:Int)-1,()),()),⟨j,by omega,rfl⟩,by simp,fun g=>?_⟩
    have q5:isub .i64 (j:Int) 1=(j:Int)-1:=by rw[isub_i]<;>omega
    have c0:(j:Int)≥0:=by omega
    have c1:(0:Int)≤(j:Int):=by omega
    rw[dendronref01_From_s4,cnd c0,ht,bS0,cnd c1,tN0,gE0 hja,bS0,hw,hs,bS0,hp,bS0,q5])
 have g3:isub .i64 (a.length:Int) 1=(a.length:Int)-1:=by rw[isub_i]<;>omega
 rw[show((4294967296:Nat):Int)=4294967296 from rfl] at hu
 rw[dendronref01_From,hu,bS0,g3,hlp];rfl
theorem rRight_ok {n:Nat} (hl:(limbs n).length<4398046511104):dendronref01_Right (limbs n)=some true:=by
 have la:=limbs_lim n
 have hc:=(limbs_canon n).2
 generalize limbs n=a at *
 have key:=lp_up (step:=dendronref01_Right_s2) (fun i=>((a,(i:Int),()),())) a.length (r:=.inl ((a,()),())) (by omega) (by
   intro g i hi
   have b:=la.at hi
   have c0:(i:Int)<((a.length:Nat):Int):=by omega
   have c1:(0:Int)≤(i:Int):=by omega
   rw[dendronref01_Right_s2,cnd c0,cnd c1,tN0,gE0 hi,bS0,cnd' (by omega),iadd1 (by omega)]
   rfl) (by
   intro g
   rw[dendronref01_Right_s2,cnd' (by omega)])
 have key':lp dendronref01_Right_s2 K0 ((a,0,()),())=some (.inl ((a,()),())):=key
 rw[dendronref01_Right,key',bS0]
 by_cases h0:a=[]
 · subst h0;rfl
 · have hlen := List.length_pos_iff.2 h0
   have e:isub .i64 (a.length:Int) 1=((a.length-1:Nat):Int):=by rw[isub_i]<;>omega
   have hlt:a.length-1<a.length:=by omega
   have hne:a[a.length-1]≠0:=hc _ (by rw[List.getLast?_eq_getElem?];exact gE0 hlt)
   have c0:¬ ((a.length:Nat):Int)=0:=by omega
   have c1:(0:Int)≤((a.length-1:Nat):Int):=by omega
   simp only[]
   rw[cnd' c0,e,cnd c1,tN0,gE0 hlt,bS0,decide_eq_false hne]
   rfl
def digsI (z:Int):WH:=(decide (z<0),digs z.natAbs)
theorem rMake_ok (b:Bool) (n:Nat):dendronref02_Make b (digs n)=some (digsI (if b then -(n:Int) else n)):=by
 cases b with
 | false =>
  show some (false,digs n)=some (digsI (n:Int))
  unfold digsI
  rw[decide_eq_false (by omega),Int.natAbs_natCast]
 | true =>
  show some (decide (((digs n).length:Int)>0),digs n)=some (digsI (-(n:Int)))
  unfold digsI
  rw[Int.natAbs_neg,Int.natAbs_natCast]
  congr 2
  rw[decide_eq_decide,digs_pos_len]
  omega
theorem rITimes_ok {x y:Int} (hx:(digs x.natAbs).length<1099511627776) (hy:(digs y.natAbs).length<1099511627776):dendronref02_Times (digsI x) (digsI y)=some (digsI (x*y)):=by
 have hm:=rTimes_ok (digs_dig x.natAbs) (digs_dig y.natAbs) (by omega) (by omega)
 rw[dd_digs,dd_digs] at hm
 rw[dendronref02_Times]
 simp only[digsI,hm,bS0,rMake_ok]
 have key:(if (!decide (x<0) == decide (y<0))=true then -(((x.natAbs*y.natAbs:Nat)):Int) else ((x.natAbs*y.natAbs:Nat):Int))=x*y:=by
  rw[Int.natCast_mul]
  by_cases h1:x<0<;>by_cases h2:y<0
  · rw[show((x.natAbs:Nat):Int)=-x by omega,show((y.natAbs:Nat):Int)=-y by omega];simp [h1,h2,Int.neg_mul_neg]
  · rw[show((x.natAbs:Nat):Int)=-x by omega,show((y.natAbs:Nat):Int)=y by omega];simp [h1,h2,Int.neg_mul]
  · rw[show((x.natAbs:Nat):Int)=x by omega,show((y.natAbs:Nat):Int)=-y by omega];simp [h1,h2,Int.mul_neg]
  · rw[show((x.natAbs:Nat):Int)=x by omega,show((y.natAbs:Nat):Int)=y by omega];simp [h1,h2]
 exact congrArg (fun z=>some (digsI z)) key
theorem rIOrder_ok {x y:Int} (hx:(digs x.natAbs).length<4398046511104) (hy:(digs y.natAbs).length<4398046511104):dendronref02_Order (digsI x) (digsI y)=some (icmp x y):=by
 have e1:=rOrder_ok (n:=x.natAbs) (m:=y.natAbs) (by omega)
 have e2:=rOrder_ok (n:=y.natAbs) (m:=x.natAbs) (by omega)
 rw[dendronref02_Order]
 simp only[digsI,e1,e2]
 by_cases h1:x<0<;>by_cases h2:y<0<;>simp [h1,h2,icmp,ncmp]<;>(repeat' split)<;>omega
theorem rFromI_ok {a:WH} (h:a.2.length<274877906944):dendronref02_From a=some (digsI (wv a)):=by
 rw[dendronref02_From,rFrom_ok h,bS0,rMake_ok];rfl
theorem rFromQ_ok {a:RAT} {n:Nat} (h:SzR a n) (hn:n<91625968980):∃ (z:Int) (d:Nat),dendronref03_From a=some (digsI z,digs d)∧0<d∧rv a=mkRat z d∧(digs z.natAbs).length≤3*n+1∧(digs d).length≤3*n+1:=by
 have h1:=h.1
 have h2:=h.2
 rw[dendronref03_From,rFrom_ok (by omega),bS0]
 by_cases h0:nn a.2=0
 · refine ⟨0, 1, ?_, by omega, ?_, by simp [digs_zero], digs_len_le (by rw [Nat.pow_add]; have : 0 < 10000 ^ (3 * n) := Nat.pow_pos (by decide); omega)⟩
   · have s1 := rSmall_ok (n := 1) (by decide)
     have s0:=rSmall_ok (n:=0) (by decide)
     rw[show((1:Nat):Int)=1 from rfl] at s1
     rw[show((0:Nat):Int)=0 from rfl] at s0
     rw[h0,digs_zero,cnd (by rfl),dendronref03_Small,dendronref02_Small,cnd' (by decide),s0,bS0,rMake_ok,bS0,bS0,s1]
     rfl
   · rw[rv,h0];simp
 · have hne : ¬ ((digs (nn a.2)).length : Int) = 0 := by rw [digs_len0]; exact h0
   refine⟨wv a.1,nn a.2,?_,Nat.pos_of_ne_zero h0,rfl,?_,?_⟩
   · rw[cnd' hne,rFromI_ok (by omega)];rfl
   · rw [wv_natAbs]
     have:=digs_of_limbs (nn_lt a.1.2)
     omega
   · have := digs_of_limbs (nn_lt a.2)
     omega
theorem Is_ok {q:Rat} {b:RAT} {n m:Nat} (hq:SzQ q n) (hn:n<91625968980) (hb:SzR b m) (hm:m<91625968980):dendronref10_Is (canQ q) b=some (decide (q=rv b)):=by
 obtain⟨z,d,hf,hd0,hv,hz,hd⟩:=rFromQ_ok hb hm
 have hr:=hq.szR
 have r1:(limbs q.num.natAbs).length≤n:=hr.1
 have r2:(limbs q.den).length≤n:=hr.2
 have hnum:=digs_of_limbs hq.1
 have hden:=digs_of_limbs hq.2
 have f1:=rFrom_ok (a:=limbs q.num.natAbs) (by omega)
 have f2:=rFrom_ok (a:=limbs q.den) (by omega)
 rw[q9q] at f1 f2
 have hg:=rGcd_ok (x:=q.num.natAbs) (y:=q.den) (by omega) (by omega)
 rw[show Nat.gcd q.num.natAbs q.den=1 from q.reduced] at hg
 have s1:=rSmall_ok (n:=1) (by decide)
 rw[show((1:Nat):Int)=1 from rfl] at s1
 have hl1:(digs 1).length≤1:=digs_len_le (by decide)
 have ho:=rOrder_ok (n:=1) (m:=1) (by omega)
 have hcm:ncmp 1 1=0:=rfl
 have hdne:¬ (((limbs q.den).length:Nat):Int)=0:=by rw[limbs_len0];exact q.den_nz
 have hright:dendronref03_Right (canQ q)=some true:=by
  have hfin:((dendronref01_From (limbs q.num.natAbs)).bind fun r3=>(dendronref01_From (limbs q.den)).bind fun r4=>(dendronref01_Gcd r3 r4).bind fun r5=>(dendronref01_Small 1).bind fun r6=>(dendronref01_Order r5 r6).bind fun r7=>some (decide (r7=0)))=some true:=by
    rw[f1,bS0,f2,bS0,hg,bS0,s1,bS0,ho,bS0,hcm];rfl
  rw[show canQ q=((decide (q.num<0),limbs q.num.natAbs),limbs q.den) from rfl,dendronref03_Right,rRight_ok (show(limbs q.num.natAbs).length<4398046511104 by omega),bS0,Bool.not_true,cond_false,rRight_ok (show(limbs q.den).length<4398046511104 by omega),bS0,Bool.not_true,cond_false,cnd' hdne]
  by_cases hz0:q.num.natAbs=0
  · have hnn : ¬ q.num < 0 := by omega
    have hl0:(((limbs q.num.natAbs).length:Nat):Int)=0:=limbs_len0.2 hz0
    rw[cnd hl0,cnd' hnn]
    exact hfin
  · have hl0 : ¬ (((limbs q.num.natAbs).length : Nat) : Int) = 0 := by rw [limbs_len0]; exact hz0
    rw[cnd' hl0]
    exact hfin
 have hfrom:dendronref03_From (canQ q)=some (digsI q.num,digs q.den):=by
  have hdne2:¬ (((digs q.den).length:Nat):Int)=0:=by rw[digs_len0];exact q.den_nz
  have f3:=rFromI_ok (a:=limbsI q.num) (by show(limbs _).length<_;omega)
  rw[wv_limbsI] at f3
  rw[dendronref03_From]
  simp only[canQ,f2,bS0,f3]
  exact cnd' hdne2
 have m1:=rITimes_ok (x:=q.num) (y:=(d:Int)) (by omega) (by rw[Int.natAbs_natCast];omega)
 have m2:=rITimes_ok (x:=z) (y:=(q.den:Int)) (by omega) (by rw[Int.natAbs_natCast];omega)
 have l1:=digs_mul_len q.num.natAbs d
 have l2:=digs_mul_len z.natAbs q.den
 have oo:=rIOrder_ok (x:=q.num*(d:Int)) (y:=z*(q.den:Int)) (by rw[Int.natAbs_mul,Int.natAbs_natCast];omega) (by rw[Int.natAbs_mul,Int.natAbs_natCast];omega)
 have k1:=rMake_ok false d
 have k2:=rMake_ok false q.den
 have horder:dendronref03_Order (digsI q.num,digs q.den) (digsI z,digs d)=some (icmp (q.num*(d:Int)) (z*(q.den:Int))):=by
  rw[dendronref03_Order]
  simp only[dendronref03_den,k1,k2,bS0,Bool.false_eq_true,if_false,m1,m2,oo]
 have hiff:icmp (q.num*(d:Int)) (z*(q.den:Int))=0 ↔ q=rv b:=by
  rw[hv]
  have h1:icmp (q.num*(d:Int)) (z*(q.den:Int))=0 ↔ q.num*(d:Int)=z*(q.den:Int):=by
    unfold icmp;(repeat' split)<;>omega
  rw[h1]
  conv=>rhs;rw[← Rat.mkRat_self q]
  rw[Rat.mkRat_eq_iff q.den_nz (by omega)]
 rw[dendronref10_Is,hf,bS0,dendronref03_Is,hright,bS0,cond_true,hfrom,bS0,horder,bS0,bS0]
 congr 1
 rw[decide_eq_decide]
 exact hiff
def rsum (f:Nat→Rat):Nat→Rat
 | 0=>0
 | n+1=>rsum f n+f n
theorem rsum_congr {f g:Nat→Rat} {n:Nat} (h:∀ i,i<n→f i=g i):rsum f n=rsum g n:=by
 induction n with
 | zero=>rfl
 | succ n ih=>simp only[rsum];rw[ih (fun i hi=>h i (by omega)),h n (by omega)]
theorem rsum_mul (f:Nat→Rat) (c:Rat) (n:Nat):rsum (fun i=>f i*c) n=rsum f n*c:=by
 induction n with
 | zero=>simp [rsum]
 | succ n ih=>simp only[rsum,ih];rw[Rat.add_mul]
theorem rsum_sz {f:Nat→Rat} {k n:Nat} (h:∀ i,i<n→SzQ (f i) k):SzQ (rsum f n) (1+n*(k+1)):=by
 induction n with
 | zero=>simpa [rsum] using SzQ.zero
 | succ n ih =>
  have:=(ih fun i hi=>h i (by omega)).add (h n (by omega))
  simp only[rsum]
  exact this.mono (by rw[Nat.add_mul];omega)
def fac:Nat→Nat
 | 0=>1
 | n+1=>(n+1)*fac n
theorem fac_pos (n:Nat):0<fac n:=by
 induction n with
 | zero=>decide
 | succ n ih=>exact Nat.mul_pos (by omega) ih
def facts:List WH:=(List.range 65).map fun n=>limbsI (fac n:Nat)
theorem products_ok:weigh_products=some facts:=by decide +kernel
def Tab (d st sm:Int) (f:List WH):Prop:=(d=0∧st=0)∨(d=1∧st=0∧f=facts)
theorem New_ok:∃ d st sm f,weigh_New=some (d,st,sm,f)∧Tab d st sm f:=⟨0,0,0,[],rfl,.inl ⟨rfl,rfl⟩⟩
theorem facts_get {n:Nat} (h:n<65):facts[n]?=some (limbsI (fac n:Nat)):=by
 simp [facts,h]
theorem at_ok {d st sm:Int} {f:List WH} (h:Tab d st sm f) {n:Nat} (hn:n≤64):weigh_at (n:Int) d st sm f=some (limbsI (fac n:Nat),1,0,sm,facts):=by
 have h0:(0:Int)≤(n:Int):=by omega
 have hg:=facts_get (n:=n) (by omega)
 rcases h with ⟨rfl,rfl⟩ | ⟨rfl,rfl,rfl⟩
 · rw[weigh_at,cnd h0,cnd rfl,cnd rfl,products_ok,bS0,tN0,hg,bS0]
 · rw[weigh_at,cnd h0,cnd' (by decide),tN0,hg,bS0]
theorem tab1 (sm:Int):Tab 1 0 sm facts:=.inr ⟨rfl,rfl,rfl⟩
theorem fac_le {n:Nat} (h:n≤64):fac n<4294967296 ^ 10:=by
 have hm:∀ a b,a≤b→fac a≤fac b:=by
  intro a b hab
  induction hab with
  | refl=>exact Nat.le_refl _
  | step _ ih =>
   refine Nat.le_trans ih ?_
   simp only[fac]
   exact Nat.le_mul_of_pos_left _ (by omega)
 have:=hm n 64 h
 have h64:fac 64<4294967296 ^ 10:=by decide +kernel
 omega
theorem fac_sz {n:Nat} (h:n≤64):SzQ ((fac n:Nat):Rat) 10:=by
 have:=fac_le h
 exact⟨by simpa using this,by simp⟩
def quo (a b c:Nat):Rat:=((fac a:Nat):Rat)*((fac b:Nat):Rat)/((fac c:Nat):Rat)
theorem quo_sz {a b c:Nat} (ha:a≤64) (hb:b≤64) (hc:c≤64):SzQ (quo a b c) 30:=((fac_sz ha).mul (fac_sz hb)).div (fac_sz hc)
theorem limbsI_lenk {n k:Nat} (h:n<4294967296 ^ k):(limbsI (n:Nat)).2.length≤k:=by
 rw[limbsI_len];exact limbs_len_le (by simpa using h)
theorem wv_nat (n:Nat):wv (limbsI (n:Nat))=(n:Int):=by
 simp [wv_limbsI]
theorem quotient_ok {d st sm:Int} {f:List WH} (h:Tab d st sm f) {a b c:Nat} (ha:a≤64) (hb:b≤64) (hc:c≤64) :
  weigh_Table_quotient (a:Int) (b:Int) (c:Int) d st sm f=some (canQ (quo a b c),1,0,sm,facts):=by
 have hl:∀ {n:Nat},n≤64→(limbsI (fac n:Nat)).2.length<1099511627776:=fun h=>Nat.lt_of_le_of_lt (limbsI_lenk (fac_le h)) (by decide)
 have hm:whole_Mul (limbsI (fac a:Nat)) (limbsI (fac b:Nat))=some (limbsI ((fac a*fac b:Nat):Int)):=by
  have:=wMul_ok (a:=limbsI (fac a:Nat)) (b:=limbsI (fac b:Nat)) (Nat.lt_of_lt_of_le (hl ha) (by decide)) (Nat.lt_of_lt_of_le (hl hb) (by decide))
  rw[this,wv_nat,wv_nat];simp
 have hlen:(limbsI ((fac a*fac b:Nat):Int)).2.length<1099511627776:=by
  have h1:=fac_le ha
  have h2:=fac_le hb
  have:fac a*fac b<4294967296 ^ 20:=by
   have:=Nat.mul_lt_mul'' h1 h2
   rw[← Nat.pow_add] at this;exact this
  exact Nat.lt_of_le_of_lt (limbsI_lenk this) (by decide)
 have hmk:=ratio_Make_ok hlen (hl hc)
 rw[wv_nat,wv_nat,if_neg (by have:=fac_pos c;omega)] at hmk
 have hq:(((fac a*fac b:Nat):Int):Rat)/(((fac c:Nat):Int):Rat)=quo a b c:=by
  simp [quo];rfl
 rw[hq] at hmk
 rw[weigh_Table_quotient,at_ok h ha,bS0,at_ok (tab1 sm) hb,bS0,hm,bS0,at_ok (tab1 sm) hc,bS0,hmk,bS0]
def wq (s n:Nat):Rat:=quo s (n-s-1) n
theorem wq_sz {s n:Nat} (hs:s<n) (hn:n≤64):SzQ (wq s n) 30:=quo_sz (by omega) (by omega) (by omega)
theorem Weight_ok {d st sm:Int} {f:List WH} (h:Tab d st sm f) {s n:Nat} (hs:s<n) (hn:n≤64) :
  weigh_Table_Weight (s:Int) (n:Int) d st sm f=some (canQ (wq s n),0,1,0,sm,facts):=by
 have e1:isub .i64 (isub .i64 (n:Int) (s:Int)) 1=((n-s-1:Nat):Int):=by
  rw[isub_i (x:=(n:Int)) (y:=(s:Int)) (by omega) (by omega),isub_i (by omega) (by omega)];omega
 rw[weigh_Table_Weight,cnd' (by omega),cnd' (by omega),cnd' (by omega),cnd' (by omega),e1,quotient_ok h (by omega) (by omega) (by omega),bS0]
 rfl
def vabs (l:List RAT) (i:Nat):Rat:=rabs (vals l i)
def vsum (l:List RAT):Rat:=rsum (vabs l) l.length
def shareQ (l:List RAT) (i:Nat):Rat:=vabs l i/vsum l
def shareL (l:List RAT) (n:Nat):List RAT:=(List.range n).map fun i=>canQ (shareQ l i)
@[simp] theorem shareL_len (l:List RAT) (n:Nat):(shareL l n).length=n:=by simp [shareL]
section
variable {l:List RAT} (hsz:∀ x∈l,SzR x 2) (hlen:l.length≤33)
include hsz
end
theorem All_true {a b:List RAT} {n m:Nat} (hn:n<91625968980) (hm:m<91625968980) (hb:∀ x∈b,SzR x m) (hlen:a.length=b.length) (hl:a.length<4398046511104)
  (h:∀ i (hi:i<a.length) (hi':i<b.length),∃ q,SzQ q n∧a[i]=canQ q∧rv b[i]=q):dendronref10_All a b=some true:=by
 have c0:((a.length:Nat):Int)=((b.length:Nat):Int):=by omega
 have key:=lp_up (step:=dendronref10_All_s4) (fun i=>((a,b,(i:Int),()),())) a.length (r:=.inl ((),())) (by omega) (by
  intro g i hi
  have hi':i<b.length:=by omega
  obtain⟨q,hq,e,e2⟩:=h i hi hi'
  have d0:(i:Int)<((a.length:Nat):Int):=by omega
  have d1:(0:Int)≤(i:Int):=by omega
  have his:=Is_ok hq hn (hb _ (gM0 hi')) hm
  rw[e2,decide_eq_true rfl] at his
  rw[dendronref10_All_s4,cnd d0,cnd d1,tN0,gE0 hi,bS0,cnd d1,gE0 hi',bS0,e,his,bS0,iadd1 (by omega)]
  rfl) (by
  intro g
  rw[dendronref10_All_s4,cnd' (by omega)])
 have key':lp dendronref10_All_s4 K0 ((a,b,0,()),())=some (.inl ((),())):=key
 rw[dendronref10_All,decide_eq_true c0,key']
 rfl
theorem ratio_Sum_ok {l:List RAT} {k:Nat} (hs:∀ x∈l,Sm x) (hk:∀ i,i<l.length→SzQ (vals l i) k) (hl:1+l.length*(k+1)<1099511627776) (hlen:l.length<4398046511104):ratio_Sum l=some (canQ (rsum (vals l) l.length)):=by
 have hpart:∀ i,i≤l.length→Sm (canQ (rsum (vals l) i)):=by
  intro i hi
  have h1:=rsum_sz (f:=vals l) (k:=k) (n:=i) (fun j hj=>hk j (by omega))
  refine h1.sm (Nat.lt_of_le_of_lt ?_ hl)
  have:=Nat.mul_le_mul_right (k+1) hi
  omega
 have key:=lp_up (step:=ratio_Sum_s3) (fun i=>((l,((l.length:Nat):Int),(i:Int),()),((false,[],[],()),((canQ (rsum (vals l) i)).1.1,(canQ (rsum (vals l) i)).1.2,(canQ (rsum (vals l) i)).2,()),()))) l.length
  (r:=((),((false,[],[],()),((canQ (rsum (vals l) l.length)).1.1,(canQ (rsum (vals l) l.length)).1.2,(canQ (rsum (vals l) l.length)).2,()),()))) (by omega) (by
  intro g i hi
  have d0:(i:Int)<((l.length:Nat):Int):=by omega
  have d1:(0:Int)≤(i:Int):=by omega
  have hp:=ratio_Add_ok (hpart i (Nat.le_of_lt hi)) (hs _ (gM0 hi))
  rw[rv_canQ,← vals_get hi] at hp
  have hp':ratio_Add (((canQ (rsum (vals l) i)).1.1,(canQ (rsum (vals l) i)).1.2),(canQ (rsum (vals l) i)).2) l[i]=some (canQ (rsum (vals l) (i+1))):=hp
  rw[ratio_Sum_s3,cnd d0,cnd d1,tN0,gE0 hi,bS0,hp',bS0,iadd1 (by omega)]
  rfl) (by
  intro g
  rw[ratio_Sum_s3,cnd' (by omega)])
 have key':lp ratio_Sum_s3 K0 ((l,((l.length:Nat):Int),0,()),((false,[],[],()),((canQ 0).1.1,(canQ 0).1.2,(canQ 0).2,()),()))=_:=key
 rw[ratio_Sum,ratio_Zero_ok,bS0,key']
 rfl
theorem lp_all' {V T:Type} {step:(V→Option T)→V→Option T} (f:Nat→V) (n:Nat) (ok:Nat→Prop) (bad:Nat→T) (fin:T)
  (hs:∀ i,i<n→(ok i∧∀ g,step g (f i)=g (f (i+1)))∨(¬ ok i∧∀ g,step g (f i)=some (bad i))) (he:∀ g,step g (f n)=some fin) :
  ∀ (d i m:Nat),i+d=n→d<m→(∀ j,j<i→ok j)→((∀ i,i<n→ok i)∧lp step m (f i)=some fin)∨∃ j,j<n∧¬ ok j∧lp step m (f i)=some (bad j):=by
 intro d
 induction d with
 | zero =>
  intro i m hi hm hok
  obtain⟨m,rfl⟩:∃ k,m=k+1:=⟨m-1,by omega⟩
  have:i=n:=by omega
  subst this
  exact .inl ⟨hok,he _⟩
 | succ d ih =>
  intro i m hi hm hok
  obtain⟨m,rfl⟩:∃ k,m=k+1:=⟨m-1,by omega⟩
  rcases hs i (by omega) with ⟨h1,h2⟩ | ⟨h1,h2⟩
  · have := ih (i + 1) m (by omega) (by omega) (fun j hj => by
     by_cases e:j=i
     · subst e;exact h1
     · exact hok j (by omega))
    have e:lp step (m+1) (f i)=lp step m (f (i+1)):=h2 _
    rw[e];exact this
  · exact .inr ⟨i,by omega,h1,h2 _⟩
theorem lp_all {V T:Type} {step:(V→Option T)→V→Option T} (f:Nat→V) (n:Nat) (ok:Nat→Prop) (bad:Nat→T) (fin:T) (hn:n<18446744073709551616)
  (hs:∀ i,i<n→(ok i∧∀ g,step g (f i)=g (f (i+1)))∨(¬ ok i∧∀ g,step g (f i)=some (bad i))) (he:∀ g,step g (f n)=some fin) :
  ((∀ i,i<n→ok i)∧lp step K0 (f 0)=some fin)∨∃ i,i<n∧¬ ok i∧lp step K0 (f 0)=some (bad i) :=
 lp_all' f n ok bad fin hs he n 0 K0 (by omega) hn (fun j h=>by omega)
abbrev nLeaf (n:NODE):Bool:=n.1
abbrev nFeat (n:NODE):Int:=n.2.1
abbrev nCut (n:NODE):RAT:=n.2.2.1
abbrev nL (n:NODE):Int:=n.2.2.2.1
abbrev nR (n:NODE):Int:=n.2.2.2.2.1
abbrev nMiss (n:NODE):Bool:=n.2.2.2.2.2.1
abbrev nVal (n:NODE):RAT:=n.2.2.2.2.2.2.1
abbrev nCov (n:NODE):RAT:=n.2.2.2.2.2.2.2
def NSz (n:NODE) (k:Nat):Prop:=SzR (nCut n) k∧SzR (nVal n) k∧SzR (nCov n) k
def TSz (t:List NODE) (k:Nat):Prop:=∀ n∈t,NSz n k
def RangesP (t:List NODE) (f:Int):Prop:=∀ i (h:i<t.length),nLeaf t[i]=false→0≤nFeat t[i]∧nFeat t[i]<f∧1≤nL t[i]∧nL t[i]<t.length∧1≤nR t[i]∧nR t[i]<t.length
def CoversP (t:List NODE):Prop:=∀ i (h:i<t.length),0<rv (nCov t[i])
def cov (t:List NODE) (i:Nat):Rat:=rv (nCov ((t[i]?).getD (false,0,((false,[]),[]),0,0,false,((false,[]),[]),((false,[]),[]))))
theorem cov_get {t:List NODE} {i:Nat} (h:i<t.length):cov t i=rv (nCov t[i]):=by simp [cov,h]
def SumsP (t:List NODE):Prop:=∀ i (h:i<t.length),nLeaf t[i]=false→rv (nCov t[i])=cov t (nL t[i]).toNat+cov t (nR t[i]).toNat
theorem ranges_ok {t:List NODE} {f:Int} (hl:t.length<4294967296):∃ a e,valid_ranges t f=some (a,e)∧(e=0 ↔ RangesP t f):=by
 rcases lp_all (step:=valid_ranges_s2) (fun i=>((t,f,t,((t.length:Nat):Int),(i:Int),()),())) t.length
   (fun i=>∀ h:i<t.length,nLeaf t[i]=false→0≤nFeat t[i]∧nFeat t[i]<f∧1≤nL t[i]∧nL t[i]<t.length∧1≤nR t[i]∧nR t[i]<t.length)
   (fun i => .inr (((i : Int), 8, ()), ())) (.inl ((), ())) (by omega) (by
    intro i hi
    have d0:(i:Int)<((t.length:Nat):Int):=by omega
    have d1:(0:Int)≤(i:Int):=by omega
    have head:∀ g,valid_ranges_s2 g ((t,f,t,((t.length:Nat):Int),(i:Int),()),())=bif nLeaf t[i] then (g ((t,f,t,((t.length:Nat):Int),((i+1:Nat):Int),()),())) else (bif (decide (nFeat t[i]<0)) then (some (.inr (((i:Int),8,()),()))) else (bif (decide (nFeat t[i]≥f)) then (some (.inr (((i:Int),8,()),()))) else (bif (decide (nL t[i]<1)) then (some (.inr (((i:Int),8,()),()))) else (bif (decide (nL t[i]≥(t.length:Int))) then (some (.inr (((i:Int),8,()),()))) else (bif (decide (nR t[i]<1)) then (some (.inr (((i:Int),8,()),()))) else (bif (decide (nR t[i]≥(t.length:Int))) then (some (.inr (((i:Int),8,()),()))) else (g ((t,f,t,((t.length:Nat):Int),((i+1:Nat):Int),()),())))))))):=by
     intro g
     rw[valid_ranges_s2,cnd d0,cnd d1,tN0,gE0 hi,bS0,iadd1 (by omega)]
     rfl
    cases hleaf:nLeaf t[i] with
    | true=>exact .inl ⟨fun h h2=>absurd h2 (by rw[hleaf];decide),fun g=>by rw[head,hleaf];rfl⟩
    | false =>
     by_cases h:0≤nFeat t[i]∧nFeat t[i]<f∧1≤nL t[i]∧nL t[i]<t.length∧1≤nR t[i]∧nR t[i]<t.length
     · refine .inl ⟨fun _ _ => h, fun g => ?_⟩
       obtain⟨h1,h2,h3,h4,h5,h6⟩:=h
       rw[head,hleaf,cond_false,cnd' (by omega),cnd' (by omega),cnd' (by omega),cnd' (by omega),cnd' (by omega),cnd' (by omega)]
     · refine .inr ⟨fun h' => h (h' hi hleaf), fun g => ?_⟩
       rw[head,hleaf,cond_false]
       by_cases h1:nFeat t[i]<0
       · rw[cnd h1]
       by_cases h2:nFeat t[i]≥f
       · rw[cnd' h1,cnd h2]
       by_cases h3:nL t[i]<1
       · rw[cnd' h1,cnd' h2,cnd h3]
       by_cases h4:nL t[i]≥(t.length:Int)
       · rw[cnd' h1,cnd' h2,cnd' h3,cnd h4]
       by_cases h5:nR t[i]<1
       · rw[cnd' h1,cnd' h2,cnd' h3,cnd' h4,cnd h5]
       by_cases h6:nR t[i]≥(t.length:Int)
       · rw[cnd' h1,cnd' h2,cnd' h3,cnd' h4,cnd' h5,cnd h6]
       exfalso;apply h;omega) (by
    intro g
    rw[valid_ranges_s2,cnd' (by omega)]) with ⟨h,hlp⟩ | ⟨i,hi,h,hlp⟩
 · have hlp : lp valid_ranges_s2 K0 ((t, f, t, ((t.length : Nat) : Int), 0, ()), ()) = some (.inl ((), ())) := hlp
   refine⟨0,0,by rw[valid_ranges,hlp];rfl,?_⟩
   exact⟨fun _ i hi=>h i hi hi,fun _=>rfl⟩
 · have hlp : lp valid_ranges_s2 K0 ((t, f, t, ((t.length : Nat) : Int), 0, ()), ()) = some (.inr (((i : Int), 8, ()), ())) := hlp
   refine⟨(i:Int),8,by rw[valid_ranges,hlp];rfl,?_⟩
   exact⟨fun e=>(by cases e),fun hp=>absurd (fun hh=>hp i hh) h⟩
theorem covers_ok {t:List NODE} (hl:t.length<4294967296) {k:Nat} (hs:TSz t k) (hk:k<1099511627776):∃ a e,valid_covers t=some (a,e)∧(e=0 ↔ CoversP t):=by
 rcases lp_all (step:=valid_covers_s2) (fun i=>((t,((t.length:Nat):Int),(i:Int),()),())) t.length (fun i=>∀ h:i<t.length,0<rv (nCov t[i]))
   (fun i => .inr (((i : Int), 12, ()), ())) (.inl ((), ())) (by omega) (by
    intro i hi
    have d0:(i:Int)<((t.length:Nat):Int):=by omega
    have d1:(0:Int)≤(i:Int):=by omega
    have hsg:=ratio_Sign_ok ((hs _ (gM0 hi)).2.2.sm hk)
    have head:∀ g,valid_covers_s2 g ((t,((t.length:Nat):Int),(i:Int),()),())=bif decide (rcmp (rv (nCov t[i])) 0≤0) then some (.inr (((i:Int),12,()),())) else g ((t,((t.length:Nat):Int),((i+1:Nat):Int),()),()):=by
      intro g
      rw[valid_covers_s2,cnd d0,cnd d1,tN0,gE0 hi,bS0,hsg,bS0,iadd1 (by omega)]
      rfl
    by_cases h:0<rv (nCov t[i])
    · exact .inl ⟨fun _=>h,fun g=>by rw[head,cnd' (fun h'=>Rat.not_le.2 h (rcmp_le.1 h'))]⟩
    · exact .inr ⟨fun h'=>h (h' hi),fun g=>by rw[head,cnd (rcmp_le.2 (Rat.not_lt.1 h))]⟩) (by
    intro g
    rw[valid_covers_s2,cnd' (by omega)]) with ⟨h,hlp⟩ | ⟨i,hi,h,hlp⟩
 · have hlp : lp valid_covers_s2 K0 ((t, ((t.length : Nat) : Int), 0, ()), ()) = some (.inl ((), ())) := hlp
   exact⟨0,0,by rw[valid_covers,hlp];rfl,fun _ i hi=>h i hi hi,fun _=>rfl⟩
 · have hlp : lp valid_covers_s2 K0 ((t, ((t.length : Nat) : Int), 0, ()), ()) = some (.inr (((i : Int), 12, ()), ())) := hlp
   exact⟨(i:Int),12,by rw[valid_covers,hlp];rfl,fun e=>(by cases e),fun hp=>absurd (fun hh=>hp i hh) h⟩
theorem sums_ok {t:List NODE} {f:Int} (hl:t.length<4294967296) {k:Nat} (hs:TSz t k) (hk:k<500000000000) (hr:RangesP t f):∃ a e,valid_sums t=some (a,e)∧(e=0 ↔ SumsP t):=by
 rcases lp_all (step:=valid_sums_s2) (fun i=>((t,t,((t.length:Nat):Int),(i:Int),()),())) t.length (fun i=>∀ h:i<t.length,nLeaf t[i]=false→rv (nCov t[i])=cov t (nL t[i]).toNat+cov t (nR t[i]).toNat)
   (fun i => .inr (((i : Int), 13, ()), ())) (.inl ((), ())) (by omega) (by
    intro i hi
    have d0:(i:Int)<((t.length:Nat):Int):=by omega
    have d1:(0:Int)≤(i:Int):=by omega
    cases hleaf:nLeaf t[i] with
    | true =>
     refine .inl ⟨fun h h2=>absurd h2 (by rw[hleaf];decide),fun g=>?_⟩
     rw[valid_sums_s2,cnd d0,cnd d1,tN0,gE0 hi,bS0,show t[i].1=true from hleaf,iadd1 (by omega)]
     rfl
    | false =>
     obtain⟨r1,r2,r3,r4,r5,r6⟩:=hr i hi hleaf
     have l1:(nL t[i]).toNat<t.length:=by omega
     have l2:(nR t[i]).toNat<t.length:=by omega
     have c1:(0:Int)≤nL t[i]:=by omega
     have c2:(0:Int)≤nR t[i]:=by omega
     have z1:=(hs _ (gM0 l1)).2.2
     have z2:=(hs _ (gM0 l2)).2.2
     have z0:=(hs _ (gM0 hi)).2.2
     have hadd:=ratio_Add_ok (z1.sm (by omega)) (z2.sm (by omega))
     rw[← cov_get l1,← cov_get l2] at hadd
     have zz:SzQ (cov t (nL t[i]).toNat+cov t (nR t[i]).toNat) (max k 1+max k 1+1):=by
       rw[cov_get l1,cov_get l2]
       have y1:SzR (nCov t[(nL t[i]).toNat]) (max k 1):=⟨Nat.le_trans z1.1 (Nat.le_max_left _ _),Nat.le_trans z1.2 (Nat.le_max_left _ _)⟩
       have y2:SzR (nCov t[(nR t[i]).toNat]) (max k 1):=⟨Nat.le_trans z2.1 (Nat.le_max_left _ _),Nat.le_trans z2.2 (Nat.le_max_left _ _)⟩
       exact(y1.szQ (by omega)).add (y2.szQ (by omega))
     have hsame:=ratio_Same_ok (z0.sm (by omega)) (zz.sm (by omega))
     rw[rv_canQ] at hsame
     have head:∀ g,valid_sums_s2 g ((t,t,((t.length:Nat):Int),(i:Int),()),())=bif (!decide (rv (nCov t[i])=cov t (nL t[i]).toNat+cov t (nR t[i]).toNat)) then some (.inr (((i:Int),13,()),())) else g ((t,t,((t.length:Nat):Int),((i+1:Nat):Int),()),()):=by
       intro g
       rw[valid_sums_s2,cnd d0,cnd d1,tN0,gE0 hi,bS0,show t[i].1=false from hleaf,Bool.not_false,cond_true,cnd c1,gE0 l1,bS0,cnd c2,gE0 l2,bS0,hadd,bS0,hsame,bS0,iadd1 (by omega)]
       rfl
     by_cases h:rv (nCov t[i])=cov t (nL t[i]).toNat+cov t (nR t[i]).toNat
     · exact .inl ⟨fun _ _=>h,fun g=>by rw[head,decide_eq_true h];rfl⟩
     · exact .inr ⟨fun h'=>h (h' hi hleaf),fun g=>by rw[head,decide_eq_false h];rfl⟩) (by
    intro g
    rw[valid_sums_s2,cnd' (by omega)]) with ⟨h,hlp⟩ | ⟨i,hi,h,hlp⟩
 · have hlp : lp valid_sums_s2 K0 ((t, t, ((t.length : Nat) : Int), 0, ()), ()) = some (.inl ((), ())) := hlp
   exact⟨0,0,by rw[valid_sums,hlp];rfl,fun _ i hi=>h i hi hi,fun _=>rfl⟩
 · have hlp : lp valid_sums_s2 K0 ((t, t, ((t.length : Nat) : Int), 0, ()), ()) = some (.inr (((i : Int), 13, ()), ())) := hlp
   exact⟨(i:Int),13,by rw[valid_sums,hlp];rfl,fun e=>(by cases e),fun hp=>absurd (fun hh=>hp i hh) h⟩
def kids (t:List NODE) (i:Nat):List Nat :=
 match t[i]? with
 | some n=>if nLeaf n then [] else [(nL n).toNat,(nR n).toNat]
 | none=>[]
theorem kids_leaf {t:List NODE} {i:Nat} (h:i<t.length) (hl:nLeaf t[i]=true):kids t i=[]:=by
 have hl':t[i].1=true:=hl
 simp [kids,h,hl']
theorem kids_split {t:List NODE} {i:Nat} (h:i<t.length) (hl:nLeaf t[i]=false):kids t i=[(nL t[i]).toNat,(nR t[i]).toNat]:=by
 have hl':t[i].1=false:=hl
 simp [kids,h,hl']
def cnt (t:List NODE) (i j:Nat):Nat:=((List.range i).flatMap (kids t)).count j
theorem cnt_zero (t:List NODE) (j:Nat):cnt t 0 j=0:=by simp [cnt]
theorem cnt_succ (t:List NODE) (i j:Nat):cnt t (i+1) j=cnt t i j+(kids t i).count j:=by
 simp [cnt,List.range_succ,List.flatMap_append]
theorem cnt_le (t:List NODE) (i j:Nat):cnt t i j≤2*i:=by
 induction i with
 | zero=>simp [cnt_zero]
 | succ i ih =>
  rw[cnt_succ]
  have h1:(kids t i).count j≤(kids t i).length:=List.count_le_length
  have h2:(kids t i).length≤2:=by
   unfold kids
   split
   · split<;>simp
   · simp
  omega
def Ranked (t:List NODE):Prop:=∃ rk:Nat→Nat,∀ i,i<t.length→rk i≤t.length∧∀ c∈kids t i,rk c<rk i
def ShapeP (t:List NODE):Prop:=(∀ j,0<j→j<t.length→cnt t t.length j=1)∧Ranked t
theorem nodup_len:∀ {n:Nat} {V:List Nat},V.Nodup→(∀ x∈V,x<n)→V.length≤n
 | 0,V,_,h=>by
  cases V with
  | nil=>simp
  | cons x V=>have:=h x List.mem_cons_self;omega
 | n+1,V,hnd,h=>by
  by_cases hm:n∈V
  · have h1 : (V.erase n).Nodup := hnd.sublist List.erase_sublist
    have h2:∀ x∈V.erase n,x<n:=by
     intro x hx
     have:=(List.Nodup.mem_erase_iff hnd).1 hx
     have:=h x this.2
     omega
    have h3:=nodup_len h1 h2
    have h4:=List.length_erase_of_mem hm
    omega
  · have := nodup_len hnd (n := n) (fun x hx => by
     have:=h x hx
     have:x≠n:=fun e=>hm (e ▸ hx)
     omega)
    omega
section
variable {t:List NODE} {f:Int}
theorem kids_lt (hr:RangesP t f) {i c:Nat} (hi:i<t.length) (hc:c∈kids t i):0<c∧c<t.length:=by
 cases hl:nLeaf t[i] with
 | true=>rw[kids_leaf hi hl] at hc;cases hc
 | false =>
  obtain⟨_,_,h1,h2,h3,h4⟩:=hr i hi hl
  rw[kids_split hi hl] at hc
  simp at hc
  rcases hc with rfl | rfl<;>omega
theorem cnt_split (t:List NODE) (j:Nat) {a n:Nat} (ha:a<n):(kids t a).count j≤cnt t n j:=by
 induction n with
 | zero=>omega
 | succ n ih =>
  rw[cnt_succ]
  by_cases e:a=n
  · subst e;omega
  · have:=ih (by omega);omega
theorem cnt_two (t:List NODE) (j:Nat) {a b n:Nat} (hab:a<b) (hb:b<n):(kids t a).count j+(kids t b).count j≤cnt t n j:=by
 induction n with
 | zero=>omega
 | succ n ih =>
  rw[cnt_succ]
  by_cases e:b=n
  · subst e
    have:=cnt_split t j hab
    omega
  · have:=ih (by omega);omega
theorem parent_one (hc:∀ j,0<j→j<t.length→cnt t t.length j=1) (hr:RangesP t f) {a b j:Nat} (ha:a<t.length) (hb:b<t.length) (h1:j∈kids t a) (h2:j∈kids t b):a=b:=by
 obtain⟨j0,jl⟩:=kids_lt hr ha h1
 have c1:=List.count_pos_iff.2 h1
 have c2:=List.count_pos_iff.2 h2
 have:=hc j j0 jl
 rcases Nat.lt_trichotomy a b with h | h | h
 · have:=cnt_two t j h hb;omega
 · exact h
 · have:=cnt_two t j h ha;omega
theorem kids_nodup (hc:∀ j,0<j→j<t.length→cnt t t.length j=1) (hr:RangesP t f) {a:Nat} (ha:a<t.length):(kids t a).Nodup:=by
 rw[List.nodup_iff_count]
 intro j
 by_cases hj:j∈kids t a
 · obtain ⟨j0, jl⟩ := kids_lt hr ha hj
   have h1:=cnt_split t j ha
   have h2:=hc j j0 jl
   exact Nat.le_trans h1 (Nat.le_of_eq h2)
 · rw[List.count_eq_zero_of_not_mem hj];omega
theorem has_parent (hc:∀ j,0<j→j<t.length→cnt t t.length j=1) {j:Nat} (h0:0<j) (hj:j<t.length):∃ p,p<t.length∧j∈kids t p:=by
 have h1:=hc j h0 hj
 have h2:j∈(List.range t.length).flatMap (kids t):=List.count_pos_iff.1 (by rw[← cnt,h1];omega)
 obtain⟨p,hp,hm⟩:=List.mem_flatMap.1 h2
 exact⟨p,by simpa using hp,hm⟩
end
structure Srch (t:List NODE) (V S:List Nat):Prop where
 nd:(V++S).Nodup
 lt:∀ x∈V++S,x<t.length
 par:∀ c∈V++S,c≠0→∃ p∈V,c∈kids t p
 kid:∀ p∈V,∀ c∈kids t p,c∈V++S
 root:0∈V++S
 ord:V.Pairwise fun a b=>a ∉ kids t b
 self:∀ x∈V,x ∉ kids t x
theorem Srch.init {t:List NODE} (h:0<t.length):Srch t [] [0] where
 nd:=by simp
 lt:=by simpa using h
 par:=by simp
 kid:=by simp
 root:=by simp
 ord:=List.Pairwise.nil
 self:=by simp
theorem Srch.step {t:List NODE} {f:Int} (hc:∀ j,0<j→j<t.length→cnt t t.length j=1) (hr:RangesP t f) {V S:List Nat} {x:Nat} (h:Srch t V (S++[x])):Srch t (V++[x]) (S++kids t x):=by
 have hxlt:x<t.length:=h.lt x (by simp)
 have hnd:=h.nd
 rw[← List.append_assoc,List.nodup_append] at hnd
 obtain⟨n1,n2,n3⟩:=hnd
 have hxVS:x ∉ V++S:=fun hx=>n3 x hx x (by simp) rfl
 have hnew:∀ c∈kids t x,c ∉ V++(S++[x]):=by
   intro c hcx hmem
   obtain⟨c0,cl⟩:=kids_lt hr hxlt hcx
   obtain⟨p,hp,hcp⟩:=h.par c hmem (by omega)
   have:=parent_one hc hr (h.lt p (List.mem_append_left _ hp)) hxlt hcp hcx
   subst this
   exact hxVS (List.mem_append_left _ hp)
 have hperm:((V++[x])++(S++kids t x)).Perm ((V++(S++[x]))++kids t x):=by
   have e1:(V++[x])++(S++kids t x)=V++([x]++S)++kids t x:=by simp
   have e2:(V++(S++[x]))++kids t x=V++(S++[x])++kids t x:=rfl
   rw[e1,e2]
   exact List.Perm.append_right _ (List.Perm.append_left _ List.perm_append_comm)
 have hmem:∀ y,y∈(V++[x])++(S++kids t x) ↔ y∈V++(S++[x])∨y∈kids t x:=by
   intro y;rw[hperm.mem_iff,List.mem_append]
 refine⟨?_,?_,?_,?_,?_,?_,?_⟩
 · rw [hperm.nodup_iff, List.nodup_append]
   exact⟨h.nd,kids_nodup hc hr hxlt,fun a ha b hb e=>hnew b hb (e ▸ ha)⟩
 · intro y hy
   rcases(hmem y).1 hy with hy | hy
   · exact h.lt y hy
   · exact(kids_lt hr hxlt hy).2
 · intro c hcm hc0
   rcases(hmem c).1 hcm with hy | hy
   · obtain ⟨p, hp, hcp⟩ := h.par c hy hc0
     exact⟨p,List.mem_append_left _ hp,hcp⟩
   · exact⟨x,by simp,hy⟩
 · intro p hp c hcp
   rw[hmem]
   rcases List.mem_append.1 hp with hp | hp
   · exact .inl (h.kid p hp c hcp)
   · simp at hp;subst hp;exact .inr hcp
 · rw[hmem];exact .inl h.root
 · rw [List.pairwise_append]
   refine⟨h.ord,by simp,fun a ha b hb=>?_⟩
   simp at hb;subst hb
   intro hak
   exact hnew a hak (List.mem_append_left _ ha)
 · intro y hy
   rcases List.mem_append.1 hy with hy | hy
   · exact h.self y hy
   · simp at hy; subst hy
     intro hk
     exact hnew y hk (by simp)
theorem Srch.ranked {t:List NODE} {V:List Nat} (h:Srch t V []) (hall:∀ i,i<t.length→i∈V):Ranked t:=by
 have hnd:V.Nodup:=by simpa using h.nd
 have hlen:V.length≤t.length:=nodup_len hnd (fun x hx=>h.lt x (by simpa using hx))
 refine⟨fun i=>V.length-V.idxOf i,fun i hi=>⟨by show V.length-V.idxOf i≤t.length;omega,fun c hc=>?_⟩⟩
 have hiV:=hall i hi
 have hcV:c∈V:=by simpa using h.kid i hiV c hc
 have h1:V.idxOf i<V.length:=List.idxOf_lt_length_iff.2 hiV
 have h2:V.idxOf c<V.length:=List.idxOf_lt_length_iff.2 hcV
 have g1:V[V.idxOf i]=i:=List.getElem_idxOf h1
 have g2:V[V.idxOf c]=c:=List.getElem_idxOf h2
 have hne:¬ V.idxOf c≤V.idxOf i:=by
  intro hle
  by_cases e:V.idxOf c=V.idxOf i
  · have : c = i := by rw [← g1, ← g2]; simp [e]
    subst this
    exact h.self c hiV hc
  · have := List.pairwise_iff_getElem.1 h.ord _ _ h2 h1 (by omega)
    rw[g1,g2] at this
    exact this hc
 show V.length-V.idxOf c<V.length-V.idxOf i
 omega
theorem Srch.all {t:List NODE} {V:List Nat} (h:Srch t V []) (hc:∀ j,0<j→j<t.length→cnt t t.length j=1) (hrk:Ranked t):∀ i,i<t.length→i∈V:=by
 obtain⟨rk,hrk⟩:=hrk
 have key:∀ (d i:Nat),i<t.length→t.length-rk i≤d→i∈V:=by
  intro d
  induction d with
  | zero =>
   intro i hi hd
   by_cases h0:i=0
   · subst h0;simpa using h.root
   · obtain ⟨p, hp, hm⟩ := has_parent hc (by omega) hi
     have h1:=(hrk p hp).1
     have h2:=(hrk p hp).2 i hm
     omega
  | succ d ih =>
   intro i hi hd
   by_cases h0:i=0
   · subst h0;simpa using h.root
   · obtain ⟨p, hp, hm⟩ := has_parent hc (by omega) hi
     have h1:=(hrk p hp).1
     have h2:=(hrk p hp).2 i hm
     have:=ih p hp (by omega)
     simpa using h.kid p this i hm
 exact fun i hi=>key _ i hi (Nat.le_refl _)
def cntL (t:List NODE) (i:Nat):List Int:=(List.range t.length).map fun j=>((cnt t i j:Nat):Int)
@[simp] theorem cntL_len (t:List NODE) (i:Nat):(cntL t i).length=t.length:=by simp [cntL]
theorem cntL_get {t:List NODE} {i j:Nat} (h:j<t.length):(cntL t i)[j]?=some ((cnt t i j:Nat):Int):=by simp [cntL,h]
theorem cntL_step {t:List NODE} {i a b:Nat} (ha:a<t.length) (hb:b<t.length) (hk:kids t i=[a,b]) :
   ((cntL t i).set a (((cnt t i a:Nat):Int)+1))[b]?=some ((cnt t i b+(if a=b then 1 else 0):Nat):Int) ∧
   ((cntL t i).set a (((cnt t i a:Nat):Int)+1)).set b (((cnt t i b+(if a=b then 1 else 0):Nat):Int)+1)=cntL t (i+1):=by
 constructor
 · rw [List.getElem?_set]
   by_cases e:a=b
   · subst e;simp [ha]
   · rw[if_neg e,cntL_get hb];simp [e]
 · apply List.ext_getElem?
   intro j
   by_cases hj:j<t.length
   · rw [cntL_get hj, cnt_succ, hk, List.getElem?_set, List.getElem?_set]
     by_cases e1:b=j
     · subst e1
       by_cases e2:a=b
       · subst e2;simp [ha];omega
       · simp [hb,e2,List.count_cons]
     · by_cases e2 : a = j
       · subst e2;simp [ha,e1,List.count_cons]
       · rw[if_neg e1,if_neg e2,cntL_get hj];simp [List.count_cons,e1,e2]
   · rw[List.getElem?_eq_none (by simp;omega),List.getElem?_eq_none (by simp;omega)]
theorem shape_count {t:List NODE} {f:Int} (hl:t.length<4294967296) (hr:RangesP t f) :
  lp valid_shape_s3 K0 ((t,List.replicate t.length 0,t,((t.length:Nat):Int),0,()),())=some ((t,cntL t t.length,()),()):=by
 have e0:cntL t 0=List.replicate t.length 0:=by simp [cntL,cnt_zero,List.map_const']
 have:=lp_up (step:=valid_shape_s3) (fun i=>((t,cntL t i,t,((t.length:Nat):Int),(i:Int),()),())) t.length (r:=((t,cntL t t.length,()),())) (by omega) (by
  intro g i hi
  have d0:(i:Int)<((t.length:Nat):Int):=by omega
  have d1:(0:Int)≤(i:Int):=by omega
  cases hleaf:nLeaf t[i] with
  | true =>
   have:cntL t (i+1)=cntL t i:=by
    unfold cntL
    congr 1
    funext j
    rw[cnt_succ,kids_leaf hi hleaf];simp
   rw[valid_shape_s3,cnd d0,cnd d1,tN0,gE0 hi,bS0,show t[i].1=true from hleaf,iadd1 (by omega),this]
   rfl
  | false =>
   obtain⟨r1,r2,r3,r4,r5,r6⟩:=hr i hi hleaf
   have hk:=kids_split hi hleaf
   have l1:(nL t[i]).toNat<t.length:=by omega
   have l2:(nR t[i]).toNat<t.length:=by omega
   have c1:(0:Int)≤nL t[i]:=by omega
   have c2:(0:Int)≤nR t[i]:=by omega
   have c3:nL t[i]<((cntL t i).length:Int):=by rw[cntL_len];omega
   obtain⟨s1,s2⟩:=cntL_step l1 l2 hk
   have b1:=cnt_le t i (nL t[i]).toNat
   have b2:=cnt_le t i (nR t[i]).toNat
   have e1:iadd .i64 ((cnt t i (nL t[i]).toNat:Nat):Int) 1=((cnt t i (nL t[i]).toNat:Nat):Int)+1:=iadd1 (by omega)
   have e2:iadd .i64 ((cnt t i (nR t[i]).toNat+(if (nL t[i]).toNat=(nR t[i]).toNat then 1 else 0):Nat):Int) 1=((cnt t i (nR t[i]).toNat+(if (nL t[i]).toNat=(nR t[i]).toNat then 1 else 0):Nat):Int)+1:=iadd1 (by split<;>omega)
   have c4:nR t[i]<(((cntL t i).set (nL t[i]).toNat (((cnt t i (nL t[i]).toNat:Nat):Int)+1)).length:Int):=by rw[List.length_set,cntL_len];omega
   rw[valid_shape_s3,cnd d0,cnd d1,tN0,gE0 hi,bS0,show t[i].1=false from hleaf,Bool.not_false,cond_true,cnd2 c1 c3,cntL_get l1,bS0,cnd2 c1 c3,bS0,e1,cnd2 c2 c4,s1,bS0,cnd2 c2 c4,bS0,e2,s2,iadd1 (by omega)]
   rfl) (by
  intro g
  rw[valid_shape_s3,cnd' (by omega)])
 rw[← e0]
 exact this
theorem shape_search {t:List NODE} {f:Int} (hl:t.length<4294967296) (h0:0<t.length) (hr:RangesP t f) (hc:∀ j,0<j→j<t.length→cnt t t.length j=1) :
  ∃ V,Srch t V []∧lp valid_shape_s17 K0 ((t,List.replicate t.length false,[0],()),())=some ((usedOf t.length V,()),()):=by
 obtain⟨r,⟨V,hV,rfl⟩,hlp⟩:=lp_wf (step:=valid_shape_s17) (fun s=>∃ V S:List Nat,Srch t V S∧s=((t,usedOf t.length V,ints S,()),())) (fun s=>t.length+1-(s.1.2.1.filter id).length)
  (fun r=>∃ V,Srch t V []∧r=((usedOf t.length V,()),())) (v:=((t,List.replicate t.length false,[0],()),()))
  ⟨[], [0], Srch.init h0, by simp [usedOf, ints, List.map_const']⟩ (by simp; omega) (by
   rintro s ⟨V,S,hS,rfl⟩
   rcases List.eq_nil_or_concat S with rfl | ⟨S',x,hSx⟩
   · exact .inl ⟨_,⟨V,hS,rfl⟩,fun g=>by rw[valid_shape_s17,cnd' (by simp [ints])]⟩
   · rw [List.concat_eq_append] at hSx
     subst hSx
     have hnd:=hS.nd
     have hVl:(V++(S'++[x])).length≤t.length:=nodup_len hnd hS.lt
     have hSl:S'.length+1≤t.length:=by simp at hVl;omega
     have hxlt:x<t.length:=hS.lt x (by simp)
     have hst:=Srch.step hc hr hS
     have hxV:x ∉ V:=by
       intro hx
       rw[List.nodup_append] at hnd
       exact hnd.2.2 x hx x (by simp) rfl
     have hcount:∀ U:List Nat,U.Nodup→(∀ y∈U,y<t.length)→((usedOf t.length U).filter id).length=U.length:=by
       intro U hU hlt
       have e1:((usedOf t.length U).filter id).length=((List.range t.length).filter fun j=>decide (j∈U)).length:=by
         unfold usedOf
         rw[List.filter_map,List.length_map];rfl
       rw[e1]
       refine List.Perm.length_eq ?_
       rw[List.perm_iff_count]
       intro a
       have n1:((List.range t.length).filter fun j=>decide (j∈U)).Nodup:=List.Nodup.sublist List.filter_sublist List.nodup_range
       have m1:a∈((List.range t.length).filter fun j=>decide (j∈U)) ↔ a∈U:=by
         simp;exact hlt a
       by_cases ha:a∈U
       · rw[List.Nodup.count hU,if_pos ha,List.Nodup.count n1,if_pos (m1.2 ha)]
       · rw[List.count_eq_zero_of_not_mem ha,List.count_eq_zero_of_not_mem (fun h=>ha (m1.1 h))]
     have hVnd:V.Nodup:=(List.nodup_append.1 hnd).1
     have hm1:=hcount V hVnd (fun y hy=>hS.lt y (List.mem_append_left _ hy))
     have hVx:(V++[x]).Nodup:=(List.nodup_append.1 hst.nd).1
     have hm2:=hcount (V++[x]) hVx (fun y hy=>hst.lt y (List.mem_append_left _ hy))
     refine .inr ⟨_,⟨V++[x],S'++kids t x,hst,rfl⟩,?_,fun g=>?_⟩
     · show t.length + 1 - ((usedOf t.length (V ++ [x])).filter id).length < t.length + 1 - ((usedOf t.length V).filter id).length
       rw[hm1,hm2]
       simp at hVl ⊢;omega
     · have hlen : (ints (S' ++ [x])).length = S'.length + 1 := by simp
       have e1:isub .i64 ((S'.length+1:Nat):Int) 1=((S'.length:Nat):Int):=by rw[isub_i]<;>omega
       have c0:((S'.length+1:Nat):Int)>0:=by omega
       have c1:(0:Int)≤((S'.length:Nat):Int):=by omega
       have c2:((S'.length:Nat):Int)<((S'.length+1:Nat):Int):=by omega
       have g1:(ints (S'++[x]))[S'.length]?=some ((x:Nat):Int):=by simp [ints]
       have c3:(decide ((0:Int)≤((S'.length:Nat):Int))&&decide (((S'.length:Nat):Int)≤((S'.length:Nat):Int))&&decide (((S'.length:Nat):Int)≤((S'.length+1:Nat):Int)))=true:=by
         rw[decide_eq_true c1,decide_eq_true (Int.le_refl _),decide_eq_true (Int.le_of_lt c2)];rfl
       have c4:(0:Int)≤((x:Nat):Int):=by omega
       have c5:((x:Nat):Int)<((usedOf t.length V).length:Int):=by simp;omega
       have e2:(((S'.length:Nat):Int)-0).toNat=S'.length:=by omega
       have e3:(ints (S'++[x])).take S'.length=ints S':=by simp [ints]
       rw[valid_shape_s17,hlen,cnd c0,e1,cnd2 c1 c2,tN0,g1,bS0,c3,cond_true,cnd2 c4 c5,tN0,usedOf_get hxlt,bS0,cnd c4,gE0 hxlt,bS0,usedOf_set hxlt,e2,e3]
       cases hleaf:nLeaf t[x] with
       | true =>
         rw[show t[x].1=true from hleaf,kids_leaf hxlt hleaf,List.append_nil]
         rfl
       | false =>
         obtain⟨r1,r2,r3,r4,r5,r6⟩:=hr x hxlt hleaf
         have q1:(((nL t[x]).toNat:Nat):Int)=nL t[x]:=by omega
         have q2:(((nR t[x]).toNat:Nat):Int)=nR t[x]:=by omega
         have e4:ints (S'++kids t x)=ints S'++[nL t[x],nR t[x]]:=by
          rw[kids_split hxlt hleaf]
          simp only[ints,List.map_append,List.map_cons,List.map_nil,q1,q2]
         have hb8:((ints S').length+2)*8≤140737488355328:=by rw[ints_len];omega
         rw[show t[x].1=false from hleaf,blt hb8,cond_true,Bool.not_false,cond_true,e4])
 exact⟨V,hV,hlp⟩
theorem shape_ok {t:List NODE} {f:Int} (hl:t.length<4294967296) (h0:0<t.length) (hr:RangesP t f):∃ a e,valid_shape t=some (a,e)∧(e=0 ↔ ShapeP t):=by
 have hcount:=shape_count hl hr
 have gd:(decide ((t.length:Int)=(t.length:Int))&&decide (0≤(t.length:Int))&&decide (((8:Nat):Int)*(t.length:Int)≤281474976710656)&&decide ((t.length:Int)≤9223372036854775807))=true:=by
   have h1:(0:Int)≤(t.length:Int):=by omega
   have h2:((8:Nat):Int)*(t.length:Int)≤281474976710656:=by omega
   have h3:(t.length:Int)≤9223372036854775807:=by omega
   rw[decide_eq_true h1,decide_eq_true h2,decide_eq_true h3,decide_eq_true rfl];rfl
 have gd1:(decide ((t.length:Int)=(t.length:Int))&&decide (0≤(t.length:Int))&&decide (((1:Nat):Int)*(t.length:Int)≤281474976710656)&&decide ((t.length:Int)≤9223372036854775807))=true:=by
   have h1:(0:Int)≤(t.length:Int):=by omega
   have h2:((1:Nat):Int)*(t.length:Int)≤281474976710656:=by omega
   have h3:(t.length:Int)≤9223372036854775807:=by omega
   rw[decide_eq_true h1,decide_eq_true h2,decide_eq_true h3,decide_eq_true rfl];rfl
 rw[valid_shape,gd,cond_true,tN0,hcount,bS0,cntL_len]
 rcases lp_all (step:=valid_shape_s10) (fun i=>((t,cntL t t.length,((t.length:Nat):Int),(i:Int),()),())) t.length (fun i=>i=0∨cnt t t.length i=1) (fun i=>.inr (((i:Int),11,()),())) (.inl ((t,()),())) (by omega) (by
     intro i hi
     have d0:(i:Int)<((t.length:Nat):Int):=by omega
     have d1:(0:Int)≤(i:Int):=by omega
     have d2:(i:Int)<((cntL t t.length).length:Int):=by rw[cntL_len];omega
     by_cases hi0:i=0
     · refine .inl ⟨.inl hi0, fun g => ?_⟩
       rw[valid_shape_s10,cnd d0,cnd2 d1 d2,tN0,cntL_get hi,bS0,cnd' (by omega),iadd1 (by omega)]
       rfl
     · by_cases h1 : cnt t t.length i = 1
       · refine .inl ⟨.inr h1, fun g => ?_⟩
         rw[valid_shape_s10,cnd d0,cnd2 d1 d2,tN0,cntL_get hi,bS0,cnd (by omega),decide_eq_true (by omega),iadd1 (by omega)]
         rfl
       · refine .inr ⟨fun h => by rcases h with h | h <;> contradiction, fun g => ?_⟩
         rw[valid_shape_s10,cnd d0,cnd2 d1 d2,tN0,cntL_get hi,bS0,cnd (by omega),decide_eq_false (by omega)]
         rfl) (by
     intro g
     rw[valid_shape_s10,cnd' (by omega)]) with ⟨h,hlp⟩ | ⟨i,hi,h,hlp⟩
 · have hlp : lp valid_shape_s10 K0 ((t, cntL t t.length, ((t.length : Nat) : Int), 0, ()), ()) = some (.inl ((t, ()), ())) := hlp
   have hc:∀ j,0<j→j<t.length→cnt t t.length j=1:=fun j h1 h2=>by
     rcases h j h2 with h3 | h3
     · omega
     · exact h3
   obtain⟨V,hV,hlp2⟩:=shape_search hl h0 hr hc
   rw[hlp,bS0]
   dsimp only
   rw[gd1,cond_true,tN0,hlp2,bS0]
   dsimp only
   rw[usedOf_len]
   rcases lp_all (step:=valid_shape_s25) (fun i=>((usedOf t.length V,((t.length:Nat):Int),(i:Int),()),())) t.length (fun i=>i∈V) (fun i=>.inr (((i:Int),11,()),())) (.inl ((),())) (by omega) (by
       intro i hi
       have d0:(i:Int)<((t.length:Nat):Int):=by omega
       have d1:(0:Int)≤(i:Int):=by omega
       have d2:(i:Int)<((usedOf t.length V).length:Int):=by rw[usedOf_len];omega
       by_cases hiV:i∈V
       · refine .inl ⟨hiV, fun g => ?_⟩
         rw[valid_shape_s25,cnd d0,cnd2 d1 d2,tN0,usedOf_get hi,bS0,decide_eq_true hiV,iadd1 (by omega)]
         rfl
       · refine .inr ⟨hiV, fun g => ?_⟩
         rw[valid_shape_s25,cnd d0,cnd2 d1 d2,tN0,usedOf_get hi,bS0,decide_eq_false hiV]
         rfl) (by
       intro g
       rw[valid_shape_s25,cnd' (by omega)]) with ⟨h2,hlp3⟩ | ⟨i,hi,h2,hlp3⟩
   · have hlp3 : lp valid_shape_s25 K0 ((usedOf t.length V, ((t.length : Nat) : Int), 0, ()), ()) = some (.inl ((), ())) := hlp3
     rw[hlp3]
     exact⟨0,0,rfl,fun _=>⟨hc,hV.ranked h2⟩,fun _=>rfl⟩
   · have hlp3 : lp valid_shape_s25 K0 ((usedOf t.length V, ((t.length : Nat) : Int), 0, ()), ()) = some (.inr (((i : Int), 11, ()), ())) := hlp3
     rw[hlp3]
     exact⟨(i:Int),11,rfl,fun e=>(by cases e),fun hp=>absurd (hV.all hc hp.2 i hi) h2⟩
 · have hlp : lp valid_shape_s10 K0 ((t, cntL t t.length, ((t.length : Nat) : Int), 0, ()), ()) = some (.inr (((i : Int), 11, ()), ())) := hlp
   rw[hlp]
   refine⟨(i:Int),11,rfl,fun e=>(by cases e),fun hp=>?_⟩
   exfalso;apply h
   by_cases hi0:i=0
   · exact .inl hi0
   · exact .inr (hp.1 i (by omega) hi)
theorem lp_allh' {V T:Type} {step:(V→Option T)→V→Option T} (f:Nat→V) (n:Nat) (ok:Nat→Prop) (Q:T→Prop) (fin:T)
  (hs:∀ i,i<n→(∀ j,j<i→ok j)→(ok i∧∀ g,step g (f i)=g (f (i+1)))∨(¬ ok i∧∃ r,Q r∧∀ g,step g (f i)=some r)) (he:∀ g,step g (f n)=some fin) :
  ∀ (d i m:Nat),i+d=n→d<m→(∀ j,j<i→ok j)→((∀ i,i<n→ok i)∧lp step m (f i)=some fin)∨(¬ (∀ i,i<n→ok i)∧∃ r,Q r∧lp step m (f i)=some r):=by
 intro d
 induction d with
 | zero =>
  intro i m hi hm hok
  obtain⟨m,rfl⟩:∃ k,m=k+1:=⟨m-1,by omega⟩
  have:i=n:=by omega
  subst this
  exact .inl ⟨hok,he _⟩
 | succ d ih =>
  intro i m hi hm hok
  obtain⟨m,rfl⟩:∃ k,m=k+1:=⟨m-1,by omega⟩
  rcases hs i (by omega) hok with ⟨h1,h2⟩ | ⟨h1,r,h2,h3⟩
  · have := ih (i + 1) m (by omega) (by omega) (fun j hj => by
     by_cases e:j=i
     · subst e;exact h1
     · exact hok j (by omega))
    have e:lp step (m+1) (f i)=lp step m (f (i+1)):=h2 _
    rw[e];exact this
  · exact .inr ⟨fun h=>h1 (h i (by omega)),r,h2,h3 _⟩
theorem lp_allh {V T:Type} {step:(V→Option T)→V→Option T} (f:Nat→V) (n:Nat) (ok:Nat→Prop) (Q:T→Prop) (fin:T) (hn:n<18446744073709551616)
  (hs:∀ i,i<n→(∀ j,j<i→ok j)→(ok i∧∀ g,step g (f i)=g (f (i+1)))∨(¬ ok i∧∃ r,Q r∧∀ g,step g (f i)=some r)) (he:∀ g,step g (f n)=some fin) :
  ((∀ i,i<n→ok i)∧lp step K0 (f 0)=some fin)∨(¬ (∀ i,i<n→ok i)∧∃ r,Q r∧lp step K0 (f 0)=some r) :=
 lp_allh' f n ok Q fin hs he n 0 K0 (by omega) hn (fun j h=>by omega)
def NodeFits (n:NODE):Prop:=0≤nFeat n∧nFeat n≤64∧0≤nL n∧nL n≤255∧0≤nR n∧nR n≤255
def TreeFits (t:List NODE):Prop:=1≤t.length∧t.length≤255∧∀ i (h:i<t.length),NodeFits t[i]
def FitsP (m:MODEL):Prop:=0≤m.1∧m.1≤64∧m.2.length≤64∧∀ i (h:i<m.2.length),TreeFits m.2[i]
theorem fits_inner (a:List (List NODE)) (b c:Int) {t:List NODE} (hl:t.length<4294967296) :
   ((∀ i (h:i<t.length),NodeFits t[i])∧lp model_Fits_s9 K0 ((a,b,c,t,((t.length:Nat):Int),0,()),())=some (.inl ((a,b,c,()),()))) ∨
   (¬ (∀ i (h:i<t.length),NodeFits t[i])∧lp model_Fits_s9 K0 ((a,b,c,t,((t.length:Nat):Int),0,()),())=some (.inr ((false,()),()))):=by
 rcases lp_all (step:=model_Fits_s9) (fun i=>((a,b,c,t,((t.length:Nat):Int),(i:Int),()),())) t.length (fun i=>∀ h:i<t.length,NodeFits t[i]) (fun i=>.inr ((false,()),())) (.inl ((a,b,c,()),())) (by omega) (by
    intro i hi
    have d0:(i:Int)<((t.length:Nat):Int):=by omega
    have d1:(0:Int)≤(i:Int):=by omega
    have head:∀ g,model_Fits_s9 g ((a,b,c,t,((t.length:Nat):Int),(i:Int),()),())=bif (decide (nFeat t[i]<0)) then (some (.inr ((false,()),()))) else (bif (decide (nFeat t[i]>64)) then (some (.inr ((false,()),()))) else (bif (decide (nL t[i]<0)) then (some (.inr ((false,()),()))) else (bif (decide (nL t[i]>255)) then (some (.inr ((false,()),()))) else (bif (decide (nR t[i]<0)) then (some (.inr ((false,()),()))) else (bif (decide (nR t[i]>255)) then (some (.inr ((false,()),()))) else (g ((a,b,c,t,((t.length:Nat):Int),((i+1:Nat):Int),()),()))))))):=by
      intro g
      rw[model_Fits_s9,cnd d0,cnd d1,tN0,gE0 hi,bS0,iadd1 (by omega)]
      rfl
    by_cases h:NodeFits t[i]
    · refine .inl ⟨fun _ => h, fun g => ?_⟩
      obtain⟨h1,h2,h3,h4,h5,h6⟩:=h
      rw[head,cnd' (by omega),cnd' (by omega),cnd' (by omega),cnd' (by omega),cnd' (by omega),cnd' (by omega)]
    · refine .inr ⟨fun h' => h (h' hi), fun g => ?_⟩
      rw[head]
      by_cases h1:nFeat t[i]<0
      · rw[cnd h1]
      by_cases h2:nFeat t[i]>64
      · rw[cnd' h1,cnd h2]
      by_cases h3:nL t[i]<0
      · rw[cnd' h1,cnd' h2,cnd h3]
      by_cases h4:nL t[i]>255
      · rw[cnd' h1,cnd' h2,cnd' h3,cnd h4]
      by_cases h5:nR t[i]<0
      · rw[cnd' h1,cnd' h2,cnd' h3,cnd' h4,cnd h5]
      by_cases h6:nR t[i]>255
      · rw[cnd' h1,cnd' h2,cnd' h3,cnd' h4,cnd' h5,cnd h6]
      exfalso;apply h;unfold NodeFits;omega) (by
    intro g
    rw[model_Fits_s9,cnd' (by omega)]) with ⟨h,hlp⟩ | ⟨i,hi,h,hlp⟩
 · exact .inl ⟨fun i hi=>h i hi hi,hlp⟩
 · exact .inr ⟨fun hh=>h (fun hi=>hh i hi),hlp⟩
theorem Fits_ok {m:MODEL} (hl:m.2.length<4294967296) (ht:∀ t∈m.2,t.length<4294967296):∃ b,model_Fits m=some b∧(b=true ↔ FitsP m):=by
 unfold model_Fits
 by_cases h1:m.1<0
 · exact⟨false,by rw[cnd h1],fun h=>(by cases h),fun h=>by have:=h.1;omega⟩
 by_cases h2:m.1>64
 · exact⟨false,by rw[cnd' h1,cnd h2],fun h=>(by cases h),fun h=>by have:=h.2.1;omega⟩
 by_cases h3:((m.2.length:Nat):Int)>64
 · exact⟨false,by rw[cnd' h1,cnd' h2,cnd h3],fun h=>(by cases h),fun h=>by have:=h.2.2.1;omega⟩
 rw[cnd' h1,cnd' h2,cnd' h3]
 rcases lp_all (step:=model_Fits_s4) (fun i=>((m.2,((m.2.length:Nat):Int),(i:Int),()),())) m.2.length (fun i=>∀ h:i<m.2.length,TreeFits m.2[i]) (fun i=>.inr ((false,()),())) (.inl ((),())) (by omega) (by
    intro i hi
    have d0:(i:Int)<((m.2.length:Nat):Int):=by omega
    have d1:(0:Int)≤(i:Int):=by omega
    have hti:=ht _ (gM0 hi)
    by_cases g1:((m.2[i].length:Nat):Int)<1
    · refine .inr ⟨fun h => by have := (h hi).1; omega, fun g => ?_⟩
      rw[model_Fits_s4,cnd d0,cnd d1,tN0,gE0 hi,bS0,cnd g1]
    by_cases g2:((m.2[i].length:Nat):Int)>255
    · refine .inr ⟨fun h => by have := (h hi).2.1; omega, fun g => ?_⟩
      rw[model_Fits_s4,cnd d0,cnd d1,tN0,gE0 hi,bS0,cnd' g1,cnd g2]
    rcases fits_inner m.2 ((m.2.length:Nat):Int) (i:Int) hti with ⟨h,hlp⟩ | ⟨h,hlp⟩
    · refine .inl ⟨fun _ => ⟨by omega, by omega, h⟩, fun g => ?_⟩
      rw[model_Fits_s4,cnd d0,cnd d1,tN0,gE0 hi,bS0,cnd' g1,cnd' g2,hlp,bS0]
      dsimp only
      rw[iadd1 (by omega)]
      rfl
    · refine .inr ⟨fun hh => h (hh hi).2.2, fun g => ?_⟩
      rw[model_Fits_s4,cnd d0,cnd d1,tN0,gE0 hi,bS0,cnd' g1,cnd' g2,hlp,bS0]) (by
    intro g
    rw[model_Fits_s4,cnd' (by omega)]) with ⟨h,hlp⟩ | ⟨i,hi,h,hlp⟩
 · have hlp : lp model_Fits_s4 K0 ((m.2, ((m.2.length : Nat) : Int), 0, ()), ()) = some (.inl ((), ())) := hlp
   exact⟨true,by rw[hlp];rfl,fun _=>⟨by omega,by omega,by omega,fun i hi=>h i hi hi⟩,fun _=>rfl⟩
 · have hlp : lp model_Fits_s4 K0 ((m.2, ((m.2.length : Nat) : Int), 0, ()), ()) = some (.inr ((false, ()), ())) := hlp
   exact⟨false,by rw[hlp];rfl,fun h'=>(by cases h'),fun hp=>absurd (fun hh=>hp.2.2.2 i hh) h⟩
def RuleP (f:Int):Nat→List NODE→Prop
 | 0,t=>RangesP t f
 | 1,t=>ShapeP t
 | 2,t=>CoversP t
 | _,t=>SumsP t
def Good (m:MODEL):Prop:=FitsP m∧∀ r,r<4→∀ i (h:i<m.2.length),RuleP m.1 r m.2[i]
theorem Good.ranges {m:MODEL} (h:Good m) {i:Nat} (hi:i<m.2.length):RangesP m.2[i] m.1:=h.2 0 (by decide) i hi
theorem Good.shape {m:MODEL} (h:Good m) {i:Nat} (hi:i<m.2.length):ShapeP m.2[i]:=h.2 1 (by decide) i hi
theorem Good.covers {m:MODEL} (h:Good m) {i:Nat} (hi:i<m.2.length):CoversP m.2[i]:=h.2 2 (by decide) i hi
def MSz (m:MODEL) (k:Nat):Prop:=∀ t∈m.2,TSz t k
theorem check_inner {m:MODEL} {k:Nat} (hf:FitsP m) (hs:MSz m k) (hk:k<500000000000) {r:Nat} (hr:r<4) (hlow:∀ r',r'<r→∀ i (h:i<m.2.length),RuleP m.1 r' m.2[i]) (z:Int×Int×Int×Int) :
   ((∀ i (h:i<m.2.length),RuleP m.1 r m.2[i])∧lp valid_Check_s7 K0 (((r:Int),(r:Int),m.2,((m.2.length:Nat):Int),0,()),((m.1,m.2,()),(z.1,z.2.1,z.2.2.1,z.2.2.2,()),()))=some (.inl (((r:Int),()),((m.1,m.2,()),(z.1,z.2.1,z.2.2.1,z.2.2.2,()),())))) ∨
   (¬ (∀ i (h:i<m.2.length),RuleP m.1 r m.2[i])∧∃ e a b c,e≠0∧lp valid_Check_s7 K0 (((r:Int),(r:Int),m.2,((m.2.length:Nat):Int),0,()),((m.1,m.2,()),(z.1,z.2.1,z.2.2.1,z.2.2.2,()),()))=some (.inr ((),((e,a,b,c,()),())))):=by
 have hlen:=hf.2.2.1
 have ans:∀ i (h:i<m.2.length),∃ a e,(e=0 ↔ RuleP m.1 r m.2[i])∧∀ g,valid_Check_s7 g (((r:Int),(r:Int),m.2,((m.2.length:Nat):Int),(i:Int),()),((m.1,m.2,()),(z.1,z.2.1,z.2.2.1,z.2.2.2,()),())) =
     bif (!decide (e=0)) then some (.inr ((),((e,0,(i:Int),a,()),()))) else g (((r:Int),(r:Int),m.2,((m.2.length:Nat):Int),((i+1:Nat):Int),()),((m.1,m.2,()),(z.1,z.2.1,z.2.2.1,z.2.2.2,()),())):=by
   intro i hi
   have d0:(i:Int)<((m.2.length:Nat):Int):=by omega
   have d1:(0:Int)≤(i:Int):=by omega
   have htf:=hf.2.2.2 i hi
   have htl:m.2[i].length<4294967296:=by have:=htf.2.1;omega
   have ht0:0<m.2[i].length:=htf.1
   have hts:=hs _ (gM0 hi)
   match r,hr with
   | 0, _ =>
     obtain⟨a,e,h1,h2⟩:=ranges_ok (f:=m.1) htl
     refine⟨a,e,h2,fun g=>?_⟩
     rw[valid_Check_s7,cnd d0,cnd d1,tN0,gE0 hi,bS0,cnd (by rfl),h1,bS0,iadd1 (by omega)]
     rfl
   | 1, _ =>
     obtain⟨a,e,h1,h2⟩:=shape_ok htl ht0 (hlow 0 (by decide) i hi)
     refine⟨a,e,h2,fun g=>?_⟩
     rw[valid_Check_s7,cnd d0,cnd d1,tN0,gE0 hi,bS0,cnd' (by decide),cnd (by rfl),h1,bS0,iadd1 (by omega)]
     rfl
   | 2, _ =>
     obtain⟨a,e,h1,h2⟩:=covers_ok htl hts (by omega)
     refine⟨a,e,h2,fun g=>?_⟩
     rw[valid_Check_s7,cnd d0,cnd d1,tN0,gE0 hi,bS0,cnd' (by decide),cnd' (by decide),cnd (by rfl),h1,bS0,iadd1 (by omega)]
     rfl
   | 3, _ =>
     obtain⟨a,e,h1,h2⟩:=sums_ok htl hts hk (hlow 0 (by decide) i hi)
     refine⟨a,e,h2,fun g=>?_⟩
     rw[valid_Check_s7,cnd d0,cnd d1,tN0,gE0 hi,bS0,cnd' (by decide),cnd' (by decide),cnd' (by decide),cnd (by rfl),h1,bS0,iadd1 (by omega)]
     rfl
 have ans2:∀ i,∃ a e,∀ h:i<m.2.length,(e=0 ↔ RuleP m.1 r m.2[i])∧∀ g,valid_Check_s7 g (((r:Int),(r:Int),m.2,((m.2.length:Nat):Int),(i:Int),()),((m.1,m.2,()),(z.1,z.2.1,z.2.2.1,z.2.2.2,()),())) =
     bif (!decide (e=0)) then some (.inr ((),((e,0,(i:Int),a,()),()))) else g (((r:Int),(r:Int),m.2,((m.2.length:Nat):Int),((i+1:Nat):Int),()),((m.1,m.2,()),(z.1,z.2.1,z.2.2.1,z.2.2.2,()),())):=by
   intro i
   by_cases h:i<m.2.length
   · obtain ⟨a, e, h1, h2⟩ := ans i h
     exact⟨a,e,fun _=>⟨h1,h2⟩⟩
   · exact⟨0,0,fun h'=>absurd h' h⟩
 have A:=fun i=>(ans2 i).choose
 let E:Nat→Int:=fun i=>(ans2 i).choose_spec.choose
 have hE:∀ i (h:i<m.2.length),(E i=0 ↔ RuleP m.1 r m.2[i])∧∀ g,valid_Check_s7 g (((r:Int),(r:Int),m.2,((m.2.length:Nat):Int),(i:Int),()),((m.1,m.2,()),(z.1,z.2.1,z.2.2.1,z.2.2.2,()),())) =
     bif (!decide (E i=0)) then some (.inr ((),((E i,0,(i:Int),(ans2 i).choose,()),()))) else g (((r:Int),(r:Int),m.2,((m.2.length:Nat):Int),((i+1:Nat):Int),()),((m.1,m.2,()),(z.1,z.2.1,z.2.2.1,z.2.2.2,()),())):=fun i h=>(ans2 i).choose_spec.choose_spec h
 rcases lp_all (step:=valid_Check_s7) (fun i=>(((r:Int),(r:Int),m.2,((m.2.length:Nat):Int),(i:Int),()),((m.1,m.2,()),(z.1,z.2.1,z.2.2.1,z.2.2.2,()),()))) m.2.length (fun i=>E i=0) (fun i=>.inr ((),((E i,0,(i:Int),(ans2 i).choose,()),()))) (.inl (((r:Int),()),((m.1,m.2,()),(z.1,z.2.1,z.2.2.1,z.2.2.2,()),()))) (by omega) (by
     intro i hi
     obtain⟨h1,h2⟩:=hE i hi
     by_cases h0:E i=0
     · exact .inl ⟨h0,fun g=>by rw[h2,decide_eq_true h0];rfl⟩
     · exact .inr ⟨h0,fun g=>by rw[h2,decide_eq_false h0];rfl⟩) (by
     intro g
     rw[valid_Check_s7,cnd' (by omega)]) with ⟨h,hlp⟩ | ⟨i,hi,h,hlp⟩
 · exact .inl ⟨fun i hi=>(hE i hi).1.1 (h i hi),hlp⟩
 · exact .inr ⟨fun hh=>h ((hE i hi).1.2 (hh i hi)),E i,0,(i:Int),_,h,hlp⟩
theorem Ok_ok {m:MODEL} {k:Nat} (hl:m.2.length<4294967296) (ht:∀ t∈m.2,t.length<4294967296) (hs:MSz m k) (hk:k<500000000000):∃ b,valid_Ok m=some b∧(b=true ↔ Good m):=by
 obtain⟨b,hb,hbf⟩:=Fits_ok hl ht
 cases b with
 | false =>
  have hnf:¬ FitsP m:=fun h=>by have:=hbf.2 h;cases this
  refine⟨false,?_,fun h=>(by cases h),fun h=>absurd h.1 hnf⟩
  rw[valid_Ok,valid_Check,hb,bS0]
  rfl
 | true =>
  have hf:=hbf.1 rfl
  rcases lp_allh (step:=valid_Check_s4) (fun r=>(((r:Int),()),((m.1,m.2,()),(0,0,0,0,()),()))) 4 (fun r=>∀ i (h:i<m.2.length),RuleP m.1 r m.2[i]) (fun r=>∃ e a b c,e≠0∧r=.inr ((),((e,a,b,c,()),()))) (.inl ((),((0,0,0,0,()),()))) (by omega) (by
     intro r hr hlow
     have d0:(r:Int)<4:=by omega
     rcases check_inner hf hs hk hr (fun r' hr'=>hlow r' hr') (0,0,0,0) with ⟨h1,h2⟩ | ⟨h1,e,a,b,c,h2,h3⟩
     · refine .inl ⟨h1, fun g => ?_⟩
       rw[valid_Check_s4,cnd d0,h2,bS0]
       dsimp only
       rw[iadd1 (by omega)]
       rfl
     · refine .inr ⟨h1, _, ⟨e, a, b, c, h2, rfl⟩, fun g => ?_⟩
       rw[valid_Check_s4,cnd d0,h3,bS0]) (by
     intro g
     rw[valid_Check_s4,cnd' (by decide)]) with ⟨h,hlp⟩ | ⟨h,r,⟨e,a,b,c,he,rfl⟩,hlp⟩
  · have hlp : lp valid_Check_s4 K0 (((0 : Int), ()), ((m.1, m.2, ()), (0, 0, 0, 0, ()), ())) = _ := hlp
    refine⟨true,?_,fun _=>⟨hf,h⟩,fun _=>rfl⟩
    rw[valid_Ok,valid_Check,hb,bS0,Bool.not_true,cond_false,hlp]
    rfl
  · have hlp : lp valid_Check_s4 K0 (((0 : Int), ()), ((m.1, m.2, ()), (0, 0, 0, 0, ()), ())) = _ := hlp
    refine⟨false,?_,fun h'=>(by cases h'),fun hg=>absurd hg.2 h⟩
    rw[valid_Ok,valid_Check,hb,bS0,Bool.not_true,cond_false,hlp,bS0]
    dsimp only
    rw[bS0,decide_eq_false he]
    rfl
theorem number07_ok (a:RAT):dendronlaw07_number a=some (cutR 4 a):=by
 obtain⟨⟨s,x⟩,y⟩:=a
 unfold dendronlaw07_number cutR
 by_cases h1:4<x.length
 · have c1 : ((x.length : Nat) : Int) > 4 := by omega
   have c2:(4:Int)≤((x.length:Nat):Int):=by omega
   by_cases h2:4<y.length
   · have c3 : ((y.length : Nat) : Int) > 4 := by omega
     have c4:(4:Int)≤((y.length:Nat):Int):=by omega
     rw[cnd c1,cnd c2,cnd c3,cnd c4]
   · have c3 : ¬ ((y.length : Nat) : Int) > 4 := by omega
     rw[cnd c1,cnd c2,cnd' c3,List.take_of_length_le (l:=y) (by omega)]
 · have c1 : ¬ ((x.length : Nat) : Int) > 4 := by omega
   by_cases h2:4<y.length
   · have c3 : ((y.length : Nat) : Int) > 4 := by omega
     have c4:(4:Int)≤((y.length:Nat):Int):=by omega
     rw[cnd' c1,cnd c3,cnd c4,List.take_of_length_le (l:=x) (by omega)]
   · have c3 : ¬ ((y.length : Nat) : Int) > 4 := by omega
     rw[cnd' c1,cnd' c3,List.take_of_length_le (l:=x) (by omega),List.take_of_length_le (l:=y) (by omega)]
def cutNode (n:NODE):NODE:=(n.1,n.2.1,cutR 4 n.2.2.1,n.2.2.2.1,n.2.2.2.2.1,n.2.2.2.2.2.1,cutR 4 n.2.2.2.2.2.2.1,cutR 4 n.2.2.2.2.2.2.2)
def cutTree (t:List NODE):List NODE:=(t.take 15).map cutNode
def cutM (m:MODEL):MODEL:=(m.1,(m.2.take 6).map cutTree)
theorem cutNode_sz (n:NODE):NSz (cutNode n) 4:=⟨cutR_sz 4 _,cutR_sz 4 _,cutR_sz 4 _⟩
theorem cutTree_sz (t:List NODE):TSz (cutTree t) 4:=by
 intro n hn
 obtain⟨x,_,rfl⟩:=List.mem_map.1 hn
 exact cutNode_sz x
theorem cutTree_len (t:List NODE):(cutTree t).length≤15:=by simp [cutTree];omega
theorem cutM_sz (m:MODEL):MSz (cutM m) 4:=by
 intro t ht
 obtain⟨x,_,rfl⟩:=List.mem_map.1 ht
 exact cutTree_sz x
theorem cutM_tlen (m:MODEL):∀ t∈(cutM m).2,t.length≤15:=by
 intro t ht
 obtain⟨x,_,rfl⟩:=List.mem_map.1 ht
 exact cutTree_len x
theorem Few07_inner {m:MODEL} {i:Nat} (hi:i<m.2.length) (hl:m.2[i].length≤9223372036854775807) (hi2:i<4611686018427387904) (z w:Int×List (List NODE)) :
  lp dendronlaw07_Few_s7 K0 (((i:Int),[],0,()),((m.1,m.2,()),(z.1,z.2,()),(w.1,w.2,()),()))=some (((i:Int),cutTree m.2[i],()),((m.1,m.2,()),(z.1,z.2,()),(w.1,w.2,()),())):=by
 have hn:min m.2[i].length 15≤m.2[i].length:=Nat.min_le_left _ _
 exact lp_up (step:=dendronlaw07_Few_s7) (fun k=>(((i:Int),(m.2[i].take k).map cutNode,(k:Int),()),((m.1,m.2,()),(z.1,z.2,()),(w.1,w.2,()),()))) (min m.2[i].length 15) (by omega) (by
  intro g k hk
  have h1:k<m.2[i].length:=by omega
  have d0:(0:Int)≤(i:Int):=by omega
  have d1:(k:Int)<((m.2[i].length:Nat):Int):=by omega
  have d2:(k:Int)<15:=by omega
  have d3:(0:Int)≤(k:Int):=by omega
  have d4:(((m.2[i].take k).map cutNode).length+1)*208≤140737488355328:=by simp;omega
  rw[dendronlaw07_Few_s7,cnd d0,tN0,gE0 hi,bS0,cnd d1,cnd d2,cnd d0,bS0,cnd d3,tN0,gE0 h1,bS0,number07_ok,bS0,number07_ok,bS0,number07_ok,bS0,blt d4,cond_true,iadd1 (by omega),map_take_succ _ h1]
  rfl) (by
  intro g
  have d0:(0:Int)≤(i:Int):=by omega
  by_cases h:m.2[i].length≤15
  · have c1 : ¬ ((min m.2[i].length 15 : Nat) : Int) < ((m.2[i].length : Nat) : Int) := by omega
    rw[dendronlaw07_Few_s7,cnd d0,tN0,gE0 hi,bS0,cnd' c1,Nat.min_eq_left h,List.take_of_length_le (Nat.le_refl _),cutTree,List.take_of_length_le h]
  · have c1 : ((min m.2[i].length 15 : Nat) : Int) < ((m.2[i].length : Nat) : Int) := by omega
    have c2:¬ ((min m.2[i].length 15:Nat):Int)<15:=by omega
    rw[dendronlaw07_Few_s7,cnd d0,tN0,gE0 hi,bS0,cnd c1,cnd' c2,Nat.min_eq_right (by omega),cutTree])
theorem Few07_ok (m:MODEL) (hl:m.2.length≤9223372036854775807) (ht:∀ t∈m.2,t.length≤9223372036854775807):dendronlaw07_Few m=some (cutM m):=by
 have hn:min m.2.length 6≤m.2.length:=Nat.min_le_left _ _
 have key:=lp_up (step:=dendronlaw07_Few_s3) (fun i=>(((i:Int),()),((m.1,m.2,()),(0,[],()),(m.1,(m.2.take i).map cutTree,()),()))) (min m.2.length 6) (r:=((),((0,[],()),(m.1,(m.2.take 6).map cutTree,()),()))) (by omega) (by
  intro g i hi
  have h1:i<m.2.length:=by omega
  have d0:(i:Int)<((m.2.length:Nat):Int):=by omega
  have d1:(i:Int)<6:=by omega
  have hin:=Few07_inner h1 (ht _ (gM0 h1)) (by omega) (0,[]) (m.1,(m.2.take i).map cutTree)
  have d4:(((m.2.take i).map cutTree).length+1)*24≤140737488355328:=by simp;omega
  rw[dendronlaw07_Few_s3,cnd d0,cnd d1,hin,bS0,blt d4,cond_true,iadd1 (by omega),map_take_succ _ h1]
  rfl) (by
  intro g
  by_cases h:m.2.length≤6
  · have c1 : ¬ ((min m.2.length 6 : Nat) : Int) < ((m.2.length : Nat) : Int) := by omega
    rw[dendronlaw07_Few_s3,cnd' c1,Nat.min_eq_left h,List.take_of_length_le (Nat.le_refl _),List.take_of_length_le h]
  · have c1 : ((min m.2.length 6 : Nat) : Int) < ((m.2.length : Nat) : Int) := by omega
    have c2:¬ ((min m.2.length 6:Nat):Int)<6:=by omega
    rw[dendronlaw07_Few_s3,cnd c1,cnd' c2,Nat.min_eq_right (by omega)])
 have key':lp dendronlaw07_Few_s3 K0 ((0,()),((m.1,m.2,()),(0,[],()),(m.1,[],()),()))=_:=key
 rw[dendronlaw07_Few,key']
 rfl
inductive TR where
 | leaf (i:Nat)
 | split (i:Nat) (l r:TR)
def TR.top:TR→Nat
 | .leaf i=>i
 | .split i _ _=>i
def TR.size:TR→Nat
 | .leaf _=>1
 | .split _ l r=>1+l.size+r.size
def TR.deep:TR→Nat
 | .leaf _=>1
 | .split _ l r=>1+max l.deep r.deep
def Is (t:List NODE) (f:Int):TR→Prop
 | .leaf i=>∃ h:i<t.length,nLeaf t[i]=true
 | .split i l r=>∃ h:i<t.length,nLeaf t[i]=false∧0≤nFeat t[i]∧nFeat t[i]<f∧nL t[i]=(l.top:Int)∧nR t[i]=(r.top:Int)∧Is t f l∧Is t f r
theorem tree_at {t:List NODE} {f:Int} (hr:RangesP t f) (hrk:Ranked t):∀ i,i<t.length→∃ T,Is t f T∧T.top=i∧T.deep≤t.length+1:=by
 obtain⟨rk,hrk⟩:=hrk
 have key:∀ (d i:Nat),i<t.length→rk i≤d→∃ T,Is t f T∧T.top=i∧T.deep≤rk i+1:=by
  intro d
  induction d with
  | zero =>
   intro i hi hd
   cases hl:nLeaf t[i] with
   | true=>exact⟨.leaf i,⟨hi,hl⟩,rfl,by simp [TR.deep]⟩
   | false =>
    have:=(hrk i hi).2 (nL t[i]).toNat (by rw[kids_split hi hl];simp)
    omega
  | succ d ih =>
   intro i hi hd
   cases hl:nLeaf t[i] with
   | true=>exact⟨.leaf i,⟨hi,hl⟩,rfl,by simp [TR.deep]⟩
   | false =>
    obtain⟨r1,r2,r3,r4,r5,r6⟩:=hr i hi hl
    have k1:=(hrk i hi).2 (nL t[i]).toNat (by rw[kids_split hi hl];simp)
    have k2:=(hrk i hi).2 (nR t[i]).toNat (by rw[kids_split hi hl];simp)
    obtain⟨L,hL,hLt,hLd⟩:=ih (nL t[i]).toNat (by omega) (by omega)
    obtain⟨R,hR,hRt,hRd⟩:=ih (nR t[i]).toNat (by omega) (by omega)
    refine⟨.split i L R,⟨hi,hl,r1,r2,by rw[hLt];omega,by rw[hRt];omega,hL,hR⟩,rfl,?_⟩
    simp only[TR.deep]
    omega
 intro i hi
 obtain⟨T,h1,h2,h3⟩:=key (rk i) i hi (Nat.le_refl _)
 have:=(hrk i hi).1
 exact⟨T,h1,h2,by omega⟩
theorem Good.tree {m:MODEL} (h:Good m) {i:Nat} (hi:i<m.2.length):∃ T,Is m.2[i] m.1 T∧T.top=0∧T.deep≤m.2[i].length+1 :=
 tree_at (h.ranges hi) (h.shape hi).2 0 (h.1.2.2.2 i hi).1
abbrev zR:RAT:=((false,[]),[])
abbrev zN:NODE:=(false,0,zR,0,0,false,zR,zR)
def nodeAt (t:List NODE) (i:Nat):NODE:=(t[i]?).getD zN
theorem nodeAt_get {t:List NODE} {i:Nat} (h:i<t.length):nodeAt t i=t[i]:=by simp [nodeAt,h]
def cellAt (row:List CELL) (i:Nat):CELL:=(row[i]?).getD (false,zR)
theorem cellAt_get {row:List CELL} {i:Nat} (h:i<row.length):cellAt row i=row[i]:=by simp [cellAt,h]
def goes (n:NODE) (c:CELL):Bool:=if c.1 then nMiss n else decide (rv c.2<rv (nCut n))
def goL (t:List NODE) (row:List CELL) (i:Nat):Bool:=goes (nodeAt t i) (cellAt row (nFeat (nodeAt t i)).toNat)
def wayT (t:List NODE) (row:List CELL):TR→List Nat
 | .leaf i=>[i]
 | .split i l r=>i::if goL t row i then wayT t row l else wayT t row r
theorem Is.top_lt {t:List NODE} {f:Int} {T:TR} (h:Is t f T):T.top<t.length:=by
 cases T with
 | leaf i=>exact h.1
 | split i l r=>exact h.1
theorem TR.size_lt (T:TR):T.size<2 ^ T.deep:=by
 induction T with
 | leaf i=>simp [TR.size,TR.deep]
 | split i l r ihl ihr =>
  simp only[TR.size,TR.deep]
  have h1:2 ^ l.deep≤2 ^ max l.deep r.deep:=Nat.pow_le_pow_right (by decide) (Nat.le_max_left _ _)
  have h2:2 ^ r.deep≤2 ^ max l.deep r.deep:=Nat.pow_le_pow_right (by decide) (Nat.le_max_right _ _)
  rw[Nat.add_comm 1 (max l.deep r.deep),Nat.pow_succ]
  omega
theorem TR.size_le {T:TR} (h:T.deep≤16):T.size<65536:=by
 have h1:=T.size_lt
 have h2:2 ^ T.deep≤2 ^ 16:=Nat.pow_le_pow_right (by decide) h
 omega
theorem TR.deep_pos (T:TR):0<T.deep:=by cases T<;>simp [TR.deep]<;>omega
def expT (t:List NODE) (row:List CELL) (set:Nat):TR→Rat
 | .leaf i=>rv (nVal (nodeAt t i))
 | .split i l r=>if set.testBit (nFeat (nodeAt t i)).toNat then (if goL t row i then expT t row set l else expT t row set r)
  else (cov t l.top*expT t row set l+cov t r.top*expT t row set r)/cov t i
theorem TSz.at {t:List NODE} {k:Nat} (h:TSz t k) {i:Nat} (hi:i<t.length):NSz (nodeAt t i) k:=by rw[nodeAt_get hi];exact h _ (gM0 hi)
theorem cov_sz {t:List NODE} (hs:TSz t 4) {i:Nat} (hi:i<t.length):SzQ (cov t i) 4:=(hs.at hi).2.2.szQ (by decide)
theorem expT_sz {t:List NODE} {f:Int} {row:List CELL} {set:Nat} {T:TR} (hs:TSz t 4) (h:Is t f T):SzQ (expT t row set T) (16*T.size):=by
 induction T with
 | leaf i=>exact((hs.at h.1).2.1.szQ (by decide)).mono (by simp [TR.size])
 | split i l r ihl ihr =>
  obtain⟨h1,_,_,_,_,_,h2,h3⟩:=h
  have a:=ihl h2
  have b:=ihr h3
  simp only[expT,TR.size]
  split
  · split
    · exact a.mono (by omega)
    · exact b.mono (by omega)
  · have := (((cov_sz hs h2.top_lt).mul a).add ((cov_sz hs h3.top_lt).mul b)).div (cov_sz hs h1)
    exact this.mono (by omega)
def mkT (t:List NODE):Nat→Nat→TR
 | 0,i=>.leaf i
 | d+1,i=>if nLeaf (nodeAt t i) then .leaf i else .split i (mkT t d (nL (nodeAt t i)).toNat) (mkT t d (nR (nodeAt t i)).toNat)
theorem mkT_eq {t:List NODE} {f:Int}:∀ (d:Nat) (T:TR),Is t f T→T.deep≤d→mkT t d T.top=T:=by
 intro d
 induction d with
 | zero=>intro T _ h;have:=T.deep_pos;omega
 | succ d ih =>
  intro T h hd
  cases T with
  | leaf i =>
   obtain⟨h1,h2⟩:=h
   simp only[TR.top,mkT,nodeAt_get h1,h2,if_true]
  | split i l r =>
   obtain⟨h1,h2,_,_,h3,h4,h5,h6⟩:=h
   simp only[TR.deep] at hd
   show mkT t (d+1) i=_
   rw[mkT,nodeAt_get h1,h2,h3,h4,tN0,tN0,ih l h5 (by omega),ih r h6 (by omega)]
   rfl
def treeOf (t:List NODE):TR:=mkT t (t.length+1) 0
theorem Good.treeOf {m:MODEL} (h:Good m) {i:Nat} (hi:i<m.2.length):Is m.2[i] m.1 (treeOf m.2[i])∧(treeOf m.2[i]).top=0∧(treeOf m.2[i]).deep≤m.2[i].length+1:=by
 obtain⟨T,h1,h2,h3⟩:=h.tree hi
 have:X.treeOf m.2[i]=T:=by rw[X.treeOf,← h2];exact mkT_eq _ T h1 h3
 rw[this];exact⟨h1,h2,h3⟩
def treeAt (m:MODEL) (i:Nat):List NODE:=(m.2[i]?).getD []
theorem treeAt_get {m:MODEL} {i:Nat} (h:i<m.2.length):treeAt m i=m.2[i]:=by simp [treeAt,h]
def sayM (m:MODEL) (row:List CELL) (set:Nat):Rat:=rsum (fun i=>expT (treeAt m i) row set (treeOf (treeAt m i))) m.2.length
theorem MSz.at {m:MODEL} {k:Nat} (h:MSz m k) {i:Nat} (hi:i<m.2.length):TSz (treeAt m i) k:=by rw[treeAt_get hi];exact h _ (gM0 hi)
theorem Good.isAt {m:MODEL} (h:Good m) {i:Nat} (hi:i<m.2.length):Is (treeAt m i) m.1 (X.treeOf (treeAt m i)):=by rw[treeAt_get hi];exact(h.treeOf hi).1
theorem deep16 {m:MODEL} (h:Good m) (hl:∀ t∈m.2,t.length≤15) {i:Nat} (hi:i<m.2.length):(treeOf (treeAt m i)).deep≤16:=by
 rw[treeAt_get hi]
 have:=(h.treeOf hi).2.2
 have:=hl _ (gM0 hi)
 omega
theorem expT_at {m:MODEL} {row:List CELL} {set:Nat} (h:Good m) (hs:MSz m 4) (hl:∀ t∈m.2,t.length≤15) {i:Nat} (hi:i<m.2.length):SzQ (expT (treeAt m i) row set (treeOf (treeAt m i))) 1048576:=by
 have:=TR.size_le (deep16 h hl hi)
 exact(expT_sz (hs.at hi) (h.isAt hi)).mono (by omega)
theorem sayM_sz {m:MODEL} {row:List CELL} {set:Nat} (h:Good m) (hs:MSz m 4) (hl:∀ t∈m.2,t.length≤15) {n:Nat} (hn:n≤m.2.length):SzQ (rsum (fun i=>expT (treeAt m i) row set (treeOf (treeAt m i))) n) (1+n*1048577) :=
 rsum_sz fun i hi=>expT_at h hs hl (by omega)
def CSz (row:List CELL) (k:Nat):Prop:=∀ c∈row,SzR c.2 k
theorem goes_ok {n:NODE} {c:CELL} {k j:Nat} (hn:SzR (nCut n) k) (hk:k<1099511627776) (hc:SzR c.2 j) (hj:j<1099511627776):route_goes n c=some (goes n c):=by
 unfold route_goes goes
 cases h:c.1 with
 | true=>rfl
 | false =>
  rw[cond_false,ratio_Cmp_ok (hc.sm hj) (hn.sm hk),bS0,if_neg (by decide)]
  congr 1
  by_cases h:rv c.2<rv (nCut n)
  · rw[decide_eq_true (rcmp_neg.2 h),decide_eq_true h]
  · rw[decide_eq_false (fun e=>h (rcmp_neg.1 e)),decide_eq_false h]
theorem Left_ok {n:NODE} {c:CELL} {k j:Nat} (hn:SzR (nCut n) k) (hk:k<1099511627776) (hc:SzR c.2 j) (hj:j<1099511627776):route_Left n c=some (!nLeaf n&&goes n c):=by
 unfold route_Left
 rw[goes_ok hn hk hc hj]
 show _=some (!n.1&&goes n c)
 cases h:n.1 with
 | true=>rfl
 | false=>rfl
theorem goL_ok {t:List NODE} {f:Int} {row:List CELL} {i:Nat} (hs:TSz t 4) (hc:CSz row 9) (hi:i<t.length) (h0:0≤nFeat t[i]) (h1:nFeat t[i]<(row.length:Int)) :
  ∃ c,row[(nFeat t[i]).toNat]?=some c∧SzR c.2 9∧goes t[i] c=goL t row i:=by
 have hlt:(nFeat t[i]).toNat<row.length:=by omega
 refine⟨row[(nFeat t[i]).toNat],gE0 hlt,hc _ (gM0 hlt),?_⟩
 rw[goL,nodeAt_get hi,cellAt_get hlt]
theorem cutRow_sz (l:List CELL):CSz (l.map cutCell) 9:=by
 intro c hc
 obtain⟨x,_,rfl⟩:=List.mem_map.1 hc
 exact⟨Nat.le_trans (cutR_sz 3 _).1 (by decide),Nat.le_trans (cutR_sz 3 _).2 (by decide)⟩
theorem fitsOk {m:MODEL} {row:List CELL} (hl:m.2.length<4294967296) (ht:∀ t∈m.2,t.length<4294967296) (hs:MSz m 4) :
  ∃ e:Int,route_fits m row=some e∧route_Fits m row=some e∧(e=0 ↔ Good m∧(row.length:Int)=m.1):=by
 obtain⟨b,h1,h2⟩:=Ok_ok hl ht hs (by decide)
 have key:∃ e:Int,route_fits m row=some e∧(e=0 ↔ Good m∧(row.length:Int)=m.1):=by
  cases b with
  | false => exact ⟨1, by rw [route_fits, h1]; rfl, by constructor; · intro h; exact absurd h (by decide)
                                                       · intro h;have:=h2.2 h.1;simp at this⟩
  | true =>
   by_cases h:(row.length:Int)=m.1
   · exact⟨0,by rw[route_fits,h1,bS0,Bool.not_true,cond_false,decide_eq_true h];rfl,by simp [h2.1 rfl,h]⟩
   · exact⟨14,by rw[route_fits,h1,bS0,Bool.not_true,cond_false,decide_eq_false h];rfl,by simp [h]⟩
 obtain⟨e,h3,h4⟩:=key
 exact⟨e,h3,by rw[route_Fits,h3];rfl,h4⟩
structure Askd (m:MODEL) (row:List CELL):Prop where
 good:Good m
 len:(row.length:Int)=m.1
 ms:MSz m 4
 ml:m.2.length≤6
 mt:∀ t∈m.2,t.length≤15
 cs:CSz row 9
theorem Askd.tree {m:MODEL} {row:List CELL} (h:Askd m row) {i:Nat} (hi:i<m.2.length):TSz m.2[i] 4∧Is m.2[i] (row.length:Int) (treeOf (treeAt m i))∧(treeOf (treeAt m i)).top=0∧(treeOf (treeAt m i)).deep≤16∧treeAt m i=m.2[i]:=by
 have h1:=h.good.treeOf hi
 have h2:=deep16 h.good h.mt hi
 rw[treeAt_get hi] at h2 ⊢
 exact⟨h.ms _ (gM0 hi),by rw[h.len];exact h1.1,h1.2.1,h2,rfl⟩
theorem sum_step {f:Nat→Rat} {n k:Nat} {q:RAT} (hs:SzQ (rsum f n) k) (hk:k<1099511627776) (hq:Sm q) (e:rv q=f n):ratio_Add (((canQ (rsum f n)).1.1,(canQ (rsum f n)).1.2),(canQ (rsum f n)).2) q=some (canQ (rsum f (n+1))):=by
 have h1:=ratio_Add_ok (hs.sm hk) hq
 rw[rv_canQ,e] at h1
 exact h1
theorem testBit_div (n k:Nat):(n/2 ^ k) % 2=1 ↔ n.testBit k=true:=by
 rw[Nat.testBit_eq_decide_div_mod_eq,decide_eq_true_iff]
theorem known_ok {set k:Nat} (hs:set<18446744073709551616) (hk:k≤64):expect_known (set:Int) (k:Int)=some (set.testBit k):=by
 have h2:(set/2 ^ k:Nat)<18446744073709551616:=Nat.lt_of_le_of_lt (Nat.div_le_self _ _) hs
 have h3:=iand_nat (x:=set/2 ^ k) (y:=1) h2 (by decide)
 rw[expect_known,cnd' (by omega),shr_nat set k hk]
 have h3:iand .u64 ((set/2 ^ k:Nat):Int) 1=((set/2 ^ k &&& 1:Nat):Int):=h3
 rw[h3,Nat.and_one_is_mod]
 congr 1
 by_cases h:set.testBit k=true
 · rw [h, decide_eq_true]
   have:=(testBit_div set k).2 h
   omega
 · have h' : set.testBit k = false := by simpa using h
   rw[h',decide_eq_false]
   intro e
   exact h ((testBit_div set k).1 (by omega))
theorem over_ok {a b:RAT} (ha:Sm a) (hb:Sm b) (h:rv b≠0):expect_over a b=some (canQ (rv a/rv b)):=by
 rw[expect_over,ratio_Div_ok ha hb,if_neg h];rfl
theorem mean_ok {t:List NODE} {i a b:Nat} {x y:RAT} {p q:Rat} {k:Nat} (hs:TSz t 4) (hcov:CoversP t) (hi:i<t.length) (ha:a<t.length) (hb:b<t.length) (hL:nL t[i]=(a:Int)) (hR:nR t[i]=(b:Int)) (hx:rv x=p) (hy:rv y=q) (hxs:Sm x) (hys:Sm y)
  (hp:SzQ p k) (hq:SzQ q k) (hk:k<1000000000):expect_mean t t[i] x y=some (canQ ((cov t a*p+cov t b*q)/cov t i)):=by
 have za:=(hs _ (gM0 ha)).2.2
 have zb:=(hs _ (gM0 hb)).2.2
 have zi:=(hs _ (gM0 hi)).2.2
 have m1:=ratio_Mul_ok (za.sm (by decide)) hxs
 have m2:=ratio_Mul_ok (zb.sm (by decide)) hys
 rw[hx] at m1
 rw[hy] at m2
 have s1:SzQ (rv (nCov t[a])*p) (4+k):=(za.szQ (by decide)).mul hp
 have s2:SzQ (rv (nCov t[b])*q) (4+k):=(zb.szQ (by decide)).mul hq
 have s3:=s1.add s2
 have m3:=ratio_Add_ok (s1.sm (by omega)) (s2.sm (by omega))
 rw[rv_canQ,rv_canQ] at m3
 have hne:rv (nCov t[i])≠0:=by
  have:=hcov i hi
  intro e
  rw[e] at this
  exact absurd this (by decide)
 have m4:=over_ok (s3.sm (by omega)) (zi.sm (by decide)) hne
 rw[rv_canQ] at m4
 rw[expect_mean,show t[i].2.2.2.1=(a:Int) from hL,cnd (by omega),tN0,gE0 ha,bS0,m1,bS0,show t[i].2.2.2.2.1=(b:Int) from hR,cnd (by omega),tN0,gE0 hb,bS0,m2,bS0,m3,bS0,m4,bS0,cov_get ha,cov_get hb,cov_get hi]
theorem expect_value_ok {t:List NODE} {row:List CELL} {set:Nat} (hs:TSz t 4) (hc:CSz row 9) (hcov:CoversP t) (hset:set<18446744073709551616) (hf64:row.length≤64):∀ (n:Nat) (T:TR),Is t (row.length:Int) T→T.deep≤n→T.size≤1000000 →
  expect_value n t (T.top:Int) row (set:Int)=some (canQ (expT t row set T)):=by
 intro n
 induction n with
 | zero=>intro T _ hd;have:=T.deep_pos;omega
 | succ n ih =>
  intro T h hd hz
  show expect_value_b (expect_value n) t T.top row set=_
  cases T with
  | leaf i =>
   obtain⟨h1,h2⟩:=h
   have d0:(0:Int)≤(i:Int):=by omega
   have z:=hs _ (gM0 h1)
   rw[expect_value_b,show((TR.leaf i).top:Int)=(i:Int) from rfl,cnd d0,tN0,gE0 h1,bS0,show t[i].1=true from h2,cond_true,ratio_Clean_ok (z.2.1.sm (by decide)),bS0,expT,nodeAt_get h1]
  | split i l r =>
   have h0:=h
   obtain⟨h1,h2,f0,f1,h3,h4,h5,h6⟩:=h
   have d0:(0:Int)≤(i:Int):=by omega
   simp only[TR.deep] at hd
   simp only[TR.size] at hz
   obtain⟨c,g1,g2,g3⟩:=goL_ok (f:=0) hs hc h1 f0 f1
   have z:=hs _ (gM0 h1)
   have el:expect_value n t t[i].2.2.2.1 row set=some (canQ (expT t row set l)):=by rw[show t[i].2.2.2.1=_ from h3];exact ih l h5 (by omega) (by omega)
   have er:expect_value n t t[i].2.2.2.2.1 row set=some (canQ (expT t row set r)):=by rw[show t[i].2.2.2.2.1=_ from h4];exact ih r h6 (by omega) (by omega)
   have hft:((nFeat t[i]).toNat:Int)=nFeat t[i]:=by omega
   have hkn:=known_ok (k:=(nFeat t[i]).toNat) hset (by omega)
   rw[hft] at hkn
   rw[expect_value_b,show((TR.split i l r).top:Int)=(i:Int) from rfl,cnd d0,tN0,gE0 h1,bS0,show t[i].1=false from h2,cond_false,hkn,bS0,expT,nodeAt_get h1]
   cases hb:set.testBit (nFeat t[i]).toNat with
   | false =>
    have sl:=expT_sz (row:=row) (set:=set) hs h5
    have sr:=expT_sz (row:=row) (set:=set) hs h6
    have sl':=sl.mono (m:=16000000) (by omega)
    have sr':=sr.mono (m:=16000000) (by omega)
    rw[Bool.not_false,cond_true,el,bS0,er,bS0,mean_ok hs hcov h1 h5.top_lt h6.top_lt h3 h4 (rv_canQ _) (rv_canQ _) (sl'.sm (by decide)) (sr'.sm (by decide)) sl' sr' (by decide),bS0,if_neg (by decide)]
   | true =>
    rw[Bool.not_true,cond_false,cnd f0,g1,bS0,Left_ok z.1 (by decide) g2 (by decide),bS0,g3,show(!nLeaf t[i])=true by rw[h2];rfl,Bool.true_and,if_pos rfl]
    cases goL t row i with
    | true=>rw[cond_true,el,bS0,if_pos rfl]
    | false=>rw[cond_false,er,bS0,if_neg (by decide)]
theorem Askd.cov {m:MODEL} {row:List CELL} (h:Askd m row) {i:Nat} (hi:i<m.2.length):CoversP m.2[i]:=h.good.covers hi
theorem Askd.f64 {m:MODEL} {row:List CELL} (h:Askd m row):row.length≤64:=by
 have:=h.good.1.2.1
 have:=h.len
 omega
theorem eValue_ok {m:MODEL} {row:List CELL} (h:Askd m row) {set:Nat} (hset:set<18446744073709551616):expect_Value m row (set:Int)=some (canQ (sayM m row set),0):=by
 obtain⟨e,_,h1,h2⟩:=fitsOk (row:=row) (by have:=h.ml;omega) (fun t ht=>by have:=h.mt t ht;omega) h.ms
 have e0:e=0:=h2.2 ⟨h.good,h.len⟩
 subst e0
 have ml:=h.ml
 obtain⟨F,eF⟩:∃ F:Nat→Rat,F=fun i=>expT (treeAt m i) row set (treeOf (treeAt m i)):=⟨_,rfl⟩
 have hF:∀ n,n≤m.2.length→SzQ (rsum F n) (1+n*1048577):=fun n hn=>by rw[eF];exact sayM_sz h.good h.ms h.mt hn
 have key:=lp_up (step:=expect_Value_s6) (fun i=>((row,(set:Int),m.2,((m.2.length:Nat):Int),(i:Int),()),((false,[],[],()),((canQ (rsum F i)).1.1,(canQ (rsum F i)).1.2,(canQ (rsum F i)).2,()),()))) m.2.length (by omega) (by
  intro g i hi
  have d0:(i:Int)<((m.2.length:Nat):Int):=by omega
  have d1:(0:Int)≤(i:Int):=by omega
  obtain⟨t1,t2,t3,t4,t5⟩:=h.tree hi
  have hz:=TR.size_le t4
  have hv:=expect_value_ok t1 h.cs (h.cov hi) hset h.f64 R0 _ t2 (by unfold R0;omega) (by omega)
  rw[t3] at hv
  have hv:expect_value R0 m.2[i] 0 row set=some (canQ (expT m.2[i] row set (treeOf (treeAt m i)))):=hv
  have hq:SzQ (expT m.2[i] row set (treeOf (treeAt m i))) 1048576:=(expT_sz t1 t2).mono (by omega)
  have ha:=sum_step (hF i (by omega)) (by omega) (hq.sm (by decide)) (by rw[rv_canQ,eF];show _=expT (treeAt m i) row set _;rw[t5])
  rw[expect_Value_s6,cnd d0,cnd d1,tN0,gE0 hi,bS0,hv,bS0,ha,bS0,iadd1 (by omega)]
  rfl) (by
  intro g
  rw[expect_Value_s6,cnd' (by omega)])
 rw[expect_Value,h1,bS0,show(!decide ((0:Int)=0))=false by decide,cond_false,ratio_Zero_ok,bS0]
 have key':lp expect_Value_s6 K0 ((row,(set:Int),m.2,((m.2.length:Nat):Int),0,()),((false,[],[],()),((canQ 0).1.1,(canQ 0).1.2,(canQ 0).2,()),()))=_:=key
 rw[key']
 rw[sayM,← eF]
 rfl
theorem Small_ok (m0:MODEL) (row0:List CELL) (hl:m0.2.length≤9223372036854775807) (ht:∀ t∈m0.2,t.length≤9223372036854775807) (hr:row0.length≤9223372036854775807) :
   ∃ m row,dendronlaw11_Small m0 row0=some (m,row)∧MSz m 4∧m.2.length≤3∧(∀ t∈m.2,t.length≤15)∧CSz row 9:=by
 have hf:=Few07_ok m0 hl ht
 have ms:=cutM_sz m0
 have mt:=cutM_tlen m0
 have h9:=Few09_ok row0 70 hr (by decide)
 have h9:dendronlaw09_Few row0 70=some ((row0.take 70).map cutCell):=h9
 have cs:=cutRow_sz (row0.take 70)
 by_cases h3:((cutM m0).2.length:Int)>3
 · refine ⟨((cutM m0).1, (cutM m0).2.take 3), (row0.take 70).map cutCell, ?_, fun t h => ms t (List.mem_of_mem_take h), by simp; omega, fun t h => mt t (List.mem_of_mem_take h), cs⟩
   rw[dendronlaw11_Small,hf,bS0,cnd h3,cnd (by omega),h9];rfl
 · refine ⟨cutM m0, (row0.take 70).map cutCell, ?_, ms, by omega, mt, cs⟩
   rw[dendronlaw11_Small,hf,bS0,cnd' h3,h9];rfl
def rprod (f:Nat→Rat):Nat→Rat
 | 0=>1
 | n+1=>rprod f n*f n
def qcan (qs:List Rat):List RAT:=qs.map canQ
@[simp] theorem qcan_len (qs:List Rat):(qcan qs).length=qs.length:=by simp [qcan]
def lsum:List Rat→Rat
 | []=>0
 | x::r=>x+lsum r
theorem lsum_append (a b:List Rat):lsum (a++b)=lsum a+lsum b:=by
 induction a with
 | nil=>simp [lsum,Rat.zero_add]
 | cons x a ih=>simp only[List.cons_append,lsum,ih,Rat.add_assoc]
theorem CoversP.ne {t:List NODE} (h:CoversP t):∀ i,i<t.length→cov t i≠0:=by
 intro i hi e
 have:=h i hi
 rw[cov_get hi] at e
 rw[e] at this
 exact absurd this (by decide)
abbrev AP:=Nat×Rat×Bool
def encP (p:AP):PART:=((p.1:Int),canQ p.2.1,p.2.2)
def encW (w:List AP):List PART:=w.map encP
theorem encW_len (w:List AP):(encW w).length=w.length:=by simp [encW]
theorem encW_get {w:List AP} {i:Nat} (h:i<w.length):(encW w)[i]?=some (encP w[i]):=by simp [encW,h]
def along (f:Nat) (q:Rat) (ok:Bool):List AP→List AP
 | []=>[(f,q,ok)]
 | p::w=>if p.1<f then p::along f q ok w else if p.1=f then (f,p.2.1*q,p.2.2&&ok)::w else (f,q,ok)::p::w
def ASz (w:List AP) (k:Nat):Prop:=∀ p∈w,SzQ p.2.1 k
def featT (t:List NODE) (i:Nat):Nat:=(nFeat (nodeAt t i)).toNat
theorem along_mem {f:Nat} {q:Rat} {ok:Bool} {w:List AP}:∀ p∈along f q ok w,p.1=f∨∃ p'∈w,p'.1=p.1:=by
 induction w with
 | nil=>intro p hp;simp [along] at hp;subst hp;exact .inl rfl
 | cons a w ih =>
  intro p hp
  simp only[along] at hp
  split at hp
  · rcases List.mem_cons.1 hp with rfl | hp
    · exact .inr ⟨p,List.mem_cons_self,rfl⟩
    · rcases ih p hp with h | ⟨p', h1, h2⟩
      · exact .inl h
      · exact .inr ⟨p',List.mem_cons_of_mem _ h1,h2⟩
  · split at hp
    · rcases List.mem_cons.1 hp with rfl | hp
      · exact .inl rfl
      · exact .inr ⟨p,List.mem_cons_of_mem _ hp,rfl⟩
    · rcases List.mem_cons.1 hp with rfl | hp
      · exact .inl rfl
      · exact .inr ⟨p,hp,rfl⟩
theorem share_sz {t:List NODE} (hs:TSz t 4) {a i:Nat} (ha:a<t.length) (hi:i<t.length):SzQ (cov t a/cov t i) 8:=(cov_sz hs ha).div (cov_sz hs hi)
def lprod:List Rat→Rat
 | []=>1
 | x::r=>x*lprod r
theorem lprod_append (a b:List Rat):lprod (a++b)=lprod a*lprod b:=by
 induction a with
 | nil=>simp [lprod,Rat.one_mul]
 | cons x a ih=>simp only[List.cons_append,lprod,ih,Rat.mul_assoc]
def facP (set:Nat) (p:AP):Rat:=if set.testBit p.1 then (if p.2.2 then 1 else 0) else p.2.1
def reachA (set:Nat) (w:List AP):Rat:=lprod (w.map (facP set))
theorem reachA_along (set f:Nat) (q:Rat) (ok:Bool) (w:List AP):reachA set (along f q ok w)=reachA set w*facP set (f,q,ok):=by
 induction w with
 | nil=>simp [reachA,along,lprod,Rat.mul_one,Rat.one_mul]
 | cons p w ih =>
  simp only[reachA] at ih
  simp only[along]
  split
  · simp only[reachA,List.map_cons,lprod,ih];grind
  · split
    · rename_i e
      simp only[reachA,List.map_cons,lprod]
      have:facP set (f,p.2.1*q,p.2.2&&ok)=facP set p*facP set (f,q,ok):=by
       simp only[facP,e]
       cases set.testBit f<;>cases p.2.2<;>cases ok<;>simp<;>grind
      rw[this];grind
    · simp only[reachA,List.map_cons,lprod];grind
def tabS (m:MODEL) (row:List CELL) (n:Nat):List RAT:=(List.range n).map fun s=>canQ (sayM m row s)
theorem tabS_len (m:MODEL) (row:List CELL) (n:Nat):(tabS m row n).length=n:=by simp [tabS]
theorem tabS_get (m:MODEL) (row:List CELL) {n i:Nat} (h:i<n):(tabS m row n)[i]?=some (canQ (sayM m row i)):=by simp [tabS,h]
theorem Table_ok {m:MODEL} {row:List CELL} (h:Askd m row) (h12:m.1≤12):expect_Table m row=some (tabS m row (2 ^ m.1.toNat),0):=by
 obtain⟨e,_,h1,h2⟩:=fitsOk (row:=row) (by have:=h.ml;omega) (fun t ht=>by have:=h.mt t ht;omega) h.ms
 have e0:e=0:=h2.2 ⟨h.good,h.len⟩
 subst e0
 have f0:=h.good.1.1
 obtain⟨k,hk⟩:∃ k:Nat,m.1=(k:Int):=⟨m.1.toNat,by omega⟩
 have hp:2 ^ k≤2 ^ 12:=Nat.pow_le_pow_right (by decide) (by omega)
 have hs:shlV .u64 1 m.1=((2 ^ k:Nat):Int):=by
  have:=shl_nat (x:=1) (s:=k) (by omega) (by omega)
  rw[Nat.one_mul] at this
  rw[hk];exact this
 obtain⟨n,hn⟩:∃ n,n=2 ^ k:=⟨_,rfl⟩
 rw[← hn] at hs hp
 have hp:n≤4096:=hp
 have key:=lp_up (step:=expect_Table_s8) (fun i=>((row,tabS m row i,(n:Int),(i:Int),()),((m.1,m.2,()),()))) n (r:=((tabS m row n,()),())) (by omega) (by
  intro g i hi
  have d0:(i:Int)<(n:Int):=by omega
  have hv:=eValue_ok h (set:=i) (by omega)
  have hv:expect_Value (m.1,m.2) row (i:Int)=_:=hv
  have e1:tabS m row (i+1)=tabS m row i++[canQ (sayM m row i)]:=by simp [tabS,List.range_succ]
  have iu:iadd .u64 (i:Int) 1=((i+1:Nat):Int):=by rw[iadd_u]<;>omega
  rw[expect_Table_s8,cnd d0,hv,bS0,blt (by rw[tabS_len];omega),cond_true,e1,iu]) (by
  intro g
  rw[expect_Table_s8,cnd' (by omega)])
 have key:lp expect_Table_s8 K0 ((row,[],(n:Int),0,()),((m.1,m.2,()),()))=_:=key
 rw[expect_Table,h1,bS0,show(!decide ((0:Int)=0))=false by decide,cond_false,cnd' (by omega),cnd' (by omega),hs,key,bS0,show m.1.toNat=k by omega,← hn]
def nodesT:TR→List Nat
 | .leaf i=>[i]
 | .split i l r=>i::(nodesT l++nodesT r)
theorem nodesT_len (T:TR):(nodesT T).length=T.size:=by
 induction T with
 | leaf i=>rfl
 | split i l r ihl ihr=>simp only[nodesT,TR.size,List.length_cons,List.length_append,ihl,ihr];omega
theorem nodesT_lt {t:List NODE} {f:Int} {T:TR} (h:Is t f T):∀ j∈nodesT T,j<t.length:=by
 induction T with
 | leaf i=>intro j hj;simp [nodesT] at hj;subst hj;exact h.1
 | split i l r ihl ihr =>
  obtain⟨h1,_,_,_,_,_,h2,h3⟩:=h
  intro j hj
  simp only[nodesT,List.mem_cons,List.mem_append] at hj
  rcases hj with rfl | hj | hj
  · exact h1
  · exact ihl h2 j hj
  · exact ihr h3 j hj
theorem Is.kids {t:List NODE} {f:Int} {i:Nat} {l r:TR} (h:Is t f (.split i l r)):kids t i=[l.top,r.top]:=by
 obtain⟨h1,h2,_,_,h3,h4,_,_⟩:=h
 rw[kids_split h1 h2,h3,h4,tN0,tN0]
theorem nodesT_parent {t:List NODE} {f:Int} {T:TR} (h:Is t f T):∀ j∈nodesT T,j=T.top∨∃ p∈nodesT T,j∈kids t p:=by
 induction T with
 | leaf i=>intro j hj;simp [nodesT] at hj;exact .inl hj
 | split i l r ihl ihr =>
  have hk:=h.kids
  obtain⟨h1,_,_,_,_,_,h2,h3⟩:=h
  intro j hj
  simp only[nodesT,List.mem_cons,List.mem_append] at hj
  have hi:i∈nodesT (.split i l r):=by simp [nodesT]
  rcases hj with rfl | hj | hj
  · exact .inl rfl
  · refine .inr ?_
    rcases ihl h2 j hj with rfl | ⟨p,hp,hm⟩
    · exact⟨i,hi,by rw[hk];simp⟩
    · exact⟨p,by simp [nodesT,hp],hm⟩
  · refine .inr ?_
    rcases ihr h3 j hj with rfl | ⟨p,hp,hm⟩
    · exact⟨i,hi,by rw[hk];simp⟩
    · exact⟨p,by simp [nodesT,hp],hm⟩
theorem nodesT_rank {t:List NODE} {f:Int} {rk:Nat→Nat} (hrk:∀ i,i<t.length→rk i≤t.length∧∀ c∈kids t i,rk c<rk i) {T:TR} (h:Is t f T):∀ j∈nodesT T,rk j≤rk T.top:=by
 induction T with
 | leaf i=>intro j hj;simp [nodesT] at hj;subst hj;exact Nat.le_refl _
 | split i l r ihl ihr =>
  have hk:=h.kids
  obtain⟨h1,_,_,_,_,_,h2,h3⟩:=h
  have a:=(hrk i h1).2 l.top (by rw[hk];simp)
  have b:=(hrk i h1).2 r.top (by rw[hk];simp)
  intro j hj
  simp only[nodesT,List.mem_cons,List.mem_append] at hj
  show rk j≤rk i
  rcases hj with rfl | hj | hj
  · exact Nat.le_refl _
  · have:=ihl h2 j hj;omega
  · have:=ihr h3 j hj;omega
theorem flatMap_count {t:List NODE} {n j p p':Nat} (hp:p<n) (hp':p'<n) (hne:p≠p') (h:j∈kids t p) (h':j∈kids t p'):2≤((List.range n).flatMap (kids t)).count j:=by
 have key:∀ {a b n:Nat},a<b→b<n→j∈kids t a→j∈kids t b→2≤((List.range n).flatMap (kids t)).count j:=by
   intro a b n hab hb ha hbm
   have e:List.range n=List.range b++(List.range (n-b)).map (·+b):=by
    have h1:n=b+(n-b):=by omega
    conv=>lhs;rw[h1,List.range_add]
    congr 1
    refine List.map_congr_left fun x _=>Nat.add_comm _ _
   rw[e,List.flatMap_append,List.count_append]
   have c1:0<((List.range b).flatMap (kids t)).count j:=List.count_pos_iff.2 (List.mem_flatMap.2 ⟨a,by simpa using hab,ha⟩)
   have c2:0<(((List.range (n-b)).map (·+b)).flatMap (kids t)).count j:=List.count_pos_iff.2 (List.mem_flatMap.2 ⟨b,List.mem_map.2 ⟨0,by simp;omega,by simp⟩,hbm⟩)
   omega
 rcases Nat.lt_or_gt_of_ne hne with hlt | hlt
 · exact key hlt hp' h h'
 · exact key hlt hp h' h
theorem nodesT_nodup {t:List NODE} {f:Int} (hs:ShapeP t) {T:TR} (h:Is t f T):(nodesT T).Nodup:=by
 obtain⟨hc,rk,hrk⟩:=hs
 have one:∀ j p p',p<t.length→p'<t.length→0<j→j<t.length→j∈kids t p→j∈kids t p'→p=p':=by
  intro j p p' hp hp' h0 hj hm hm'
  refine Classical.byContradiction fun hne=>?_
  have h1:=flatMap_count hp hp' hne hm hm'
  have h2:=hc j h0 hj
  rw[cnt] at h2
  omega
 induction T with
 | leaf i=>simp [nodesT]
 | split i l r ihl ihr =>
  have hk:=h.kids
  obtain⟨h1,g1,g2,g3,g4,g5,h2,h3⟩:=h
  have ra:=(hrk i h1).2 l.top (by rw[hk];simp)
  have rb:=(hrk i h1).2 r.top (by rw[hk];simp)
  have nl:=nodesT_rank hrk h2
  have nr:=nodesT_rank hrk h3
  have top0:∀ j∈kids t i,0<j→True:=fun _ _ _=>trivial
  refine List.nodup_cons.2 ⟨fun hm=>?_,List.nodup_append.2 ⟨ihl h2,ihr h3,?_⟩⟩
  · rcases List.mem_append.1 hm with hm | hm
    · have:=nl i hm;omega
    · have:=nr i hm;omega
  ·
    have key:∀ (d j:Nat),t.length-rk j≤d→j∈nodesT l→j∈nodesT r→False:=by
      intro d
      induction d with
      | zero =>
       intro j hd hl hr
       have:=nl j hl
       have:=(hrk i h1).1
       omega
      | succ d ih =>
       intro j hd hl hr
       have hjl:=nodesT_lt h2 j hl
       have par:∃ p p',p<t.length∧p'<t.length∧j∈kids t p∧j∈kids t p'∧((p=i∧j=l.top)∨p∈nodesT l)∧((p'=i∧j=r.top)∨p'∈nodesT r):=by
         have hk1:l.top∈kids t i:=by rw[hk];simp
         have hk2:r.top∈kids t i:=by rw[hk];simp
         rcases nodesT_parent h2 j hl with e | ⟨p,hp,hm⟩
         · rcases nodesT_parent h3 j hr with e' | ⟨p', hp', hm'⟩
           · exact⟨i,i,h1,h1,by rw[e];exact hk1,by rw[e];exact hk1,.inl ⟨rfl,e⟩,.inl ⟨rfl,e'⟩⟩
           · exact⟨i,p',h1,nodesT_lt h3 p' hp',by rw[e];exact hk1,hm',.inl ⟨rfl,e⟩,.inr hp'⟩
         · rcases nodesT_parent h3 j hr with e' | ⟨p', hp', hm'⟩
           · exact⟨p,i,nodesT_lt h2 p hp,h1,hm,by rw[e'];exact hk2,.inr hp,.inl ⟨rfl,e'⟩⟩
           · exact⟨p,p',nodesT_lt h2 p hp,nodesT_lt h3 p' hp',hm,hm',.inr hp,.inr hp'⟩
       obtain⟨p,p',q1,q2,q3,q4,q5,q6⟩:=par
       by_cases h0:0<j
       · have e := one j p p' q1 q2 h0 hjl q3 q4
         subst e
         rcases q5 with ⟨e1,e2⟩ | q5
         · rcases q6 with ⟨_, e3⟩ | q6
           ·
             have h5:=hc j h0 hjl
             rw[cnt] at h5
             have:((List.range t.length).flatMap (kids t)).count j≥(kids t i).count j:=by
               have hi:i∈List.range t.length:=by simpa using h1
               obtain⟨a,b,eab⟩:=List.append_of_mem hi
               rw[eab,List.flatMap_append,List.flatMap_cons,List.count_append,List.count_append]
               omega
             rw[hk,← e2,← e3] at this
             simp at this
             omega
           · rw [e1] at q6
             have:=nr i q6;omega
         · rcases q6 with ⟨e1, _⟩ | q6
           · rw [e1] at q5
             have:=nl i q5;omega
           · have := (hrk p q1).2 j q3
             have:=(hrk p q1).1
             exact ih p (by omega) q5 q6
       ·
         have j0:j=0:=by omega
         have nokid:∀ (d q:Nat),t.length-rk q≤d→q<t.length→j∈kids t q→False:=by
           intro d
           induction d with
           | zero =>
             intro q hd hq hm
             have:=(hrk q hq).2 j hm
             by_cases hq0:q=0
             · rw[j0,hq0] at this;omega
             · obtain ⟨p, hp, hpm⟩ := has_parent hc (by omega) hq
               have a:=(hrk p hp).2 q hpm
               have b:=(hrk p hp).1
               omega
           | succ d ihd =>
             intro q hd hq hm
             have hlt:=(hrk q hq).2 j hm
             by_cases hq0:q=0
             · rw[j0,hq0] at hlt;omega
             ·
               have up:∀ (d2 u:Nat),t.length-rk u≤d2→u<t.length→rk q≤rk u→False:=by
                intro d2
                induction d2 with
                | zero =>
                 intro u hu hu2 hqu
                 by_cases hu0:u=0
                 · rw[hu0] at hqu;rw[j0] at hlt;omega
                 · obtain ⟨p, hp, hpm⟩ := has_parent hc (by omega) hu2
                   have a:=(hrk p hp).2 u hpm
                   have b:=(hrk p hp).1
                   omega
                | succ d2 ihd2 =>
                 intro u hu hu2 hqu
                 by_cases hu0:u=0
                 · rw[hu0] at hqu;rw[j0] at hlt;omega
                 · obtain ⟨p, hp, hpm⟩ := has_parent hc (by omega) hu2
                   have a:=(hrk p hp).2 u hpm
                   have b:=(hrk p hp).1
                   exact ihd2 p (by omega) hp (by omega)
               exact up _ q (Nat.le_refl _) hq (Nat.le_refl _)
         exact nokid _ p (Nat.le_refl _) q1 q3
    intro a ha b hb e
    subst e
    exact key _ a (Nat.le_refl _) ha hb
theorem tree_size {t:List NODE} {f:Int} (hs:ShapeP t) {T:TR} (h:Is t f T):T.size≤t.length:=by
 rw[← nodesT_len]
 exact nodup_len (nodesT_nodup hs h) (nodesT_lt h)
theorem TR.size_pos (T:TR):0<T.size:=by cases T<;>simp [TR.size]<;>omega
theorem deep_half (T:TR):2*T.deep≤T.size+1:=by
 induction T with
 | leaf i=>simp [TR.deep,TR.size]
 | split i l r ihl ihr =>
  have:=l.size_pos
  have:=r.size_pos
  simp only[TR.deep,TR.size]
  omega
def SortA (w:List AP):Prop:=w.Pairwise fun a b=>a.1<b.1
theorem along_sort {f:Nat} {q:Rat} {ok:Bool} {w:List AP} (h:SortA w):SortA (along f q ok w):=by
 induction w with
 | nil=>simp [along,SortA]
 | cons p w ih =>
  have h1:=List.pairwise_cons.1 h
  simp only[along]
  split
  · rename_i hp
    refine List.pairwise_cons.2 ⟨fun a ha=>?_,ih h1.2⟩
    rcases along_mem a ha with e | ⟨p',h3,h4⟩
    · omega
    · have:=h1.1 p' h3;omega
  · split
    · rename_i e
      exact List.pairwise_cons.2 ⟨fun a ha=>by have:=h1.1 a ha;show f<a.1;omega,h1.2⟩
    · refine List.pairwise_cons.2 ⟨fun a ha => ?_, h⟩
      show f<a.1
      rcases List.mem_cons.1 ha with rfl | ha
      · omega
      · have:=h1.1 a ha;omega
def flo (n:Nat) (o:Nat→Rat):List RAT:=(List.range n).map fun f=>canQ (o f)
theorem flo_len (n:Nat) (o:Nat→Rat):(flo n o).length=n:=by simp [flo]
theorem flo_get {n f:Nat} (o:Nat→Rat) (h:f<n):(flo n o)[f]?=some (canQ (o f)):=by simp [flo,h]
theorem flo_congr {n:Nat} {o p:Nat→Rat} (h:∀ f,f<n→o f=p f):flo n o=flo n p:=by
 rw[flo,flo]
 exact List.map_congr_left fun f hf=>by rw[h f (List.mem_range.1 hf)]
theorem flo_set {n i:Nat} {o p:Nat→Rat} {x:Rat} (hx:p i=x) (hp:∀ f,f≠i→p f=o f):(flo n o).set i (canQ x)=flo n p:=by
 apply List.ext_getElem?
 intro f
 rw[List.getElem?_set]
 by_cases hf:f<n
 · rw [flo_get _ hf, flo_get _ hf, flo_len]
   by_cases e:i=f
   · rw[if_pos e,if_pos (by omega),← e,hx]
   · rw[if_neg e,hp f (fun h=>e h.symm)]
 · have h1 : (flo n o)[f]? = none := List.getElem?_eq_none (by rw [flo_len]; omega)
   have h2:(flo n p)[f]?=none:=List.getElem?_eq_none (by rw[flo_len];omega)
   rw[h1,h2]
   split
   · rw[if_neg (by rw[flo_len];omega)]
   · rfl
def whyR (b:Bool) (m:MODEL) (row:List CELL):Int:=if b then (if (row.length:Int)=m.1 then 0 else 14) else 1
theorem whyR_ok {b:Bool} {m:MODEL} (h:valid_Ok m=some b) (row:List CELL):route_Fits m row=some (whyR b m row)∧dendronlaw10_Why m row=some (whyR b m row):=by
 have:route_fits m row=some (whyR b m row):=by
  rw[route_fits,h,bS0,whyR]
  cases b with
  | false=>rfl
  | true =>
   rw[Bool.not_true,cond_false,if_pos rfl]
   by_cases e:(row.length:Int)=m.1
   · rw[decide_eq_true e,if_pos e];rfl
   · rw[decide_eq_false e,if_neg e];rfl
 exact⟨by rw[route_Fits,this];rfl,this⟩
theorem rsum_zeros {f:Nat→Rat} {n:Nat} (h:∀ i,i<n→f i=0):rsum f n=0:=by
 induction n with
 | zero=>rfl
 | succ n ih=>rw[rsum,ih fun i hi=>h i (by omega),h n (by omega),Rat.add_zero]
theorem bit_add {S f:Nat} (h:S.testBit f=false):∀ j,(S+2 ^ f).testBit j=(decide (j=f) || S.testBit j):=by
 induction f generalizing S with
 | zero =>
  intro j
  have h0:S % 2=0:=by rw[Nat.testBit_zero] at h;simpa using h
  cases j with
  | zero=>rw[Nat.testBit_zero];simp;omega
  | succ j =>
   rw[Nat.testBit_succ,Nat.testBit_succ,show(S+2 ^ 0)/2=S/2 by omega]
   simp
 | succ f ih =>
  intro j
  rw[Nat.testBit_succ] at h
  have e1:(S+2 ^ (f+1))/2=S/2+2 ^ f:=by rw[Nat.pow_succ];omega
  have e2:(S+2 ^ (f+1)) % 2=S % 2:=by rw[Nat.pow_succ];omega
  cases j with
  | zero=>rw[Nat.testBit_zero,Nat.testBit_zero,e2];simp
  | succ j =>
   rw[Nat.testBit_succ,Nat.testBit_succ,e1,ih h]
   simp
theorem bit_add_lt {S f n:Nat} (h:S.testBit f=false) (hS:S<2 ^ n) (hf:f<n):S+2 ^ f<2 ^ n:=by
 refine Nat.lt_pow_two_of_testBit _ fun i hi=>?_
 rw[bit_add h,decide_eq_false (by omega),Bool.false_or]
 exact Nat.testBit_lt_two_pow (Nat.lt_of_lt_of_le hS (Nat.pow_le_pow_right (by decide) hi))
def popc:Nat→Nat→Nat
 | 0,_=>0
 | n+1,S=>popc n S+(if S.testBit n then 1 else 0)
theorem popc_le (n S:Nat):popc n S≤n:=by
 induction n with
 | zero=>exact Nat.le_refl _
 | succ n ih=>rw[popc];split<;>omega
theorem popc_congr {n S S':Nat} (h:∀ j,j<n→S.testBit j=S'.testBit j):popc n S=popc n S':=by
 induction n with
 | zero=>rfl
 | succ n ih=>rw[popc,popc,ih fun j hj=>h j (by omega),h n (by omega)]
theorem rsum_split (f:Nat→Rat) (a b:Nat):rsum f (a+b)=rsum f a+rsum (fun i=>f (i+a)) b:=by
 induction b with
 | zero=>simp [rsum,Rat.add_zero]
 | succ b ih=>rw[← Nat.add_assoc,rsum,ih,rsum,Rat.add_assoc,Nat.add_comm a b]
theorem rprod_congr {f g:Nat→Rat} {n:Nat} (h:∀ i,i<n→f i=g i):rprod f n=rprod g n:=by
 induction n with
 | zero=>rfl
 | succ n ih=>rw[rprod,rprod,ih fun i hi=>h i (by omega),h n (by omega)]
abbrev BA:=Rat×Rat
def pick (x:BA) (b:Bool):Rat:=if b then x.2 else x.1
def EE:List BA→(Nat→Rat)→Rat
 | [],c=>c 0
 | x::L,c=>x.1*EE L c+x.2*EE L fun k=>c (k+1)
theorem EE_congr {L:List BA}:∀ {c d:Nat→Rat},(∀ k,k≤L.length→c k=d k)→EE L c=EE L d:=by
 induction L with
 | nil=>intro c d h;exact h 0 (Nat.le_refl _)
 | cons x L ih =>
  intro c d h
  rw[EE,EE,ih fun k hk=>h k (by simp only[List.length_cons];omega),ih fun k hk=>h (k+1) (by simp only[List.length_cons];omega)]
theorem EE_add {L:List BA}:∀ {c d:Nat→Rat},EE L (fun k=>c k+d k)=EE L c+EE L d:=by
 induction L with
 | nil=>intro c d;rfl
 | cons x L ih=>intro c d;rw[EE,EE,EE,ih,ih];grind
theorem EE_mul {L:List BA}:∀ {c:Nat→Rat} {q:Rat},EE L (fun k=>q*c k)=q*EE L c:=by
 induction L with
 | nil=>intro c q;rfl
 | cons x L ih=>intro c q;rw[EE,EE,ih,ih];grind
theorem EE_perm {L M:List BA} (h:L.Perm M):∀ c,EE L c=EE M c:=by
 induction h with
 | nil=>intro c;rfl
 | cons x _ ih=>intro c;rw[EE,EE,ih,ih]
 | swap x y L=>intro c;simp only[EE];grind
 | trans _ _ ih1 ih2=>intro c;rw[ih1,ih2]
theorem EE_out {L:List BA} {x:BA}:∀ c,EE (x::L) c=EE (L++[x]) c:=fun c=>EE_perm (by
 have:=(List.perm_append_comm (l₁:=[x]) (l₂:=L));simpa using this) c
theorem EE_one (L:List BA) (c:Nat→Rat):EE ((1,1)::L) c=EE L fun k=>c k+c (k+1):=by
 rw[EE,EE_add];grind
theorem EE_off (L:List BA) (c:Nat→Rat):EE ((1,0)::L) c=EE L c:=by rw[EE];grind
theorem sets_sum (g:Nat→BA) (n:Nat):∀ c:Nat→Rat,rsum (fun S=>c (popc n S)*rprod (fun j=>pick (g j) (S.testBit j)) n) (2 ^ n)=EE ((List.range n).map g) c:=by
 induction n with
 | zero=>intro c;simp [rsum,popc,rprod,EE,Rat.mul_one,Rat.zero_add]
 | succ n ih =>
  intro c
  have hb:∀ S,S<2 ^ n→S.testBit n=false:=fun S hS=>Nat.testBit_lt_two_pow hS
  have e1:rsum (fun S=>c (popc (n+1) S)*rprod (fun j=>pick (g j) (S.testBit j)) (n+1)) (2 ^ n)=(g n).1*rsum (fun S=>c (popc n S)*rprod (fun j=>pick (g j) (S.testBit j)) n) (2 ^ n):=by
   rw[Rat.mul_comm (g n).1,← rsum_mul]
   refine rsum_congr fun S hS=>?_
   rw[popc,rprod,hb S hS,if_neg (by decide),Nat.add_zero,pick,if_neg (by decide)];grind
  have e2:rsum (fun S=>c (popc (n+1) (S+2 ^ n))*rprod (fun j=>pick (g j) ((S+2 ^ n).testBit j)) (n+1)) (2 ^ n)=(g n).2*rsum (fun S=>c (popc n S+1)*rprod (fun j=>pick (g j) (S.testBit j)) n) (2 ^ n):=by
   rw[Rat.mul_comm (g n).2,← rsum_mul]
   refine rsum_congr fun S hS=>?_
   have hj:=bit_add (hb S hS)
   have hp:popc n (S+2 ^ n)=popc n S:=popc_congr fun j hj'=>by rw[hj j,decide_eq_false (by omega),Bool.false_or]
   have hr:rprod (fun j=>pick (g j) ((S+2 ^ n).testBit j)) n=rprod (fun j=>pick (g j) (S.testBit j)) n:=rprod_congr fun j hj'=>by rw[hj j,decide_eq_false (by omega),Bool.false_or]
   rw[popc,rprod,hp,hr,hj n,decide_eq_true rfl,Bool.true_or,if_pos rfl,pick,if_pos rfl];grind
  rw[Nat.pow_succ,Nat.mul_two,rsum_split,e1,e2,ih c,ih fun k=>c (k+1),List.range_succ,List.map_append]
  show _=EE (_++[g n]) c
  rw[← EE_out,EE]
theorem wq_add {k n:Nat} (h:k<n):wq k (n+1)+wq (k+1) (n+1)=wq k n:=by
 unfold wq quo
 have e1:n+1-k-1=(n-k-1)+1:=by omega
 have e2:n+1-(k+1)-1=n-k-1:=by omega
 rw[e1,e2]
 obtain⟨j,hj⟩:∃ j,j=n-k-1:=⟨_,rfl⟩
 rw[← hj]
 have hn:((n:Nat):Rat)=(j:Rat)+(k:Rat)+1:=by
  have:n=j+k+1:=by omega
  rw[this];push_cast;rfl
 have f1:((fac (j+1):Nat):Rat)=((j:Rat)+1)*((fac j:Nat):Rat):=by rw[fac];push_cast;rfl
 have f2:((fac (k+1):Nat):Rat)=((k:Rat)+1)*((fac k:Nat):Rat):=by rw[fac];push_cast;rfl
 have f3:((fac (n+1):Nat):Rat)=((n:Rat)+1)*((fac n:Nat):Rat):=by rw[fac];push_cast;rfl
 have p1:((fac n:Nat):Rat)≠0:=by
  have:=fac_pos n
  intro e
  have:(fac n:Nat)=0:=by exact_mod_cast e
  omega
 have p2:(n:Rat)+1≠0:=by
  intro e
  have:((n+1:Nat):Rat)=0:=by push_cast;exact e
  have:(n+1:Nat)=0:=by exact_mod_cast this
  omega
 rw[f1,f2,f3]
 obtain⟨a,ha⟩:∃ a,a=((fac k:Nat):Rat):=⟨_,rfl⟩
 obtain⟨b,hb⟩:∃ b,b=((fac j:Nat):Rat):=⟨_,rfl⟩
 obtain⟨d,hd⟩:∃ d,d=((fac n:Nat):Rat):=⟨_,rfl⟩
 obtain⟨x,hx⟩:∃ x,x=(j:Rat):=⟨_,rfl⟩
 obtain⟨y,hy⟩:∃ y,y=(k:Rat):=⟨_,rfl⟩
 rw[← hd] at p1 ⊢
 rw[hn,← hx,← hy] at p2
 rw[hn,← ha,← hb,← hx,← hy]
 grind
theorem EE_dummy (L:List BA) (d:Nat):EE (List.replicate d (1,1)++L) (fun k=>wq k (L.length+1+d))=EE L fun k=>wq k (L.length+1):=by
 induction d with
 | zero=>rfl
 | succ d ih =>
  rw[List.replicate_succ,List.cons_append,EE_one,← ih]
  refine EE_congr fun k hk=>?_
  simp only[List.length_append,List.length_replicate] at hk
  exact wq_add (k:=k) (n:=L.length+1+d) (by omega)
def shapT (v:Nat→Rat) (n f S:Nat):Rat:=if S.testBit f then 0 else wq (popc n S) n*(v (S+2 ^ f)-v S)
def shapQ (v:Nat→Rat) (n f:Nat):Rat:=rsum (shapT v n f) (2 ^ n)
theorem shapQ_congr {v w:Nat→Rat} {n f:Nat} (hf:f<n) (h:∀ S,S<2 ^ n→v S=w S):shapQ v n f=shapQ w n f:=by
 refine rsum_congr fun S hS=>?_
 unfold shapT
 cases hb:S.testBit f with
 | true=>rfl
 | false=>rw[if_neg (by decide),if_neg (by decide),h S hS,h _ (bit_add_lt hb hS hf)]
theorem rsum_addF (f g:Nat→Rat) (n:Nat):rsum (fun i=>f i+g i) n=rsum f n+rsum g n:=by
 induction n with
 | zero=>simp [rsum,Rat.add_zero]
 | succ n ih=>rw[rsum,rsum,rsum,ih];grind
theorem shapQ_mul (v:Nat→Rat) (n f:Nat) (q:Rat):shapQ (fun S=>v S*q) n f=shapQ v n f*q:=by
 unfold shapQ
 rw[← rsum_mul]
 refine rsum_congr fun S _=>?_
 unfold shapT
 split
 · rw[Rat.zero_mul]
 · grind
abbrev FP:=Nat×BA
def lkG:List FP→Nat→BA
 | [],_=>(1,1)
 | p::P,j=>if p.1=j then p.2 else lkG P j
theorem lkG_out {P:List FP} {j:Nat} (h:j ∉ P.map (·.1)):lkG P j=(1,1):=by
 induction P with
 | nil=>rfl
 | cons p P ih =>
  simp only[List.map_cons,List.mem_cons,not_or] at h
  rw[lkG,if_neg (fun e=>h.1 e.symm),ih h.2]
theorem lkG_map {P:List FP} (hnd:(P.map (·.1)).Nodup):(P.map (·.1)).map (lkG P)=P.map (·.2):=by
 induction P with
 | nil=>rfl
 | cons p P ih =>
  have h:=List.nodup_cons.1 hnd
  have ih:=ih h.2
  simp only[List.map_cons,lkG,if_true,List.cons.injEq,true_and]
  rw[← ih]
  refine List.map_congr_left fun j hj=>?_
  exact if_neg (fun e=>h.1 (by subst e;exact hj))
theorem range_perm {n:Nat} {F:List Nat} (hnd:F.Nodup) (hlt:∀ j∈F,j<n):∃ R:List Nat,(List.range n).Perm (F++R)∧∀ j∈R,j ∉ F:=by
 refine⟨(List.range n).filter fun j=>!F.contains j,?_,fun j hj=>by simpa using (List.mem_filter.1 hj).2⟩
 refine(List.perm_ext_iff_of_nodup List.nodup_range ?_).2 fun a=>?_
 · refine List.nodup_append.2 ⟨hnd, List.Nodup.sublist List.filter_sublist List.nodup_range, fun a ha b hb e => ?_⟩
   subst e
   have:=(List.mem_filter.1 hb).2
   simp at this
   exact this ha
 · simp only [List.mem_append, List.mem_filter, List.mem_range]
   constructor
   · intro h
     by_cases ha:a∈F
     · exact .inl ha
     · exact .inr ⟨h,by simpa using ha⟩
   · rintro (h | h)
     · exact hlt a h
     · exact h.1
theorem lprod_perm {a b:List Rat} (h:a.Perm b):lprod a=lprod b:=by
 induction h with
 | nil=>rfl
 | cons x _ ih=>rw[lprod,lprod,ih]
 | swap x y l=>simp only[lprod];grind
 | trans _ _ h1 h2=>rw[h1,h2]
theorem rprod_range (h:Nat→Rat) (n:Nat):rprod h n=lprod ((List.range n).map h):=by
 induction n with
 | zero=>rfl
 | succ n ih=>rw[rprod,ih,List.range_succ,List.map_append,lprod_append];simp [lprod,Rat.mul_one]
theorem lprod_ones {l:List Rat} (h:∀ x∈l,x=1):lprod l=1:=by
 induction l with
 | nil=>rfl
 | cons x l ih=>rw[lprod,h x List.mem_cons_self,ih fun y hy=>h y (List.mem_cons_of_mem _ hy),Rat.mul_one]
def prodP (P:List FP) (S:Nat):Rat:=lprod (P.map fun p=>pick p.2 (S.testBit p.1))
theorem shap_prod {n f:Nat} {x:BA} {P:List FP} (hf:f<n) (hnd:(P.map (·.1)).Nodup) (hlt:∀ p∈P,p.1<n) (hnf:f ∉ P.map (·.1)) :
  shapQ (fun S=>pick x (S.testBit f)*prodP P S) n f=(x.2-x.1)*EE (P.map (·.2)) fun k=>wq k (P.length+1):=by
 obtain⟨R,hR,hRF⟩:=range_perm (n:=n) (F:=f::P.map (·.1)) (List.nodup_cons.2 ⟨hnf,hnd⟩) (fun j hj=>by
  rcases List.mem_cons.1 hj with rfl | hj
  · exact hf
  · obtain⟨p,hp,rfl⟩:=List.mem_map.1 hj;exact hlt p hp)
 obtain⟨g,hg⟩:∃ g:Nat→BA,g=fun j=>if j=f then (1,0) else lkG P j:=⟨_,rfl⟩
 have gf:g f=(1,0):=by rw[hg];exact if_pos rfl
 have gP:(P.map (·.1)).map g=P.map (·.2):=by
  rw[← lkG_map hnd]
  refine List.map_congr_left fun j hj=>?_
  rw[hg]
  exact if_neg fun e=>hnf (by rw[← e];exact hj)
 have gR:∀ j∈R,g j=(1,1):=fun j hj=>by
  have:=hRF j hj
  simp only[List.mem_cons,not_or] at this
  rw[hg]
  show(if j=f then _ else _)=_
  rw[if_neg this.1,lkG_out this.2]
 have hlen:n=P.length+1+R.length:=by
  have:=hR.length_eq
  simp only[List.length_range,List.length_append,List.length_cons,List.length_map] at this
  omega
 have hprod:∀ S,rprod (fun j=>pick (g j) (S.testBit j)) n=if S.testBit f then 0 else prodP P S:=fun S=>by
  rw[rprod_range,lprod_perm (hR.map _),List.map_append,lprod_append,List.map_cons,lprod,gf,lprod_ones (l:=R.map _) (fun y hy=>by
    obtain⟨j,hj,rfl⟩:=List.mem_map.1 hy
    rw[gR j hj];unfold pick;split<;>rfl)]
  have e:((P.map (·.1)).map fun j=>pick (g j) (S.testBit j))=P.map fun p=>pick p.2 (S.testBit p.1):=by
    rw[List.map_map]
    refine List.map_congr_left fun p hp=>?_
    show pick (g p.1) _=_
    have:g p.1=p.2:=by
     obtain⟨i,hi,rfl⟩:=List.mem_iff_getElem.1 hp
     have:=congrArg (fun l=>l[i]?) gP
     simp only[List.getElem?_map,gE0 hi,Option.map_some,Option.some.injEq] at this
     exact this
    rw[this]
  rw[e]
  unfold pick prodP
  split
  · simp [Rat.zero_mul]
  · simp [Rat.one_mul,Rat.mul_one];rfl
 have hsum:shapQ (fun S=>pick x (S.testBit f)*prodP P S) n f=(x.2-x.1)*rsum (fun S=>wq (popc n S) n*rprod (fun j=>pick (g j) (S.testBit j)) n) (2 ^ n):=by
  unfold shapQ
  rw[Rat.mul_comm,← rsum_mul]
  refine rsum_congr fun S hS=>?_
  rw[hprod]
  unfold shapT
  cases hb:S.testBit f with
  | true=>simp [Rat.mul_zero,Rat.zero_mul]
  | false =>
    have hb':=bit_add hb
    have e1:prodP P (S+2 ^ f)=prodP P S:=by
     unfold prodP
     congr 1
     refine List.map_congr_left fun p hp=>?_
     rw[hb' p.1,decide_eq_false (fun e=>hnf (List.mem_map.2 ⟨p,hp,e⟩)),Bool.false_or]
    dsimp only
    rw[if_neg (by decide),if_neg (by decide),e1,hb' f,decide_eq_true rfl,Bool.true_or]
    simp only[pick,if_true,Bool.false_eq_true,if_false]
    grind
 have hss:=sets_sum g n fun k=>wq k n
 rw[hsum,hss]
 congr 1
 have hp2:((List.range n).map g).Perm ((1,0)::(List.replicate R.length (1,1)++P.map (·.2))):=by
  refine(hR.map g).trans ?_
  rw[List.map_append,List.map_cons,gf,gP,List.cons_append]
  have:R.map g=List.replicate R.length (1,1):=by
    rw[List.eq_replicate_iff]
    exact⟨by simp,fun y hy=>by obtain⟨j,hj,rfl⟩:=List.mem_map.1 hy;exact gR j hj⟩
  rw[this]
  exact List.Perm.cons _ List.perm_append_comm
 rw[EE_perm hp2,EE_off]
 have:=EE_dummy (P.map (·.2)) R.length
 rw[List.length_map] at this
 rw[← this,← hlen]
theorem shap_none {n f:Nat} {P:List FP} (hnf:f ∉ P.map (·.1)):shapQ (prodP P) n f=0:=by
 unfold shapQ
 refine rsum_zeros fun S _=>?_
 unfold shapT
 cases hb:S.testBit f with
 | true=>rfl
 | false =>
  have e1:prodP P (S+2 ^ f)=prodP P S:=by
   unfold prodP
   congr 1
   refine List.map_congr_left fun p hp=>?_
   rw[bit_add hb p.1,decide_eq_false (fun e=>hnf (List.mem_map.2 ⟨p,hp,e⟩)),Bool.false_or]
  rw[if_neg (by decide),e1];grind
theorem iadd_nat {a b:Nat} (h:a+b<4611686018427387904):iadd .i64 (a:Int) (b:Int)=((a+b:Nat):Int):=by rw[iadd_i (by omega) (by omega)];omega
theorem two_ok {n:Nat} (h:n≤30):dendronlaw15_two (n:Int)=some ((2 ^ n:Nat):Int):=by
 have key:=lp_up (step:=dendronlaw15_two_s3) (fun i=>(((n:Int),((2 ^ i:Nat):Int),(i:Int),()),())) n (r:=((((2 ^ n:Nat):Int),()),())) (by omega) (by
  intro g i hi
  have d0:(i:Int)<(n:Int):=by omega
  have hpi:2 ^ i≤2 ^ 30:=Nat.pow_le_pow_right (by decide) (by omega)
  have em:imul .i64 2 ((2 ^ i:Nat):Int)=((2 ^ (i+1):Nat):Int):=by
   obtain⟨x,hx⟩:∃ x,x=2 ^ i:=⟨_,rfl⟩
   have:2 ^ (i+1)=2*x:=by rw[hx,Nat.pow_succ];omega
   rw[← hx] at hpi
   rw[this,← hx,imul_i]<;>omega
  rw[dendronlaw15_two_s3,cnd d0,em,iadd1 (by omega)]
  rfl) (by
  intro g
  rw[dendronlaw15_two_s3,cnd' (by omega)])
 have key:lp dendronlaw15_two_s3 K0 (((n:Int),1,0,()),())=_:=key
 rw[dendronlaw15_two,key];rfl
theorem in15_ok {S f:Nat} (hS:S<9223372036854775808) (hf:f≤1000000):dendronlaw15_in (S:Int) (f:Int)=some (S.testBit f):=by
 have key:=lp_up (step:=dendronlaw15_in_s2) (fun i=>((((S/2 ^ i:Nat):Int),(f:Int),(i:Int),()),())) f (r:=((((S/2 ^ f:Nat):Int),()),())) (by omega) (by
  intro g i hi
  have d0:(i:Int)<(f:Int):=by omega
  have hd:(S/2 ^ i:Nat)<9223372036854775808:=Nat.lt_of_le_of_lt (Nat.div_le_self _ _) hS
  have hq:iquo .i64 ((S/2 ^ i:Nat):Int) 2=((S/2 ^ (i+1):Nat):Int):=by
   obtain⟨x,hx⟩:∃ x,x=S/2 ^ i:=⟨_,rfl⟩
   rw[Nat.pow_succ,← Nat.div_div_eq_div_mul,← hx]
   rw[← hx] at hd
   rw[iquo_i (by omega) (by omega) (by omega)];omega
  rw[dendronlaw15_in_s2,cnd d0,hq,iadd1 (by omega)]
  rfl) (by
  intro g
  rw[dendronlaw15_in_s2,cnd' (by omega)])
 have e0:((S/2 ^ 0:Nat):Int)=(S:Int):=by simp
 rw[e0] at key
 have key:lp dendronlaw15_in_s2 K0 (((S:Int),(f:Int),0,()),())=_:=key
 rw[dendronlaw15_in,key,bS0]
 dsimp only
 congr 1
 have:=testBit_div S f
 obtain⟨x,hx⟩:∃ x,x=S/2 ^ f:=⟨_,rfl⟩
 rw[← hx] at this ⊢
 rw[irem_n (by omega)]
 cases hb:S.testBit f with
 | true=>rw[hb] at this;have:=this.2 rfl;exact decide_eq_true (by omega)
 | false=>rw[hb] at this;exact decide_eq_false (fun e=>by have:=this.1 (by omega);exact absurd this (by decide))
theorem size15_ok {S n:Nat} (hS:S<9223372036854775808) (hn:n≤1000000):dendronlaw15_size (S:Int) (n:Int)=some ((popc n S:Nat):Int):=by
 have key:=lp_up (step:=dendronlaw15_size_s3) (fun i=>(((S:Int),(n:Int),((popc i S:Nat):Int),(i:Int),()),())) n (r:=((((popc n S:Nat):Int),()),())) (by omega) (by
  intro g i hi
  have d0:(i:Int)<(n:Int):=by omega
  have hp:=popc_le i S
  have i1:iadd .i64 (i:Int) 1=(i:Int)+1:=iadd1 (by omega)
  have i2:iadd .i64 ((popc i S:Nat):Int) 1=((popc i S:Nat):Int)+1:=iadd1 (by omega)
  rw[dendronlaw15_size_s3,cnd d0,in15_ok hS (by omega),bS0,i1,i2,popc]
  cases hb:S.testBit i with
  | true=>rw[cond_true,if_pos rfl];rfl
  | false=>rw[cond_false,if_neg (by decide)];rfl) (by
  intro g
  rw[dendronlaw15_size_s3,cnd' (by omega)])
 have key:lp dendronlaw15_size_s3 K0 (((S:Int),(n:Int),0,0,()),())=_:=key
 rw[dendronlaw15_size,key];rfl
def one0 (b:Bool):Rat:=if b then 1 else 0
def mulF (x:BA) (P:Nat→Rat) (k:Nat):Rat:=x.1*P k+(if k=0 then 0 else x.2*P (k-1))
def polF:List BA→Nat→Rat
 | []=>fun k=>if k=0 then 1 else 0
 | x::L=>mulF x (polF L)
theorem polF_EE (L:List BA):∀ k,polF L k=EE L fun j=>if j=k then 1 else 0:=by
 induction L with
 | nil => intro k; show (if k = 0 then (1 : Rat) else 0) = if 0 = k then 1 else 0
          by_cases h:k=0
          · subst h;rfl
          · rw[if_neg h,if_neg (fun e=>h e.symm)]
 | cons x L ih =>
  intro k
  show mulF x (polF L) k=_
  rw[mulF,EE,ih]
  congr 1
  by_cases h:k=0
  · subst h
    rw[if_pos rfl]
    have:EE L (fun j=>if j+1=0 then (1:Rat) else 0)=EE L fun j=>0*0:=EE_congr fun j _=>by rw[if_neg (by omega),Rat.mul_zero]
    rw[this,EE_mul,Rat.zero_mul,Rat.mul_zero]
  · rw [if_neg h, ih]
    congr 1
    refine EE_congr fun j _=>?_
    by_cases e:j=k-1
    · rw[if_pos e,if_pos (by omega)]
    · rw[if_neg e,if_neg (by omega)]
theorem polF_out (L:List BA):∀ k,L.length+1≤k→polF L k=0:=by
 induction L with
 | nil=>intro k h;exact if_neg (by simp at h;omega)
 | cons x L ih =>
  intro k h
  simp only[List.length_cons] at h
  show mulF x (polF L) k=0
  rw[mulF,ih k (by omega),if_neg (by omega),ih (k-1) (by omega),Rat.mul_zero,Rat.mul_zero,Rat.add_zero]
theorem polF_perm {L M:List BA} (h:L.Perm M):polF L=polF M:=by
 funext k;rw[polF_EE,polF_EE];exact EE_perm h _
theorem rsum_shift (f:Nat→Rat) (n:Nat):rsum f (n+1)=f 0+rsum (fun i=>f (i+1)) n:=by
 induction n with
 | zero=>simp [rsum,Rat.add_zero,Rat.zero_add]
 | succ n ih=>rw[rsum,ih,rsum,Rat.add_assoc]
theorem rsum_ext {f:Nat→Rat} {n m:Nat} (h:∀ i,n≤i→f i=0) (hm:n≤m):rsum f m=rsum f n:=by
 induction m with
 | zero => have : n = 0 := by omega
           subst this;rfl
 | succ m ih =>
  by_cases e:n=m+1
  · rw[e]
  · rw[rsum,h m (by omega),ih (by omega),Rat.add_zero]
theorem EE_rsum (L:List BA):∀ c,EE L c=rsum (fun j=>polF L j*c j) (L.length+1):=by
 induction L with
 | nil=>intro c;show c 0=0+1*c 0;rw[Rat.one_mul,Rat.zero_add]
 | cons x L ih =>
  intro c
  have e1:rsum (fun j=>polF (x::L) j*c j) ((x::L).length+1)=x.1*rsum (fun j=>polF L j*c j) (L.length+1)+x.2*rsum (fun j=>polF L j*c (j+1)) (L.length+1):=by
   have a:∀ j,polF (x::L) j*c j=(polF L j*c j)*x.1+(if j=0 then 0 else polF L (j-1)*c j)*x.2:=fun j=>by
    show mulF x (polF L) j*c j=_
    rw[mulF]
    split<;>grind
   have b:rsum (fun j=>polF (x::L) j*c j) (L.length+2)=rsum (fun j=>(polF L j*c j)*x.1+(if j=0 then 0 else polF L (j-1)*c j)*x.2) (L.length+2):=rsum_congr fun j _=>a j
   show rsum _ (L.length+2)=_
   rw[b,rsum_addF,rsum_mul,rsum_mul]
   have e2:rsum (fun j=>polF L j*c j) (L.length+2)=rsum (fun j=>polF L j*c j) (L.length+1):=rsum_ext (fun j hj=>by rw[polF_out L j hj,Rat.zero_mul]) (by omega)
   have e3:rsum (fun j=>if j=0 then 0 else polF L (j-1)*c j) (L.length+2)=rsum (fun j=>polF L j*c (j+1)) (L.length+1):=by
    rw[rsum_shift,if_pos rfl,Rat.zero_add]
    exact rsum_congr fun j _=>by rw[if_neg (by omega),Nat.add_sub_cancel]
   rw[e2,e3];grind
  rw[e1,EE,ih,ih]
theorem natQ_ne {n:Nat} (h:0<n):((n:Nat):Rat)≠0:=by
 intro e
 have:(n:Nat)=0:=by exact_mod_cast e
 omega
theorem wq_stay {i n:Nat} (h:i<n):wq i (n+1)=wq i n*(((n-i:Nat):Rat)/((n+1:Nat):Rat)):=by
 obtain⟨j,rfl⟩:∃ j,n=i+j+1:=⟨n-i-1,by omega⟩
 have e1:i+j+1+1-i-1=j+1:=by omega
 have e2:i+j+1-i-1=j:=by omega
 have e3:i+j+1-i=j+1:=by omega
 have a1:((fac (j+1):Nat):Rat)=((j+1:Nat):Rat)*((fac j:Nat):Rat):=by rw[fac];push_cast;rfl
 have a2:((fac (i+j+1+1):Nat):Rat)=((i+j+1+1:Nat):Rat)*((fac (i+j+1):Nat):Rat):=by rw[fac];push_cast;rfl
 have n1:=natQ_ne (fac_pos (i+j+1))
 have n2:=natQ_ne (show 0<i+j+1+1 by omega)
 simp only[wq,quo]
 rw[e1,e2,e3,a1,a2]
 generalize ((fac i:Nat):Rat)=x
 generalize ((fac j:Nat):Rat)=y
 generalize ((fac (i+j+1):Nat):Rat)=z at *
 generalize ((j+1:Nat):Rat)=u
 generalize ((i+j+1+1:Nat):Rat)=v at *
 rw[Rat.div_def,Rat.div_def,Rat.div_def,Rat.inv_mul_rev]
 grind
theorem wq_join {i n:Nat} (h:i<n):wq (i+1) (n+1)=wq i n*(((i+1:Nat):Rat)/((n+1:Nat):Rat)):=by
 obtain⟨j,rfl⟩:∃ j,n=i+j+1:=⟨n-i-1,by omega⟩
 have e1:i+j+1+1-(i+1)-1=j:=by omega
 have e2:i+j+1-i-1=j:=by omega
 have a1:((fac (i+1):Nat):Rat)=((i+1:Nat):Rat)*((fac i:Nat):Rat):=by rw[fac];push_cast;rfl
 have a2:((fac (i+j+1+1):Nat):Rat)=((i+j+1+1:Nat):Rat)*((fac (i+j+1):Nat):Rat):=by rw[fac];push_cast;rfl
 simp only[wq,quo]
 rw[e1,e2,a1,a2]
 generalize ((fac i:Nat):Rat)=x
 generalize ((fac j:Nat):Rat)=y
 generalize ((fac (i+j+1):Nat):Rat)=z at *
 generalize ((i+1:Nat):Rat)=u
 generalize ((i+j+1+1:Nat):Rat)=v at *
 rw[Rat.div_def,Rat.div_def,Rat.div_def,Rat.inv_mul_rev]
 grind
def fcP (p:AP):BA:=(p.2.1,one0 p.2.2)
def ekP (P:List AP):Nat→Rat:=polF (P.map fcP)
def wtP (P:List AP) (k:Nat):Rat:=wq k (P.length+1)*ekP P k
theorem ekP_perm {P Q:List AP} (h:P.Perm Q):ekP P=ekP Q:=polF_perm (h.map fcP)
theorem ekP_snoc (P:List AP) (p:AP):ekP (P++[p])=mulF (fcP p) (ekP P):=by
 have:(P++[p]).Perm (p::P):=List.perm_append_comm.trans (List.Perm.refl _)
 rw[ekP_perm this];rfl
theorem ekP_out (P:List AP) {k:Nat} (h:P.length<k):ekP P k=0:=polF_out _ k (by simp;omega)
theorem wtP_nil:wtP [] 0=1:=by
 show wq 0 1*1=1
 rw[Rat.mul_one];decide +kernel
abbrev LK:=Int×RAT×CELL
def lkF (P:List AP) (w:Nat→Rat) (i:Nat):LK :=
 if i=0 then (-1,canQ 1,true,canQ (w 0)) else
  let p:=(P[i-1]?).getD (0,0,false)
  ((p.1:Int),canQ p.2.1,p.2.2,canQ (w i))
def encK (P:List AP) (w:Nat→Rat):List LK:=(List.range (P.length+1)).map (lkF P w)
theorem encK_len (P:List AP) (w:Nat→Rat):(encK P w).length=P.length+1:=by simp [encK]
theorem encK_get {P:List AP} {w:Nat→Rat} {i:Nat} (h:i<P.length+1):(encK P w)[i]?=some (lkF P w i):=by simp [encK,h]
theorem encK_congr {P:List AP} {w w':Nat→Rat} (h:∀ i,i≤P.length→w i=w' i):encK P w=encK P w':=by
 refine List.map_congr_left fun i hi=>?_
 have hi:=List.mem_range.1 hi
 unfold lkF
 split
 · rename_i e;subst e;rw[h 0 (by omega)]
 · rw[h i (by omega)]
theorem lkF_w (P:List AP) (w:Nat→Rat) (i:Nat):(lkF P w i).2.2.2=canQ (w i):=by
 unfold lkF;split
 · rename_i e;subst e;rfl
 · rfl
theorem lkF_upd (P:List AP) (w:Nat→Rat) (i:Nat) (q:Rat):((lkF P w i).1,(lkF P w i).2.1,(lkF P w i).2.2.1,canQ q)=lkF P (fun j=>if j=i then q else w j) i:=by
 unfold lkF
 split
 · rename_i e;subst e;simp
 · simp
theorem encK_set {P:List AP} {w:Nat→Rat} {i:Nat} (q:Rat):(encK P w).set i ((lkF P w i).1,(lkF P w i).2.1,(lkF P w i).2.2.1,canQ q)=encK P fun j=>if j=i then q else w j:=by
 rw[lkF_upd]
 refine List.ext_getElem? fun j=>?_
 rw[List.getElem?_set]
 by_cases e:i=j
 · subst e
   rw[if_pos rfl]
   by_cases hi:i<P.length+1
   · rw[if_pos (by rw[encK_len];exact hi),encK_get hi]
   · rw[if_neg (by rw[encK_len];exact hi),List.getElem?_eq_none (by rw[encK_len];omega)]
 · rw [if_neg e]
   by_cases hj:j<P.length+1
   · rw [encK_get hj, encK_get hj]
     have:(if j=i then q else w j)=w j:=if_neg fun h=>e h.symm
     unfold lkF
     split
     · rename_i e0;subst e0;simp only[this]
     · simp only[this]
   · rw[List.getElem?_eq_none (by rw[encK_len];omega),List.getElem?_eq_none (by rw[encK_len];omega)]
theorem lkF_part {P:List AP} {w:Nat→Rat} {i:Nat} (h:i<P.length):lkF P w (i+1)=((P[i].1:Int),canQ P[i].2.1,P[i].2.2,canQ (w (i+1))):=by
 simp [lkF,gE0 h]
theorem encK_snoc (P:List AP) (w:Nat→Rat) (p:AP) (q:Rat):encK P w++[((p.1:Int),canQ p.2.1,p.2.2,canQ q)]=encK (P++[p]) fun j=>if j=P.length+1 then q else w j:=by
 have e:encK (P++[p]) (fun j=>if j=P.length+1 then q else w j)=(List.range (P.length+1)).map (lkF (P++[p]) fun j=>if j=P.length+1 then q else w j)++[lkF (P++[p]) (fun j=>if j=P.length+1 then q else w j) (P.length+1)]:=by
   unfold encK
   rw[List.length_append,List.length_singleton,List.range_succ,List.map_append];rfl
 rw[e]
 congr 1
 · refine List.map_congr_left fun i hi => ?_
   have hi:=List.mem_range.1 hi
   unfold lkF
   split
   · rename_i e;subst e;simp
   · have : ¬ i = P.length + 1 := by omega
     rw[List.getElem?_append_left (by omega)]
     simp only[if_neg this]
 · simp [lkF]
structure PathP (P:List AP) (k g:Nat):Prop where
 nd:(P.map (·.1)).Nodup
 sz:ASz P k
 len:P.length≤20
 lt:∀ p∈P,p.1<g
 pos:∀ p∈P,0<p.2.1
theorem New15_ok:pathshap_New=some (encK [] (wtP [])):=by
 rw[pathshap_New,ratio_One_ok,bS0,bS0]
 show some [_]=some [lkF [] (wtP []) 0]
 simp only[lkF,if_true,wtP_nil]
theorem Find_at {P:List AP} {w:Nat→Rat} {f i:Nat} (hi:i<P.length) (he:P[i].1=f) (hn:∀ j (hj:j<P.length),j<i→P[j].1≠f) (hl:P.length≤1000000):pathshap_Path_Find (f:Int) (encK P w)=some (((i+1:Nat):Int),encK P w):=by
 have el:=encK_len P w
 have key:=lp_up (step:=pathshap_Path_Find_s4) (fun k=>(((f:Int),((P.length+1:Nat):Int),(k:Int),()),((encK P w,()),()))) (i+1) (r:=.inr ((((i+1:Nat):Int),()),((encK P w,()),()))) (by omega) (by
  intro g k hk
  have d0:(k:Int)<((P.length+1:Nat):Int):=by omega
  have d1:(0:Int)≤(k:Int):=by omega
  have d2:(k:Int)<((encK P w).length:Int):=by omega
  rw[pathshap_Path_Find_s4,cnd d0,cnd2 d1 d2,tN0,encK_get (by omega),bS0]
  cases k with
  | zero=>rw[cnd' (by omega),iadd1 (by omega)];rfl
  | succ k =>
   have hne:¬ (lkF P w (k+1)).1=(f:Int):=by
    rw[lkF_part (by omega)]
    have:=hn k (by omega) (by omega)
    show ¬ ((P[k].1:Nat):Int)=_
    omega
   rw[cnd (by omega),cnd' hne,iadd1 (by omega)];rfl) (by
  intro g
  have d0:((i+1:Nat):Int)<((P.length+1:Nat):Int):=by omega
  have d1:(0:Int)≤((i+1:Nat):Int):=by omega
  have d2:((i+1:Nat):Int)<((encK P w).length:Int):=by omega
  have he':(lkF P w (i+1)).1=(f:Int):=by rw[lkF_part hi];show((P[i].1:Nat):Int)=_;omega
  rw[pathshap_Path_Find_s4,cnd d0,cnd2 d1 d2,tN0,encK_get (by omega),bS0,cnd (by omega),cnd he'])
 have key:lp pathshap_Path_Find_s4 K0 (((f:Int),((P.length+1:Nat):Int),0,()),((encK P w,()),()))=_:=key
 rw[pathshap_Path_Find,el,key];rfl
theorem Find_not {P:List AP} {w:Nat→Rat} {f:Nat} (hn:∀ p∈P,p.1≠f) (hl:P.length≤1000000):pathshap_Path_Find (f:Int) (encK P w)=some (0,encK P w):=by
 have el:=encK_len P w
 have key:=lp_up (step:=pathshap_Path_Find_s4) (fun k=>(((f:Int),((P.length+1:Nat):Int),(k:Int),()),((encK P w,()),()))) (P.length+1) (r:=.inl ((),((encK P w,()),()))) (by omega) (by
  intro g k hk
  have d0:(k:Int)<((P.length+1:Nat):Int):=by omega
  have d1:(0:Int)≤(k:Int):=by omega
  have d2:(k:Int)<((encK P w).length:Int):=by omega
  rw[pathshap_Path_Find_s4,cnd d0,cnd2 d1 d2,tN0,encK_get (by omega),bS0]
  cases k with
  | zero=>rw[cnd' (by omega),iadd1 (by omega)];rfl
  | succ k =>
   have hne:¬ (lkF P w (k+1)).1=(f:Int):=by
    rw[lkF_part (by omega)]
    have:=hn P[k] (gM0 (by omega))
    show ¬ ((P[k].1:Nat):Int)=_
    omega
   rw[cnd (by omega),cnd' hne,iadd1 (by omega)];rfl) (by
  intro g
  rw[pathshap_Path_Find_s4,cnd' (by omega)])
 have key:lp pathshap_Path_Find_s4 K0 (((f:Int),((P.length+1:Nat):Int),0,()),((encK P w,()),()))=_:=key
 rw[pathshap_Path_Find,el,key];rfl
theorem Parts15_ok {P:List AP} {w:Nat→Rat} (hl:P.length≤1000000):pathshap_Path_Parts (encK P w)=some (encW P,encK P w):=by
 have el:=encK_len P w
 have key:=lp_up (step:=pathshap_Path_Parts_s5) (fun k=>((encW (P.take (k-1)),((P.length+1:Nat):Int),(k:Int),()),((encK P w,()),()))) (P.length+1) (r:=((encW P,()),((encK P w,()),()))) (by omega) (by
  intro g k hk
  have d0:(k:Int)<((P.length+1:Nat):Int):=by omega
  have d1:(0:Int)≤(k:Int):=by omega
  have d2:(k:Int)<((encK P w).length:Int):=by omega
  rw[pathshap_Path_Parts_s5,cnd d0,cnd2 d1 d2,tN0,encK_get (by omega),bS0]
  cases k with
  | zero=>rw[cnd' (by omega),iadd1 (by omega)];rfl
  | succ k =>
   have hk':k<P.length:=by omega
   have e:encW (P.take (k+1))=encW (P.take k)++[((lkF P w (k+1)).1,(lkF P w (k+1)).2.1,(lkF P w (k+1)).2.2.1)]:=by
    rw[lkF_part hk']
    exact map_take_succ encP hk'
   rw[cnd (by omega),blt (by rw[encW_len,List.length_take];omega),cond_true,iadd1 (by omega)]
   show g ((encW (P.take k)++_,_,_,_),_)=g ((encW (P.take (k+1)),_,_,_),_)
   rw[e];rfl) (by
  intro g
  rw[pathshap_Path_Parts_s5,cnd' (by omega),Nat.add_sub_cancel,List.take_of_length_le (Nat.le_refl _)])
 have key:lp pathshap_Path_Parts_s5 K0 (([],((P.length+1:Nat):Int),0,()),((encK P w,()),()))=_:=key
 rw[pathshap_Path_Parts,el,key];rfl
theorem frac_ok {a b:Nat} (ha:a<1000000) (hb:b<1000000):ratio_Frac (a:Int) (b:Int)=some (canQ ((a:Rat)/(b:Rat))):=by
 have:=ratio_Frac_ok (n:=(a:Int)) (d:=(b:Int)) (by omega) (by omega) (by omega) (by omega)
 rw[this];rfl
theorem frac_sz {a b:Nat} (ha:a<1000000) (hb:b<1000000):SzQ ((a:Rat)/(b:Rat)) 2:=by
 have h:∀ {n:Nat},n<1000000→SzQ (n:Rat) 1:=fun {n} hn=>by
  have:=SzQ.int (z:=(n:Int)) (by omega)
  exact this
 exact(h ha).div (h hb)
theorem one0_sz (b:Bool):SzQ (one0 b) 1:=by cases b;exact SzQ.zero;exact SzQ.one
def ekS (k:Nat):Nat→Nat
 | 0=>1
 | n+1=>2*ekS k n+k+2
theorem ekS_mono (k:Nat) {n m:Nat} (h:n≤m):ekS k n≤ekS k m:=by
 induction h with
 | refl=>exact Nat.le_refl _
 | step _ ih=>simp only[ekS];omega
theorem ekS_le {k n:Nat} (hk:k≤70) (hn:n≤20):ekS k n≤76546048:=by
 have h1:=ekS_mono k hn
 have h2:ekS k 20≤ekS 70 20:=by
  have:∀ n,ekS k n≤ekS 70 n:=by
   intro n
   induction n with
   | zero=>exact Nat.le_refl _
   | succ n ih=>simp only[ekS];omega
  exact this 20
 have h3:ekS 70 20≤76546048:=by decide +kernel
 omega
theorem ekP_sz {P:List AP} {k:Nat} (h:ASz P k):∀ i,SzQ (ekP P i) (ekS k P.length):=by
 induction P with
 | nil =>
  intro i
  show SzQ (if i=0 then (1:Rat) else 0) 1
  split
  · exact SzQ.one
  · exact SzQ.zero
 | cons p P ih =>
  intro i
  have h1:SzQ p.2.1 k:=h p List.mem_cons_self
  have ih:=ih fun x hx=>h x (List.mem_cons_of_mem _ hx)
  show SzQ (mulF (fcP p) (ekP P) i) _
  unfold mulF
  have a:SzQ ((fcP p).1*ekP P i) (k+ekS k P.length):=h1.mul (ih i)
  have b:SzQ (if i=0 then 0 else (fcP p).2*ekP P (i-1)) (1+ekS k P.length):=by
    split
    · exact SzQ.zero.mono (by omega)
    · exact(one0_sz p.2.2).mul (ih _)
  exact(a.add b).mono (by simp only[List.length_cons,ekS];omega)
theorem wtP_sz {P:List AP} {k:Nat} (h:ASz P k) (hl:P.length≤20) {i:Nat} (hi:i≤P.length):SzQ (wtP P i) (30+ekS k P.length) :=
 (wq_sz (by omega) (by omega)).mul (ekP_sz h i)
def extW (P:List AP) (p:AP) (i:Nat) (j:Nat):Rat :=
 if j<i then wtP P j else if j=i then (if j=P.length+1 then 0 else (p.2.1*wtP P j)*(((P.length+1-j:Nat):Rat)/((P.length+1+1:Nat):Rat))) else wtP (P++[p]) j
theorem wtP_snoc {P:List AP} {p:AP} {j:Nat} (hj:j≤P.length+1):wtP (P++[p]) j =
  (if j=P.length+1 then 0 else (p.2.1*wtP P j)*(((P.length+1-j:Nat):Rat)/((P.length+1+1:Nat):Rat))) +
  (if j=0 then 0 else one0 p.2.2*(wtP P (j-1)*(((j-1+1:Nat):Rat)/((P.length+1+1:Nat):Rat)))):=by
 unfold wtP
 rw[ekP_snoc,mulF,List.length_append,List.length_singleton]
 show wq j (P.length+1+1)*(p.2.1*ekP P j+_)=_
 have a:(if j=P.length+1 then (0:Rat) else (p.2.1*(wq j (P.length+1)*ekP P j))*(((P.length+1-j:Nat):Rat)/((P.length+1+1:Nat):Rat)))=wq j (P.length+1+1)*(p.2.1*ekP P j):=by
  split
  · rw[ekP_out P (by omega),Rat.mul_zero,Rat.mul_zero]
  · rw[wq_stay (i:=j) (n:=P.length+1) (by omega)];grind
 have b:(if j=0 then (0:Rat) else one0 p.2.2*(wq (j-1) (P.length+1)*ekP P (j-1)*(((j-1+1:Nat):Rat)/((P.length+1+1:Nat):Rat))))=wq j (P.length+1+1)*(if j=0 then 0 else (fcP p).2*ekP P (j-1)):=by
  split
  · rw[Rat.mul_zero]
  · have := wq_join (i := j - 1) (n := P.length + 1) (by omega)
    rw[show j-1+1=j by omega] at this
    rw[this,show j-1+1=j by omega]
    show one0 p.2.2*_=_*(one0 p.2.2*_)
    grind
 rw[a,b];grind
theorem Extend_ok {P:List AP} {k g:Nat} (h:PathP P k g) {f:Nat} {q:Rat} {ok:Bool} (hf:∀ p∈P,p.1≠f) (hq:SzQ q k) (hq0:0<q) (hk:k≤70) (hl:P.length<20) (hfl:f<1000000) :
  pathshap_Path_Extend (f:Int) (canQ q) ok (encK P (wtP P))=some (0,encK (P++[(f,q,ok)]) (wtP (P++[(f,q,ok)]))):=by
 obtain⟨p,ep⟩:∃ p:AP,p=(f,q,ok):=⟨_,rfl⟩
 have hl2:=h.len
 have el:=encK_len P (wtP P)
 have hS:=ekS_le (k:=k) (n:=P.length) hk (by omega)
 have wsz:∀ i,i≤P.length→SzQ (wtP P i) 100000000:=fun i hi=>(wtP_sz h.sz hl2 hi).mono (by omega)
 obtain⟨N,eN⟩:∃ N,N=P.length+1:=⟨_,rfl⟩
 have hsnoc:=encK_snoc P (wtP P) p 0
 have e0:encK (P++[p]) (fun j=>if j=P.length+1 then 0 else wtP P j)=encK (P++[p]) (extW P p N):=by
  refine encK_congr fun j hj=>?_
  simp only[List.length_append,List.length_singleton] at hj
  show(if j=P.length+1 then 0 else wtP P j)=extW P p N j
  unfold extW
  by_cases e:j=P.length+1
  · rw[if_pos e,if_neg (by omega),if_pos (by omega),if_pos e]
  · rw[if_neg e,if_pos (by omega)]
 have ell:∀ w,(encK (P++[p]) w).length=N+1:=fun w=>by rw[encK_len,List.length_append];simp [eN]
 have pn1:iadd .i64 ((N:Nat):Int) 1=((N+1:Nat):Int):=iadd1 (by omega)
 have key:=lp_up (step:=pathshap_Path_Extend_s10) (fun m=>((ok,(N:Int),((N:Nat):Int)-1-(m:Int),()),(((canQ q).1.1,(canQ q).1.2,(canQ q).2,()),(encK (P++[p]) (extW P p (N-m)),()),()))) N
  (r:=((),((encK (P++[p]) (extW P p 0),()),()))) (by omega) (by
  intro g m hm
  obtain⟨i,hi⟩:∃ i,N=i+m+1:=⟨N-m-1,by omega⟩
  have ei:((N:Nat):Int)-1-(m:Int)=(i:Int):=by omega
  have ei2:((N:Nat):Int)-1-((m+1:Nat):Int)=(i:Int)-1:=by omega
  have en1:N-m=i+1:=by omega
  have en2:N-(m+1)=i:=by omega
  have hiN:i<N:=by omega
  have d0:((i:Nat):Int)≥0:=by omega
  have d1:(0:Int)≤(i:Int):=by omega
  have d2:(i:Int)<((encK (P++[p]) (extW P p (i+1))).length:Int):=by rw[ell];omega
  have g1:=encK_get (P:=P++[p]) (w:=extW P p (i+1)) (i:=i) (by rw[List.length_append];simp;omega)
  have wi:(lkF (P++[p]) (extW P p (i+1)) i).2.2.2=canQ (wtP P i):=by rw[lkF_w,extW,if_pos (by omega)]
  have hw:=wsz i (by omega)
  have q1:iadd .i64 (i:Int) 1=((i+1:Nat):Int):=iadd1 (by omega)
  have q2:isub .i64 (N:Int) (i:Int)=((N-i:Nat):Int):=by rw[isub_i (by omega) (by omega)];omega
  have q3:isub .i64 (i:Int) 1=(i:Int)-1:=by rw[isub_i (by omega) (by omega)]
  have f1:=frac_ok (a:=i+1) (b:=N+1) (by omega) (by omega)
  have f2:=frac_ok (a:=N-i) (b:=N+1) (by omega) (by omega)
  have s1:=frac_sz (a:=i+1) (b:=N+1) (by omega) (by omega)
  have s2:=frac_sz (a:=N-i) (b:=N+1) (by omega) (by omega)
  have m1:=ratio_Mul_ok (hq.sm (by omega)) (hw.sm (by decide))
  rw[rv_canQ,rv_canQ] at m1
  have m1:ratio_Mul (((canQ q).1.1,(canQ q).1.2),(canQ q).2) (canQ (wtP P i))=some (canQ (q*wtP P i)):=m1
  have z1:SzQ (q*wtP P i) 200000000:=(hq.mul hw).mono (by omega)
  have m2:=ratio_Mul_ok (z1.sm (by decide)) (s2.sm (by decide))
  rw[rv_canQ,rv_canQ] at m2
  have fin0:extW P p i i=q*wtP P i*(((N-i:Nat):Rat)/((N+1:Nat):Rat)):=by
    rw[extW,if_neg (by omega),if_pos rfl,if_neg (by omega),ep,eN]
  show pathshap_Path_Extend_s10 g ((ok,(N:Int),((N:Nat):Int)-1-(m:Int),()),(((canQ q).1.1,(canQ q).1.2,(canQ q).2,()),(encK (P++[p]) (extW P p (N-m)),()),()))=g ((ok,(N:Int),((N:Nat):Int)-1-((m+1:Nat):Int),()),(((canQ q).1.1,(canQ q).1.2,(canQ q).2,()),(encK (P++[p]) (extW P p (N-(m+1))),()),()))
  rw[ei,ei2,en1,en2,pathshap_Path_Extend_s10,cnd d0,cnd2 d1 d2,tN0,g1,bS0,wi]
  cases hok:ok with
  | true =>
    have a1:(0:Int)≤((i+1:Nat):Int):=by omega
    have a2:((i+1:Nat):Int)<((encK (P++[p]) (extW P p (i+1))).length:Int):=by rw[ell];omega
    have g2:=encK_get (P:=P++[p]) (w:=extW P p (i+1)) (i:=i+1) (by rw[List.length_append];simp;omega)
    have m3:=ratio_Mul_ok (hw.sm (by decide)) (s1.sm (by decide))
    rw[rv_canQ,rv_canQ] at m3
    have z3:SzQ (wtP P i*(((i+1:Nat):Rat)/((N+1:Nat):Rat))) 200000000:=(hw.mul s1).mono (by omega)
    have z4:SzQ (extW P p (i+1) (i+1)) 400000000:=by
     rw[extW,if_neg (by omega),if_pos rfl]
     split
     · exact SzQ.zero.mono (by decide)
     · have hw' := wsz (i + 1) (by omega)
       have s3:=frac_sz (a:=P.length+1-(i+1)) (b:=P.length+1+1) (by omega) (by omega)
       rw[ep]
       exact((hq.mul hw').mul s3).mono (by omega)
    have m4:=ratio_Add_ok (z4.sm (by decide)) (z3.sm (by decide))
    rw[rv_canQ,rv_canQ] at m4
    have fin1:extW P p (i+1) (i+1)+wtP P i*(((i+1:Nat):Rat)/((N+1:Nat):Rat))=extW P p i (i+1):=by
     have hs:=wtP_snoc (P:=P) (p:=p) (j:=i+1) (by omega)
     rw[if_neg (show ¬ i+1=0 by omega),Nat.add_sub_cancel,show one0 p.2.2=1 by rw[ep,hok];rfl,Rat.one_mul] at hs
     have e1:extW P p i (i+1)=wtP (P++[p]) (i+1):=by rw[extW,if_neg (by omega),if_neg (by omega)]
     have e2:extW P p (i+1) (i+1)=if i+1=P.length+1 then 0 else (p.2.1*wtP P (i+1))*(((P.length+1-(i+1):Nat):Rat)/((P.length+1+1:Nat):Rat)):=by rw[extW,if_neg (by omega),if_pos rfl]
     rw[e1,e2,hs,eN]
    have u1:=encK_set (P:=P++[p]) (w:=extW P p (i+1)) (i:=i+1) (extW P p i (i+1))
    have d3:(i:Int)<(((encK (P++[p]) (fun j=>if j=i+1 then extW P p i (i+1) else extW P p (i+1) j))).length:Int):=by rw[ell];omega
    have g3:=encK_get (P:=P++[p]) (w:=fun j=>if j=i+1 then extW P p i (i+1) else extW P p (i+1) j) (i:=i) (by rw[List.length_append];simp;omega)
    have u2:=encK_set (P:=P++[p]) (w:=fun j=>if j=i+1 then extW P p i (i+1) else extW P p (i+1) j) (i:=i) (extW P p i i)
    rw[cond_true,q1,cnd2 a1 a2,tN0,g2,bS0,pn1,f1,bS0,m3,bS0,lkF_w,m4,bS0,fin1,cnd2 a1 a2,bS0,m1,bS0,q2,f2,bS0,m2,bS0,u1,cnd2 d1 d3,g3,bS0,← fin0,u2,q3]
    have:encK (P++[p]) (fun j=>if j=i then extW P p i i else if j=i+1 then extW P p i (i+1) else extW P p (i+1) j)=encK (P++[p]) (extW P p i):=by
     refine encK_congr fun j hj=>?_
     by_cases e1:j=i
     · rw[if_pos e1,e1]
     · rw [if_neg e1]
       by_cases e2:j=i+1
       · rw[if_pos e2,e2]
       · rw [if_neg e2]
         unfold extW
         by_cases e3:j<i
         · rw[if_pos (by omega),if_pos e3]
         · rw[if_neg (by omega),if_neg (by omega),if_neg (by omega),if_neg (by omega)]
    rw[this]
  | false =>
    have u2:=encK_set (P:=P++[p]) (w:=extW P p (i+1)) (i:=i) (extW P p i i)
    rw[cond_false,m1,bS0,q2,pn1,f2,bS0,m2,bS0,cnd2 d1 d2,bS0,← fin0,u2,q3]
    have:encK (P++[p]) (fun j=>if j=i then extW P p i i else extW P p (i+1) j)=encK (P++[p]) (extW P p i):=by
     refine encK_congr fun j hj=>?_
     simp only[List.length_append,List.length_singleton] at hj
     by_cases e1:j=i
     · rw[if_pos e1,e1]
     · rw [if_neg e1]
       unfold extW
       by_cases e3:j<i
       · rw[if_pos (by omega),if_pos e3]
       · by_cases e2 : j = i + 1
         · subst e2
           have hs:=wtP_snoc (P:=P) (p:=p) (j:=i+1) (by omega)
           rw[show one0 p.2.2=0 by rw[ep,hok];rfl,Rat.zero_mul,if_neg (show ¬ i+1=0 by omega),Rat.add_zero] at hs
           rw[if_neg (show ¬ i+1<i+1 by omega),if_pos rfl,if_neg (show ¬ i+1<i by omega),if_neg (show ¬ i+1=i by omega),hs]
         · rw[if_neg (by omega),if_neg e2,if_neg (by omega),if_neg (by omega)]
    rw[this]) (by
  intro g
  rw[Nat.sub_self,pathshap_Path_Extend_s10,cnd' (by omega)])
 have efin:encK (P++[p]) (extW P p 0)=encK (P++[p]) (wtP (P++[p])):=by
  refine encK_congr fun j hj=>?_
  unfold extW
  rw[if_neg (by omega)]
  by_cases e:j=0
  · subst e
    have hs:=wtP_snoc (P:=P) (p:=p) (j:=0) (by omega)
    rw[if_pos rfl,Rat.add_zero] at hs
    rw[if_pos rfl,hs]
  · rw[if_neg e]
 rw[efin] at key
 have qn:isub .i64 ((P.length+1:Nat):Int) 1=((N:Nat):Int)-1-((0:Nat):Int):=by rw[isub_i (by omega) (by omega)];omega
 have c0:¬ ((P.length+1:Nat):Int)=0:=by omega
 have hsg:rcmp q 0>0:=rcmp_pos.2 hq0
 have hsign:=ratio_Sign_ok (hq.sm (by omega))
 rw[rv_canQ] at hsign
 have hcl:=ratio_Clean_ok (hq.sm (by omega))
 rw[rv_canQ] at hcl
 rw[pathshap_Path_Extend,el,cnd' c0,cnd' (by omega),Find_not hf (by omega),bS0]
 dsimp only
 rw[cnd' (by omega),hsign,bS0,cnd' (by omega),hcl,bS0,ratio_Zero_ok,bS0,blt (by rw[el];omega),cond_true]
 have e1:encK P (wtP P)++[((f:Int),(canQ q,(ok,canQ 0)))]=encK (P++[p]) (extW P p N):=by
  rw[← e0,← hsnoc,ep]
 rw[e1,el,qn]
 have key:lp pathshap_Path_Extend_s10 K0 ((ok,((P.length+1:Nat):Int),((N:Nat):Int)-1-((0:Nat):Int),()),(((canQ q).1.1,(canQ q).1.2,(canQ q).2,()),(encK (P++[p]) (extW P p N),()),()))=some ((),(encK (P++[p]) (wtP (P++[p])),()),()):=by
  rw[← eN];exact key
 rw[key,ep];rfl
def outP1 (P:List AP) (a:Nat):List AP:=P.take a++P.drop (a+1)
theorem outP1_len {P:List AP} {a:Nat} (h:a<P.length):(outP1 P a).length+1=P.length:=by simp [outP1];omega
theorem outP1_perm {P:List AP} {a:Nat} (h:a<P.length):P.Perm (P[a]::outP1 P a):=by
 have e:P=P.take a++P[a]::P.drop (a+1):=by rw[← List.drop_eq_getElem_cons h,List.take_append_drop]
 have:(P.take a++P[a]::P.drop (a+1)).Perm (P[a]::(P.take a++P.drop (a+1))):=List.perm_middle
 exact(List.Perm.of_eq e).trans this
theorem outP1_mem {P:List AP} {a:Nat}:∀ p∈outP1 P a,p∈P:=fun p hp=>by
 rcases List.mem_append.1 hp with h | h
 · exact List.mem_of_mem_take h
 · exact List.mem_of_mem_drop h
theorem ekP_take {P:List AP} {a:Nat} (h:a<P.length) (k:Nat):ekP P k=P[a].2.1*ekP (outP1 P a) k+(if k=0 then 0 else one0 P[a].2.2*ekP (outP1 P a) (k-1)):=by
 rw[ekP_perm (outP1_perm h)];rfl
theorem PathP.out {P:List AP} {k g:Nat} (h:PathP P k g) {a:Nat} (ha:a<P.length):PathP (outP1 P a) k g:=by
 have hp:=(outP1_perm ha).map (·.1)
 have hn:=hp.nodup_iff.1 h.nd
 exact⟨(List.nodup_cons.1 hn).2,fun p hp=>h.sz p (outP1_mem p hp),by have:=outP1_len ha;have:=h.len;omega,fun p hp=>h.lt p (outP1_mem p hp),fun p hp=>h.pos p (outP1_mem p hp)⟩
theorem PathP.notin {P:List AP} {k g:Nat} (h:PathP P k g) {a:Nat} (ha:a<P.length):∀ p∈outP1 P a,p.1≠P[a].1:=by
 have hp:=(outP1_perm ha).map (·.1)
 have hn:=List.nodup_cons.1 (hp.nodup_iff.1 h.nd)
 intro p hp e
 exact hn.1 (List.mem_map.2 ⟨p,hp,e⟩)
theorem wtP_no {P:List AP} {a i:Nat} (ha:a<P.length) (hi:i<P.length) (hz:P[a].2.1≠0) (hok:P[a].2.2=false) :
  wtP P i*(((P.length+1:Nat):Rat)/((P.length-i:Nat):Rat))*P[a].2.1⁻¹=wtP (outP1 P a) i:=by
 have hl:=outP1_len ha
 unfold wtP
 rw[ekP_take ha,hok,wq_stay (i:=i) (n:=P.length) hi,show(outP1 P a).length+1=P.length by omega]
 have n1:=natQ_ne (show 0<P.length-i by omega)
 have n2:=natQ_ne (show 0<P.length+1 by omega)
 generalize wq i P.length=x
 generalize ekP (outP1 P a) i=y
 generalize ekP (outP1 P a) (i-1)=y2
 generalize ((P.length-i:Nat):Rat)=u at *
 generalize ((P.length+1:Nat):Rat)=v at *
 generalize P[a].2.1=z at *
 simp only[one0,Bool.false_eq_true,if_false,Rat.zero_mul,ite_self,Rat.add_zero]
 grind
def nxP (P:List AP) (a i:Nat):Rat:=wq (i+1) (P.length+1)*ekP (outP1 P a) i
theorem nxP_out {P:List AP} {a i:Nat} (ha:a<P.length) (hi:i<P.length):nxP P a i*(((P.length+1:Nat):Rat)/((i+1:Nat):Rat))=wtP (outP1 P a) i:=by
 have hl:=outP1_len ha
 unfold wtP nxP
 rw[wq_join (i:=i) (n:=P.length) hi,show(outP1 P a).length+1=P.length by omega]
 have n1:=natQ_ne (show 0<i+1 by omega)
 have n2:=natQ_ne (show 0<P.length+1 by omega)
 generalize wq i P.length=x
 generalize ekP (outP1 P a) i=y
 generalize ((i+1:Nat):Rat)=u at *
 generalize ((P.length+1:Nat):Rat)=v at *
 grind
theorem nxP_next {P:List AP} {a i:Nat} (ha:a<P.length) (hi:i<P.length) (hok:P[a].2.2=true) :
  wtP P i-wtP (outP1 P a) i*P[a].2.1*(((P.length-i:Nat):Rat)/((P.length+1:Nat):Rat))=if i=0 then 0 else nxP P a (i-1):=by
 have hl:=outP1_len ha
 unfold wtP nxP
 rw[ekP_take ha,hok,wq_stay (i:=i) (n:=P.length) hi,show(outP1 P a).length+1=P.length by omega]
 cases i with
 | zero =>
  simp only[if_true]
  generalize wq 0 P.length=x
  generalize ekP (outP1 P a) 0=y
  generalize P[a].2.1=z at *
  grind
 | succ i =>
  rw[if_neg (by omega),if_neg (by omega),Nat.add_sub_cancel,wq_stay (i:=i+1) (n:=P.length) hi]
  generalize wq (i+1) P.length=x
  generalize ekP (outP1 P a) (i+1)=y
  generalize ekP (outP1 P a) i=y2
  generalize P[a].2.1=z at *
  simp only[one0,if_true]
  grind
theorem nxP_top {P:List AP} {a:Nat} (ha:a<P.length) (hok:P[a].2.2=true):wtP P P.length=nxP P a (P.length-1):=by
 have hl:=outP1_len ha
 unfold wtP nxP
 rw[ekP_take ha,hok,ekP_out (outP1 P a) (by omega),if_neg (by omega),show P.length-1+1=P.length by omega]
 simp only[one0,if_true]
 grind
theorem nxP_sz {P:List AP} {k g a:Nat} (h:PathP P k g) (ha:a<P.length) (hk:k≤70) {i:Nat} (hi:i<P.length):SzQ (nxP P a i) 100000000:=by
 have hl:=outP1_len ha
 have h2:=h.out ha
 have hS:=ekS_le (k:=k) (n:=(outP1 P a).length) hk h2.len
 have:=h.len
 exact((wq_sz (s:=i+1) (n:=P.length+1) (by omega) (by omega)).mul (ekP_sz h2.sz i)).mono (by omega)
def bkL (n i:Nat) (w:Nat→Rat):List RAT:=(List.range n).map fun j=>if i≤j then canQ (w j) else zR
theorem bkL_len (n i:Nat) (w:Nat→Rat):(bkL n i w).length=n:=by simp [bkL]
theorem bkL_get {n i j:Nat} (w:Nat→Rat) (h:j<n):(bkL n i w)[j]?=some (if i≤j then canQ (w j) else zR):=by simp [bkL,h]
theorem bkL_set {n i:Nat} (w:Nat→Rat):(bkL n (i+1) w).set i (canQ (w i))=bkL n i w:=by
 refine List.ext_getElem? fun j=>?_
 rw[List.getElem?_set]
 by_cases e:i=j
 · subst e
   by_cases hi:i<n
   · rw[if_pos rfl,if_pos (by rw[bkL_len];exact hi),bkL_get w hi,if_pos (Nat.le_refl _)]
   · rw[if_pos rfl,if_neg (by rw[bkL_len];exact hi),List.getElem?_eq_none (by rw[bkL_len];omega)]
 · rw [if_neg e]
   by_cases hj:j<n
   · rw [bkL_get w hj, bkL_get w hj]
     by_cases h:i≤j
     · rw[if_pos (by omega),if_pos h]
     · rw[if_neg (by omega),if_neg h]
   · rw[List.getElem?_eq_none (by rw[bkL_len];omega),List.getElem?_eq_none (by rw[bkL_len];omega)]
theorem bkL_none (n:Nat) (w:Nat→Rat):bkL n n w=List.replicate n zR:=by
 rw[List.eq_replicate_iff]
 refine⟨bkL_len _ _ _,fun x hx=>?_⟩
 obtain⟨j,hj,rfl⟩:=List.mem_map.1 hx
 have:=List.mem_range.1 hj
 exact if_neg (by omega)
theorem bkL_all (n:Nat) (w:Nat→Rat):bkL n 0 w=flo n w:=List.map_congr_left fun j _=>if_pos (Nat.zero_le _)
theorem without_ok {P:List AP} {k g:Nat} (h:PathP P k g) (hk:k≤70) {a:Nat} (ha:a<P.length) :
  pathshap_Path_without ((a+1:Nat):Int) (encK P (wtP P))=some (flo P.length (wtP (outP1 P a)),encK P (wtP P)):=by
 have hl:=outP1_len ha
 have hl2:=h.len
 have el:=encK_len P (wtP P)
 obtain⟨n,en⟩:∃ n,n=P.length:=⟨_,rfl⟩
 have hS:=ekS_le (k:=k) (n:=P.length) hk (by omega)
 have wsz:∀ i,i≤P.length→SzQ (wtP P i) 100000000:=fun i hi=>(wtP_sz h.sz hl2 hi).mono (by omega)
 have hQ:=h.out ha
 have hS2:=ekS_le (k:=k) (n:=(outP1 P a).length) hk hQ.len
 have qsz:∀ i,i<P.length→SzQ (wtP (outP1 P a) i) 100000000:=fun i hi=>(wtP_sz hQ.sz hQ.len (by omega)).mono (by omega)
 have hz:SzQ P[a].2.1 k:=h.sz _ (gM0 ha)
 have hpos:=h.pos _ (gM0 ha)
 have hz0:P[a].2.1≠0:=by intro e;rw[e] at hpos;exact absurd hpos (by decide)
 obtain⟨L,eL⟩:∃ L,L=lkF P (wtP P) (a+1):=⟨_,rfl⟩
 have eL':=eL
 rw[lkF_part ha] at eL'
 have L1:L.2.1=canQ P[a].2.1:=by rw[eL']
 have L2:L.2.2.1=P[a].2.2:=by rw[eL']
 obtain⟨nx,hnx⟩:∃ nx:Nat→Rat,nx=fun m=>if P[a].2.2 then (if m<n then nxP P a (n-1-m) else 0) else wtP P n:=⟨_,rfl⟩
 obtain⟨ov,hov⟩:∃ ov:Rat,ov=P[a].2.1⁻¹:=⟨_,rfl⟩
 have pn1:iadd .i64 ((n:Nat):Int) 1=((n+1:Nat):Int):=iadd1 (by omega)
 have key:=lp_up (step:=pathshap_Path_without_s7) (fun m=>(((n:Int),bkL n (n-m) (wtP (outP1 P a)),((n:Nat):Int)-1-(m:Int),()),((L.1,L.2.1.1.1,L.2.1.1.2,L.2.1.2,L.2.2.1,L.2.2.2.1.1,L.2.2.2.1.2,L.2.2.2.2,()),((canQ ov).1.1,(canQ ov).1.2,(canQ ov).2,()),((canQ (nx m)).1.1,(canQ (nx m)).1.2,(canQ (nx m)).2,()),(encK P (wtP P),()),()))) n
  (r:=((bkL n 0 (wtP (outP1 P a)),()),((encK P (wtP P),()),()))) (by omega) (by
  intro g m hm
  obtain⟨i,hi⟩:∃ i,n=i+m+1:=⟨n-m-1,by omega⟩
  have ei:((n:Nat):Int)-1-(m:Int)=(i:Int):=by omega
  have ei2:((n:Nat):Int)-1-((m+1:Nat):Int)=(i:Int)-1:=by omega
  have en1:n-m=i+1:=by omega
  have en2:n-(m+1)=i:=by omega
  have d0:((i:Nat):Int)≥0:=by omega
  have d1:(0:Int)≤(i:Int):=by omega
  have d2:(i:Int)<((encK P (wtP P)).length:Int):=by rw[el];omega
  have d3:(i:Int)<((bkL n (i+1) (wtP (outP1 P a))).length:Int):=by rw[bkL_len];omega
  have g1:=encK_get (P:=P) (w:=wtP P) (i:=i) (by omega)
  have g2:=bkL_get (n:=n) (i:=i+1) (j:=i) (wtP (outP1 P a)) (by omega)
  have q2:isub .i64 (n:Int) (i:Int)=((n-i:Nat):Int):=by rw[isub_i (by omega) (by omega)];omega
  have q3:isub .i64 (i:Int) 1=(i:Int)-1:=by rw[isub_i (by omega) (by omega)]
  have q1:iadd .i64 (i:Int) 1=((i+1:Nat):Int):=iadd1 (by omega)
  have hset:=bkL_set (n:=n) (i:=i) (wtP (outP1 P a))
  show pathshap_Path_without_s7 g (((n:Int),bkL n (n-m) (wtP (outP1 P a)),((n:Nat):Int)-1-(m:Int),()),((L.1,L.2.1.1.1,L.2.1.1.2,L.2.1.2,L.2.2.1,L.2.2.2.1.1,L.2.2.2.1.2,L.2.2.2.2,()),((canQ ov).1.1,(canQ ov).1.2,(canQ ov).2,()),((canQ (nx m)).1.1,(canQ (nx m)).1.2,(canQ (nx m)).2,()),(encK P (wtP P),()),()))=g (((n:Int),bkL n (n-(m+1)) (wtP (outP1 P a)),((n:Nat):Int)-1-((m+1:Nat):Int),()),((L.1,L.2.1.1.1,L.2.1.1.2,L.2.1.2,L.2.2.1,L.2.2.2.1.1,L.2.2.2.1.2,L.2.2.2.2,()),((canQ ov).1.1,(canQ ov).1.2,(canQ ov).2,()),((canQ (nx (m+1))).1.1,(canQ (nx (m+1))).1.2,(canQ (nx (m+1))).2,()),(encK P (wtP P),()),()))
  rw[ei,ei2,en1,en2,pathshap_Path_without_s7,cnd d0,L2]
  cases hok:P[a].2.2 with
  | false =>
   have f1:=frac_ok (a:=n+1) (b:=n-i) (by omega) (by omega)
   have s1:=frac_sz (a:=n+1) (b:=n-i) (by omega) (by omega)
   have hw:=wsz i (by omega)
   have m1:=ratio_Mul_ok (hw.sm (by decide)) (s1.sm (by decide))
   rw[rv_canQ,rv_canQ] at m1
   have z1:SzQ (wtP P i*(((n+1:Nat):Rat)/((n-i:Nat):Rat))) 200000000:=(hw.mul s1).mono (by omega)
   have hi2:SzQ ov k:=by rw[hov];exact hz.inv
   have m2:=ratio_Mul_ok (z1.sm (by decide)) (hi2.sm (by omega))
   rw[rv_canQ,rv_canQ] at m2
   have m2:ratio_Mul (canQ (wtP P i*(((n+1:Nat):Rat)/((n-i:Nat):Rat)))) (((canQ ov).1.1,(canQ ov).1.2),(canQ ov).2)=_:=m2
   have e1:=wtP_no ha (i:=i) (by omega) hz0 hok
   rw[← en,← hov] at e1
   have e2:nx (m+1)=nx m:=by rw[hnx];simp only[hok,Bool.false_eq_true,if_false]
   rw[Bool.not_false,cond_true,cnd2 d1 d2,tN0,g1,bS0,pn1,q2,f1,bS0,lkF_w,m1,bS0,m2,bS0,cnd2 d1 d3,g2,bS0,e1,hset,q3,e2]
  | true =>
   have f1:=frac_ok (a:=n+1) (b:=i+1) (by omega) (by omega)
   have s1:=frac_sz (a:=n+1) (b:=i+1) (by omega) (by omega)
   have enx:nx m=nxP P a i:=by rw[hnx];simp only[hok,if_true];rw[if_pos hm,show n-1-m=i by omega]
   have nsz:=nxP_sz h ha hk (i:=i) (by omega)
   have m1:=ratio_Mul_ok (nsz.sm (by decide)) (s1.sm (by decide))
   rw[rv_canQ,rv_canQ] at m1
   have e1:=nxP_out ha (i:=i) (by omega)
   rw[← en] at e1
   rw[e1] at m1
   have m1:ratio_Mul (((canQ (nxP P a i)).1.1,(canQ (nxP P a i)).1.2),(canQ (nxP P a i)).2) (canQ (((n+1:Nat):Rat)/((i+1:Nat):Rat)))=some (canQ (wtP (outP1 P a) i)):=m1
   have d4:(i:Int)<((bkL n i (wtP (outP1 P a))).length:Int):=by rw[bkL_len];omega
   have g3:=bkL_get (n:=n) (i:=i) (j:=i) (wtP (outP1 P a)) (by omega)
   rw[if_pos (Nat.le_refl _)] at g3
   have hq:=qsz i (by omega)
   have m2:=ratio_Mul_ok (hq.sm (by decide)) (hz.sm (by omega))
   rw[rv_canQ,rv_canQ] at m2
   have m2:ratio_Mul (canQ (wtP (outP1 P a) i)) ((L.2.1.1.1,L.2.1.1.2),L.2.1.2)=some (canQ (wtP (outP1 P a) i*P[a].2.1)):=by
    show ratio_Mul _ L.2.1=_
    rw[L1];exact m2
   have f2:=frac_ok (a:=n-i) (b:=n+1) (by omega) (by omega)
   have s2:=frac_sz (a:=n-i) (b:=n+1) (by omega) (by omega)
   have z2:SzQ (wtP (outP1 P a) i*P[a].2.1) 200000000:=(hq.mul hz).mono (by omega)
   have m3:=ratio_Mul_ok (z2.sm (by decide)) (s2.sm (by decide))
   rw[rv_canQ,rv_canQ] at m3
   have z3:SzQ (wtP (outP1 P a) i*P[a].2.1*(((n-i:Nat):Rat)/((n+1:Nat):Rat))) 300000000:=(z2.mul s2).mono (by omega)
   have hw:=wsz i (by omega)
   have m4:=ratio_Sub_ok (hw.sm (by decide)) (z3.sm (by decide))
   rw[rv_canQ,rv_canQ] at m4
   have e2:=nxP_next ha (i:=i) (by omega) hok
   rw[← en] at e2
   rw[e2] at m4
   have e3:nx (m+1)=if i=0 then 0 else nxP P a (i-1):=by
    rw[hnx];simp only[hok,if_true]
    by_cases h0:i=0
    · rw[if_neg (by omega),if_pos h0]
    · rw[if_pos (by omega),if_neg h0,show n-1-(m+1)=i-1 by omega]
   rw[Bool.not_true,cond_false,pn1,q1,f1,bS0,enx,m1,bS0,cnd2 d1 d3,tN0,g2,bS0,cnd2 d1 d2,g1,bS0,hset,cnd2 d1 d4,g3,bS0,m2,bS0,q2,f2,bS0,m3,bS0,lkF_w,m4,bS0,q3,e3]) (by
  intro g
  rw[Nat.sub_self,pathshap_Path_without_s7,cnd' (by omega)])
 have i1:isub .i64 ((P.length+1:Nat):Int) 1=(n:Int):=by rw[isub_i (by omega) (by omega)];omega
 have i2:isub .i64 (n:Int) 1=((n:Nat):Int)-1-((0:Nat):Int):=by rw[isub_i (by omega) (by omega)];omega
 have c0:(0:Int)≤((a+1:Nat):Int):=by omega
 have c1:((a+1:Nat):Int)<((P.length+1:Nat):Int):=by omega
 have hinv:=ratio_Inv_ok (hz.sm (by omega))
 rw[rv_canQ,if_neg hz0,← hov] at hinv
 have c2:(decide ((n:Int)=(n:Int))&&decide ((0:Int)≤(n:Int))&&decide ((((56:Nat):Int)*(n:Int))≤281474976710656)&&decide ((n:Int)≤9223372036854775807))=true:=by
  simp only[Bool.and_eq_true,decide_eq_true_eq]
  refine⟨⟨⟨trivial,by omega⟩,?_⟩,by omega⟩
  show(56:Int)*(n:Int)≤281474976710656
  omega
 have ev:nx 0=wtP P n:=by
  rw[hnx]
  cases hok:P[a].2.2 with
  | false=>simp
  | true=>simp only[if_true];rw[if_pos (by omega),en,nxP_top ha hok,Nat.sub_zero]
 have gn:=encK_get (P:=P) (w:=wtP P) (i:=n) (by omega)
 rw[pathshap_Path_without,el,cnd2 c0 c1,tN0,encK_get (by omega),bS0,i1,c2,cond_true,← eL,L1,hinv,bS0,cnd2 (by omega) (by omega),tN0,gn,bS0,i2]
 dsimp only
 rw[lkF_w,← ev]
 have key:lp pathshap_Path_without_s7 K0 (((n:Int),List.replicate n (((false,[]),[]):RAT),((n:Nat):Int)-1-((0:Nat):Int),()),((L.1,(canQ P[a].2.1).1.1,(canQ P[a].2.1).1.2,(canQ P[a].2.1).2,L.2.2.1,L.2.2.2.1.1,L.2.2.2.1.2,L.2.2.2.2,()),((canQ ov).1.1,(canQ ov).1.2,(canQ ov).2,()),((canQ (nx 0)).1.1,(canQ (nx 0)).1.2,(canQ (nx 0)).2,()),(encK P (wtP P),()),()))=some ((bkL n 0 (wtP (outP1 P a)),()),((encK P (wtP P),()),())):=by
  have k2:=key
  rw[Nat.sub_zero,bkL_none,L1] at k2
  exact k2
 rw[key,bkL_all,en];rfl
end Go.Proofs.YtilflbimpjokjaaGreatDoor.X
