/- Own work: part of the proof; the first line of each part says what it tells. -/
import Derived.Test.YtiefddjokkihdaaGreatDoorLa8
open List renaming range->j9,replicate->jb,length_append->jd,map_cons->je,mem_map->jf,mem_cons->jg,take_of_length_le->ji,map_congr_left->jj,mem_append->jm,nodup_append->jq,getElem?_eq_none->jr,map_append->js,range_succ->jw,mem_append_left->jx,length_cons->jz,Nodup->jE,count_pos_iff->jF,Perm->jG,getElem?_set->jH,mem_cons_self->jO,perm_append_comm->jP,cons_append->jQ,mem_cons_of_mem->jR,pairwise_cons->jS,mem_range->jT,length_singleton->jV,flatMap_append->jX,count_eq_zero_of_not_mem->jY,mem_flatMap->jZ,ext_getElem?->k7,count_cons->k8,length_map->k9,nodup_range->ka,count_append->kd,nodup_cons->ke,mem_filter->kg,mem_iff_getElem->ki,append_assoc->kp,idxOf_lt_length_iff->ky,getElem_idxOf->kz,map_const'->kA,filter_sublist->kB,map_nil->kC,mem_of_mem_take->kJ
open Nat renaming le_refl->ja,le_trans->jk,pow_le_pow_right->jn,pow_succ->jp,lt_of_le_of_lt->jt,gcd->jC,le_max_left->jD,testBit_succ->jK,lt_of_lt_of_le->jM,le_of_lt->jN,testBit_zero->jU,pos_of_ne_zero->jW,add_comm->kb,add_sub_cancel->kj,mul_le_mul_right->kn,div_add_mod->ko,mod_eq_of_lt->kq,pow_le_pow_left->kr,min_le_left->kD,min_eq_left->kE,min_eq_right->kH,div_le_self->kI,testBit_lt_two_pow->kK
open Rat renaming add_zero->jc,mul_zero->jo,mul_one->jy,zero_mul->jA,div_def->jB,zero_add->jI,one_mul->jJ,add_assoc->kc,mul_comm->kf,inv_mul_rev->kM
open Bool renaming not_true->jh,not_false->jv,false_or->jL,false_eq_true->kx,true_or->kL
open Int renaming natAbs_natCast->ju,natAbs_mul->kt


namespace Go.Proofs.YtiefddjokkihdaaGreatDoor.X
open Go
set_option linter.unusedVariables false
set_option linter.unusedSimpArgs false
theorem qwU {a q:List Int} {i:Int} {y R:Nat} (hy:(digs y).length<1099511627776) (hR:(digs R).length<1099511627776) (hRy:R<y*10000) :
  lp qaC K0 ((a,digs y,q,digs R,i,0,10000,()),())=some ((a,digs y,q,digs R,i,((R/y:Nat):Int),()),()):=by
 have hy0:0<y:=by
  rcases Nat.eq_zero_or_pos y with h | h
  · subst h;omega
  · exact h
 obtain⟨r,rfl,hlp⟩:=qmI (step:=qaC) (fun s=>∃ lo hi:Nat,s=((a,digs y,q,digs R,i,(lo:Int),(hi:Int),()),())/\lo<hi/\hi<=10000/\y*lo<=R/\R<y*hi) (fun s=>(s.1.2.2.2.2.2.2.1-s.1.2.2.2.2.2.1).toNat)
  (fun r=>r=((a,digs y,q,digs R,i,((R/y:Nat):Int),()),())) (v:=((a,digs y,q,digs R,i,0,10000,()),())) ⟨0,10000,rfl,by omega,by omega,by simp,hRy⟩ (by simp) (by
    rintro s ⟨lo,hi,rfl,hlt,hh,h1,h2⟩;have e1:isub .i64 (hi:Int) (lo:Int)=(hi:Int)-lo:=by rw[qci]<;>omega
    by_cases hd:hi-lo<=1
    · have : hi = lo + 1 := by omega
      subst this;have hq:R/y=lo:=by
        rw[Nat.div_eq_iff hy0];rw[Nat.mul_add,Nat.mul_one] at h2;rw[Nat.mul_comm];omega
      refine .inl ⟨_,rfl,fun g=>?_⟩;rw[qaC,e1,cnd' (by omega),hq]
    · have e2 : iquo .i64 (iadd .i64 (lo : Int) (hi : Int)) 2 = (((lo + hi) / 2 : Nat) : Int) := by
        have:iadd .i64 (lo:Int) (hi:Int)=((lo+hi:Nat):Int):=by rw[qfq]<;>omega
        rw[this,qq4 (by omega) (by omega) (by omega)];omega
      have hmid:(lo+hi)/2<10000:=by omega
      have hs:=qjI (n:=(lo+hi)/2) (by omega);have hdl:(digs ((lo+hi)/2)).length<=1:=qdR (by omega);have ht:=qpd (qeu y) (qeu ((lo+hi)/2)) (by omega) (by omega);rw[qdb,qdb] at ht;have hml:=qka y ((lo+hi)/2);have ho:=qpe (n:=y*((lo+hi)/2)) (m:=R) (by omega);have hmlo:lo<(lo+hi)/2:=by omega
      have hmhi:(lo+hi)/2<hi:=by omega
      generalize (lo+hi)/2=mid at *;have step:∀ g,qaC g ((a,digs y,q,digs R,i,(lo:Int),(hi:Int),()),())=bif decide (ncmp (y*mid) R<=0) then g ((a,digs y,q,digs R,i,(mid:Int),(hi:Int),()),()) else g ((a,digs y,q,digs R,i,(lo:Int),(mid:Int),()),()):=by
        intro g;rw[qaC,e1,cnd (by omega),e2,hs,bS0,ht,bS0,ho,bS0]
      by_cases hc:y*mid<=R
      · have c : ncmp (y * mid) R <= 0 := by unfold ncmp; split <;> (try split) <;> omega
        exact .inr ⟨_,⟨mid,hi,rfl,hmhi,hh,hc,h2⟩,by show((hi:Int)-(mid:Int)).toNat<((hi:Int)-(lo:Int)).toNat;omega,fun g=>by rw[step,cnd c]⟩
      · have c : ¬ ncmp (y * mid) R <= 0 := by unfold ncmp; rw [if_neg (by omega), if_pos (by omega)]; decide
        exact .inr ⟨_,⟨lo,mid,rfl,hmlo,by omega,h1,by omega⟩,by show((mid:Int)-(lo:Int)).toNat<((hi:Int)-(lo:Int)).toNat;omega,fun g=>by rw[step,cnd' c]⟩)
 exact hlp
theorem qCJ {R y k:Nat} (h:R<y*10000) (hy:y<10000 ^ k):R<10000 ^ (k+1):=by
 rw[jp];exact jM h (kn _ (jN hy))
theorem qCH {a:List Int} {y:Nat} (ha:Dig a) (hl:a.length<1099511627776) (hy:(digs y).length<1099511627775) (hy0:0<y):qeT a (digs y)=some (digs (dd a/y),digs (dd a % y)):=by
 obtain⟨r,⟨s,c,rfl,hs,hsl,hc,hsn⟩,hlp⟩:=qmI (step:=qbg)
  (fun v=>∃ (j:Nat) (s:List Int) (c:Nat),j<=a.length/\v=((a,digs y,jb j 0++s,digs c,(j:Int)-1,()),())/\j+s.length=a.length/\Dig s/\c<y/\dd (a.drop j)=y*dd s+c)
  (fun v=>(v.1.2.2.2.2.1+1).toNat)
  (fun r=>∃ (s:List Int) (c:Nat),r=((s,digs c,()),())/\s.length=a.length/\Dig s/\c<y/\dd a=y*dd s+c) (v:=((a,digs y,jb a.length 0,[],(a.length:Int)-1,()),()))
  ⟨a.length, [], 0, ja _, by simp [qee], by simp, Dig.nil, hy0, by simp⟩ (by simp; omega) (by
   rintro v ⟨j,s,c,hj,rfl,hjl,hsl,hc,hn⟩;cases j with
   | zero =>
    refine .inl ⟨((s,digs c,()),()),⟨s,c,rfl,by omega,hsl,hc,by simpa using hn⟩,fun g=>by simp [qbg]⟩
   | succ j =>
    have hja:j<a.length:=by omega
    have b:=ha.at hja;have e3:((j+1:Nat):Int)-1=(j:Int):=by omega
    rw[e3];obtain⟨x,hx⟩:=Int.eq_ofNat_of_zero_le b.1;have hx':x<10000:=by omega
    have hcl:=qjh (jN hc);have htr:=qrg (a:=[a[j]]++digs c) (Dig.append (Dig.cons b Dig.nil) (qeu c)) (by simp;omega);have hval:dd ([a[j]]++digs c)=x+10000*c:=by
      show dd (a[j]::digs c)=_;rw[dd,qdb];omega
    rw[hval] at htr;have hR:x+10000*c<y*10000:=by omega
    have hRl:(digs (x+10000*c)).length<1099511627776:=by
      have h5:x+10000*c<10000 ^ ((digs y).length+1):=by
       have h6:=qta (digs y);rw[qdb] at h6;exact qCJ hR h6
      have:=qdR h5;omega
    have hin:=qwU (a:=a) (q:=jb (j+1) 0++s) (i:=(j:Int)) (by omega) hRl hR;have k1:=ko (x+10000*c) y;have k5:=Nat.mod_lt (x+10000*c) hy0;have hq:(x+10000*c)/y<10000:=by rw[Nat.div_lt_iff_lt_mul hy0];omega
    have hs1:=qjI (n:=(x+10000*c)/y) (by omega);have hdl:(digs ((x+10000*c)/y)).length<=1:=qdR (by omega);have ht:=qpd (qeu y) (qeu ((x+10000*c)/y)) (by omega) (by omega);rw[qdb,qdb] at ht;have hm:=qAI (qeu (x+10000*c)) (qeu (y*((x+10000*c)/y))) (by omega) (by rw[qdb,qdb];omega);rw[qdb,qdb] at hm;have hrest:x+10000*c-y*((x+10000*c)/y)=(x+10000*c) % y:=by omega
    rw[hrest] at hm;generalize (x+10000*c)/y=qd at *;generalize (x+10000*c) % y=rr at *;refine .inr ⟨((a,digs y,jb j 0++(qd:Int)::s,digs rr,(j:Int)-1,()),()),⟨j,_,_,by omega,rfl,by simp;omega,Dig.cons (by omega) hsl,k5,?_⟩,by simp,fun g=>?_⟩
    · rw [qFh a hja, hn, dd];have k2:((qd:Int) % 10000).toNat=qd:=by omega
      have k3:(a[j] % 10000).toNat=x:=by omega
      rw[k2,k3]
      grind
    · have q5 : isub .i64 (j : Int) 1 = (j : Int) - 1 := by rw [qci] <;> omega
      have e5:(jb (j+1) (0:Int)++s).set j (qd:Int)=jb j 0++(qd:Int)::s:=by
       rw[List.replicate_succ',kp,List.set_append_right _ _ (by simp)];simp
      have e6:j<(jb (j+1) (0:Int)++s).length:=by simp;omega
      have e7:((j:Nat):Int)<((jb (j+1) (0:Int)++s).length:Int):=by omega
      have e8:(0:Int)<=((j:Nat):Int):=by omega
      have c0:(j:Int)>=0:=by omega
      have c1:(Nat.ble ((([a[j]]:List Int).length+(digs c).length)*8) 140737488355328&&!false)=true:=blt (by simp;omega);rw[qbg,cnd c0,cnd e8,tN0,gE0 hja,bS0,c1,cond_true,htr,bS0,hin,bS0,cnd2 e8 e7,tN0,gE0 e6,bS0,hs1,bS0,ht,bS0,hm,bS0,e5,q5])
 have g1:((8:Nat):Int)*(a.length:Int)<=281474976710656:=by omega
 have g2:(a.length:Int)<=9223372036854775807:=by omega
 have g4:(0:Int)<=(a.length:Int):=by omega
 have g3:isub .i64 (a.length:Int) 1=(a.length:Int)-1:=by rw[qci]<;>omega
 have k1:dd a/y=dd s:=by rw[hsn,Nat.mul_add_div hy0,Nat.div_eq_of_lt hc];simp
 have k2:dd a % y=c:=by rw[hsn,Nat.mul_add_mod,kq hc]
 rw[k1,k2];rw[qeT,decide_eq_true rfl,decide_eq_true g4,decide_eq_true g1,decide_eq_true g2,tN0,g3,hlp];simp only[Bool.and_self,cond_true,bS0,qrg hsl (show s.length<4611686018427387904 by omega)]
theorem qE1 {x y:Nat} (hy:y≠0) (h:2*x<=y):lenN x<lenN y:=by
 unfold lenN;by_cases hx:x=0
 · rw[if_pos hx,if_neg hy];omega
 · rw [if_neg hx, if_neg hy];have:=qse hx h;omega
theorem qE2 {n k:Nat} (h:n<2 ^ k):lenN n<=k:=by
 unfold lenN;by_cases hx:n=0
 · rw[if_pos hx];omega
 · rw[if_neg hx];have:=(Nat.log2_lt hx).2 h;omega
theorem qvY (n:Nat):lenN n<=14*(digs n).length:=by
 apply qE2;have h1:=qta (digs n);rw[qdb] at h1;have h2:10000 ^ (digs n).length<=(2 ^ 14) ^ (digs n).length:=kr (by decide) _;rw[<- Nat.pow_mul] at h2;omega
theorem qED {x y:Nat} (hx:(digs x).length<1099511627775) (hy:(digs y).length<1099511627775):qdl (digs x) (digs y)=some (digs (jC x y)):=by
 obtain⟨r,rfl,hlp⟩:=qmI (step:=qbz) (fun s=>∃ p q:Nat,s=((digs p,digs q,()),())/\(digs p).length<1099511627775/\(digs q).length<1099511627775/\jC p q=jC x y)
  (fun s=>2*(lenN (dd s.1.1)+lenN (dd s.1.2.1))+if dd s.1.1<dd s.1.2.1 then 1 else 0) (fun r=>r=((digs (jC x y),()),())) (v:=((digs x,digs y,()),()))
  ⟨x, y, rfl, hx, hy, rfl⟩ (by
   have h1:=qvY x;have h2:=qvY y;simp only[qdb];split<;>omega) (by
   rintro s ⟨p,q,rfl,hp,hq,hg⟩;by_cases h0:q=0
   · subst h0;refine .inl ⟨_,rfl,fun g=>?_⟩;rw[Nat.gcd_zero_right] at hg;rw[qee,qbz,cnd' (by decide),<- hg]
   · have c0 : ((digs q).length : Int) > 0 := qmV.2 h0;have ho:=qCH (qeu p) (by omega) hq (jW h0);rw[qdb] at ho;have hml:=Nat.mod_lt p (jW h0);refine .inr ⟨((digs q,digs (p % q),()),()),⟨q,p % q,rfl,hq,jt (qjh (jN hml)) hq,?_⟩,?_,fun g=>?_⟩
     · rw[<- hg,Nat.gcd_comm q,<- Nat.gcd_rec,Nat.gcd_comm]
     · simp only [qdb];rw[if_neg (by omega)];by_cases hpq:p<q
       · rw[if_pos hpq,kq hpq];omega
       · rw [if_neg hpq];have:2*(p % q)<=p:=by
          have h1:=ko p q;have h2:1<=p/q:=Nat.div_pos (by omega) (by omega);have h3:q*1<=q*(p/q):=Nat.mul_le_mul_left _ h2;omega
         have:=qE1 (by omega) this;omega
     · rw[qbz,cnd c0,ho,bS0])
 rw[qdl,hlp];rfl
theorem qho {n k:Nat} (h:n<4294967296 ^ k):(digs n).length<=3*k:=by
 apply qdR;have:4294967296 ^ k<=(10000 ^ 3) ^ k:=kr (by decide) _;rw[<- Nat.pow_mul] at this;omega
theorem qrh {a:List Int} (hl:a.length<274877906944):qaM a=some (digs (nn a)):=by
 have hu:=qjI (n:=4294967296) (by decide);obtain⟨r,rfl,hlp⟩:=qmI (step:=qbh) (fun s=>∃ j:Nat,j<=a.length/\s=((a,digs (nn (a.drop j)),digs 4294967296,(j:Int)-1,()),())) (fun s=>(s.1.2.2.2.1+1).toNat)
  (fun r => r = ((digs (nn a), ()), ())) (v := ((a, [], digs 4294967296, (a.length : Int) - 1, ()), ())) ⟨a.length, ja _, by rw [List.drop_length, qD0, qee]⟩ (by simp; omega) (by
   rintro s ⟨j,hj,rfl⟩;cases j with
   | zero=>exact .inl ⟨_,rfl,fun g=>by simp [qbh]⟩
   | succ j =>
    have hja:j<a.length:=by omega
    have e3:((j+1:Nat):Int)-1=(j:Int):=by omega
    rw[e3];have hnl:=qgx (a.drop (j+1));rw[List.length_drop] at hnl;have hd:=qho hnl;have hu2:(digs 4294967296).length<=3:=qdR (by decide);have ht:=qpd (qeu (nn (a.drop (j+1)))) (qeu 4294967296) (by omega) (by omega);rw[qdb,qdb] at ht;have hml:=qka (nn (a.drop (j+1))) 4294967296;have hw:IntKind.wrap .i64 (iand .u64 a[j] 4294967295)=(((a[j] % 4294967296).toNat:Nat):Int):=by
     rw[qhl,quN (by omega) (by omega)];omega
    have hs:=qjI (n:=(a[j] % 4294967296).toNat) (by omega);have hsl:(digs (a[j] % 4294967296).toNat).length<=3:=qdR (by omega);have hp:=qCG (x:=nn (a.drop (j+1))*4294967296) (y:=(a[j] % 4294967296).toNat) (by omega) (by omega);have hval:nn (a.drop (j+1))*4294967296+(a[j] % 4294967296).toNat=nn (a.drop j):=by rw[qw0 a hja];omega
    rw[hval] at hp;refine .inr ⟨((a,digs (nn (a.drop j)),digs 4294967296,(j:Int)-1,()),()),⟨j,by omega,rfl⟩,by simp,fun g=>?_⟩;have q5:isub .i64 (j:Int) 1=(j:Int)-1:=by rw[qci]<;>omega
    have c0:(j:Int)>=0:=by omega
    have c1:(0:Int)<=(j:Int):=by omega
    rw[qbh,cnd c0,ht,bS0,cnd c1,tN0,gE0 hja,bS0,hw,hs,bS0,hp,bS0,q5])
 have g3:isub .i64 (a.length:Int) 1=(a.length:Int)-1:=by rw[qci]<;>omega
 rw[show((4294967296:Nat):Int)=4294967296 from rfl] at hu;rw[qaM,hu,bS0,g3,hlp];rfl
theorem qvs {n:Nat} (hl:(qab n).length<4398046511104):qdg (qab n)=some true:=by
 have la:=qa4 n;have hc:=(qsf n).2;generalize qab n=a at *;have key:=qfM (step:=qaP) (fun i=>((a,(i:Int),()),())) a.length (r:=.inl ((a,()),())) (by omega) (by
   intro g i hi;have b:=la.at hi;have c0:(i:Int)<((a.length:Nat):Int):=by omega
   have c1:(0:Int)<=(i:Int):=by omega
   rw[qaP,cnd c0,cnd c1,tN0,gE0 hi,bS0,cnd' (by omega),qaV (by omega)];rfl) (by
   intro g;rw[qaP,cnd' (by omega)])
 have key':lp qaP K0 ((a,0,()),())=some (.inl ((a,()),())):=key;rw[qdg,key',bS0];by_cases h0:a=[]
 · subst h0;rfl
 · have hlen := List.length_pos_iff.2 h0;have e:isub .i64 (a.length:Int) 1=((a.length-1:Nat):Int):=by rw[qci]<;>omega
   have hlt:a.length-1<a.length:=by omega
   have hne:a[a.length-1]≠0:=hc _ (by rw[List.getLast?_eq_getElem?];exact gE0 hlt);have c0:¬ ((a.length:Nat):Int)=0:=by omega
   have c1:(0:Int)<=((a.length-1:Nat):Int):=by omega
   simp only[];rw[cnd' c0,e,cnd c1,tN0,gE0 hlt,bS0,decide_eq_false hne];rfl
def ql3 (z:Int):WH:=(decide (z<0),digs z.natAbs)
theorem qpf (b:Bool) (n:Nat):qb8 b (digs n)=some (ql3 (if b then -(n:Int) else n)):=by
 cases b with
 | false =>
  show some (false,digs n)=some (ql3 (n:Int));unfold ql3;rw[decide_eq_false (by omega),ju]
 | true =>
  show some (decide (((digs n).length:Int)>0),digs n)=some (ql3 (-(n:Int)));unfold ql3;rw[Int.natAbs_neg,ju];congr 2;rw[decide_eq_decide,qmV];omega
theorem qtm {x y:Int} (hx:(digs x.natAbs).length<1099511627776) (hy:(digs y.natAbs).length<1099511627776):qdf (ql3 x) (ql3 y)=some (ql3 (x*y)):=by
 have hm:=qpd (qeu x.natAbs) (qeu y.natAbs) (by omega) (by omega);rw[qdb,qdb] at hm;rw[qdf];simp only[ql3,hm,bS0,qpf];have key:(if (!decide (x<0) == decide (y<0))=true then -(((x.natAbs*y.natAbs:Nat)):Int) else ((x.natAbs*y.natAbs:Nat):Int))=x*y:=by
  rw[Int.natCast_mul];by_cases h1:x<0<;>by_cases h2:y<0
  · rw[show((x.natAbs:Nat):Int)=-x by omega,show((y.natAbs:Nat):Int)=-y by omega];simp [h1,h2,Int.neg_mul_neg]
  · rw[show((x.natAbs:Nat):Int)=-x by omega,show((y.natAbs:Nat):Int)=y by omega];simp [h1,h2,Int.neg_mul]
  · rw[show((x.natAbs:Nat):Int)=x by omega,show((y.natAbs:Nat):Int)=-y by omega];simp [h1,h2,Int.mul_neg]
  · rw[show((x.natAbs:Nat):Int)=x by omega,show((y.natAbs:Nat):Int)=y by omega];simp [h1,h2]
 exact congrArg (fun z=>some (ql3 z)) key
theorem qy8 {x y:Int} (hx:(digs x.natAbs).length<4398046511104) (hy:(digs y.natAbs).length<4398046511104):qeh (ql3 x) (ql3 y)=some (icmp x y):=by
 have e1:=qpe (n:=x.natAbs) (m:=y.natAbs) (by omega);have e2:=qpe (n:=y.natAbs) (m:=x.natAbs) (by omega);rw[qeh];simp only[ql3,e1,e2];by_cases h1:x<0<;>by_cases h2:y<0<;>simp [h1,h2,icmp,ncmp]<;>(repeat' split)<;>omega
theorem qvt {a:WH} (h:a.2.length<274877906944):qeS a=some (ql3 (wv a)):=by
 rw[qeS,qrh h,bS0,qpf];rfl
theorem qAJ {a:RAT} {n:Nat} (h:SzR a n) (hn:n<91625968980):∃ (z:Int) (d:Nat),qb7 a=some (ql3 z,digs d)/\0<d/\rv a=mkRat z d/\(digs z.natAbs).length<=3*n+1/\(digs d).length<=3*n+1:=by
 have h1:=h.1;have h2:=h.2;rw[qb7,qrh (by omega),bS0];by_cases h0:nn a.2=0
 · refine ⟨0, 1, ?_, by omega, ?_, by simp [qee], qdR (by rw [Nat.pow_add]; have : 0 < 10000 ^ (3 * n) := Nat.pow_pos (by decide); omega)⟩
   · have s1 := qjI (n := 1) (by decide);have s0:=qjI (n:=0) (by decide);rw[show((1:Nat):Int)=1 from rfl] at s1;rw[show((0:Nat):Int)=0 from rfl] at s0;rw[h0,qee,cnd (by rfl),qfr,qfs,cnd' (by decide),s0,bS0,qpf,bS0,bS0,s1];rfl
   · rw[rv,h0];simp
 · have hne : ¬ ((digs (nn a.2)).length : Int) = 0 := by rw [qwk]; exact h0
   refine⟨wv a.1,nn a.2,?_,jW h0,rfl,?_,?_⟩
   · rw[cnd' hne,qvt (by omega)];rfl
   · rw [qfu];have:=qho (qgx a.1.2);omega
   · have := qho (qgx a.2);omega
theorem qG0 {q:Rat} {b:RAT} {n m:Nat} (hq:SzQ q n) (hn:n<91625968980) (hb:SzR b m) (hm:m<91625968980):qc3 (canQ q) b=some (decide (q=rv b)):=by
 obtain⟨z,d,hf,hd0,hv,hz,hd⟩:=qAJ hb hm;have hr:=hq.szR;have r1:(qab q.num.natAbs).length<=n:=hr.1;have r2:(qab q.den).length<=n:=hr.2;have hnum:=qho hq.1;have hden:=qho hq.2;have f1:=qrh (a:=qab q.num.natAbs) (by omega);have f2:=qrh (a:=qab q.den) (by omega);rw[q9q] at f1 f2;have hg:=qED (x:=q.num.natAbs) (y:=q.den) (by omega) (by omega);rw[show jC q.num.natAbs q.den=1 from q.reduced] at hg;have s1:=qjI (n:=1) (by decide);rw[show((1:Nat):Int)=1 from rfl] at s1;have hl1:(digs 1).length<=1:=qdR (by decide);have ho:=qpe (n:=1) (m:=1) (by omega);have hcm:ncmp 1 1=0:=rfl;have hdne:¬ (((qab q.den).length:Nat):Int)=0:=by rw[qjw];exact q.den_nz
 have hright:qef (canQ q)=some true:=by
  have hfin:((qaM (qab q.num.natAbs)).bind fun r3=>(qaM (qab q.den)).bind fun r4=>(qdl r3 r4).bind fun r5=>(qao 1).bind fun r6=>(qal r5 r6).bind fun r7=>some (decide (r7=0)))=some true:=by
    rw[f1,bS0,f2,bS0,hg,bS0,s1,bS0,ho,bS0,hcm];rfl
  rw[show canQ q=((decide (q.num<0),qab q.num.natAbs),qab q.den) from rfl,qef,qvs (show(qab q.num.natAbs).length<4398046511104 by omega),bS0,jh,cond_false,qvs (show(qab q.den).length<4398046511104 by omega),bS0,jh,cond_false,cnd' hdne];by_cases hz0:q.num.natAbs=0
  · have hnn : ¬ q.num < 0 := by omega
    have hl0:(((qab q.num.natAbs).length:Nat):Int)=0:=qjw.2 hz0;rw[cnd hl0,cnd' hnn];exact hfin
  · have hl0 : ¬ (((qab q.num.natAbs).length : Nat) : Int) = 0 := by rw [qjw]; exact hz0
    rw[cnd' hl0];exact hfin
 have hfrom:qb7 (canQ q)=some (ql3 q.num,digs q.den):=by
  have hdne2:¬ (((digs q.den).length:Nat):Int)=0:=by rw[qwk];exact q.den_nz
  have f3:=qvt (a:=qaG q.num) (by show(qab _).length<_;omega);rw[qcY] at f3;rw[qb7];simp only[canQ,f2,bS0,f3];exact cnd' hdne2
 have m1:=qtm (x:=q.num) (y:=(d:Int)) (by omega) (by rw[ju];omega);have m2:=qtm (x:=z) (y:=(q.den:Int)) (by omega) (by rw[ju];omega);have l1:=qka q.num.natAbs d;have l2:=qka z.natAbs q.den;have oo:=qy8 (x:=q.num*(d:Int)) (y:=z*(q.den:Int)) (by rw[kt,ju];omega) (by rw[kt,ju];omega);have k1:=qpf false d;have k2:=qpf false q.den;have horder:qeg (ql3 q.num,digs q.den) (ql3 z,digs d)=some (icmp (q.num*(d:Int)) (z*(q.den:Int))):=by
  rw[qeg];simp only[qfb,k1,k2,bS0,kx,if_false,m1,m2,oo]
 have hiff:icmp (q.num*(d:Int)) (z*(q.den:Int))=0 ↔ q=rv b:=by
  rw[hv];have h1:icmp (q.num*(d:Int)) (z*(q.den:Int))=0 ↔ q.num*(d:Int)=z*(q.den:Int):=by
    unfold icmp;(repeat' split)<;>omega
  rw[h1]
  conv=>rhs;rw[<- Rat.mkRat_self q]
  rw[Rat.mkRat_eq_iff q.den_nz (by omega)]
 rw[qc3,hf,bS0,qhp,hright,bS0,cond_true,hfrom,bS0,horder,bS0,bS0];congr 1;rw[decide_eq_decide];exact hiff
def rsum (f:Nat->Rat):Nat->Rat
 | 0=>0
 | n+1=>rsum f n+f n
theorem qbq {f g:Nat->Rat} {n:Nat} (h:∀ i,i<n->f i=g i):rsum f n=rsum g n:=by
 induction n with
 | zero=>rfl
 | succ n ih=>simp only[rsum];rw[ih (fun i hi=>h i (by omega)),h n (by omega)]
theorem qle (f:Nat->Rat) (c:Rat) (n:Nat):rsum (fun i=>f i*c) n=rsum f n*c:=by
 induction n with
 | zero=>simp [rsum]
 | succ n ih=>simp only[rsum,ih];rw[Rat.add_mul]
theorem qme {f:Nat->Rat} {k n:Nat} (h:∀ i,i<n->SzQ (f i) k):SzQ (rsum f n) (1+n*(k+1)):=by
 induction n with
 | zero=>simpa [rsum] using SzQ.zero
 | succ n ih =>
  have:=(ih fun i hi=>h i (by omega)).add (h n (by omega));simp only[rsum];exact this.mono (by rw[Nat.add_mul];omega)
theorem qsn:SzQ (((1:Int):Rat)/((2:Int):Rat)) 2:=(SzQ.int (z:=1) (by decide)).div (SzQ.int (z:=2) (by decide))
def fac:Nat->Nat
 | 0=>1
 | n+1=>(n+1)*fac n
theorem qxm (n:Nat):0<fac n:=by
 induction n with
 | zero=>decide
 | succ n ih=>exact Nat.mul_pos (by omega) ih
def qst:List WH:=(j9 65).map fun n=>qaG (fac n:Nat)
theorem qwV:qfe=some qst:=by decide +kernel
def Tab (d st sm:Int) (f:List WH):Prop:=(d=0/\st=0)\/(d=1/\st=0/\f=qst)
theorem qEe:∃ d st sm f,qmb=some (d,st,sm,f)/\Tab d st sm f:=⟨0,0,0,[],rfl,.inl ⟨rfl,rfl⟩⟩
theorem qBv {n:Nat} (h:n<65):qst[n]?=some (qaG (fac n:Nat)):=by
 simp [qst,h]
theorem qFp {d st sm:Int} {f:List WH} (h:Tab d st sm f) {n:Nat} (hn:n<=64):qi7 (n:Int) d st sm f=some (qaG (fac n:Nat),1,0,sm,qst):=by
 have h0:(0:Int)<=(n:Int):=by omega
 have hg:=qBv (n:=n) (by omega);rcases h with ⟨rfl,rfl⟩ | ⟨rfl,rfl,rfl⟩
 · rw[qi7,cnd h0,cnd rfl,cnd rfl,qwV,bS0,tN0,hg,bS0]
 · rw[qi7,cnd h0,cnd' (by decide),tN0,hg,bS0]
theorem tab1 (sm:Int):Tab 1 0 sm qst:=.inr ⟨rfl,rfl,rfl⟩
theorem qyx {n:Nat} (h:n<=64):fac n<4294967296 ^ 10:=by
 have hm:∀ a b,a<=b->fac a<=fac b:=by
  intro a b hab
  induction hab with
  | refl=>exact ja _
  | step _ ih =>
   refine jk ih ?_;simp only[fac];exact Nat.le_mul_of_pos_left _ (by omega)
 have:=hm n 64 h;have h64:fac 64<4294967296 ^ 10:=by decide +kernel
 omega
theorem qBw {n:Nat} (h:n<=64):SzQ ((fac n:Nat):Rat) 10:=by
 have:=qyx h;exact⟨by simpa using this,by simp⟩
def quo (a b c:Nat):Rat:=((fac a:Nat):Rat)*((fac b:Nat):Rat)/((fac c:Nat):Rat)
theorem qFQ {a b c:Nat} (ha:a<=64) (hb:b<=64) (hc:c<=64):SzQ (quo a b c) 30:=((qBw ha).mul (qBw hb)).div (qBw hc)
theorem qsg {n k:Nat} (h:n<4294967296 ^ k):(qaG (n:Nat)).2.length<=k:=by
 rw[qzz];exact qc1 (by simpa using h)
theorem qxM (n:Nat):wv (qaG (n:Nat))=(n:Int):=by
 simp [qcY]
theorem qrW {d st sm:Int} {f:List WH} (h:Tab d st sm f) {a b c:Nat} (ha:a<=64) (hb:b<=64) (hc:c<=64) :
  qcA (a:Int) (b:Int) (c:Int) d st sm f=some (canQ (quo a b c),1,0,sm,qst):=by
 have hl:∀ {n:Nat},n<=64->(qaG (fac n:Nat)).2.length<1099511627776:=fun h=>jt (qsg (qyx h)) (by decide)
 have hm:qey (qaG (fac a:Nat)) (qaG (fac b:Nat))=some (qaG ((fac a*fac b:Nat):Int)):=by
  have:=qwE (a:=qaG (fac a:Nat)) (b:=qaG (fac b:Nat)) (jM (hl ha) (by decide)) (jM (hl hb) (by decide));rw[this,qxM,qxM];simp
 have hlen:(qaG ((fac a*fac b:Nat):Int)).2.length<1099511627776:=by
  have h1:=qyx ha;have h2:=qyx hb;have:fac a*fac b<4294967296 ^ 20:=by
   have:=Nat.mul_lt_mul'' h1 h2;rw[<- Nat.pow_add] at this;exact this
  exact jt (qsg this) (by decide)
 have hmk:=qlh hlen (hl hc);rw[qxM,qxM,if_neg (by have:=qxm c;omega)] at hmk;have hq:(((fac a*fac b:Nat):Int):Rat)/(((fac c:Nat):Int):Rat)=quo a b c:=by
  simp [quo];rfl
 rw[hq] at hmk;rw[qcA,qFp h ha,bS0,qFp (tab1 sm) hb,bS0,hm,bS0,qFp (tab1 sm) hc,bS0,hmk,bS0]
def wq (s n:Nat):Rat:=quo s (n-s-1) n
theorem quO {s n:Nat} (hs:s<n) (hn:n<=64):SzQ (wq s n) 30:=qFQ (by omega) (by omega) (by omega)
theorem qB7 {d st sm:Int} {f:List WH} (h:Tab d st sm f) {s n:Nat} (hs:s<n) (hn:n<=64) :
  qa2 (s:Int) (n:Int) d st sm f=some (canQ (wq s n),0,1,0,sm,qst):=by
 have e1:isub .i64 (isub .i64 (n:Int) (s:Int)) 1=((n-s-1:Nat):Int):=by
  rw[qci (x:=(n:Int)) (y:=(s:Int)) (by omega) (by omega),qci (by omega) (by omega)];omega
 rw[qa2,cnd' (by omega),cnd' (by omega),cnd' (by omega),cnd' (by omega),e1,qrW h (by omega) (by omega) (by omega),bS0];rfl
def vabs (l:List RAT) (i:Nat):Rat:=rabs (vals l i)
def vsum (l:List RAT):Rat:=rsum (vabs l) l.length
def qFK (l:List RAT) (i:Nat):Rat:=vabs l i/vsum l
def qDW (l:List RAT) (n:Nat):List RAT:=(j9 n).map fun i=>canQ (qFK l i)
@[simp] theorem qFA (l:List RAT) (n:Nat):(qDW l n).length=n:=by simp [qDW]
section
variable {l:List RAT} (hsz:∀ x∈l,SzR x 2) (hlen:l.length<=33)
include hsz
end
theorem qvf {l:List RAT} {k:Nat} (hs:∀ x∈l,Sm x) (hk:∀ i,i<l.length->SzQ (vals l i) k) (hl:1+l.length*(k+1)<1099511627776) (hlen:l.length<4398046511104):qkC l=some (canQ (rsum (vals l) l.length)):=by
 have hpart:∀ i,i<=l.length->Sm (canQ (rsum (vals l) i)):=by
  intro i hi;have h1:=qme (f:=vals l) (k:=k) (n:=i) (fun j hj=>hk j (by omega));refine h1.sm (jt ?_ hl);have:=kn (k+1) hi;omega
 have key:=qfM (step:=qd5) (fun i=>((l,((l.length:Nat):Int),(i:Int),()),((false,[],[],()),((canQ (rsum (vals l) i)).1.1,(canQ (rsum (vals l) i)).1.2,(canQ (rsum (vals l) i)).2,()),()))) l.length
  (r:=((),((false,[],[],()),((canQ (rsum (vals l) l.length)).1.1,(canQ (rsum (vals l) l.length)).1.2,(canQ (rsum (vals l) l.length)).2,()),()))) (by omega) (by
  intro g i hi;have d0:(i:Int)<((l.length:Nat):Int):=by omega
  have d1:(0:Int)<=(i:Int):=by omega
  have hp:=qbN (hpart i (jN hi)) (hs _ (gM0 hi));rw[qae,<- qCi hi] at hp;have hp':qaU (((canQ (rsum (vals l) i)).1.1,(canQ (rsum (vals l) i)).1.2),(canQ (rsum (vals l) i)).2) l[i]=some (canQ (rsum (vals l) (i+1))):=hp;rw[qd5,cnd d0,cnd d1,tN0,gE0 hi,bS0,hp',bS0,qaV (by omega)];rfl) (by
  intro g;rw[qd5,cnd' (by omega)])
 have key':lp qd5 K0 ((l,((l.length:Nat):Int),0,()),((false,[],[],()),((canQ 0).1.1,(canQ 0).1.2,(canQ 0).2,()),()))=_:=key;rw[qkC,qdx,bS0,key'];rfl
theorem qEV {V T:Type} {step:(V->Option T)->V->Option T} (f:Nat->V) (n:Nat) (ok:Nat->Prop) (bad:Nat->T) (fin:T)
  (hs:∀ i,i<n->(ok i/\∀ g,step g (f i)=g (f (i+1)))\/(¬ ok i/\∀ g,step g (f i)=some (bad i))) (he:∀ g,step g (f n)=some fin) :
  ∀ (d i m:Nat),i+d=n->d<m->(∀ j,j<i->ok j)->((∀ i,i<n->ok i)/\lp step m (f i)=some fin)\/∃ j,j<n/\¬ ok j/\lp step m (f i)=some (bad j):=by
 intro d
 induction d with
 | zero =>
  intro i m hi hm hok;obtain⟨m,rfl⟩:∃ k,m=k+1:=⟨m-1,by omega⟩;have:i=n:=by omega
  subst this;exact .inl ⟨hok,he _⟩
 | succ d ih =>
  intro i m hi hm hok;obtain⟨m,rfl⟩:∃ k,m=k+1:=⟨m-1,by omega⟩;rcases hs i (by omega) with ⟨h1,h2⟩ | ⟨h1,h2⟩
  · have := ih (i + 1) m (by omega) (by omega) (fun j hj => by
     by_cases e:j=i
     · subst e;exact h1
     · exact hok j (by omega))
    have e:lp step (m+1) (f i)=lp step m (f (i+1)):=h2 _;rw[e];exact this
  · exact .inr ⟨i,by omega,h1,h2 _⟩
theorem qq3 {V T:Type} {step:(V->Option T)->V->Option T} (f:Nat->V) (n:Nat) (ok:Nat->Prop) (bad:Nat->T) (fin:T) (hn:n<18446744073709551616)
  (hs:∀ i,i<n->(ok i/\∀ g,step g (f i)=g (f (i+1)))\/(¬ ok i/\∀ g,step g (f i)=some (bad i))) (he:∀ g,step g (f n)=some fin) :
  ((∀ i,i<n->ok i)/\lp step K0 (f 0)=some fin)\/∃ i,i<n/\¬ ok i/\lp step K0 (f 0)=some (bad i) :=
 qEV f n ok bad fin hs he n 0 K0 (by omega) hn (fun j h=>by omega)
abbrev qi9 (n:NODE):Bool:=n.1
abbrev qcP (n:NODE):Int:=n.2.1
abbrev nCut (n:NODE):RAT:=n.2.2.1
abbrev nL (n:NODE):Int:=n.2.2.2.1
abbrev nR (n:NODE):Int:=n.2.2.2.2.1
abbrev qGW (n:NODE):Bool:=n.2.2.2.2.2.1
abbrev nVal (n:NODE):RAT:=n.2.2.2.2.2.2.1
abbrev nCov (n:NODE):RAT:=n.2.2.2.2.2.2.2
def NSz (n:NODE) (k:Nat):Prop:=SzR (nCut n) k/\SzR (nVal n) k/\SzR (nCov n) k
def TSz (t:List NODE) (k:Nat):Prop:=∀ n∈t,NSz n k
def qiX (t:List NODE) (f:Int):Prop:=∀ i (h:i<t.length),qi9 t[i]=false->0<=qcP t[i]/\qcP t[i]<f/\1<=nL t[i]/\nL t[i]<t.length/\1<=nR t[i]/\nR t[i]<t.length
def qhC (t:List NODE):Prop:=∀ i (h:i<t.length),0<rv (nCov t[i])
def cov (t:List NODE) (i:Nat):Rat:=rv (nCov ((t[i]?).getD (false,0,((false,[]),[]),0,0,false,((false,[]),[]),((false,[]),[]))))
theorem qie {t:List NODE} {i:Nat} (h:i<t.length):cov t i=rv (nCov t[i]):=by simp [cov,h]
def qGj (t:List NODE):Prop:=∀ i (h:i<t.length),qi9 t[i]=false->rv (nCov t[i])=cov t (nL t[i]).toNat+cov t (nR t[i]).toNat
theorem qAH {t:List NODE} {f:Int} (hl:t.length<4294967296):∃ a e,qgP t f=some (a,e)/\(e=0 ↔ qiX t f):=by
 rcases qq3 (step:=qbx) (fun i=>((t,f,t,((t.length:Nat):Int),(i:Int),()),())) t.length
   (fun i=>∀ h:i<t.length,qi9 t[i]=false->0<=qcP t[i]/\qcP t[i]<f/\1<=nL t[i]/\nL t[i]<t.length/\1<=nR t[i]/\nR t[i]<t.length)
   (fun i => .inr (((i : Int), 8, ()), ())) (.inl ((), ())) (by omega) (by
    intro i hi;have d0:(i:Int)<((t.length:Nat):Int):=by omega
    have d1:(0:Int)<=(i:Int):=by omega
    have head:∀ g,qbx g ((t,f,t,((t.length:Nat):Int),(i:Int),()),())=bif qi9 t[i] then (g ((t,f,t,((t.length:Nat):Int),((i+1:Nat):Int),()),())) else (bif (decide (qcP t[i]<0)) then (some (.inr (((i:Int),8,()),()))) else (bif (decide (qcP t[i]>=f)) then (some (.inr (((i:Int),8,()),()))) else (bif (decide (nL t[i]<1)) then (some (.inr (((i:Int),8,()),()))) else (bif (decide (nL t[i]>=(t.length:Int))) then (some (.inr (((i:Int),8,()),()))) else (bif (decide (nR t[i]<1)) then (some (.inr (((i:Int),8,()),()))) else (bif (decide (nR t[i]>=(t.length:Int))) then (some (.inr (((i:Int),8,()),()))) else (g ((t,f,t,((t.length:Nat):Int),((i+1:Nat):Int),()),())))))))):=by
     intro g;rw[qbx,cnd d0,cnd d1,tN0,gE0 hi,bS0,qaV (by omega)];rfl
    cases hleaf:qi9 t[i] with
    | true=>exact .inl ⟨fun h h2=>absurd h2 (by rw[hleaf];decide),fun g=>by rw[head,hleaf];rfl⟩
    | false =>
     by_cases h:0<=qcP t[i]/\qcP t[i]<f/\1<=nL t[i]/\nL t[i]<t.length/\1<=nR t[i]/\nR t[i]<t.length
     · refine .inl ⟨fun _ _ => h, fun g => ?_⟩;obtain⟨h1,h2,h3,h4,h5,h6⟩:=h;rw[head,hleaf,cond_false,cnd' (by omega),cnd' (by omega),cnd' (by omega),cnd' (by omega),cnd' (by omega),cnd' (by omega)]
     · refine .inr ⟨fun h' => h (h' hi hleaf), fun g => ?_⟩;rw[head,hleaf,cond_false];by_cases h1:qcP t[i]<0
       · rw[cnd h1]
       by_cases h2:qcP t[i]>=f
       · rw[cnd' h1,cnd h2]
       by_cases h3:nL t[i]<1
       · rw[cnd' h1,cnd' h2,cnd h3]
       by_cases h4:nL t[i]>=(t.length:Int)
       · rw[cnd' h1,cnd' h2,cnd' h3,cnd h4]
       by_cases h5:nR t[i]<1
       · rw[cnd' h1,cnd' h2,cnd' h3,cnd' h4,cnd h5]
       by_cases h6:nR t[i]>=(t.length:Int)
       · rw[cnd' h1,cnd' h2,cnd' h3,cnd' h4,cnd' h5,cnd h6]
       exfalso;apply h;omega) (by
    intro g;rw[qbx,cnd' (by omega)]) with ⟨h,hlp⟩ | ⟨i,hi,h,hlp⟩
 · have hlp : lp qbx K0 ((t, f, t, ((t.length : Nat) : Int), 0, ()), ()) = some (.inl ((), ())) := hlp;refine⟨0,0,by rw[qgP,hlp];rfl,?_⟩;exact⟨fun _ i hi=>h i hi hi,fun _=>rfl⟩
 · have hlp : lp qbx K0 ((t, f, t, ((t.length : Nat) : Int), 0, ()), ()) = some (.inr (((i : Int), 8, ()), ())) := hlp;refine⟨(i:Int),8,by rw[qgP,hlp];rfl,?_⟩;exact⟨fun e=>(by cases e),fun hp=>absurd (fun hh=>hp i hh) h⟩
theorem qBO {t:List NODE} (hl:t.length<4294967296) {k:Nat} (hs:TSz t k) (hk:k<1099511627776):∃ a e,qgQ t=some (a,e)/\(e=0 ↔ qhC t):=by
 rcases qq3 (step:=qby) (fun i=>((t,((t.length:Nat):Int),(i:Int),()),())) t.length (fun i=>∀ h:i<t.length,0<rv (nCov t[i]))
   (fun i => .inr (((i : Int), 12, ()), ())) (.inl ((), ())) (by omega) (by
    intro i hi;have d0:(i:Int)<((t.length:Nat):Int):=by omega
    have d1:(0:Int)<=(i:Int):=by omega
    have hsg:=qo8 ((hs _ (gM0 hi)).2.2.sm hk);have head:∀ g,qby g ((t,((t.length:Nat):Int),(i:Int),()),())=bif decide (rcmp (rv (nCov t[i])) 0<=0) then some (.inr (((i:Int),12,()),())) else g ((t,((t.length:Nat):Int),((i+1:Nat):Int),()),()):=by
      intro g;rw[qby,cnd d0,cnd d1,tN0,gE0 hi,bS0,hsg,bS0,qaV (by omega)];rfl
    by_cases h:0<rv (nCov t[i])
    · exact .inl ⟨fun _=>h,fun g=>by rw[head,cnd' (fun h'=>Rat.not_le.2 h (qAG.1 h'))]⟩
    · exact .inr ⟨fun h'=>h (h' hi),fun g=>by rw[head,cnd (qAG.2 (Rat.not_lt.1 h))]⟩) (by
    intro g;rw[qby,cnd' (by omega)]) with ⟨h,hlp⟩ | ⟨i,hi,h,hlp⟩
 · have hlp : lp qby K0 ((t, ((t.length : Nat) : Int), 0, ()), ()) = some (.inl ((), ())) := hlp;exact⟨0,0,by rw[qgQ,hlp];rfl,fun _ i hi=>h i hi hi,fun _=>rfl⟩
 · have hlp : lp qby K0 ((t, ((t.length : Nat) : Int), 0, ()), ()) = some (.inr (((i : Int), 12, ()), ())) := hlp;exact⟨(i:Int),12,by rw[qgQ,hlp];rfl,fun e=>(by cases e),fun hp=>absurd (fun hh=>hp i hh) h⟩
theorem qEr {t:List NODE} {f:Int} (hl:t.length<4294967296) {k:Nat} (hs:TSz t k) (hk:k<500000000000) (hr:qiX t f):∃ a e,qjk t=some (a,e)/\(e=0 ↔ qGj t):=by
 rcases qq3 (step:=qbV) (fun i=>((t,t,((t.length:Nat):Int),(i:Int),()),())) t.length (fun i=>∀ h:i<t.length,qi9 t[i]=false->rv (nCov t[i])=cov t (nL t[i]).toNat+cov t (nR t[i]).toNat)
   (fun i => .inr (((i : Int), 13, ()), ())) (.inl ((), ())) (by omega) (by
    intro i hi;have d0:(i:Int)<((t.length:Nat):Int):=by omega
    have d1:(0:Int)<=(i:Int):=by omega
    cases hleaf:qi9 t[i] with
    | true =>
     refine .inl ⟨fun h h2=>absurd h2 (by rw[hleaf];decide),fun g=>?_⟩;rw[qbV,cnd d0,cnd d1,tN0,gE0 hi,bS0,show t[i].1=true from hleaf,qaV (by omega)];rfl
    | false =>
     obtain⟨r1,r2,r3,r4,r5,r6⟩:=hr i hi hleaf;have l1:(nL t[i]).toNat<t.length:=by omega
     have l2:(nR t[i]).toNat<t.length:=by omega
     have c1:(0:Int)<=nL t[i]:=by omega
     have c2:(0:Int)<=nR t[i]:=by omega
     have z1:=(hs _ (gM0 l1)).2.2;have z2:=(hs _ (gM0 l2)).2.2;have z0:=(hs _ (gM0 hi)).2.2;have hadd:=qbN (z1.sm (by omega)) (z2.sm (by omega));rw[<- qie l1,<- qie l2] at hadd;have zz:SzQ (cov t (nL t[i]).toNat+cov t (nR t[i]).toNat) (max k 1+max k 1+1):=by
       rw[qie l1,qie l2];have y1:SzR (nCov t[(nL t[i]).toNat]) (max k 1):=⟨jk z1.1 (jD _ _),jk z1.2 (jD _ _)⟩;have y2:SzR (nCov t[(nR t[i]).toNat]) (max k 1):=⟨jk z2.1 (jD _ _),jk z2.2 (jD _ _)⟩;exact(y1.szQ (by omega)).add (y2.szQ (by omega))
     have hsame:=qt7 (z0.sm (by omega)) (zz.sm (by omega));rw[qae] at hsame;have head:∀ g,qbV g ((t,t,((t.length:Nat):Int),(i:Int),()),())=bif (!decide (rv (nCov t[i])=cov t (nL t[i]).toNat+cov t (nR t[i]).toNat)) then some (.inr (((i:Int),13,()),())) else g ((t,t,((t.length:Nat):Int),((i+1:Nat):Int),()),()):=by
       intro g;rw[qbV,cnd d0,cnd d1,tN0,gE0 hi,bS0,show t[i].1=false from hleaf,jv,cond_true,cnd c1,gE0 l1,bS0,cnd c2,gE0 l2,bS0,hadd,bS0,hsame,bS0,qaV (by omega)];rfl
     by_cases h:rv (nCov t[i])=cov t (nL t[i]).toNat+cov t (nR t[i]).toNat
     · exact .inl ⟨fun _ _=>h,fun g=>by rw[head,decide_eq_true h];rfl⟩
     · exact .inr ⟨fun h'=>h (h' hi hleaf),fun g=>by rw[head,decide_eq_false h];rfl⟩) (by
    intro g;rw[qbV,cnd' (by omega)]) with ⟨h,hlp⟩ | ⟨i,hi,h,hlp⟩
 · have hlp : lp qbV K0 ((t, t, ((t.length : Nat) : Int), 0, ()), ()) = some (.inl ((), ())) := hlp;exact⟨0,0,by rw[qjk,hlp];rfl,fun _ i hi=>h i hi hi,fun _=>rfl⟩
 · have hlp : lp qbV K0 ((t, t, ((t.length : Nat) : Int), 0, ()), ()) = some (.inr (((i : Int), 13, ()), ())) := hlp;exact⟨(i:Int),13,by rw[qjk,hlp];rfl,fun e=>(by cases e),fun hp=>absurd (fun hh=>hp i hh) h⟩
def kids (t:List NODE) (i:Nat):List Nat :=
 match t[i]? with
 | some n=>if qi9 n then [] else [(nL n).toNat,(nR n).toNat]
 | none=>[]
theorem qsm {t:List NODE} {i:Nat} (h:i<t.length) (hl:qi9 t[i]=true):kids t i=[]:=by
 have hl':t[i].1=true:=hl;simp [kids,h,hl']
theorem qh7 {t:List NODE} {i:Nat} (h:i<t.length) (hl:qi9 t[i]=false):kids t i=[(nL t[i]).toNat,(nR t[i]).toNat]:=by
 have hl':t[i].1=false:=hl;simp [kids,h,hl']
def cnt (t:List NODE) (i j:Nat):Nat:=((j9 i).flatMap (kids t)).count j
theorem qyE (t:List NODE) (j:Nat):cnt t 0 j=0:=by simp [cnt]
theorem qpL (t:List NODE) (i j:Nat):cnt t (i+1) j=cnt t i j+(kids t i).count j:=by
 simp [cnt,jw,jX]
theorem qEc (t:List NODE) (i j:Nat):cnt t i j<=2*i:=by
 induction i with
 | zero=>simp [qyE]
 | succ i ih =>
  rw[qpL];have h1:(kids t i).count j<=(kids t i).length:=List.count_le_length;have h2:(kids t i).length<=2:=by
   unfold kids;split
   · split<;>simp
   · simp
  omega
def qyL (t:List NODE):Prop:=∃ rk:Nat->Nat,∀ i,i<t.length->rk i<=t.length/\∀ c∈kids t i,rk c<rk i
def qtH (t:List NODE):Prop:=(∀ j,0<j->j<t.length->cnt t t.length j=1)/\qyL t
theorem qmq:∀ {n:Nat} {V:List Nat},V.Nodup->(∀ x∈V,x<n)->V.length<=n
 | 0,V,_,h=>by
  cases V with
  | nil=>simp
  | cons x V=>have:=h x jO;omega
 | n+1,V,hnd,h=>by
  by_cases hm:n∈V
  · have h1 : (V.erase n).Nodup := hnd.sublist List.erase_sublist;have h2:∀ x∈V.erase n,x<n:=by
     intro x hx;have:=(jE.mem_erase_iff hnd).1 hx;have:=h x this.2;omega
    have h3:=qmq h1 h2;have h4:=List.length_erase_of_mem hm;omega
  · have := qmq hnd (n := n) (fun x hx => by
     have:=h x hx;have:x≠n:=fun e=>hm (e ▸ hx)
     omega)
    omega
section
variable {t:List NODE} {f:Int}
theorem qus (hr:qiX t f) {i c:Nat} (hi:i<t.length) (hc:c∈kids t i):0<c/\c<t.length:=by
 cases hl:qi9 t[i] with
 | true=>rw[qsm hi hl] at hc;cases hc
 | false =>
  obtain⟨_,_,h1,h2,h3,h4⟩:=hr i hi hl;rw[qh7 hi hl] at hc;simp at hc;rcases hc with rfl | rfl<;>omega
theorem qwq (t:List NODE) (j:Nat) {a n:Nat} (ha:a<n):(kids t a).count j<=cnt t n j:=by
 induction n with
 | zero=>omega
 | succ n ih =>
  rw[qpL];by_cases e:a=n
  · subst e;omega
  · have:=ih (by omega);omega
theorem qBQ (t:List NODE) (j:Nat) {a b n:Nat} (hab:a<b) (hb:b<n):(kids t a).count j+(kids t b).count j<=cnt t n j:=by
 induction n with
 | zero=>omega
 | succ n ih =>
  rw[qpL];by_cases e:b=n
  · subst e;have:=qwq t j hab;omega
  · have:=ih (by omega);omega
theorem qzc (hc:∀ j,0<j->j<t.length->cnt t t.length j=1) (hr:qiX t f) {a b j:Nat} (ha:a<t.length) (hb:b<t.length) (h1:j∈kids t a) (h2:j∈kids t b):a=b:=by
 obtain⟨j0,jl⟩:=qus hr ha h1;have c1:=jF.2 h1;have c2:=jF.2 h2;have:=hc j j0 jl;rcases Nat.lt_trichotomy a b with h | h | h
 · have:=qBQ t j h hb;omega
 · exact h
 · have:=qBQ t j h ha;omega
theorem qzI (hc:∀ j,0<j->j<t.length->cnt t t.length j=1) (hr:qiX t f) {a:Nat} (ha:a<t.length):(kids t a).Nodup:=by
 rw[List.nodup_iff_count];intro j;by_cases hj:j∈kids t a
 · obtain ⟨j0, jl⟩ := qus hr ha hj;have h1:=qwq t j ha;have h2:=hc j j0 jl;exact jk h1 (Nat.le_of_eq h2)
 · rw[jY hj];omega
theorem qkZ (hc:∀ j,0<j->j<t.length->cnt t t.length j=1) {j:Nat} (h0:0<j) (hj:j<t.length):∃ p,p<t.length/\j∈kids t p:=by
 have h1:=hc j h0 hj;have h2:j∈(j9 t.length).flatMap (kids t):=jF.1 (by rw[<- cnt,h1];omega);obtain⟨p,hp,hm⟩:=jZ.1 h2;exact⟨p,by simpa using hp,hm⟩
end
structure Srch (t:List NODE) (V S:List Nat):Prop where
 nd:(V++S).Nodup
 lt:∀ x∈V++S,x<t.length
 par:∀ c∈V++S,c≠0->∃ p∈V,c∈kids t p
 kid:∀ p∈V,∀ c∈kids t p,c∈V++S
 root:0∈V++S
 ord:V.Pairwise fun a b=>a ∉ kids t b
 self:∀ x∈V,x ∉ kids t x
theorem Srch.init {t:List NODE} (h:0<t.length):Srch t [] [0] where
 nd:=by simp
 lt:=by simpa using h
 par:=by simp
 kid:=by simp
 root:=by simp
 ord:=List.Pairwise.nil
 self:=by simp
theorem Srch.step {t:List NODE} {f:Int} (hc:∀ j,0<j->j<t.length->cnt t t.length j=1) (hr:qiX t f) {V S:List Nat} {x:Nat} (h:Srch t V (S++[x])):Srch t (V++[x]) (S++kids t x):=by
 have hxlt:x<t.length:=h.lt x (by simp);have hnd:=h.nd;rw[<- kp,jq] at hnd;obtain⟨n1,n2,n3⟩:=hnd;have hxVS:x ∉ V++S:=fun hx=>n3 x hx x (by simp) rfl
 have hnew:∀ c∈kids t x,c ∉ V++(S++[x]):=by
   intro c hcx hmem;obtain⟨c0,cl⟩:=qus hr hxlt hcx;obtain⟨p,hp,hcp⟩:=h.par c hmem (by omega);have:=qzc hc hr (h.lt p (jx _ hp)) hxlt hcp hcx;subst this;exact hxVS (jx _ hp)
 have hperm:((V++[x])++(S++kids t x)).Perm ((V++(S++[x]))++kids t x):=by
   have e1:(V++[x])++(S++kids t x)=V++([x]++S)++kids t x:=by simp
   have e2:(V++(S++[x]))++kids t x=V++(S++[x])++kids t x:=rfl;rw[e1,e2];exact jG.append_right _ (jG.append_left _ jP)
 have hmem:∀ y,y∈(V++[x])++(S++kids t x) ↔ y∈V++(S++[x])\/y∈kids t x:=by
   intro y;rw[hperm.mem_iff,jm]
 refine⟨?_,?_,?_,?_,?_,?_,?_⟩
 · rw [hperm.nodup_iff, jq];exact⟨h.nd,qzI hc hr hxlt,fun a ha b hb e=>hnew b hb (e ▸ ha)⟩
 · intro y hy;rcases(hmem y).1 hy with hy | hy
   · exact h.lt y hy
   · exact(qus hr hxlt hy).2
 · intro c hcm hc0;rcases(hmem c).1 hcm with hy | hy
   · obtain ⟨p, hp, hcp⟩ := h.par c hy hc0;exact⟨p,jx _ hp,hcp⟩
   · exact⟨x,by simp,hy⟩
 · intro p hp c hcp;rw[hmem];rcases jm.1 hp with hp | hp
   · exact .inl (h.kid p hp c hcp)
   · simp at hp;subst hp;exact .inr hcp
 · rw[hmem];exact .inl h.root
 · rw [List.pairwise_append];refine⟨h.ord,by simp,fun a ha b hb=>?_⟩;simp at hb;subst hb;intro hak;exact hnew a hak (jx _ ha)
 · intro y hy;rcases jm.1 hy with hy | hy
   · exact h.self y hy
   · simp at hy; subst hy;intro hk;exact hnew y hk (by simp)
theorem Srch.ranked {t:List NODE} {V:List Nat} (h:Srch t V []) (hall:∀ i,i<t.length->i∈V):qyL t:=by
 have hnd:V.Nodup:=by simpa using h.nd
 have hlen:V.length<=t.length:=qmq hnd (fun x hx=>h.lt x (by simpa using hx));refine⟨fun i=>V.length-V.idxOf i,fun i hi=>⟨by show V.length-V.idxOf i<=t.length;omega,fun c hc=>?_⟩⟩;have hiV:=hall i hi;have hcV:c∈V:=by simpa using h.kid i hiV c hc
 have h1:V.idxOf i<V.length:=ky.2 hiV;have h2:V.idxOf c<V.length:=ky.2 hcV;have g1:V[V.idxOf i]=i:=kz h1;have g2:V[V.idxOf c]=c:=kz h2;have hne:¬ V.idxOf c<=V.idxOf i:=by
  intro hle;by_cases e:V.idxOf c=V.idxOf i
  · have : c = i := by rw [<- g1, <- g2]; simp [e]
    subst this;exact h.self c hiV hc
  · have := List.pairwise_iff_getElem.1 h.ord _ _ h2 h1 (by omega);rw[g1,g2] at this;exact this hc
 show V.length-V.idxOf c<V.length-V.idxOf i;omega
theorem Srch.all {t:List NODE} {V:List Nat} (h:Srch t V []) (hc:∀ j,0<j->j<t.length->cnt t t.length j=1) (hrk:qyL t):∀ i,i<t.length->i∈V:=by
 obtain⟨rk,hrk⟩:=hrk;have key:∀ (d i:Nat),i<t.length->t.length-rk i<=d->i∈V:=by
  intro d
  induction d with
  | zero =>
   intro i hi hd;by_cases h0:i=0
   · subst h0;simpa using h.root
   · obtain ⟨p, hp, hm⟩ := qkZ hc (by omega) hi;have h1:=(hrk p hp).1;have h2:=(hrk p hp).2 i hm;omega
  | succ d ih =>
   intro i hi hd;by_cases h0:i=0
   · subst h0;simpa using h.root
   · obtain ⟨p, hp, hm⟩ := qkZ hc (by omega) hi;have h1:=(hrk p hp).1;have h2:=(hrk p hp).2 i hm;have:=ih p hp (by omega);simpa using h.kid p this i hm
 exact fun i hi=>key _ i hi (ja _)
def cntL (t:List NODE) (i:Nat):List Int:=(j9 t.length).map fun j=>((cnt t i j:Nat):Int)
@[simp] theorem qrr (t:List NODE) (i:Nat):(cntL t i).length=t.length:=by simp [cntL]
theorem qlM {t:List NODE} {i j:Nat} (h:j<t.length):(cntL t i)[j]?=some ((cnt t i j:Nat):Int):=by simp [cntL,h]
theorem qBR {t:List NODE} {i a b:Nat} (ha:a<t.length) (hb:b<t.length) (hk:kids t i=[a,b]) :
   ((cntL t i).set a (((cnt t i a:Nat):Int)+1))[b]?=some ((cnt t i b+(if a=b then 1 else 0):Nat):Int) /\
   ((cntL t i).set a (((cnt t i a:Nat):Int)+1)).set b (((cnt t i b+(if a=b then 1 else 0):Nat):Int)+1)=cntL t (i+1):=by
 constructor
 · rw [jH];by_cases e:a=b
   · subst e;simp [ha]
   · rw[if_neg e,qlM hb];simp [e]
 · apply k7;intro j;by_cases hj:j<t.length
   · rw [qlM hj, qpL, hk, jH, jH];by_cases e1:b=j
     · subst e1;by_cases e2:a=b
       · subst e2;simp [ha];omega
       · simp [hb,e2,k8]
     · by_cases e2 : a = j
       · subst e2;simp [ha,e1,k8]
       · rw[if_neg e1,if_neg e2,qlM hj];simp [k8,e1,e2]
   · rw[jr (by simp;omega),jr (by simp;omega)]
theorem qwK {t:List NODE} {f:Int} (hl:t.length<4294967296) (hr:qiX t f) :
  lp qcj K0 ((t,jb t.length 0,t,((t.length:Nat):Int),0,()),())=some ((t,cntL t t.length,()),()):=by
 have e0:cntL t 0=jb t.length 0:=by simp [cntL,qyE,kA]
 have:=qfM (step:=qcj) (fun i=>((t,cntL t i,t,((t.length:Nat):Int),(i:Int),()),())) t.length (r:=((t,cntL t t.length,()),())) (by omega) (by
  intro g i hi;have d0:(i:Int)<((t.length:Nat):Int):=by omega
  have d1:(0:Int)<=(i:Int):=by omega
  cases hleaf:qi9 t[i] with
  | true =>
   have:cntL t (i+1)=cntL t i:=by
    unfold cntL;congr 1;funext j;rw[qpL,qsm hi hleaf];simp
   rw[qcj,cnd d0,cnd d1,tN0,gE0 hi,bS0,show t[i].1=true from hleaf,qaV (by omega),this];rfl
  | false =>
   obtain⟨r1,r2,r3,r4,r5,r6⟩:=hr i hi hleaf;have hk:=qh7 hi hleaf;have l1:(nL t[i]).toNat<t.length:=by omega
   have l2:(nR t[i]).toNat<t.length:=by omega
   have c1:(0:Int)<=nL t[i]:=by omega
   have c2:(0:Int)<=nR t[i]:=by omega
   have c3:nL t[i]<((cntL t i).length:Int):=by rw[qrr];omega
   obtain⟨s1,s2⟩:=qBR l1 l2 hk;have b1:=qEc t i (nL t[i]).toNat;have b2:=qEc t i (nR t[i]).toNat;have e1:iadd .i64 ((cnt t i (nL t[i]).toNat:Nat):Int) 1=((cnt t i (nL t[i]).toNat:Nat):Int)+1:=qaV (by omega);have e2:iadd .i64 ((cnt t i (nR t[i]).toNat+(if (nL t[i]).toNat=(nR t[i]).toNat then 1 else 0):Nat):Int) 1=((cnt t i (nR t[i]).toNat+(if (nL t[i]).toNat=(nR t[i]).toNat then 1 else 0):Nat):Int)+1:=qaV (by split<;>omega);have c4:nR t[i]<(((cntL t i).set (nL t[i]).toNat (((cnt t i (nL t[i]).toNat:Nat):Int)+1)).length:Int):=by rw[List.length_set,qrr];omega
   rw[qcj,cnd d0,cnd d1,tN0,gE0 hi,bS0,show t[i].1=false from hleaf,jv,cond_true,cnd2 c1 c3,qlM l1,bS0,cnd2 c1 c3,bS0,e1,cnd2 c2 c4,s1,bS0,cnd2 c2 c4,bS0,e2,s2,qaV (by omega)];rfl) (by
  intro g;rw[qcj,cnd' (by omega)])
 rw[<- e0];exact this
theorem qu4 {t:List NODE} {f:Int} (hl:t.length<4294967296) (h0:0<t.length) (hr:qiX t f) (hc:∀ j,0<j->j<t.length->cnt t t.length j=1) :
  ∃ V,Srch t V []/\lp qck K0 ((t,jb t.length false,[0],()),())=some ((qgm t.length V,()),()):=by
 obtain⟨r,⟨V,hV,rfl⟩,hlp⟩:=qmI (step:=qck) (fun s=>∃ V S:List Nat,Srch t V S/\s=((t,qgm t.length V,ints S,()),())) (fun s=>t.length+1-(s.1.2.1.filter id).length)
  (fun r=>∃ V,Srch t V []/\r=((qgm t.length V,()),())) (v:=((t,jb t.length false,[0],()),()))
  ⟨[], [0], Srch.init h0, by simp [qgm, ints, kA]⟩ (by simp; omega) (by
   rintro s ⟨V,S,hS,rfl⟩;rcases List.eq_nil_or_concat S with rfl | ⟨S',x,hSx⟩
   · exact .inl ⟨_,⟨V,hS,rfl⟩,fun g=>by rw[qck,cnd' (by simp [ints])]⟩
   · rw [List.concat_eq_append] at hSx;subst hSx;have hnd:=hS.nd;have hVl:(V++(S'++[x])).length<=t.length:=qmq hnd hS.lt;have hSl:S'.length+1<=t.length:=by simp at hVl;omega
     have hxlt:x<t.length:=hS.lt x (by simp);have hst:=Srch.step hc hr hS;have hxV:x ∉ V:=by
       intro hx;rw[jq] at hnd;exact hnd.2.2 x hx x (by simp) rfl
     have hcount:∀ U:List Nat,U.Nodup->(∀ y∈U,y<t.length)->((qgm t.length U).filter id).length=U.length:=by
       intro U hU hlt;have e1:((qgm t.length U).filter id).length=((j9 t.length).filter fun j=>decide (j∈U)).length:=by
         unfold qgm;rw[List.filter_map,k9];rfl
       rw[e1];refine jG.length_eq ?_;rw[List.perm_iff_count];intro a;have n1:((j9 t.length).filter fun j=>decide (j∈U)).Nodup:=jE.sublist kB ka;have m1:a∈((j9 t.length).filter fun j=>decide (j∈U)) ↔ a∈U:=by
         simp;exact hlt a
       by_cases ha:a∈U
       · rw[jE.count hU,if_pos ha,jE.count n1,if_pos (m1.2 ha)]
       · rw[jY ha,jY (fun h=>ha (m1.1 h))]
     have hVnd:V.Nodup:=(jq.1 hnd).1;have hm1:=hcount V hVnd (fun y hy=>hS.lt y (jx _ hy));have hVx:(V++[x]).Nodup:=(jq.1 hst.nd).1;have hm2:=hcount (V++[x]) hVx (fun y hy=>hst.lt y (jx _ hy));refine .inr ⟨_,⟨V++[x],S'++kids t x,hst,rfl⟩,?_,fun g=>?_⟩
     · show t.length + 1 - ((qgm t.length (V ++ [x])).filter id).length < t.length + 1 - ((qgm t.length V).filter id).length;rw[hm1,hm2];simp at hVl ⊢;omega
     · have hlen : (ints (S' ++ [x])).length = S'.length + 1 := by simp
       have e1:isub .i64 ((S'.length+1:Nat):Int) 1=((S'.length:Nat):Int):=by rw[qci]<;>omega
       have c0:((S'.length+1:Nat):Int)>0:=by omega
       have c1:(0:Int)<=((S'.length:Nat):Int):=by omega
       have c2:((S'.length:Nat):Int)<((S'.length+1:Nat):Int):=by omega
       have g1:(ints (S'++[x]))[S'.length]?=some ((x:Nat):Int):=by simp [ints]
       have c3:(decide ((0:Int)<=((S'.length:Nat):Int))&&decide (((S'.length:Nat):Int)<=((S'.length:Nat):Int))&&decide (((S'.length:Nat):Int)<=((S'.length+1:Nat):Int)))=true:=by
         rw[decide_eq_true c1,decide_eq_true (Int.le_refl _),decide_eq_true (Int.le_of_lt c2)];rfl
       have c4:(0:Int)<=((x:Nat):Int):=by omega
       have c5:((x:Nat):Int)<((qgm t.length V).length:Int):=by simp;omega
       have e2:(((S'.length:Nat):Int)-0).toNat=S'.length:=by omega
       have e3:(ints (S'++[x])).take S'.length=ints S':=by simp [ints]
       rw[qck,hlen,cnd c0,e1,cnd2 c1 c2,tN0,g1,bS0,c3,cond_true,cnd2 c4 c5,tN0,qkr hxlt,bS0,cnd c4,gE0 hxlt,bS0,qyS hxlt,e2,e3];cases hleaf:qi9 t[x] with
       | true =>
         rw[show t[x].1=true from hleaf,qsm hxlt hleaf,List.append_nil];rfl
       | false =>
         obtain⟨r1,r2,r3,r4,r5,r6⟩:=hr x hxlt hleaf;have q1:(((nL t[x]).toNat:Nat):Int)=nL t[x]:=by omega
         have q2:(((nR t[x]).toNat:Nat):Int)=nR t[x]:=by omega
         have e4:ints (S'++kids t x)=ints S'++[nL t[x],nR t[x]]:=by
          rw[qh7 hxlt hleaf];simp only[ints,js,je,kC,q1,q2]
         have hb8:((ints S').length+2)*8<=140737488355328:=by rw[qDb];omega
         rw[show t[x].1=false from hleaf,blt hb8,cond_true,jv,cond_true,e4])
 exact⟨V,hV,hlp⟩
theorem qCx {t:List NODE} {f:Int} (hl:t.length<4294967296) (h0:0<t.length) (hr:qiX t f):∃ a e,qjB t=some (a,e)/\(e=0 ↔ qtH t):=by
 have hcount:=qwK hl hr;have gd:(decide ((t.length:Int)=(t.length:Int))&&decide (0<=(t.length:Int))&&decide (((8:Nat):Int)*(t.length:Int)<=281474976710656)&&decide ((t.length:Int)<=9223372036854775807))=true:=by
   have h1:(0:Int)<=(t.length:Int):=by omega
   have h2:((8:Nat):Int)*(t.length:Int)<=281474976710656:=by omega
   have h3:(t.length:Int)<=9223372036854775807:=by omega
   rw[decide_eq_true h1,decide_eq_true h2,decide_eq_true h3,decide_eq_true rfl];rfl
 have gd1:(decide ((t.length:Int)=(t.length:Int))&&decide (0<=(t.length:Int))&&decide (((1:Nat):Int)*(t.length:Int)<=281474976710656)&&decide ((t.length:Int)<=9223372036854775807))=true:=by
   have h1:(0:Int)<=(t.length:Int):=by omega
   have h2:((1:Nat):Int)*(t.length:Int)<=281474976710656:=by omega
   have h3:(t.length:Int)<=9223372036854775807:=by omega
   rw[decide_eq_true h1,decide_eq_true h2,decide_eq_true h3,decide_eq_true rfl];rfl
 rw[qjB,gd,cond_true,tN0,hcount,bS0,qrr];rcases qq3 (step:=qbd) (fun i=>((t,cntL t t.length,((t.length:Nat):Int),(i:Int),()),())) t.length (fun i=>i=0\/cnt t t.length i=1) (fun i=>.inr (((i:Int),11,()),())) (.inl ((t,()),())) (by omega) (by
     intro i hi;have d0:(i:Int)<((t.length:Nat):Int):=by omega
     have d1:(0:Int)<=(i:Int):=by omega
     have d2:(i:Int)<((cntL t t.length).length:Int):=by rw[qrr];omega
     by_cases hi0:i=0
     · refine .inl ⟨.inl hi0, fun g => ?_⟩;rw[qbd,cnd d0,cnd2 d1 d2,tN0,qlM hi,bS0,cnd' (by omega),qaV (by omega)];rfl
     · by_cases h1 : cnt t t.length i = 1
       · refine .inl ⟨.inr h1, fun g => ?_⟩;rw[qbd,cnd d0,cnd2 d1 d2,tN0,qlM hi,bS0,cnd (by omega),decide_eq_true (by omega),qaV (by omega)];rfl
       · refine .inr ⟨fun h => by rcases h with h | h <;> contradiction, fun g => ?_⟩;rw[qbd,cnd d0,cnd2 d1 d2,tN0,qlM hi,bS0,cnd (by omega),decide_eq_false (by omega)];rfl) (by
     intro g;rw[qbd,cnd' (by omega)]) with ⟨h,hlp⟩ | ⟨i,hi,h,hlp⟩
 · have hlp : lp qbd K0 ((t, cntL t t.length, ((t.length : Nat) : Int), 0, ()), ()) = some (.inl ((t, ()), ())) := hlp;have hc:∀ j,0<j->j<t.length->cnt t t.length j=1:=fun j h1 h2=>by
     rcases h j h2 with h3 | h3
     · omega
     · exact h3
   obtain⟨V,hV,hlp2⟩:=qu4 hl h0 hr hc;rw[hlp,bS0];dsimp only;rw[gd1,cond_true,tN0,hlp2,bS0];dsimp only;rw[qth];rcases qq3 (step:=qbw) (fun i=>((qgm t.length V,((t.length:Nat):Int),(i:Int),()),())) t.length (fun i=>i∈V) (fun i=>.inr (((i:Int),11,()),())) (.inl ((),())) (by omega) (by
       intro i hi;have d0:(i:Int)<((t.length:Nat):Int):=by omega
       have d1:(0:Int)<=(i:Int):=by omega
       have d2:(i:Int)<((qgm t.length V).length:Int):=by rw[qth];omega
       by_cases hiV:i∈V
       · refine .inl ⟨hiV, fun g => ?_⟩;rw[qbw,cnd d0,cnd2 d1 d2,tN0,qkr hi,bS0,decide_eq_true hiV,qaV (by omega)];rfl
       · refine .inr ⟨hiV, fun g => ?_⟩;rw[qbw,cnd d0,cnd2 d1 d2,tN0,qkr hi,bS0,decide_eq_false hiV];rfl) (by
       intro g;rw[qbw,cnd' (by omega)]) with ⟨h2,hlp3⟩ | ⟨i,hi,h2,hlp3⟩
   · have hlp3 : lp qbw K0 ((qgm t.length V, ((t.length : Nat) : Int), 0, ()), ()) = some (.inl ((), ())) := hlp3;rw[hlp3];exact⟨0,0,rfl,fun _=>⟨hc,hV.ranked h2⟩,fun _=>rfl⟩
   · have hlp3 : lp qbw K0 ((qgm t.length V, ((t.length : Nat) : Int), 0, ()), ()) = some (.inr (((i : Int), 11, ()), ())) := hlp3;rw[hlp3];exact⟨(i:Int),11,rfl,fun e=>(by cases e),fun hp=>absurd (hV.all hc hp.2 i hi) h2⟩
 · have hlp : lp qbd K0 ((t, cntL t t.length, ((t.length : Nat) : Int), 0, ()), ()) = some (.inr (((i : Int), 11, ()), ())) := hlp;rw[hlp];refine⟨(i:Int),11,rfl,fun e=>(by cases e),fun hp=>?_⟩;exfalso;apply h;by_cases hi0:i=0
   · exact .inl hi0
   · exact .inr (hp.1 i (by omega) hi)
theorem qC0 {V T:Type} {step:(V->Option T)->V->Option T} (f:Nat->V) (n:Nat) (ok:Nat->Prop) (Q:T->Prop) (fin:T)
  (hs:∀ i,i<n->(∀ j,j<i->ok j)->(ok i/\∀ g,step g (f i)=g (f (i+1)))\/(¬ ok i/\∃ r,Q r/\∀ g,step g (f i)=some r)) (he:∀ g,step g (f n)=some fin) :
  ∀ (d i m:Nat),i+d=n->d<m->(∀ j,j<i->ok j)->((∀ i,i<n->ok i)/\lp step m (f i)=some fin)\/(¬ (∀ i,i<n->ok i)/\∃ r,Q r/\lp step m (f i)=some r):=by
 intro d
 induction d with
 | zero =>
  intro i m hi hm hok;obtain⟨m,rfl⟩:∃ k,m=k+1:=⟨m-1,by omega⟩;have:i=n:=by omega
  subst this;exact .inl ⟨hok,he _⟩
 | succ d ih =>
  intro i m hi hm hok;obtain⟨m,rfl⟩:∃ k,m=k+1:=⟨m-1,by omega⟩;rcases hs i (by omega) hok with ⟨h1,h2⟩ | ⟨h1,r,h2,h3⟩
  · have := ih (i + 1) m (by omega) (by omega) (fun j hj => by
     by_cases e:j=i
     · subst e;exact h1
     · exact hok j (by omega))
    have e:lp step (m+1) (f i)=lp step m (f (i+1)):=h2 _;rw[e];exact this
  · exact .inr ⟨fun h=>h1 (h i (by omega)),r,h2,h3 _⟩
theorem qEU {V T:Type} {step:(V->Option T)->V->Option T} (f:Nat->V) (n:Nat) (ok:Nat->Prop) (Q:T->Prop) (fin:T) (hn:n<18446744073709551616)
  (hs:∀ i,i<n->(∀ j,j<i->ok j)->(ok i/\∀ g,step g (f i)=g (f (i+1)))\/(¬ ok i/\∃ r,Q r/\∀ g,step g (f i)=some r)) (he:∀ g,step g (f n)=some fin) :
  ((∀ i,i<n->ok i)/\lp step K0 (f 0)=some fin)\/(¬ (∀ i,i<n->ok i)/\∃ r,Q r/\lp step K0 (f 0)=some r) :=
 qC0 f n ok Q fin hs he n 0 K0 (by omega) hn (fun j h=>by omega)
def qnD (n:NODE):Prop:=0<=qcP n/\qcP n<=64/\0<=nL n/\nL n<=255/\0<=nR n/\nR n<=255
def qyK (t:List NODE):Prop:=1<=t.length/\t.length<=255/\∀ i (h:i<t.length),qnD t[i]
def qDJ (m:qas):Prop:=0<=m.1/\m.1<=64/\m.2.length<=64/\∀ i (h:i<m.2.length),qyK m.2[i]
theorem qzM (a:List (List NODE)) (b c:Int) {t:List NODE} (hl:t.length<4294967296) :
   ((∀ i (h:i<t.length),qnD t[i])/\lp qcv K0 ((a,b,c,t,((t.length:Nat):Int),0,()),())=some (.inl ((a,b,c,()),()))) \/
   (¬ (∀ i (h:i<t.length),qnD t[i])/\lp qcv K0 ((a,b,c,t,((t.length:Nat):Int),0,()),())=some (.inr ((false,()),()))):=by
 rcases qq3 (step:=qcv) (fun i=>((a,b,c,t,((t.length:Nat):Int),(i:Int),()),())) t.length (fun i=>∀ h:i<t.length,qnD t[i]) (fun i=>.inr ((false,()),())) (.inl ((a,b,c,()),())) (by omega) (by
    intro i hi;have d0:(i:Int)<((t.length:Nat):Int):=by omega
    have d1:(0:Int)<=(i:Int):=by omega
    have head:∀ g,qcv g ((a,b,c,t,((t.length:Nat):Int),(i:Int),()),())=bif (decide (qcP t[i]<0)) then (some (.inr ((false,()),()))) else (bif (decide (qcP t[i]>64)) then (some (.inr ((false,()),()))) else (bif (decide (nL t[i]<0)) then (some (.inr ((false,()),()))) else (bif (decide (nL t[i]>255)) then (some (.inr ((false,()),()))) else (bif (decide (nR t[i]<0)) then (some (.inr ((false,()),()))) else (bif (decide (nR t[i]>255)) then (some (.inr ((false,()),()))) else (g ((a,b,c,t,((t.length:Nat):Int),((i+1:Nat):Int),()),()))))))):=by
      intro g;rw[qcv,cnd d0,cnd d1,tN0,gE0 hi,bS0,qaV (by omega)];rfl
    by_cases h:qnD t[i]
    · refine .inl ⟨fun _ => h, fun g => ?_⟩;obtain⟨h1,h2,h3,h4,h5,h6⟩:=h;rw[head,cnd' (by omega),cnd' (by omega),cnd' (by omega),cnd' (by omega),cnd' (by omega),cnd' (by omega)]
    · refine .inr ⟨fun h' => h (h' hi), fun g => ?_⟩;rw[head];by_cases h1:qcP t[i]<0
      · rw[cnd h1]
      by_cases h2:qcP t[i]>64
      · rw[cnd' h1,cnd h2]
      by_cases h3:nL t[i]<0
      · rw[cnd' h1,cnd' h2,cnd h3]
      by_cases h4:nL t[i]>255
      · rw[cnd' h1,cnd' h2,cnd' h3,cnd h4]
      by_cases h5:nR t[i]<0
      · rw[cnd' h1,cnd' h2,cnd' h3,cnd' h4,cnd h5]
      by_cases h6:nR t[i]>255
      · rw[cnd' h1,cnd' h2,cnd' h3,cnd' h4,cnd' h5,cnd h6]
      exfalso;apply h;unfold qnD;omega) (by
    intro g;rw[qcv,cnd' (by omega)]) with ⟨h,hlp⟩ | ⟨i,hi,h,hlp⟩
 · exact .inl ⟨fun i hi=>h i hi hi,hlp⟩
 · exact .inr ⟨fun hh=>h (fun hi=>hh i hi),hlp⟩
theorem qFv {m:qas} (hl:m.2.length<4294967296) (ht:∀ t∈m.2,t.length<4294967296):∃ b,qkY m=some b/\(b=true ↔ qDJ m):=by
 unfold qkY;by_cases h1:m.1<0
 · exact⟨false,by rw[cnd h1],fun h=>(by cases h),fun h=>by have:=h.1;omega⟩
 by_cases h2:m.1>64
 · exact⟨false,by rw[cnd' h1,cnd h2],fun h=>(by cases h),fun h=>by have:=h.2.1;omega⟩
 by_cases h3:((m.2.length:Nat):Int)>64
 · exact⟨false,by rw[cnd' h1,cnd' h2,cnd h3],fun h=>(by cases h),fun h=>by have:=h.2.2.1;omega⟩
 rw[cnd' h1,cnd' h2,cnd' h3];rcases qq3 (step:=qbG) (fun i=>((m.2,((m.2.length:Nat):Int),(i:Int),()),())) m.2.length (fun i=>∀ h:i<m.2.length,qyK m.2[i]) (fun i=>.inr ((false,()),())) (.inl ((),())) (by omega) (by
    intro i hi;have d0:(i:Int)<((m.2.length:Nat):Int):=by omega
    have d1:(0:Int)<=(i:Int):=by omega
    have hti:=ht _ (gM0 hi);by_cases g1:((m.2[i].length:Nat):Int)<1
    · refine .inr ⟨fun h => by have := (h hi).1; omega, fun g => ?_⟩;rw[qbG,cnd d0,cnd d1,tN0,gE0 hi,bS0,cnd g1]
    by_cases g2:((m.2[i].length:Nat):Int)>255
    · refine .inr ⟨fun h => by have := (h hi).2.1; omega, fun g => ?_⟩;rw[qbG,cnd d0,cnd d1,tN0,gE0 hi,bS0,cnd' g1,cnd g2]
    rcases qzM m.2 ((m.2.length:Nat):Int) (i:Int) hti with ⟨h,hlp⟩ | ⟨h,hlp⟩
    · refine .inl ⟨fun _ => ⟨by omega, by omega, h⟩, fun g => ?_⟩;rw[qbG,cnd d0,cnd d1,tN0,gE0 hi,bS0,cnd' g1,cnd' g2,hlp,bS0];dsimp only;rw[qaV (by omega)];rfl
    · refine .inr ⟨fun hh => h (hh hi).2.2, fun g => ?_⟩;rw[qbG,cnd d0,cnd d1,tN0,gE0 hi,bS0,cnd' g1,cnd' g2,hlp,bS0]) (by
    intro g;rw[qbG,cnd' (by omega)]) with ⟨h,hlp⟩ | ⟨i,hi,h,hlp⟩
 · have hlp : lp qbG K0 ((m.2, ((m.2.length : Nat) : Int), 0, ()), ()) = some (.inl ((), ())) := hlp;exact⟨true,by rw[hlp];rfl,fun _=>⟨by omega,by omega,by omega,fun i hi=>h i hi hi⟩,fun _=>rfl⟩
 · have hlp : lp qbG K0 ((m.2, ((m.2.length : Nat) : Int), 0, ()), ()) = some (.inr ((false, ()), ())) := hlp;exact⟨false,by rw[hlp];rfl,fun h'=>(by cases h'),fun hp=>absurd (fun hh=>hp.2.2.2 i hh) h⟩
def qwy (f:Int):Nat->List NODE->Prop
 | 0,t=>qiX t f
 | 1,t=>qtH t
 | 2,t=>qhC t
 | _,t=>qGj t
def Good (m:qas):Prop:=qDJ m/\∀ r,r<4->∀ i (h:i<m.2.length),qwy m.1 r m.2[i]
theorem Good.ranges {m:qas} (h:Good m) {i:Nat} (hi:i<m.2.length):qiX m.2[i] m.1:=h.2 0 (by decide) i hi
theorem Good.shape {m:qas} (h:Good m) {i:Nat} (hi:i<m.2.length):qtH m.2[i]:=h.2 1 (by decide) i hi
theorem Good.covers {m:qas} (h:Good m) {i:Nat} (hi:i<m.2.length):qhC m.2[i]:=h.2 2 (by decide) i hi
def MSz (m:qas) (k:Nat):Prop:=∀ t∈m.2,TSz t k
theorem qxA {m:qas} {k:Nat} (hf:qDJ m) (hs:MSz m k) (hk:k<500000000000) {r:Nat} (hr:r<4) (hlow:∀ r',r'<r->∀ i (h:i<m.2.length),qwy m.1 r' m.2[i]) (z:Int×Int×Int×Int) :
   ((∀ i (h:i<m.2.length),qwy m.1 r m.2[i])/\lp qaJ K0 (((r:Int),(r:Int),m.2,((m.2.length:Nat):Int),0,()),((m.1,m.2,()),(z.1,z.2.1,z.2.2.1,z.2.2.2,()),()))=some (.inl (((r:Int),()),((m.1,m.2,()),(z.1,z.2.1,z.2.2.1,z.2.2.2,()),())))) \/
   (¬ (∀ i (h:i<m.2.length),qwy m.1 r m.2[i])/\∃ e a b c,e≠0/\lp qaJ K0 (((r:Int),(r:Int),m.2,((m.2.length:Nat):Int),0,()),((m.1,m.2,()),(z.1,z.2.1,z.2.2.1,z.2.2.2,()),()))=some (.inr ((),((e,a,b,c,()),())))):=by
 have hlen:=hf.2.2.1;have ans:∀ i (h:i<m.2.length),∃ a e,(e=0 ↔ qwy m.1 r m.2[i])/\∀ g,qaJ g (((r:Int),(r:Int),m.2,((m.2.length:Nat):Int),(i:Int),()),((m.1,m.2,()),(z.1,z.2.1,z.2.2.1,z.2.2.2,()),())) =
     bif (!decide (e=0)) then some (.inr ((),((e,0,(i:Int),a,()),()))) else g (((r:Int),(r:Int),m.2,((m.2.length:Nat):Int),((i+1:Nat):Int),()),((m.1,m.2,()),(z.1,z.2.1,z.2.2.1,z.2.2.2,()),())):=by
   intro i hi;have d0:(i:Int)<((m.2.length:Nat):Int):=by omega
   have d1:(0:Int)<=(i:Int):=by omega
   have htf:=hf.2.2.2 i hi;have htl:m.2[i].length<4294967296:=by have:=htf.2.1;omega
   have ht0:0<m.2[i].length:=htf.1;have hts:=hs _ (gM0 hi)
   match r,hr with
   | 0, _ =>
     obtain⟨a,e,h1,h2⟩:=qAH (f:=m.1) htl;refine⟨a,e,h2,fun g=>?_⟩;rw[qaJ,cnd d0,cnd d1,tN0,gE0 hi,bS0,cnd (by rfl),h1,bS0,qaV (by omega)];rfl
   | 1, _ =>
     obtain⟨a,e,h1,h2⟩:=qCx htl ht0 (hlow 0 (by decide) i hi);refine⟨a,e,h2,fun g=>?_⟩;rw[qaJ,cnd d0,cnd d1,tN0,gE0 hi,bS0,cnd' (by decide),cnd (by rfl),h1,bS0,qaV (by omega)];rfl
   | 2, _ =>
     obtain⟨a,e,h1,h2⟩:=qBO htl hts (by omega);refine⟨a,e,h2,fun g=>?_⟩;rw[qaJ,cnd d0,cnd d1,tN0,gE0 hi,bS0,cnd' (by decide),cnd' (by decide),cnd (by rfl),h1,bS0,qaV (by omega)];rfl
   | 3, _ =>
     obtain⟨a,e,h1,h2⟩:=qEr htl hts hk (hlow 0 (by decide) i hi);refine⟨a,e,h2,fun g=>?_⟩;rw[qaJ,cnd d0,cnd d1,tN0,gE0 hi,bS0,cnd' (by decide),cnd' (by decide),cnd' (by decide),cnd (by rfl),h1,bS0,qaV (by omega)];rfl
 have ans2:∀ i,∃ a e,∀ h:i<m.2.length,(e=0 ↔ qwy m.1 r m.2[i])/\∀ g,qaJ g (((r:Int),(r:Int),m.2,((m.2.length:Nat):Int),(i:Int),()),((m.1,m.2,()),(z.1,z.2.1,z.2.2.1,z.2.2.2,()),())) =
     bif (!decide (e=0)) then some (.inr ((),((e,0,(i:Int),a,()),()))) else g (((r:Int),(r:Int),m.2,((m.2.length:Nat):Int),((i+1:Nat):Int),()),((m.1,m.2,()),(z.1,z.2.1,z.2.2.1,z.2.2.2,()),())):=by
   intro i;by_cases h:i<m.2.length
   · obtain ⟨a, e, h1, h2⟩ := ans i h;exact⟨a,e,fun _=>⟨h1,h2⟩⟩
   · exact⟨0,0,fun h'=>absurd h' h⟩
 have A:=fun i=>(ans2 i).choose
 let E:Nat->Int:=fun i=>(ans2 i).choose_spec.choose
 have hE:∀ i (h:i<m.2.length),(E i=0 ↔ qwy m.1 r m.2[i])/\∀ g,qaJ g (((r:Int),(r:Int),m.2,((m.2.length:Nat):Int),(i:Int),()),((m.1,m.2,()),(z.1,z.2.1,z.2.2.1,z.2.2.2,()),())) =
     bif (!decide (E i=0)) then some (.inr ((),((E i,0,(i:Int),(ans2 i).choose,()),()))) else g (((r:Int),(r:Int),m.2,((m.2.length:Nat):Int),((i+1:Nat):Int),()),((m.1,m.2,()),(z.1,z.2.1,z.2.2.1,z.2.2.2,()),())):=fun i h=>(ans2 i).choose_spec.choose_spec h
 rcases qq3 (step:=qaJ) (fun i=>(((r:Int),(r:Int),m.2,((m.2.length:Nat):Int),(i:Int),()),((m.1,m.2,()),(z.1,z.2.1,z.2.2.1,z.2.2.2,()),()))) m.2.length (fun i=>E i=0) (fun i=>.inr ((),((E i,0,(i:Int),(ans2 i).choose,()),()))) (.inl (((r:Int),()),((m.1,m.2,()),(z.1,z.2.1,z.2.2.1,z.2.2.2,()),()))) (by omega) (by
     intro i hi;obtain⟨h1,h2⟩:=hE i hi;by_cases h0:E i=0
     · exact .inl ⟨h0,fun g=>by rw[h2,decide_eq_true h0];rfl⟩
     · exact .inr ⟨h0,fun g=>by rw[h2,decide_eq_false h0];rfl⟩) (by
     intro g;rw[qaJ,cnd' (by omega)]) with ⟨h,hlp⟩ | ⟨i,hi,h,hlp⟩
 · exact .inl ⟨fun i hi=>(hE i hi).1.1 (h i hi),hlp⟩
 · exact .inr ⟨fun hh=>h ((hE i hi).1.2 (hh i hi)),E i,0,(i:Int),_,h,hlp⟩
theorem qGk {m:qas} {k:Nat} (hl:m.2.length<4294967296) (ht:∀ t∈m.2,t.length<4294967296) (hs:MSz m k) (hk:k<500000000000):∃ b,qfn m=some b/\(b=true ↔ Good m):=by
 obtain⟨b,hb,hbf⟩:=qFv hl ht;cases b with
 | false =>
  have hnf:¬ qDJ m:=fun h=>by have:=hbf.2 h;cases this
  refine⟨false,?_,fun h=>(by cases h),fun h=>absurd h.1 hnf⟩;rw[qfn,qhV,hb,bS0];rfl
 | true =>
  have hf:=hbf.1 rfl;rcases qEU (step:=qbT) (fun r=>(((r:Int),()),((m.1,m.2,()),(0,0,0,0,()),()))) 4 (fun r=>∀ i (h:i<m.2.length),qwy m.1 r m.2[i]) (fun r=>∃ e a b c,e≠0/\r=.inr ((),((e,a,b,c,()),()))) (.inl ((),((0,0,0,0,()),()))) (by omega) (by
     intro r hr hlow;have d0:(r:Int)<4:=by omega
     rcases qxA hf hs hk hr (fun r' hr'=>hlow r' hr') (0,0,0,0) with ⟨h1,h2⟩ | ⟨h1,e,a,b,c,h2,h3⟩
     · refine .inl ⟨h1, fun g => ?_⟩;rw[qbT,cnd d0,h2,bS0];dsimp only;rw[qaV (by omega)];rfl
     · refine .inr ⟨h1, _, ⟨e, a, b, c, h2, rfl⟩, fun g => ?_⟩;rw[qbT,cnd d0,h3,bS0]) (by
     intro g;rw[qbT,cnd' (by decide)]) with ⟨h,hlp⟩ | ⟨h,r,⟨e,a,b,c,he,rfl⟩,hlp⟩
  · have hlp : lp qbT K0 (((0 : Int), ()), ((m.1, m.2, ()), (0, 0, 0, 0, ()), ())) = _ := hlp;refine⟨true,?_,fun _=>⟨hf,h⟩,fun _=>rfl⟩;rw[qfn,qhV,hb,bS0,jh,cond_false,hlp];rfl
  · have hlp : lp qbT K0 (((0 : Int), ()), ((m.1, m.2, ()), (0, 0, 0, 0, ()), ())) = _ := hlp;refine⟨false,?_,fun h'=>(by cases h'),fun hg=>absurd hg.2 h⟩;rw[qfn,qhV,hb,bS0,jh,cond_false,hlp,bS0];dsimp only;rw[bS0,decide_eq_false he];rfl
theorem qoo (a:RAT):qbZ a=some (cutR 4 a):=by
 obtain⟨⟨s,x⟩,y⟩:=a;unfold qbZ cutR;by_cases h1:4<x.length
 · have c1 : ((x.length : Nat) : Int) > 4 := by omega
   have c2:(4:Int)<=((x.length:Nat):Int):=by omega
   by_cases h2:4<y.length
   · have c3 : ((y.length : Nat) : Int) > 4 := by omega
     have c4:(4:Int)<=((y.length:Nat):Int):=by omega
     rw[cnd c1,cnd c2,cnd c3,cnd c4]
   · have c3 : ¬ ((y.length : Nat) : Int) > 4 := by omega
     rw[cnd c1,cnd c2,cnd' c3,ji (l:=y) (by omega)]
 · have c1 : ¬ ((x.length : Nat) : Int) > 4 := by omega
   by_cases h2:4<y.length
   · have c3 : ((y.length : Nat) : Int) > 4 := by omega
     have c4:(4:Int)<=((y.length:Nat):Int):=by omega
     rw[cnd' c1,cnd c3,cnd c4,ji (l:=x) (by omega)]
   · have c3 : ¬ ((y.length : Nat) : Int) > 4 := by omega
     rw[cnd' c1,cnd' c3,ji (l:=x) (by omega),ji (l:=y) (by omega)]
def quJ (n:NODE):NODE:=(n.1,n.2.1,cutR 4 n.2.2.1,n.2.2.2.1,n.2.2.2.2.1,n.2.2.2.2.2.1,cutR 4 n.2.2.2.2.2.2.1,cutR 4 n.2.2.2.2.2.2.2)
def qj5 (t:List NODE):List NODE:=(t.take 15).map quJ
def cutM (m:qas):qas:=(m.1,(m.2.take 6).map qj5)
theorem qzS (n:NODE):NSz (quJ n) 4:=⟨qsH 4 _,qsH 4 _,qsH 4 _⟩
theorem qzR (t:List NODE):TSz (qj5 t) 4:=by
 intro n hn;obtain⟨x,_,rfl⟩:=jf.1 hn;exact qzS x
theorem qxz (t:List NODE):(qj5 t).length<=15:=by simp [qj5];omega
theorem qFj (m:qas):MSz (cutM m) 4:=by
 intro t ht;obtain⟨x,_,rfl⟩:=jf.1 ht;exact qzR x
theorem qBN (m:qas):∀ t∈(cutM m).2,t.length<=15:=by
 intro t ht;obtain⟨x,_,rfl⟩:=jf.1 ht;exact qxz x
theorem qxK {m:qas} {i:Nat} (hi:i<m.2.length) (hl:m.2[i].length<=9223372036854775807) (hi2:i<4611686018427387904) (z w:Int×List (List NODE)) :
  lp qaS K0 (((i:Int),[],0,()),((m.1,m.2,()),(z.1,z.2,()),(w.1,w.2,()),()))=some (((i:Int),qj5 m.2[i],()),((m.1,m.2,()),(z.1,z.2,()),(w.1,w.2,()),())):=by
 have hn:min m.2[i].length 15<=m.2[i].length:=kD _ _;exact qfM (step:=qaS) (fun k=>(((i:Int),(m.2[i].take k).map quJ,(k:Int),()),((m.1,m.2,()),(z.1,z.2,()),(w.1,w.2,()),()))) (min m.2[i].length 15) (by omega) (by
  intro g k hk;have h1:k<m.2[i].length:=by omega
  have d0:(0:Int)<=(i:Int):=by omega
  have d1:(k:Int)<((m.2[i].length:Nat):Int):=by omega
  have d2:(k:Int)<15:=by omega
  have d3:(0:Int)<=(k:Int):=by omega
  have d4:(((m.2[i].take k).map quJ).length+1)*208<=140737488355328:=by simp;omega
  rw[qaS,cnd d0,tN0,gE0 hi,bS0,cnd d1,cnd d2,cnd d0,bS0,cnd d3,tN0,gE0 h1,bS0,qoo,bS0,qoo,bS0,qoo,bS0,blt d4,cond_true,qaV (by omega),qjb _ h1];rfl) (by
  intro g;have d0:(0:Int)<=(i:Int):=by omega
  by_cases h:m.2[i].length<=15
  · have c1 : ¬ ((min m.2[i].length 15 : Nat) : Int) < ((m.2[i].length : Nat) : Int) := by omega
    rw[qaS,cnd d0,tN0,gE0 hi,bS0,cnd' c1,kE h,ji (ja _),qj5,ji h]
  · have c1 : ((min m.2[i].length 15 : Nat) : Int) < ((m.2[i].length : Nat) : Int) := by omega
    have c2:¬ ((min m.2[i].length 15:Nat):Int)<15:=by omega
    rw[qaS,cnd d0,tN0,gE0 hi,bS0,cnd c1,cnd' c2,kH (by omega),qj5])
theorem qDL (m:qas) (hl:m.2.length<=9223372036854775807) (ht:∀ t∈m.2,t.length<=9223372036854775807):qfc m=some (cutM m):=by
 have hn:min m.2.length 6<=m.2.length:=kD _ _;have key:=qfM (step:=qaT) (fun i=>(((i:Int),()),((m.1,m.2,()),(0,[],()),(m.1,(m.2.take i).map qj5,()),()))) (min m.2.length 6) (r:=((),((0,[],()),(m.1,(m.2.take 6).map qj5,()),()))) (by omega) (by
  intro g i hi;have h1:i<m.2.length:=by omega
  have d0:(i:Int)<((m.2.length:Nat):Int):=by omega
  have d1:(i:Int)<6:=by omega
  have hin:=qxK h1 (ht _ (gM0 h1)) (by omega) (0,[]) (m.1,(m.2.take i).map qj5);have d4:(((m.2.take i).map qj5).length+1)*24<=140737488355328:=by simp;omega
  rw[qaT,cnd d0,cnd d1,hin,bS0,blt d4,cond_true,qaV (by omega),qjb _ h1];rfl) (by
  intro g;by_cases h:m.2.length<=6
  · have c1 : ¬ ((min m.2.length 6 : Nat) : Int) < ((m.2.length : Nat) : Int) := by omega
    rw[qaT,cnd' c1,kE h,ji (ja _),ji h]
  · have c1 : ((min m.2.length 6 : Nat) : Int) < ((m.2.length : Nat) : Int) := by omega
    have c2:¬ ((min m.2.length 6:Nat):Int)<6:=by omega
    rw[qaT,cnd c1,cnd' c2,kH (by omega)])
 have key':lp qaT K0 ((0,()),((m.1,m.2,()),(0,[],()),(m.1,[],()),()))=_:=key;rw[qfc,key'];rfl
inductive TR where
 | leaf (i:Nat)
 | split (i:Nat) (l r:TR)
def TR.top:TR->Nat
 | .leaf i=>i
 | .split i _ _=>i
def TR.size:TR->Nat
 | .leaf _=>1
 | .split _ l r=>1+l.size+r.size
def TR.deep:TR->Nat
 | .leaf _=>1
 | .split _ l r=>1+max l.deep r.deep
def Is (t:List NODE) (f:Int):TR->Prop
 | .leaf i=>∃ h:i<t.length,qi9 t[i]=true
 | .split i l r=>∃ h:i<t.length,qi9 t[i]=false/\0<=qcP t[i]/\qcP t[i]<f/\nL t[i]=(l.top:Int)/\nR t[i]=(r.top:Int)/\Is t f l/\Is t f r
theorem qEp {t:List NODE} {f:Int} (hr:qiX t f) (hrk:qyL t):∀ i,i<t.length->∃ T,Is t f T/\T.top=i/\T.deep<=t.length+1:=by
 obtain⟨rk,hrk⟩:=hrk;have key:∀ (d i:Nat),i<t.length->rk i<=d->∃ T,Is t f T/\T.top=i/\T.deep<=rk i+1:=by
  intro d
  induction d with
  | zero =>
   intro i hi hd;cases hl:qi9 t[i] with
   | true=>exact⟨.leaf i,⟨hi,hl⟩,rfl,by simp [TR.deep]⟩
   | false =>
    have:=(hrk i hi).2 (nL t[i]).toNat (by rw[qh7 hi hl];simp);omega
  | succ d ih =>
   intro i hi hd;cases hl:qi9 t[i] with
   | true=>exact⟨.leaf i,⟨hi,hl⟩,rfl,by simp [TR.deep]⟩
   | false =>
    obtain⟨r1,r2,r3,r4,r5,r6⟩:=hr i hi hl;have k1:=(hrk i hi).2 (nL t[i]).toNat (by rw[qh7 hi hl];simp);have k2:=(hrk i hi).2 (nR t[i]).toNat (by rw[qh7 hi hl];simp);obtain⟨L,hL,hLt,hLd⟩:=ih (nL t[i]).toNat (by omega) (by omega);obtain⟨R,hR,hRt,hRd⟩:=ih (nR t[i]).toNat (by omega) (by omega);refine⟨.split i L R,⟨hi,hl,r1,r2,by rw[hLt];omega,by rw[hRt];omega,hL,hR⟩,rfl,?_⟩
    simp only[TR.deep];omega
 intro i hi;obtain⟨T,h1,h2,h3⟩:=key (rk i) i hi (ja _);have:=(hrk i hi).1;exact⟨T,h1,h2,by omega⟩
theorem Good.tree {m:qas} (h:Good m) {i:Nat} (hi:i<m.2.length):∃ T,Is m.2[i] m.1 T/\T.top=0/\T.deep<=m.2[i].length+1 :=
 qEp (h.ranges hi) (h.shape hi).2 0 (h.1.2.2.2 i hi).1
abbrev zR:RAT:=((false,[]),[])
abbrev zN:NODE:=(false,0,zR,0,0,false,zR,zR)
def qdB (t:List NODE) (i:Nat):NODE:=(t[i]?).getD zN
theorem qdG {t:List NODE} {i:Nat} (h:i<t.length):qdB t i=t[i]:=by simp [qdB,h]
def qBT (row:List CELL) (i:Nat):CELL:=(row[i]?).getD (false,zR)
theorem qzT {row:List CELL} {i:Nat} (h:i<row.length):qBT row i=row[i]:=by simp [qBT,h]
def goes (n:NODE) (c:CELL):Bool:=if c.1 then qGW n else decide (rv c.2<rv (nCut n))
def goL (t:List NODE) (row:List CELL) (i:Nat):Bool:=goes (qdB t i) (qBT row (qcP (qdB t i)).toNat)
def wayT (t:List NODE) (row:List CELL):TR->List Nat
 | .leaf i=>[i]
 | .split i l r=>i::if goL t row i then wayT t row l else wayT t row r
theorem Is.top_lt {t:List NODE} {f:Int} {T:TR} (h:Is t f T):T.top<t.length:=by
 cases T with
 | leaf i=>exact h.1
 | split i l r=>exact h.1
theorem TR.size_lt (T:TR):T.size<2 ^ T.deep:=by
 induction T with
 | leaf i=>simp [TR.size,TR.deep]
 | split i l r ihl ihr =>
  simp only[TR.size,TR.deep];have h1:2 ^ l.deep<=2 ^ max l.deep r.deep:=jn (by decide) (jD _ _);have h2:2 ^ r.deep<=2 ^ max l.deep r.deep:=jn (by decide) (Nat.le_max_right _ _);rw[kb 1 (max l.deep r.deep),jp];omega
theorem TR.size_le {T:TR} (h:T.deep<=16):T.size<65536:=by
 have h1:=T.size_lt;have h2:2 ^ T.deep<=2 ^ 16:=jn (by decide) h;omega
theorem TR.deep_pos (T:TR):0<T.deep:=by cases T<;>simp [TR.deep]<;>omega
def expT (t:List NODE) (row:List CELL) (set:Nat):TR->Rat
 | .leaf i=>rv (nVal (qdB t i))
 | .split i l r=>if set.testBit (qcP (qdB t i)).toNat then (if goL t row i then expT t row set l else expT t row set r)
  else (cov t l.top*expT t row set l+cov t r.top*expT t row set r)/cov t i
theorem TSz.at {t:List NODE} {k:Nat} (h:TSz t k) {i:Nat} (hi:i<t.length):NSz (qdB t i) k:=by rw[qdG hi];exact h _ (gM0 hi)
theorem qwp {t:List NODE} (hs:TSz t 4) {i:Nat} (hi:i<t.length):SzQ (cov t i) 4:=(hs.at hi).2.2.szQ (by decide)
theorem quy {t:List NODE} {f:Int} {row:List CELL} {set:Nat} {T:TR} (hs:TSz t 4) (h:Is t f T):SzQ (expT t row set T) (16*T.size):=by
 induction T with
 | leaf i=>exact((hs.at h.1).2.1.szQ (by decide)).mono (by simp [TR.size])
 | split i l r ihl ihr =>
  obtain⟨h1,_,_,_,_,_,h2,h3⟩:=h;have a:=ihl h2;have b:=ihr h3;simp only[expT,TR.size];split
  · split
    · exact a.mono (by omega)
    · exact b.mono (by omega)
  · have := (((qwp hs h2.top_lt).mul a).add ((qwp hs h3.top_lt).mul b)).div (qwp hs h1);exact this.mono (by omega)
def mkT (t:List NODE):Nat->Nat->TR
 | 0,i=>.leaf i
 | d+1,i=>if qi9 (qdB t i) then .leaf i else .split i (mkT t d (nL (qdB t i)).toNat) (mkT t d (nR (qdB t i)).toNat)
theorem qGa {t:List NODE} {f:Int}:∀ (d:Nat) (T:TR),Is t f T->T.deep<=d->mkT t d T.top=T:=by
 intro d
 induction d with
 | zero=>intro T _ h;have:=T.deep_pos;omega
 | succ d ih =>
  intro T h hd;cases T with
  | leaf i =>
   obtain⟨h1,h2⟩:=h;simp only[TR.top,mkT,qdG h1,h2,if_true]
  | split i l r =>
   obtain⟨h1,h2,_,_,h3,h4,h5,h6⟩:=h;simp only[TR.deep] at hd;show mkT t (d+1) i=_;rw[mkT,qdG h1,h2,h3,h4,tN0,tN0,ih l h5 (by omega),ih r h6 (by omega)];rfl
def treeOf (t:List NODE):TR:=mkT t (t.length+1) 0
theorem Good.treeOf {m:qas} (h:Good m) {i:Nat} (hi:i<m.2.length):Is m.2[i] m.1 (treeOf m.2[i])/\(treeOf m.2[i]).top=0/\(treeOf m.2[i]).deep<=m.2[i].length+1:=by
 obtain⟨T,h1,h2,h3⟩:=h.tree hi;have:X.treeOf m.2[i]=T:=by rw[X.treeOf,<- h2];exact qGa _ T h1 h3
 rw[this];exact⟨h1,h2,h3⟩
def qdn (m:qas) (i:Nat):List NODE:=(m.2[i]?).getD []
theorem qnw {m:qas} {i:Nat} (h:i<m.2.length):qdn m i=m.2[i]:=by simp [qdn,h]
def sayM (m:qas) (row:List CELL) (set:Nat):Rat:=rsum (fun i=>expT (qdn m i) row set (treeOf (qdn m i))) m.2.length
theorem MSz.at {m:qas} {k:Nat} (h:MSz m k) {i:Nat} (hi:i<m.2.length):TSz (qdn m i) k:=by rw[qnw hi];exact h _ (gM0 hi)
theorem Good.isAt {m:qas} (h:Good m) {i:Nat} (hi:i<m.2.length):Is (qdn m i) m.1 (X.treeOf (qdn m i)):=by rw[qnw hi];exact(h.treeOf hi).1
theorem qEa {m:qas} (h:Good m) (hl:∀ t∈m.2,t.length<=15) {i:Nat} (hi:i<m.2.length):(treeOf (qdn m i)).deep<=16:=by
 rw[qnw hi];have:=(h.treeOf hi).2.2;have:=hl _ (gM0 hi);omega
theorem qFd {m:qas} {row:List CELL} {set:Nat} (h:Good m) (hs:MSz m 4) (hl:∀ t∈m.2,t.length<=15) {i:Nat} (hi:i<m.2.length):SzQ (expT (qdn m i) row set (treeOf (qdn m i))) 1048576:=by
 have:=TR.size_le (qEa h hl hi);exact(quy (hs.at hi) (h.isAt hi)).mono (by omega)
theorem qwM {m:qas} {row:List CELL} {set:Nat} (h:Good m) (hs:MSz m 4) (hl:∀ t∈m.2,t.length<=15) {n:Nat} (hn:n<=m.2.length):SzQ (rsum (fun i=>expT (qdn m i) row set (treeOf (qdn m i))) n) (1+n*1048577) :=
 qme fun i hi=>qFd h hs hl (by omega)
def CSz (row:List CELL) (k:Nat):Prop:=∀ c∈row,SzR c.2 k
theorem qE9 {n:NODE} {c:CELL} {k j:Nat} (hn:SzR (nCut n) k) (hk:k<1099511627776) (hc:SzR c.2 j) (hj:j<1099511627776):qkz n c=some (goes n c):=by
 unfold qkz goes;cases h:c.1 with
 | true=>rfl
 | false =>
  rw[cond_false,qqP (hc.sm hj) (hn.sm hk),bS0,if_neg (by decide)];congr 1;by_cases h:rv c.2<rv (nCut n)
  · rw[decide_eq_true (qx7.2 h),decide_eq_true h]
  · rw[decide_eq_false (fun e=>h (qx7.1 e)),decide_eq_false h]
theorem qCd {n:NODE} {c:CELL} {k j:Nat} (hn:SzR (nCut n) k) (hk:k<1099511627776) (hc:SzR c.2 j) (hj:j<1099511627776):qjn n c=some (!qi9 n&&goes n c):=by
 unfold qjn;rw[qE9 hn hk hc hj];show _=some (!n.1&&goes n c);cases h:n.1 with
 | true=>rfl
 | false=>rfl
theorem qD7 {t:List NODE} {f:Int} {row:List CELL} {i:Nat} (hs:TSz t 4) (hc:CSz row 9) (hi:i<t.length) (h0:0<=qcP t[i]) (h1:qcP t[i]<(row.length:Int)) :
  ∃ c,row[(qcP t[i]).toNat]?=some c/\SzR c.2 9/\goes t[i] c=goL t row i:=by
 have hlt:(qcP t[i]).toNat<row.length:=by omega
 refine⟨row[(qcP t[i]).toNat],gE0 hlt,hc _ (gM0 hlt),?_⟩;rw[goL,qdG hi,qzT hlt]
theorem qBM (l:List CELL):CSz (l.map qkl) 9:=by
 intro c hc;obtain⟨x,_,rfl⟩:=jf.1 hc;exact⟨jk (qsH 3 _).1 (by decide),jk (qsH 3 _).2 (by decide)⟩
theorem qBt {m:qas} {row:List CELL} (hl:m.2.length<4294967296) (ht:∀ t∈m.2,t.length<4294967296) (hs:MSz m 4) :
  ∃ e:Int,qfj m row=some e/\qcC m row=some e/\(e=0 ↔ Good m/\(row.length:Int)=m.1):=by
 obtain⟨b,h1,h2⟩:=qGk hl ht hs (by decide);have key:∃ e:Int,qfj m row=some e/\(e=0 ↔ Good m/\(row.length:Int)=m.1):=by
  cases b with
  | false=>exact⟨1,by rw[qfj,h1];rfl,⟨fun h=>absurd h (by decide),fun h=>by have:=h2.2 h.1;simp at this⟩⟩
  | true =>
   by_cases h:(row.length:Int)=m.1
   · exact⟨0,by rw[qfj,h1,bS0,jh,cond_false,decide_eq_true h];rfl,by simp [h2.1 rfl,h]⟩
   · exact⟨14,by rw[qfj,h1,bS0,jh,cond_false,decide_eq_false h];rfl,by simp [h]⟩
 obtain⟨e,h3,h4⟩:=key;exact⟨e,h3,by rw[qcC,h3];rfl,h4⟩
structure Askd (m:qas) (row:List CELL):Prop where
 good:Good m
 len:(row.length:Int)=m.1
 ms:MSz m 4
 ml:m.2.length<=6
 mt:∀ t∈m.2,t.length<=15
 cs:CSz row 9
theorem Askd.tree {m:qas} {row:List CELL} (h:Askd m row) {i:Nat} (hi:i<m.2.length):TSz m.2[i] 4/\Is m.2[i] (row.length:Int) (treeOf (qdn m i))/\(treeOf (qdn m i)).top=0/\(treeOf (qdn m i)).deep<=16/\qdn m i=m.2[i]:=by
 have h1:=h.good.treeOf hi;have h2:=qEa h.good h.mt hi;rw[qnw hi] at h2 ⊢;exact⟨h.ms _ (gM0 hi),by rw[h.len];exact h1.1,h1.2.1,h2,rfl⟩
theorem qCu {f:Nat->Rat} {n k:Nat} {q:RAT} (hs:SzQ (rsum f n) k) (hk:k<1099511627776) (hq:Sm q) (e:rv q=f n):qaU (((canQ (rsum f n)).1.1,(canQ (rsum f n)).1.2),(canQ (rsum f n)).2) q=some (canQ (rsum f (n+1))):=by
 have h1:=qbN (hs.sm hk) hq;rw[qae,e] at h1;exact h1
theorem qBe {q r:Rat} {n m:Nat} (hq:SzQ q n) (hn:n<91625968980) (hr:SzQ r m) (hm:m<91625968980) (e:q=r):qc3 (canQ q) (canQ r)=some true:=by
 rw[qG0 hq hn hr.szR hm,qae,decide_eq_true e]
theorem qlc (n k:Nat):(n/2 ^ k) % 2=1 ↔ n.testBit k=true:=by
 rw[Nat.testBit_eq_decide_div_mod_eq,decide_eq_true_iff]
theorem qC7 {set k:Nat} (hs:set<18446744073709551616) (hk:k<=64):qiH (set:Int) (k:Int)=some (set.testBit k):=by
 have h2:(set/2 ^ k:Nat)<18446744073709551616:=jt (kI _ _) hs;have h3:=qyp (x:=set/2 ^ k) (y:=1) h2 (by decide);rw[qiH,cnd' (by omega),qAt set k hk];have h3:iand .u64 ((set/2 ^ k:Nat):Int) 1=((set/2 ^ k &&& 1:Nat):Int):=h3;rw[h3,Nat.and_one_is_mod];congr 1;by_cases h:set.testBit k=true
 · rw [h, decide_eq_true];have:=(qlc set k).2 h;omega
 · have h' : set.testBit k = false := by simpa using h
   rw[h',decide_eq_false];intro e;exact h ((qlc set k).1 (by omega))
theorem qEJ {a b:RAT} (ha:Sm a) (hb:Sm b) (h:rv b≠0):qjZ a b=some (canQ (rv a/rv b)):=by
 rw[qjZ,qqN ha hb,if_neg h];rfl
theorem qES {t:List NODE} {i a b:Nat} {x y:RAT} {p q:Rat} {k:Nat} (hs:TSz t 4) (hcov:qhC t) (hi:i<t.length) (ha:a<t.length) (hb:b<t.length) (hL:nL t[i]=(a:Int)) (hR:nR t[i]=(b:Int)) (hx:rv x=p) (hy:rv y=q) (hxs:Sm x) (hys:Sm y)
  (hp:SzQ p k) (hq:SzQ q k) (hk:k<1000000000):qj0 t t[i] x y=some (canQ ((cov t a*p+cov t b*q)/cov t i)):=by
 have za:=(hs _ (gM0 ha)).2.2;have zb:=(hs _ (gM0 hb)).2.2;have zi:=(hs _ (gM0 hi)).2.2;have m1:=qax (za.sm (by decide)) hxs;have m2:=qax (zb.sm (by decide)) hys;rw[hx] at m1;rw[hy] at m2;have s1:SzQ (rv (nCov t[a])*p) (4+k):=(za.szQ (by decide)).mul hp;have s2:SzQ (rv (nCov t[b])*q) (4+k):=(zb.szQ (by decide)).mul hq;have s3:=s1.add s2;have m3:=qbN (s1.sm (by omega)) (s2.sm (by omega));rw[qae,qae] at m3;have hne:rv (nCov t[i])≠0:=by
  have:=hcov i hi;intro e;rw[e] at this;exact absurd this (by decide)
 have m4:=qEJ (s3.sm (by omega)) (zi.sm (by decide)) hne;rw[qae] at m4;rw[qj0,show t[i].2.2.2.1=(a:Int) from hL,cnd (by omega),tN0,gE0 ha,bS0,m1,bS0,show t[i].2.2.2.2.1=(b:Int) from hR,cnd (by omega),tN0,gE0 hb,bS0,m2,bS0,m3,bS0,m4,bS0,qie ha,qie hb,qie hi]
theorem qsu {t:List NODE} {row:List CELL} {set:Nat} (hs:TSz t 4) (hc:CSz row 9) (hcov:qhC t) (hset:set<18446744073709551616) (hf64:row.length<=64):∀ (n:Nat) (T:TR),Is t (row.length:Int) T->T.deep<=n->T.size<=1000000 ->
  qec n t (T.top:Int) row (set:Int)=some (canQ (expT t row set T)):=by
 intro n
 induction n with
 | zero=>intro T _ hd;have:=T.deep_pos;omega
 | succ n ih =>
  intro T h hd hz;show qij (qec n) t T.top row set=_;cases T with
  | leaf i =>
   obtain⟨h1,h2⟩:=h;have d0:(0:Int)<=(i:Int):=by omega
   have z:=hs _ (gM0 h1);rw[qij,show((TR.leaf i).top:Int)=(i:Int) from rfl,cnd d0,tN0,gE0 h1,bS0,show t[i].1=true from h2,cond_true,qbf (z.2.1.sm (by decide)),bS0,expT,qdG h1]
  | split i l r =>
   have h0:=h;obtain⟨h1,h2,f0,f1,h3,h4,h5,h6⟩:=h;have d0:(0:Int)<=(i:Int):=by omega
   simp only[TR.deep] at hd;simp only[TR.size] at hz;obtain⟨c,g1,g2,g3⟩:=qD7 (f:=0) hs hc h1 f0 f1;have z:=hs _ (gM0 h1);have el:qec n t t[i].2.2.2.1 row set=some (canQ (expT t row set l)):=by rw[show t[i].2.2.2.1=_ from h3];exact ih l h5 (by omega) (by omega)
   have er:qec n t t[i].2.2.2.2.1 row set=some (canQ (expT t row set r)):=by rw[show t[i].2.2.2.2.1=_ from h4];exact ih r h6 (by omega) (by omega)
   have hft:((qcP t[i]).toNat:Int)=qcP t[i]:=by omega
   have hkn:=qC7 (k:=(qcP t[i]).toNat) hset (by omega);rw[hft] at hkn;rw[qij,show((TR.split i l r).top:Int)=(i:Int) from rfl,cnd d0,tN0,gE0 h1,bS0,show t[i].1=false from h2,cond_false,hkn,bS0,expT,qdG h1];cases hb:set.testBit (qcP t[i]).toNat with
   | false =>
    have sl:=quy (row:=row) (set:=set) hs h5;have sr:=quy (row:=row) (set:=set) hs h6;have sl':=sl.mono (m:=16000000) (by omega);have sr':=sr.mono (m:=16000000) (by omega);rw[jv,cond_true,el,bS0,er,bS0,qES hs hcov h1 h5.top_lt h6.top_lt h3 h4 (qae _) (qae _) (sl'.sm (by decide)) (sr'.sm (by decide)) sl' sr' (by decide),bS0,if_neg (by decide)]
   | true =>
    rw[jh,cond_false,cnd f0,g1,bS0,qCd z.1 (by decide) g2 (by decide),bS0,g3,show(!qi9 t[i])=true by rw[h2];rfl,Bool.true_and,if_pos rfl];cases goL t row i with
    | true=>rw[cond_true,el,bS0,if_pos rfl]
    | false=>rw[cond_false,er,bS0,if_neg (by decide)]
theorem Askd.cov {m:qas} {row:List CELL} (h:Askd m row) {i:Nat} (hi:i<m.2.length):qhC m.2[i]:=h.good.covers hi
theorem Askd.f64 {m:qas} {row:List CELL} (h:Askd m row):row.length<=64:=by
 have:=h.good.1.2.1;have:=h.len;omega
theorem qBG {m:qas} {row:List CELL} (h:Askd m row) {set:Nat} (hset:set<18446744073709551616):qg6 m row (set:Int)=some (canQ (sayM m row set),0):=by
 obtain⟨e,_,h1,h2⟩:=qBt (row:=row) (by have:=h.ml;omega) (fun t ht=>by have:=h.mt t ht;omega) h.ms;have e0:e=0:=h2.2 ⟨h.good,h.len⟩;subst e0;have ml:=h.ml;obtain⟨F,eF⟩:∃ F:Nat->Rat,F=fun i=>expT (qdn m i) row set (treeOf (qdn m i)):=⟨_,rfl⟩
 have hF:∀ n,n<=m.2.length->SzQ (rsum F n) (1+n*1048577):=fun n hn=>by rw[eF];exact qwM h.good h.ms h.mt hn
 have key:=qfM (step:=qcw) (fun i=>((row,(set:Int),m.2,((m.2.length:Nat):Int),(i:Int),()),((false,[],[],()),((canQ (rsum F i)).1.1,(canQ (rsum F i)).1.2,(canQ (rsum F i)).2,()),()))) m.2.length (by omega) (by
  intro g i hi;have d0:(i:Int)<((m.2.length:Nat):Int):=by omega
  have d1:(0:Int)<=(i:Int):=by omega
  obtain⟨t1,t2,t3,t4,t5⟩:=h.tree hi;have hz:=TR.size_le t4;have hv:=qsu t1 h.cs (h.cov hi) hset h.f64 R0 _ t2 (by unfold R0;omega) (by omega);rw[t3] at hv;have hv:qec R0 m.2[i] 0 row set=some (canQ (expT m.2[i] row set (treeOf (qdn m i)))):=hv;have hq:SzQ (expT m.2[i] row set (treeOf (qdn m i))) 1048576:=(quy t1 t2).mono (by omega);have ha:=qCu (hF i (by omega)) (by omega) (hq.sm (by decide)) (by rw[qae,eF];show _=expT (qdn m i) row set _;rw[t5])
  rw[qcw,cnd d0,cnd d1,tN0,gE0 hi,bS0,hv,bS0,ha,bS0,qaV (by omega)];rfl) (by
  intro g;rw[qcw,cnd' (by omega)])
 rw[qg6,h1,bS0,show(!decide ((0:Int)=0))=false by decide,cond_false,qdx,bS0];have key':lp qcw K0 ((row,(set:Int),m.2,((m.2.length:Nat):Int),0,()),((false,[],[],()),((canQ 0).1.1,(canQ 0).1.2,(canQ 0).2,()),()))=_:=key;rw[key'];rw[sayM,<- eF];rfl
theorem qDE (m0:qas) (row0:List CELL) (hl:m0.2.length<=9223372036854775807) (ht:∀ t∈m0.2,t.length<=9223372036854775807) (hr:row0.length<=9223372036854775807) :
   ∃ m row,qdj m0 row0=some (m,row)/\MSz m 4/\m.2.length<=3/\(∀ t∈m.2,t.length<=15)/\CSz row 9:=by
 have hf:=qDL m0 hl ht;have ms:=qFj m0;have mt:=qBN m0;have h9:=qDK row0 70 hr (by decide);have h9:qdm row0 70=some ((row0.take 70).map qkl):=h9;have cs:=qBM (row0.take 70);by_cases h3:((cutM m0).2.length:Int)>3
 · refine ⟨((cutM m0).1, (cutM m0).2.take 3), (row0.take 70).map qkl, ?_, fun t h => ms t (kJ h), by simp; omega, fun t h => mt t (kJ h), cs⟩
   rw[qdj,hf,bS0,cnd h3,cnd (by omega),h9];rfl
 · refine ⟨cutM m0, (row0.take 70).map qkl, ?_, ms, by omega, mt, cs⟩;rw[qdj,hf,bS0,cnd' h3,h9];rfl
def qlf (f:Nat->Rat):Nat->Rat
 | 0=>1
 | n+1=>qlf f n*f n
def qcan (qs:List Rat):List RAT:=qs.map canQ
@[simp] theorem qGu (qs:List Rat):(qcan qs).length=qs.length:=by simp [qcan]
def lsum:List Rat->Rat
 | []=>0
 | x::r=>x+lsum r
theorem qgH (a b:List Rat):lsum (a++b)=lsum a+lsum b:=by
 induction a with
 | nil=>simp [lsum,jI]
 | cons x a ih=>simp only[jQ,lsum,ih,kc]
theorem qhC.ne {t:List NODE} (h:qhC t):∀ i,i<t.length->cov t i≠0:=by
 intro i hi e;have:=h i hi;rw[qie hi] at e;rw[e] at this;exact absurd this (by decide)
abbrev AP:=Nat×Rat×Bool
def encP (p:AP):PART:=((p.1:Int),canQ p.2.1,p.2.2)
def encW (w:List AP):List PART:=w.map encP
theorem qrm (w:List AP):(encW w).length=w.length:=by simp [encW]
theorem qDi {w:List AP} {i:Nat} (h:i<w.length):(encW w)[i]?=some (encP w[i]):=by simp [encW,h]
def qk8 (f:Nat) (q:Rat) (ok:Bool):List AP->List AP
 | []=>[(f,q,ok)]
 | p::w=>if p.1<f then p::qk8 f q ok w else if p.1=f then (f,p.2.1*q,p.2.2&&ok)::w else (f,q,ok)::p::w
def ASz (w:List AP) (k:Nat):Prop:=∀ p∈w,SzQ p.2.1 k
abbrev AL:=Nat×Rat×List AP
def qs4 (t:List NODE) (i:Nat):Nat:=(qcP (qdB t i)).toNat
def qvZ (t:List NODE) (row:List CELL):TR->List AP->List AL
 | .leaf i,w=>[(i,rv (nVal (qdB t i)),w)]
 | .split i l r,w=>qvZ t row l (qk8 (qs4 t i) (cov t l.top/cov t i) (goL t row i) w)++qvZ t row r (qk8 (qs4 t i) (cov t r.top/cov t i) (!goL t row i) w)
theorem qwv {f:Nat} {q:Rat} {ok:Bool} {w:List AP}:∀ p∈qk8 f q ok w,p.1=f\/∃ p'∈w,p'.1=p.1:=by
 induction w with
 | nil=>intro p hp;simp [qk8] at hp;subst hp;exact .inl rfl
 | cons a w ih =>
  intro p hp;simp only[qk8] at hp;split at hp
  · rcases jg.1 hp with rfl | hp
    · exact .inr ⟨p,jO,rfl⟩
    · rcases ih p hp with h | ⟨p', h1, h2⟩
      · exact .inl h
      · exact .inr ⟨p',jR _ h1,h2⟩
  · split at hp
    · rcases jg.1 hp with rfl | hp
      · exact .inl rfl
      · exact .inr ⟨p,jR _ hp,rfl⟩
    · rcases jg.1 hp with rfl | hp
      · exact .inl rfl
      · exact .inr ⟨p,hp,rfl⟩
theorem qx2 {t:List NODE} (hs:TSz t 4) {a i:Nat} (ha:a<t.length) (hi:i<t.length):SzQ (cov t a/cov t i) 8:=(qwp hs ha).div (qwp hs hi)
def qiB:List Rat->Rat
 | []=>1
 | x::r=>x*qiB r
theorem qq2 (a b:List Rat):qiB (a++b)=qiB a*qiB b:=by
 induction a with
 | nil=>simp [qiB,jJ]
 | cons x a ih=>simp only[jQ,qiB,ih,Rat.mul_assoc]
def facP (set:Nat) (p:AP):Rat:=if set.testBit p.1 then (if p.2.2 then 1 else 0) else p.2.1
def qdA (set:Nat) (w:List AP):Rat:=qiB (w.map (facP set))
theorem qmh (set f:Nat) (q:Rat) (ok:Bool) (w:List AP):qdA set (qk8 f q ok w)=qdA set w*facP set (f,q,ok):=by
 induction w with
 | nil=>simp [qdA,qk8,qiB,jy,jJ]
 | cons p w ih =>
  simp only[qdA] at ih;simp only[qk8];split
  · simp only[qdA,je,qiB,ih];grind
  · split
    · rename_i e;simp only[qdA,je,qiB];have:facP set (f,p.2.1*q,p.2.2&&ok)=facP set p*facP set (f,q,ok):=by
       simp only[facP,e];cases set.testBit f<;>cases p.2.2<;>cases ok<;>simp<;>grind
      rw[this];grind
    · simp only[qdA,je,qiB];grind
def legV (set:Nat) (x:AL):Rat:=qdA set x.2.2*x.2.1
theorem qC2 {t:List NODE} {f:Int} {row:List CELL} {set:Nat} {T:TR} (hc:∀ i,i<t.length->cov t i≠0) (h:Is t f T):∀ w,lsum ((qvZ t row T w).map (legV set))=qdA set w*expT t row set T:=by
 induction T with
 | leaf i=>intro w;simp only[qvZ,je,kC,lsum,legV,expT,jc]
 | split i l r ihl ihr =>
  intro w;obtain⟨h1,h2,f0,f1,h3,h4,h5,h6⟩:=h;have c:=hc i h1;simp only[qvZ,js,qgH,ihl h5,ihr h6,qmh,expT];have e:(qcP (qdB t i)).toNat=qs4 t i:=rfl;rw[e];simp only[facP];obtain⟨a,ea⟩:∃ a,a=expT t row set l:=⟨_,rfl⟩;obtain⟨b,eb⟩:∃ b,b=expT t row set r:=⟨_,rfl⟩;obtain⟨p,ep⟩:∃ p,p=cov t l.top:=⟨_,rfl⟩;obtain⟨q,eq⟩:∃ q,q=cov t r.top:=⟨_,rfl⟩;obtain⟨d,ed⟩:∃ d,d=cov t i:=⟨_,rfl⟩;obtain⟨z,ez⟩:∃ z,z=qdA set w:=⟨_,rfl⟩;rw[<- ea,<- eb,<- ep,<- eq,<- ed,<- ez];cases set.testBit (qs4 t i)<;>cases goL t row i<;>simp<;>grind
def tabS (m:qas) (row:List CELL) (n:Nat):List RAT:=(j9 n).map fun s=>canQ (sayM m row s)
theorem qCt (m:qas) (row:List CELL) (n:Nat):(tabS m row n).length=n:=by simp [tabS]
theorem qxV (m:qas) (row:List CELL) {n i:Nat} (h:i<n):(tabS m row n)[i]?=some (canQ (sayM m row i)):=by simp [tabS,h]
theorem qDB {m:qas} {row:List CELL} (h:Askd m row) (h12:m.1<=12):qfQ m row=some (tabS m row (2 ^ m.1.toNat),0):=by
 obtain⟨e,_,h1,h2⟩:=qBt (row:=row) (by have:=h.ml;omega) (fun t ht=>by have:=h.mt t ht;omega) h.ms;have e0:e=0:=h2.2 ⟨h.good,h.len⟩;subst e0;have f0:=h.good.1.1;obtain⟨k,hk⟩:∃ k:Nat,m.1=(k:Int):=⟨m.1.toNat,by omega⟩;have hp:2 ^ k<=2 ^ 12:=jn (by decide) (by omega);have hs:shlV .u64 1 m.1=((2 ^ k:Nat):Int):=by
  have:=qAu (x:=1) (s:=k) (by omega) (by omega);rw[Nat.one_mul] at this;rw[hk];exact this
 obtain⟨n,hn⟩:∃ n,n=2 ^ k:=⟨_,rfl⟩;rw[<- hn] at hs hp;have hp:n<=4096:=hp;have key:=qfM (step:=qcx) (fun i=>((row,tabS m row i,(n:Int),(i:Int),()),((m.1,m.2,()),()))) n (r:=((tabS m row n,()),())) (by omega) (by
  intro g i hi;have d0:(i:Int)<(n:Int):=by omega
  have hv:=qBG h (set:=i) (by omega);have hv:qg6 (m.1,m.2) row (i:Int)=_:=hv;have e1:tabS m row (i+1)=tabS m row i++[canQ (sayM m row i)]:=by simp [tabS,jw]
  have iu:iadd .u64 (i:Int) 1=((i+1:Nat):Int):=by rw[qmJ]<;>omega
  rw[qcx,cnd d0,hv,bS0,blt (by rw[qCt];omega),cond_true,e1,iu]) (by
  intro g;rw[qcx,cnd' (by omega)])
 have key:lp qcx K0 ((row,[],(n:Int),0,()),((m.1,m.2,()),()))=_:=key;rw[qfQ,h1,bS0,show(!decide ((0:Int)=0))=false by decide,cond_false,cnd' (by omega),cnd' (by omega),hs,key,bS0,show m.1.toNat=k by omega,<- hn]
def qfo:TR->List Nat
 | .leaf i=>[i]
 | .split i l r=>i::(qfo l++qfo r)
theorem qzd (T:TR):(qfo T).length=T.size:=by
 induction T with
 | leaf i=>rfl
 | split i l r ihl ihr=>simp only[qfo,TR.size,jz,jd,ihl,ihr];omega
theorem qkQ {t:List NODE} {f:Int} {T:TR} (h:Is t f T):∀ j∈qfo T,j<t.length:=by
 induction T with
 | leaf i=>intro j hj;simp [qfo] at hj;subst hj;exact h.1
 | split i l r ihl ihr =>
  obtain⟨h1,_,_,_,_,_,h2,h3⟩:=h;intro j hj;simp only[qfo,jg,jm] at hj;rcases hj with rfl | hj | hj
  · exact h1
  · exact ihl h2 j hj
  · exact ihr h3 j hj
theorem Is.kids {t:List NODE} {f:Int} {i:Nat} {l r:TR} (h:Is t f (.split i l r)):kids t i=[l.top,r.top]:=by
 obtain⟨h1,h2,_,_,h3,h4,_,_⟩:=h;rw[qh7 h1 h2,h3,h4,tN0,tN0]
theorem qlx {t:List NODE} {f:Int} {T:TR} (h:Is t f T):∀ j∈qfo T,j=T.top\/∃ p∈qfo T,j∈kids t p:=by
 induction T with
 | leaf i=>intro j hj;simp [qfo] at hj;exact .inl hj
 | split i l r ihl ihr =>
  have hk:=h.kids;obtain⟨h1,_,_,_,_,_,h2,h3⟩:=h;intro j hj;simp only[qfo,jg,jm] at hj;have hi:i∈qfo (.split i l r):=by simp [qfo]
  rcases hj with rfl | hj | hj
  · exact .inl rfl
  · refine .inr ?_;rcases ihl h2 j hj with rfl | ⟨p,hp,hm⟩
    · exact⟨i,hi,by rw[hk];simp⟩
    · exact⟨p,by simp [qfo,hp],hm⟩
  · refine .inr ?_;rcases ihr h3 j hj with rfl | ⟨p,hp,hm⟩
    · exact⟨i,hi,by rw[hk];simp⟩
    · exact⟨p,by simp [qfo,hp],hm⟩
theorem qr7 {t:List NODE} {f:Int} {rk:Nat->Nat} (hrk:∀ i,i<t.length->rk i<=t.length/\∀ c∈kids t i,rk c<rk i) {T:TR} (h:Is t f T):∀ j∈qfo T,rk j<=rk T.top:=by
 induction T with
 | leaf i=>intro j hj;simp [qfo] at hj;subst hj;exact ja _
 | split i l r ihl ihr =>
  have hk:=h.kids;obtain⟨h1,_,_,_,_,_,h2,h3⟩:=h;have a:=(hrk i h1).2 l.top (by rw[hk];simp);have b:=(hrk i h1).2 r.top (by rw[hk];simp);intro j hj;simp only[qfo,jg,jm] at hj;show rk j<=rk i;rcases hj with rfl | hj | hj
  · exact ja _
  · have:=ihl h2 j hj;omega
  · have:=ihr h3 j hj;omega
theorem qux {t:List NODE} {n j p p':Nat} (hp:p<n) (hp':p'<n) (hne:p≠p') (h:j∈kids t p) (h':j∈kids t p'):2<=((j9 n).flatMap (kids t)).count j:=by
 have key:∀ {a b n:Nat},a<b->b<n->j∈kids t a->j∈kids t b->2<=((j9 n).flatMap (kids t)).count j:=by
   intro a b n hab hb ha hbm;have e:j9 n=j9 b++(j9 (n-b)).map (·+b):=by
    have h1:n=b+(n-b):=by omega
    conv=>lhs;rw[h1,List.range_add]
    congr 1;refine jj fun x _=>kb _ _
   rw[e,jX,kd];have c1:0<((j9 b).flatMap (kids t)).count j:=jF.2 (jZ.2 ⟨a,by simpa using hab,ha⟩);have c2:0<(((j9 (n-b)).map (·+b)).flatMap (kids t)).count j:=jF.2 (jZ.2 ⟨b,jf.2 ⟨0,by simp;omega,by simp⟩,hbm⟩);omega
 rcases Nat.lt_or_gt_of_ne hne with hlt | hlt
 · exact key hlt hp' h h'
 · exact key hlt hp h' h
theorem qvA {t:List NODE} {f:Int} (hs:qtH t) {T:TR} (h:Is t f T):(qfo T).Nodup:=by
 obtain⟨hc,rk,hrk⟩:=hs;have one:∀ j p p',p<t.length->p'<t.length->0<j->j<t.length->j∈kids t p->j∈kids t p'->p=p':=by
  intro j p p' hp hp' h0 hj hm hm';refine Classical.byContradiction fun hne=>?_
  have h1:=qux hp hp' hne hm hm';have h2:=hc j h0 hj;rw[cnt] at h2;omega
 induction T with
 | leaf i=>simp [qfo]
 | split i l r ihl ihr =>
  have hk:=h.kids;obtain⟨h1,g1,g2,g3,g4,g5,h2,h3⟩:=h;have ra:=(hrk i h1).2 l.top (by rw[hk];simp);have rb:=(hrk i h1).2 r.top (by rw[hk];simp);have nl:=qr7 hrk h2;have nr:=qr7 hrk h3;have top0:∀ j∈kids t i,0<j->True:=fun _ _ _=>trivial
  refine ke.2 ⟨fun hm=>?_,jq.2 ⟨ihl h2,ihr h3,?_⟩⟩
  · rcases jm.1 hm with hm | hm
    · have:=nl i hm;omega
    · have:=nr i hm;omega
  ·
    have key:∀ (d j:Nat),t.length-rk j<=d->j∈qfo l->j∈qfo r->False:=by
      intro d
      induction d with
      | zero =>
       intro j hd hl hr;have:=nl j hl;have:=(hrk i h1).1;omega
      | succ d ih =>
       intro j hd hl hr;have hjl:=qkQ h2 j hl;have par:∃ p p',p<t.length/\p'<t.length/\j∈kids t p/\j∈kids t p'/\((p=i/\j=l.top)\/p∈qfo l)/\((p'=i/\j=r.top)\/p'∈qfo r):=by
         have hk1:l.top∈kids t i:=by rw[hk];simp
         have hk2:r.top∈kids t i:=by rw[hk];simp
         rcases qlx h2 j hl with e | ⟨p,hp,hm⟩
         · rcases qlx h3 j hr with e' | ⟨p', hp', hm'⟩
           · exact⟨i,i,h1,h1,by rw[e];exact hk1,by rw[e];exact hk1,.inl ⟨rfl,e⟩,.inl ⟨rfl,e'⟩⟩
           · exact⟨i,p',h1,qkQ h3 p' hp',by rw[e];exact hk1,hm',.inl ⟨rfl,e⟩,.inr hp'⟩
         · rcases qlx h3 j hr with e' | ⟨p', hp', hm'⟩
           · exact⟨p,i,qkQ h2 p hp,h1,hm,by rw[e'];exact hk2,.inr hp,.inl ⟨rfl,e'⟩⟩
           · exact⟨p,p',qkQ h2 p hp,qkQ h3 p' hp',hm,hm',.inr hp,.inr hp'⟩
       obtain⟨p,p',q1,q2,q3,q4,q5,q6⟩:=par;by_cases h0:0<j
       · have e := one j p p' q1 q2 h0 hjl q3 q4;subst e;rcases q5 with ⟨e1,e2⟩ | q5
         · rcases q6 with ⟨_, e3⟩ | q6
           ·
             have h5:=hc j h0 hjl;rw[cnt] at h5;have:((j9 t.length).flatMap (kids t)).count j>=(kids t i).count j:=by
               have hi:i∈j9 t.length:=by simpa using h1
               obtain⟨a,b,eab⟩:=List.append_of_mem hi;rw[eab,jX,List.flatMap_cons,kd,kd];omega
             rw[hk,<- e2,<- e3] at this;simp at this;omega
           · rw [e1] at q6;have:=nr i q6;omega
         · rcases q6 with ⟨e1, _⟩ | q6
           · rw [e1] at q5;have:=nl i q5;omega
           · have := (hrk p q1).2 j q3;have:=(hrk p q1).1;exact ih p (by omega) q5 q6
       ·
         have j0:j=0:=by omega
         have nokid:∀ (d q:Nat),t.length-rk q<=d->q<t.length->j∈kids t q->False:=by
           intro d
           induction d with
           | zero =>
             intro q hd hq hm;have:=(hrk q hq).2 j hm;by_cases hq0:q=0
             · rw[j0,hq0] at this;omega
             · obtain ⟨p, hp, hpm⟩ := qkZ hc (by omega) hq;have a:=(hrk p hp).2 q hpm;have b:=(hrk p hp).1;omega
           | succ d ihd =>
             intro q hd hq hm;have hlt:=(hrk q hq).2 j hm;by_cases hq0:q=0
             · rw[j0,hq0] at hlt;omega
             ·
               have up:∀ (d2 u:Nat),t.length-rk u<=d2->u<t.length->rk q<=rk u->False:=by
                intro d2
                induction d2 with
                | zero =>
                 intro u hu hu2 hqu;by_cases hu0:u=0
                 · rw[hu0] at hqu;rw[j0] at hlt;omega
                 · obtain ⟨p, hp, hpm⟩ := qkZ hc (by omega) hu2;have a:=(hrk p hp).2 u hpm;have b:=(hrk p hp).1;omega
                | succ d2 ihd2 =>
                 intro u hu hu2 hqu;by_cases hu0:u=0
                 · rw[hu0] at hqu;rw[j0] at hlt;omega
                 · obtain ⟨p, hp, hpm⟩ := qkZ hc (by omega) hu2;have a:=(hrk p hp).2 u hpm;have b:=(hrk p hp).1;exact ihd2 p (by omega) hp (by omega)
               exact up _ q (ja _) hq (ja _)
         exact nokid _ p (ja _) q1 q3
    intro a ha b hb e;subst e;exact key _ a (ja _) ha hb
theorem qAk {t:List NODE} {f:Int} (hs:qtH t) {T:TR} (h:Is t f T):T.size<=t.length:=by
 rw[<- qzd];exact qmq (qvA hs h) (qkQ h)
theorem TR.size_pos (T:TR):0<T.size:=by cases T<;>simp [TR.size]<;>omega
theorem qBI (T:TR):2*T.deep<=T.size+1:=by
 induction T with
 | leaf i=>simp [TR.deep,TR.size]
 | split i l r ihl ihr =>
  have:=l.size_pos;have:=r.size_pos;simp only[TR.deep,TR.size];omega
def qtd (w:List AP):Prop:=w.Pairwise fun a b=>a.1<b.1
theorem qz0 {f:Nat} {q:Rat} {ok:Bool} {w:List AP} (h:qtd w):qtd (qk8 f q ok w):=by
 induction w with
 | nil=>simp [qk8,qtd]
 | cons p w ih =>
  have h1:=jS.1 h;simp only[qk8];split
  · rename_i hp;refine jS.2 ⟨fun a ha=>?_,ih h1.2⟩;rcases qwv a ha with e | ⟨p',h3,h4⟩
    · omega
    · have:=h1.1 p' h3;omega
  · split
    · rename_i e;exact jS.2 ⟨fun a ha=>by have:=h1.1 a ha;show f<a.1;omega,h1.2⟩
    · refine jS.2 ⟨fun a ha => ?_, h⟩;show f<a.1;rcases jg.1 ha with rfl | ha
      · omega
      · have:=h1.1 a ha;omega
def flo (n:Nat) (o:Nat->Rat):List RAT:=(j9 n).map fun f=>canQ (o f)
theorem qbi (n:Nat) (o:Nat->Rat):(flo n o).length=n:=by simp [flo]
theorem qgJ {n f:Nat} (o:Nat->Rat) (h:f<n):(flo n o)[f]?=some (canQ (o f)):=by simp [flo,h]
theorem qmM {n:Nat} {o p:Nat->Rat} (h:∀ f,f<n->o f=p f):flo n o=flo n p:=by
 rw[flo,flo];exact jj fun f hf=>by rw[h f (jT.1 hf)]
theorem qBr {n i:Nat} {o p:Nat->Rat} {x:Rat} (hx:p i=x) (hp:∀ f,f≠i->p f=o f):(flo n o).set i (canQ x)=flo n p:=by
 apply k7;intro f;rw[jH];by_cases hf:f<n
 · rw [qgJ _ hf, qgJ _ hf, qbi];by_cases e:i=f
   · rw[if_pos e,if_pos (by omega),<- e,hx]
   · rw[if_neg e,hp f (fun h=>e h.symm)]
 · have h1 : (flo n o)[f]? = none := jr (by rw [qbi]; omega);have h2:(flo n p)[f]?=none:=jr (by rw[qbi];omega);rw[h1,h2];split
   · rw[if_neg (by rw[qbi];omega)]
   · rfl
def whyR (b:Bool) (m:qas) (row:List CELL):Int:=if b then (if (row.length:Int)=m.1 then 0 else 14) else 1
theorem qEj {b:Bool} {m:qas} (h:qfn m=some b) (row:List CELL):qcC m row=some (whyR b m row)/\qgE m row=some (whyR b m row):=by
 have:qfj m row=some (whyR b m row):=by
  rw[qfj,h,bS0,whyR];cases b with
  | false=>rfl
  | true =>
   rw[jh,cond_false,if_pos rfl];by_cases e:(row.length:Int)=m.1
   · rw[decide_eq_true e,if_pos e];rfl
   · rw[decide_eq_false e,if_neg e];rfl
 exact⟨by rw[qcC,this];rfl,this⟩
theorem qjm {f:Nat->Rat} {n:Nat} (h:∀ i,i<n->f i=0):rsum f n=0:=by
 induction n with
 | zero=>rfl
 | succ n ih=>rw[rsum,ih fun i hi=>h i (by omega),h n (by omega),jc]
theorem qgO {S f:Nat} (h:S.testBit f=false):∀ j,(S+2 ^ f).testBit j=(decide (j=f) || S.testBit j):=by
 induction f generalizing S with
 | zero =>
  intro j;have h0:S % 2=0:=by rw[jU] at h;simpa using h
  cases j with
  | zero=>rw[jU];simp;omega
  | succ j =>
   rw[jK,jK,show(S+2 ^ 0)/2=S/2 by omega];simp
 | succ f ih =>
  intro j;rw[jK] at h;have e1:(S+2 ^ (f+1))/2=S/2+2 ^ f:=by rw[jp];omega
  have e2:(S+2 ^ (f+1)) % 2=S % 2:=by rw[jp];omega
  cases j with
  | zero=>rw[jU,jU,e2];simp
  | succ j =>
   rw[jK,jK,e1,ih h];simp
theorem qjx {S f n:Nat} (h:S.testBit f=false) (hS:S<2 ^ n) (hf:f<n):S+2 ^ f<2 ^ n:=by
 refine Nat.lt_pow_two_of_testBit _ fun i hi=>?_
 rw[qgO h,decide_eq_false (by omega),jL];exact kK (jM hS (jn (by decide) hi))
def popc:Nat->Nat->Nat
 | 0,_=>0
 | n+1,S=>popc n S+(if S.testBit n then 1 else 0)
theorem qon (n S:Nat):popc n S<=n:=by
 induction n with
 | zero=>exact ja _
 | succ n ih=>rw[popc];split<;>omega
theorem qza {n S S':Nat} (h:∀ j,j<n->S.testBit j=S'.testBit j):popc n S=popc n S':=by
 induction n with
 | zero=>rfl
 | succ n ih=>rw[popc,popc,ih fun j hj=>h j (by omega),h n (by omega)]
theorem qy2 (f:Nat->Rat) (a b:Nat):rsum f (a+b)=rsum f a+rsum (fun i=>f (i+a)) b:=by
 induction b with
 | zero=>simp [rsum,jc]
 | succ b ih=>rw[<- Nat.add_assoc,rsum,ih,rsum,kc,kb a b]
theorem qwQ {f g:Nat->Rat} {n:Nat} (h:∀ i,i<n->f i=g i):qlf f n=qlf g n:=by
 induction n with
 | zero=>rfl
 | succ n ih=>rw[qlf,qlf,ih fun i hi=>h i (by omega),h n (by omega)]
abbrev BA:=Rat×Rat
def pick (x:BA) (b:Bool):Rat:=if b then x.2 else x.1
def EE:List BA->(Nat->Rat)->Rat
 | [],c=>c 0
 | x::L,c=>x.1*EE L c+x.2*EE L fun k=>c (k+1)
theorem quM {L:List BA}:∀ {c d:Nat->Rat},(∀ k,k<=L.length->c k=d k)->EE L c=EE L d:=by
 induction L with
 | nil=>intro c d h;exact h 0 (ja _)
 | cons x L ih =>
  intro c d h;rw[EE,EE,ih fun k hk=>h k (by simp only[jz];omega),ih fun k hk=>h (k+1) (by simp only[jz];omega)]
theorem qGr {L:List BA}:∀ {c d:Nat->Rat},EE L (fun k=>c k+d k)=EE L c+EE L d:=by
 induction L with
 | nil=>intro c d;rfl
 | cons x L ih=>intro c d;rw[EE,EE,EE,ih,ih];grind
theorem qGq {L:List BA}:∀ {c:Nat->Rat} {q:Rat},EE L (fun k=>q*c k)=q*EE L c:=by
 induction L with
 | nil=>intro c q;rfl
 | cons x L ih=>intro c q;rw[EE,EE,ih,ih];grind
theorem qxL {L M:List BA} (h:L.Perm M):∀ c,EE L c=EE M c:=by
 induction h with
 | nil=>intro c;rfl
 | cons x _ ih=>intro c;rw[EE,EE,ih,ih]
 | swap x y L=>intro c;simp only[EE];grind
 | trans _ _ ih1 ih2=>intro c;rw[ih1,ih2]
theorem qGn {L:List BA} {x:BA}:∀ c,EE (x::L) c=EE (L++[x]) c:=fun c=>qxL (by
 have:=(jP (l₁:=[x]) (l₂:=L));simpa using this) c
theorem qGo (L:List BA) (c:Nat->Rat):EE ((1,1)::L) c=EE L fun k=>c k+c (k+1):=by
 rw[EE,qGr];grind
theorem qGp (L:List BA) (c:Nat->Rat):EE ((1,0)::L) c=EE L c:=by rw[EE];grind
theorem qCz (g:Nat->BA) (n:Nat):∀ c:Nat->Rat,rsum (fun S=>c (popc n S)*qlf (fun j=>pick (g j) (S.testBit j)) n) (2 ^ n)=EE ((j9 n).map g) c:=by
 induction n with
 | zero=>intro c;simp [rsum,popc,qlf,EE,jy,jI]
 | succ n ih =>
  intro c;have hb:∀ S,S<2 ^ n->S.testBit n=false:=fun S hS=>kK hS
  have e1:rsum (fun S=>c (popc (n+1) S)*qlf (fun j=>pick (g j) (S.testBit j)) (n+1)) (2 ^ n)=(g n).1*rsum (fun S=>c (popc n S)*qlf (fun j=>pick (g j) (S.testBit j)) n) (2 ^ n):=by
   rw[kf (g n).1,<- qle];refine qbq fun S hS=>?_
   rw[popc,qlf,hb S hS,if_neg (by decide),Nat.add_zero,pick,if_neg (by decide)];grind
  have e2:rsum (fun S=>c (popc (n+1) (S+2 ^ n))*qlf (fun j=>pick (g j) ((S+2 ^ n).testBit j)) (n+1)) (2 ^ n)=(g n).2*rsum (fun S=>c (popc n S+1)*qlf (fun j=>pick (g j) (S.testBit j)) n) (2 ^ n):=by
   rw[kf (g n).2,<- qle];refine qbq fun S hS=>?_
   have hj:=qgO (hb S hS);have hp:popc n (S+2 ^ n)=popc n S:=qza fun j hj'=>by rw[hj j,decide_eq_false (by omega),jL]
   have hr:qlf (fun j=>pick (g j) ((S+2 ^ n).testBit j)) n=qlf (fun j=>pick (g j) (S.testBit j)) n:=qwQ fun j hj'=>by rw[hj j,decide_eq_false (by omega),jL]
   rw[popc,qlf,hp,hr,hj n,decide_eq_true rfl,kL,if_pos rfl,pick,if_pos rfl];grind
  rw[jp,Nat.mul_two,qy2,e1,e2,ih c,ih fun k=>c (k+1),jw,js];show _=EE (_++[g n]) c;rw[<- qGn,EE]
theorem qDS {k n:Nat} (h:k<n):wq k (n+1)+wq (k+1) (n+1)=wq k n:=by
 unfold wq quo;have e1:n+1-k-1=(n-k-1)+1:=by omega
 have e2:n+1-(k+1)-1=n-k-1:=by omega
 rw[e1,e2];obtain⟨j,hj⟩:∃ j,j=n-k-1:=⟨_,rfl⟩;rw[<- hj];have hn:((n:Nat):Rat)=(j:Rat)+(k:Rat)+1:=by
  have:n=j+k+1:=by omega
  rw[this];push_cast;rfl
 have f1:((fac (j+1):Nat):Rat)=((j:Rat)+1)*((fac j:Nat):Rat):=by rw[fac];push_cast;rfl
 have f2:((fac (k+1):Nat):Rat)=((k:Rat)+1)*((fac k:Nat):Rat):=by rw[fac];push_cast;rfl
 have f3:((fac (n+1):Nat):Rat)=((n:Rat)+1)*((fac n:Nat):Rat):=by rw[fac];push_cast;rfl
 have p1:((fac n:Nat):Rat)≠0:=by
  have:=qxm n;intro e;have:(fac n:Nat)=0:=by exact_mod_cast e
  omega
 have p2:(n:Rat)+1≠0:=by
  intro e;have:((n+1:Nat):Rat)=0:=by push_cast;exact e
  have:(n+1:Nat)=0:=by exact_mod_cast this
  omega
 rw[f1,f2,f3];obtain⟨a,ha⟩:∃ a,a=((fac k:Nat):Rat):=⟨_,rfl⟩;obtain⟨b,hb⟩:∃ b,b=((fac j:Nat):Rat):=⟨_,rfl⟩;obtain⟨d,hd⟩:∃ d,d=((fac n:Nat):Rat):=⟨_,rfl⟩;obtain⟨x,hx⟩:∃ x,x=(j:Rat):=⟨_,rfl⟩;obtain⟨y,hy⟩:∃ y,y=(k:Rat):=⟨_,rfl⟩;rw[<- hd] at p1 ⊢;rw[hn,<- hx,<- hy] at p2;rw[hn,<- ha,<- hb,<- hx,<- hy]
 grind
theorem qDM (L:List BA) (d:Nat):EE (jb d (1,1)++L) (fun k=>wq k (L.length+1+d))=EE L fun k=>wq k (L.length+1):=by
 induction d with
 | zero=>rfl
 | succ d ih =>
  rw[List.replicate_succ,jQ,qGo,<- ih];refine quM fun k hk=>?_
  simp only[jd,List.length_replicate] at hk;exact qDS (k:=k) (n:=L.length+1+d) (by omega)
def qnH (v:Nat->Rat) (n f S:Nat):Rat:=if S.testBit f then 0 else wq (popc n S) n*(v (S+2 ^ f)-v S)
def qeV (v:Nat->Rat) (n f:Nat):Rat:=rsum (qnH v n f) (2 ^ n)
theorem qrK {v w:Nat->Rat} {n f:Nat} (hf:f<n) (h:∀ S,S<2 ^ n->v S=w S):qeV v n f=qeV w n f:=by
 refine qbq fun S hS=>?_
 unfold qnH;cases hb:S.testBit f with
 | true=>rfl
 | false=>rw[if_neg (by decide),if_neg (by decide),h S hS,h _ (qjx hb hS hf)]
theorem qmf (f g:Nat->Rat) (n:Nat):rsum (fun i=>f i+g i) n=rsum f n+rsum g n:=by
 induction n with
 | zero=>simp [rsum,jc]
 | succ n ih=>rw[rsum,rsum,rsum,ih];grind
theorem qu5 (v w:Nat->Rat) (n f:Nat):qeV (fun S=>v S+w S) n f=qeV v n f+qeV w n f:=by
 unfold qeV;rw[<- qmf];refine qbq fun S _=>?_
 unfold qnH;split
 · simp [jc]
 · grind
theorem qAy (v:Nat->Rat) (n f:Nat) (q:Rat):qeV (fun S=>v S*q) n f=qeV v n f*q:=by
 unfold qeV;rw[<- qle];refine qbq fun S _=>?_
 unfold qnH;split
 · rw[jA]
 · grind
theorem qtj (n f:Nat):qeV (fun _=>0) n f=0:=by
 unfold qeV;refine qjm fun S _=>?_
 unfold qnH;split
 · rfl
 · grind
theorem qyV (v:Nat->Nat->Rat) (n f:Nat):∀ k,qeV (fun S=>rsum (fun i=>v i S) k) n f=rsum (fun i=>qeV (v i) n f) k:=by
 intro k
 induction k with
 | zero=>exact qtj n f
 | succ k ih=>rw[rsum,<- ih,<- qu5];rfl
theorem qyW {α:Type} (v:α->Nat->Rat) (n f:Nat):∀ l:List α,qeV (fun S=>lsum (l.map fun x=>v x S)) n f=lsum (l.map fun x=>qeV (v x) n f):=by
 intro l
 induction l with
 | nil=>exact qtj n f
 | cons x l ih=>rw[je,lsum,<- ih,<- qu5];rfl
abbrev FP:=Nat×BA
def lkG:List FP->Nat->BA
 | [],_=>(1,1)
 | p::P,j=>if p.1=j then p.2 else lkG P j
theorem qEX {P:List FP} {j:Nat} (h:j ∉ P.map (·.1)):lkG P j=(1,1):=by
 induction P with
 | nil=>rfl
 | cons p P ih =>
  simp only[je,jg,not_or] at h;rw[lkG,if_neg (fun e=>h.1 e.symm),ih h.2]
theorem qEY {P:List FP} (hnd:(P.map (·.1)).Nodup):(P.map (·.1)).map (lkG P)=P.map (·.2):=by
 induction P with
 | nil=>rfl
 | cons p P ih =>
  have h:=ke.1 hnd;have ih:=ih h.2;simp only[je,lkG,if_true,List.cons.injEq,true_and];rw[<- ih];refine jj fun j hj=>?_
  exact if_neg (fun e=>h.1 (by subst e;exact hj))
theorem qy7 {n:Nat} {F:List Nat} (hnd:F.Nodup) (hlt:∀ j∈F,j<n):∃ R:List Nat,(j9 n).Perm (F++R)/\∀ j∈R,j ∉ F:=by
 refine⟨(j9 n).filter fun j=>!F.contains j,?_,fun j hj=>by simpa using (kg.1 hj).2⟩;refine(List.perm_ext_iff_of_nodup ka ?_).2 fun a=>?_
 · refine jq.2 ⟨hnd, jE.sublist kB ka, fun a ha b hb e => ?_⟩;subst e;have:=(kg.1 hb).2;simp at this;exact this ha
 · simp only [jm, kg, jT];constructor
   · intro h;by_cases ha:a∈F
     · exact .inl ha
     · exact .inr ⟨h,by simpa using ha⟩
   · rintro (h | h)
     · exact hlt a h
     · exact h.1
theorem qtt {a b:List Rat} (h:a.Perm b):qiB a=qiB b:=by
 induction h with
 | nil=>rfl
 | cons x _ ih=>rw[qiB,qiB,ih]
 | swap x y l=>simp only[qiB];grind
 | trans _ _ h1 h2=>rw[h1,h2]
theorem qwP (h:Nat->Rat) (n:Nat):qlf h n=qiB ((j9 n).map h):=by
 induction n with
 | zero=>rfl
 | succ n ih=>rw[qlf,ih,jw,js,qq2];simp [qiB,jy]
theorem qzx {l:List Rat} (h:∀ x∈l,x=1):qiB l=1:=by
 induction l with
 | nil=>rfl
 | cons x l ih=>rw[qiB,h x jO,ih fun y hy=>h y (jR _ hy),jy]
def qom (P:List FP) (S:Nat):Rat:=qiB (P.map fun p=>pick p.2 (S.testBit p.1))
theorem qAw {n f:Nat} {x:BA} {P:List FP} (hf:f<n) (hnd:(P.map (·.1)).Nodup) (hlt:∀ p∈P,p.1<n) (hnf:f ∉ P.map (·.1)) :
  qeV (fun S=>pick x (S.testBit f)*qom P S) n f=(x.2-x.1)*EE (P.map (·.2)) fun k=>wq k (P.length+1):=by
 obtain⟨R,hR,hRF⟩:=qy7 (n:=n) (F:=f::P.map (·.1)) (ke.2 ⟨hnf,hnd⟩) (fun j hj=>by
  rcases jg.1 hj with rfl | hj
  · exact hf
  · obtain⟨p,hp,rfl⟩:=jf.1 hj;exact hlt p hp)
 obtain⟨g,hg⟩:∃ g:Nat->BA,g=fun j=>if j=f then (1,0) else lkG P j:=⟨_,rfl⟩
 have gf:g f=(1,0):=by rw[hg];exact if_pos rfl
 have gP:(P.map (·.1)).map g=P.map (·.2):=by
  rw[<- qEY hnd];refine jj fun j hj=>?_
  rw[hg];exact if_neg fun e=>hnf (by rw[<- e];exact hj)
 have gR:∀ j∈R,g j=(1,1):=fun j hj=>by
  have:=hRF j hj;simp only[jg,not_or] at this;rw[hg];show(if j=f then _ else _)=_;rw[if_neg this.1,qEX this.2]
 have hlen:n=P.length+1+R.length:=by
  have:=hR.length_eq;simp only[List.length_range,jd,jz,k9] at this;omega
 have hprod:∀ S,qlf (fun j=>pick (g j) (S.testBit j)) n=if S.testBit f then 0 else qom P S:=fun S=>by
  rw[qwP,qtt (hR.map _),js,qq2,je,qiB,gf,qzx (l:=R.map _) (fun y hy=>by
    obtain⟨j,hj,rfl⟩:=jf.1 hy;rw[gR j hj];unfold pick;split<;>rfl)]
  have e:((P.map (·.1)).map fun j=>pick (g j) (S.testBit j))=P.map fun p=>pick p.2 (S.testBit p.1):=by
    rw[List.map_map];refine jj fun p hp=>?_
    show pick (g p.1) _=_;have:g p.1=p.2:=by
     obtain⟨i,hi,rfl⟩:=ki.1 hp;have:=congrArg (fun l=>l[i]?) gP;simp only[List.getElem?_map,gE0 hi,Option.map_some,Option.some.injEq] at this;exact this
    rw[this]
  rw[e];unfold pick qom;split
  · simp [jA]
  · simp [jJ,jy];rfl
 have hsum:qeV (fun S=>pick x (S.testBit f)*qom P S) n f=(x.2-x.1)*rsum (fun S=>wq (popc n S) n*qlf (fun j=>pick (g j) (S.testBit j)) n) (2 ^ n):=by
  unfold qeV;rw[kf,<- qle];refine qbq fun S hS=>?_
  rw[hprod];unfold qnH;cases hb:S.testBit f with
  | true=>simp [jo,jA]
  | false =>
    have hb':=qgO hb;have e1:qom P (S+2 ^ f)=qom P S:=by
     unfold qom;congr 1;refine jj fun p hp=>?_
     rw[hb' p.1,decide_eq_false (fun e=>hnf (jf.2 ⟨p,hp,e⟩)),jL]
    dsimp only;rw[if_neg (by decide),if_neg (by decide),e1,hb' f,decide_eq_true rfl,kL];simp only[pick,if_true,kx,if_false]
    grind
 have hss:=qCz g n fun k=>wq k n
 rw[hsum,hss];congr 1;have hp2:((j9 n).map g).Perm ((1,0)::(jb R.length (1,1)++P.map (·.2))):=by
  refine(hR.map g).trans ?_;rw[js,je,gf,gP,jQ];have:R.map g=jb R.length (1,1):=by
    rw[List.eq_replicate_iff];exact⟨by simp,fun y hy=>by obtain⟨j,hj,rfl⟩:=jf.1 hy;exact gR j hj⟩
  rw[this];exact jG.cons _ jP
 rw[qxL hp2,qGp];have:=qDM (P.map (·.2)) R.length;rw[k9] at this;rw[<- this,<- hlen]
theorem qAx {n f:Nat} {P:List FP} (hnf:f ∉ P.map (·.1)):qeV (qom P) n f=0:=by
 unfold qeV;refine qjm fun S _=>?_
 unfold qnH;cases hb:S.testBit f with
 | true=>rfl
 | false =>
  have e1:qom P (S+2 ^ f)=qom P S:=by
   unfold qom;congr 1;refine jj fun p hp=>?_
   rw[qgO hb p.1,decide_eq_false (fun e=>hnf (jf.2 ⟨p,hp,e⟩)),jL]
  rw[if_neg (by decide),e1];grind
def askT (t:List NODE) (f:Nat):Bool:=t.any fun n=>!n.1&&decide (n.2.1=(f:Int))
def quU (m:qas) (f:Nat):Bool:=m.2.any fun t=>askT t f
def qrG (m:qas):List Bool:=(j9 m.1.toNat).map (quU m)
theorem qAb (m:qas):(qrG m).length=m.1.toNat:=by simp [qrG]
theorem qAc {m:qas} {f:Nat} (h:f<m.1.toNat):(qrG m)[f]?=some (quU m f):=by simp [qrG,h]
theorem qFr {m:qas} (hv:qfn m=some true) (hg:Good m):qjl m=some (qrG m):=by
 obtain⟨f0,f1,f2,f3⟩:=hg.1;have hc:(decide (0<=m.1)&&(decide (m.1<=64)&&(decide (m.2.length<=64)&&m.2.all fun t=>decide (t.length<=255)&&t.all fun n=>n.1 || (decide (0<=n.2.1)&&decide (n.2.1<m.1)))))=true:=by
  simp only[Bool.and_eq_true,decide_eq_true_eq,List.all_eq_true,Bool.or_eq_true];refine⟨f0,f1,f2,fun t ht=>?_⟩;obtain⟨i,hi,rfl⟩:=ki.1 ht;refine⟨(f3 i hi).2.1,fun n hn=>?_⟩;obtain⟨j,hj,rfl⟩:=ki.1 hn;cases hl:qi9 m.2[i][j] with
  | true=>exact .inl hl
  | false =>
   have:=hg.ranges hi j hj hl;exact .inr ⟨this.1,this.2.1⟩
 rw[qjl,hv,bS0,jh,cond_false,hc,cond_true];rfl
theorem qtR {t:List NODE} {g:Int} {i f:Nat} {l r:TR} (h:Is t g (.split i l r)) (ha:askT t f=false):(qcP (qdB t i)).toNat≠f:=by
 obtain⟨h1,h2,f0,f1,_⟩:=h;intro e;rw[qdG h1] at e;have:askT t f=true:=by
  rw[askT,List.any_eq_true];refine⟨t[i],gM0 h1,?_⟩;have h2:t[i].1=false:=h2;have e2:t[i].2.1=(f:Int):=by show qcP t[i]=_;omega
  rw[h2,decide_eq_true e2];rfl
 rw[ha] at this;cases this
theorem qwI {m:qas} {f:Nat} (h:quU m f=false) {t:List NODE} (ht:t∈m.2):askT t f=false:=by
 rw[quU,List.any_eq_false] at h;simpa using h t ht
theorem qrl {a b:Nat} (h:a+b<4611686018427387904):iadd .i64 (a:Int) (b:Int)=((a+b:Nat):Int):=by rw[qfq (by omega) (by omega)];omega
theorem qxT {n:Nat} (h:n<=30):qbe (n:Int)=some ((2 ^ n:Nat):Int):=by
 have key:=qfM (step:=qbb) (fun i=>(((n:Int),((2 ^ i:Nat):Int),(i:Int),()),())) n (r:=((((2 ^ n:Nat):Int),()),())) (by omega) (by
  intro g i hi;have d0:(i:Int)<(n:Int):=by omega
  have hpi:2 ^ i<=2 ^ 30:=jn (by decide) (by omega);have em:imul .i64 2 ((2 ^ i:Nat):Int)=((2 ^ (i+1):Nat):Int):=by
   obtain⟨x,hx⟩:∃ x,x=2 ^ i:=⟨_,rfl⟩;have:2 ^ (i+1)=2*x:=by rw[hx,jp];omega
   rw[<- hx] at hpi;rw[this,<- hx,qym]<;>omega
  rw[qbb,cnd d0,em,qaV (by omega)];rfl) (by
  intro g;rw[qbb,cnd' (by omega)])
 have key:lp qbb K0 (((n:Int),1,0,()),())=_:=key;rw[qbe,key];rfl
theorem qBi {S f:Nat} (hS:S<9223372036854775808) (hf:f<=1000000):qdW (S:Int) (f:Int)=some (S.testBit f):=by
 have key:=qfM (step:=qbm) (fun i=>((((S/2 ^ i:Nat):Int),(f:Int),(i:Int),()),())) f (r:=((((S/2 ^ f:Nat):Int),()),())) (by omega) (by
  intro g i hi;have d0:(i:Int)<(f:Int):=by omega
  have hd:(S/2 ^ i:Nat)<9223372036854775808:=jt (kI _ _) hS;have hq:iquo .i64 ((S/2 ^ i:Nat):Int) 2=((S/2 ^ (i+1):Nat):Int):=by
   obtain⟨x,hx⟩:∃ x,x=S/2 ^ i:=⟨_,rfl⟩;rw[jp,<- Nat.div_div_eq_div_mul,<- hx];rw[<- hx] at hd;rw[qq4 (by omega) (by omega) (by omega)];omega
  rw[qbm,cnd d0,hq,qaV (by omega)];rfl) (by
  intro g;rw[qbm,cnd' (by omega)])
 have e0:((S/2 ^ 0:Nat):Int)=(S:Int):=by simp
 rw[e0] at key;have key:lp qbm K0 (((S:Int),(f:Int),0,()),())=_:=key;rw[qdW,key,bS0];dsimp only;congr 1;have:=qlc S f;obtain⟨x,hx⟩:∃ x,x=S/2 ^ f:=⟨_,rfl⟩;rw[<- hx] at this ⊢;rw[qog (by omega)];cases hb:S.testBit f with
 | true=>rw[hb] at this;have:=this.2 rfl;exact decide_eq_true (by omega)
 | false=>rw[hb] at this;exact decide_eq_false (fun e=>by have:=this.1 (by omega);exact absurd this (by decide))
theorem qAs {S n:Nat} (hS:S<9223372036854775808) (hn:n<=1000000):qdM (S:Int) (n:Int)=some ((popc n S:Nat):Int):=by
 have key:=qfM (step:=qaZ) (fun i=>(((S:Int),(n:Int),((popc i S:Nat):Int),(i:Int),()),())) n (r:=((((popc n S:Nat):Int),()),())) (by omega) (by
  intro g i hi;have d0:(i:Int)<(n:Int):=by omega
  have hp:=qon i S;have i1:iadd .i64 (i:Int) 1=(i:Int)+1:=qaV (by omega);have i2:iadd .i64 ((popc i S:Nat):Int) 1=((popc i S:Nat):Int)+1:=qaV (by omega);rw[qaZ,cnd d0,qBi hS (by omega),bS0,i1,i2,popc];cases hb:S.testBit i with
  | true=>rw[cond_true,if_pos rfl];rfl
  | false=>rw[cond_false,if_neg (by decide)];rfl) (by
  intro g;rw[qaZ,cnd' (by omega)])
 have key:lp qaZ K0 (((S:Int),(n:Int),0,0,()),())=_:=key;rw[qdM,key];rfl
theorem qCy {v:Nat->Rat} {n f k S:Nat} (hn:n<=12) (hf:f<n) (hv:∀ S,S<2 ^ n->SzQ (v S) k) (hS:S<2 ^ n):SzQ (qnH v n f S) (2*k+40):=by
 unfold qnH;cases hb:S.testBit f with
 | true=>rw[if_pos rfl];exact SzQ.zero.mono (by omega)
 | false =>
  rw[if_neg (by decide)];have hp:popc n S<n:=by
   have hle:∀ m,m<=f->popc m S<=m:=fun m _=>qon m S
   have key:∀ m,f<m->popc m S+1<=m:=by
    intro m
    induction m with
    | zero=>intro h;omega
    | succ m ih =>
     intro h;rw[popc];by_cases e:m=f
     · subst e;rw[hb,if_neg (by decide)];have:=qon m S;omega
     · have := ih (by omega);split<;>omega
   have:=key n hf;omega
  have h1:=quO hp (by omega);have h2:=(hv _ (qjx hb hS hf)).sub (hv S hS);exact(h1.mul h2).mono (by omega)
theorem qz1 {v:Nat->Rat} {L:List RAT} {n k:Nat} (hn:n<=12) (hL:∀ S,S<2 ^ n->L[S]?=some (canQ (v S))) (hv:∀ S,S<2 ^ n->SzQ (v S) k) (hk:k<10000000) :
  qbM L (n:Int) (-1) false=some (flo n (qeV v n)):=by
 obtain⟨d,st,sm,f,hN,hT⟩:=qEe;have hp12:2 ^ n<=2 ^ 12:=jn (by decide) hn;have hp12:2 ^ n<=4096:=hp12;obtain⟨r,⟨d',st',sm',f',hr⟩,e⟩:=qjS (step:=qaA)
  (fun i w=>∃ d st sm f,w=((L,(n:Int),-1,false,(n:Int),flo i (qeV v n),(i:Int),()),((d,st,sm,f,()),()))/\Tab d st sm f)
  (fun r=>∃ d' st' sm' f',r=((flo n (qeV v n),()),())) n
  (v:=((L,(n:Int),-1,false,(n:Int),[],0,()),((d,st,sm,f,()),())))
  ⟨d,st,sm,f,rfl,hT⟩ (by omega) (by
  rintro i w hi ⟨d,st,sm,f,rfl,hT⟩;have d0:(i:Int)<(n:Int):=by omega
  have d1:(0:Int)<=(i:Int):=by omega
  obtain⟨s,hs⟩:∃ s:Nat->Rat,s=rsum (qnH v n i):=⟨_,rfl⟩;have ssz:∀ S,S<=2 ^ n->SzQ (s S) 100000000000:=fun S hS=>by
   have:=qme (f:=qnH v n i) (k:=2*k+40) (n:=S) (fun j hj=>qCy hn hi hv (by omega));rw[hs];exact this.mono (by have:=Nat.mul_le_mul (show S<=4096 by omega) (show 2*k+40+1<=20000041 by omega);omega)
  obtain⟨r,⟨d',st',sm',f',hr,hT'⟩,e⟩:=qjS (step:=qav)
   (fun S w=>∃ d st sm f,w=((L,(n:Int),-1,false,(n:Int),flo i (qeV v n),(i:Int),(S:Int),()),(((canQ (s S)).1.1,(canQ (s S)).1.2,(canQ (s S)).2,()),(d,st,sm,f,()),()))/\Tab d st sm f)
   (fun r=>∃ d st sm f,r=((L,(n:Int),-1,false,(n:Int),flo i (qeV v n),(i:Int),()),(((canQ (s (2 ^ n))).1.1,(canQ (s (2 ^ n))).1.2,(canQ (s (2 ^ n))).2,()),(d,st,sm,f,()),()))/\Tab d st sm f) (2 ^ n)
   (v:=((L,(n:Int),-1,false,(n:Int),flo i (qeV v n),(i:Int),0,()),(((canQ 0).1.1,(canQ 0).1.2,(canQ 0).2,()),(d,st,sm,f,()),())))
   ⟨d,st,sm,f,by rw[hs];rfl,hT⟩ (by omega) (by
   rintro S w hS ⟨d,st,sm,f,rfl,hT⟩;have c0:(S:Int)<((2 ^ n:Nat):Int):=by omega
   have c1:¬ (i:Int)=-1:=by omega
   have c2:¬ (-1:Int)>=0:=by omega
   have c3:(0:Int)<=(S:Int):=by omega
   have hin:=qBi (S:=S) (f:=i) (by omega) (by omega);have en:s (S+1)=s S+qnH v n i S:=by rw[hs];rfl
   cases hb:S.testBit i with
   | true =>
    refine⟨_,⟨d,st,sm,f,rfl,hT⟩,fun g=>?_⟩;have:s (S+1)=s S:=by rw[en,qnH,hb,if_pos rfl,jc]
    rw[qav,qxT (by omega),bS0,cnd c0,decide_eq_false c1,jv,cond_true,hin,bS0,hb,cond_true,qaV (by omega),this];rfl
   | false =>
    have hp:popc n S<n:=by
     have key:∀ m,i<m->popc m S+1<=m:=by
      intro m
      induction m with
      | zero=>intro h;omega
      | succ m ih =>
       intro h;rw[popc];by_cases e:m=i
       · subst e;rw[hb,if_neg (by decide)];have:=qon m S;omega
       · have := ih (by omega);split<;>omega
     have:=key n hi;omega
    have hlt:=qjx hb hS hi;have hi2:2 ^ i<=2 ^ 12:=jn (by decide) (by omega);have hi2:2 ^ i<=4096:=hi2;have hW:=qB7 hT hp (by omega);have hT':=tab1 sm;have hix:iadd .i64 (S:Int) ((2 ^ i:Nat):Int)=((S+2 ^ i:Nat):Int):=qrl (by omega);have m1:=qfE ((hv _ hlt).sm (by omega)) ((hv S hS).sm (by omega));rw[qae,qae] at m1;have m2:=qax ((quO hp (by omega)).sm (by decide)) (((hv _ hlt).sub (hv S hS)).sm (by omega));rw[qae,qae] at m2;have hz:SzQ (wq (popc n S) n*(v (S+2 ^ i)-v S)) 100000000:=((quO hp (by omega)).mul ((hv _ hlt).sub (hv S hS))).mono (by omega);have m3:=qbN ((ssz S (by omega)).sm (by decide)) (hz.sm (by decide));rw[qae,qae] at m3;refine⟨_,⟨1,0,sm,qst,rfl,hT'⟩,fun g=>?_⟩;rw[qav,qxT (by omega),bS0,cnd c0,decide_eq_false c1,jv,cond_true,hin,bS0,hb,cond_false,cnd' c2,qAs (by omega) (by omega),bS0,cnd' c2,hW,bS0,qxT (by omega),bS0,hix,cnd (Int.natCast_nonneg _),tN0,hL _ hlt,bS0,cnd c3,tN0,hL S hS,bS0,m1,bS0,m2,bS0];show(qaU (canQ (s S)) _).bind _=_;rw[m3,bS0,qaV (by omega),en,qnH,hb,if_neg (by decide)];rfl) (by
   rintro w ⟨d,st,sm,f,rfl,hT⟩;refine⟨_,⟨d,st,sm,f,rfl,hT⟩,fun g=>?_⟩;rw[qav,qxT (by omega),bS0,cnd' (by omega)])
  refine⟨_,⟨d',st',sm',f',rfl,hT'⟩,fun g=>?_⟩;rw[qaA,cnd d0,qdx,bS0,e,hr,bS0];dsimp only;rw[blt (by rw[qbi];omega),cond_true,qaV (by omega)];have:flo (i+1) (qeV v n)=flo i (qeV v n)++[canQ (s (2 ^ n))]:=by rw[hs];simp [flo,jw,qeV]
  rw[this];rfl) (by
  rintro w ⟨d,st,sm,f,rfl,hT⟩;refine⟨_,⟨d,st,sm,f,rfl⟩,fun g=>?_⟩;rw[qaA,cnd' (by omega)])
 rw[qbM,hN,bS0,cnd' (by omega)];dsimp only;rw[e,hr];rfl
def one0 (b:Bool):Rat:=if b then 1 else 0
def mulF (x:BA) (P:Nat->Rat) (k:Nat):Rat:=x.1*P k+(if k=0 then 0 else x.2*P (k-1))
def polF:List BA->Nat->Rat
 | []=>fun k=>if k=0 then 1 else 0
 | x::L=>mulF x (polF L)
theorem qAO (L:List BA):∀ k,polF L k=EE L fun j=>if j=k then 1 else 0:=by
 induction L with
 | nil => intro k; show (if k = 0 then (1 : Rat) else 0) = if 0 = k then 1 else 0
          by_cases h:k=0
          · subst h;rfl
          · rw[if_neg h,if_neg (fun e=>h e.symm)]
 | cons x L ih =>
  intro k;show mulF x (polF L) k=_;rw[mulF,EE,ih];congr 1;by_cases h:k=0
  · subst h;rw[if_pos rfl];have:EE L (fun j=>if j+1=0 then (1:Rat) else 0)=EE L fun j=>0*0:=quM fun j _=>by rw[if_neg (by omega),jo]
    rw[this,qGq,jA,jo]
  · rw [if_neg h, ih];congr 1;refine quM fun j _=>?_
    by_cases e:j=k-1
    · rw[if_pos e,if_pos (by omega)]
    · rw[if_neg e,if_neg (by omega)]
theorem qya (L:List BA):∀ k,L.length+1<=k->polF L k=0:=by
 induction L with
 | nil=>intro k h;exact if_neg (by simp at h;omega)
 | cons x L ih =>
  intro k h;simp only[jz] at h;show mulF x (polF L) k=0;rw[mulF,ih k (by omega),if_neg (by omega),ih (k-1) (by omega),jo,jo,jc]
theorem qAN {L M:List BA} (h:L.Perm M):polF L=polF M:=by
 funext k;rw[qAO,qAO];exact qxL h _
theorem qy3 (f:Nat->Rat) (n:Nat):rsum f (n+1)=f 0+rsum (fun i=>f (i+1)) n:=by
 induction n with
 | zero=>simp [rsum,jc,jI]
 | succ n ih=>rw[rsum,ih,rsum,kc]
theorem qCD {f:Nat->Rat} {n m:Nat} (h:∀ i,n<=i->f i=0) (hm:n<=m):rsum f m=rsum f n:=by
 induction m with
 | zero => have : n = 0 := by omega
           subst this;rfl
 | succ m ih =>
  by_cases e:n=m+1
  · rw[e]
  · rw[rsum,h m (by omega),ih (by omega),jc]
theorem qFx (L:List BA):∀ c,EE L c=rsum (fun j=>polF L j*c j) (L.length+1):=by
 induction L with
 | nil=>intro c;show c 0=0+1*c 0;rw[jJ,jI]
 | cons x L ih =>
  intro c;have e1:rsum (fun j=>polF (x::L) j*c j) ((x::L).length+1)=x.1*rsum (fun j=>polF L j*c j) (L.length+1)+x.2*rsum (fun j=>polF L j*c (j+1)) (L.length+1):=by
   have a:∀ j,polF (x::L) j*c j=(polF L j*c j)*x.1+(if j=0 then 0 else polF L (j-1)*c j)*x.2:=fun j=>by
    show mulF x (polF L) j*c j=_;rw[mulF];split<;>grind
   have b:rsum (fun j=>polF (x::L) j*c j) (L.length+2)=rsum (fun j=>(polF L j*c j)*x.1+(if j=0 then 0 else polF L (j-1)*c j)*x.2) (L.length+2):=qbq fun j _=>a j
   show rsum _ (L.length+2)=_;rw[b,qmf,qle,qle];have e2:rsum (fun j=>polF L j*c j) (L.length+2)=rsum (fun j=>polF L j*c j) (L.length+1):=qCD (fun j hj=>by rw[qya L j hj,jA]) (by omega);have e3:rsum (fun j=>if j=0 then 0 else polF L (j-1)*c j) (L.length+2)=rsum (fun j=>polF L j*c (j+1)) (L.length+1):=by
    rw[qy3,if_pos rfl,jI];exact qbq fun j _=>by rw[if_neg (by omega),kj]
   rw[e2,e3];grind
  rw[e1,EE,ih,ih]
theorem qqa {n:Nat} (h:0<n):((n:Nat):Rat)≠0:=by
 intro e;have:(n:Nat)=0:=by exact_mod_cast e
 omega
theorem qtL {i n:Nat} (h:i<n):wq i (n+1)=wq i n*(((n-i:Nat):Rat)/((n+1:Nat):Rat)):=by
 obtain⟨j,rfl⟩:∃ j,n=i+j+1:=⟨n-i-1,by omega⟩;have e1:i+j+1+1-i-1=j+1:=by omega
 have e2:i+j+1-i-1=j:=by omega
 have e3:i+j+1-i=j+1:=by omega
 have a1:((fac (j+1):Nat):Rat)=((j+1:Nat):Rat)*((fac j:Nat):Rat):=by rw[fac];push_cast;rfl
 have a2:((fac (i+j+1+1):Nat):Rat)=((i+j+1+1:Nat):Rat)*((fac (i+j+1):Nat):Rat):=by rw[fac];push_cast;rfl
 have n1:=qqa (qxm (i+j+1));have n2:=qqa (show 0<i+j+1+1 by omega);simp only[wq,quo];rw[e1,e2,e3,a1,a2];generalize ((fac i:Nat):Rat)=x;generalize ((fac j:Nat):Rat)=y;generalize ((fac (i+j+1):Nat):Rat)=z at *;generalize ((j+1:Nat):Rat)=u;generalize ((i+j+1+1:Nat):Rat)=v at *;rw[jB,jB,jB,kM]
 grind
theorem qz3 {i n:Nat} (h:i<n):wq (i+1) (n+1)=wq i n*(((i+1:Nat):Rat)/((n+1:Nat):Rat)):=by
 obtain⟨j,rfl⟩:∃ j,n=i+j+1:=⟨n-i-1,by omega⟩;have e1:i+j+1+1-(i+1)-1=j:=by omega
 have e2:i+j+1-i-1=j:=by omega
 have a1:((fac (i+1):Nat):Rat)=((i+1:Nat):Rat)*((fac i:Nat):Rat):=by rw[fac];push_cast;rfl
 have a2:((fac (i+j+1+1):Nat):Rat)=((i+j+1+1:Nat):Rat)*((fac (i+j+1):Nat):Rat):=by rw[fac];push_cast;rfl
 simp only[wq,quo];rw[e1,e2,a1,a2];generalize ((fac i:Nat):Rat)=x;generalize ((fac j:Nat):Rat)=y;generalize ((fac (i+j+1):Nat):Rat)=z at *;generalize ((i+1:Nat):Rat)=u;generalize ((i+j+1+1:Nat):Rat)=v at *;rw[jB,jB,jB,kM]
 grind
def fcP (p:AP):BA:=(p.2.1,one0 p.2.2)
def ekP (P:List AP):Nat->Rat:=polF (P.map fcP)
def wtP (P:List AP) (k:Nat):Rat:=wq k (P.length+1)*ekP P k
theorem qyz {P Q:List AP} (h:P.Perm Q):ekP P=ekP Q:=qAN (h.map fcP)
theorem qDk (P:List AP) (p:AP):ekP (P++[p])=mulF (fcP p) (ekP P):=by
 have:(P++[p]).Perm (p::P):=jP.trans (jG.refl _);rw[qyz this];rfl
theorem qBB (P:List AP) {k:Nat} (h:P.length<k):ekP P k=0:=qya _ k (by simp;omega)
theorem qEi:wtP [] 0=1:=by
 show wq 0 1*1=1;rw[jy];decide +kernel
abbrev LK:=Int×RAT×CELL
def lkF (P:List AP) (w:Nat->Rat) (i:Nat):LK :=
 if i=0 then (-1,canQ 1,true,canQ (w 0)) else
  let p:=(P[i-1]?).getD (0,0,false)
  ((p.1:Int),canQ p.2.1,p.2.2,canQ (w i))
def encK (P:List AP) (w:Nat->Rat):List LK:=(j9 (P.length+1)).map (lkF P w)
theorem qed (P:List AP) (w:Nat->Rat):(encK P w).length=P.length+1:=by simp [encK]
theorem qd2 {P:List AP} {w:Nat->Rat} {i:Nat} (h:i<P.length+1):(encK P w)[i]?=some (lkF P w i):=by simp [encK,h]
theorem qh9 {P:List AP} {w w':Nat->Rat} (h:∀ i,i<=P.length->w i=w' i):encK P w=encK P w':=by
 refine jj fun i hi=>?_
 have hi:=jT.1 hi;unfold lkF;split
 · rename_i e;subst e;rw[h 0 (by omega)]
 · rw[h i (by omega)]
theorem qA6 (P:List AP) (w:Nat->Rat) (i:Nat):(lkF P w i).2.2.2=canQ (w i):=by
 unfold lkF;split
 · rename_i e;subst e;rfl
 · rfl
theorem qEZ (P:List AP) (w:Nat->Rat) (i:Nat) (q:Rat):((lkF P w i).1,(lkF P w i).2.1,(lkF P w i).2.2.1,canQ q)=lkF P (fun j=>if j=i then q else w j) i:=by
 unfold lkF;split
 · rename_i e;subst e;simp
 · simp
theorem qrn {P:List AP} {w:Nat->Rat} {i:Nat} (q:Rat):(encK P w).set i ((lkF P w i).1,(lkF P w i).2.1,(lkF P w i).2.2.1,canQ q)=encK P fun j=>if j=i then q else w j:=by
 rw[qEZ];refine k7 fun j=>?_
 rw[jH];by_cases e:i=j
 · subst e;rw[if_pos rfl];by_cases hi:i<P.length+1
   · rw[if_pos (by rw[qed];exact hi),qd2 hi]
   · rw[if_neg (by rw[qed];exact hi),jr (by rw[qed];omega)]
 · rw [if_neg e];by_cases hj:j<P.length+1
   · rw [qd2 hj, qd2 hj];have:(if j=i then q else w j)=w j:=if_neg fun h=>e h.symm
     unfold lkF;split
     · rename_i e0;subst e0;simp only[this]
     · simp only[this]
   · rw[jr (by rw[qed];omega),jr (by rw[qed];omega)]
theorem qpq {P:List AP} {w:Nat->Rat} {i:Nat} (h:i<P.length):lkF P w (i+1)=((P[i].1:Int),canQ P[i].2.1,P[i].2.2,canQ (w (i+1))):=by
 simp [lkF,gE0 h]
theorem qBA (P:List AP) (w:Nat->Rat) (p:AP) (q:Rat):encK P w++[((p.1:Int),canQ p.2.1,p.2.2,canQ q)]=encK (P++[p]) fun j=>if j=P.length+1 then q else w j:=by
 have e:encK (P++[p]) (fun j=>if j=P.length+1 then q else w j)=(j9 (P.length+1)).map (lkF (P++[p]) fun j=>if j=P.length+1 then q else w j)++[lkF (P++[p]) (fun j=>if j=P.length+1 then q else w j) (P.length+1)]:=by
   unfold encK;rw[jd,jV,jw,js];rfl
 rw[e];congr 1
 · refine jj fun i hi => ?_
   have hi:=jT.1 hi;unfold lkF;split
   · rename_i e;subst e;simp
   · have : ¬ i = P.length + 1 := by omega
     rw[List.getElem?_append_left (by omega)];simp only[if_neg this]
 · simp [lkF]
structure qif (P:List AP) (k g:Nat):Prop where
 nd:(P.map (·.1)).Nodup
 sz:ASz P k
 len:P.length<=20
 lt:∀ p∈P,p.1<g
 pos:∀ p∈P,0<p.2.1
theorem qDG:qit=some (encK [] (wtP [])):=by
 rw[qit,qmj,bS0,bS0];show some [_]=some [lkF [] (wtP []) 0];simp only[lkF,if_true,qEi]
theorem qFw {P:List AP} {w:Nat->Rat} {f i:Nat} (hi:i<P.length) (he:P[i].1=f) (hn:∀ j (hj:j<P.length),j<i->P[j].1≠f) (hl:P.length<=1000000):qbO (f:Int) (encK P w)=some (((i+1:Nat):Int),encK P w):=by
 have el:=qed P w;have key:=qfM (step:=qam) (fun k=>(((f:Int),((P.length+1:Nat):Int),(k:Int),()),((encK P w,()),()))) (i+1) (r:=.inr ((((i+1:Nat):Int),()),((encK P w,()),()))) (by omega) (by
  intro g k hk;have d0:(k:Int)<((P.length+1:Nat):Int):=by omega
  have d1:(0:Int)<=(k:Int):=by omega
  have d2:(k:Int)<((encK P w).length:Int):=by omega
  rw[qam,cnd d0,cnd2 d1 d2,tN0,qd2 (by omega),bS0];cases k with
  | zero=>rw[cnd' (by omega),qaV (by omega)];rfl
  | succ k =>
   have hne:¬ (lkF P w (k+1)).1=(f:Int):=by
    rw[qpq (by omega)];have:=hn k (by omega) (by omega);show ¬ ((P[k].1:Nat):Int)=_;omega
   rw[cnd (by omega),cnd' hne,qaV (by omega)];rfl) (by
  intro g;have d0:((i+1:Nat):Int)<((P.length+1:Nat):Int):=by omega
  have d1:(0:Int)<=((i+1:Nat):Int):=by omega
  have d2:((i+1:Nat):Int)<((encK P w).length:Int):=by omega
  have he':(lkF P w (i+1)).1=(f:Int):=by rw[qpq hi];show((P[i].1:Nat):Int)=_;omega
  rw[qam,cnd d0,cnd2 d1 d2,tN0,qd2 (by omega),bS0,cnd (by omega),cnd he'])
 have key:lp qam K0 (((f:Int),((P.length+1:Nat):Int),0,()),((encK P w,()),()))=_:=key;rw[qbO,el,key];rfl
theorem qyN {P:List AP} {w:Nat->Rat} {f:Nat} (hn:∀ p∈P,p.1≠f) (hl:P.length<=1000000):qbO (f:Int) (encK P w)=some (0,encK P w):=by
 have el:=qed P w;have key:=qfM (step:=qam) (fun k=>(((f:Int),((P.length+1:Nat):Int),(k:Int),()),((encK P w,()),()))) (P.length+1) (r:=.inl ((),((encK P w,()),()))) (by omega) (by
  intro g k hk;have d0:(k:Int)<((P.length+1:Nat):Int):=by omega
  have d1:(0:Int)<=(k:Int):=by omega
  have d2:(k:Int)<((encK P w).length:Int):=by omega
  rw[qam,cnd d0,cnd2 d1 d2,tN0,qd2 (by omega),bS0];cases k with
  | zero=>rw[cnd' (by omega),qaV (by omega)];rfl
  | succ k =>
   have hne:¬ (lkF P w (k+1)).1=(f:Int):=by
    rw[qpq (by omega)];have:=hn P[k] (gM0 (by omega));show ¬ ((P[k].1:Nat):Int)=_;omega
   rw[cnd (by omega),cnd' hne,qaV (by omega)];rfl) (by
  intro g;rw[qam,cnd' (by omega)])
 have key:lp qam K0 (((f:Int),((P.length+1:Nat):Int),0,()),((encK P w,()),()))=_:=key;rw[qbO,el,key];rfl
theorem qtI {P:List AP} {w:Nat->Rat} (hl:P.length<=1000000):qcO (encK P w)=some (encW P,encK P w):=by
 have el:=qed P w;have key:=qfM (step:=qaH) (fun k=>((encW (P.take (k-1)),((P.length+1:Nat):Int),(k:Int),()),((encK P w,()),()))) (P.length+1) (r:=((encW P,()),((encK P w,()),()))) (by omega) (by
  intro g k hk;have d0:(k:Int)<((P.length+1:Nat):Int):=by omega
  have d1:(0:Int)<=(k:Int):=by omega
  have d2:(k:Int)<((encK P w).length:Int):=by omega
  rw[qaH,cnd d0,cnd2 d1 d2,tN0,qd2 (by omega),bS0];cases k with
  | zero=>rw[cnd' (by omega),qaV (by omega)];rfl
  | succ k =>
   have hk':k<P.length:=by omega
   have e:encW (P.take (k+1))=encW (P.take k)++[((lkF P w (k+1)).1,(lkF P w (k+1)).2.1,(lkF P w (k+1)).2.2.1)]:=by
    rw[qpq hk'];exact qjb encP hk'
   rw[cnd (by omega),blt (by rw[qrm,List.length_take];omega),cond_true,qaV (by omega)];show g ((encW (P.take k)++_,_,_,_),_)=g ((encW (P.take (k+1)),_,_,_),_);rw[e];rfl) (by
  intro g;rw[qaH,cnd' (by omega),kj,ji (ja _)])
 have key:lp qaH K0 (([],((P.length+1:Nat):Int),0,()),((encK P w,()),()))=_:=key;rw[qcO,el,key];rfl
theorem qso {a b:Nat} (ha:a<1000000) (hb:b<1000000):qdc (a:Int) (b:Int)=some (canQ ((a:Rat)/(b:Rat))):=by
 have:=qli (n:=(a:Int)) (d:=(b:Int)) (by omega) (by omega) (by omega) (by omega);rw[this];rfl
theorem qqn {a b:Nat} (ha:a<1000000) (hb:b<1000000):SzQ ((a:Rat)/(b:Rat)) 2:=by
 have h:∀ {n:Nat},n<1000000->SzQ (n:Rat) 1:=fun {n} hn=>by
  have:=SzQ.int (z:=(n:Int)) (by omega);exact this
 exact(h ha).div (h hb)
theorem qAY (b:Bool):SzQ (one0 b) 1:=by cases b;exact SzQ.zero;exact SzQ.one
def ekS (k:Nat):Nat->Nat
 | 0=>1
 | n+1=>2*ekS k n+k+2
theorem qyy (k:Nat) {n m:Nat} (h:n<=m):ekS k n<=ekS k m:=by
 induction h with
 | refl=>exact ja _
 | step _ ih=>simp only[ekS];omega
theorem qwb {k n:Nat} (hk:k<=70) (hn:n<=20):ekS k n<=76546048:=by
 have h1:=qyy k hn;have h2:ekS k 20<=ekS 70 20:=by
  have:∀ n,ekS k n<=ekS 70 n:=by
   intro n
   induction n with
   | zero=>exact ja _
   | succ n ih=>simp only[ekS];omega
  exact this 20
 have h3:ekS 70 20<=76546048:=by decide +kernel
 omega
theorem qD9 {P:List AP} {k:Nat} (h:ASz P k):∀ i,SzQ (ekP P i) (ekS k P.length):=by
 induction P with
 | nil =>
  intro i;show SzQ (if i=0 then (1:Rat) else 0) 1;split
  · exact SzQ.one
  · exact SzQ.zero
 | cons p P ih =>
  intro i;have h1:SzQ p.2.1 k:=h p jO;have ih:=ih fun x hx=>h x (jR _ hx)
  show SzQ (mulF (fcP p) (ekP P) i) _;unfold mulF;have a:SzQ ((fcP p).1*ekP P i) (k+ekS k P.length):=h1.mul (ih i);have b:SzQ (if i=0 then 0 else (fcP p).2*ekP P (i-1)) (1+ekS k P.length):=by
    split
    · exact SzQ.zero.mono (by omega)
    · exact(qAY p.2.2).mul (ih _)
  exact(a.add b).mono (by simp only[jz,ekS];omega)
theorem qxN {P:List AP} {k:Nat} (h:ASz P k) (hl:P.length<=20) {i:Nat} (hi:i<=P.length):SzQ (wtP P i) (30+ekS k P.length) :=
 (quO (by omega) (by omega)).mul (qD9 h i)
def extW (P:List AP) (p:AP) (i:Nat) (j:Nat):Rat :=
 if j<i then wtP P j else if j=i then (if j=P.length+1 then 0 else (p.2.1*wtP P j)*(((P.length+1-j:Nat):Rat)/((P.length+1+1:Nat):Rat))) else wtP (P++[p]) j
theorem qtK {P:List AP} {p:AP} {j:Nat} (hj:j<=P.length+1):wtP (P++[p]) j =
  (if j=P.length+1 then 0 else (p.2.1*wtP P j)*(((P.length+1-j:Nat):Rat)/((P.length+1+1:Nat):Rat))) +
  (if j=0 then 0 else one0 p.2.2*(wtP P (j-1)*(((j-1+1:Nat):Rat)/((P.length+1+1:Nat):Rat)))):=by
 unfold wtP;rw[qDk,mulF,jd,jV];show wq j (P.length+1+1)*(p.2.1*ekP P j+_)=_;have a:(if j=P.length+1 then (0:Rat) else (p.2.1*(wq j (P.length+1)*ekP P j))*(((P.length+1-j:Nat):Rat)/((P.length+1+1:Nat):Rat)))=wq j (P.length+1+1)*(p.2.1*ekP P j):=by
  split
  · rw[qBB P (by omega),jo,jo]
  · rw[qtL (i:=j) (n:=P.length+1) (by omega)];grind
 have b:(if j=0 then (0:Rat) else one0 p.2.2*(wq (j-1) (P.length+1)*ekP P (j-1)*(((j-1+1:Nat):Rat)/((P.length+1+1:Nat):Rat))))=wq j (P.length+1+1)*(if j=0 then 0 else (fcP p).2*ekP P (j-1)):=by
  split
  · rw[jo]
  · have := qz3 (i := j - 1) (n := P.length + 1) (by omega);rw[show j-1+1=j by omega] at this;rw[this,show j-1+1=j by omega];show one0 p.2.2*_=_*(one0 p.2.2*_)
    grind
 rw[a,b];grind
theorem qwB {P:List AP} {k g:Nat} (h:qif P k g) {f:Nat} {q:Rat} {ok:Bool} (hf:∀ p∈P,p.1≠f) (hq:SzQ q k) (hq0:0<q) (hk:k<=70) (hl:P.length<20) (hfl:f<1000000) :
  qaW (f:Int) (canQ q) ok (encK P (wtP P))=some (0,encK (P++[(f,q,ok)]) (wtP (P++[(f,q,ok)]))):=by
 obtain⟨p,ep⟩:∃ p:AP,p=(f,q,ok):=⟨_,rfl⟩;have hl2:=h.len;have el:=qed P (wtP P);have hS:=qwb (k:=k) (n:=P.length) hk (by omega);have wsz:∀ i,i<=P.length->SzQ (wtP P i) 100000000:=fun i hi=>(qxN h.sz hl2 hi).mono (by omega)
 obtain⟨N,eN⟩:∃ N,N=P.length+1:=⟨_,rfl⟩;have hsnoc:=qBA P (wtP P) p 0;have e0:encK (P++[p]) (fun j=>if j=P.length+1 then 0 else wtP P j)=encK (P++[p]) (extW P p N):=by
  refine qh9 fun j hj=>?_
  simp only[jd,jV] at hj;show(if j=P.length+1 then 0 else wtP P j)=extW P p N j;unfold extW;by_cases e:j=P.length+1
  · rw[if_pos e,if_neg (by omega),if_pos (by omega),if_pos e]
  · rw[if_neg e,if_pos (by omega)]
 have ell:∀ w,(encK (P++[p]) w).length=N+1:=fun w=>by rw[qed,jd];simp [eN]
 have pn1:iadd .i64 ((N:Nat):Int) 1=((N+1:Nat):Int):=qaV (by omega);have key:=qfM (step:=qar) (fun m=>((ok,(N:Int),((N:Nat):Int)-1-(m:Int),()),(((canQ q).1.1,(canQ q).1.2,(canQ q).2,()),(encK (P++[p]) (extW P p (N-m)),()),()))) N
  (r:=((),((encK (P++[p]) (extW P p 0),()),()))) (by omega) (by
  intro g m hm;obtain⟨i,hi⟩:∃ i,N=i+m+1:=⟨N-m-1,by omega⟩;have ei:((N:Nat):Int)-1-(m:Int)=(i:Int):=by omega
  have ei2:((N:Nat):Int)-1-((m+1:Nat):Int)=(i:Int)-1:=by omega
  have en1:N-m=i+1:=by omega
  have en2:N-(m+1)=i:=by omega
  have hiN:i<N:=by omega
  have d0:((i:Nat):Int)>=0:=by omega
  have d1:(0:Int)<=(i:Int):=by omega
  have d2:(i:Int)<((encK (P++[p]) (extW P p (i+1))).length:Int):=by rw[ell];omega
  have g1:=qd2 (P:=P++[p]) (w:=extW P p (i+1)) (i:=i) (by rw[jd];simp;omega);have wi:(lkF (P++[p]) (extW P p (i+1)) i).2.2.2=canQ (wtP P i):=by rw[qA6,extW,if_pos (by omega)]
  have hw:=wsz i (by omega);have q1:iadd .i64 (i:Int) 1=((i+1:Nat):Int):=qaV (by omega);have q2:isub .i64 (N:Int) (i:Int)=((N-i:Nat):Int):=by rw[qci (by omega) (by omega)];omega
  have q3:isub .i64 (i:Int) 1=(i:Int)-1:=by rw[qci (by omega) (by omega)]
  have f1:=qso (a:=i+1) (b:=N+1) (by omega) (by omega);have f2:=qso (a:=N-i) (b:=N+1) (by omega) (by omega);have s1:=qqn (a:=i+1) (b:=N+1) (by omega) (by omega);have s2:=qqn (a:=N-i) (b:=N+1) (by omega) (by omega);have m1:=qax (hq.sm (by omega)) (hw.sm (by decide));rw[qae,qae] at m1;have m1:qaj (((canQ q).1.1,(canQ q).1.2),(canQ q).2) (canQ (wtP P i))=some (canQ (q*wtP P i)):=m1;have z1:SzQ (q*wtP P i) 200000000:=(hq.mul hw).mono (by omega);have m2:=qax (z1.sm (by decide)) (s2.sm (by decide));rw[qae,qae] at m2;have fin0:extW P p i i=q*wtP P i*(((N-i:Nat):Rat)/((N+1:Nat):Rat)):=by
    rw[extW,if_neg (by omega),if_pos rfl,if_neg (by omega),ep,eN]
  show qar g ((ok,(N:Int),((N:Nat):Int)-1-(m:Int),()),(((canQ q).1.1,(canQ q).1.2,(canQ q).2,()),(encK (P++[p]) (extW P p (N-m)),()),()))=g ((ok,(N:Int),((N:Nat):Int)-1-((m+1:Nat):Int),()),(((canQ q).1.1,(canQ q).1.2,(canQ q).2,()),(encK (P++[p]) (extW P p (N-(m+1))),()),()));rw[ei,ei2,en1,en2,qar,cnd d0,cnd2 d1 d2,tN0,g1,bS0,wi];cases hok:ok with
  | true =>
    have a1:(0:Int)<=((i+1:Nat):Int):=by omega
    have a2:((i+1:Nat):Int)<((encK (P++[p]) (extW P p (i+1))).length:Int):=by rw[ell];omega
    have g2:=qd2 (P:=P++[p]) (w:=extW P p (i+1)) (i:=i+1) (by rw[jd];simp;omega);have m3:=qax (hw.sm (by decide)) (s1.sm (by decide));rw[qae,qae] at m3;have z3:SzQ (wtP P i*(((i+1:Nat):Rat)/((N+1:Nat):Rat))) 200000000:=(hw.mul s1).mono (by omega);have z4:SzQ (extW P p (i+1) (i+1)) 400000000:=by
     rw[extW,if_neg (by omega),if_pos rfl];split
     · exact SzQ.zero.mono (by decide)
     · have hw' := wsz (i + 1) (by omega);have s3:=qqn (a:=P.length+1-(i+1)) (b:=P.length+1+1) (by omega) (by omega);rw[ep];exact((hq.mul hw').mul s3).mono (by omega)
    have m4:=qbN (z4.sm (by decide)) (z3.sm (by decide));rw[qae,qae] at m4;have fin1:extW P p (i+1) (i+1)+wtP P i*(((i+1:Nat):Rat)/((N+1:Nat):Rat))=extW P p i (i+1):=by
     have hs:=qtK (P:=P) (p:=p) (j:=i+1) (by omega);rw[if_neg (show ¬ i+1=0 by omega),kj,show one0 p.2.2=1 by rw[ep,hok];rfl,jJ] at hs;have e1:extW P p i (i+1)=wtP (P++[p]) (i+1):=by rw[extW,if_neg (by omega),if_neg (by omega)]
     have e2:extW P p (i+1) (i+1)=if i+1=P.length+1 then 0 else (p.2.1*wtP P (i+1))*(((P.length+1-(i+1):Nat):Rat)/((P.length+1+1:Nat):Rat)):=by rw[extW,if_neg (by omega),if_pos rfl]
     rw[e1,e2,hs,eN]
    have u1:=qrn (P:=P++[p]) (w:=extW P p (i+1)) (i:=i+1) (extW P p i (i+1));have d3:(i:Int)<(((encK (P++[p]) (fun j=>if j=i+1 then extW P p i (i+1) else extW P p (i+1) j))).length:Int):=by rw[ell];omega
    have g3:=qd2 (P:=P++[p]) (w:=fun j=>if j=i+1 then extW P p i (i+1) else extW P p (i+1) j) (i:=i) (by rw[jd];simp;omega);have u2:=qrn (P:=P++[p]) (w:=fun j=>if j=i+1 then extW P p i (i+1) else extW P p (i+1) j) (i:=i) (extW P p i i);rw[cond_true,q1,cnd2 a1 a2,tN0,g2,bS0,pn1,f1,bS0,m3,bS0,qA6,m4,bS0,fin1,cnd2 a1 a2,bS0,m1,bS0,q2,f2,bS0,m2,bS0,u1,cnd2 d1 d3,g3,bS0,<- fin0,u2,q3];have:encK (P++[p]) (fun j=>if j=i then extW P p i i else if j=i+1 then extW P p i (i+1) else extW P p (i+1) j)=encK (P++[p]) (extW P p i):=by
     refine qh9 fun j hj=>?_
     by_cases e1:j=i
     · rw[if_pos e1,e1]
     · rw [if_neg e1];by_cases e2:j=i+1
       · rw[if_pos e2,e2]
       · rw [if_neg e2];unfold extW;by_cases e3:j<i
         · rw[if_pos (by omega),if_pos e3]
         · rw[if_neg (by omega),if_neg (by omega),if_neg (by omega),if_neg (by omega)]
    rw[this]
  | false =>
    have u2:=qrn (P:=P++[p]) (w:=extW P p (i+1)) (i:=i) (extW P p i i);rw[cond_false,m1,bS0,q2,pn1,f2,bS0,m2,bS0,cnd2 d1 d2,bS0,<- fin0,u2,q3];have:encK (P++[p]) (fun j=>if j=i then extW P p i i else extW P p (i+1) j)=encK (P++[p]) (extW P p i):=by
     refine qh9 fun j hj=>?_
     simp only[jd,jV] at hj;by_cases e1:j=i
     · rw[if_pos e1,e1]
     · rw [if_neg e1];unfold extW;by_cases e3:j<i
       · rw[if_pos (by omega),if_pos e3]
       · by_cases e2 : j = i + 1
         · subst e2;have hs:=qtK (P:=P) (p:=p) (j:=i+1) (by omega);rw[show one0 p.2.2=0 by rw[ep,hok];rfl,jA,if_neg (show ¬ i+1=0 by omega),jc] at hs
           rw[if_neg (show ¬ i+1<i+1 by omega),if_pos rfl,if_neg (show ¬ i+1<i by omega),if_neg (show ¬ i+1=i by omega),hs]
         · rw[if_neg (by omega),if_neg e2,if_neg (by omega),if_neg (by omega)]
    rw[this]) (by
  intro g;rw[Nat.sub_self,qar,cnd' (by omega)])
 have efin:encK (P++[p]) (extW P p 0)=encK (P++[p]) (wtP (P++[p])):=by
  refine qh9 fun j hj=>?_
  unfold extW;rw[if_neg (by omega)];by_cases e:j=0
  · subst e;have hs:=qtK (P:=P) (p:=p) (j:=0) (by omega);rw[if_pos rfl,jc] at hs;rw[if_pos rfl,hs]
  · rw[if_neg e]
 rw[efin] at key;have qn:isub .i64 ((P.length+1:Nat):Int) 1=((N:Nat):Int)-1-((0:Nat):Int):=by rw[qci (by omega) (by omega)];omega
 have c0:¬ ((P.length+1:Nat):Int)=0:=by omega
 have hsg:rcmp q 0>0:=qx6.2 hq0;have hsign:=qo8 (hq.sm (by omega));rw[qae] at hsign;have hcl:=qbf (hq.sm (by omega));rw[qae] at hcl;rw[qaW,el,cnd' c0,cnd' (by omega),qyN hf (by omega),bS0];dsimp only;rw[cnd' (by omega),hsign,bS0,cnd' (by omega),hcl,bS0,qdx,bS0,blt (by rw[el];omega),cond_true];have e1:encK P (wtP P)++[((f:Int),(canQ q,(ok,canQ 0)))]=encK (P++[p]) (extW P p N):=by
  rw[<- e0,<- hsnoc,ep]
 rw[e1,el,qn];have key:lp qar K0 ((ok,((P.length+1:Nat):Int),((N:Nat):Int)-1-((0:Nat):Int),()),(((canQ q).1.1,(canQ q).1.2,(canQ q).2,()),(encK (P++[p]) (extW P p N),()),()))=some ((),(encK (P++[p]) (wtP (P++[p])),()),()):=by
  rw[<- eN];exact key
 rw[key,ep];rfl
end Go.Proofs.YtiefddjokkihdaaGreatDoor.X
