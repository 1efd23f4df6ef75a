/- Own work: part of the proof; the first line of each part says what it tells. -/
import Derived.Test.YtaeiamdjpkgjpaaGreatDoorLv8


namespace Go.Proofs.YtaeiamdjpkgjpaaGreatDoor.X
open Go
set_option linter.unusedVariables false
set_option linter.unusedSimpArgs false
theorem quv {a q:List Int} {i:Int} {y R:Nat} (hy:(digs y).length<1099511627776) (hR:(digs R).length<1099511627776) (hRy:R<y*10000) :
  lp qaC K0 ((a,digs y,q,digs R,i,0,10000,()),())=some ((a,digs y,q,digs R,i,((R/y:Nat):Int),()),()):=by
 have hy0:0<y:=by
  rcases Nat.eq_zero_or_pos y with h | h
  · subst h;omega
  · exact h
 obtain⟨r,rfl,hlp⟩:=qlj (step:=qaC) (fun s=>∃ lo hi:Nat,s=((a,digs y,q,digs R,i,(lo:Int),(hi:Int),()),())/\lo<hi/\hi<=10000/\y*lo<=R/\R<y*hi) (fun s=>(s.1.2.2.2.2.2.2.1-s.1.2.2.2.2.2.1).toNat)
  (fun r=>r=((a,digs y,q,digs R,i,((R/y:Nat):Int),()),())) (v:=((a,digs y,q,digs R,i,0,10000,()),())) ⟨0,10000,rfl,by omega,by omega,by simp,hRy⟩ (by simp) (by
    rintro s ⟨lo,hi,rfl,hlt,hh,h1,h2⟩;have e1:isub .i64 (hi:Int) (lo:Int)=(hi:Int)-lo:=by rw[qcP]<;>omega
    by_cases hd:hi-lo<=1
    · have : hi = lo + 1 := by omega
      subst this;have hq:R/y=lo:=by
        rw[Nat.div_eq_iff hy0];rw[Nat.mul_add,Nat.mul_one] at h2;rw[Nat.mul_comm];omega
      refine .inl ⟨_,rfl,fun g=>?_⟩;rw[qaC,e1,cnd' (by omega),hq]
    · have e2 : iquo .i64 (iadd .i64 (lo : Int) (hi : Int)) 2 = (((lo + hi) / 2 : Nat) : Int) := by
        have:iadd .i64 (lo:Int) (hi:Int)=((lo+hi:Nat):Int):=by rw[qe3]<;>omega
        rw[this,qrj (by omega) (by omega) (by omega)];omega
      have hmid:(lo+hi)/2<10000:=by omega
      have hs:=qit (n:=(lo+hi)/2) (by omega);have hdl:(digs ((lo+hi)/2)).length<=1:=qdm (by omega);have ht:=qnu (qdS y) (qdS ((lo+hi)/2)) (by omega) (by omega);rw[qcN,qcN] at ht;have hml:=qiW y ((lo+hi)/2);have ho:=qnv (n:=y*((lo+hi)/2)) (m:=R) (by omega);have hmlo:lo<(lo+hi)/2:=by omega
      have hmhi:(lo+hi)/2<hi:=by omega
      generalize (lo+hi)/2=mid at *;have step:∀ g,qaC g ((a,digs y,q,digs R,i,(lo:Int),(hi:Int),()),())=bif decide (ncmp (y*mid) R<=0) then g ((a,digs y,q,digs R,i,(mid:Int),(hi:Int),()),()) else g ((a,digs y,q,digs R,i,(lo:Int),(mid:Int),()),()):=by
        intro g;rw[qaC,e1,cnd (by omega),e2,hs,bS0,ht,bS0,ho,bS0]
      by_cases hc:y*mid<=R
      · have c : ncmp (y * mid) R <= 0 := by unfold ncmp; split <;> (try split) <;> omega
        exact .inr ⟨_,⟨mid,hi,rfl,hmhi,hh,hc,h2⟩,by show((hi:Int)-(mid:Int)).toNat<((hi:Int)-(lo:Int)).toNat;omega,fun g=>by rw[step,cnd c]⟩
      · have c : ¬ ncmp (y * mid) R <= 0 := by unfold ncmp; rw [if_neg (by omega), if_pos (by omega)]; decide
        exact .inr ⟨_,⟨lo,mid,rfl,hmlo,by omega,h1,by omega⟩,by show((mid:Int)-(lo:Int)).toNat<((hi:Int)-(lo:Int)).toNat;omega,fun g=>by rw[step,cnd' c]⟩)
 exact hlp
theorem qzH {R y k:Nat} (h:R<y*10000) (hy:y<10000 ^ k):R<10000 ^ (k+1):=by
 rw[Nat.pow_succ];exact Nat.lt_of_lt_of_le h (Nat.mul_le_mul_right _ (Nat.le_of_lt hy))
theorem qzF {a:List Int} {y:Nat} (ha:Dig a) (hl:a.length<1099511627776) (hy:(digs y).length<1099511627775) (hy0:0<y):qec a (digs y)=some (digs (dd a/y),digs (dd a % y)):=by
 obtain⟨r,⟨s,c,rfl,hs,hsl,hc,hsn⟩,hlp⟩:=qlj (step:=qba)
  (fun v=>∃ (j:Nat) (s:List Int) (c:Nat),j<=a.length/\v=((a,digs y,List.replicate j 0++s,digs c,(j:Int)-1,()),())/\j+s.length=a.length/\Dig s/\c<y/\dd (a.drop j)=y*dd s+c)
  (fun v=>(v.1.2.2.2.2.1+1).toNat)
  (fun r=>∃ (s:List Int) (c:Nat),r=((s,digs c,()),())/\s.length=a.length/\Dig s/\c<y/\dd a=y*dd s+c) (v:=((a,digs y,List.replicate a.length 0,[],(a.length:Int)-1,()),()))
  ⟨a.length, [], 0, Nat.le_refl _, by simp [qdI], by simp, Dig.nil, hy0, by simp⟩ (by simp; omega) (by
   rintro v ⟨j,s,c,hj,rfl,hjl,hsl,hc,hn⟩;cases j with
   | zero =>
    refine .inl ⟨((s,digs c,()),()),⟨s,c,rfl,by omega,hsl,hc,by simpa using hn⟩,fun g=>by simp [qba]⟩
   | succ j =>
    have hja:j<a.length:=by omega
    have b:=ha.at hja;have e3:((j+1:Nat):Int)-1=(j:Int):=by omega
    rw[e3];obtain⟨x,hx⟩:=Int.eq_ofNat_of_zero_le b.1;have hx':x<10000:=by omega
    have hcl:=qh7 (Nat.le_of_lt hc);have htr:=qpl (a:=[a[j]]++digs c) (Dig.append (Dig.cons b Dig.nil) (qdS c)) (by simp;omega);have hval:dd ([a[j]]++digs c)=x+10000*c:=by
      show dd (a[j]::digs c)=_;rw[dd,qcN];omega
    rw[hval] at htr;have hR:x+10000*c<y*10000:=by omega
    have hRl:(digs (x+10000*c)).length<1099511627776:=by
      have h5:x+10000*c<10000 ^ ((digs y).length+1):=by
       have h6:=qqX (digs y);rw[qcN] at h6;exact qzH hR h6
      have:=qdm h5;omega
    have hin:=quv (a:=a) (q:=List.replicate (j+1) 0++s) (i:=(j:Int)) (by omega) hRl hR;have k1:=Nat.div_add_mod (x+10000*c) y;have k5:=Nat.mod_lt (x+10000*c) hy0;have hq:(x+10000*c)/y<10000:=by rw[Nat.div_lt_iff_lt_mul hy0];omega
    have hs1:=qit (n:=(x+10000*c)/y) (by omega);have hdl:(digs ((x+10000*c)/y)).length<=1:=qdm (by omega);have ht:=qnu (qdS y) (qdS ((x+10000*c)/y)) (by omega) (by omega);rw[qcN,qcN] at ht;have hm:=qxS (qdS (x+10000*c)) (qdS (y*((x+10000*c)/y))) (by omega) (by rw[qcN,qcN];omega);rw[qcN,qcN] at hm;have hrest:x+10000*c-y*((x+10000*c)/y)=(x+10000*c) % y:=by omega
    rw[hrest] at hm;generalize (x+10000*c)/y=qd at *;generalize (x+10000*c) % y=rr at *;refine .inr ⟨((a,digs y,List.replicate j 0++(qd:Int)::s,digs rr,(j:Int)-1,()),()),⟨j,_,_,by omega,rfl,by simp;omega,Dig.cons (by omega) hsl,k5,?_⟩,by simp,fun g=>?_⟩
    · rw [qB1 a hja, hn, dd];have k2:((qd:Int) % 10000).toNat=qd:=by omega
      have k3:(a[j] % 10000).toNat=x:=by omega
      rw[k2,k3]
      grind
    · have q5 : isub .i64 (j : Int) 1 = (j : Int) - 1 := by rw [qcP] <;> omega
      have e5:(List.replicate (j+1) (0:Int)++s).set j (qd:Int)=List.replicate j 0++(qd:Int)::s:=by
       rw[List.replicate_succ',List.append_assoc,List.set_append_right _ _ (by simp)];simp
      have e6:j<(List.replicate (j+1) (0:Int)++s).length:=by simp;omega
      have e7:((j:Nat):Int)<((List.replicate (j+1) (0:Int)++s).length:Int):=by omega
      have e8:(0:Int)<=((j:Nat):Int):=by omega
      have c0:(j:Int)>=0:=by omega
      have c1:(Nat.ble ((([a[j]]:List Int).length+(digs c).length)*8) 140737488355328&&!false)=true:=blt (by simp;omega);rw[qba,cnd c0,cnd e8,tN0,gE0 hja,bS0,c1,cond_true,htr,bS0,hin,bS0,cnd2 e8 e7,tN0,gE0 e6,bS0,hs1,bS0,ht,bS0,hm,bS0,e5,q5])
 have g1:((8:Nat):Int)*(a.length:Int)<=281474976710656:=by omega
 have g2:(a.length:Int)<=9223372036854775807:=by omega
 have g4:(0:Int)<=(a.length:Int):=by omega
 have g3:isub .i64 (a.length:Int) 1=(a.length:Int)-1:=by rw[qcP]<;>omega
 have k1:dd a/y=dd s:=by rw[hsn,Nat.mul_add_div hy0,Nat.div_eq_of_lt hc];simp
 have k2:dd a % y=c:=by rw[hsn,Nat.mul_add_mod,Nat.mod_eq_of_lt hc]
 rw[k1,k2];rw[qec,decide_eq_true rfl,decide_eq_true g4,decide_eq_true g1,decide_eq_true g2,tN0,g3,hlp];simp only[Bool.and_self,cond_true,bS0,qpl hsl (show s.length<4611686018427387904 by omega)]
theorem qBM {x y:Nat} (hy:y≠0) (h:2*x<=y):lenN x<lenN y:=by
 unfold lenN;by_cases hx:x=0
 · rw[if_pos hx,if_neg hy];omega
 · rw [if_neg hx, if_neg hy];have:=qqg hx h;omega
theorem qBN {n k:Nat} (h:n<2 ^ k):lenN n<=k:=by
 unfold lenN;by_cases hx:n=0
 · rw[if_pos hx];omega
 · rw[if_neg hx];have:=(Nat.log2_lt hx).2 h;omega
theorem qtG (n:Nat):lenN n<=14*(digs n).length:=by
 apply qBN;have h1:=qqX (digs n);rw[qcN] at h1;have h2:10000 ^ (digs n).length<=(2 ^ 14) ^ (digs n).length:=Nat.pow_le_pow_left (by decide) _;rw[<- Nat.pow_mul] at h2;omega
theorem qBr {x y:Nat} (hx:(digs x).length<1099511627775) (hy:(digs y).length<1099511627775):qcW (digs x) (digs y)=some (digs (Nat.gcd x y)):=by
 obtain⟨r,rfl,hlp⟩:=qlj (step:=qbr) (fun s=>∃ p q:Nat,s=((digs p,digs q,()),())/\(digs p).length<1099511627775/\(digs q).length<1099511627775/\Nat.gcd p q=Nat.gcd x y)
  (fun s=>2*(lenN (dd s.1.1)+lenN (dd s.1.2.1))+if dd s.1.1<dd s.1.2.1 then 1 else 0) (fun r=>r=((digs (Nat.gcd x y),()),())) (v:=((digs x,digs y,()),()))
  ⟨x, y, rfl, hx, hy, rfl⟩ (by
   have h1:=qtG x;have h2:=qtG y;simp only[qcN];split<;>omega) (by
   rintro s ⟨p,q,rfl,hp,hq,hg⟩;by_cases h0:q=0
   · subst h0;refine .inl ⟨_,rfl,fun g=>?_⟩;rw[Nat.gcd_zero_right] at hg;rw[qdI,qbr,cnd' (by decide),<- hg]
   · have c0 : ((digs q).length : Int) > 0 := qlx.2 h0;have ho:=qzF (qdS p) (by omega) hq (Nat.pos_of_ne_zero h0);rw[qcN] at ho;have hml:=Nat.mod_lt p (Nat.pos_of_ne_zero h0);refine .inr ⟨((digs q,digs (p % q),()),()),⟨q,p % q,rfl,hq,Nat.lt_of_le_of_lt (qh7 (Nat.le_of_lt hml)) hq,?_⟩,?_,fun g=>?_⟩
     · rw[<- hg,Nat.gcd_comm q,<- Nat.gcd_rec,Nat.gcd_comm]
     · simp only [qcN];rw[if_neg (by omega)];by_cases hpq:p<q
       · rw[if_pos hpq,Nat.mod_eq_of_lt hpq];omega
       · rw [if_neg hpq];have:2*(p % q)<=p:=by
          have h1:=Nat.div_add_mod p q;have h2:1<=p/q:=Nat.div_pos (by omega) (by omega);have h3:q*1<=q*(p/q):=Nat.mul_le_mul_left _ h2;omega
         have:=qBM (by omega) this;omega
     · rw[qbr,cnd c0,ho,bS0])
 rw[qcW,hlp];rfl
theorem qgC {n k:Nat} (h:n<4294967296 ^ k):(digs n).length<=3*k:=by
 apply qdm;have:4294967296 ^ k<=(10000 ^ 3) ^ k:=Nat.pow_le_pow_left (by decide) _;rw[<- Nat.pow_mul] at this;omega
theorem qpm {a:List Int} (hl:a.length<274877906944):qaM a=some (digs (nn a)):=by
 have hu:=qit (n:=4294967296) (by decide);obtain⟨r,rfl,hlp⟩:=qlj (step:=qbb) (fun s=>∃ j:Nat,j<=a.length/\s=((a,digs (nn (a.drop j)),digs 4294967296,(j:Int)-1,()),())) (fun s=>(s.1.2.2.2.1+1).toNat)
  (fun r => r = ((digs (nn a), ()), ())) (v := ((a, [], digs 4294967296, (a.length : Int) - 1, ()), ())) ⟨a.length, Nat.le_refl _, by rw [List.drop_length, qAQ, qdI]⟩ (by simp; omega) (by
   rintro s ⟨j,hj,rfl⟩;cases j with
   | zero=>exact .inl ⟨_,rfl,fun g=>by simp [qbb]⟩
   | succ j =>
    have hja:j<a.length:=by omega
    have e3:((j+1:Nat):Int)-1=(j:Int):=by omega
    rw[e3];have hnl:=qfK (a.drop (j+1));rw[List.length_drop] at hnl;have hd:=qgC hnl;have hu2:(digs 4294967296).length<=3:=qdm (by decide);have ht:=qnu (qdS (nn (a.drop (j+1)))) (qdS 4294967296) (by omega) (by omega);rw[qcN,qcN] at ht;have hml:=qiW (nn (a.drop (j+1))) 4294967296;have hw:IntKind.wrap .i64 (iand .u64 a[j] 4294967295)=(((a[j] % 4294967296).toNat:Nat):Int):=by
     rw[qgy,qsB (by omega) (by omega)];omega
    have hs:=qit (n:=(a[j] % 4294967296).toNat) (by omega);have hsl:(digs (a[j] % 4294967296).toNat).length<=3:=qdm (by omega);have hp:=qzE (x:=nn (a.drop (j+1))*4294967296) (y:=(a[j] % 4294967296).toNat) (by omega) (by omega);have hval:nn (a.drop (j+1))*4294967296+(a[j] % 4294967296).toNat=nn (a.drop j):=by rw[quA a hja];omega
    rw[hval] at hp;refine .inr ⟨((a,digs (nn (a.drop j)),digs 4294967296,(j:Int)-1,()),()),⟨j,by omega,rfl⟩,by simp,fun g=>?_⟩;have q5:isub .i64 (j:Int) 1=(j:Int)-1:=by rw[qcP]<;>omega
    have c0:(j:Int)>=0:=by omega
    have c1:(0:Int)<=(j:Int):=by omega
    rw[qbb,cnd c0,ht,bS0,cnd c1,tN0,gE0 hja,bS0,hw,hs,bS0,hp,bS0,q5])
 have g3:isub .i64 (a.length:Int) 1=(a.length:Int)-1:=by rw[qcP]<;>omega
 rw[show((4294967296:Nat):Int)=4294967296 from rfl] at hu;rw[qaM,hu,bS0,g3,hlp];rfl
theorem qta {n:Nat} (hl:(qaa n).length<4398046511104):qcT (qaa n)=some true:=by
 have la:=qa0 n;have hc:=(qqh n).2;generalize qaa n=a at *;have key:=qgQ (step:=qaQ) (fun i=>((a,(i:Int),()),())) a.length (r:=.inl ((a,()),())) (by omega) (by
   intro g i hi;have b:=la.at hi;have c0:(i:Int)<((a.length:Nat):Int):=by omega
   have c1:(0:Int)<=(i:Int):=by omega
   rw[qaQ,cnd c0,cnd c1,tN0,gE0 hi,bS0,cnd' (by omega),qbc (by omega)];rfl) (by
   intro g;rw[qaQ,cnd' (by omega)])
 have key':lp qaQ K0 ((a,0,()),())=some (.inl ((a,()),())):=key;rw[qcT,key',bS0];by_cases h0:a=[]
 · subst h0;rfl
 · have hlen := List.length_pos_iff.2 h0;have e:isub .i64 (a.length:Int) 1=((a.length-1:Nat):Int):=by rw[qcP]<;>omega
   have hlt:a.length-1<a.length:=by omega
   have hne:a[a.length-1]≠0:=hc _ (by rw[List.getLast?_eq_getElem?];exact gE0 hlt);have c0:¬ ((a.length:Nat):Int)=0:=by omega
   have c1:(0:Int)<=((a.length-1:Nat):Int):=by omega
   simp only[];rw[cnd' c0,e,cnd c1,tN0,gE0 hlt,bS0,decide_eq_false hne];rfl
def qkH (z:Int):WH:=(decide (z<0),digs z.natAbs)
theorem qnw (b:Bool) (n:Nat):qbZ b (digs n)=some (qkH (if b then -(n:Int) else n)):=by
 cases b with
 | false =>
  show some (false,digs n)=some (qkH (n:Int));unfold qkH;rw[decide_eq_false (by omega),Int.natAbs_natCast]
 | true =>
  show some (decide (((digs n).length:Int)>0),digs n)=some (qkH (-(n:Int)));unfold qkH;rw[Int.natAbs_neg,Int.natAbs_natCast];congr 2;rw[decide_eq_decide,qlx];omega
theorem qq9 {x y:Int} (hx:(digs x.natAbs).length<1099511627776) (hy:(digs y.natAbs).length<1099511627776):qcS (qkH x) (qkH y)=some (qkH (x*y)):=by
 have hm:=qnu (qdS x.natAbs) (qdS y.natAbs) (by omega) (by omega);rw[qcN,qcN] at hm;rw[qcS];simp only[qkH,hm,bS0,qnw];have key:(if (!decide (x<0) == decide (y<0))=true then -(((x.natAbs*y.natAbs:Nat)):Int) else ((x.natAbs*y.natAbs:Nat):Int))=x*y:=by
  rw[Int.natCast_mul];by_cases h1:x<0<;>by_cases h2:y<0
  · rw[show((x.natAbs:Nat):Int)=-x by omega,show((y.natAbs:Nat):Int)=-y by omega];simp [h1,h2,Int.neg_mul_neg]
  · rw[show((x.natAbs:Nat):Int)=-x by omega,show((y.natAbs:Nat):Int)=y by omega];simp [h1,h2,Int.neg_mul]
  · rw[show((x.natAbs:Nat):Int)=x by omega,show((y.natAbs:Nat):Int)=-y by omega];simp [h1,h2,Int.mul_neg]
  · rw[show((x.natAbs:Nat):Int)=x by omega,show((y.natAbs:Nat):Int)=y by omega];simp [h1,h2]
 exact congrArg (fun z=>some (qkH z)) key
theorem qwp {x y:Int} (hx:(digs x.natAbs).length<4398046511104) (hy:(digs y.natAbs).length<4398046511104):qdL (qkH x) (qkH y)=some (icmp x y):=by
 have e1:=qnv (n:=x.natAbs) (m:=y.natAbs) (by omega);have e2:=qnv (n:=y.natAbs) (m:=x.natAbs) (by omega);rw[qdL];simp only[qkH,e1,e2];by_cases h1:x<0<;>by_cases h2:y<0<;>simp [h1,h2,icmp,ncmp]<;>(repeat' split)<;>omega
theorem qtb {a:WH} (h:a.2.length<274877906944):qeb a=some (qkH (wv a)):=by
 rw[qeb,qpm h,bS0,qnw];rfl
theorem qxT {a:RAT} {n:Nat} (h:SzR a n) (hn:n<91625968980):∃ (z:Int) (d:Nat),qbY a=some (qkH z,digs d)/\0<d/\rv a=mkRat z d/\(digs z.natAbs).length<=3*n+1/\(digs d).length<=3*n+1:=by
 have h1:=h.1;have h2:=h.2;rw[qbY,qpm (by omega),bS0];by_cases h0:nn a.2=0
 · refine ⟨0, 1, ?_, by omega, ?_, by simp [qdI], qdm (by rw [Nat.pow_add]; have : 0 < 10000 ^ (3 * n) := Nat.pow_pos (by decide); omega)⟩
   · have s1 := qit (n := 1) (by decide);have s0:=qit (n:=0) (by decide);rw[show((1:Nat):Int)=1 from rfl] at s1;rw[show((0:Nat):Int)=0 from rfl] at s0;rw[h0,qdI,cnd (by rfl),qeJ,qeK,cnd' (by decide),s0,bS0,qnw,bS0,bS0,s1];rfl
   · rw[rv,h0];simp
 · have hne : ¬ ((digs (nn a.2)).length : Int) = 0 := by rw [qt1]; exact h0
   refine⟨wv a.1,nn a.2,?_,Nat.pos_of_ne_zero h0,rfl,?_,?_⟩
   · rw[cnd' hne,qtb (by omega)];rfl
   · rw [qeM];have:=qgC (qfK a.1.2);omega
   · have := qgC (qfK a.2);omega
theorem qDE {q:Rat} {b:RAT} {n m:Nat} (hq:SzQ q n) (hn:n<91625968980) (hb:SzR b m) (hm:m<91625968980):qea (canQ q) b=some (decide (q=rv b)):=by
 obtain⟨z,d,hf,hd0,hv,hz,hd⟩:=qxT hb hm;have hr:=hq.szR;have r1:(qaa q.num.natAbs).length<=n:=hr.1;have r2:(qaa q.den).length<=n:=hr.2;have hnum:=qgC hq.1;have hden:=qgC hq.2;have f1:=qpm (a:=qaa q.num.natAbs) (by omega);have f2:=qpm (a:=qaa q.den) (by omega);rw[q9q] at f1 f2;have hg:=qBr (x:=q.num.natAbs) (y:=q.den) (by omega) (by omega);rw[show Nat.gcd q.num.natAbs q.den=1 from q.reduced] at hg;have s1:=qit (n:=1) (by decide);rw[show((1:Nat):Int)=1 from rfl] at s1;have hl1:(digs 1).length<=1:=qdm (by decide);have ho:=qnv (n:=1) (m:=1) (by omega);have hcm:ncmp 1 1=0:=rfl;have hdne:¬ (((qaa q.den).length:Nat):Int)=0:=by rw[qil];exact q.den_nz
 have hright:qdJ (canQ q)=some true:=by
  have hfin:((qaM (qaa q.num.natAbs)).bind fun r3=>(qaM (qaa q.den)).bind fun r4=>(qcW r3 r4).bind fun r5=>(qao 1).bind fun r6=>(qal r5 r6).bind fun r7=>some (decide (r7=0)))=some true:=by
    rw[f1,bS0,f2,bS0,hg,bS0,s1,bS0,ho,bS0,hcm];rfl
  rw[show canQ q=((decide (q.num<0),qaa q.num.natAbs),qaa q.den) from rfl,qdJ,qta (show(qaa q.num.natAbs).length<4398046511104 by omega),bS0,Bool.not_true,cond_false,qta (show(qaa q.den).length<4398046511104 by omega),bS0,Bool.not_true,cond_false,cnd' hdne];by_cases hz0:q.num.natAbs=0
  · have hnn : ¬ q.num < 0 := by omega
    have hl0:(((qaa q.num.natAbs).length:Nat):Int)=0:=qil.2 hz0;rw[cnd hl0,cnd' hnn];exact hfin
  · have hl0 : ¬ (((qaa q.num.natAbs).length : Nat) : Int) = 0 := by rw [qil]; exact hz0
    rw[cnd' hl0];exact hfin
 have hfrom:qbY (canQ q)=some (qkH q.num,digs q.den):=by
  have hdne2:¬ (((digs q.den).length:Nat):Int)=0:=by rw[qt1];exact q.den_nz
  have f3:=qtb (a:=qa7 q.num) (by show(qaa _).length<_;omega);rw[qcY] at f3;rw[qbY];simp only[canQ,f2,bS0,f3];exact cnd' hdne2
 have m1:=qq9 (x:=q.num) (y:=(d:Int)) (by omega) (by rw[Int.natAbs_natCast];omega);have m2:=qq9 (x:=z) (y:=(q.den:Int)) (by omega) (by rw[Int.natAbs_natCast];omega);have l1:=qiW q.num.natAbs d;have l2:=qiW z.natAbs q.den;have oo:=qwp (x:=q.num*(d:Int)) (y:=z*(q.den:Int)) (by rw[Int.natAbs_mul,Int.natAbs_natCast];omega) (by rw[Int.natAbs_mul,Int.natAbs_natCast];omega);have k1:=qnw false d;have k2:=qnw false q.den;have horder:qdK (qkH q.num,digs q.den) (qkH z,digs d)=some (icmp (q.num*(d:Int)) (z*(q.den:Int))):=by
  rw[qdK];simp only[qet,k1,k2,bS0,Bool.false_eq_true,if_false,m1,m2,oo]
 have hiff:icmp (q.num*(d:Int)) (z*(q.den:Int))=0 ↔ q=rv b:=by
  rw[hv];have h1:icmp (q.num*(d:Int)) (z*(q.den:Int))=0 ↔ q.num*(d:Int)=z*(q.den:Int):=by
    unfold icmp;(repeat' split)<;>omega
  rw[h1]
  conv=>rhs;rw[<- Rat.mkRat_self q]
  rw[Rat.mkRat_eq_iff q.den_nz (by omega)]
 rw[qea,hf,bS0,qgD,hright,bS0,cond_true,hfrom,bS0,horder,bS0,bS0];congr 1;rw[decide_eq_decide];exact hiff
def rsum (f:Nat->Rat):Nat->Rat
 | 0=>0
 | n+1=>rsum f n+f n
theorem qfb {f g:Nat->Rat} {n:Nat} (h:∀ i,i<n->f i=g i):rsum f n=rsum g n:=by
 induction n with
 | zero=>rfl
 | succ n ih=>simp only[rsum];rw[ih (fun i hi=>h i (by omega)),h n (by omega)]
theorem ql7 (f:Nat->Rat) (c:Rat) (n:Nat):rsum (fun i=>f i*c) n=rsum f n*c:=by
 induction n with
 | zero=>simp [rsum]
 | succ n ih=>simp only[rsum,ih];rw[Rat.add_mul]
theorem qrN {f:Nat->Rat} {k n:Nat} (h:∀ i,i<n->SzQ (f i) k):SzQ (rsum f n) (1+n*(k+1)):=by
 induction n with
 | zero=>simpa [rsum] using SzQ.zero
 | succ n ih =>
  have:=(ih fun i hi=>h i (by omega)).add (h n (by omega));simp only[rsum];exact this.mono (by rw[Nat.add_mul];omega)
theorem qyo:SzQ (((1:Int):Rat)/((2:Int):Rat)) 2:=(SzQ.int (z:=1) (by decide)).div (SzQ.int (z:=2) (by decide))
def fac:Nat->Nat
 | 0=>1
 | n+1=>(n+1)*fac n
theorem qyA (n:Nat):0<fac n:=by
 induction n with
 | zero=>decide
 | succ n ih=>exact Nat.mul_pos (by omega) ih
theorem qCX {n:Nat} (h:n<=64):fac n<4294967296 ^ 10:=by
 have hm:∀ a b,a<=b->fac a<=fac b:=by
  intro a b hab
  induction hab with
  | refl=>exact Nat.le_refl _
  | step _ ih =>
   refine Nat.le_trans ih ?_;simp only[fac];exact Nat.le_mul_of_pos_left _ (by omega)
 have:=hm n 64 h;have h64:fac 64<4294967296 ^ 10:=by decide +kernel
 omega
theorem qyz {n:Nat} (h:n<=64):SzQ ((fac n:Nat):Rat) 10:=by
 have:=qCX h;exact⟨by simpa using this,by simp⟩
def quo (a b c:Nat):Rat:=((fac a:Nat):Rat)*((fac b:Nat):Rat)/((fac c:Nat):Rat)
theorem qCx {a b c:Nat} (ha:a<=64) (hb:b<=64) (hc:c<=64):SzQ (quo a b c) 30:=((qyz ha).mul (qyz hb)).div (qyz hc)
def wq (s n:Nat):Rat:=quo s (n-s-1) n
theorem qCm {s n:Nat} (hs:s<n) (hn:n<=64):SzQ (wq s n) 30:=qCx (by omega) (by omega) (by omega)
def vabs (l:List RAT) (i:Nat):Rat:=rabs (vals l i)
def vsum (l:List RAT):Rat:=rsum (vabs l) l.length
def qCu (l:List RAT) (i:Nat):Rat:=vabs l i/vsum l
def qAM (l:List RAT) (n:Nat):List RAT:=(List.range n).map fun i=>canQ (qCu l i)
@[simp] theorem qCj (l:List RAT) (n:Nat):(qAM l n).length=n:=by simp [qAM]
section
variable {l:List RAT} (hsz:∀ x∈l,SzR x 2) (hlen:l.length<=33)
include hsz
end
theorem qsV {l:List RAT} {k:Nat} (hs:∀ x∈l,Sm x) (hk:∀ i,i<l.length->SzQ (vals l i) k) (hl:1+l.length*(k+1)<1099511627776) (hlen:l.length<4398046511104):qjr l=some (canQ (rsum (vals l) l.length)):=by
 have hpart:∀ i,i<=l.length->Sm (canQ (rsum (vals l) i)):=by
  intro i hi;have h1:=qrN (f:=vals l) (k:=k) (n:=i) (fun j hj=>hk j (by omega));refine h1.sm (Nat.lt_of_le_of_lt ?_ hl);have:=Nat.mul_le_mul_right (k+1) hi;omega
 have key:=qgQ (step:=qdy) (fun i=>((l,((l.length:Nat):Int),(i:Int),()),((false,[],[],()),((canQ (rsum (vals l) i)).1.1,(canQ (rsum (vals l) i)).1.2,(canQ (rsum (vals l) i)).2,()),()))) l.length
  (r:=((),((false,[],[],()),((canQ (rsum (vals l) l.length)).1.1,(canQ (rsum (vals l) l.length)).1.2,(canQ (rsum (vals l) l.length)).2,()),()))) (by omega) (by
  intro g i hi;have d0:(i:Int)<((l.length:Nat):Int):=by omega
  have d1:(0:Int)<=(i:Int):=by omega
  have hp:=qef (hpart i (Nat.le_of_lt hi)) (hs _ (gM0 hi));rw[qah,<- qzj hi] at hp;have hp':qdz (((canQ (rsum (vals l) i)).1.1,(canQ (rsum (vals l) i)).1.2),(canQ (rsum (vals l) i)).2) l[i]=some (canQ (rsum (vals l) (i+1))):=hp;rw[qdy,cnd d0,cnd d1,tN0,gE0 hi,bS0,hp',bS0,qbc (by omega)];rfl) (by
  intro g;rw[qdy,cnd' (by omega)])
 have key':lp qdy K0 ((l,((l.length:Nat):Int),0,()),((false,[],[],()),((canQ 0).1.1,(canQ 0).1.2,(canQ 0).2,()),()))=_:=key;rw[qjr,qfc,bS0,key'];rfl
theorem qBG {V T:Type} {step:(V->Option T)->V->Option T} (f:Nat->V) (n:Nat) (ok:Nat->Prop) (bad:Nat->T) (fin:T)
  (hs:∀ i,i<n->(ok i/\∀ g,step g (f i)=g (f (i+1)))\/(¬ ok i/\∀ g,step g (f i)=some (bad i))) (he:∀ g,step g (f n)=some fin) :
  ∀ (d i m:Nat),i+d=n->d<m->(∀ j,j<i->ok j)->((∀ i,i<n->ok i)/\lp step m (f i)=some fin)\/∃ j,j<n/\¬ ok j/\lp step m (f i)=some (bad j):=by
 intro d
 induction d with
 | zero =>
  intro i m hi hm hok;obtain⟨m,rfl⟩:∃ k,m=k+1:=⟨m-1,by omega⟩;have:i=n:=by omega
  subst this;exact .inl ⟨hok,he _⟩
 | succ d ih =>
  intro i m hi hm hok;obtain⟨m,rfl⟩:∃ k,m=k+1:=⟨m-1,by omega⟩;rcases hs i (by omega) with ⟨h1,h2⟩ | ⟨h1,h2⟩
  · have := ih (i + 1) m (by omega) (by omega) (fun j hj => by
     by_cases e:j=i
     · subst e;exact h1
     · exact hok j (by omega))
    have e:lp step (m+1) (f i)=lp step m (f (i+1)):=h2 _;rw[e];exact this
  · exact .inr ⟨i,by omega,h1,h2 _⟩
theorem qo7 {V T:Type} {step:(V->Option T)->V->Option T} (f:Nat->V) (n:Nat) (ok:Nat->Prop) (bad:Nat->T) (fin:T) (hn:n<18446744073709551616)
  (hs:∀ i,i<n->(ok i/\∀ g,step g (f i)=g (f (i+1)))\/(¬ ok i/\∀ g,step g (f i)=some (bad i))) (he:∀ g,step g (f n)=some fin) :
  ((∀ i,i<n->ok i)/\lp step K0 (f 0)=some fin)\/∃ i,i<n/\¬ ok i/\lp step K0 (f 0)=some (bad i) :=
 qBG f n ok bad fin hs he n 0 K0 (by omega) hn (fun j h=>by omega)
abbrev qiD (n:NODE):Bool:=n.1
abbrev qdQ (n:NODE):Int:=n.2.1
abbrev nCut (n:NODE):RAT:=n.2.2.1
abbrev nL (n:NODE):Int:=n.2.2.2.1
abbrev nR (n:NODE):Int:=n.2.2.2.2.1
abbrev qDz (n:NODE):Bool:=n.2.2.2.2.2.1
abbrev nVal (n:NODE):RAT:=n.2.2.2.2.2.2.1
abbrev nCov (n:NODE):RAT:=n.2.2.2.2.2.2.2
def NSz (n:NODE) (k:Nat):Prop:=SzR (nCut n) k/\SzR (nVal n) k/\SzR (nCov n) k
def TSz (t:List NODE) (k:Nat):Prop:=∀ n∈t,NSz n k
def qhQ (t:List NODE) (f:Int):Prop:=∀ i (h:i<t.length),qiD t[i]=false->0<=qdQ t[i]/\qdQ t[i]<f/\1<=nL t[i]/\nL t[i]<t.length/\1<=nR t[i]/\nR t[i]<t.length
def qi9 (t:List NODE):Prop:=∀ i (h:i<t.length),0<rv (nCov t[i])
def cov (t:List NODE) (i:Nat):Rat:=rv (nCov ((t[i]?).getD (false,0,((false,[]),[]),0,0,false,((false,[]),[]),((false,[]),[]))))
theorem qi8 {t:List NODE} {i:Nat} (h:i<t.length):cov t i=rv (nCov t[i]):=by simp [cov,h]
def qC2 (t:List NODE):Prop:=∀ i (h:i<t.length),qiD t[i]=false->rv (nCov t[i])=cov t (nL t[i]).toNat+cov t (nR t[i]).toNat
theorem qxR {t:List NODE} {f:Int} (hl:t.length<4294967296):∃ a e,qfU t f=some (a,e)/\(e=0 ↔ qhQ t f):=by
 rcases qo7 (step:=qbo) (fun i=>((t,f,t,((t.length:Nat):Int),(i:Int),()),())) t.length
   (fun i=>∀ h:i<t.length,qiD t[i]=false->0<=qdQ t[i]/\qdQ t[i]<f/\1<=nL t[i]/\nL t[i]<t.length/\1<=nR t[i]/\nR t[i]<t.length)
   (fun i => .inr (((i : Int), 8, ()), ())) (.inl ((), ())) (by omega) (by
    intro i hi;have d0:(i:Int)<((t.length:Nat):Int):=by omega
    have d1:(0:Int)<=(i:Int):=by omega
    have head:∀ g,qbo g ((t,f,t,((t.length:Nat):Int),(i:Int),()),())=bif qiD t[i] then (g ((t,f,t,((t.length:Nat):Int),((i+1:Nat):Int),()),())) else (bif (decide (qdQ t[i]<0)) then (some (.inr (((i:Int),8,()),()))) else (bif (decide (qdQ t[i]>=f)) then (some (.inr (((i:Int),8,()),()))) else (bif (decide (nL t[i]<1)) then (some (.inr (((i:Int),8,()),()))) else (bif (decide (nL t[i]>=(t.length:Int))) then (some (.inr (((i:Int),8,()),()))) else (bif (decide (nR t[i]<1)) then (some (.inr (((i:Int),8,()),()))) else (bif (decide (nR t[i]>=(t.length:Int))) then (some (.inr (((i:Int),8,()),()))) else (g ((t,f,t,((t.length:Nat):Int),((i+1:Nat):Int),()),())))))))):=by
     intro g;rw[qbo,cnd d0,cnd d1,tN0,gE0 hi,bS0,qbc (by omega)];rfl
    cases hleaf:qiD t[i] with
    | true=>exact .inl ⟨fun h h2=>absurd h2 (by rw[hleaf];decide),fun g=>by rw[head,hleaf];rfl⟩
    | false =>
     by_cases h:0<=qdQ t[i]/\qdQ t[i]<f/\1<=nL t[i]/\nL t[i]<t.length/\1<=nR t[i]/\nR t[i]<t.length
     · refine .inl ⟨fun _ _ => h, fun g => ?_⟩;obtain⟨h1,h2,h3,h4,h5,h6⟩:=h;rw[head,hleaf,cond_false,cnd' (by omega),cnd' (by omega),cnd' (by omega),cnd' (by omega),cnd' (by omega),cnd' (by omega)]
     · refine .inr ⟨fun h' => h (h' hi hleaf), fun g => ?_⟩;rw[head,hleaf,cond_false];by_cases h1:qdQ t[i]<0
       · rw[cnd h1]
       by_cases h2:qdQ t[i]>=f
       · rw[cnd' h1,cnd h2]
       by_cases h3:nL t[i]<1
       · rw[cnd' h1,cnd' h2,cnd h3]
       by_cases h4:nL t[i]>=(t.length:Int)
       · rw[cnd' h1,cnd' h2,cnd' h3,cnd h4]
       by_cases h5:nR t[i]<1
       · rw[cnd' h1,cnd' h2,cnd' h3,cnd' h4,cnd h5]
       by_cases h6:nR t[i]>=(t.length:Int)
       · rw[cnd' h1,cnd' h2,cnd' h3,cnd' h4,cnd' h5,cnd h6]
       exfalso;apply h;omega) (by
    intro g;rw[qbo,cnd' (by omega)]) with ⟨h,hlp⟩ | ⟨i,hi,h,hlp⟩
 · have hlp : lp qbo K0 ((t, f, t, ((t.length : Nat) : Int), 0, ()), ()) = some (.inl ((), ())) := hlp;refine⟨0,0,by rw[qfU,hlp];rfl,?_⟩;exact⟨fun _ i hi=>h i hi hi,fun _=>rfl⟩
 · have hlp : lp qbo K0 ((t, f, t, ((t.length : Nat) : Int), 0, ()), ()) = some (.inr (((i : Int), 8, ()), ())) := hlp;refine⟨(i:Int),8,by rw[qfU,hlp];rfl,?_⟩;exact⟨fun e=>(by cases e),fun hp=>absurd (fun hh=>hp i hh) h⟩
theorem qyQ {t:List NODE} (hl:t.length<4294967296) {k:Nat} (hs:TSz t k) (hk:k<1099511627776):∃ a e,qfV t=some (a,e)/\(e=0 ↔ qi9 t):=by
 rcases qo7 (step:=qbp) (fun i=>((t,((t.length:Nat):Int),(i:Int),()),())) t.length (fun i=>∀ h:i<t.length,0<rv (nCov t[i]))
   (fun i => .inr (((i : Int), 12, ()), ())) (.inl ((), ())) (by omega) (by
    intro i hi;have d0:(i:Int)<((t.length:Nat):Int):=by omega
    have d1:(0:Int)<=(i:Int):=by omega
    have hsg:=qnn ((hs _ (gM0 hi)).2.2.sm hk);have head:∀ g,qbp g ((t,((t.length:Nat):Int),(i:Int),()),())=bif decide (rcmp (rv (nCov t[i])) 0<=0) then some (.inr (((i:Int),12,()),())) else g ((t,((t.length:Nat):Int),((i+1:Nat):Int),()),()):=by
      intro g;rw[qbp,cnd d0,cnd d1,tN0,gE0 hi,bS0,hsg,bS0,qbc (by omega)];rfl
    by_cases h:0<rv (nCov t[i])
    · exact .inl ⟨fun _=>h,fun g=>by rw[head,cnd' (fun h'=>Rat.not_le.2 h (qxQ.1 h'))]⟩
    · exact .inr ⟨fun h'=>h (h' hi),fun g=>by rw[head,cnd (qxQ.2 (Rat.not_lt.1 h))]⟩) (by
    intro g;rw[qbp,cnd' (by omega)]) with ⟨h,hlp⟩ | ⟨i,hi,h,hlp⟩
 · have hlp : lp qbp K0 ((t, ((t.length : Nat) : Int), 0, ()), ()) = some (.inl ((), ())) := hlp;exact⟨0,0,by rw[qfV,hlp];rfl,fun _ i hi=>h i hi hi,fun _=>rfl⟩
 · have hlp : lp qbp K0 ((t, ((t.length : Nat) : Int), 0, ()), ()) = some (.inr (((i : Int), 12, ()), ())) := hlp;exact⟨(i:Int),12,by rw[qfV,hlp];rfl,fun e=>(by cases e),fun hp=>absurd (fun hh=>hp i hh) h⟩
theorem qBh {t:List NODE} {f:Int} (hl:t.length<4294967296) {k:Nat} (hs:TSz t k) (hk:k<500000000000) (hr:qhQ t f):∃ a e,qia t=some (a,e)/\(e=0 ↔ qC2 t):=by
 rcases qo7 (step:=qbL) (fun i=>((t,t,((t.length:Nat):Int),(i:Int),()),())) t.length (fun i=>∀ h:i<t.length,qiD t[i]=false->rv (nCov t[i])=cov t (nL t[i]).toNat+cov t (nR t[i]).toNat)
   (fun i => .inr (((i : Int), 13, ()), ())) (.inl ((), ())) (by omega) (by
    intro i hi;have d0:(i:Int)<((t.length:Nat):Int):=by omega
    have d1:(0:Int)<=(i:Int):=by omega
    cases hleaf:qiD t[i] with
    | true =>
     refine .inl ⟨fun h h2=>absurd h2 (by rw[hleaf];decide),fun g=>?_⟩;rw[qbL,cnd d0,cnd d1,tN0,gE0 hi,bS0,show t[i].1=true from hleaf,qbc (by omega)];rfl
    | false =>
     obtain⟨r1,r2,r3,r4,r5,r6⟩:=hr i hi hleaf;have l1:(nL t[i]).toNat<t.length:=by omega
     have l2:(nR t[i]).toNat<t.length:=by omega
     have c1:(0:Int)<=nL t[i]:=by omega
     have c2:(0:Int)<=nR t[i]:=by omega
     have z1:=(hs _ (gM0 l1)).2.2;have z2:=(hs _ (gM0 l2)).2.2;have z0:=(hs _ (gM0 hi)).2.2;have hadd:=qef (z1.sm (by omega)) (z2.sm (by omega));rw[<- qi8 l1,<- qi8 l2] at hadd;have zz:SzQ (cov t (nL t[i]).toNat+cov t (nR t[i]).toNat) (max k 1+max k 1+1):=by
       rw[qi8 l1,qi8 l2];have y1:SzR (nCov t[(nL t[i]).toNat]) (max k 1):=⟨Nat.le_trans z1.1 (Nat.le_max_left _ _),Nat.le_trans z1.2 (Nat.le_max_left _ _)⟩;have y2:SzR (nCov t[(nR t[i]).toNat]) (max k 1):=⟨Nat.le_trans z2.1 (Nat.le_max_left _ _),Nat.le_trans z2.2 (Nat.le_max_left _ _)⟩;exact(y1.szQ (by omega)).add (y2.szQ (by omega))
     have hsame:=qrV (z0.sm (by omega)) (zz.sm (by omega));rw[qah] at hsame;have head:∀ g,qbL g ((t,t,((t.length:Nat):Int),(i:Int),()),())=bif (!decide (rv (nCov t[i])=cov t (nL t[i]).toNat+cov t (nR t[i]).toNat)) then some (.inr (((i:Int),13,()),())) else g ((t,t,((t.length:Nat):Int),((i+1:Nat):Int),()),()):=by
       intro g;rw[qbL,cnd d0,cnd d1,tN0,gE0 hi,bS0,show t[i].1=false from hleaf,Bool.not_false,cond_true,cnd c1,gE0 l1,bS0,cnd c2,gE0 l2,bS0,hadd,bS0,hsame,bS0,qbc (by omega)];rfl
     by_cases h:rv (nCov t[i])=cov t (nL t[i]).toNat+cov t (nR t[i]).toNat
     · exact .inl ⟨fun _ _=>h,fun g=>by rw[head,decide_eq_true h];rfl⟩
     · exact .inr ⟨fun h'=>h (h' hi hleaf),fun g=>by rw[head,decide_eq_false h];rfl⟩) (by
    intro g;rw[qbL,cnd' (by omega)]) with ⟨h,hlp⟩ | ⟨i,hi,h,hlp⟩
 · have hlp : lp qbL K0 ((t, t, ((t.length : Nat) : Int), 0, ()), ()) = some (.inl ((), ())) := hlp;exact⟨0,0,by rw[qia,hlp];rfl,fun _ i hi=>h i hi hi,fun _=>rfl⟩
 · have hlp : lp qbL K0 ((t, t, ((t.length : Nat) : Int), 0, ()), ()) = some (.inr (((i : Int), 13, ()), ())) := hlp;exact⟨(i:Int),13,by rw[qia,hlp];rfl,fun e=>(by cases e),fun hp=>absurd (fun hh=>hp i hh) h⟩
def kids (t:List NODE) (i:Nat):List Nat :=
 match t[i]? with
 | some n=>if qiD n then [] else [(nL n).toNat,(nR n).toNat]
 | none=>[]
theorem qqn {t:List NODE} {i:Nat} (h:i<t.length) (hl:qiD t[i]=true):kids t i=[]:=by
 have hl':t[i].1=true:=hl;simp [kids,h,hl']
theorem qhc {t:List NODE} {i:Nat} (h:i<t.length) (hl:qiD t[i]=false):kids t i=[(nL t[i]).toNat,(nR t[i]).toNat]:=by
 have hl':t[i].1=false:=hl;simp [kids,h,hl']
def cnt (t:List NODE) (i j:Nat):Nat:=((List.range i).flatMap (kids t)).count j
theorem qv0 (t:List NODE) (j:Nat):cnt t 0 j=0:=by simp [cnt]
theorem qnX (t:List NODE) (i j:Nat):cnt t (i+1) j=cnt t i j+(kids t i).count j:=by
 simp [cnt,List.range_succ,List.flatMap_append]
theorem qA2 (t:List NODE) (i j:Nat):cnt t i j<=2*i:=by
 induction i with
 | zero=>simp [qv0]
 | succ i ih =>
  rw[qnX];have h1:(kids t i).count j<=(kids t i).length:=List.count_le_length;have h2:(kids t i).length<=2:=by
   unfold kids;split
   · split<;>simp
   · simp
  omega
def qv7 (t:List NODE):Prop:=∃ rk:Nat->Nat,∀ i,i<t.length->rk i<=t.length/\∀ c∈kids t i,rk c<rk i
def qrv (t:List NODE):Prop:=(∀ j,0<j->j<t.length->cnt t t.length j=1)/\qv7 t
theorem qk1:∀ {n:Nat} {V:List Nat},V.Nodup->(∀ x∈V,x<n)->V.length<=n
 | 0,V,_,h=>by
  cases V with
  | nil=>simp
  | cons x V=>have:=h x List.mem_cons_self;omega
 | n+1,V,hnd,h=>by
  by_cases hm:n∈V
  · have h1 : (V.erase n).Nodup := hnd.sublist List.erase_sublist;have h2:∀ x∈V.erase n,x<n:=by
     intro x hx;have:=(List.Nodup.mem_erase_iff hnd).1 hx;have:=h x this.2;omega
    have h3:=qk1 h1 h2;have h4:=List.length_erase_of_mem hm;omega
  · have := qk1 hnd (n := n) (fun x hx => by
     have:=h x hx;have:x≠n:=fun e=>hm (e ▸ hx)
     omega)
    omega
section
variable {t:List NODE} {f:Int}
theorem qsg (hr:qhQ t f) {i c:Nat} (hi:i<t.length) (hc:c∈kids t i):0<c/\c<t.length:=by
 cases hl:qiD t[i] with
 | true=>rw[qqn hi hl] at hc;cases hc
 | false =>
  obtain⟨_,_,h1,h2,h3,h4⟩:=hr i hi hl;rw[qhc hi hl] at hc;simp at hc;rcases hc with rfl | rfl<;>omega
theorem qt6 (t:List NODE) (j:Nat) {a n:Nat} (ha:a<n):(kids t a).count j<=cnt t n j:=by
 induction n with
 | zero=>omega
 | succ n ih =>
  rw[qnX];by_cases e:a=n
  · subst e;omega
  · have:=ih (by omega);omega
theorem qyS (t:List NODE) (j:Nat) {a b n:Nat} (hab:a<b) (hb:b<n):(kids t a).count j+(kids t b).count j<=cnt t n j:=by
 induction n with
 | zero=>omega
 | succ n ih =>
  rw[qnX];by_cases e:b=n
  · subst e;have:=qt6 t j hab;omega
  · have:=ih (by omega);omega
theorem qws (hc:∀ j,0<j->j<t.length->cnt t t.length j=1) (hr:qhQ t f) {a b j:Nat} (ha:a<t.length) (hb:b<t.length) (h1:j∈kids t a) (h2:j∈kids t b):a=b:=by
 obtain⟨j0,jl⟩:=qsg hr ha h1;have c1:=List.count_pos_iff.2 h1;have c2:=List.count_pos_iff.2 h2;have:=hc j j0 jl;rcases Nat.lt_trichotomy a b with h | h | h
 · have:=qyS t j h hb;omega
 · exact h
 · have:=qyS t j h ha;omega
theorem qwW (hc:∀ j,0<j->j<t.length->cnt t t.length j=1) (hr:qhQ t f) {a:Nat} (ha:a<t.length):(kids t a).Nodup:=by
 rw[List.nodup_iff_count];intro j;by_cases hj:j∈kids t a
 · obtain ⟨j0, jl⟩ := qsg hr ha hj;have h1:=qt6 t j ha;have h2:=hc j j0 jl;exact Nat.le_trans h1 (Nat.le_of_eq h2)
 · rw[List.count_eq_zero_of_not_mem hj];omega
theorem qjP (hc:∀ j,0<j->j<t.length->cnt t t.length j=1) {j:Nat} (h0:0<j) (hj:j<t.length):∃ p,p<t.length/\j∈kids t p:=by
 have h1:=hc j h0 hj;have h2:j∈(List.range t.length).flatMap (kids t):=List.count_pos_iff.1 (by rw[<- cnt,h1];omega);obtain⟨p,hp,hm⟩:=List.mem_flatMap.1 h2;exact⟨p,by simpa using hp,hm⟩
end
structure Srch (t:List NODE) (V S:List Nat):Prop where
 nd:(V++S).Nodup
 lt:∀ x∈V++S,x<t.length
 par:∀ c∈V++S,c≠0->∃ p∈V,c∈kids t p
 kid:∀ p∈V,∀ c∈kids t p,c∈V++S
 root:0∈V++S
 ord:V.Pairwise fun a b=>a ∉ kids t b
 self:∀ x∈V,x ∉ kids t x
theorem Srch.init {t:List NODE} (h:0<t.length):Srch t [] [0] where
 nd:=by simp
 lt:=by simpa using h
 par:=by simp
 kid:=by simp
 root:=by simp
 ord:=List.Pairwise.nil
 self:=by simp
theorem Srch.step {t:List NODE} {f:Int} (hc:∀ j,0<j->j<t.length->cnt t t.length j=1) (hr:qhQ t f) {V S:List Nat} {x:Nat} (h:Srch t V (S++[x])):Srch t (V++[x]) (S++kids t x):=by
 have hxlt:x<t.length:=h.lt x (by simp);have hnd:=h.nd;rw[<- List.append_assoc,List.nodup_append] at hnd;obtain⟨n1,n2,n3⟩:=hnd;have hxVS:x ∉ V++S:=fun hx=>n3 x hx x (by simp) rfl
 have hnew:∀ c∈kids t x,c ∉ V++(S++[x]):=by
   intro c hcx hmem;obtain⟨c0,cl⟩:=qsg hr hxlt hcx;obtain⟨p,hp,hcp⟩:=h.par c hmem (by omega);have:=qws hc hr (h.lt p (List.mem_append_left _ hp)) hxlt hcp hcx;subst this;exact hxVS (List.mem_append_left _ hp)
 have hperm:((V++[x])++(S++kids t x)).Perm ((V++(S++[x]))++kids t x):=by
   have e1:(V++[x])++(S++kids t x)=V++([x]++S)++kids t x:=by simp
   have e2:(V++(S++[x]))++kids t x=V++(S++[x])++kids t x:=rfl;rw[e1,e2];exact List.Perm.append_right _ (List.Perm.append_left _ List.perm_append_comm)
 have hmem:∀ y,y∈(V++[x])++(S++kids t x) ↔ y∈V++(S++[x])\/y∈kids t x:=by
   intro y;rw[hperm.mem_iff,List.mem_append]
 refine⟨?_,?_,?_,?_,?_,?_,?_⟩
 · rw [hperm.nodup_iff, List.nodup_append];exact⟨h.nd,qwW hc hr hxlt,fun a ha b hb e=>hnew b hb (e ▸ ha)⟩
 · intro y hy;rcases(hmem y).1 hy with hy | hy
   · exact h.lt y hy
   · exact(qsg hr hxlt hy).2
 · intro c hcm hc0;rcases(hmem c).1 hcm with hy | hy
   · obtain ⟨p, hp, hcp⟩ := h.par c hy hc0;exact⟨p,List.mem_append_left _ hp,hcp⟩
   · exact⟨x,by simp,hy⟩
 · intro p hp c hcp;rw[hmem];rcases List.mem_append.1 hp with hp | hp
   · exact .inl (h.kid p hp c hcp)
   · simp at hp;subst hp;exact .inr hcp
 · rw[hmem];exact .inl h.root
 · rw [List.pairwise_append];refine⟨h.ord,by simp,fun a ha b hb=>?_⟩;simp at hb;subst hb;intro hak;exact hnew a hak (List.mem_append_left _ ha)
 · intro y hy;rcases List.mem_append.1 hy with hy | hy
   · exact h.self y hy
   · simp at hy; subst hy;intro hk;exact hnew y hk (by simp)
theorem Srch.ranked {t:List NODE} {V:List Nat} (h:Srch t V []) (hall:∀ i,i<t.length->i∈V):qv7 t:=by
 have hnd:V.Nodup:=by simpa using h.nd
 have hlen:V.length<=t.length:=qk1 hnd (fun x hx=>h.lt x (by simpa using hx));refine⟨fun i=>V.length-V.idxOf i,fun i hi=>⟨by show V.length-V.idxOf i<=t.length;omega,fun c hc=>?_⟩⟩;have hiV:=hall i hi;have hcV:c∈V:=by simpa using h.kid i hiV c hc
 have h1:V.idxOf i<V.length:=List.idxOf_lt_length_iff.2 hiV;have h2:V.idxOf c<V.length:=List.idxOf_lt_length_iff.2 hcV;have g1:V[V.idxOf i]=i:=List.getElem_idxOf h1;have g2:V[V.idxOf c]=c:=List.getElem_idxOf h2;have hne:¬ V.idxOf c<=V.idxOf i:=by
  intro hle;by_cases e:V.idxOf c=V.idxOf i
  · have : c = i := by rw [<- g1, <- g2]; simp [e]
    subst this;exact h.self c hiV hc
  · have := List.pairwise_iff_getElem.1 h.ord _ _ h2 h1 (by omega);rw[g1,g2] at this;exact this hc
 show V.length-V.idxOf c<V.length-V.idxOf i;omega
theorem Srch.all {t:List NODE} {V:List Nat} (h:Srch t V []) (hc:∀ j,0<j->j<t.length->cnt t t.length j=1) (hrk:qv7 t):∀ i,i<t.length->i∈V:=by
 obtain⟨rk,hrk⟩:=hrk;have key:∀ (d i:Nat),i<t.length->t.length-rk i<=d->i∈V:=by
  intro d
  induction d with
  | zero =>
   intro i hi hd;by_cases h0:i=0
   · subst h0;simpa using h.root
   · obtain ⟨p, hp, hm⟩ := qjP hc (by omega) hi;have h1:=(hrk p hp).1;have h2:=(hrk p hp).2 i hm;omega
  | succ d ih =>
   intro i hi hd;by_cases h0:i=0
   · subst h0;simpa using h.root
   · obtain ⟨p, hp, hm⟩ := qjP hc (by omega) hi;have h1:=(hrk p hp).1;have h2:=(hrk p hp).2 i hm;have:=ih p hp (by omega);simpa using h.kid p this i hm
 exact fun i hi=>key _ i hi (Nat.le_refl _)
def cntL (t:List NODE) (i:Nat):List Int:=(List.range t.length).map fun j=>((cnt t i j:Nat):Int)
@[simp] theorem qpu (t:List NODE) (i:Nat):(cntL t i).length=t.length:=by simp [cntL]
theorem qko {t:List NODE} {i j:Nat} (h:j<t.length):(cntL t i)[j]?=some ((cnt t i j:Nat):Int):=by simp [cntL,h]
theorem qyT {t:List NODE} {i a b:Nat} (ha:a<t.length) (hb:b<t.length) (hk:kids t i=[a,b]) :
   ((cntL t i).set a (((cnt t i a:Nat):Int)+1))[b]?=some ((cnt t i b+(if a=b then 1 else 0):Nat):Int) /\
   ((cntL t i).set a (((cnt t i a:Nat):Int)+1)).set b (((cnt t i b+(if a=b then 1 else 0):Nat):Int)+1)=cntL t (i+1):=by
 constructor
 · rw [List.getElem?_set];by_cases e:a=b
   · subst e;simp [ha]
   · rw[if_neg e,qko hb];simp [e]
 · apply List.ext_getElem?;intro j;by_cases hj:j<t.length
   · rw [qko hj, qnX, hk, List.getElem?_set, List.getElem?_set];by_cases e1:b=j
     · subst e1;by_cases e2:a=b
       · subst e2;simp [ha];omega
       · simp [hb,e2,List.count_cons]
     · by_cases e2 : a = j
       · subst e2;simp [ha,e1,List.count_cons]
       · rw[if_neg e1,if_neg e2,qko hj];simp [List.count_cons,e1,e2]
   · rw[List.getElem?_eq_none (by simp;omega),List.getElem?_eq_none (by simp;omega)]
theorem qul {t:List NODE} {f:Int} (hl:t.length<4294967296) (hr:qhQ t f) :
  lp qb8 K0 ((t,List.replicate t.length 0,t,((t.length:Nat):Int),0,()),())=some ((t,cntL t t.length,()),()):=by
 have e0:cntL t 0=List.replicate t.length 0:=by simp [cntL,qv0,List.map_const']
 have:=qgQ (step:=qb8) (fun i=>((t,cntL t i,t,((t.length:Nat):Int),(i:Int),()),())) t.length (r:=((t,cntL t t.length,()),())) (by omega) (by
  intro g i hi;have d0:(i:Int)<((t.length:Nat):Int):=by omega
  have d1:(0:Int)<=(i:Int):=by omega
  cases hleaf:qiD t[i] with
  | true =>
   have:cntL t (i+1)=cntL t i:=by
    unfold cntL;congr 1;funext j;rw[qnX,qqn hi hleaf];simp
   rw[qb8,cnd d0,cnd d1,tN0,gE0 hi,bS0,show t[i].1=true from hleaf,qbc (by omega),this];rfl
  | false =>
   obtain⟨r1,r2,r3,r4,r5,r6⟩:=hr i hi hleaf;have hk:=qhc hi hleaf;have l1:(nL t[i]).toNat<t.length:=by omega
   have l2:(nR t[i]).toNat<t.length:=by omega
   have c1:(0:Int)<=nL t[i]:=by omega
   have c2:(0:Int)<=nR t[i]:=by omega
   have c3:nL t[i]<((cntL t i).length:Int):=by rw[qpu];omega
   obtain⟨s1,s2⟩:=qyT l1 l2 hk;have b1:=qA2 t i (nL t[i]).toNat;have b2:=qA2 t i (nR t[i]).toNat;have e1:iadd .i64 ((cnt t i (nL t[i]).toNat:Nat):Int) 1=((cnt t i (nL t[i]).toNat:Nat):Int)+1:=qbc (by omega);have e2:iadd .i64 ((cnt t i (nR t[i]).toNat+(if (nL t[i]).toNat=(nR t[i]).toNat then 1 else 0):Nat):Int) 1=((cnt t i (nR t[i]).toNat+(if (nL t[i]).toNat=(nR t[i]).toNat then 1 else 0):Nat):Int)+1:=qbc (by split<;>omega);have c4:nR t[i]<(((cntL t i).set (nL t[i]).toNat (((cnt t i (nL t[i]).toNat:Nat):Int)+1)).length:Int):=by rw[List.length_set,qpu];omega
   rw[qb8,cnd d0,cnd d1,tN0,gE0 hi,bS0,show t[i].1=false from hleaf,Bool.not_false,cond_true,cnd2 c1 c3,qko l1,bS0,cnd2 c1 c3,bS0,e1,cnd2 c2 c4,s1,bS0,cnd2 c2 c4,bS0,e2,s2,qbc (by omega)];rfl) (by
  intro g;rw[qb8,cnd' (by omega)])
 rw[<- e0];exact this
theorem qsP {t:List NODE} {f:Int} (hl:t.length<4294967296) (h0:0<t.length) (hr:qhQ t f) (hc:∀ j,0<j->j<t.length->cnt t t.length j=1) :
  ∃ V,Srch t V []/\lp qb9 K0 ((t,List.replicate t.length false,[0],()),())=some ((qfy t.length V,()),()):=by
 obtain⟨r,⟨V,hV,rfl⟩,hlp⟩:=qlj (step:=qb9) (fun s=>∃ V S:List Nat,Srch t V S/\s=((t,qfy t.length V,ints S,()),())) (fun s=>t.length+1-(s.1.2.1.filter id).length)
  (fun r=>∃ V,Srch t V []/\r=((qfy t.length V,()),())) (v:=((t,List.replicate t.length false,[0],()),()))
  ⟨[], [0], Srch.init h0, by simp [qfy, ints, List.map_const']⟩ (by simp; omega) (by
   rintro s ⟨V,S,hS,rfl⟩;rcases List.eq_nil_or_concat S with rfl | ⟨S',x,hSx⟩
   · exact .inl ⟨_,⟨V,hS,rfl⟩,fun g=>by rw[qb9,cnd' (by simp [ints])]⟩
   · rw [List.concat_eq_append] at hSx;subst hSx;have hnd:=hS.nd;have hVl:(V++(S'++[x])).length<=t.length:=qk1 hnd hS.lt;have hSl:S'.length+1<=t.length:=by simp at hVl;omega
     have hxlt:x<t.length:=hS.lt x (by simp);have hst:=Srch.step hc hr hS;have hxV:x ∉ V:=by
       intro hx;rw[List.nodup_append] at hnd;exact hnd.2.2 x hx x (by simp) rfl
     have hcount:∀ U:List Nat,U.Nodup->(∀ y∈U,y<t.length)->((qfy t.length U).filter id).length=U.length:=by
       intro U hU hlt;have e1:((qfy t.length U).filter id).length=((List.range t.length).filter fun j=>decide (j∈U)).length:=by
         unfold qfy;rw[List.filter_map,List.length_map];rfl
       rw[e1];refine List.Perm.length_eq ?_;rw[List.perm_iff_count];intro a;have n1:((List.range t.length).filter fun j=>decide (j∈U)).Nodup:=List.Nodup.sublist List.filter_sublist List.nodup_range;have m1:a∈((List.range t.length).filter fun j=>decide (j∈U)) ↔ a∈U:=by
         simp;exact hlt a
       by_cases ha:a∈U
       · rw[List.Nodup.count hU,if_pos ha,List.Nodup.count n1,if_pos (m1.2 ha)]
       · rw[List.count_eq_zero_of_not_mem ha,List.count_eq_zero_of_not_mem (fun h=>ha (m1.1 h))]
     have hVnd:V.Nodup:=(List.nodup_append.1 hnd).1;have hm1:=hcount V hVnd (fun y hy=>hS.lt y (List.mem_append_left _ hy));have hVx:(V++[x]).Nodup:=(List.nodup_append.1 hst.nd).1;have hm2:=hcount (V++[x]) hVx (fun y hy=>hst.lt y (List.mem_append_left _ hy));refine .inr ⟨_,⟨V++[x],S'++kids t x,hst,rfl⟩,?_,fun g=>?_⟩
     · show t.length + 1 - ((qfy t.length (V ++ [x])).filter id).length < t.length + 1 - ((qfy t.length V).filter id).length;rw[hm1,hm2];simp at hVl ⊢;omega
     · have hlen : (ints (S' ++ [x])).length = S'.length + 1 := by simp
       have e1:isub .i64 ((S'.length+1:Nat):Int) 1=((S'.length:Nat):Int):=by rw[qcP]<;>omega
       have c0:((S'.length+1:Nat):Int)>0:=by omega
       have c1:(0:Int)<=((S'.length:Nat):Int):=by omega
       have c2:((S'.length:Nat):Int)<((S'.length+1:Nat):Int):=by omega
       have g1:(ints (S'++[x]))[S'.length]?=some ((x:Nat):Int):=by simp [ints]
       have c3:(decide ((0:Int)<=((S'.length:Nat):Int))&&decide (((S'.length:Nat):Int)<=((S'.length:Nat):Int))&&decide (((S'.length:Nat):Int)<=((S'.length+1:Nat):Int)))=true:=by
         rw[decide_eq_true c1,decide_eq_true (Int.le_refl _),decide_eq_true (Int.le_of_lt c2)];rfl
       have c4:(0:Int)<=((x:Nat):Int):=by omega
       have c5:((x:Nat):Int)<((qfy t.length V).length:Int):=by simp;omega
       have e2:(((S'.length:Nat):Int)-0).toNat=S'.length:=by omega
       have e3:(ints (S'++[x])).take S'.length=ints S':=by simp [ints]
       rw[qb9,hlen,cnd c0,e1,cnd2 c1 c2,tN0,g1,bS0,c3,cond_true,cnd2 c4 c5,tN0,qjf hxlt,bS0,cnd c4,gE0 hxlt,bS0,qwd hxlt,e2,e3];cases hleaf:qiD t[x] with
       | true =>
         rw[show t[x].1=true from hleaf,qqn hxlt hleaf,List.append_nil];rfl
       | false =>
         obtain⟨r1,r2,r3,r4,r5,r6⟩:=hr x hxlt hleaf;have q1:(((nL t[x]).toNat:Nat):Int)=nL t[x]:=by omega
         have q2:(((nR t[x]).toNat:Nat):Int)=nR t[x]:=by omega
         have e4:ints (S'++kids t x)=ints S'++[nL t[x],nR t[x]]:=by
          rw[qhc hxlt hleaf];simp only[ints,List.map_append,List.map_cons,List.map_nil,q1,q2]
         have hb8:((ints S').length+2)*8<=140737488355328:=by rw[qz4];omega
         rw[show t[x].1=false from hleaf,blt hb8,cond_true,Bool.not_false,cond_true,e4])
 exact⟨V,hV,hlp⟩
theorem qzv {t:List NODE} {f:Int} (hl:t.length<4294967296) (h0:0<t.length) (hr:qhQ t f):∃ a e,qim t=some (a,e)/\(e=0 ↔ qrv t):=by
 have hcount:=qul hl hr;have gd:(decide ((t.length:Int)=(t.length:Int))&&decide (0<=(t.length:Int))&&decide (((8:Nat):Int)*(t.length:Int)<=281474976710656)&&decide ((t.length:Int)<=9223372036854775807))=true:=by
   have h1:(0:Int)<=(t.length:Int):=by omega
   have h2:((8:Nat):Int)*(t.length:Int)<=281474976710656:=by omega
   have h3:(t.length:Int)<=9223372036854775807:=by omega
   rw[decide_eq_true h1,decide_eq_true h2,decide_eq_true h3,decide_eq_true rfl];rfl
 have gd1:(decide ((t.length:Int)=(t.length:Int))&&decide (0<=(t.length:Int))&&decide (((1:Nat):Int)*(t.length:Int)<=281474976710656)&&decide ((t.length:Int)<=9223372036854775807))=true:=by
   have h1:(0:Int)<=(t.length:Int):=by omega
   have h2:((1:Nat):Int)*(t.length:Int)<=281474976710656:=by omega
   have h3:(t.length:Int)<=9223372036854775807:=by omega
   rw[decide_eq_true h1,decide_eq_true h2,decide_eq_true h3,decide_eq_true rfl];rfl
 rw[qim,gd,cond_true,tN0,hcount,bS0,qpu];rcases qo7 (step:=qa8) (fun i=>((t,cntL t t.length,((t.length:Nat):Int),(i:Int),()),())) t.length (fun i=>i=0\/cnt t t.length i=1) (fun i=>.inr (((i:Int),11,()),())) (.inl ((t,()),())) (by omega) (by
     intro i hi;have d0:(i:Int)<((t.length:Nat):Int):=by omega
     have d1:(0:Int)<=(i:Int):=by omega
     have d2:(i:Int)<((cntL t t.length).length:Int):=by rw[qpu];omega
     by_cases hi0:i=0
     · refine .inl ⟨.inl hi0, fun g => ?_⟩;rw[qa8,cnd d0,cnd2 d1 d2,tN0,qko hi,bS0,cnd' (by omega),qbc (by omega)];rfl
     · by_cases h1 : cnt t t.length i = 1
       · refine .inl ⟨.inr h1, fun g => ?_⟩;rw[qa8,cnd d0,cnd2 d1 d2,tN0,qko hi,bS0,cnd (by omega),decide_eq_true (by omega),qbc (by omega)];rfl
       · refine .inr ⟨fun h => by rcases h with h | h <;> contradiction, fun g => ?_⟩;rw[qa8,cnd d0,cnd2 d1 d2,tN0,qko hi,bS0,cnd (by omega),decide_eq_false (by omega)];rfl) (by
     intro g;rw[qa8,cnd' (by omega)]) with ⟨h,hlp⟩ | ⟨i,hi,h,hlp⟩
 · have hlp : lp qa8 K0 ((t, cntL t t.length, ((t.length : Nat) : Int), 0, ()), ()) = some (.inl ((t, ()), ())) := hlp;have hc:∀ j,0<j->j<t.length->cnt t t.length j=1:=fun j h1 h2=>by
     rcases h j h2 with h3 | h3
     · omega
     · exact h3
   obtain⟨V,hV,hlp2⟩:=qsP hl h0 hr hc;rw[hlp,bS0];dsimp only;rw[gd1,cond_true,tN0,hlp2,bS0];dsimp only;rw[qq4];rcases qo7 (step:=qbn) (fun i=>((qfy t.length V,((t.length:Nat):Int),(i:Int),()),())) t.length (fun i=>i∈V) (fun i=>.inr (((i:Int),11,()),())) (.inl ((),())) (by omega) (by
       intro i hi;have d0:(i:Int)<((t.length:Nat):Int):=by omega
       have d1:(0:Int)<=(i:Int):=by omega
       have d2:(i:Int)<((qfy t.length V).length:Int):=by rw[qq4];omega
       by_cases hiV:i∈V
       · refine .inl ⟨hiV, fun g => ?_⟩;rw[qbn,cnd d0,cnd2 d1 d2,tN0,qjf hi,bS0,decide_eq_true hiV,qbc (by omega)];rfl
       · refine .inr ⟨hiV, fun g => ?_⟩;rw[qbn,cnd d0,cnd2 d1 d2,tN0,qjf hi,bS0,decide_eq_false hiV];rfl) (by
       intro g;rw[qbn,cnd' (by omega)]) with ⟨h2,hlp3⟩ | ⟨i,hi,h2,hlp3⟩
   · have hlp3 : lp qbn K0 ((qfy t.length V, ((t.length : Nat) : Int), 0, ()), ()) = some (.inl ((), ())) := hlp3;rw[hlp3];exact⟨0,0,rfl,fun _=>⟨hc,hV.ranked h2⟩,fun _=>rfl⟩
   · have hlp3 : lp qbn K0 ((qfy t.length V, ((t.length : Nat) : Int), 0, ()), ()) = some (.inr (((i : Int), 11, ()), ())) := hlp3;rw[hlp3];exact⟨(i:Int),11,rfl,fun e=>(by cases e),fun hp=>absurd (hV.all hc hp.2 i hi) h2⟩
 · have hlp : lp qa8 K0 ((t, cntL t t.length, ((t.length : Nat) : Int), 0, ()), ()) = some (.inr (((i : Int), 11, ()), ())) := hlp;rw[hlp];refine⟨(i:Int),11,rfl,fun e=>(by cases e),fun hp=>?_⟩;exfalso;apply h;by_cases hi0:i=0
   · exact .inl hi0
   · exact .inr (hp.1 i (by omega) hi)
theorem qzV {V T:Type} {step:(V->Option T)->V->Option T} (f:Nat->V) (n:Nat) (ok:Nat->Prop) (Q:T->Prop) (fin:T)
  (hs:∀ i,i<n->(∀ j,j<i->ok j)->(ok i/\∀ g,step g (f i)=g (f (i+1)))\/(¬ ok i/\∃ r,Q r/\∀ g,step g (f i)=some r)) (he:∀ g,step g (f n)=some fin) :
  ∀ (d i m:Nat),i+d=n->d<m->(∀ j,j<i->ok j)->((∀ i,i<n->ok i)/\lp step m (f i)=some fin)\/(¬ (∀ i,i<n->ok i)/\∃ r,Q r/\lp step m (f i)=some r):=by
 intro d
 induction d with
 | zero =>
  intro i m hi hm hok;obtain⟨m,rfl⟩:∃ k,m=k+1:=⟨m-1,by omega⟩;have:i=n:=by omega
  subst this;exact .inl ⟨hok,he _⟩
 | succ d ih =>
  intro i m hi hm hok;obtain⟨m,rfl⟩:∃ k,m=k+1:=⟨m-1,by omega⟩;rcases hs i (by omega) hok with ⟨h1,h2⟩ | ⟨h1,r,h2,h3⟩
  · have := ih (i + 1) m (by omega) (by omega) (fun j hj => by
     by_cases e:j=i
     · subst e;exact h1
     · exact hok j (by omega))
    have e:lp step (m+1) (f i)=lp step m (f (i+1)):=h2 _;rw[e];exact this
  · exact .inr ⟨fun h=>h1 (h i (by omega)),r,h2,h3 _⟩
theorem qBF {V T:Type} {step:(V->Option T)->V->Option T} (f:Nat->V) (n:Nat) (ok:Nat->Prop) (Q:T->Prop) (fin:T) (hn:n<18446744073709551616)
  (hs:∀ i,i<n->(∀ j,j<i->ok j)->(ok i/\∀ g,step g (f i)=g (f (i+1)))\/(¬ ok i/\∃ r,Q r/\∀ g,step g (f i)=some r)) (he:∀ g,step g (f n)=some fin) :
  ((∀ i,i<n->ok i)/\lp step K0 (f 0)=some fin)\/(¬ (∀ i,i<n->ok i)/\∃ r,Q r/\lp step K0 (f 0)=some r) :=
 qzV f n ok Q fin hs he n 0 K0 (by omega) hn (fun j h=>by omega)
def qme (n:NODE):Prop:=0<=qdQ n/\qdQ n<=64/\0<=nL n/\nL n<=255/\0<=nR n/\nR n<=255
def qv6 (t:List NODE):Prop:=1<=t.length/\t.length<=255/\∀ i (h:i<t.length),qme t[i]
def qAC (m:qaL):Prop:=0<=m.1/\m.1<=64/\m.2.length<=64/\∀ i (h:i<m.2.length),qv6 m.2[i]
theorem qw0 (a:List (List NODE)) (b c:Int) {t:List NODE} (hl:t.length<4294967296) :
   ((∀ i (h:i<t.length),qme t[i])/\lp qck K0 ((a,b,c,t,((t.length:Nat):Int),0,()),())=some (.inl ((a,b,c,()),()))) \/
   (¬ (∀ i (h:i<t.length),qme t[i])/\lp qck K0 ((a,b,c,t,((t.length:Nat):Int),0,()),())=some (.inr ((false,()),()))):=by
 rcases qo7 (step:=qck) (fun i=>((a,b,c,t,((t.length:Nat):Int),(i:Int),()),())) t.length (fun i=>∀ h:i<t.length,qme t[i]) (fun i=>.inr ((false,()),())) (.inl ((a,b,c,()),())) (by omega) (by
    intro i hi;have d0:(i:Int)<((t.length:Nat):Int):=by omega
    have d1:(0:Int)<=(i:Int):=by omega
    have head:∀ g,qck g ((a,b,c,t,((t.length:Nat):Int),(i:Int),()),())=bif (decide (qdQ t[i]<0)) then (some (.inr ((false,()),()))) else (bif (decide (qdQ t[i]>64)) then (some (.inr ((false,()),()))) else (bif (decide (nL t[i]<0)) then (some (.inr ((false,()),()))) else (bif (decide (nL t[i]>255)) then (some (.inr ((false,()),()))) else (bif (decide (nR t[i]<0)) then (some (.inr ((false,()),()))) else (bif (decide (nR t[i]>255)) then (some (.inr ((false,()),()))) else (g ((a,b,c,t,((t.length:Nat):Int),((i+1:Nat):Int),()),()))))))):=by
      intro g;rw[qck,cnd d0,cnd d1,tN0,gE0 hi,bS0,qbc (by omega)];rfl
    by_cases h:qme t[i]
    · refine .inl ⟨fun _ => h, fun g => ?_⟩;obtain⟨h1,h2,h3,h4,h5,h6⟩:=h;rw[head,cnd' (by omega),cnd' (by omega),cnd' (by omega),cnd' (by omega),cnd' (by omega),cnd' (by omega)]
    · refine .inr ⟨fun h' => h (h' hi), fun g => ?_⟩;rw[head];by_cases h1:qdQ t[i]<0
      · rw[cnd h1]
      by_cases h2:qdQ t[i]>64
      · rw[cnd' h1,cnd h2]
      by_cases h3:nL t[i]<0
      · rw[cnd' h1,cnd' h2,cnd h3]
      by_cases h4:nL t[i]>255
      · rw[cnd' h1,cnd' h2,cnd' h3,cnd h4]
      by_cases h5:nR t[i]<0
      · rw[cnd' h1,cnd' h2,cnd' h3,cnd' h4,cnd h5]
      by_cases h6:nR t[i]>255
      · rw[cnd' h1,cnd' h2,cnd' h3,cnd' h4,cnd' h5,cnd h6]
      exfalso;apply h;unfold qme;omega) (by
    intro g;rw[qck,cnd' (by omega)]) with ⟨h,hlp⟩ | ⟨i,hi,h,hlp⟩
 · exact .inl ⟨fun i hi=>h i hi hi,hlp⟩
 · exact .inr ⟨fun hh=>h (fun hi=>hh i hi),hlp⟩
theorem qCe {m:qaL} (hl:m.2.length<4294967296) (ht:∀ t∈m.2,t.length<4294967296):∃ b,qjN m=some b/\(b=true ↔ qAC m):=by
 unfold qjN;by_cases h1:m.1<0
 · exact⟨false,by rw[cnd h1],fun h=>(by cases h),fun h=>by have:=h.1;omega⟩
 by_cases h2:m.1>64
 · exact⟨false,by rw[cnd' h1,cnd h2],fun h=>(by cases h),fun h=>by have:=h.2.1;omega⟩
 by_cases h3:((m.2.length:Nat):Int)>64
 · exact⟨false,by rw[cnd' h1,cnd' h2,cnd h3],fun h=>(by cases h),fun h=>by have:=h.2.2.1;omega⟩
 rw[cnd' h1,cnd' h2,cnd' h3];rcases qo7 (step:=qby) (fun i=>((m.2,((m.2.length:Nat):Int),(i:Int),()),())) m.2.length (fun i=>∀ h:i<m.2.length,qv6 m.2[i]) (fun i=>.inr ((false,()),())) (.inl ((),())) (by omega) (by
    intro i hi;have d0:(i:Int)<((m.2.length:Nat):Int):=by omega
    have d1:(0:Int)<=(i:Int):=by omega
    have hti:=ht _ (gM0 hi);by_cases g1:((m.2[i].length:Nat):Int)<1
    · refine .inr ⟨fun h => by have := (h hi).1; omega, fun g => ?_⟩;rw[qby,cnd d0,cnd d1,tN0,gE0 hi,bS0,cnd g1]
    by_cases g2:((m.2[i].length:Nat):Int)>255
    · refine .inr ⟨fun h => by have := (h hi).2.1; omega, fun g => ?_⟩;rw[qby,cnd d0,cnd d1,tN0,gE0 hi,bS0,cnd' g1,cnd g2]
    rcases qw0 m.2 ((m.2.length:Nat):Int) (i:Int) hti with ⟨h,hlp⟩ | ⟨h,hlp⟩
    · refine .inl ⟨fun _ => ⟨by omega, by omega, h⟩, fun g => ?_⟩;rw[qby,cnd d0,cnd d1,tN0,gE0 hi,bS0,cnd' g1,cnd' g2,hlp,bS0];dsimp only;rw[qbc (by omega)];rfl
    · refine .inr ⟨fun hh => h (hh hi).2.2, fun g => ?_⟩;rw[qby,cnd d0,cnd d1,tN0,gE0 hi,bS0,cnd' g1,cnd' g2,hlp,bS0]) (by
    intro g;rw[qby,cnd' (by omega)]) with ⟨h,hlp⟩ | ⟨i,hi,h,hlp⟩
 · have hlp : lp qby K0 ((m.2, ((m.2.length : Nat) : Int), 0, ()), ()) = some (.inl ((), ())) := hlp;exact⟨true,by rw[hlp];rfl,fun _=>⟨by omega,by omega,by omega,fun i hi=>h i hi hi⟩,fun _=>rfl⟩
 · have hlp : lp qby K0 ((m.2, ((m.2.length : Nat) : Int), 0, ()), ()) = some (.inr ((false, ()), ())) := hlp;exact⟨false,by rw[hlp];rfl,fun h'=>(by cases h'),fun hp=>absurd (fun hh=>hp.2.2.2 i hh) h⟩
def quc (f:Int):Nat->List NODE->Prop
 | 0,t=>qhQ t f
 | 1,t=>qrv t
 | 2,t=>qi9 t
 | _,t=>qC2 t
def Good (m:qaL):Prop:=qAC m/\∀ r,r<4->∀ i (h:i<m.2.length),quc m.1 r m.2[i]
theorem Good.ranges {m:qaL} (h:Good m) {i:Nat} (hi:i<m.2.length):qhQ m.2[i] m.1:=h.2 0 (by decide) i hi
theorem Good.shape {m:qaL} (h:Good m) {i:Nat} (hi:i<m.2.length):qrv m.2[i]:=h.2 1 (by decide) i hi
theorem Good.covers {m:qaL} (h:Good m) {i:Nat} (hi:i<m.2.length):qi9 m.2[i]:=h.2 2 (by decide) i hi
def MSz (m:qaL) (k:Nat):Prop:=∀ t∈m.2,TSz t k
theorem qu8 {m:qaL} {k:Nat} (hf:qAC m) (hs:MSz m k) (hk:k<500000000000) {r:Nat} (hr:r<4) (hlow:∀ r',r'<r->∀ i (h:i<m.2.length),quc m.1 r' m.2[i]) (z:Int×Int×Int×Int) :
   ((∀ i (h:i<m.2.length),quc m.1 r m.2[i])/\lp qaH K0 (((r:Int),(r:Int),m.2,((m.2.length:Nat):Int),0,()),((m.1,m.2,()),(z.1,z.2.1,z.2.2.1,z.2.2.2,()),()))=some (.inl (((r:Int),()),((m.1,m.2,()),(z.1,z.2.1,z.2.2.1,z.2.2.2,()),())))) \/
   (¬ (∀ i (h:i<m.2.length),quc m.1 r m.2[i])/\∃ e a b c,e≠0/\lp qaH K0 (((r:Int),(r:Int),m.2,((m.2.length:Nat):Int),0,()),((m.1,m.2,()),(z.1,z.2.1,z.2.2.1,z.2.2.2,()),()))=some (.inr ((),((e,a,b,c,()),())))):=by
 have hlen:=hf.2.2.1;have ans:∀ i (h:i<m.2.length),∃ a e,(e=0 ↔ quc m.1 r m.2[i])/\∀ g,qaH g (((r:Int),(r:Int),m.2,((m.2.length:Nat):Int),(i:Int),()),((m.1,m.2,()),(z.1,z.2.1,z.2.2.1,z.2.2.2,()),())) =
     bif (!decide (e=0)) then some (.inr ((),((e,0,(i:Int),a,()),()))) else g (((r:Int),(r:Int),m.2,((m.2.length:Nat):Int),((i+1:Nat):Int),()),((m.1,m.2,()),(z.1,z.2.1,z.2.2.1,z.2.2.2,()),())):=by
   intro i hi;have d0:(i:Int)<((m.2.length:Nat):Int):=by omega
   have d1:(0:Int)<=(i:Int):=by omega
   have htf:=hf.2.2.2 i hi;have htl:m.2[i].length<4294967296:=by have:=htf.2.1;omega
   have ht0:0<m.2[i].length:=htf.1;have hts:=hs _ (gM0 hi)
   match r,hr with
   | 0, _ =>
     obtain⟨a,e,h1,h2⟩:=qxR (f:=m.1) htl;refine⟨a,e,h2,fun g=>?_⟩;rw[qaH,cnd d0,cnd d1,tN0,gE0 hi,bS0,cnd (by rfl),h1,bS0,qbc (by omega)];rfl
   | 1, _ =>
     obtain⟨a,e,h1,h2⟩:=qzv htl ht0 (hlow 0 (by decide) i hi);refine⟨a,e,h2,fun g=>?_⟩;rw[qaH,cnd d0,cnd d1,tN0,gE0 hi,bS0,cnd' (by decide),cnd (by rfl),h1,bS0,qbc (by omega)];rfl
   | 2, _ =>
     obtain⟨a,e,h1,h2⟩:=qyQ htl hts (by omega);refine⟨a,e,h2,fun g=>?_⟩;rw[qaH,cnd d0,cnd d1,tN0,gE0 hi,bS0,cnd' (by decide),cnd' (by decide),cnd (by rfl),h1,bS0,qbc (by omega)];rfl
   | 3, _ =>
     obtain⟨a,e,h1,h2⟩:=qBh htl hts hk (hlow 0 (by decide) i hi);refine⟨a,e,h2,fun g=>?_⟩;rw[qaH,cnd d0,cnd d1,tN0,gE0 hi,bS0,cnd' (by decide),cnd' (by decide),cnd' (by decide),cnd (by rfl),h1,bS0,qbc (by omega)];rfl
 have ans2:∀ i,∃ a e,∀ h:i<m.2.length,(e=0 ↔ quc m.1 r m.2[i])/\∀ g,qaH g (((r:Int),(r:Int),m.2,((m.2.length:Nat):Int),(i:Int),()),((m.1,m.2,()),(z.1,z.2.1,z.2.2.1,z.2.2.2,()),())) =
     bif (!decide (e=0)) then some (.inr ((),((e,0,(i:Int),a,()),()))) else g (((r:Int),(r:Int),m.2,((m.2.length:Nat):Int),((i+1:Nat):Int),()),((m.1,m.2,()),(z.1,z.2.1,z.2.2.1,z.2.2.2,()),())):=by
   intro i;by_cases h:i<m.2.length
   · obtain ⟨a, e, h1, h2⟩ := ans i h;exact⟨a,e,fun _=>⟨h1,h2⟩⟩
   · exact⟨0,0,fun h'=>absurd h' h⟩
 have A:=fun i=>(ans2 i).choose
 let E:Nat->Int:=fun i=>(ans2 i).choose_spec.choose
 have hE:∀ i (h:i<m.2.length),(E i=0 ↔ quc m.1 r m.2[i])/\∀ g,qaH g (((r:Int),(r:Int),m.2,((m.2.length:Nat):Int),(i:Int),()),((m.1,m.2,()),(z.1,z.2.1,z.2.2.1,z.2.2.2,()),())) =
     bif (!decide (E i=0)) then some (.inr ((),((E i,0,(i:Int),(ans2 i).choose,()),()))) else g (((r:Int),(r:Int),m.2,((m.2.length:Nat):Int),((i+1:Nat):Int),()),((m.1,m.2,()),(z.1,z.2.1,z.2.2.1,z.2.2.2,()),())):=fun i h=>(ans2 i).choose_spec.choose_spec h
 rcases qo7 (step:=qaH) (fun i=>(((r:Int),(r:Int),m.2,((m.2.length:Nat):Int),(i:Int),()),((m.1,m.2,()),(z.1,z.2.1,z.2.2.1,z.2.2.2,()),()))) m.2.length (fun i=>E i=0) (fun i=>.inr ((),((E i,0,(i:Int),(ans2 i).choose,()),()))) (.inl (((r:Int),()),((m.1,m.2,()),(z.1,z.2.1,z.2.2.1,z.2.2.2,()),()))) (by omega) (by
     intro i hi;obtain⟨h1,h2⟩:=hE i hi;by_cases h0:E i=0
     · exact .inl ⟨h0,fun g=>by rw[h2,decide_eq_true h0];rfl⟩
     · exact .inr ⟨h0,fun g=>by rw[h2,decide_eq_false h0];rfl⟩) (by
     intro g;rw[qaH,cnd' (by omega)]) with ⟨h,hlp⟩ | ⟨i,hi,h,hlp⟩
 · exact .inl ⟨fun i hi=>(hE i hi).1.1 (h i hi),hlp⟩
 · exact .inr ⟨fun hh=>h ((hE i hi).1.2 (hh i hi)),E i,0,(i:Int),_,h,hlp⟩
theorem qC3 {m:qaL} {k:Nat} (hl:m.2.length<4294967296) (ht:∀ t∈m.2,t.length<4294967296) (hs:MSz m k) (hk:k<500000000000):∃ b,qeG m=some b/\(b=true ↔ Good m):=by
 obtain⟨b,hb,hbf⟩:=qCe hl ht;cases b with
 | false =>
  have hnf:¬ qAC m:=fun h=>by have:=hbf.2 h;cases this
  refine⟨false,?_,fun h=>(by cases h),fun h=>absurd h.1 hnf⟩;rw[qeG,qg2,hb,bS0];rfl
 | true =>
  have hf:=hbf.1 rfl;rcases qBF (step:=qbJ) (fun r=>(((r:Int),()),((m.1,m.2,()),(0,0,0,0,()),()))) 4 (fun r=>∀ i (h:i<m.2.length),quc m.1 r m.2[i]) (fun r=>∃ e a b c,e≠0/\r=.inr ((),((e,a,b,c,()),()))) (.inl ((),((0,0,0,0,()),()))) (by omega) (by
     intro r hr hlow;have d0:(r:Int)<4:=by omega
     rcases qu8 hf hs hk hr (fun r' hr'=>hlow r' hr') (0,0,0,0) with ⟨h1,h2⟩ | ⟨h1,e,a,b,c,h2,h3⟩
     · refine .inl ⟨h1, fun g => ?_⟩;rw[qbJ,cnd d0,h2,bS0];dsimp only;rw[qbc (by omega)];rfl
     · refine .inr ⟨h1, _, ⟨e, a, b, c, h2, rfl⟩, fun g => ?_⟩;rw[qbJ,cnd d0,h3,bS0]) (by
     intro g;rw[qbJ,cnd' (by decide)]) with ⟨h,hlp⟩ | ⟨h,r,⟨e,a,b,c,he,rfl⟩,hlp⟩
  · have hlp : lp qbJ K0 (((0 : Int), ()), ((m.1, m.2, ()), (0, 0, 0, 0, ()), ())) = _ := hlp;refine⟨true,?_,fun _=>⟨hf,h⟩,fun _=>rfl⟩;rw[qeG,qg2,hb,bS0,Bool.not_true,cond_false,hlp];rfl
  · have hlp : lp qbJ K0 (((0 : Int), ()), ((m.1, m.2, ()), (0, 0, 0, 0, ()), ())) = _ := hlp;refine⟨false,?_,fun h'=>(by cases h'),fun hg=>absurd hg.2 h⟩;rw[qeG,qg2,hb,bS0,Bool.not_true,cond_false,hlp,bS0];dsimp only;rw[bS0,decide_eq_false he];rfl
theorem qmJ (a:RAT):qbO a=some (cutR 4 a):=by
 obtain⟨⟨s,x⟩,y⟩:=a;unfold qbO cutR;by_cases h1:4<x.length
 · have c1 : ((x.length : Nat) : Int) > 4 := by omega
   have c2:(4:Int)<=((x.length:Nat):Int):=by omega
   by_cases h2:4<y.length
   · have c3 : ((y.length : Nat) : Int) > 4 := by omega
     have c4:(4:Int)<=((y.length:Nat):Int):=by omega
     rw[cnd c1,cnd c2,cnd c3,cnd c4]
   · have c3 : ¬ ((y.length : Nat) : Int) > 4 := by omega
     rw[cnd c1,cnd c2,cnd' c3,List.take_of_length_le (l:=y) (by omega)]
 · have c1 : ¬ ((x.length : Nat) : Int) > 4 := by omega
   by_cases h2:4<y.length
   · have c3 : ((y.length : Nat) : Int) > 4 := by omega
     have c4:(4:Int)<=((y.length:Nat):Int):=by omega
     rw[cnd' c1,cnd c3,cnd c4,List.take_of_length_le (l:=x) (by omega)]
   · have c3 : ¬ ((y.length : Nat) : Int) > 4 := by omega
     rw[cnd' c1,cnd' c3,List.take_of_length_le (l:=x) (by omega),List.take_of_length_le (l:=y) (by omega)]
def qsv (n:NODE):NODE:=(n.1,n.2.1,cutR 4 n.2.2.1,n.2.2.2.1,n.2.2.2.2.1,n.2.2.2.2.2.1,cutR 4 n.2.2.2.2.2.2.1,cutR 4 n.2.2.2.2.2.2.2)
def qiM (t:List NODE):List NODE:=(t.take 15).map qsv
def cutM (m:qaL):qaL:=(m.1,(m.2.take 6).map qiM)
theorem qw6 (n:NODE):NSz (qsv n) 4:=⟨qqw 4 _,qqw 4 _,qqw 4 _⟩
theorem qw5 (t:List NODE):TSz (qiM t) 4:=by
 intro n hn;obtain⟨x,_,rfl⟩:=List.mem_map.1 hn;exact qw6 x
theorem qu7 (t:List NODE):(qiM t).length<=15:=by simp [qiM];omega
theorem qB3 (m:qaL):MSz (cutM m) 4:=by
 intro t ht;obtain⟨x,_,rfl⟩:=List.mem_map.1 ht;exact qw5 x
theorem qyP (m:qaL):∀ t∈(cutM m).2,t.length<=15:=by
 intro t ht;obtain⟨x,_,rfl⟩:=List.mem_map.1 ht;exact qu7 x
theorem qvi {m:qaL} {i:Nat} (hi:i<m.2.length) (hl:m.2[i].length<=9223372036854775807) (hi2:i<4611686018427387904) (z w:Int×List (List NODE)) :
  lp qaV K0 (((i:Int),[],0,()),((m.1,m.2,()),(z.1,z.2,()),(w.1,w.2,()),()))=some (((i:Int),qiM m.2[i],()),((m.1,m.2,()),(z.1,z.2,()),(w.1,w.2,()),())):=by
 have hn:min m.2[i].length 15<=m.2[i].length:=Nat.min_le_left _ _;exact qgQ (step:=qaV) (fun k=>(((i:Int),(m.2[i].take k).map qsv,(k:Int),()),((m.1,m.2,()),(z.1,z.2,()),(w.1,w.2,()),()))) (min m.2[i].length 15) (by omega) (by
  intro g k hk;have h1:k<m.2[i].length:=by omega
  have d0:(0:Int)<=(i:Int):=by omega
  have d1:(k:Int)<((m.2[i].length:Nat):Int):=by omega
  have d2:(k:Int)<15:=by omega
  have d3:(0:Int)<=(k:Int):=by omega
  have d4:(((m.2[i].take k).map qsv).length+1)*208<=140737488355328:=by simp;omega
  rw[qaV,cnd d0,tN0,gE0 hi,bS0,cnd d1,cnd d2,cnd d0,bS0,cnd d3,tN0,gE0 h1,bS0,qmJ,bS0,qmJ,bS0,qmJ,bS0,blt d4,cond_true,qbc (by omega),qh1 _ h1];rfl) (by
  intro g;have d0:(0:Int)<=(i:Int):=by omega
  by_cases h:m.2[i].length<=15
  · have c1 : ¬ ((min m.2[i].length 15 : Nat) : Int) < ((m.2[i].length : Nat) : Int) := by omega
    rw[qaV,cnd d0,tN0,gE0 hi,bS0,cnd' c1,Nat.min_eq_left h,List.take_of_length_le (Nat.le_refl _),qiM,List.take_of_length_le h]
  · have c1 : ((min m.2[i].length 15 : Nat) : Int) < ((m.2[i].length : Nat) : Int) := by omega
    have c2:¬ ((min m.2[i].length 15:Nat):Int)<15:=by omega
    rw[qaV,cnd d0,tN0,gE0 hi,bS0,cnd c1,cnd' c2,Nat.min_eq_right (by omega),qiM])
theorem qAE (m:qaL) (hl:m.2.length<=9223372036854775807) (ht:∀ t∈m.2,t.length<=9223372036854775807):qeu m=some (cutM m):=by
 have hn:min m.2.length 6<=m.2.length:=Nat.min_le_left _ _;have key:=qgQ (step:=qaW) (fun i=>(((i:Int),()),((m.1,m.2,()),(0,[],()),(m.1,(m.2.take i).map qiM,()),()))) (min m.2.length 6) (r:=((),((0,[],()),(m.1,(m.2.take 6).map qiM,()),()))) (by omega) (by
  intro g i hi;have h1:i<m.2.length:=by omega
  have d0:(i:Int)<((m.2.length:Nat):Int):=by omega
  have d1:(i:Int)<6:=by omega
  have hin:=qvi h1 (ht _ (gM0 h1)) (by omega) (0,[]) (m.1,(m.2.take i).map qiM);have d4:(((m.2.take i).map qiM).length+1)*24<=140737488355328:=by simp;omega
  rw[qaW,cnd d0,cnd d1,hin,bS0,blt d4,cond_true,qbc (by omega),qh1 _ h1];rfl) (by
  intro g;by_cases h:m.2.length<=6
  · have c1 : ¬ ((min m.2.length 6 : Nat) : Int) < ((m.2.length : Nat) : Int) := by omega
    rw[qaW,cnd' c1,Nat.min_eq_left h,List.take_of_length_le (Nat.le_refl _),List.take_of_length_le h]
  · have c1 : ((min m.2.length 6 : Nat) : Int) < ((m.2.length : Nat) : Int) := by omega
    have c2:¬ ((min m.2.length 6:Nat):Int)<6:=by omega
    rw[qaW,cnd c1,cnd' c2,Nat.min_eq_right (by omega)])
 have key':lp qaW K0 ((0,()),((m.1,m.2,()),(0,[],()),(m.1,[],()),()))=_:=key;rw[qeu,key'];rfl
inductive TR where
 | leaf (i:Nat)
 | split (i:Nat) (l r:TR)
def TR.top:TR->Nat
 | .leaf i=>i
 | .split i _ _=>i
def TR.size:TR->Nat
 | .leaf _=>1
 | .split _ l r=>1+l.size+r.size
def TR.deep:TR->Nat
 | .leaf _=>1
 | .split _ l r=>1+max l.deep r.deep
def Is (t:List NODE) (f:Int):TR->Prop
 | .leaf i=>∃ h:i<t.length,qiD t[i]=true
 | .split i l r=>∃ h:i<t.length,qiD t[i]=false/\0<=qdQ t[i]/\qdQ t[i]<f/\nL t[i]=(l.top:Int)/\nR t[i]=(r.top:Int)/\Is t f l/\Is t f r
theorem qBf {t:List NODE} {f:Int} (hr:qhQ t f) (hrk:qv7 t):∀ i,i<t.length->∃ T,Is t f T/\T.top=i/\T.deep<=t.length+1:=by
 obtain⟨rk,hrk⟩:=hrk;have key:∀ (d i:Nat),i<t.length->rk i<=d->∃ T,Is t f T/\T.top=i/\T.deep<=rk i+1:=by
  intro d
  induction d with
  | zero =>
   intro i hi hd;cases hl:qiD t[i] with
   | true=>exact⟨.leaf i,⟨hi,hl⟩,rfl,by simp [TR.deep]⟩
   | false =>
    have:=(hrk i hi).2 (nL t[i]).toNat (by rw[qhc hi hl];simp);omega
  | succ d ih =>
   intro i hi hd;cases hl:qiD t[i] with
   | true=>exact⟨.leaf i,⟨hi,hl⟩,rfl,by simp [TR.deep]⟩
   | false =>
    obtain⟨r1,r2,r3,r4,r5,r6⟩:=hr i hi hl;have k1:=(hrk i hi).2 (nL t[i]).toNat (by rw[qhc hi hl];simp);have k2:=(hrk i hi).2 (nR t[i]).toNat (by rw[qhc hi hl];simp);obtain⟨L,hL,hLt,hLd⟩:=ih (nL t[i]).toNat (by omega) (by omega);obtain⟨R,hR,hRt,hRd⟩:=ih (nR t[i]).toNat (by omega) (by omega);refine⟨.split i L R,⟨hi,hl,r1,r2,by rw[hLt];omega,by rw[hRt];omega,hL,hR⟩,rfl,?_⟩
    simp only[TR.deep];omega
 intro i hi;obtain⟨T,h1,h2,h3⟩:=key (rk i) i hi (Nat.le_refl _);have:=(hrk i hi).1;exact⟨T,h1,h2,by omega⟩
theorem Good.tree {m:qaL} (h:Good m) {i:Nat} (hi:i<m.2.length):∃ T,Is m.2[i] m.1 T/\T.top=0/\T.deep<=m.2[i].length+1 :=
 qBf (h.ranges hi) (h.shape hi).2 0 (h.1.2.2.2 i hi).1
abbrev zR:RAT:=((false,[]),[])
abbrev zN:NODE:=(false,0,zR,0,0,false,zR,zR)
def qfq (t:List NODE) (i:Nat):NODE:=(t[i]?).getD zN
theorem qf1 {t:List NODE} {i:Nat} (h:i<t.length):qfq t i=t[i]:=by simp [qfq,h]
def qyV (row:List CELL) (i:Nat):CELL:=(row[i]?).getD (false,zR)
theorem qw7 {row:List CELL} {i:Nat} (h:i<row.length):qyV row i=row[i]:=by simp [qyV,h]
def goes (n:NODE) (c:CELL):Bool:=if c.1 then qDz n else decide (rv c.2<rv (nCut n))
def goL (t:List NODE) (row:List CELL) (i:Nat):Bool:=goes (qfq t i) (qyV row (qdQ (qfq t i)).toNat)
theorem Is.top_lt {t:List NODE} {f:Int} {T:TR} (h:Is t f T):T.top<t.length:=by
 cases T with
 | leaf i=>exact h.1
 | split i l r=>exact h.1
theorem TR.deep_pos (T:TR):0<T.deep:=by cases T<;>simp [TR.deep]<;>omega
theorem TSz.at {t:List NODE} {k:Nat} (h:TSz t k) {i:Nat} (hi:i<t.length):NSz (qfq t i) k:=by rw[qf1 hi];exact h _ (gM0 hi)
theorem qA1 {t:List NODE} (hs:TSz t 4) {i:Nat} (hi:i<t.length):SzQ (cov t i) 4:=(hs.at hi).2.2.szQ (by decide)
def mkT (t:List NODE):Nat->Nat->TR
 | 0,i=>.leaf i
 | d+1,i=>if qiD (qfq t i) then .leaf i else .split i (mkT t d (nL (qfq t i)).toNat) (mkT t d (nR (qfq t i)).toNat)
theorem qCP {t:List NODE} {f:Int}:∀ (d:Nat) (T:TR),Is t f T->T.deep<=d->mkT t d T.top=T:=by
 intro d
 induction d with
 | zero=>intro T _ h;have:=T.deep_pos;omega
 | succ d ih =>
  intro T h hd;cases T with
  | leaf i =>
   obtain⟨h1,h2⟩:=h;simp only[TR.top,mkT,qf1 h1,h2,if_true]
  | split i l r =>
   obtain⟨h1,h2,_,_,h3,h4,h5,h6⟩:=h;simp only[TR.deep] at hd;show mkT t (d+1) i=_;rw[mkT,qf1 h1,h2,h3,h4,tN0,tN0,ih l h5 (by omega),ih r h6 (by omega)];rfl
def treeOf (t:List NODE):TR:=mkT t (t.length+1) 0
theorem Good.treeOf {m:qaL} (h:Good m) {i:Nat} (hi:i<m.2.length):Is m.2[i] m.1 (treeOf m.2[i])/\(treeOf m.2[i]).top=0/\(treeOf m.2[i]).deep<=m.2[i].length+1:=by
 obtain⟨T,h1,h2,h3⟩:=h.tree hi;have:X.treeOf m.2[i]=T:=by rw[X.treeOf,<- h2];exact qCP _ T h1 h3
 rw[this];exact⟨h1,h2,h3⟩
def qip (m:qaL) (i:Nat):List NODE:=(m.2[i]?).getD []
theorem qq5 {m:qaL} {i:Nat} (h:i<m.2.length):qip m i=m.2[i]:=by simp [qip,h]
theorem qCY {m:qaL} (h:Good m) (hl:∀ t∈m.2,t.length<=15) {i:Nat} (hi:i<m.2.length):(treeOf (qip m i)).deep<=16:=by
 rw[qq5 hi];have:=(h.treeOf hi).2.2;have:=hl _ (gM0 hi);omega
def CSz (row:List CELL) (k:Nat):Prop:=∀ c∈row,SzR c.2 k
theorem qBU {n:NODE} {c:CELL} {k j:Nat} (hn:SzR (nCut n) k) (hk:k<1099511627776) (hc:SzR c.2 j) (hj:j<1099511627776):qjn n c=some (goes n c):=by
 unfold qjn goes;cases h:c.1 with
 | true=>rfl
 | false =>
  rw[cond_false,qiR (hc.sm hj) (hn.sm hk),bS0,if_neg (by decide)];congr 1;by_cases h:rv c.2<rv (nCut n)
  · rw[decide_eq_true (qvz.2 h),decide_eq_true h]
  · rw[decide_eq_false (fun e=>h (qvz.1 e)),decide_eq_false h]
theorem qCd {n:NODE} {c:CELL} {k j:Nat} (hn:SzR (nCut n) k) (hk:k<1099511627776) (hc:SzR c.2 j) (hj:j<1099511627776):qjo n c=some (!qiD n&&goes n c):=by
 unfold qjo;rw[qBU hn hk hc hj];show _=some (!n.1&&goes n c);cases h:n.1 with
 | true=>rfl
 | false=>rfl
theorem qCU {t:List NODE} {f:Int} {row:List CELL} {i:Nat} (hs:TSz t 4) (hc:CSz row 9) (hi:i<t.length) (h0:0<=qdQ t[i]) (h1:qdQ t[i]<(row.length:Int)) :
  ∃ c,row[(qdQ t[i]).toNat]?=some c/\SzR c.2 9/\goes t[i] c=goL t row i:=by
 have hlt:(qdQ t[i]).toNat<row.length:=by omega
 refine⟨row[(qdQ t[i]).toNat],gE0 hlt,hc _ (gM0 hlt),?_⟩;rw[goL,qf1 hi,qw7 hlt]
theorem qyO (l:List CELL):CSz (l.map qi7) 9:=by
 intro c hc;obtain⟨x,_,rfl⟩:=List.mem_map.1 hc;exact⟨Nat.le_trans (qqw 3 _).1 (by decide),Nat.le_trans (qqw 3 _).2 (by decide)⟩
theorem qCW {m:qaL} {row:List CELL} (hl:m.2.length<4294967296) (ht:∀ t∈m.2,t.length<4294967296) (hs:MSz m 4) :
  ∃ e:Int,qeB m row=some e/\qcO m row=some e/\(e=0 ↔ Good m/\(row.length:Int)=m.1):=by
 obtain⟨b,h1,h2⟩:=qC3 hl ht hs (by decide);have key:∃ e:Int,qeB m row=some e/\(e=0 ↔ Good m/\(row.length:Int)=m.1):=by
  cases b with
  | false=>exact⟨1,by rw[qeB,h1];rfl,⟨fun h=>absurd h (by decide),fun h=>by have:=h2.2 h.1;simp at this⟩⟩
  | true =>
   by_cases h:(row.length:Int)=m.1
   · exact⟨0,by rw[qeB,h1,bS0,Bool.not_true,cond_false,decide_eq_true h];rfl,by simp [h2.1 rfl,h]⟩
   · exact⟨14,by rw[qeB,h1,bS0,Bool.not_true,cond_false,decide_eq_false h];rfl,by simp [h]⟩
 obtain⟨e,h3,h4⟩:=key;exact⟨e,h3,by rw[qcO,h3];rfl,h4⟩
structure Askd (m:qaL) (row:List CELL):Prop where
 good:Good m
 len:(row.length:Int)=m.1
 ms:MSz m 4
 ml:m.2.length<=6
 mt:∀ t∈m.2,t.length<=15
 cs:CSz row 9
theorem Askd.tree {m:qaL} {row:List CELL} (h:Askd m row) {i:Nat} (hi:i<m.2.length):TSz m.2[i] 4/\Is m.2[i] (row.length:Int) (treeOf (qip m i))/\(treeOf (qip m i)).top=0/\(treeOf (qip m i)).deep<=16/\qip m i=m.2[i]:=by
 have h1:=h.good.treeOf hi;have h2:=qCY h.good h.mt hi;rw[qq5 hi] at h2 ⊢;exact⟨h.ms _ (gM0 hi),by rw[h.len];exact h1.1,h1.2.1,h2,rfl⟩
theorem Askd.cov {m:qaL} {row:List CELL} (h:Askd m row) {i:Nat} (hi:i<m.2.length):qi9 m.2[i]:=h.good.covers hi
theorem Askd.f64 {m:qaL} {row:List CELL} (h:Askd m row):row.length<=64:=by
 have:=h.good.1.2.1;have:=h.len;omega
theorem qAy (m0:qaL) (row0:List CELL) (hl:m0.2.length<=9223372036854775807) (ht:∀ t∈m0.2,t.length<=9223372036854775807) (hr:row0.length<=9223372036854775807) :
   ∃ m row,qcU m0 row0=some (m,row)/\MSz m 4/\m.2.length<=3/\(∀ t∈m.2,t.length<=15)/\CSz row 9:=by
 have hf:=qAE m0 hl ht;have ms:=qB3 m0;have mt:=qyP m0;have h9:=qAD row0 70 hr (by decide);have h9:qcX row0 70=some ((row0.take 70).map qi7):=h9;have cs:=qyO (row0.take 70);by_cases h3:((cutM m0).2.length:Int)>3
 · refine ⟨((cutM m0).1, (cutM m0).2.take 3), (row0.take 70).map qi7, ?_, fun t h => ms t (List.mem_of_mem_take h), by simp; omega, fun t h => mt t (List.mem_of_mem_take h), cs⟩
   rw[qcU,hf,bS0,cnd h3,cnd (by omega),h9];rfl
 · refine ⟨cutM m0, (row0.take 70).map qi7, ?_, ms, by omega, mt, cs⟩;rw[qcU,hf,bS0,cnd' h3,h9];rfl
def qjY (f:Nat->Rat):Nat->Rat
 | 0=>1
 | n+1=>qjY f n*f n
def qcan (qs:List Rat):List RAT:=qs.map canQ
@[simp] theorem qDe (qs:List Rat):(qcan qs).length=qs.length:=by simp [qcan]
def lsum:List Rat->Rat
 | []=>0
 | x::r=>x+lsum r
theorem qiE (a b:List Rat):lsum (a++b)=lsum a+lsum b:=by
 induction a with
 | nil=>simp [lsum,Rat.zero_add]
 | cons x a ih=>simp only[List.cons_append,lsum,ih,Rat.add_assoc]
theorem qi9.ne {t:List NODE} (h:qi9 t):∀ i,i<t.length->cov t i≠0:=by
 intro i hi e;have:=h i hi;rw[qi8 hi] at e;rw[e] at this;exact absurd this (by decide)
abbrev AP:=Nat×Rat×Bool
def encP (p:AP):PART:=((p.1:Int),canQ p.2.1,p.2.2)
def encW (w:List AP):List PART:=w.map encP
theorem qpp (w:List AP):(encW w).length=w.length:=by simp [encW]
theorem qAd {w:List AP} {i:Nat} (h:i<w.length):(encW w)[i]?=some (encP w[i]):=by simp [encW,h]
def qm8 (f:Nat) (q:Rat) (ok:Bool):List AP->List AP
 | []=>[(f,q,ok)]
 | p::w=>if p.1<f then p::qm8 f q ok w else if p.1=f then (f,p.2.1*q,p.2.2&&ok)::w else (f,q,ok)::p::w
def ASz (w:List AP) (k:Nat):Prop:=∀ p∈w,SzQ p.2.1 k
def qAb (t:List NODE) (i:Nat):Nat:=(qdQ (qfq t i)).toNat
theorem qy7 {f:Nat} {q:Rat} {ok:Bool} {w:List AP}:∀ p∈qm8 f q ok w,p.1=f\/∃ p'∈w,p'.1=p.1:=by
 induction w with
 | nil=>intro p hp;simp [qm8] at hp;subst hp;exact .inl rfl
 | cons a w ih =>
  intro p hp;simp only[qm8] at hp;split at hp
  · rcases List.mem_cons.1 hp with rfl | hp
    · exact .inr ⟨p,List.mem_cons_self,rfl⟩
    · rcases ih p hp with h | ⟨p', h1, h2⟩
      · exact .inl h
      · exact .inr ⟨p',List.mem_cons_of_mem _ h1,h2⟩
  · split at hp
    · rcases List.mem_cons.1 hp with rfl | hp
      · exact .inl rfl
      · exact .inr ⟨p,List.mem_cons_of_mem _ hp,rfl⟩
    · rcases List.mem_cons.1 hp with rfl | hp
      · exact .inl rfl
      · exact .inr ⟨p,hp,rfl⟩
theorem qvw {t:List NODE} (hs:TSz t 4) {a i:Nat} (ha:a<t.length) (hi:i<t.length):SzQ (cov t a/cov t i) 8:=(qA1 hs ha).div (qA1 hs hi)
def qkG:List Rat->Rat
 | []=>1
 | x::r=>x*qkG r
theorem qo6 (a b:List Rat):qkG (a++b)=qkG a*qkG b:=by
 induction a with
 | nil=>simp [qkG,Rat.one_mul]
 | cons x a ih=>simp only[List.cons_append,qkG,ih,Rat.mul_assoc]
def facP (set:Nat) (p:AP):Rat:=if set.testBit p.1 then (if p.2.2 then 1 else 0) else p.2.1
def qkS (set:Nat) (w:List AP):Rat:=qkG (w.map (facP set))
def qeH:TR->List Nat
 | .leaf i=>[i]
 | .split i l r=>i::(qeH l++qeH r)
theorem qwt (T:TR):(qeH T).length=T.size:=by
 induction T with
 | leaf i=>rfl
 | split i l r ihl ihr=>simp only[qeH,TR.size,List.length_cons,List.length_append,ihl,ihr];omega
theorem qjF {t:List NODE} {f:Int} {T:TR} (h:Is t f T):∀ j∈qeH T,j<t.length:=by
 induction T with
 | leaf i=>intro j hj;simp [qeH] at hj;subst hj;exact h.1
 | split i l r ihl ihr =>
  obtain⟨h1,_,_,_,_,_,h2,h3⟩:=h;intro j hj;simp only[qeH,List.mem_cons,List.mem_append] at hj;rcases hj with rfl | hj | hj
  · exact h1
  · exact ihl h2 j hj
  · exact ihr h3 j hj
theorem Is.kids {t:List NODE} {f:Int} {i:Nat} {l r:TR} (h:Is t f (.split i l r)):kids t i=[l.top,r.top]:=by
 obtain⟨h1,h2,_,_,h3,h4,_,_⟩:=h;rw[qhc h1 h2,h3,h4,tN0,tN0]
theorem qkc {t:List NODE} {f:Int} {T:TR} (h:Is t f T):∀ j∈qeH T,j=T.top\/∃ p∈qeH T,j∈kids t p:=by
 induction T with
 | leaf i=>intro j hj;simp [qeH] at hj;exact .inl hj
 | split i l r ihl ihr =>
  have hk:=h.kids;obtain⟨h1,_,_,_,_,_,h2,h3⟩:=h;intro j hj;simp only[qeH,List.mem_cons,List.mem_append] at hj;have hi:i∈qeH (.split i l r):=by simp [qeH]
  rcases hj with rfl | hj | hj
  · exact .inl rfl
  · refine .inr ?_;rcases ihl h2 j hj with rfl | ⟨p,hp,hm⟩
    · exact⟨i,hi,by rw[hk];simp⟩
    · exact⟨p,by simp [qeH,hp],hm⟩
  · refine .inr ?_;rcases ihr h3 j hj with rfl | ⟨p,hp,hm⟩
    · exact⟨i,hi,by rw[hk];simp⟩
    · exact⟨p,by simp [qeH,hp],hm⟩
theorem qp9 {t:List NODE} {f:Int} {rk:Nat->Nat} (hrk:∀ i,i<t.length->rk i<=t.length/\∀ c∈kids t i,rk c<rk i) {T:TR} (h:Is t f T):∀ j∈qeH T,rk j<=rk T.top:=by
 induction T with
 | leaf i=>intro j hj;simp [qeH] at hj;subst hj;exact Nat.le_refl _
 | split i l r ihl ihr =>
  have hk:=h.kids;obtain⟨h1,_,_,_,_,_,h2,h3⟩:=h;have a:=(hrk i h1).2 l.top (by rw[hk];simp);have b:=(hrk i h1).2 r.top (by rw[hk];simp);intro j hj;simp only[qeH,List.mem_cons,List.mem_append] at hj;show rk j<=rk i;rcases hj with rfl | hj | hj
  · exact Nat.le_refl _
  · have:=ihl h2 j hj;omega
  · have:=ihr h3 j hj;omega
theorem qsk {t:List NODE} {n j p p':Nat} (hp:p<n) (hp':p'<n) (hne:p≠p') (h:j∈kids t p) (h':j∈kids t p'):2<=((List.range n).flatMap (kids t)).count j:=by
 have key:∀ {a b n:Nat},a<b->b<n->j∈kids t a->j∈kids t b->2<=((List.range n).flatMap (kids t)).count j:=by
   intro a b n hab hb ha hbm;have e:List.range n=List.range b++(List.range (n-b)).map (·+b):=by
    have h1:n=b+(n-b):=by omega
    conv=>lhs;rw[h1,List.range_add]
    congr 1;refine List.map_congr_left fun x _=>Nat.add_comm _ _
   rw[e,List.flatMap_append,List.count_append];have c1:0<((List.range b).flatMap (kids t)).count j:=List.count_pos_iff.2 (List.mem_flatMap.2 ⟨a,by simpa using hab,ha⟩);have c2:0<(((List.range (n-b)).map (·+b)).flatMap (kids t)).count j:=List.count_pos_iff.2 (List.mem_flatMap.2 ⟨b,List.mem_map.2 ⟨0,by simp;omega,by simp⟩,hbm⟩);omega
 rcases Nat.lt_or_gt_of_ne hne with hlt | hlt
 · exact key hlt hp' h h'
 · exact key hlt hp h' h
theorem qti {t:List NODE} {f:Int} (hs:qrv t) {T:TR} (h:Is t f T):(qeH T).Nodup:=by
 obtain⟨hc,rk,hrk⟩:=hs;have one:∀ j p p',p<t.length->p'<t.length->0<j->j<t.length->j∈kids t p->j∈kids t p'->p=p':=by
  intro j p p' hp hp' h0 hj hm hm';refine Classical.byContradiction fun hne=>?_
  have h1:=qsk hp hp' hne hm hm';have h2:=hc j h0 hj;rw[cnt] at h2;omega
 induction T with
 | leaf i=>simp [qeH]
 | split i l r ihl ihr =>
  have hk:=h.kids;obtain⟨h1,g1,g2,g3,g4,g5,h2,h3⟩:=h;have ra:=(hrk i h1).2 l.top (by rw[hk];simp);have rb:=(hrk i h1).2 r.top (by rw[hk];simp);have nl:=qp9 hrk h2;have nr:=qp9 hrk h3;have top0:∀ j∈kids t i,0<j->True:=fun _ _ _=>trivial
  refine List.nodup_cons.2 ⟨fun hm=>?_,List.nodup_append.2 ⟨ihl h2,ihr h3,?_⟩⟩
  · rcases List.mem_append.1 hm with hm | hm
    · have:=nl i hm;omega
    · have:=nr i hm;omega
  ·
    have key:∀ (d j:Nat),t.length-rk j<=d->j∈qeH l->j∈qeH r->False:=by
      intro d
      induction d with
      | zero =>
       intro j hd hl hr;have:=nl j hl;have:=(hrk i h1).1;omega
      | succ d ih =>
       intro j hd hl hr;have hjl:=qjF h2 j hl;have par:∃ p p',p<t.length/\p'<t.length/\j∈kids t p/\j∈kids t p'/\((p=i/\j=l.top)\/p∈qeH l)/\((p'=i/\j=r.top)\/p'∈qeH r):=by
         have hk1:l.top∈kids t i:=by rw[hk];simp
         have hk2:r.top∈kids t i:=by rw[hk];simp
         rcases qkc h2 j hl with e | ⟨p,hp,hm⟩
         · rcases qkc h3 j hr with e' | ⟨p', hp', hm'⟩
           · exact⟨i,i,h1,h1,by rw[e];exact hk1,by rw[e];exact hk1,.inl ⟨rfl,e⟩,.inl ⟨rfl,e'⟩⟩
           · exact⟨i,p',h1,qjF h3 p' hp',by rw[e];exact hk1,hm',.inl ⟨rfl,e⟩,.inr hp'⟩
         · rcases qkc h3 j hr with e' | ⟨p', hp', hm'⟩
           · exact⟨p,i,qjF h2 p hp,h1,hm,by rw[e'];exact hk2,.inr hp,.inl ⟨rfl,e'⟩⟩
           · exact⟨p,p',qjF h2 p hp,qjF h3 p' hp',hm,hm',.inr hp,.inr hp'⟩
       obtain⟨p,p',q1,q2,q3,q4,q5,q6⟩:=par;by_cases h0:0<j
       · have e := one j p p' q1 q2 h0 hjl q3 q4;subst e;rcases q5 with ⟨e1,e2⟩ | q5
         · rcases q6 with ⟨_, e3⟩ | q6
           ·
             have h5:=hc j h0 hjl;rw[cnt] at h5;have:((List.range t.length).flatMap (kids t)).count j>=(kids t i).count j:=by
               have hi:i∈List.range t.length:=by simpa using h1
               obtain⟨a,b,eab⟩:=List.append_of_mem hi;rw[eab,List.flatMap_append,List.flatMap_cons,List.count_append,List.count_append];omega
             rw[hk,<- e2,<- e3] at this;simp at this;omega
           · rw [e1] at q6;have:=nr i q6;omega
         · rcases q6 with ⟨e1, _⟩ | q6
           · rw [e1] at q5;have:=nl i q5;omega
           · have := (hrk p q1).2 j q3;have:=(hrk p q1).1;exact ih p (by omega) q5 q6
       ·
         have j0:j=0:=by omega
         have nokid:∀ (d q:Nat),t.length-rk q<=d->q<t.length->j∈kids t q->False:=by
           intro d
           induction d with
           | zero =>
             intro q hd hq hm;have:=(hrk q hq).2 j hm;by_cases hq0:q=0
             · rw[j0,hq0] at this;omega
             · obtain ⟨p, hp, hpm⟩ := qjP hc (by omega) hq;have a:=(hrk p hp).2 q hpm;have b:=(hrk p hp).1;omega
           | succ d ihd =>
             intro q hd hq hm;have hlt:=(hrk q hq).2 j hm;by_cases hq0:q=0
             · rw[j0,hq0] at hlt;omega
             ·
               have up:∀ (d2 u:Nat),t.length-rk u<=d2->u<t.length->rk q<=rk u->False:=by
                intro d2
                induction d2 with
                | zero =>
                 intro u hu hu2 hqu;by_cases hu0:u=0
                 · rw[hu0] at hqu;rw[j0] at hlt;omega
                 · obtain ⟨p, hp, hpm⟩ := qjP hc (by omega) hu2;have a:=(hrk p hp).2 u hpm;have b:=(hrk p hp).1;omega
                | succ d2 ihd2 =>
                 intro u hu hu2 hqu;by_cases hu0:u=0
                 · rw[hu0] at hqu;rw[j0] at hlt;omega
                 · obtain ⟨p, hp, hpm⟩ := qjP hc (by omega) hu2;have a:=(hrk p hp).2 u hpm;have b:=(hrk p hp).1;exact ihd2 p (by omega) hp (by omega)
               exact up _ q (Nat.le_refl _) hq (Nat.le_refl _)
         exact nokid _ p (Nat.le_refl _) q1 q3
    intro a ha b hb e;subst e;exact key _ a (Nat.le_refl _) ha hb
theorem qxz {t:List NODE} {f:Int} (hs:qrv t) {T:TR} (h:Is t f T):T.size<=t.length:=by
 rw[<- qwt];exact qk1 (qti hs h) (qjF h)
theorem TR.size_pos (T:TR):0<T.size:=by cases T<;>simp [TR.size]<;>omega
theorem qyK (T:TR):2*T.deep<=T.size+1:=by
 induction T with
 | leaf i=>simp [TR.deep,TR.size]
 | split i l r ihl ihr =>
  have:=l.size_pos;have:=r.size_pos;simp only[TR.deep,TR.size];omega
def qq0 (w:List AP):Prop:=w.Pairwise fun a b=>a.1<b.1
theorem qxf {f:Nat} {q:Rat} {ok:Bool} {w:List AP} (h:qq0 w):qq0 (qm8 f q ok w):=by
 induction w with
 | nil=>simp [qm8,qq0]
 | cons p w ih =>
  have h1:=List.pairwise_cons.1 h;simp only[qm8];split
  · rename_i hp;refine List.pairwise_cons.2 ⟨fun a ha=>?_,ih h1.2⟩;rcases qy7 a ha with e | ⟨p',h3,h4⟩
    · omega
    · have:=h1.1 p' h3;omega
  · split
    · rename_i e;exact List.pairwise_cons.2 ⟨fun a ha=>by have:=h1.1 a ha;show f<a.1;omega,h1.2⟩
    · refine List.pairwise_cons.2 ⟨fun a ha => ?_, h⟩;show f<a.1;rcases List.mem_cons.1 ha with rfl | ha
      · omega
      · have:=h1.1 a ha;omega
def flo (n:Nat) (o:Nat->Rat):List RAT:=(List.range n).map fun f=>canQ (o f)
theorem qbq (n:Nat) (o:Nat->Rat):(flo n o).length=n:=by simp [flo]
theorem qgA {n f:Nat} (o:Nat->Rat) (h:f<n):(flo n o)[f]?=some (canQ (o f)):=by simp [flo,h]
theorem qnR {n:Nat} {o p:Nat->Rat} (h:∀ f,f<n->o f=p f):flo n o=flo n p:=by
 rw[flo,flo];exact List.map_congr_left fun f hf=>by rw[h f (List.mem_range.1 hf)]
theorem qyw {n i:Nat} {o p:Nat->Rat} {x:Rat} (hx:p i=x) (hp:∀ f,f≠i->p f=o f):(flo n o).set i (canQ x)=flo n p:=by
 apply List.ext_getElem?;intro f;rw[List.getElem?_set];by_cases hf:f<n
 · rw [qgA _ hf, qgA _ hf, qbq];by_cases e:i=f
   · rw[if_pos e,if_pos (by omega),<- e,hx]
   · rw[if_neg e,hp f (fun h=>e h.symm)]
 · have h1 : (flo n o)[f]? = none := List.getElem?_eq_none (by rw [qbq]; omega);have h2:(flo n p)[f]?=none:=List.getElem?_eq_none (by rw[qbq];omega);rw[h1,h2];split
   · rw[if_neg (by rw[qbq];omega)]
   · rfl
def whyR (b:Bool) (m:qaL) (row:List CELL):Int:=if b then (if (row.length:Int)=m.1 then 0 else 14) else 1
theorem qA9 {b:Bool} {m:qaL} (h:qeG m=some b) (row:List CELL):qcO m row=some (whyR b m row)/\qpf m row=some (whyR b m row):=by
 have:qeB m row=some (whyR b m row):=by
  rw[qeB,h,bS0,whyR];cases b with
  | false=>rfl
  | true =>
   rw[Bool.not_true,cond_false,if_pos rfl];by_cases e:(row.length:Int)=m.1
   · rw[decide_eq_true e,if_pos e];rfl
   · rw[decide_eq_false e,if_neg e];rfl
 exact⟨by rw[qcO,this];rfl,this⟩
theorem qq7 {f:Nat->Rat} {n:Nat} (h:∀ i,i<n->f i=0):rsum f n=0:=by
 induction n with
 | zero=>rfl
 | succ n ih=>rw[rsum,ih fun i hi=>h i (by omega),h n (by omega),Rat.add_zero]
theorem qsy {S f:Nat} (h:S.testBit f=false):∀ j,(S+2 ^ f).testBit j=(decide (j=f) || S.testBit j):=by
 induction f generalizing S with
 | zero =>
  intro j;have h0:S % 2=0:=by rw[Nat.testBit_zero] at h;simpa using h
  cases j with
  | zero=>rw[Nat.testBit_zero];simp;omega
  | succ j =>
   rw[Nat.testBit_succ,Nat.testBit_succ,show(S+2 ^ 0)/2=S/2 by omega];simp
 | succ f ih =>
  intro j;rw[Nat.testBit_succ] at h;have e1:(S+2 ^ (f+1))/2=S/2+2 ^ f:=by rw[Nat.pow_succ];omega
  have e2:(S+2 ^ (f+1)) % 2=S % 2:=by rw[Nat.pow_succ];omega
  cases j with
  | zero=>rw[Nat.testBit_zero,Nat.testBit_zero,e2];simp
  | succ j =>
   rw[Nat.testBit_succ,Nat.testBit_succ,e1,ih h];simp
theorem qxb {S f n:Nat} (h:S.testBit f=false) (hS:S<2 ^ n) (hf:f<n):S+2 ^ f<2 ^ n:=by
 refine Nat.lt_pow_two_of_testBit _ fun i hi=>?_
 rw[qsy h,decide_eq_false (by omega),Bool.false_or];exact Nat.testBit_lt_two_pow (Nat.lt_of_lt_of_le hS (Nat.pow_le_pow_right (by decide) hi))
def popc:Nat->Nat->Nat
 | 0,_=>0
 | n+1,S=>popc n S+(if S.testBit n then 1 else 0)
theorem qwq {n S S':Nat} (h:∀ j,j<n->S.testBit j=S'.testBit j):popc n S=popc n S':=by
 induction n with
 | zero=>rfl
 | succ n ih=>rw[popc,popc,ih fun j hj=>h j (by omega),h n (by omega)]
theorem qwj (f:Nat->Rat) (a b:Nat):rsum f (a+b)=rsum f a+rsum (fun i=>f (i+a)) b:=by
 induction b with
 | zero=>simp [rsum,Rat.add_zero]
 | succ b ih=>rw[<- Nat.add_assoc,rsum,ih,rsum,Rat.add_assoc,Nat.add_comm a b]
theorem qur {f g:Nat->Rat} {n:Nat} (h:∀ i,i<n->f i=g i):qjY f n=qjY g n:=by
 induction n with
 | zero=>rfl
 | succ n ih=>rw[qjY,qjY,ih fun i hi=>h i (by omega),h n (by omega)]
abbrev BA:=Rat×Rat
def pick (x:BA) (b:Bool):Rat:=if b then x.2 else x.1
def EE:List BA->(Nat->Rat)->Rat
 | [],c=>c 0
 | x::L,c=>x.1*EE L c+x.2*EE L fun k=>c (k+1)
theorem qsA {L:List BA}:∀ {c d:Nat->Rat},(∀ k,k<=L.length->c k=d k)->EE L c=EE L d:=by
 induction L with
 | nil=>intro c d h;exact h 0 (Nat.le_refl _)
 | cons x L ih =>
  intro c d h;rw[EE,EE,ih fun k hk=>h k (by simp only[List.length_cons];omega),ih fun k hk=>h (k+1) (by simp only[List.length_cons];omega)]
theorem qDa {L:List BA}:∀ {c d:Nat->Rat},EE L (fun k=>c k+d k)=EE L c+EE L d:=by
 induction L with
 | nil=>intro c d;rfl
 | cons x L ih=>intro c d;rw[EE,EE,EE,ih,ih];grind
theorem qC9 {L:List BA}:∀ {c:Nat->Rat} {q:Rat},EE L (fun k=>q*c k)=q*EE L c:=by
 induction L with
 | nil=>intro c q;rfl
 | cons x L ih=>intro c q;rw[EE,EE,ih,ih];grind
theorem qvj {L M:List BA} (h:L.Perm M):∀ c,EE L c=EE M c:=by
 induction h with
 | nil=>intro c;rfl
 | cons x _ ih=>intro c;rw[EE,EE,ih,ih]
 | swap x y L=>intro c;simp only[EE];grind
 | trans _ _ ih1 ih2=>intro c;rw[ih1,ih2]
theorem qC6 {L:List BA} {x:BA}:∀ c,EE (x::L) c=EE (L++[x]) c:=fun c=>qvj (by
 have:=(List.perm_append_comm (l₁:=[x]) (l₂:=L));simpa using this) c
theorem qC7 (L:List BA) (c:Nat->Rat):EE ((1,1)::L) c=EE L fun k=>c k+c (k+1):=by
 rw[EE,qDa];grind
theorem qC8 (L:List BA) (c:Nat->Rat):EE ((1,0)::L) c=EE L c:=by rw[EE];grind
theorem qzw (g:Nat->BA) (n:Nat):∀ c:Nat->Rat,rsum (fun S=>c (popc n S)*qjY (fun j=>pick (g j) (S.testBit j)) n) (2 ^ n)=EE ((List.range n).map g) c:=by
 induction n with
 | zero=>intro c;simp [rsum,popc,qjY,EE,Rat.mul_one,Rat.zero_add]
 | succ n ih =>
  intro c;have hb:∀ S,S<2 ^ n->S.testBit n=false:=fun S hS=>Nat.testBit_lt_two_pow hS
  have e1:rsum (fun S=>c (popc (n+1) S)*qjY (fun j=>pick (g j) (S.testBit j)) (n+1)) (2 ^ n)=(g n).1*rsum (fun S=>c (popc n S)*qjY (fun j=>pick (g j) (S.testBit j)) n) (2 ^ n):=by
   rw[Rat.mul_comm (g n).1,<- ql7];refine qfb fun S hS=>?_
   rw[popc,qjY,hb S hS,if_neg (by decide),Nat.add_zero,pick,if_neg (by decide)];grind
  have e2:rsum (fun S=>c (popc (n+1) (S+2 ^ n))*qjY (fun j=>pick (g j) ((S+2 ^ n).testBit j)) (n+1)) (2 ^ n)=(g n).2*rsum (fun S=>c (popc n S+1)*qjY (fun j=>pick (g j) (S.testBit j)) n) (2 ^ n):=by
   rw[Rat.mul_comm (g n).2,<- ql7];refine qfb fun S hS=>?_
   have hj:=qsy (hb S hS);have hp:popc n (S+2 ^ n)=popc n S:=qwq fun j hj'=>by rw[hj j,decide_eq_false (by omega),Bool.false_or]
   have hr:qjY (fun j=>pick (g j) ((S+2 ^ n).testBit j)) n=qjY (fun j=>pick (g j) (S.testBit j)) n:=qur fun j hj'=>by rw[hj j,decide_eq_false (by omega),Bool.false_or]
   rw[popc,qjY,hp,hr,hj n,decide_eq_true rfl,Bool.true_or,if_pos rfl,pick,if_pos rfl];grind
  rw[Nat.pow_succ,Nat.mul_two,qwj,e1,e2,ih c,ih fun k=>c (k+1),List.range_succ,List.map_append];show _=EE (_++[g n]) c;rw[<- qC6,EE]
theorem qCn {k n:Nat} (h:k<n):wq k (n+1)+wq (k+1) (n+1)=wq k n:=by
 unfold wq quo;have e1:n+1-k-1=(n-k-1)+1:=by omega
 have e2:n+1-(k+1)-1=n-k-1:=by omega
 rw[e1,e2];obtain⟨j,hj⟩:∃ j,j=n-k-1:=⟨_,rfl⟩;rw[<- hj];have hn:((n:Nat):Rat)=(j:Rat)+(k:Rat)+1:=by
  have:n=j+k+1:=by omega
  rw[this];push_cast;rfl
 have f1:((fac (j+1):Nat):Rat)=((j:Rat)+1)*((fac j:Nat):Rat):=by rw[fac];push_cast;rfl
 have f2:((fac (k+1):Nat):Rat)=((k:Rat)+1)*((fac k:Nat):Rat):=by rw[fac];push_cast;rfl
 have f3:((fac (n+1):Nat):Rat)=((n:Rat)+1)*((fac n:Nat):Rat):=by rw[fac];push_cast;rfl
 have p1:((fac n:Nat):Rat)≠0:=by
  have:=qyA n;intro e;have:(fac n:Nat)=0:=by exact_mod_cast e
  omega
 have p2:(n:Rat)+1≠0:=by
  intro e;have:((n+1:Nat):Rat)=0:=by push_cast;exact e
  have:(n+1:Nat)=0:=by exact_mod_cast this
  omega
 rw[f1,f2,f3];obtain⟨a,ha⟩:∃ a,a=((fac k:Nat):Rat):=⟨_,rfl⟩;obtain⟨b,hb⟩:∃ b,b=((fac j:Nat):Rat):=⟨_,rfl⟩;obtain⟨d,hd⟩:∃ d,d=((fac n:Nat):Rat):=⟨_,rfl⟩;obtain⟨x,hx⟩:∃ x,x=(j:Rat):=⟨_,rfl⟩;obtain⟨y,hy⟩:∃ y,y=(k:Rat):=⟨_,rfl⟩;rw[<- hd] at p1 ⊢;rw[hn,<- hx,<- hy] at p2;rw[hn,<- ha,<- hb,<- hx,<- hy]
 grind
theorem qAF (L:List BA) (d:Nat):EE (List.replicate d (1,1)++L) (fun k=>wq k (L.length+1+d))=EE L fun k=>wq k (L.length+1):=by
 induction d with
 | zero=>rfl
 | succ d ih =>
  rw[List.replicate_succ,List.cons_append,qC7,<- ih];refine qsA fun k hk=>?_
  simp only[List.length_append,List.length_replicate] at hk;exact qCn (k:=k) (n:=L.length+1+d) (by omega)
def qxK (v:Nat->Rat) (n f S:Nat):Rat:=if S.testBit f then 0 else wq (popc n S) n*(v (S+2 ^ f)-v S)
def qnd (v:Nat->Rat) (n f:Nat):Rat:=rsum (qxK v n f) (2 ^ n)
theorem qum {v w:Nat->Rat} {n f:Nat} (hf:f<n) (h:∀ S,S<2 ^ n->v S=w S):qnd v n f=qnd w n f:=by
 refine qfb fun S hS=>?_
 unfold qxK;cases hb:S.testBit f with
 | true=>rfl
 | false=>rw[if_neg (by decide),if_neg (by decide),h S hS,h _ (qxb hb hS hf)]
theorem qxM (f g:Nat->Rat) (n:Nat):rsum (fun i=>f i+g i) n=rsum f n+rsum g n:=by
 induction n with
 | zero=>simp [rsum,Rat.add_zero]
 | succ n ih=>rw[rsum,rsum,rsum,ih];grind
theorem qxL (v:Nat->Rat) (n f:Nat) (q:Rat):qnd (fun S=>v S*q) n f=qnd v n f*q:=by
 unfold qnd;rw[<- ql7];refine qfb fun S _=>?_
 unfold qxK;split
 · rw[Rat.zero_mul]
 · grind
abbrev FP:=Nat×BA
def lkG:List FP->Nat->BA
 | [],_=>(1,1)
 | p::P,j=>if p.1=j then p.2 else lkG P j
theorem qBI {P:List FP} {j:Nat} (h:j ∉ P.map (·.1)):lkG P j=(1,1):=by
 induction P with
 | nil=>rfl
 | cons p P ih =>
  simp only[List.map_cons,List.mem_cons,not_or] at h;rw[lkG,if_neg (fun e=>h.1 e.symm),ih h.2]
theorem qBJ {P:List FP} (hnd:(P.map (·.1)).Nodup):(P.map (·.1)).map (lkG P)=P.map (·.2):=by
 induction P with
 | nil=>rfl
 | cons p P ih =>
  have h:=List.nodup_cons.1 hnd;have ih:=ih h.2;simp only[List.map_cons,lkG,if_true,List.cons.injEq,true_and];rw[<- ih];refine List.map_congr_left fun j hj=>?_
  exact if_neg (fun e=>h.1 (by subst e;exact hj))
theorem qwo {n:Nat} {F:List Nat} (hnd:F.Nodup) (hlt:∀ j∈F,j<n):∃ R:List Nat,(List.range n).Perm (F++R)/\∀ j∈R,j ∉ F:=by
 refine⟨(List.range n).filter fun j=>!F.contains j,?_,fun j hj=>by simpa using (List.mem_filter.1 hj).2⟩;refine(List.perm_ext_iff_of_nodup List.nodup_range ?_).2 fun a=>?_
 · refine List.nodup_append.2 ⟨hnd, List.Nodup.sublist List.filter_sublist List.nodup_range, fun a ha b hb e => ?_⟩;subst e;have:=(List.mem_filter.1 hb).2;simp at this;exact this ha
 · simp only [List.mem_append, List.mem_filter, List.mem_range];constructor
   · intro h;by_cases ha:a∈F
     · exact .inl ha
     · exact .inr ⟨h,by simpa using ha⟩
   · rintro (h | h)
     · exact hlt a h
     · exact h.1
theorem qrg {a b:List Rat} (h:a.Perm b):qkG a=qkG b:=by
 induction h with
 | nil=>rfl
 | cons x _ ih=>rw[qkG,qkG,ih]
 | swap x y l=>simp only[qkG];grind
 | trans _ _ h1 h2=>rw[h1,h2]
theorem quq (h:Nat->Rat) (n:Nat):qjY h n=qkG ((List.range n).map h):=by
 induction n with
 | zero=>rfl
 | succ n ih=>rw[qjY,ih,List.range_succ,List.map_append,qo6];simp [qkG,Rat.mul_one]
theorem qwN {l:List Rat} (h:∀ x∈l,x=1):qkG l=1:=by
 induction l with
 | nil=>rfl
 | cons x l ih=>rw[qkG,h x List.mem_cons_self,ih fun y hy=>h y (List.mem_cons_of_mem _ hy),Rat.mul_one]
def qmI (P:List FP) (S:Nat):Rat:=qkG (P.map fun p=>pick p.2 (S.testBit p.1))
theorem qxI {n f:Nat} {x:BA} {P:List FP} (hf:f<n) (hnd:(P.map (·.1)).Nodup) (hlt:∀ p∈P,p.1<n) (hnf:f ∉ P.map (·.1)) :
  qnd (fun S=>pick x (S.testBit f)*qmI P S) n f=(x.2-x.1)*EE (P.map (·.2)) fun k=>wq k (P.length+1):=by
 obtain⟨R,hR,hRF⟩:=qwo (n:=n) (F:=f::P.map (·.1)) (List.nodup_cons.2 ⟨hnf,hnd⟩) (fun j hj=>by
  rcases List.mem_cons.1 hj with rfl | hj
  · exact hf
  · obtain⟨p,hp,rfl⟩:=List.mem_map.1 hj;exact hlt p hp)
 obtain⟨g,hg⟩:∃ g:Nat->BA,g=fun j=>if j=f then (1,0) else lkG P j:=⟨_,rfl⟩
 have gf:g f=(1,0):=by rw[hg];exact if_pos rfl
 have gP:(P.map (·.1)).map g=P.map (·.2):=by
  rw[<- qBJ hnd];refine List.map_congr_left fun j hj=>?_
  rw[hg];exact if_neg fun e=>hnf (by rw[<- e];exact hj)
 have gR:∀ j∈R,g j=(1,1):=fun j hj=>by
  have:=hRF j hj;simp only[List.mem_cons,not_or] at this;rw[hg];show(if j=f then _ else _)=_;rw[if_neg this.1,qBI this.2]
 have hlen:n=P.length+1+R.length:=by
  have:=hR.length_eq;simp only[List.length_range,List.length_append,List.length_cons,List.length_map] at this;omega
 have hprod:∀ S,qjY (fun j=>pick (g j) (S.testBit j)) n=if S.testBit f then 0 else qmI P S:=fun S=>by
  rw[quq,qrg (hR.map _),List.map_append,qo6,List.map_cons,qkG,gf,qwN (l:=R.map _) (fun y hy=>by
    obtain⟨j,hj,rfl⟩:=List.mem_map.1 hy;rw[gR j hj];unfold pick;split<;>rfl)]
  have e:((P.map (·.1)).map fun j=>pick (g j) (S.testBit j))=P.map fun p=>pick p.2 (S.testBit p.1):=by
    rw[List.map_map];refine List.map_congr_left fun p hp=>?_
    show pick (g p.1) _=_;have:g p.1=p.2:=by
     obtain⟨i,hi,rfl⟩:=List.mem_iff_getElem.1 hp;have:=congrArg (fun l=>l[i]?) gP;simp only[List.getElem?_map,gE0 hi,Option.map_some,Option.some.injEq] at this;exact this
    rw[this]
  rw[e];unfold pick qmI;split
  · simp [Rat.zero_mul]
  · simp [Rat.one_mul,Rat.mul_one];rfl
 have hsum:qnd (fun S=>pick x (S.testBit f)*qmI P S) n f=(x.2-x.1)*rsum (fun S=>wq (popc n S) n*qjY (fun j=>pick (g j) (S.testBit j)) n) (2 ^ n):=by
  unfold qnd;rw[Rat.mul_comm,<- ql7];refine qfb fun S hS=>?_
  rw[hprod];unfold qxK;cases hb:S.testBit f with
  | true=>simp [Rat.mul_zero,Rat.zero_mul]
  | false =>
    have hb':=qsy hb;have e1:qmI P (S+2 ^ f)=qmI P S:=by
     unfold qmI;congr 1;refine List.map_congr_left fun p hp=>?_
     rw[hb' p.1,decide_eq_false (fun e=>hnf (List.mem_map.2 ⟨p,hp,e⟩)),Bool.false_or]
    dsimp only;rw[if_neg (by decide),if_neg (by decide),e1,hb' f,decide_eq_true rfl,Bool.true_or];simp only[pick,if_true,Bool.false_eq_true,if_false]
    grind
 have hss:=qzw g n fun k=>wq k n
 rw[hsum,hss];congr 1;have hp2:((List.range n).map g).Perm ((1,0)::(List.replicate R.length (1,1)++P.map (·.2))):=by
  refine(hR.map g).trans ?_;rw[List.map_append,List.map_cons,gf,gP,List.cons_append];have:R.map g=List.replicate R.length (1,1):=by
    rw[List.eq_replicate_iff];exact⟨by simp,fun y hy=>by obtain⟨j,hj,rfl⟩:=List.mem_map.1 hy;exact gR j hj⟩
  rw[this];exact List.Perm.cons _ List.perm_append_comm
 rw[qvj hp2,qC8];have:=qAF (P.map (·.2)) R.length;rw[List.length_map] at this;rw[<- this,<- hlen]
theorem qxJ {n f:Nat} {P:List FP} (hnf:f ∉ P.map (·.1)):qnd (qmI P) n f=0:=by
 unfold qnd;refine qq7 fun S _=>?_
 unfold qxK;cases hb:S.testBit f with
 | true=>rfl
 | false =>
  have e1:qmI P (S+2 ^ f)=qmI P S:=by
   unfold qmI;congr 1;refine List.map_congr_left fun p hp=>?_
   rw[qsy hb p.1,decide_eq_false (fun e=>hnf (List.mem_map.2 ⟨p,hp,e⟩)),Bool.false_or]
  rw[if_neg (by decide),e1];grind
def askT (t:List NODE) (f:Nat):Bool:=t.any fun n=>!n.1&&decide (n.2.1=(f:Int))
def qzm (m:qaL) (f:Nat):Bool:=m.2.any fun t=>askT t f
def qpJ (m:qaL):List Bool:=(List.range m.1.toNat).map (qzm m)
theorem qxq (m:qaL):(qpJ m).length=m.1.toNat:=by simp [qpJ]
theorem qxr {m:qaL} {f:Nat} (h:f<m.1.toNat):(qpJ m)[f]?=some (qzm m f):=by simp [qpJ,h]
theorem qB9 {m:qaL} (hv:qeG m=some true) (hg:Good m):qib m=some (qpJ m):=by
 obtain⟨f0,f1,f2,f3⟩:=hg.1;have hc:(decide (0<=m.1)&&(decide (m.1<=64)&&(decide (m.2.length<=64)&&m.2.all fun t=>decide (t.length<=255)&&t.all fun n=>n.1 || (decide (0<=n.2.1)&&decide (n.2.1<m.1)))))=true:=by
  simp only[Bool.and_eq_true,decide_eq_true_eq,List.all_eq_true,Bool.or_eq_true];refine⟨f0,f1,f2,fun t ht=>?_⟩;obtain⟨i,hi,rfl⟩:=List.mem_iff_getElem.1 ht;refine⟨(f3 i hi).2.1,fun n hn=>?_⟩;obtain⟨j,hj,rfl⟩:=List.mem_iff_getElem.1 hn;cases hl:qiD m.2[i][j] with
  | true=>exact .inl hl
  | false =>
   have:=hg.ranges hi j hj hl;exact .inr ⟨this.1,this.2.1⟩
 rw[qib,hv,bS0,Bool.not_true,cond_false,hc,cond_true];rfl
def one0 (b:Bool):Rat:=if b then 1 else 0
def mulF (x:BA) (P:Nat->Rat) (k:Nat):Rat:=x.1*P k+(if k=0 then 0 else x.2*P (k-1))
def polF:List BA->Nat->Rat
 | []=>fun k=>if k=0 then 1 else 0
 | x::L=>mulF x (polF L)
theorem qxY (L:List BA):∀ k,polF L k=EE L fun j=>if j=k then 1 else 0:=by
 induction L with
 | nil => intro k; show (if k = 0 then (1 : Rat) else 0) = if 0 = k then 1 else 0
          by_cases h:k=0
          · subst h;rfl
          · rw[if_neg h,if_neg (fun e=>h e.symm)]
 | cons x L ih =>
  intro k;show mulF x (polF L) k=_;rw[mulF,EE,ih];congr 1;by_cases h:k=0
  · subst h;rw[if_pos rfl];have:EE L (fun j=>if j+1=0 then (1:Rat) else 0)=EE L fun j=>0*0:=qsA fun j _=>by rw[if_neg (by omega),Rat.mul_zero]
    rw[this,qC9,Rat.zero_mul,Rat.mul_zero]
  · rw [if_neg h, ih];congr 1;refine qsA fun j _=>?_
    by_cases e:j=k-1
    · rw[if_pos e,if_pos (by omega)]
    · rw[if_neg e,if_neg (by omega)]
theorem qvB (L:List BA):∀ k,L.length+1<=k->polF L k=0:=by
 induction L with
 | nil=>intro k h;exact if_neg (by simp at h;omega)
 | cons x L ih =>
  intro k h;simp only[List.length_cons] at h;show mulF x (polF L) k=0;rw[mulF,ih k (by omega),if_neg (by omega),ih (k-1) (by omega),Rat.mul_zero,Rat.mul_zero,Rat.add_zero]
theorem qxX {L M:List BA} (h:L.Perm M):polF L=polF M:=by
 funext k;rw[qxY,qxY];exact qvj h _
theorem qwk (f:Nat->Rat) (n:Nat):rsum f (n+1)=f 0+rsum (fun i=>f (i+1)) n:=by
 induction n with
 | zero=>simp [rsum,Rat.add_zero,Rat.zero_add]
 | succ n ih=>rw[rsum,ih,rsum,Rat.add_assoc]
theorem qzz {f:Nat->Rat} {n m:Nat} (h:∀ i,n<=i->f i=0) (hm:n<=m):rsum f m=rsum f n:=by
 induction m with
 | zero => have : n = 0 := by omega
           subst this;rfl
 | succ m ih =>
  by_cases e:n=m+1
  · rw[e]
  · rw[rsum,h m (by omega),ih (by omega),Rat.add_zero]
theorem qCg (L:List BA):∀ c,EE L c=rsum (fun j=>polF L j*c j) (L.length+1):=by
 induction L with
 | nil=>intro c;show c 0=0+1*c 0;rw[Rat.one_mul,Rat.zero_add]
 | cons x L ih =>
  intro c;have e1:rsum (fun j=>polF (x::L) j*c j) ((x::L).length+1)=x.1*rsum (fun j=>polF L j*c j) (L.length+1)+x.2*rsum (fun j=>polF L j*c (j+1)) (L.length+1):=by
   have a:∀ j,polF (x::L) j*c j=(polF L j*c j)*x.1+(if j=0 then 0 else polF L (j-1)*c j)*x.2:=fun j=>by
    show mulF x (polF L) j*c j=_;rw[mulF];split<;>grind
   have b:rsum (fun j=>polF (x::L) j*c j) (L.length+2)=rsum (fun j=>(polF L j*c j)*x.1+(if j=0 then 0 else polF L (j-1)*c j)*x.2) (L.length+2):=qfb fun j _=>a j
   show rsum _ (L.length+2)=_;rw[b,qxM,ql7,ql7];have e2:rsum (fun j=>polF L j*c j) (L.length+2)=rsum (fun j=>polF L j*c j) (L.length+1):=qzz (fun j hj=>by rw[qvB L j hj,Rat.zero_mul]) (by omega);have e3:rsum (fun j=>if j=0 then 0 else polF L (j-1)*c j) (L.length+2)=rsum (fun j=>polF L j*c (j+1)) (L.length+1):=by
    rw[qwk,if_pos rfl,Rat.zero_add];exact qfb fun j _=>by rw[if_neg (by omega),Nat.add_sub_cancel]
   rw[e2,e3];grind
  rw[e1,EE,ih,ih]
theorem qoh {n:Nat} (h:0<n):((n:Nat):Rat)≠0:=by
 intro e;have:(n:Nat)=0:=by exact_mod_cast e
 omega
theorem qrz {i n:Nat} (h:i<n):wq i (n+1)=wq i n*(((n-i:Nat):Rat)/((n+1:Nat):Rat)):=by
 obtain⟨j,rfl⟩:∃ j,n=i+j+1:=⟨n-i-1,by omega⟩;have e1:i+j+1+1-i-1=j+1:=by omega
 have e2:i+j+1-i-1=j:=by omega
 have e3:i+j+1-i=j+1:=by omega
 have a1:((fac (j+1):Nat):Rat)=((j+1:Nat):Rat)*((fac j:Nat):Rat):=by rw[fac];push_cast;rfl
 have a2:((fac (i+j+1+1):Nat):Rat)=((i+j+1+1:Nat):Rat)*((fac (i+j+1):Nat):Rat):=by rw[fac];push_cast;rfl
 have n1:=qoh (qyA (i+j+1));have n2:=qoh (show 0<i+j+1+1 by omega);simp only[wq,quo];rw[e1,e2,e3,a1,a2];generalize ((fac i:Nat):Rat)=x;generalize ((fac j:Nat):Rat)=y;generalize ((fac (i+j+1):Nat):Rat)=z at *;generalize ((j+1:Nat):Rat)=u;generalize ((i+j+1+1:Nat):Rat)=v at *;rw[Rat.div_def,Rat.div_def,Rat.div_def,Rat.inv_mul_rev]
 grind
theorem qxh {i n:Nat} (h:i<n):wq (i+1) (n+1)=wq i n*(((i+1:Nat):Rat)/((n+1:Nat):Rat)):=by
 obtain⟨j,rfl⟩:∃ j,n=i+j+1:=⟨n-i-1,by omega⟩;have e1:i+j+1+1-(i+1)-1=j:=by omega
 have e2:i+j+1-i-1=j:=by omega
 have a1:((fac (i+1):Nat):Rat)=((i+1:Nat):Rat)*((fac i:Nat):Rat):=by rw[fac];push_cast;rfl
 have a2:((fac (i+j+1+1):Nat):Rat)=((i+j+1+1:Nat):Rat)*((fac (i+j+1):Nat):Rat):=by rw[fac];push_cast;rfl
 simp only[wq,quo];rw[e1,e2,a1,a2];generalize ((fac i:Nat):Rat)=x;generalize ((fac j:Nat):Rat)=y;generalize ((fac (i+j+1):Nat):Rat)=z at *;generalize ((i+1:Nat):Rat)=u;generalize ((i+j+1+1:Nat):Rat)=v at *;rw[Rat.div_def,Rat.div_def,Rat.div_def,Rat.inv_mul_rev]
 grind
def fcP (p:AP):BA:=(p.2.1,one0 p.2.2)
def ekP (P:List AP):Nat->Rat:=polF (P.map fcP)
def wtP (P:List AP) (k:Nat):Rat:=wq k (P.length+1)*ekP P k
theorem qvV {P Q:List AP} (h:P.Perm Q):ekP P=ekP Q:=qxX (h.map fcP)
theorem qAf (P:List AP) (p:AP):ekP (P++[p])=mulF (fcP p) (ekP P):=by
 have:(P++[p]).Perm (p::P):=List.perm_append_comm.trans (List.Perm.refl _);rw[qvV this];rfl
theorem qyF (P:List AP) {k:Nat} (h:P.length<k):ekP P k=0:=qvB _ k (by simp;omega)
theorem qA8:wtP [] 0=1:=by
 show wq 0 1*1=1;rw[Rat.mul_one];decide +kernel
abbrev LK:=Int×RAT×CELL
def lkF (P:List AP) (w:Nat->Rat) (i:Nat):LK :=
 if i=0 then (-1,canQ 1,true,canQ (w 0)) else
  let p:=(P[i-1]?).getD (0,0,false)
  ((p.1:Int),canQ p.2.1,p.2.2,canQ (w i))
def encK (P:List AP) (w:Nat->Rat):List LK:=(List.range (P.length+1)).map (lkF P w)
theorem qdH (P:List AP) (w:Nat->Rat):(encK P w).length=P.length+1:=by simp [encK]
theorem qdv {P:List AP} {w:Nat->Rat} {i:Nat} (h:i<P.length+1):(encK P w)[i]?=some (lkF P w i):=by simp [encK,h]
theorem qhd {P:List AP} {w w':Nat->Rat} (h:∀ i,i<=P.length->w i=w' i):encK P w=encK P w':=by
 refine List.map_congr_left fun i hi=>?_
 have hi:=List.mem_range.1 hi;unfold lkF;split
 · rename_i e;subst e;rw[h 0 (by omega)]
 · rw[h i (by omega)]
theorem qye (P:List AP) (w:Nat->Rat) (i:Nat):(lkF P w i).2.2.2=canQ (w i):=by
 unfold lkF;split
 · rename_i e;subst e;rfl
 · rfl
theorem qBK (P:List AP) (w:Nat->Rat) (i:Nat) (q:Rat):((lkF P w i).1,(lkF P w i).2.1,(lkF P w i).2.2.1,canQ q)=lkF P (fun j=>if j=i then q else w j) i:=by
 unfold lkF;split
 · rename_i e;subst e;simp
 · simp
theorem qpq {P:List AP} {w:Nat->Rat} {i:Nat} (q:Rat):(encK P w).set i ((lkF P w i).1,(lkF P w i).2.1,(lkF P w i).2.2.1,canQ q)=encK P fun j=>if j=i then q else w j:=by
 rw[qBK];refine List.ext_getElem? fun j=>?_
 rw[List.getElem?_set];by_cases e:i=j
 · subst e;rw[if_pos rfl];by_cases hi:i<P.length+1
   · rw[if_pos (by rw[qdH];exact hi),qdv hi]
   · rw[if_neg (by rw[qdH];exact hi),List.getElem?_eq_none (by rw[qdH];omega)]
 · rw [if_neg e];by_cases hj:j<P.length+1
   · rw [qdv hj, qdv hj];have:(if j=i then q else w j)=w j:=if_neg fun h=>e h.symm
     unfold lkF;split
     · rename_i e0;subst e0;simp only[this]
     · simp only[this]
   · rw[List.getElem?_eq_none (by rw[qdH];omega),List.getElem?_eq_none (by rw[qdH];omega)]
theorem qnH {P:List AP} {w:Nat->Rat} {i:Nat} (h:i<P.length):lkF P w (i+1)=((P[i].1:Int),canQ P[i].2.1,P[i].2.2,canQ (w (i+1))):=by
 simp [lkF,gE0 h]
theorem qyE (P:List AP) (w:Nat->Rat) (p:AP) (q:Rat):encK P w++[((p.1:Int),canQ p.2.1,p.2.2,canQ q)]=encK (P++[p]) fun j=>if j=P.length+1 then q else w j:=by
 have e:encK (P++[p]) (fun j=>if j=P.length+1 then q else w j)=(List.range (P.length+1)).map (lkF (P++[p]) fun j=>if j=P.length+1 then q else w j)++[lkF (P++[p]) (fun j=>if j=P.length+1 then q else w j) (P.length+1)]:=by
   unfold encK;rw[List.length_append,List.length_singleton,List.range_succ,List.map_append];rfl
 rw[e];congr 1
 · refine List.map_congr_left fun i hi => ?_
   have hi:=List.mem_range.1 hi;unfold lkF;split
   · rename_i e;subst e;simp
   · have : ¬ i = P.length + 1 := by omega
     rw[List.getElem?_append_left (by omega)];simp only[if_neg this]
 · simp [lkF]
structure qhf (P:List AP) (k g:Nat):Prop where
 nd:(P.map (·.1)).Nodup
 sz:ASz P k
 len:P.length<=20
 lt:∀ p∈P,p.1<g
 pos:∀ p∈P,0<p.2.1
theorem qAz:qhp=some (encK [] (wtP [])):=by
 rw[qhp,qkU,bS0,bS0];show some [_]=some [lkF [] (wtP []) 0];simp only[lkF,if_true,qA8]
theorem qCf {P:List AP} {w:Nat->Rat} {f i:Nat} (hi:i<P.length) (he:P[i].1=f) (hn:∀ j (hj:j<P.length),j<i->P[j].1≠f) (hl:P.length<=1000000):qbE (f:Int) (encK P w)=some (((i+1:Nat):Int),encK P w):=by
 have el:=qdH P w;have key:=qgQ (step:=qam) (fun k=>(((f:Int),((P.length+1:Nat):Int),(k:Int),()),((encK P w,()),()))) (i+1) (r:=.inr ((((i+1:Nat):Int),()),((encK P w,()),()))) (by omega) (by
  intro g k hk;have d0:(k:Int)<((P.length+1:Nat):Int):=by omega
  have d1:(0:Int)<=(k:Int):=by omega
  have d2:(k:Int)<((encK P w).length:Int):=by omega
  rw[qam,cnd d0,cnd2 d1 d2,tN0,qdv (by omega),bS0];cases k with
  | zero=>rw[cnd' (by omega),qbc (by omega)];rfl
  | succ k =>
   have hne:¬ (lkF P w (k+1)).1=(f:Int):=by
    rw[qnH (by omega)];have:=hn k (by omega) (by omega);show ¬ ((P[k].1:Nat):Int)=_;omega
   rw[cnd (by omega),cnd' hne,qbc (by omega)];rfl) (by
  intro g;have d0:((i+1:Nat):Int)<((P.length+1:Nat):Int):=by omega
  have d1:(0:Int)<=((i+1:Nat):Int):=by omega
  have d2:((i+1:Nat):Int)<((encK P w).length:Int):=by omega
  have he':(lkF P w (i+1)).1=(f:Int):=by rw[qnH hi];show((P[i].1:Nat):Int)=_;omega
  rw[qam,cnd d0,cnd2 d1 d2,tN0,qdv (by omega),bS0,cnd (by omega),cnd he'])
 have key:lp qam K0 (((f:Int),((P.length+1:Nat):Int),0,()),((encK P w,()),()))=_:=key;rw[qbE,el,key];rfl
theorem qv9 {P:List AP} {w:Nat->Rat} {f:Nat} (hn:∀ p∈P,p.1≠f) (hl:P.length<=1000000):qbE (f:Int) (encK P w)=some (0,encK P w):=by
 have el:=qdH P w;have key:=qgQ (step:=qam) (fun k=>(((f:Int),((P.length+1:Nat):Int),(k:Int),()),((encK P w,()),()))) (P.length+1) (r:=.inl ((),((encK P w,()),()))) (by omega) (by
  intro g k hk;have d0:(k:Int)<((P.length+1:Nat):Int):=by omega
  have d1:(0:Int)<=(k:Int):=by omega
  have d2:(k:Int)<((encK P w).length:Int):=by omega
  rw[qam,cnd d0,cnd2 d1 d2,tN0,qdv (by omega),bS0];cases k with
  | zero=>rw[cnd' (by omega),qbc (by omega)];rfl
  | succ k =>
   have hne:¬ (lkF P w (k+1)).1=(f:Int):=by
    rw[qnH (by omega)];have:=hn P[k] (gM0 (by omega));show ¬ ((P[k].1:Nat):Int)=_;omega
   rw[cnd (by omega),cnd' hne,qbc (by omega)];rfl) (by
  intro g;rw[qam,cnd' (by omega)])
 have key:lp qam K0 (((f:Int),((P.length+1:Nat):Int),0,()),((encK P w,()),()))=_:=key;rw[qbE,el,key];rfl
theorem qrw {P:List AP} {w:Nat->Rat} (hl:P.length<=1000000):qcv (encK P w)=some (encW P,encK P w):=by
 have el:=qdH P w;have key:=qgQ (step:=qaF) (fun k=>((encW (P.take (k-1)),((P.length+1:Nat):Int),(k:Int),()),((encK P w,()),()))) (P.length+1) (r:=((encW P,()),((encK P w,()),()))) (by omega) (by
  intro g k hk;have d0:(k:Int)<((P.length+1:Nat):Int):=by omega
  have d1:(0:Int)<=(k:Int):=by omega
  have d2:(k:Int)<((encK P w).length:Int):=by omega
  rw[qaF,cnd d0,cnd2 d1 d2,tN0,qdv (by omega),bS0];cases k with
  | zero=>rw[cnd' (by omega),qbc (by omega)];rfl
  | succ k =>
   have hk':k<P.length:=by omega
   have e:encW (P.take (k+1))=encW (P.take k)++[((lkF P w (k+1)).1,(lkF P w (k+1)).2.1,(lkF P w (k+1)).2.2.1)]:=by
    rw[qnH hk'];exact qh1 encP hk'
   rw[cnd (by omega),blt (by rw[qpp,List.length_take];omega),cond_true,qbc (by omega)];show g ((encW (P.take k)++_,_,_,_),_)=g ((encW (P.take (k+1)),_,_,_),_);rw[e];rfl) (by
  intro g;rw[qaF,cnd' (by omega),Nat.add_sub_cancel,List.take_of_length_le (Nat.le_refl _)])
 have key:lp qaF K0 (([],((P.length+1:Nat):Int),0,()),((encK P w,()),()))=_:=key;rw[qcv,el,key];rfl
theorem qqo {a b:Nat} (ha:a<1000000) (hb:b<1000000):qdc (a:Int) (b:Int)=some (canQ ((a:Rat)/(b:Rat))):=by
 have:=qns (n:=(a:Int)) (d:=(b:Int)) (by omega) (by omega) (by omega) (by omega);rw[this];rfl
theorem qot {a b:Nat} (ha:a<1000000) (hb:b<1000000):SzQ ((a:Rat)/(b:Rat)) 2:=by
 have h:∀ {n:Nat},n<1000000->SzQ (n:Rat) 1:=fun {n} hn=>by
  have:=SzQ.int (z:=(n:Int)) (by omega);exact this
 exact(h ha).div (h hb)
theorem qx6 (b:Bool):SzQ (one0 b) 1:=by cases b;exact SzQ.zero;exact SzQ.one
def ekS (k:Nat):Nat->Nat
 | 0=>1
 | n+1=>2*ekS k n+k+2
theorem qvU (k:Nat) {n m:Nat} (h:n<=m):ekS k n<=ekS k m:=by
 induction h with
 | refl=>exact Nat.le_refl _
 | step _ ih=>simp only[ekS];omega
theorem qtS {k n:Nat} (hk:k<=70) (hn:n<=20):ekS k n<=76546048:=by
 have h1:=qvU k hn;have h2:ekS k 20<=ekS 70 20:=by
  have:∀ n,ekS k n<=ekS 70 n:=by
   intro n
   induction n with
   | zero=>exact Nat.le_refl _
   | succ n ih=>simp only[ekS];omega
  exact this 20
 have h3:ekS 70 20<=76546048:=by decide +kernel
 omega
theorem qAZ {P:List AP} {k:Nat} (h:ASz P k):∀ i,SzQ (ekP P i) (ekS k P.length):=by
 induction P with
 | nil =>
  intro i;show SzQ (if i=0 then (1:Rat) else 0) 1;split
  · exact SzQ.one
  · exact SzQ.zero
 | cons p P ih =>
  intro i;have h1:SzQ p.2.1 k:=h p List.mem_cons_self;have ih:=ih fun x hx=>h x (List.mem_cons_of_mem _ hx)
  show SzQ (mulF (fcP p) (ekP P) i) _;unfold mulF;have a:SzQ ((fcP p).1*ekP P i) (k+ekS k P.length):=h1.mul (ih i);have b:SzQ (if i=0 then 0 else (fcP p).2*ekP P (i-1)) (1+ekS k P.length):=by
    split
    · exact SzQ.zero.mono (by omega)
    · exact(qx6 p.2.2).mul (ih _)
  exact(a.add b).mono (by simp only[List.length_cons,ekS];omega)
theorem qvk {P:List AP} {k:Nat} (h:ASz P k) (hl:P.length<=20) {i:Nat} (hi:i<=P.length):SzQ (wtP P i) (30+ekS k P.length) :=
 (qCm (by omega) (by omega)).mul (qAZ h i)
def extW (P:List AP) (p:AP) (i:Nat) (j:Nat):Rat :=
 if j<i then wtP P j else if j=i then (if j=P.length+1 then 0 else (p.2.1*wtP P j)*(((P.length+1-j:Nat):Rat)/((P.length+1+1:Nat):Rat))) else wtP (P++[p]) j
theorem qry {P:List AP} {p:AP} {j:Nat} (hj:j<=P.length+1):wtP (P++[p]) j =
  (if j=P.length+1 then 0 else (p.2.1*wtP P j)*(((P.length+1-j:Nat):Rat)/((P.length+1+1:Nat):Rat))) +
  (if j=0 then 0 else one0 p.2.2*(wtP P (j-1)*(((j-1+1:Nat):Rat)/((P.length+1+1:Nat):Rat)))):=by
 unfold wtP;rw[qAf,mulF,List.length_append,List.length_singleton];show wq j (P.length+1+1)*(p.2.1*ekP P j+_)=_;have a:(if j=P.length+1 then (0:Rat) else (p.2.1*(wq j (P.length+1)*ekP P j))*(((P.length+1-j:Nat):Rat)/((P.length+1+1:Nat):Rat)))=wq j (P.length+1+1)*(p.2.1*ekP P j):=by
  split
  · rw[qyF P (by omega),Rat.mul_zero,Rat.mul_zero]
  · rw[qrz (i:=j) (n:=P.length+1) (by omega)];grind
 have b:(if j=0 then (0:Rat) else one0 p.2.2*(wq (j-1) (P.length+1)*ekP P (j-1)*(((j-1+1:Nat):Rat)/((P.length+1+1:Nat):Rat))))=wq j (P.length+1+1)*(if j=0 then 0 else (fcP p).2*ekP P (j-1)):=by
  split
  · rw[Rat.mul_zero]
  · have := qxh (i := j - 1) (n := P.length + 1) (by omega);rw[show j-1+1=j by omega] at this;rw[this,show j-1+1=j by omega];show one0 p.2.2*_=_*(one0 p.2.2*_)
    grind
 rw[a,b];grind
theorem quf {P:List AP} {k g:Nat} (h:qhf P k g) {f:Nat} {q:Rat} {ok:Bool} (hf:∀ p∈P,p.1≠f) (hq:SzQ q k) (hq0:0<q) (hk:k<=70) (hl:P.length<20) (hfl:f<1000000) :
  qaX (f:Int) (canQ q) ok (encK P (wtP P))=some (0,encK (P++[(f,q,ok)]) (wtP (P++[(f,q,ok)]))):=by
 obtain⟨p,ep⟩:∃ p:AP,p=(f,q,ok):=⟨_,rfl⟩;have hl2:=h.len;have el:=qdH P (wtP P);have hS:=qtS (k:=k) (n:=P.length) hk (by omega);have wsz:∀ i,i<=P.length->SzQ (wtP P i) 100000000:=fun i hi=>(qvk h.sz hl2 hi).mono (by omega)
 obtain⟨N,eN⟩:∃ N,N=P.length+1:=⟨_,rfl⟩;have hsnoc:=qyE P (wtP P) p 0;have e0:encK (P++[p]) (fun j=>if j=P.length+1 then 0 else wtP P j)=encK (P++[p]) (extW P p N):=by
  refine qhd fun j hj=>?_
  simp only[List.length_append,List.length_singleton] at hj;show(if j=P.length+1 then 0 else wtP P j)=extW P p N j;unfold extW;by_cases e:j=P.length+1
  · rw[if_pos e,if_neg (by omega),if_pos (by omega),if_pos e]
  · rw[if_neg e,if_pos (by omega)]
 have ell:∀ w,(encK (P++[p]) w).length=N+1:=fun w=>by rw[qdH,List.length_append];simp [eN]
 have pn1:iadd .i64 ((N:Nat):Int) 1=((N+1:Nat):Int):=qbc (by omega);have key:=qgQ (step:=qaq) (fun m=>((ok,(N:Int),((N:Nat):Int)-1-(m:Int),()),(((canQ q).1.1,(canQ q).1.2,(canQ q).2,()),(encK (P++[p]) (extW P p (N-m)),()),()))) N
  (r:=((),((encK (P++[p]) (extW P p 0),()),()))) (by omega) (by
  intro g m hm;obtain⟨i,hi⟩:∃ i,N=i+m+1:=⟨N-m-1,by omega⟩;have ei:((N:Nat):Int)-1-(m:Int)=(i:Int):=by omega
  have ei2:((N:Nat):Int)-1-((m+1:Nat):Int)=(i:Int)-1:=by omega
  have en1:N-m=i+1:=by omega
  have en2:N-(m+1)=i:=by omega
  have hiN:i<N:=by omega
  have d0:((i:Nat):Int)>=0:=by omega
  have d1:(0:Int)<=(i:Int):=by omega
  have d2:(i:Int)<((encK (P++[p]) (extW P p (i+1))).length:Int):=by rw[ell];omega
  have g1:=qdv (P:=P++[p]) (w:=extW P p (i+1)) (i:=i) (by rw[List.length_append];simp;omega);have wi:(lkF (P++[p]) (extW P p (i+1)) i).2.2.2=canQ (wtP P i):=by rw[qye,extW,if_pos (by omega)]
  have hw:=wsz i (by omega);have q1:iadd .i64 (i:Int) 1=((i+1:Nat):Int):=qbc (by omega);have q2:isub .i64 (N:Int) (i:Int)=((N-i:Nat):Int):=by rw[qcP (by omega) (by omega)];omega
  have q3:isub .i64 (i:Int) 1=(i:Int)-1:=by rw[qcP (by omega) (by omega)]
  have f1:=qqo (a:=i+1) (b:=N+1) (by omega) (by omega);have f2:=qqo (a:=N-i) (b:=N+1) (by omega) (by omega);have s1:=qot (a:=i+1) (b:=N+1) (by omega) (by omega);have s2:=qot (a:=N-i) (b:=N+1) (by omega) (by omega);have m1:=qaZ (hq.sm (by omega)) (hw.sm (by decide));rw[qah,qah] at m1;have m1:qaw (((canQ q).1.1,(canQ q).1.2),(canQ q).2) (canQ (wtP P i))=some (canQ (q*wtP P i)):=m1;have z1:SzQ (q*wtP P i) 200000000:=(hq.mul hw).mono (by omega);have m2:=qaZ (z1.sm (by decide)) (s2.sm (by decide));rw[qah,qah] at m2;have fin0:extW P p i i=q*wtP P i*(((N-i:Nat):Rat)/((N+1:Nat):Rat)):=by
    rw[extW,if_neg (by omega),if_pos rfl,if_neg (by omega),ep,eN]
  show qaq g ((ok,(N:Int),((N:Nat):Int)-1-(m:Int),()),(((canQ q).1.1,(canQ q).1.2,(canQ q).2,()),(encK (P++[p]) (extW P p (N-m)),()),()))=g ((ok,(N:Int),((N:Nat):Int)-1-((m+1:Nat):Int),()),(((canQ q).1.1,(canQ q).1.2,(canQ q).2,()),(encK (P++[p]) (extW P p (N-(m+1))),()),()));rw[ei,ei2,en1,en2,qaq,cnd d0,cnd2 d1 d2,tN0,g1,bS0,wi];cases hok:ok with
  | true =>
    have a1:(0:Int)<=((i+1:Nat):Int):=by omega
    have a2:((i+1:Nat):Int)<((encK (P++[p]) (extW P p (i+1))).length:Int):=by rw[ell];omega
    have g2:=qdv (P:=P++[p]) (w:=extW P p (i+1)) (i:=i+1) (by rw[List.length_append];simp;omega);have m3:=qaZ (hw.sm (by decide)) (s1.sm (by decide));rw[qah,qah] at m3;have z3:SzQ (wtP P i*(((i+1:Nat):Rat)/((N+1:Nat):Rat))) 200000000:=(hw.mul s1).mono (by omega);have z4:SzQ (extW P p (i+1) (i+1)) 400000000:=by
     rw[extW,if_neg (by omega),if_pos rfl];split
     · exact SzQ.zero.mono (by decide)
     · have hw' := wsz (i + 1) (by omega);have s3:=qot (a:=P.length+1-(i+1)) (b:=P.length+1+1) (by omega) (by omega);rw[ep];exact((hq.mul hw').mul s3).mono (by omega)
    have m4:=qef (z4.sm (by decide)) (z3.sm (by decide));rw[qah,qah] at m4;have fin1:extW P p (i+1) (i+1)+wtP P i*(((i+1:Nat):Rat)/((N+1:Nat):Rat))=extW P p i (i+1):=by
     have hs:=qry (P:=P) (p:=p) (j:=i+1) (by omega);rw[if_neg (show ¬ i+1=0 by omega),Nat.add_sub_cancel,show one0 p.2.2=1 by rw[ep,hok];rfl,Rat.one_mul] at hs;have e1:extW P p i (i+1)=wtP (P++[p]) (i+1):=by rw[extW,if_neg (by omega),if_neg (by omega)]
     have e2:extW P p (i+1) (i+1)=if i+1=P.length+1 then 0 else (p.2.1*wtP P (i+1))*(((P.length+1-(i+1):Nat):Rat)/((P.length+1+1:Nat):Rat)):=by rw[extW,if_neg (by omega),if_pos rfl]
     rw[e1,e2,hs,eN]
    have u1:=qpq (P:=P++[p]) (w:=extW P p (i+1)) (i:=i+1) (extW P p i (i+1));have d3:(i:Int)<(((encK (P++[p]) (fun j=>if j=i+1 then extW P p i (i+1) else extW P p (i+1) j))).length:Int):=by rw[ell];omega
    have g3:=qdv (P:=P++[p]) (w:=fun j=>if j=i+1 then extW P p i (i+1) else extW P p (i+1) j) (i:=i) (by rw[List.length_append];simp;omega);have u2:=qpq (P:=P++[p]) (w:=fun j=>if j=i+1 then extW P p i (i+1) else extW P p (i+1) j) (i:=i) (extW P p i i);rw[cond_true,q1,cnd2 a1 a2,tN0,g2,bS0,pn1,f1,bS0,m3,bS0,qye,m4,bS0,fin1,cnd2 a1 a2,bS0,m1,bS0,q2,f2,bS0,m2,bS0,u1,cnd2 d1 d3,g3,bS0,<- fin0,u2,q3];have:encK (P++[p]) (fun j=>if j=i then extW P p i i else if j=i+1 then extW P p i (i+1) else extW P p (i+1) j)=encK (P++[p]) (extW P p i):=by
     refine qhd fun j hj=>?_
     by_cases e1:j=i
     · rw[if_pos e1,e1]
     · rw [if_neg e1];by_cases e2:j=i+1
       · rw[if_pos e2,e2]
       · rw [if_neg e2];unfold extW;by_cases e3:j<i
         · rw[if_pos (by omega),if_pos e3]
         · rw[if_neg (by omega),if_neg (by omega),if_neg (by omega),if_neg (by omega)]
    rw[this]
  | false =>
    have u2:=qpq (P:=P++[p]) (w:=extW P p (i+1)) (i:=i) (extW P p i i);rw[cond_false,m1,bS0,q2,pn1,f2,bS0,m2,bS0,cnd2 d1 d2,bS0,<- fin0,u2,q3];have:encK (P++[p]) (fun j=>if j=i then extW P p i i else extW P p (i+1) j)=encK (P++[p]) (extW P p i):=by
     refine qhd fun j hj=>?_
     simp only[List.length_append,List.length_singleton] at hj;by_cases e1:j=i
     · rw[if_pos e1,e1]
     · rw [if_neg e1];unfold extW;by_cases e3:j<i
       · rw[if_pos (by omega),if_pos e3]
       · by_cases e2 : j = i + 1
         · subst e2;have hs:=qry (P:=P) (p:=p) (j:=i+1) (by omega);rw[show one0 p.2.2=0 by rw[ep,hok];rfl,Rat.zero_mul,if_neg (show ¬ i+1=0 by omega),Rat.add_zero] at hs
           rw[if_neg (show ¬ i+1<i+1 by omega),if_pos rfl,if_neg (show ¬ i+1<i by omega),if_neg (show ¬ i+1=i by omega),hs]
         · rw[if_neg (by omega),if_neg e2,if_neg (by omega),if_neg (by omega)]
    rw[this]) (by
  intro g;rw[Nat.sub_self,qaq,cnd' (by omega)])
 have efin:encK (P++[p]) (extW P p 0)=encK (P++[p]) (wtP (P++[p])):=by
  refine qhd fun j hj=>?_
  unfold extW;rw[if_neg (by omega)];by_cases e:j=0
  · subst e;have hs:=qry (P:=P) (p:=p) (j:=0) (by omega);rw[if_pos rfl,Rat.add_zero] at hs;rw[if_pos rfl,hs]
  · rw[if_neg e]
 rw[efin] at key;have qn:isub .i64 ((P.length+1:Nat):Int) 1=((N:Nat):Int)-1-((0:Nat):Int):=by rw[qcP (by omega) (by omega)];omega
 have c0:¬ ((P.length+1:Nat):Int)=0:=by omega
 have hsg:rcmp q 0>0:=qnk.2 hq0;have hsign:=qnn (hq.sm (by omega));rw[qah] at hsign;have hcl:=qa9 (hq.sm (by omega));rw[qah] at hcl;rw[qaX,el,cnd' c0,cnd' (by omega),qv9 hf (by omega),bS0];dsimp only;rw[cnd' (by omega),hsign,bS0,cnd' (by omega),hcl,bS0,qfc,bS0,blt (by rw[el];omega),cond_true];have e1:encK P (wtP P)++[((f:Int),(canQ q,(ok,canQ 0)))]=encK (P++[p]) (extW P p N):=by
  rw[<- e0,<- hsnoc,ep]
 rw[e1,el,qn];have key:lp qaq K0 ((ok,((P.length+1:Nat):Int),((N:Nat):Int)-1-((0:Nat):Int),()),(((canQ q).1.1,(canQ q).1.2,(canQ q).2,()),(encK (P++[p]) (extW P p N),()),()))=some ((),(encK (P++[p]) (wtP (P++[p])),()),()):=by
  rw[<- eN];exact key
 rw[key,ep];rfl
def qbN (P:List AP) (a:Nat):List AP:=P.take a++P.drop (a+1)
theorem qd6 {P:List AP} {a:Nat} (h:a<P.length):(qbN P a).length+1=P.length:=by simp [qbN];omega
theorem qjE {P:List AP} {a:Nat} (h:a<P.length):P.Perm (P[a]::qbN P a):=by
 have e:P=P.take a++P[a]::P.drop (a+1):=by rw[<- List.drop_eq_getElem_cons h,List.take_append_drop]
 have:(P.take a++P[a]::P.drop (a+1)).Perm (P[a]::(P.take a++P.drop (a+1))):=List.perm_middle;exact(List.Perm.of_eq e).trans this
theorem qp6 {P:List AP} {a:Nat}:∀ p∈qbN P a,p∈P:=fun p hp=>by
 rcases List.mem_append.1 hp with h | h
 · exact List.mem_of_mem_take h
 · exact List.mem_of_mem_drop h
theorem qsm {P:List AP} {a:Nat} (h:a<P.length) (k:Nat):ekP P k=P[a].2.1*ekP (qbN P a) k+(if k=0 then 0 else one0 P[a].2.2*ekP (qbN P a) (k-1)):=by
 rw[qvV (qjE h)];rfl
theorem qhf.out {P:List AP} {k g:Nat} (h:qhf P k g) {a:Nat} (ha:a<P.length):qhf (qbN P a) k g:=by
 have hp:=(qjE ha).map (·.1);have hn:=hp.nodup_iff.1 h.nd;exact⟨(List.nodup_cons.1 hn).2,fun p hp=>h.sz p (qp6 p hp),by have:=qd6 ha;have:=h.len;omega,fun p hp=>h.lt p (qp6 p hp),fun p hp=>h.pos p (qp6 p hp)⟩
theorem qhf.notin {P:List AP} {k g:Nat} (h:qhf P k g) {a:Nat} (ha:a<P.length):∀ p∈qbN P a,p.1≠P[a].1:=by
 have hp:=(qjE ha).map (·.1);have hn:=List.nodup_cons.1 (hp.nodup_iff.1 h.nd);intro p hp e;exact hn.1 (List.mem_map.2 ⟨p,hp,e⟩)
theorem qCl {P:List AP} {a i:Nat} (ha:a<P.length) (hi:i<P.length) (hz:P[a].2.1≠0) (hok:P[a].2.2=false) :
  wtP P i*(((P.length+1:Nat):Rat)/((P.length-i:Nat):Rat))*P[a].2.1⁻¹=wtP (qbN P a) i:=by
 have hl:=qd6 ha;unfold wtP;rw[qsm ha,hok,qrz (i:=i) (n:=P.length) hi,show(qbN P a).length+1=P.length by omega];have n1:=qoh (show 0<P.length-i by omega);have n2:=qoh (show 0<P.length+1 by omega);generalize wq i P.length=x;generalize ekP (qbN P a) i=y;generalize ekP (qbN P a) (i-1)=y2;generalize ((P.length-i:Nat):Rat)=u at *;generalize ((P.length+1:Nat):Rat)=v at *;generalize P[a].2.1=z at *;simp only[one0,Bool.false_eq_true,if_false,Rat.zero_mul,ite_self,Rat.add_zero]
 grind
def nxP (P:List AP) (a i:Nat):Rat:=wq (i+1) (P.length+1)*ekP (qbN P a) i
theorem qBA {P:List AP} {a i:Nat} (ha:a<P.length) (hi:i<P.length):nxP P a i*(((P.length+1:Nat):Rat)/((i+1:Nat):Rat))=wtP (qbN P a) i:=by
 have hl:=qd6 ha;unfold wtP nxP;rw[qxh (i:=i) (n:=P.length) hi,show(qbN P a).length+1=P.length by omega];have n1:=qoh (show 0<i+1 by omega);have n2:=qoh (show 0<P.length+1 by omega);generalize wq i P.length=x;generalize ekP (qbN P a) i=y;generalize ((i+1:Nat):Rat)=u at *;generalize ((P.length+1:Nat):Rat)=v at *
 grind
theorem qzO {P:List AP} {a i:Nat} (ha:a<P.length) (hi:i<P.length) (hok:P[a].2.2=true) :
  wtP P i-wtP (qbN P a) i*P[a].2.1*(((P.length-i:Nat):Rat)/((P.length+1:Nat):Rat))=if i=0 then 0 else nxP P a (i-1):=by
 have hl:=qd6 ha;unfold wtP nxP;rw[qsm ha,hok,qrz (i:=i) (n:=P.length) hi,show(qbN P a).length+1=P.length by omega];cases i with
 | zero =>
  simp only[if_true];generalize wq 0 P.length=x;generalize ekP (qbN P a) 0=y;generalize P[a].2.1=z at *
  grind
 | succ i =>
  rw[if_neg (by omega),if_neg (by omega),Nat.add_sub_cancel,qrz (i:=i+1) (n:=P.length) hi];generalize wq (i+1) P.length=x;generalize ekP (qbN P a) (i+1)=y;generalize ekP (qbN P a) i=y2;generalize P[a].2.1=z at *;simp only[one0,if_true]
  grind
theorem qBz {P:List AP} {a:Nat} (ha:a<P.length) (hok:P[a].2.2=true):wtP P P.length=nxP P a (P.length-1):=by
 have hl:=qd6 ha;unfold wtP nxP;rw[qsm ha,hok,qyF (qbN P a) (by omega),if_neg (by omega),show P.length-1+1=P.length by omega];simp only[one0,if_true]
 grind
theorem qCK {P:List AP} {k g a:Nat} (h:qhf P k g) (ha:a<P.length) (hk:k<=70) {i:Nat} (hi:i<P.length):SzQ (nxP P a i) 100000000:=by
 have hl:=qd6 ha;have h2:=h.out ha;have hS:=qtS (k:=k) (n:=(qbN P a).length) hk h2.len;have:=h.len;exact((qCm (s:=i+1) (n:=P.length+1) (by omega) (by omega)).mul (qAZ h2.sz i)).mono (by omega)
def bkL (n i:Nat) (w:Nat->Rat):List RAT:=(List.range n).map fun j=>if i<=j then canQ (w j) else zR
theorem ql2 (n i:Nat) (w:Nat->Rat):(bkL n i w).length=n:=by simp [bkL]
theorem qqA {n i j:Nat} (w:Nat->Rat) (h:j<n):(bkL n i w)[j]?=some (if i<=j then canQ (w j) else zR):=by simp [bkL,h]
theorem qB5 {n i:Nat} (w:Nat->Rat):(bkL n (i+1) w).set i (canQ (w i))=bkL n i w:=by
 refine List.ext_getElem? fun j=>?_
 rw[List.getElem?_set];by_cases e:i=j
 · subst e;by_cases hi:i<n
   · rw[if_pos rfl,if_pos (by rw[ql2];exact hi),qqA w hi,if_pos (Nat.le_refl _)]
   · rw[if_pos rfl,if_neg (by rw[ql2];exact hi),List.getElem?_eq_none (by rw[ql2];omega)]
 · rw [if_neg e];by_cases hj:j<n
   · rw [qqA w hj, qqA w hj];by_cases h:i<=j
     · rw[if_pos (by omega),if_pos h]
     · rw[if_neg (by omega),if_neg h]
   · rw[List.getElem?_eq_none (by rw[ql2];omega),List.getElem?_eq_none (by rw[ql2];omega)]
theorem qAt (n:Nat) (w:Nat->Rat):bkL n n w=List.replicate n zR:=by
 rw[List.eq_replicate_iff];refine⟨ql2 _ _ _,fun x hx=>?_⟩;obtain⟨j,hj,rfl⟩:=List.mem_map.1 hx;have:=List.mem_range.1 hj;exact if_neg (by omega)
theorem qB6 (n:Nat) (w:Nat->Rat):bkL n 0 w=flo n w:=List.map_congr_left fun j _=>if_pos (Nat.zero_le _)
theorem qq3 {P:List AP} {k g:Nat} (h:qhf P k g) (hk:k<=70) {a:Nat} (ha:a<P.length) :
  qbS ((a+1:Nat):Int) (encK P (wtP P))=some (flo P.length (wtP (qbN P a)),encK P (wtP P)):=by
 have hl:=qd6 ha;have hl2:=h.len;have el:=qdH P (wtP P);obtain⟨n,en⟩:∃ n,n=P.length:=⟨_,rfl⟩;have hS:=qtS (k:=k) (n:=P.length) hk (by omega);have wsz:∀ i,i<=P.length->SzQ (wtP P i) 100000000:=fun i hi=>(qvk h.sz hl2 hi).mono (by omega)
 have hQ:=h.out ha;have hS2:=qtS (k:=k) (n:=(qbN P a).length) hk hQ.len;have qsz:∀ i,i<P.length->SzQ (wtP (qbN P a) i) 100000000:=fun i hi=>(qvk hQ.sz hQ.len (by omega)).mono (by omega)
 have hz:SzQ P[a].2.1 k:=h.sz _ (gM0 ha);have hpos:=h.pos _ (gM0 ha);have hz0:P[a].2.1≠0:=by intro e;rw[e] at hpos;exact absurd hpos (by decide)
 obtain⟨L,eL⟩:∃ L,L=lkF P (wtP P) (a+1):=⟨_,rfl⟩;have eL':=eL;rw[qnH ha] at eL';have L1:L.2.1=canQ P[a].2.1:=by rw[eL']
 have L2:L.2.2.1=P[a].2.2:=by rw[eL']
 obtain⟨nx,hnx⟩:∃ nx:Nat->Rat,nx=fun m=>if P[a].2.2 then (if m<n then nxP P a (n-1-m) else 0) else wtP P n:=⟨_,rfl⟩
 obtain⟨ov,hov⟩:∃ ov:Rat,ov=P[a].2.1⁻¹:=⟨_,rfl⟩;have pn1:iadd .i64 ((n:Nat):Int) 1=((n+1:Nat):Int):=qbc (by omega);have key:=qgQ (step:=qap) (fun m=>(((n:Int),bkL n (n-m) (wtP (qbN P a)),((n:Nat):Int)-1-(m:Int),()),((L.1,L.2.1.1.1,L.2.1.1.2,L.2.1.2,L.2.2.1,L.2.2.2.1.1,L.2.2.2.1.2,L.2.2.2.2,()),((canQ ov).1.1,(canQ ov).1.2,(canQ ov).2,()),((canQ (nx m)).1.1,(canQ (nx m)).1.2,(canQ (nx m)).2,()),(encK P (wtP P),()),()))) n
  (r:=((bkL n 0 (wtP (qbN P a)),()),((encK P (wtP P),()),()))) (by omega) (by
  intro g m hm;obtain⟨i,hi⟩:∃ i,n=i+m+1:=⟨n-m-1,by omega⟩;have ei:((n:Nat):Int)-1-(m:Int)=(i:Int):=by omega
  have ei2:((n:Nat):Int)-1-((m+1:Nat):Int)=(i:Int)-1:=by omega
  have en1:n-m=i+1:=by omega
  have en2:n-(m+1)=i:=by omega
  have d0:((i:Nat):Int)>=0:=by omega
  have d1:(0:Int)<=(i:Int):=by omega
  have d2:(i:Int)<((encK P (wtP P)).length:Int):=by rw[el];omega
  have d3:(i:Int)<((bkL n (i+1) (wtP (qbN P a))).length:Int):=by rw[ql2];omega
  have g1:=qdv (P:=P) (w:=wtP P) (i:=i) (by omega);have g2:=qqA (n:=n) (i:=i+1) (j:=i) (wtP (qbN P a)) (by omega);have q2:isub .i64 (n:Int) (i:Int)=((n-i:Nat):Int):=by rw[qcP (by omega) (by omega)];omega
  have q3:isub .i64 (i:Int) 1=(i:Int)-1:=by rw[qcP (by omega) (by omega)]
  have q1:iadd .i64 (i:Int) 1=((i+1:Nat):Int):=qbc (by omega);have hset:=qB5 (n:=n) (i:=i) (wtP (qbN P a));show qap g (((n:Int),bkL n (n-m) (wtP (qbN P a)),((n:Nat):Int)-1-(m:Int),()),((L.1,L.2.1.1.1,L.2.1.1.2,L.2.1.2,L.2.2.1,L.2.2.2.1.1,L.2.2.2.1.2,L.2.2.2.2,()),((canQ ov).1.1,(canQ ov).1.2,(canQ ov).2,()),((canQ (nx m)).1.1,(canQ (nx m)).1.2,(canQ (nx m)).2,()),(encK P (wtP P),()),()))=g (((n:Int),bkL n (n-(m+1)) (wtP (qbN P a)),((n:Nat):Int)-1-((m+1:Nat):Int),()),((L.1,L.2.1.1.1,L.2.1.1.2,L.2.1.2,L.2.2.1,L.2.2.2.1.1,L.2.2.2.1.2,L.2.2.2.2,()),((canQ ov).1.1,(canQ ov).1.2,(canQ ov).2,()),((canQ (nx (m+1))).1.1,(canQ (nx (m+1))).1.2,(canQ (nx (m+1))).2,()),(encK P (wtP P),()),()));rw[ei,ei2,en1,en2,qap,cnd d0,L2];cases hok:P[a].2.2 with
  | false =>
   have f1:=qqo (a:=n+1) (b:=n-i) (by omega) (by omega);have s1:=qot (a:=n+1) (b:=n-i) (by omega) (by omega);have hw:=wsz i (by omega);have m1:=qaZ (hw.sm (by decide)) (s1.sm (by decide));rw[qah,qah] at m1;have z1:SzQ (wtP P i*(((n+1:Nat):Rat)/((n-i:Nat):Rat))) 200000000:=(hw.mul s1).mono (by omega);have hi2:SzQ ov k:=by rw[hov];exact hz.inv
   have m2:=qaZ (z1.sm (by decide)) (hi2.sm (by omega));rw[qah,qah] at m2;have m2:qaw (canQ (wtP P i*(((n+1:Nat):Rat)/((n-i:Nat):Rat)))) (((canQ ov).1.1,(canQ ov).1.2),(canQ ov).2)=_:=m2;have e1:=qCl ha (i:=i) (by omega) hz0 hok;rw[<- en,<- hov] at e1;have e2:nx (m+1)=nx m:=by rw[hnx];simp only[hok,Bool.false_eq_true,if_false]
   rw[Bool.not_false,cond_true,cnd2 d1 d2,tN0,g1,bS0,pn1,q2,f1,bS0,qye,m1,bS0,m2,bS0,cnd2 d1 d3,g2,bS0,e1,hset,q3,e2]
  | true =>
   have f1:=qqo (a:=n+1) (b:=i+1) (by omega) (by omega);have s1:=qot (a:=n+1) (b:=i+1) (by omega) (by omega);have enx:nx m=nxP P a i:=by rw[hnx];simp only[hok,if_true];rw[if_pos hm,show n-1-m=i by omega]
   have nsz:=qCK h ha hk (i:=i) (by omega);have m1:=qaZ (nsz.sm (by decide)) (s1.sm (by decide));rw[qah,qah] at m1;have e1:=qBA ha (i:=i) (by omega);rw[<- en] at e1;rw[e1] at m1;have m1:qaw (((canQ (nxP P a i)).1.1,(canQ (nxP P a i)).1.2),(canQ (nxP P a i)).2) (canQ (((n+1:Nat):Rat)/((i+1:Nat):Rat)))=some (canQ (wtP (qbN P a) i)):=m1;have d4:(i:Int)<((bkL n i (wtP (qbN P a))).length:Int):=by rw[ql2];omega
   have g3:=qqA (n:=n) (i:=i) (j:=i) (wtP (qbN P a)) (by omega);rw[if_pos (Nat.le_refl _)] at g3;have hq:=qsz i (by omega);have m2:=qaZ (hq.sm (by decide)) (hz.sm (by omega));rw[qah,qah] at m2;have m2:qaw (canQ (wtP (qbN P a) i)) ((L.2.1.1.1,L.2.1.1.2),L.2.1.2)=some (canQ (wtP (qbN P a) i*P[a].2.1)):=by
    show qaw _ L.2.1=_;rw[L1];exact m2
   have f2:=qqo (a:=n-i) (b:=n+1) (by omega) (by omega);have s2:=qot (a:=n-i) (b:=n+1) (by omega) (by omega);have z2:SzQ (wtP (qbN P a) i*P[a].2.1) 200000000:=(hq.mul hz).mono (by omega);have m3:=qaZ (z2.sm (by decide)) (s2.sm (by decide));rw[qah,qah] at m3;have z3:SzQ (wtP (qbN P a) i*P[a].2.1*(((n-i:Nat):Rat)/((n+1:Nat):Rat))) 300000000:=(z2.mul s2).mono (by omega);have hw:=wsz i (by omega);have m4:=qiP (hw.sm (by decide)) (z3.sm (by decide));rw[qah,qah] at m4;have e2:=qzO ha (i:=i) (by omega) hok;rw[<- en] at e2;rw[e2] at m4;have e3:nx (m+1)=if i=0 then 0 else nxP P a (i-1):=by
    rw[hnx];simp only[hok,if_true];by_cases h0:i=0
    · rw[if_neg (by omega),if_pos h0]
    · rw[if_pos (by omega),if_neg h0,show n-1-(m+1)=i-1 by omega]
   rw[Bool.not_true,cond_false,pn1,q1,f1,bS0,enx,m1,bS0,cnd2 d1 d3,tN0,g2,bS0,cnd2 d1 d2,g1,bS0,hset,cnd2 d1 d4,g3,bS0,m2,bS0,q2,f2,bS0,m3,bS0,qye,m4,bS0,q3,e3]) (by
  intro g;rw[Nat.sub_self,qap,cnd' (by omega)])
 have i1:isub .i64 ((P.length+1:Nat):Int) 1=(n:Int):=by rw[qcP (by omega) (by omega)];omega
 have i2:isub .i64 (n:Int) 1=((n:Nat):Int)-1-((0:Nat):Int):=by rw[qcP (by omega) (by omega)];omega
 have c0:(0:Int)<=((a+1:Nat):Int):=by omega
 have c1:((a+1:Nat):Int)<((P.length+1:Nat):Int):=by omega
 have hinv:=qoQ (hz.sm (by omega));rw[qah,if_neg hz0,<- hov] at hinv;have c2:(decide ((n:Int)=(n:Int))&&decide ((0:Int)<=(n:Int))&&decide ((((56:Nat):Int)*(n:Int))<=281474976710656)&&decide ((n:Int)<=9223372036854775807))=true:=by
  simp only[Bool.and_eq_true,decide_eq_true_eq];refine⟨⟨⟨trivial,by omega⟩,?_⟩,by omega⟩;show(56:Int)*(n:Int)<=281474976710656;omega
 have ev:nx 0=wtP P n:=by
  rw[hnx];cases hok:P[a].2.2 with
  | false=>simp
  | true=>simp only[if_true];rw[if_pos (by omega),en,qBz ha hok,Nat.sub_zero]
 have gn:=qdv (P:=P) (w:=wtP P) (i:=n) (by omega);rw[qbS,el,cnd2 c0 c1,tN0,qdv (by omega),bS0,i1,c2,cond_true,<- eL,L1,hinv,bS0,cnd2 (by omega) (by omega),tN0,gn,bS0,i2];dsimp only;rw[qye,<- ev];have key:lp qap K0 (((n:Int),List.replicate n (((false,[]),[]):RAT),((n:Nat):Int)-1-((0:Nat):Int),()),((L.1,(canQ P[a].2.1).1.1,(canQ P[a].2.1).1.2,(canQ P[a].2.1).2,L.2.2.1,L.2.2.2.1.1,L.2.2.2.1.2,L.2.2.2.2,()),((canQ ov).1.1,(canQ ov).1.2,(canQ ov).2,()),((canQ (nx 0)).1.1,(canQ (nx 0)).1.2,(canQ (nx 0)).2,()),(encK P (wtP P),()),()))=some ((bkL n 0 (wtP (qbN P a)),()),((encK P (wtP P),()),())):=by
  have k2:=key;rw[Nat.sub_zero,qAt,L1] at k2;exact k2
 rw[key,qB6,en];rfl
theorem qyx {n k:Nat} {w:Nat->Rat} (hw:∀ i,i<n->SzQ (w i) k) (hk:1+n*(k+1)<1099511627776) (hn:n<1000000):qjr (flo n w)=some (canQ (rsum w n)):=by
 have hv:∀ i,i<n->vals (flo n w) i=w i:=fun i hi=>by
  rw[vals,qgA w hi];show rv (canQ (w i))=w i;exact qah _
 have h:=qsV (l:=flo n w) (k:=k) (fun x hx=>by
  obtain⟨i,hi,rfl⟩:=List.mem_map.1 hx;have hi:=List.mem_range.1 hi;refine(hw i hi).sm ?_;have:1*(k+1)<=n*(k+1):=Nat.mul_le_mul_right _ (by omega);omega) (fun i hi=>by rw[qbq] at hi;rw[hv i hi];exact hw i hi) (by rw[qbq];exact hk) (by rw[qbq];omega)
 rw[h,qbq];congr 2;exact qfb fun i hi=>hv i hi
def sumP (P:List AP) (a:Nat):Rat:=rsum (wtP (qbN P a)) P.length
theorem qx0 {P:List AP} {k g:Nat} (h:qhf P k g) (hk:k<=70) {a:Nat} (ha:a<P.length):∀ i,i<P.length->SzQ (wtP (qbN P a) i) (30+ekS k (qbN P a).length):=fun i hi=>by
 have:=qd6 ha;exact qvk (h.out ha).sz (h.out ha).len (by omega)
theorem qAw {P:List AP} {k g:Nat} (h:qhf P k g) (hk:k<=70) {a:Nat} (ha:a<P.length) :
  qd5 ((a+1:Nat):Int) (encK P (wtP P))=some (canQ (sumP P a),0,encK P (wtP P)):=by
 have el:=qdH P (wtP P);have hl2:=h.len;have hS2:=qtS (k:=k) (n:=(qbN P a).length) hk (h.out ha).len;have hs:=qyx (n:=P.length) (w:=wtP (qbN P a)) (k:=100000000) (fun i hi=>(qx0 h hk ha i hi).mono (by omega)) (by omega) (by omega);rw[qd5,el,cnd' (by omega),cnd' (by omega),cnd' (by omega),qq3 h hk ha,bS0];dsimp only;rw[hs];rfl
theorem qAe {P:List AP} {w:Nat->Rat} {a:Nat} (ha:a<P.length):(encK P w).take (a+1)++(encK P w).drop (a+2)=encK (qbN P a) fun j=>if j<=a then w j else w (j+1):=by
 have el:=qdH P w;have hl:=qd6 ha;have ho:∀ j,(qbN P a)[j]?=if j<a then P[j]? else P[j+1]?:=fun j=>by
   unfold qbN;by_cases hj:j<a
   · rw[if_pos hj,List.getElem?_append_left (by rw[List.length_take];omega),List.getElem?_take,if_pos hj]
   · rw [if_neg hj, List.getElem?_append_right (by rw [List.length_take]; omega), List.length_take, Nat.min_eq_left (by omega), List.getElem?_drop];congr 1;omega
 refine List.ext_getElem? fun j=>?_
 by_cases hj:j<a+1
 · rw [List.getElem?_append_left (by rw [List.length_take]; omega), List.getElem?_take, if_pos hj, qdv (by omega), qdv (by omega)];unfold lkF;split
   · rename_i e;subst e;simp
   · have e1 : (qbN P a)[j - 1]? = P[j - 1]? := by rw [ho, if_pos (by omega)]
     have e2:(if j<=a then w j else w (j+1))=w j:=if_pos (by omega);simp only[e1,e2]
 · rw [List.getElem?_append_right (by rw [List.length_take]; omega), List.length_take, Nat.min_eq_left (by omega), List.getElem?_drop, show a + 2 + (j - (a + 1)) = j + 1 by omega];by_cases hj2:j+1<P.length+1
   · rw [qdv hj2, qdv (by omega)];unfold lkF;have e1:(qbN P a)[j-1]?=P[j]?:=by rw[ho,if_neg (by omega)];congr 1;omega
     have e2:(if j<=a then w j else w (j+1))=w (j+1):=if_neg (by omega);rw[if_neg (by omega),if_neg (by omega)];simp only[e1,e2,Nat.add_sub_cancel]
   · rw[List.getElem?_eq_none (by omega),List.getElem?_eq_none (by rw[qdH];omega)]
theorem qza {P:List AP} {k g:Nat} (h:qhf P k g) (hk:k<=70) {a:Nat} (ha:a<P.length) :
  qcn ((a+1:Nat):Int) (encK P (wtP P))=some (0,encK (qbN P a) (wtP (qbN P a))):=by
 have el:=qdH P (wtP P);have hl2:=h.len;have hl:=qd6 ha;obtain⟨Q,eQ⟩:∃ Q,Q=qbN P a:=⟨_,rfl⟩;have eo:=qAe (w:=wtP P) ha;rw[<- eQ] at eo hl;obtain⟨w0,hw0⟩:∃ w0:Nat->Rat,w0=fun j=>if j<=a then wtP P j else wtP P (j+1):=⟨_,rfl⟩
 rw[<- hw0] at eo;obtain⟨F,eF⟩:∃ F,F=flo P.length (wtP Q):=⟨_,rfl⟩;have lF:F.length=P.length:=by rw[eF,qbq]
 have lQ:∀ w,(encK Q w).length=P.length:=fun w=>by rw[qdH];exact hl
 have key:=qgQ (step:=qaA) (fun i=>((F,encK Q (fun j=>if j<i then wtP Q j else w0 j),((P.length:Nat):Int),(i:Int),()),((encK P (wtP P),()),()))) P.length
  (r:=((encK Q (fun j=>if j<P.length then wtP Q j else w0 j),()),((encK P (wtP P),()),()))) (by omega) (by
  intro gg i hi;have d0:(i:Int)<((P.length:Nat):Int):=by omega
  have d1:(0:Int)<=(i:Int):=by omega
  have d2:(i:Int)<(F.length:Int):=by rw[lF];exact d0
  have d3:(i:Int)<((encK Q (fun j=>if j<i then wtP Q j else w0 j)).length:Int):=by rw[lQ];exact d0
  have g1:F[i]?=some (canQ (wtP Q i)):=by rw[eF];exact qgA _ hi
  have g2:=qdv (P:=Q) (w:=fun j=>if j<i then wtP Q j else w0 j) (i:=i) (by omega);have u:=qpq (P:=Q) (w:=fun j=>if j<i then wtP Q j else w0 j) (i:=i) (wtP Q i);have e:encK Q (fun j=>if j=i then wtP Q i else if j<i then wtP Q j else w0 j)=encK Q (fun j=>if j<i+1 then wtP Q j else w0 j):=by
   refine qhd fun j _=>?_
   by_cases e1:j=i
   · rw[if_pos e1,if_pos (by omega),e1]
   · rw [if_neg e1];by_cases e2:j<i
     · rw[if_pos e2,if_pos (by omega)]
     · rw[if_neg e2,if_neg (by omega)]
  rw[qaA,cnd d0,cnd2 d1 d2,tN0,g1,bS0,cnd2 d1 d3,g2,bS0,u,e,qbc (by omega)];rfl) (by
  intro gg;rw[qaA,cnd' (by omega)])
 have e0:encK Q (fun j=>if j<0 then wtP Q j else w0 j)=encK Q w0:=qhd fun j _=>if_neg (by omega)
 have e1:encK Q (fun j=>if j<P.length then wtP Q j else w0 j)=encK Q (wtP Q):=qhd fun j hj=>if_pos (by omega)
 rw[e0,e1] at key;have key:lp qaA K0 ((F,encK Q w0,((P.length:Nat):Int),0,()),((encK P (wtP P),()),()))=some ((encK Q (wtP Q),()),((encK P (wtP P),()),())):=key;have i1:iadd .i64 ((a+1:Nat):Int) 1=((a+2:Nat):Int):=qbc (by omega);have hw:=qq3 h hk ha;rw[<- eQ,<- eF] at hw;have t1:(((a+1:Nat):Int)-0).toNat=a+1:=by omega
 have t2:(((a+2:Nat):Int)).toNat=a+2:=by omega
 have c1:(decide ((0:Int)<=((a+1:Nat):Int))&&decide ((((a+1:Nat):Int):Int)<=((a+1:Nat):Int))&&decide ((((a+1:Nat):Int):Int)<=((P.length+1:Nat):Int)))=true:=by
  simp only[Bool.and_eq_true,decide_eq_true_eq];omega
 rw[qcn,el,cnd' (by omega),cnd' (by omega),cnd' (by omega),hw,bS0];dsimp only;rw[el,c1,cond_true,t1,blt (by rw[List.length_take,el];simp;omega),cond_true,i1,cnd2 (by omega) (by omega),t2,List.nil_append,blt (by rw[List.length_take,List.length_drop,el];omega),cond_true,eo,lQ,key,eQ];rfl
theorem qy6 {f:Nat} {q:Rat} {ok:Bool} {w:List AP} (h:∀ p∈w,p.1≠f):(qm8 f q ok w).Perm ((f,q,ok)::w):=by
 induction w with
 | nil=>exact List.Perm.refl _
 | cons p w ih =>
  have h1:p.1≠f:=h p List.mem_cons_self;have ih:=ih fun x hx=>h x (List.mem_cons_of_mem _ hx)
  simp only[qm8];split
  · exact(List.Perm.cons _ ih).trans (List.Perm.swap _ _ _)
  · first | exact List.Perm.refl _ | (rw[if_neg h1])
theorem qy5 {f:Nat} {q s:Rat} {ok o:Bool} {w:List AP} (hs:qq0 w) (hm:(f,s,o)∈w):∃ r:List AP,w.Perm ((f,s,o)::r)/\(qm8 f q ok w).Perm ((f,s*q,o&&ok)::r):=by
 induction w with
 | nil=>cases hm
 | cons p w ih =>
  have hs2:=List.pairwise_cons.1 hs;rcases List.mem_cons.1 hm with e | hm
  · subst e;refine⟨w,List.Perm.refl _,?_⟩;simp only[qm8];simp
  · obtain ⟨r, h1, h2⟩ := ih hs2.2 hm;have hlt:p.1<f:=hs2.1 _ hm;refine⟨p::r,(List.Perm.cons _ h1).trans (List.Perm.swap _ _ _),?_⟩;simp only[qm8];rw[if_pos hlt];exact(List.Perm.cons _ h2).trans (List.Perm.swap _ _ _)
theorem qyy {P:List AP} {f:Nat}:(∀ p∈P,p.1≠f)\/∃ a,∃ ha:a<P.length,P[a].1=f/\∀ j (hj:j<P.length),j<a->P[j].1≠f:=by
 induction P with
 | nil=>exact .inl (by simp)
 | cons p P ih =>
  by_cases e:p.1=f
  · exact .inr ⟨0,by simp,e,fun j _ hj=>by omega⟩
  · rcases ih with h | ⟨a, ha, h1, h2⟩
    · exact .inl fun x hx=>by rcases List.mem_cons.1 hx with rfl | hx;exact e;exact h x hx
    · refine .inr ⟨a + 1, by simpa using ha, by simpa using h1, fun j hj hja => ?_⟩;cases j with
      | zero=>exact e
      | succ j=>simpa using h2 j (by simpa using hj) (by omega)
theorem qhf.mono {P:List AP} {k k' g:Nat} (h:qhf P k g) (hk:k<=k'):qhf P k' g:=⟨h.nd,fun p hp=>(h.sz p hp).mono hk,h.len,h.lt,h.pos⟩
theorem qhf.snoc {P:List AP} {k g:Nat} (h:qhf P k g) {f:Nat} {q:Rat} {ok:Bool} (hf:∀ p∈P,p.1≠f) (hq:SzQ q k) (hq0:0<q) (hl:P.length<20) (hfg:f<g):qhf (P++[(f,q,ok)]) k g:=by
 have hp:(P++[((f,q,ok):AP)]).Perm ((f,q,ok)::P):=List.perm_append_comm.trans (List.Perm.refl _);have hmem:∀ p∈P++[((f,q,ok):AP)],p=(f,q,ok)\/p∈P:=fun p hp=>by
   rcases List.mem_append.1 hp with h | h
   · exact .inr h
   · exact .inl (List.mem_singleton.1 h)
 refine⟨?_,fun p hp=>?_,by rw[List.length_append];simp;omega,fun p hp=>?_,fun p hp=>?_⟩
 · rw [(hp.map (·.1)).nodup_iff];refine List.nodup_cons.2 ⟨fun hm=>?_,h.nd⟩;obtain⟨p,hp,e⟩:=List.mem_map.1 hm;exact hf p hp e
 · rcases hmem p hp with rfl | h'
   · exact hq
   · exact h.sz p h'
 · rcases hmem p hp with rfl | h'
   · exact hfg
   · exact h.lt p h'
 · rcases hmem p hp with rfl | h'
   · exact hq0
   · exact h.pos p h'
theorem qBR {P w:List AP} {m g:Nat} (h:qhf P (8*m+1) g) (hw:P.Perm w) (hs:qq0 w) {f:Nat} {q:Rat} {ok:Bool} (hf:f<g) (hg:g<1000000) (hq:SzQ q 8) (hq0:0<q) (hl:P.length<=m) (hm:m<8)
   (at0:Int) (b1:Bool) (b2 b3:List Int) :
   ∃ P',P'.Perm (qm8 f q ok w)/\qhf P' (8*(m+1)+1) g/\P'.length<=m+1 /\
     qa3 at0 b1 b2 b3 (f:Int) (canQ q).1.1 (canQ q).1.2 (canQ q).2 ok (encK P (wtP P))=some (at0,b1,b2,b3,(f:Int),(canQ q).1.1,(canQ q).1.2,(canQ q).2,ok,encK P' (wtP P')):=by
 have c0:¬ (f:Int)<0:=by omega
 rcases qyy (P:=P) (f:=f) with hn | ⟨a,ha,he,hn⟩
 · have h1 := h.mono (show 8 * m + 1 <= 8 * (m + 1) + 1 by omega);have hq1:=hq.mono (show 8<=8*(m+1)+1 by omega);refine⟨P++[(f,q,ok)],?_,h1.snoc hn hq1 hq0 (by omega) hf,by rw[List.length_append];simp;omega,?_⟩
   · have hn2 : ∀ p ∈ w, p.1 ≠ f := fun p hp => hn p (hw.symm.mem_iff.1 hp)
     have:(P++[((f,q,ok):AP)]).Perm ((f,q,ok)::P):=List.perm_append_comm.trans (List.Perm.refl _);exact(this.trans (List.Perm.cons _ hw)).trans (qy6 hn2).symm
   · have he := quf h1 (f := f) (q := q) (ok := ok) hn hq1 hq0 (by omega) (by omega) (by omega);rw[qa3,cnd' c0,qv9 hn (by omega),bS0];dsimp only;rw[cnd' (by omega)];show(qaX (f:Int) (canQ q) ok (encK P (wtP P))).bind _=_;rw[he];rfl
 · have ho := (h.out ha).mono (show 8 * m + 1 <= 8 * (m + 1) + 1 by omega);have hno:=h.notin ha;rw[he] at hno;have hz:SzQ P[a].2.1 (8*m+1):=h.sz _ (gM0 ha);have hz0:0<P[a].2.1:=h.pos _ (gM0 ha);have hq1:SzQ (q*P[a].2.1) (8*(m+1)+1):=(hq.mul hz).mono (by omega);have hqz:0<q*P[a].2.1:=Rat.mul_pos hq0 hz0;have hol:=qd6 ha;have hm1:=qaZ (hq.sm (by omega)) (hz.sm (by omega));rw[qah,qah] at hm1;have hm1:qaw (((canQ q).1.1,(canQ q).1.2),(canQ q).2) (canQ P[a].2.1)=some (canQ (q*P[a].2.1)):=hm1;refine⟨qbN P a++[(f,q*P[a].2.1,P[a].2.2&&ok)],?_,ho.snoc hno hq1 hqz (by omega) hf,by rw[List.length_append];simp;omega,?_⟩
   · have hmem : (f, P[a].2.1, P[a].2.2) ∈ w := by
      have:(P[a]:AP)=(f,P[a].2.1,P[a].2.2):=by rw[<- he]
      rw[<- this];exact hw.mem_iff.1 (gM0 ha)
     obtain⟨r,r1,r2⟩:=qy5 (q:=q) (ok:=ok) hs hmem;have e1:(P[a]:AP)=(f,P[a].2.1,P[a].2.2):=by rw[<- he]
     have p1:((f,P[a].2.1,P[a].2.2)::qbN P a).Perm ((f,P[a].2.1,P[a].2.2)::r):=by
      have:=qjE ha;rw[e1] at this;exact(this.symm.trans hw).trans r1
     have p2:=List.Perm.cons_inv p1;have p3:(qbN P a++[((f,q*P[a].2.1,P[a].2.2&&ok):AP)]).Perm ((f,q*P[a].2.1,P[a].2.2&&ok)::qbN P a):=List.perm_append_comm.trans (List.Perm.refl _);refine(p3.trans ?_).trans r2.symm;rw[Rat.mul_comm];exact List.Perm.cons _ p2
   · have hE := quf ho (f := f) (q := q * P[a].2.1) (ok := P[a].2.2 && ok) hno hq1 hqz (by omega) (by omega) (by omega);have hU:=qza h (by omega) ha;have c1:((a+1:Nat):Int)>0:=by omega
     have i1:isub .i64 ((a+1:Nat):Int) 1=(a:Int):=by rw[qcP (by omega) (by omega)];omega
     have d1:(0:Int)<=(a:Int):=by omega
     have d2:(a:Int)<((encW P).length:Int):=by rw[qpp];omega
     have g1:(encW P)[a]?=some (encP P[a]):=by simp [encW,ha]
     rw[qa3,cnd' c0,qCf ha he hn (by omega),bS0];dsimp only;rw[cnd c1,qrw (by omega),bS0,i1];dsimp only;rw[cnd2 d1 d2,tN0,g1,bS0];show(qaw (((canQ q).1.1,(canQ q).1.2),(canQ q).2) (canQ P[a].2.1)).bind _=_;rw[hm1,bS0];cases ok with
     | true =>
      rw[Bool.and_true] at hE ⊢;rw[cond_true,hU,bS0];dsimp only;show(qaX (f:Int) (canQ (q*P[a].2.1)) P[a].2.2 _).bind _=_;rw[hE];rfl
     | false =>
      rw[Bool.and_false] at hE ⊢;rw[cond_false,hU,bS0];dsimp only;rw[hE];rfl
def lfT (P:List AP) (v:Rat) (f i:Nat):Rat:=match P[i]? with
 | some p=>if p.1=f then sumP P i*(one0 p.2.2-p.2.1)*v else 0
 | none=>0
def qwR (P:List AP) (v:Rat) (f:Nat):Rat:=rsum (lfT P v f) P.length
theorem qqj {P:List AP} {v:Rat} {f i:Nat} (h:i<P.length):lfT P v f i=if P[i].1=f then sumP P i*(one0 P[i].2.2-P[i].2.1)*v else 0:=by
 simp only[lfT,gE0 h]
def apF (p:AP):FP:=(p.1,fcP p)
theorem qpS (P:List AP) (S:Nat):qkS S P=qmI (P.map apF) S:=by
 unfold qkS qmI;rw[List.map_map];congr 1
theorem qBi {P:List AP} {a:Nat} (h:a<P.length):sumP P a=EE ((qbN P a).map fcP) fun k=>wq k ((qbN P a).length+1):=by
 have hl:=qd6 h;rw[qCg,List.length_map,hl];unfold sumP;refine qfb fun i _=>?_
 unfold wtP ekP;rw[Rat.mul_comm,hl]
theorem qpT {P Q:List AP} (h:P.Perm Q) (S:Nat):qkS S P=qkS S Q:=qrg (h.map _)
theorem qwQ {P:List AP} {k n f:Nat} (h:qhf P k n) (hf:f<n) (v:Rat):qwR P v f=qnd (fun S=>qkS S P*v) n f:=by
 rw[qxL];rcases qyy (P:=P) (f:=f) with hn | ⟨a,ha,he,_⟩
 · have e1 : qnd (fun S => qkS S P) n f = 0 := by
    have:(fun S=>qkS S P)=qmI (P.map apF):=funext fun S=>qpS P S
    rw[this];refine qxJ fun hm=>?_
    rw[List.map_map] at hm;obtain⟨p,hp,e⟩:=List.mem_map.1 hm;exact hn p hp e
   rw[e1,Rat.zero_mul];refine qq7 fun i hi=>?_
   rw[qqj hi,if_neg (hn _ (gM0 hi))]
 · have hno := h.notin ha;rw[he] at hno;have ho:=h.out ha;have e1:qnd (fun S=>qkS S P) n f=(one0 P[a].2.2-P[a].2.1)*sumP P a:=by
    have e2:(fun S=>qkS S P)=fun S=>pick (fcP P[a]) (S.testBit f)*qmI ((qbN P a).map apF) S:=funext fun S=>by
      rw[qpT (qjE ha) S];show facP S P[a]*qkS S (qbN P a)=_;rw[qpS,<- he];rfl
    rw[e2,qxI hf (by rw[List.map_map];exact ho.nd) (fun p hp=>by
      obtain⟨x,hx,rfl⟩:=List.mem_map.1 hp;exact ho.lt x hx) (fun hm=>by
      rw[List.map_map] at hm;obtain⟨p,hp,e⟩:=List.mem_map.1 hm;exact hno p hp e),qBi ha]
    rw[List.map_map,List.length_map];rfl
   rw[e1];have hone:∀ i,i<P.length->i≠a->lfT P v f i=0:=fun i hi hne=>by
    rw[qqj hi];refine if_neg fun e=>hne ?_
    have hnd:=h.nd;have hpw:=List.pairwise_iff_getElem.1 (show(P.map (·.1)).Pairwise (·≠·) from hnd);rcases Nat.lt_trichotomy i a with hlt | heq | hlt
    · have h5 := hpw i a (by simpa using hi) (by simpa using ha) hlt;simp [e,he] at h5
    · exact heq
    · have h5 := hpw a i (by simpa using ha) (by simpa using hi) hlt;simp [e,he] at h5
   have key:∀ n,n<=P.length->rsum (lfT P v f) n=if a<n then lfT P v f a else 0:=by
    intro n
    induction n with
    | zero=>intro _;rw[if_neg (by omega)];rfl
    | succ n ih =>
      intro hn;rw[rsum,ih (by omega)];by_cases e:n=a
      · subst e;rw[if_neg (by omega),if_pos (by omega),Rat.zero_add]
      · rw [hone n (by omega) e, Rat.add_zero];by_cases h1:a<n
        · rw[if_pos h1,if_pos (by omega)]
        · rw[if_neg h1,if_neg (by omega)]
   unfold qwR;rw[key _ (Nat.le_refl _),if_pos ha,qqj ha,if_pos he]
   grind
theorem ekS8 {k n:Nat} (hk:k<=70) (hn:n<=8):ekS k n<=20000:=by
 have h1:=qvU k hn;have h2:ekS k 8<=ekS 70 8:=by
  have:∀ n,ekS k n<=ekS 70 n:=by
   intro n
   induction n with
   | zero=>exact Nat.le_refl _
   | succ n ih=>simp only[ekS];omega
  exact this 8
 have h3:ekS 70 8<=20000:=by decide +kernel
 omega
theorem qnf {f:Nat->Rat} {k:Nat}:∀ n,(∀ i,i<n->SzQ (f i) k)->SzQ (rsum f n) (1+n*(k+1)):=by
 intro n
 induction n with
 | zero=>intro _;exact SzQ.zero.mono (by omega)
 | succ n ih =>
  intro h;have h1:=ih fun i hi=>h i (by omega)
  have e:(n+1)*(k+1)=n*(k+1)+(k+1):=Nat.succ_mul _ _;exact(h1.add (h n (by omega))).mono (by omega)
theorem qxC {P:List AP} {k g a:Nat} (h:qhf P k g) (hk:k<=70) (hl:P.length<=8) (ha:a<P.length):SzQ (sumP P a) 170000:=by
 have hS:=ekS8 (k:=k) (n:=(qbN P a).length) hk (by have:=qd6 ha;omega);have:=qnf (k:=20030) P.length (fun i hi=>(qx0 h hk ha i hi).mono (by omega));refine this.mono ?_;have:P.length*(20030+1)<=8*(20030+1):=Nat.mul_le_mul_right _ hl;omega
theorem qAS {P:List AP} {k g:Nat} {v:Rat} (h:qhf P k g) (hk:k<=70) (hl:P.length<=8) (hv:SzQ v 200) (f:Nat) {i:Nat} (hi:i<P.length):SzQ (lfT P v f i) 180000:=by
 rw[qqj hi];split
 · have h1 := qxC h hk hl hi;have h2:SzQ P[i].2.1 k:=h.sz _ (gM0 hi);have h3:=(qx6 P[i].2.2).sub h2;exact((h1.mul h3).mul hv).mono (by omega)
 · exact SzQ.zero.mono (by omega)
theorem qBO {t:List NODE} {row:List CELL} {fx:Int} {on:Bool} {n k:Nat} {P:List AP} (h:qhf P k n) (hk:k<=70) (hl:P.length<=8) {i:Nat} (hi:i<t.length) {gn:Rat} (hg:SzQ gn 100) (hs:TSz t 4)
  {o:Nat->Rat} (ho:∀ f,f<n->SzQ (o f) 100000000000) (hn:n<1000000) (a4:Int) (a5:Bool) (a6 a7:List Int) (a8:Bool) :
  qbD (i:Int) (canQ gn).1.1 (canQ gn).1.2 (canQ gn).2 a4 a5 a6 a7 a8 t row fx on (flo n o) (encK P (wtP P)) =
   some (flo n (fun f=>o f+qwR P (gn*rv (nVal (qfq t i))) f),t,row,fx,on,encK P (wtP P)):=by
 obtain⟨v,hv⟩:∃ v,v=gn*rv (nVal (qfq t i)):=⟨_,rfl⟩;have zv:=(hs.at hi).2.1;have m0:=qaZ (a:=canQ gn) (b:=nVal (qfq t i)) (hg.sm (by decide)) (zv.sm (by decide));rw[qah,<- hv] at m0;have vsz:SzQ v 200:=by rw[hv];exact(hg.mul (zv.szQ (by decide))).mono (by decide)
 rw[<- hv];have key:=qgQ (step:=qas) (fun j=>((encW P,(P.length:Int),(j:Int),()),(((i:Int),(canQ gn).1.1,(canQ gn).1.2,(canQ gn).2,a4,a5,a6,a7,a8,()),((canQ v).1.1,(canQ v).1.2,(canQ v).2,()),(t,row,fx,on,flo n (fun f=>o f+rsum (lfT P v f) j),()),(encK P (wtP P),()),()))) P.length
  (r:=((),((t,row,fx,on,flo n (fun f=>o f+rsum (lfT P v f) P.length),()),(encK P (wtP P),()),()))) (by omega) (by
  intro g j hj;have d0:(j:Int)<(P.length:Int):=by omega
  have d1:(0:Int)<=(j:Int):=by omega
  have d2:(j:Int)<((encW P).length:Int):=by rw[qpp];exact d0
  have g1:=qAd hj;have q1:iadd .i64 (j:Int) 1=((j+1:Nat):Int):=qbc (by omega);have s1:=qAw h hk hj;have zp:SzQ P[j].2.1 k:=h.sz _ (gM0 hj);have n1:=qoN (zp.sm (by omega));rw[qah] at n1;have hfl:P[j].1<n:=h.lt _ (gM0 hj);obtain⟨F,hF⟩:∃ F,F=P[j].1:=⟨_,rfl⟩;rw[<- hF] at hfl;have zn:SzQ (-P[j].2.1) (k+4):=by
   have:=SzQ.zero.sub zp;rw[Rat.sub_eq_add_neg,Rat.zero_add] at this;exact this.mono (by omega)
  have c1:(0:Int)<=((F:Nat):Int):=by omega
  have c2:((F:Nat):Int)<((flo n (fun f=>o f+rsum (lfT P v f) j)).length:Int):=by rw[qbq];omega
  have g2:=qgA (n:=n) (f:=F) (fun f=>o f+rsum (lfT P v f) j) hfl;have zs:=qxC h hk hl hj;have zr:SzQ (o F+rsum (lfT P v F) j) 100010000000:=by
   have h1:SzQ (rsum (lfT P v F) j) (1+j*(180000+1)):=qnf j (fun i hi=>qAS h hk hl vsz F (by omega));have:j*(180000+1)<=8*(180000+1):=Nat.mul_le_mul_right _ (by omega);exact((ho F hfl).add h1).mono (by omega)
  have hset:∀ x,x=o F+rsum (lfT P v F) (j+1)->(flo n (fun f=>o f+rsum (lfT P v f) j)).set F (canQ x)=flo n (fun f=>o f+rsum (lfT P v f) (j+1)):=fun x hx=>by
   refine qyw hx.symm fun f hf=>?_
   rw[rsum,qqj hj,if_neg (by rw[<- hF];exact fun e=>hf e.symm),Rat.add_zero]
  show qas g ((encW P,(P.length:Int),(j:Int),()),_)=_;rw[qas,cnd d0,cnd2 d1 d2,tN0,g1,bS0,q1,s1,bS0];show(qis (canQ P[j].2.1)).bind _=_;rw[n1,bS0];have e1:(encP P[j]).1=(F:Int):=by rw[hF];rfl
  have e2:(encP P[j]).2.2=P[j].2.2:=rfl;rw[e1,e2];cases hok:P[j].2.2 with
  | true =>
   have a1:=qef (SzQ.one.sm (by decide)) (zn.sm (by omega));rw[qah,qah,<- Rat.sub_eq_add_neg] at a1;have z1:SzQ (1-P[j].2.1) 100:=(SzQ.one.sub zp).mono (by omega);have m1:=qaZ (zs.sm (by decide)) (z1.sm (by decide));rw[qah,qah] at m1;have z2:SzQ (sumP P j*(1-P[j].2.1)) 170100:=(zs.mul z1).mono (by omega);have m2:=qaZ (z2.sm (by decide)) (vsz.sm (by decide));rw[qah,qah] at m2;have m2:qaw (canQ (sumP P j*(1-P[j].2.1))) (((canQ v).1.1,(canQ v).1.2),(canQ v).2)=_:=m2;have z3:SzQ (sumP P j*(1-P[j].2.1)*v) 170300:=(z2.mul vsz).mono (by omega);have a2:=qef (zr.sm (by decide)) (z3.sm (by decide));rw[qah,qah] at a2;have hx:=hset (o F+rsum (lfT P v F) j+sumP P j*(1-P[j].2.1)*v) (by
    rw[rsum,qqj hj,if_pos hF.symm,hok];simp only[one0,if_true];grind)
   rw[cond_true,qkU,bS0,a1,bS0,cnd2 c1 c2,tN0,g2,bS0,m1,bS0,m2,bS0,a2,bS0,cnd2 c1 c2,bS0,hx]
  | false =>
   have m1:=qaZ (zs.sm (by decide)) (zn.sm (by omega));rw[qah,qah] at m1;have z2:SzQ (sumP P j*(-P[j].2.1)) 170100:=(zs.mul zn).mono (by omega);have m2:=qaZ (z2.sm (by decide)) (vsz.sm (by decide));rw[qah,qah] at m2;have m2:qaw (canQ (sumP P j*(-P[j].2.1))) (((canQ v).1.1,(canQ v).1.2),(canQ v).2)=_:=m2;have z3:SzQ (sumP P j*(-P[j].2.1)*v) 170300:=(z2.mul vsz).mono (by omega);have a2:=qef (zr.sm (by decide)) (z3.sm (by decide));rw[qah,qah] at a2;have hx:=hset (o F+rsum (lfT P v F) j+sumP P j*(-P[j].2.1)*v) (by
    rw[rsum,qqj hj,if_pos hF.symm,hok];simp only[one0,Bool.false_eq_true,if_false];grind)
   rw[cond_false,cnd2 c1 c2,tN0,g2,bS0,m1,bS0,m2,bS0,a2,bS0,cnd2 c1 c2,bS0,hx]) (by
  intro g;rw[qas,cnd' (by omega)])
 have e0:flo n (fun f=>o f+rsum (lfT P v f) 0)=flo n o:=qnR fun f _=>Rat.add_zero _
 rw[e0] at key;have key:lp qas K0 ((encW P,(P.length:Int),0,()),(((i:Int),(canQ gn).1.1,(canQ gn).1.2,(canQ gn).2,a4,a5,a6,a7,a8,()),((canQ v).1.1,(canQ v).1.2,(canQ v).2,()),(t,row,fx,on,flo n o,()),(encK P (wtP P),()),()))=_:=key;have m0:qaw (((canQ gn).1.1,(canQ gn).1.2),(canQ gn).2) t[i].2.2.2.2.2.2.1=some (canQ v):=by
  rw[qf1 hi] at m0;exact m0
 rw[qbD,cnd (by omega),tN0,gE0 hi,bS0,m0,bS0,qrw (by omega),bS0];dsimp only;rw[qpp,key,bS0];dsimp only;rw[qbq,qbq,Nat.beq_refl,cond_true,bS0];rfl
end Go.Proofs.YtaeiamdjpkgjpaaGreatDoor.X
