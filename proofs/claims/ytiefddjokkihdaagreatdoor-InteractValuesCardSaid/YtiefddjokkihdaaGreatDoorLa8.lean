/- Own work: part of the proof; the first line of each part says what it tells. -/
import Derived.Test.YtiefddjokkihdaaGreatDoorLa7
import Derived.Test.YtiefddjokkihdaaGreatDoorLa6
open List renaming replicate->j9,take_of_length_le->jd,length_take->jk,take_length->jt,drop_eq_getElem_cons->ju,set_append_right->jC,length_cons->jD,append_assoc->jH,length_append->jL,replicate_succ->jN,take_append_drop->jQ,getElem?_eq_none->jT,drop_length->jU,getElem?_cons_zero->jX,getElem?_drop->k7,getElem?_append_right->k8,eq_nil_of_length_eq_zero->k9,take_add_one->kc,replicate_append_replicate->ke,length_nil->ki,mem_cons_self->kn,length_pos_iff->kA,getLast?_append->kH,getLast?_singleton->kI,set_cons_zero->kL,take_succ_eq_append_getElem->kM,set_eq_take_append_cons_drop->kN,getElem?_append_left->kQ,set_append_left->kR,replicate_succ'->kS,mem_cons_of_mem->kV,append_nil->kY,length_replicate->kZ,drop_eq_nil_of_le->xc
open Nat renaming gcd->ja,pow_succ->jb,mul_le_mul_left->jc,pow_add->je,min_eq_left->jf,mul_comm->jg,pow_le_pow_right->jh,pow_pos->ji,le_of_lt->jj,mul_le_mul_right->jm,lt_or_ge->jn,eq_zero_or_pos->jo,mul_assoc->jp,add_mul->jr,lt_of_le_of_lt->js,div_add_mod->jv,mod_lt->jw,gcd_comm->jx,mul_add->jy,mul_lt_mul''->jz,lt_of_lt_of_le->jA,le_refl->jB,mul_one->jE,div_eq_of_lt->jJ,pos_of_ne_zero->jK,one_mul->jM,sub_self->jO,not_lt->jP,lt_trans->jV,div_lt_iff_lt_mul->jW,gcd_rec->jY,add_mul_div_left->jZ,mul_div_cancel_left->ka,add_comm->kf,mod_eq_of_lt->kg,gcd_zero_right->kj,div_div_eq_div_mul->ko,zero_add->kp,mul_lt_mul_of_pos_right->kq,mul_le_mul->kt,add_zero->kx,Coprime->ky,le_trans->kz,gcd_le_right->kT,add_mul_mod_self_left->kU,mul_mod_mul_right->kX,div_eq_iff->xa,log2_self_le->xb,le_mul_of_pos_right->xd,le_add_left->xe,gcd_mul_left->xf,min_eq_right->xg,gcd_zero_left->xh,le_mul_of_pos_left->xi,div_le_self->xp,mul_ne_zero->xt,strongRecOn->xy
open Int renaming eq_ofNat_of_zero_le->jq,natAbs_natCast->jF,natAbs_mul->jG,natCast_emod->jI,natCast_ediv->jS,natAbs_neg->kb,mul_nonneg->kd,natCast_mul->kr,mul_le_mul->kO,toNat_mul->kP,natAbs_ediv_of_dvd->xn,ofNat_dvd_left->xo,natAbs_add_le->xq
open Bool renaming and_true->jR,not_false->xx
open Rat renaming div_def->kB,divInt_eq_div->kC,not_lt->kD,mkRat_zero->xj,num_mkRat->xk,den_mkRat->xl,sub_eq_add_neg->xr,divInt_ofNat->xu,num_intCast->xw
open Option renaming toList_some->kE,some_or->kJ
open Option.some renaming injEq->kK


namespace Go.Proofs.YtiefddjokkihdaaGreatDoor.X
open Go
set_option linter.unusedVariables false
set_option linter.unusedSimpArgs false
theorem qGd {n:Nat} (h:n<4611686018427387904):isub .i64 ((n:Int)+1) 1=(n:Int):=by rw[qci]<;>omega
theorem qaV {n:Nat} (h:n<4611686018427387904):iadd .i64 (n:Int) 1=(n:Int)+1:=by rw[qfq]<;>omega
theorem nnt {a:List Int} {i:Nat} (h:i<a.length):nn (a.take (i+1))=nn (a.take i)+4294967296 ^ i*(a[i] % 4294967296).toNat:=qeX (gE0 h)
theorem Lim.at {a:List Int} (ha:Lim a) {i:Nat} (h:i<a.length):0<=a[i]/\a[i]<4294967296:=ha _ (gM0 h)
theorem qke {a:List Int} (ha:Lim a) (hl:a.length<4611686018427387904):qfp a=some (qab (nn a)):=by
 obtain⟨r,⟨n,hn,rfl,h1,h2⟩,hr⟩:=qmI (step:=qe4) (fun v=>∃ n:Nat,n<=a.length/\v=((a,(n:Int),()),())/\nn (a.take n)=nn a) (fun v=>v.1.2.1.toNat)
   (fun r=>∃ n:Nat,n<=a.length/\r=((a,(n:Int),()),())/\nn (a.take n)=nn a/\∀ x,(a.take n).getLast?=some x->x≠0) (v:=((a,(a.length:Int),()),()))
   ⟨a.length, jB _, rfl, by simp⟩ (by simp; omega) (by
    rintro v ⟨n,hn,rfl,h1⟩;cases n with
    | zero=>exact .inl ⟨_,⟨0,by omega,rfl,h1,by simp⟩,fun g=>by simp [qe4]⟩
    | succ n =>
     have hl2:n<a.length:=by omega
     have e2:(0:Int)<(n:Int)+1:=by omega
     have e1:=qGd (n:=n) (by omega);by_cases h0:a[n]=0
     · refine .inr ⟨((a, (n : Int), ()), ()), ⟨n, by omega, rfl, ?_⟩, by simp, fun g => ?_⟩
       · rw[<- h1,nnt hl2,h0];simp
       · simp [qe4,e1,e2,h0,hl2]
     · refine .inl ⟨_, ⟨n + 1, hn, rfl, h1, ?_⟩, fun g => ?_⟩
       · intro y hy;rw[kc,gE0 hl2] at hy;simp only[kE,kH,kI,kJ,kK] at hy;subst hy;exact h0
       · simp [qe4,e1,e2,h0,hl2])
 have e:a.take n=qab (nn a):=by rw[<- h1];exact qyG ⟨ha.take n,h2⟩
 simp only[qfp,hr,bS0];rw[<- e];by_cases h0:n=0
 · subst h0;simp
 · simp [h0,hn]
theorem qxJ {n:Nat} (h:n<18446744073709551616):qmD n=some (qab n):=by
 have e:nn [((n:Int) % 4294967296),(n:Int)/4294967296]=n:=by simp only[nn];omega
 have hl:Lim [((n:Int) % 4294967296),(n:Int)/4294967296]:=Lim.cons (by omega) (Lim.cons (by omega) Lim.nil);simp only[qmD,qhl,qu2];rw[qke hl (by simp)];simp [e]
def cut (a:List Int):List Int:=a.map (· % 4294967296)
theorem qF7 (a:List Int):nn (cut a)=nn a:=by
 induction a with
 | nil=>rfl
 | cons x a ih=>simp only[cut,List.map_cons,nn];rw[show nn (a.map (· % 4294967296))=nn (cut a) from rfl,ih];omega
theorem qFi (a:List Int):Lim (cut a):=by
 intro x hx;obtain⟨y,_,rfl⟩:=List.mem_map.1 hx;omega
@[simp] theorem qBL (a:List Int):(cut a).length=a.length:=by simp [cut]
def fill {α:Type} (X:List α) (z:α) (i:Nat):List α:=X.take i++j9 (X.length-i) z
theorem qv8 {α:Type} (X:List α) (z:α):fill X z 0=j9 X.length z:=by simp [fill]
theorem qyw {α:Type} (X:List α) (z:α):fill X z X.length=X:=by simp [fill]
@[simp] theorem qyv {α:Type} (X:List α) (z:α) (i:Nat) (h:i<=X.length):(fill X z i).length=X.length:=by simp [fill];omega
theorem qyu {α:Type} {X:List α} {z:α} {i:Nat} (h:i<X.length):(fill X z i).set i X[i]=fill X z (i+1):=by
 have e:X.length-i=(X.length-(i+1))+1:=by omega
 have e2:(X.take i).length=i:=by simp;omega
 unfold fill;rw[e,jN,jC _ _ (by omega),e2,jO,kL,kM h,jH];rfl
theorem qe9 {a:List Int} (hl:a.length<35184372088832):qcu a=some (qab (nn a)):=by
 have key:lp qd8 K0 ((j9 a.length (0:Int),a,(a.length:Int),0,()),())=some ((cut a,()),()):=by
  have:=qfM (step:=qd8) (fun i=>((fill (cut a) 0 i,a,(a.length:Int),(i:Int),()),())) a.length (r:=((cut a,()),())) (by omega) (by
   intro g i hi;have e3:=qyu (z:=0) (show i<(cut a).length by simpa using hi);have e4:(fill (cut a) 0 i).length=a.length:=by rw[qyv _ _ _ (by simp;omega),qBL]
   simp [qd8,hi,qaV (n:=i) (by omega),qhl,e4,<- e3];simp [cut]) (by
   intro g;have:=qyw (cut a) (0:Int);rw[qBL] at this;simp [qd8,this])
  simpa [qv8] using this
 have h1:(8:Int)*(a.length:Int)<=281474976710656:=by omega
 have h2:(a.length:Int)<=9223372036854775807:=by omega
 simp [qcu,h1,h2,key,qke (qFi a) (by simp;omega),qF7]
theorem qud {a:List Int} {i:Nat} (h:i<a.length):nn a=nn (a.take i)+4294967296 ^ i*((a[i] % 4294967296).toNat+4294967296*nn (a.drop (i+1))):=by
 have e:a=a.take i++(a[i]::a.drop (i+1)):=by simp
 conv=>lhs;rw[e]
 rw[qcs];simp [nn,jf (jj h)]
def ncmp (n m:Nat):Int:=if n<m then -1 else if m<n then 1 else 0
theorem qye {a b:List Int} (ha:Lim a) (hb:Lim b) {i:Nat} (h:i<a.length) (h':i<b.length) (hd:a.drop (i+1)=b.drop (i+1)) (hlt:a[i]<b[i]):nn a<nn b:=by
 rw[qud h,qud h',hd];have h1:=qgx (a.take i);rw[jk,jf (jj h)] at h1;have ha:=ha.at h;have hb:=hb.at h';have h2:(a[i] % 4294967296).toNat+1<=(b[i] % 4294967296).toNat:=by omega
 have h3:4294967296 ^ i*((a[i] % 4294967296).toNat+1+4294967296*nn (b.drop (i+1)))<=4294967296 ^ i*((b[i] % 4294967296).toNat+4294967296*nn (b.drop (i+1))):=jc _ (by omega);have h4:4294967296 ^ i*((a[i] % 4294967296).toNat+1+4294967296*nn (b.drop (i+1)))=4294967296 ^ i+4294967296 ^ i*((a[i] % 4294967296).toNat+4294967296*nn (b.drop (i+1))):=by grind
 omega
theorem qsj {n m:Nat} (h:(qab n).length<(qab m).length):n<m:=by
 have h1:=qgx (qab n);rw[q9q] at h1;rcases jn m (4294967296 ^ (qab n).length) with h2 | h2
 · have:=qc1 h2;omega
 · omega
theorem qrj {n m:Nat} (hn:(qab n).length<4611686018427387904):qix (qab n) (qab m)=some (ncmp n m):=by
 unfold qix;by_cases h1:(qab n).length<(qab m).length
 · have := qsj h1;simp [h1,ncmp,this]
 by_cases h2:(qab m).length<(qab n).length
 · have := qsj h2;simp [h1,h2,ncmp,this,jP.2 (jj this)]
 have hl:(qab m).length=(qab n).length:=by omega
 have ha:=qa4 n;have hb:=qa4 m;have e1:=q9q n;have e2:=q9q m;generalize qab n=a at *;generalize qab m=b at *;obtain⟨r,hr,hlp⟩:=qmI (step:=qdC) (fun v=>∃ j:Nat,j<=a.length/\v=((a,b,(j:Int)-1,()),())/\a.drop j=b.drop j) (fun v=>(v.1.2.2.1+1).toNat)
   (fun r=>(r=.inl ((),())/\a=b)\/(r=.inr ((-1,()),())/\nn a<nn b)\/(r=.inr ((1,()),())/\nn b<nn a)) (v:=((a,b,(a.length:Int)-1,()),()))
   ⟨a.length, jB _, rfl, by rw [jU, <- hl, jU]⟩ (by simp; omega) (by
    rintro v ⟨j,hj,rfl,hd⟩;cases j with
    | zero=>exact .inl ⟨_,.inl ⟨rfl,by simpa using hd⟩,fun g=>by simp [qdC]⟩
    | succ j =>
     have hja:j<a.length:=by omega
     have hjb:j<b.length:=by omega
     have e3:((j+1:Nat):Int)-1=(j:Int):=by omega
     rw[e3];by_cases c1:a[j]<b[j]
     · exact .inl ⟨_,.inr (.inl ⟨rfl,qye ha hb hja hjb hd c1⟩),fun g=>by simp [qdC,hja,hjb,c1]⟩
     by_cases c2:b[j]<a[j]
     · exact .inl ⟨_,.inr (.inr ⟨rfl,qye hb ha hjb hja hd.symm c2⟩),fun g=>by simp [qdC,hja,hjb,c1,c2]⟩
     refine .inr ⟨((a,b,(j:Int)-1,()),()),⟨j,by omega,rfl,?_⟩,by simp,fun g=>?_⟩
     · rw[ju hja,ju hjb,hd,show a[j]=b[j] by omega]
     · have : isub .i64 (j : Int) 1 = (j : Int) - 1 := by rw [qci] <;> omega
       simp [qdC,hja,hjb,c1,c2,this])
 have e3:isub .i64 (a.length:Int) 1=(a.length:Int)-1:=by rw[qci]<;>omega
 rw[e3,hlp];rcases hr with ⟨rfl,h⟩ | ⟨rfl,h⟩ | ⟨rfl,h⟩
 · subst h;have:n=m:=by omega
   subst this;simp [ncmp]
 · rw [e1, e2] at h;simp [h1,hl,ncmp,h]
 · rw [e1, e2] at h;simp [h1,hl,ncmp,h,jP.2 (jj h)]
theorem qCg {a b:List Int} (ha:a.length<35184372088832) (hb:b.length<35184372088832):qiW a b=some (ncmp (nn a) (nn b)):=by
 simp [qiW,qe9 ha,qe9 hb,qrj (js (qaB a) (jV ha (by decide)))]
def lget (a:List Int) (i:Nat):Int:=(a[i]?).getD 0
theorem qsh (a:List Int) (i:Nat):qii a (i:Int)=some (lget a i):=by
 by_cases h:i<a.length<;>simp [qii,lget,h]
theorem qlD {a:List Int} (ha:Lim a) (i:Nat):0<=lget a i/\lget a i<4294967296:=by
 unfold lget;cases h:a[i]? with
 | none=>simp
 | some x=>exact ha.get h
theorem qgW (a:List Int) (i:Nat):nn (a.take (i+1))=nn (a.take i)+4294967296 ^ i*(lget a i % 4294967296).toNat:=by
 by_cases h:i<a.length
 · rw[nnt h];simp [lget,h]
 · rw [jd (by omega), jd (by omega)];simp [lget,h]
theorem qzA {a:List Int} {i:Nat} (h:i<a.length):lget a i=a[i]:=by simp [lget,h]
theorem qtW {α:Type} {p:List α} {i n:Nat} {z:α} (x:α) (hp:p.length=i) (hi:i<n):(p++j9 (n-i) z).set i x=(p++[x])++j9 (n-(i+1)) z:=by
 have e:n-i=(n-(i+1))+1:=by omega
 subst hp;rw[e,jN,jC _ _ (by omega)];simp
theorem qGt {a b:List Int} (ha:a.length<17592186044416) (hb:b.length<17592186044416):qp9 a b=some (qab (nn a+nn b)):=by
 have h1:=qaB a;have h2:=qaB b;have e1:=q9q (nn a);have e2:=q9q (nn b);have l1:=qa4 (nn a);have l2:=qa4 (nn b);simp only[qp9,qe9 (show a.length<35184372088832 by omega),qe9 (show b.length<35184372088832 by omega),bS0];generalize qab (nn a)=x at *;generalize qab (nn b)=y at *;rw[<- e1,<- e2];clear e1 e2;obtain⟨N,hN,hx,hy,hN2⟩:∃ N:Nat,iadd .i64 (mx (x.length:Int) (y.length:Int)) 1=(N:Int)/\x.length<N/\y.length<N/\N<=17592186044417:=by
  have:mx (x.length:Int) (y.length:Int)=((max x.length y.length:Nat):Int):=by unfold mx;split<;>omega
  refine⟨max x.length y.length+1,?_,by omega,by omega,by omega⟩;rw[this,qaV]<;>omega
 rw[hN];obtain⟨r,⟨p,rfl,hp,hpl,hpn⟩,hlp⟩:=qjS (step:=qg4) (fun i v=>∃ (p:List Int) (c:Nat),v=((x,y,p++j9 (N-i) 0,(c:Int),(N:Int),(i:Int),()),())/\p.length=i/\Lim p/\c<=1/\nn p+4294967296 ^ i*c=nn (x.take i)+nn (y.take i))
  (fun r=>∃ p,r=((p,()),())/\p.length=N/\Lim p/\nn p=nn x+nn y) N (v:=((x,y,j9 N 0,0,(N:Int),0,()),()))
  ⟨[], 0, by simp, rfl, Lim.nil, by omega, by simp⟩ (by omega) (by
   rintro i v hi ⟨p,c,rfl,hp,hpl,hc,hs⟩;have b1:=qlD l1 i;have b2:=qlD l2 i;have hadd1:iadd .u64 (lget x i) (lget y i)=lget x i+lget y i:=qmJ (by omega) (by omega);have hadd2:iadd .u64 (c:Int) (lget x i+lget y i)=c+(lget x i+lget y i):=qmJ (by omega) (by omega);refine⟨((x,y,(p++[((c:Int)+(lget x i+lget y i)) % 4294967296])++j9 (N-(i+1)) 0,((((c:Int)+(lget x i+lget y i))/4294967296).toNat:Int),(N:Int),((i+1:Nat):Int),()),()),⟨_,_,rfl,by simp [hp],Lim.append hpl (Lim.cons (by omega) Lim.nil),by omega,?_⟩,fun g=>?_⟩
   · rw [qcs, hp, qgW, qgW, qr9 _ (by omega), jb];have k1:(((c:Int)+(lget x i+lget y i)) % 4294967296).toNat+4294967296*(((c:Int)+(lget x i+lget y i))/4294967296).toNat=c+(lget x i % 4294967296).toNat+(lget y i % 4294967296).toNat:=by omega
     have k2:4294967296 ^ i*((((c:Int)+(lget x i+lget y i)) % 4294967296).toNat+4294967296*(((c:Int)+(lget x i+lget y i))/4294967296).toNat)=4294967296 ^ i*(c+(lget x i % 4294967296).toNat+(lget y i % 4294967296).toNat):=by rw[k1]
     grind
   · have e4 : ((((c : Int) + (lget x i + lget y i)) / 4294967296).toNat : Int) = ((c : Int) + (lget x i + lget y i)) / 4294967296 := by omega
     have e5:(p++j9 (N-i) 0).length=N:=by simp [hp];omega
     simp only[qg4,qsh,bS0,hadd1,hadd2,qhl,qu2,e4,qaV (n:=i) (by omega),tN0,qtW _ hp hi,e5];simp [hi,e5,hp]) (by
   rintro v ⟨p,c,rfl,hp,hpl,hc,hs⟩;refine⟨_,⟨p,rfl,hp,hpl,?_⟩,fun g=>by simp [qg4]⟩;rw[jd (by omega),jd (by omega)] at hs;have k1:=qgx x;have k2:=qgx y;have k3:=jh (n:=4294967296) (by decide) hx;have k4:=jh (n:=4294967296) (by decide) hy;have k5:4294967296 ^ (x.length+1)=4294967296*4294967296 ^ x.length:=by rw[jb,jg]
   have k6:4294967296 ^ (y.length+1)=4294967296*4294967296 ^ y.length:=by rw[jb,jg]
   have:c=0:=by
     rcases jo c with h | h
     · exact h
     · have : c = 1 := by omega
       subst this;simp only[Nat.succ_eq_add_one] at k3 k4;omega
   subst this;simpa using hs)
 have g1:(8:Int)*(N:Int)<=281474976710656:=by omega
 have g2:(N:Int)<=9223372036854775807:=by omega
 simp [hlp,qke hpl (by omega),hpn,g1,g2]
theorem qlz {b:List Int} {k:Nat} (h:nn b<4294967296 ^ k):nn (b.take k)=nn b:=by
 by_cases hk:b.length<=k
 · rw[jd hk]
 have e:nn b=nn (b.take k)+4294967296 ^ k*nn (b.drop k):=by
   conv=>lhs;rw[<- jQ k b]
   rw[qcs,jk,jf (by omega)]
 rcases jo (nn (b.drop k)) with h0 | h0
 · rw[h0] at e;omega
 · have : 4294967296 ^ k * 1 <= 4294967296 ^ k * nn (b.drop k) := jc _ h0;omega
theorem qyf {a b:List Int} (ha:Lim a) (hb:Lim b) (hl:a.length<35184372088832) (hle:nn b<=nn a):qhg a b=some (qab (nn a-nn b)):=by
 obtain⟨r,⟨p,rfl,hp,hpl,hpn⟩,hlp⟩:=qjS (step:=qe0) (fun i v=>∃ (p:List Int) (d:Nat),v=((a,b,p++j9 (a.length-i) 0,(d:Int),(a.length:Int),(i:Int),()),())/\p.length=i/\Lim p/\d<=1/\nn p+nn (b.take i)=nn (a.take i)+4294967296 ^ i*d)
  (fun r=>∃ p,r=((p,()),())/\p.length=a.length/\Lim p/\nn p=nn a-nn b) a.length (v:=((a,b,j9 a.length 0,0,(a.length:Int),0,()),()))
  ⟨[], 0, by simp, rfl, Lim.nil, by omega, by simp⟩ (by omega) (by
   rintro i v hi ⟨p,d,rfl,hp,hpl,hd,hs⟩;have b1:=ha.at hi;have b2:=qlD hb i;have q1:iadd .u64 4294967296 a[i]=4294967296+a[i]:=qmJ (by omega) (by omega);have q2:isub .u64 (4294967296+a[i]) (lget b i)=4294967296+a[i]-lget b i:=qpt (by omega) (by omega);have q3:isub .u64 (4294967296+a[i]-lget b i) (d:Int)=4294967296+a[i]-lget b i-d:=qpt (by omega) (by omega);have q4:isub .u64 1 ((4294967296+a[i]-lget b i-d)/4294967296)=1-(4294967296+a[i]-lget b i-d)/4294967296:=qpt (by omega) (by omega);have e4:((1-(4294967296+a[i]-lget b i-d)/4294967296).toNat:Int)=1-(4294967296+a[i]-lget b i-d)/4294967296:=by omega
   refine⟨((a,b,(p++[(4294967296+a[i]-lget b i-d) % 4294967296])++j9 (a.length-(i+1)) 0,((1-(4294967296+a[i]-lget b i-d)/4294967296).toNat:Int),(a.length:Int),((i+1:Nat):Int),()),()),⟨_,_,rfl,by simp [hp],Lim.append hpl (Lim.cons (by omega) Lim.nil),by omega,?_⟩,fun g=>?_⟩
   · rw [qcs, hp, qgW, nnt hi, qr9 _ (by omega), jb];have k1:((4294967296+a[i]-lget b i-d) % 4294967296).toNat+(lget b i % 4294967296).toNat+d=(a[i] % 4294967296).toNat+4294967296*(1-(4294967296+a[i]-lget b i-d)/4294967296).toNat:=by omega
     have k2:4294967296 ^ i*(((4294967296+a[i]-lget b i-d) % 4294967296).toNat+(lget b i % 4294967296).toNat+d)=4294967296 ^ i*((a[i] % 4294967296).toNat+4294967296*(1-(4294967296+a[i]-lget b i-d)/4294967296).toNat):=by rw[k1]
     grind
   · have e5 : (p ++ j9 (a.length - i) 0).length = a.length := by simp [hp]; omega
     have e6:i<(p++j9 (a.length-i) (0:Int)).length:=by omega
     simp only[qe0,qsh,bS0,tN0,gE0 hi,gE0 e6,q1,q2,q3,q4,qhl,qu2,e4,qaV (n:=i) (by omega),qtW _ hp hi,e5];simp [hi,hp]) (by
   rintro v ⟨p,d,rfl,hp,hpl,hd,hs⟩;refine⟨_,⟨p,rfl,hp,hpl,?_⟩,fun g=>by simp [qe0]⟩;rw[qlz (js hle (qgx a)),jt] at hs;have k1:=qgx p;rw[hp] at k1;have:d=0:=by
     rcases jo d with h | h
     · exact h
     · have : d = 1 := by omega
       subst this;omega
   subst this;omega)
 have g1:(8:Int)*(a.length:Int)<=281474976710656:=by omega
 have g2:(a.length:Int)<=9223372036854775807:=by omega
 simp [qhg,hlp,qke hpl (by omega),hpn,g1,g2]
theorem qEd {a b:List Int} (ha:a.length<35184372088832) (hb:b.length<35184372088832):qmC a b=if nn a<nn b then some ([],3) else some (qab (nn a-nn b),0):=by
 have h1:=qaB a;simp only[qmC,qe9 ha,qe9 hb,bS0,qrj (show(qab (nn a)).length<4611686018427387904 by omega)];by_cases h:nn a<nn b
 · simp [ncmp,h]
 · have := qyf (qa4 (nn a)) (qa4 (nn b)) (by omega) (by rw [q9q, q9q]; omega);rw[q9q,q9q] at this;have e:¬ ncmp (nn a) (nn b)<0:=by unfold ncmp;rw[if_neg h];split<;>omega
   simp [h,e,this]
theorem qF6 {u:List Int} (hu:Lim u) {j:Nat} (hj:j<u.length) {y:Int} (hy:0<=y/\y<4294967296):nn (u.set j y)+4294967296 ^ j*u[j].toNat=nn u+4294967296 ^ j*y.toNat:=by
 have e1:u=u.take j++(u[j]::u.drop (j+1)):=by simp
 have e2:u.set j y=u.take j++(y::u.drop (j+1)):=kN.trans (by simp [hj]);have b:=hu.at hj;rw[e2];have:nn u=nn (u.take j++(u[j]::u.drop (j+1))):=by rw[<- e1]
 rw[this,qcs,qcs];simp only[jk,jf (jj hj),nn];have k1:(y % 4294967296).toNat=y.toNat:=by omega
 have k2:(u[j] % 4294967296).toNat=u[j].toNat:=by omega
 rw[k1,k2]
 grind
theorem qvV {x y c u:Int} (hx:0<=x/\x<4294967296) (hy:0<=y/\y<4294967296) (hc:0<=c/\c<4294967296) (hu:0<=u/\u<4294967296) :
  0<=x*y/\x*y<18446744073709551616/\u+x*y<18446744073709551616/\c+(u+x*y)<18446744073709551616:=by
 have h0:0<=x*y:=kd hx.1 hy.1;have h1:x*y<=4294967295*4294967295:=kO (by omega) (by omega) hy.1 (by decide);omega
theorem qCc {b a:List Int} {n i:Nat} {x:Int} {u:List Int} {Z:Nat} (hb:Lim b) (hx:0<=x/\x<4294967296) (hu:Lim u) (hul:u.length=i+b.length) (hsz:i+b.length<4611686018427387904) :
  ∃ (w:List Int) (c:Nat),lp qf2 K0 ((b,u++j9 Z 0,(i:Int),x,0,a,(n:Int),(i:Int),b,(b.length:Int),0,()),())=some ((b,w++j9 Z 0,(i:Int),(c:Int),a,(n:Int),(i:Int),()),()) /\
   w.length=i+b.length/\Lim w/\c<4294967296/\nn w+4294967296 ^ (i+b.length)*c=nn u+4294967296 ^ i*(x.toNat*nn b):=by
 obtain⟨r,⟨w,c,rfl,h1,h2,h3,h4⟩,hlp⟩:=qjS (step:=qf2)
  (fun k v=>∃ (w:List Int) (c:Nat),v=((b,w++j9 Z 0,(i:Int),x,(c:Int),a,(n:Int),(i:Int),b,(b.length:Int),(k:Int),()),())/\w.length=i+b.length/\Lim w/\c<4294967296/\nn w+4294967296 ^ (i+k)*c=nn u+4294967296 ^ i*(x.toNat*nn (b.take k)))
  (fun r=>∃ (w:List Int) (c:Nat),r=((b,w++j9 Z 0,(i:Int),(c:Int),a,(n:Int),(i:Int),()),())/\w.length=i+b.length/\Lim w/\c<4294967296/\nn w+4294967296 ^ (i+b.length)*c=nn u+4294967296 ^ i*(x.toNat*nn b))
  b.length (v:=((b,u++j9 Z 0,(i:Int),x,0,a,(n:Int),(i:Int),b,(b.length:Int),0,()),())) ⟨u,0,rfl,hul,hu,by omega,by simp⟩ (by omega) (by
   rintro k v hk ⟨w,c,rfl,hw,hwl,hc,hs⟩;have b1:=hb.at hk;have hik:i+k<w.length:=by omega
   have b2:=hwl.at hik;have b3:(0:Int)<=c/\(c:Int)<4294967296:=by omega
   obtain⟨m0,m1,m2,m3⟩:=qvV hx b1 b3 b2;have e4:((((c:Int)+(w[i+k]+x*b[k]))/4294967296).toNat:Int)=((c:Int)+(w[i+k]+x*b[k]))/4294967296:=by omega
   have q1:imul .u64 x b[k]=x*b[k]:=qBj m0 m1;have q2:iadd .u64 w[i+k] (x*b[k])=w[i+k]+x*b[k]:=qmJ (by omega) m2;have q3:iadd .u64 (c:Int) (w[i+k]+x*b[k])=c+(w[i+k]+x*b[k]):=qmJ (by omega) m3;have q4:iadd .i64 (i:Int) (k:Int)=((i+k:Nat):Int):=by rw[qfq]<;>omega
   refine⟨((b,w.set (i+k) (((c:Int)+(w[i+k]+x*b[k])) % 4294967296)++j9 Z 0,(i:Int),x,((((c:Int)+(w[i+k]+x*b[k]))/4294967296).toNat:Int),a,(n:Int),(i:Int),b,(b.length:Int),((k+1:Nat):Int),()),()),⟨_,_,rfl,by simpa using hw,hwl.set (by omega),by omega,?_⟩,fun g=>?_⟩
   · have hset := qF6 hwl hik (y := ((c : Int) + (w[i + k] + x * b[k])) % 4294967296) (by omega);rw[nnt hk,show i+(k+1)=i+k+1 from rfl,jb];have k1:(((c:Int)+(w[i+k]+x*b[k])) % 4294967296).toNat+4294967296*(((c:Int)+(w[i+k]+x*b[k]))/4294967296).toNat=c+(w[i+k].toNat+(x*b[k]).toNat):=by omega
     have k2:4294967296 ^ (i+k)*((((c:Int)+(w[i+k]+x*b[k])) % 4294967296).toNat+4294967296*(((c:Int)+(w[i+k]+x*b[k]))/4294967296).toNat)=4294967296 ^ (i+k)*(c+(w[i+k].toNat+(x*b[k]).toNat)):=by rw[k1]
     have k3:(x*b[k]).toNat=x.toNat*(b[k] % 4294967296).toNat:=by
      rw[kP hx.1 b1.1];congr 2;omega
     rw[k3] at k2;have k4:4294967296 ^ (i+k)=4294967296 ^ i*4294967296 ^ k:=je ..
     grind
   · have e5 : (w ++ j9 Z (0 : Int))[i + k]? = some w[i + k] := by rw [kQ hik]; exact gE0 hik
     have e6:((i+k:Nat):Int)<(((w++j9 Z (0:Int)).length:Nat):Int):=by simp;omega
     have e7:(0:Int)<=((i+k:Nat):Int):=by omega
     simp only[qf2,tN0,gE0 hk,bS0,q4,e5,q1,q2,q3,qhl,qu2,e4,qaV (n:=k) (by omega),kR _ _ hik,cnd2 e7 e6];simp [hk]) (by
   rintro v ⟨w,c,rfl,hw,hwl,hc,hs⟩;rw[jt] at hs;exact⟨_,⟨w,c,rfl,hw,hwl,hc,hs⟩,fun g=>by simp [qf2]⟩)
 exact⟨w,c,hlp,h1,h2,h3,h4⟩
theorem qCb {a b:List Int} (ha:a.length<17592186044416) (hb:b.length<17592186044416):qmE a b=some (qab (nn a*nn b)):=by
 have h1:=qaB a;have h2:=qaB b;have e1:=q9q (nn a);have e2:=q9q (nn b);have l1:=qa4 (nn a);have l2:=qa4 (nn b);simp only[qmE,qe9 (show a.length<35184372088832 by omega),qe9 (show b.length<35184372088832 by omega),bS0];generalize qab (nn a)=x at *;generalize qab (nn b)=y at *;rw[<- e1,<- e2];clear e1 e2;have hN:iadd .i64 (x.length:Int) (y.length:Int)=((x.length+y.length:Nat):Int):=by rw[qfq]<;>omega
 rw[hN];obtain⟨r,⟨p,rfl,hp,hpl,hpn⟩,hlp⟩:=qjS (step:=qg2) (fun i v=>∃ p:List Int,v=((y,p++j9 (x.length-i) 0,x,(x.length:Int),(i:Int),()),())/\p.length=i+y.length/\Lim p/\nn p=nn (x.take i)*nn y)
  (fun r=>∃ p,r=((p,()),())/\p.length=x.length+y.length/\Lim p/\nn p=nn x*nn y) x.length (v:=((y,j9 (x.length+y.length) 0,x,(x.length:Int),0,()),()))
  ⟨j9 y.length 0, by rw [ke, Nat.sub_zero, kf]; rfl, by simp, Lim.zeros _, by simp [qyd]⟩ (by omega) (by
   rintro i v hi ⟨p,rfl,hp,hpl,hs⟩;obtain⟨w,c,hin,hw,hwl,hc,hwn⟩:=qCc (a:=x) (n:=x.length) (i:=i) (x:=x[i]) (u:=p) (Z:=x.length-i) l2 (l1.at hi) hpl hp (by omega);have b1:=l1.at hi;refine⟨((y,(w++[(c:Int)])++j9 (x.length-(i+1)) 0,x,(x.length:Int),((i+1:Nat):Int),()),()),⟨_,rfl,by simp [hw];omega,Lim.append hwl (Lim.cons (by omega) Lim.nil),?_⟩,fun g=>?_⟩
   · rw [qcs, hw, qr9 _ (by omega), nnt hi, tN0, hwn, hs];have:(x[i] % 4294967296).toNat=x[i].toNat:=by omega
     rw[this]
     grind
   · have q4 : iadd .i64 (i : Int) (y.length : Int) = ((i + y.length : Nat) : Int) := by rw [qfq] <;> omega
     have e6:((i+y.length:Nat):Int)<(((w++j9 (x.length-i) (0:Int)).length:Nat):Int):=by simp;omega
     have e7:(0:Int)<=((i+y.length:Nat):Int):=by omega
     have e8:i+y.length<(w++j9 (x.length-i) (0:Int)).length:=by omega
     have e9:(w++j9 (x.length-i) (0:Int)).set (i+y.length) (c:Int)=(w++[(c:Int)])++j9 (x.length-(i+1)) 0:=by
      have:=qtW (p:=w) (i:=i+y.length) (n:=x.length+y.length) (z:=0) (c:Int) hw (by omega);rw[show x.length+y.length-(i+y.length)=x.length-i by omega,show x.length+y.length-(i+y.length+1)=x.length-(i+1) by omega] at this;exact this
     simp only[qg2,tN0,gE0 hi,bS0,hin,q4,qaV (n:=i) (by omega),cnd2 e7 e6,gE0 e8,e9];simp [hi]) (by
   rintro v ⟨p,rfl,hp,hpl,hs⟩;rw[jt] at hs;exact⟨((p,()),()),⟨p,rfl,hp,hpl,hs⟩,fun g=>by simp [qg2]⟩)
 have g1:(8:Int)*((x.length+y.length:Nat):Int)<=281474976710656:=by omega
 have g2:((x.length+y.length:Nat):Int)<=9223372036854775807:=by omega
 have g3:(0:Int)<=((x.length+y.length:Nat):Int):=by omega
 have g4:((8:Nat):Int)*((x.length+y.length:Nat):Int)<=281474976710656:=g1;simp only[tN0,hlp,bS0,qke hpl (by omega),hpn,decide_eq_true g2,decide_eq_true g3,decide_eq_true g4,jR,decide_true,cond_true]
theorem qw0 (a:List Int) {i:Nat} (h:i<a.length):nn (a.drop i)=(a[i] % 4294967296).toNat+4294967296*nn (a.drop (i+1)):=by
 rw[ju h,nn]
theorem qCv {a:List Int} {d:Nat} (ha:Lim a) (hl:a.length<35184372088832) (hd:0<d) (hd':d<4294967296):qmy a (d:Int)=some (qab (nn a/d),((nn a % d:Nat):Int)):=by
 obtain⟨r,⟨s,c,rfl,hs,hsl,hc,hsn⟩,hlp⟩:=qmI (step:=qeZ)
  (fun v=>∃ (j:Nat) (s:List Int) (c:Nat),j<=a.length/\v=((a,(d:Int),j9 j 0++s,(c:Int),(j:Int)-1,()),())/\j+s.length=a.length/\Lim s/\c<d/\nn (a.drop j)=d*nn s+c)
  (fun v=>(v.1.2.2.2.2.1+1).toNat)
  (fun r=>∃ (s:List Int) (c:Nat),r=((s,(c:Int),()),())/\s.length=a.length/\Lim s/\c<d/\nn a=d*nn s+c) (v:=((a,(d:Int),j9 a.length 0,0,(a.length:Int)-1,()),()))
  ⟨a.length, [], 0, jB _, by simp, by simp, Lim.nil, hd, by simp⟩ (by simp; omega) (by
   rintro v ⟨j,s,c,hj,rfl,hjl,hsl,hc,hn⟩;cases j with
   | zero =>
    refine .inl ⟨((s,(c:Int),()),()),⟨s,c,rfl,by omega,hsl,hc,by simpa using hn⟩,fun g=>by simp [qeZ]⟩
   | succ j =>
    have hja:j<a.length:=by omega
    have b:=ha.at hja;have e3:((j+1:Nat):Int)-1=(j:Int):=by omega
    rw[e3];obtain⟨x,hx⟩:=jq b.1;have hx':x<4294967296:=by omega
    have hq:(c*4294967296+x)/d<4294967296:=by
      rw[jW hd];have:(c+1)*4294967296<=d*4294967296:=jm _ hc;rw[jg 4294967296 d];omega
    have k1:=jv (c*4294967296+x) d;have k5:=jw (c*4294967296+x) hd;have q3:iquo .u64 ((c*4294967296+x:Nat):Int) (d:Int)=(((c*4294967296+x)/d:Nat):Int):=by rw[qD5 (by omega) (by omega) (by omega)];exact(jS _ _).symm
    have q4:irem ((c*4294967296+x:Nat):Int) (d:Int)=(((c*4294967296+x) % d:Nat):Int):=by rw[qog (by omega)];exact(jI _ _).symm
    generalize (c*4294967296+x)/d=q at *;generalize (c*4294967296+x) % d=rr at *;refine .inr ⟨((a,(d:Int),j9 j 0++(q:Int)::s,(rr:Int),(j:Int)-1,()),()),⟨j,_,_,by omega,rfl,by simp;omega,Lim.cons (by omega) hsl,k5,?_⟩,by simp,fun g=>?_⟩
    · rw [qw0 a hja, hn, nn];have k2:((q:Int) % 4294967296).toNat=q:=by omega
      have k3:(a[j] % 4294967296).toNat=x:=by omega
      rw[k2,k3]
      grind
    · have c1 : (c : Int) < 4294967296 := by omega
      have q1:shlV .u64 (c:Int) 32=(c:Int)*4294967296:=qAv (by omega) c1;have q2:ior .u64 ((c:Int)*4294967296) a[j]=((c*4294967296+x:Nat):Int):=by rw[qBf (by omega) c1 b.1 b.2,hx];omega
      have q5:isub .i64 (j:Int) 1=(j:Int)-1:=by rw[qci]<;>omega
      have e5:(j9 (j+1) (0:Int)++s).set j (q:Int)=j9 j 0++(q:Int)::s:=by
       rw[kS,jH,jC _ _ (by simp)];simp
      have e6:j<(j9 (j+1) (0:Int)++s).length:=by simp;omega
      have e7:((j:Nat):Int)<((j9 (j+1) (0:Int)++s).length:Int):=by omega
      have e8:(0:Int)<=((j:Nat):Int):=by omega
      have e9:¬ ((d:Int)=0):=by omega
      simp only[qeZ,tN0,gE0 hja,gE0 e6,bS0,q1,q2,q3,q4,q5,e5,cnd2 e8 e7,cnd e8,cnd' e9,ge_iff_le])
 have g1:(8:Int)*(a.length:Int)<=281474976710656:=by omega
 have g2:(a.length:Int)<=9223372036854775807:=by omega
 have g3:isub .i64 (a.length:Int) 1=(a.length:Int)-1:=by rw[qci]<;>omega
 have k1:nn a/d=nn s:=by rw[hsn,Nat.mul_add_div hd,jJ hc];simp
 have k2:nn a % d=c:=by rw[hsn,Nat.mul_add_mod,kg hc]
 rw[k1,k2];simp [qmy,g1,g2,g3,hlp,qke hsl (by omega)]
theorem qGi {a:List Int} (hl:a.length<35184372088832):qtq a=if nn a<18446744073709551616 then some (((nn a:Nat):Int),true) else some (0,false):=by
 simp only[qtq,qe9 hl,bS0];generalize nn a=n;by_cases h0:n=0
 · subst h0;simp [qbt]
 by_cases h1:n<4294967296
 · rw[qgI h0 h1];simp;omega
 by_cases h2:n<18446744073709551616
 · have e : qab n = [((n % 4294967296 : Nat) : Int), ((n / 4294967296 : Nat) : Int)] := by rw [qjT h0, qgI (n := n / 4294967296) (by omega) (by omega)]
   have q1:shlV .u64 ((n/4294967296:Nat):Int) 32=((n/4294967296:Nat):Int)*4294967296:=qAv (by omega) (by omega);have q2:ior .u64 (((n/4294967296:Nat):Int)*4294967296) ((n % 4294967296:Nat):Int)=(n:Int):=by rw[qBf]<;>omega
   rw[e];simp only[jD,ki,List.getElem?_cons_succ,jX,bS0,q1,q2];simp [h2]
 · have hlen : 2 < (qab n).length := qvX (by omega);have a1:¬ ((qab n).length:Int)=0:=by omega
   have a2:¬ ((qab n).length:Int)=1:=by omega
   have a3:¬ ((qab n).length:Int)=2:=by omega
   rw[cnd' a1,cnd' a2,cnd' a3,if_neg h2]
theorem qBy {a b:List Int} (hla:a.length<35184372088832) (hlb:b.length<35184372088832) (ha:nn a<18446744073709551616) (hb:nn b<18446744073709551616):qkT a b=some (qab (ja (nn a) (nn b))):=by
 obtain⟨r,rfl,hlp⟩:=qmI (step:=qd7) (fun v=>∃ x y:Nat,v=(((x:Int),(y:Int),()),())/\x<18446744073709551616/\y<18446744073709551616/\ja x y=ja (nn a) (nn b)) (fun v=>v.1.2.1.toNat)
  (fun r=>r=((((ja (nn a) (nn b):Nat):Int),()),())) (v:=((((nn a:Nat):Int),((nn b:Nat):Int),()),())) ⟨nn a,nn b,rfl,ha,hb,rfl⟩ (by simp;omega) (by
    rintro v ⟨x,y,rfl,hx,hy,hg⟩;by_cases h0:y=0
    · subst h0;refine .inl ⟨_,rfl,fun g=>?_⟩;rw[kj] at hg;simp [qd7,hg]
    · have hlt := jw x (jK h0);refine .inr ⟨(((y:Int),((x % y:Nat):Int),()),()),⟨y,x % y,rfl,hy,by omega,?_⟩,by show(((x % y:Nat):Int)).toNat<((y:Nat):Int).toNat;omega,fun g=>?_⟩
      · rw[<- hg,jx y,<- jY,jx]
      · have : irem (x : Int) (y : Int) = ((x % y : Nat) : Int) := by rw [qog (by omega)]; exact (jI _ _).symm
        have h1:¬ (y:Int)=0:=by omega
        simp [qd7,this,h0])
 have hgl:ja (nn a) (nn b)<18446744073709551616:=by
  by_cases h0:nn b=0
  · rw[h0,kj];exact ha
  · exact js (kT _ (jK h0)) hb
 simp [qkT,qGi hla,qGi hlb,ha,hb,hlp,qxJ hgl]
theorem qAL (s:Nat):(2:Int) ^ s=((2 ^ s:Nat):Int):=by rw[Int.natCast_pow];rfl
theorem qwj (x s:Nat):(x:Int)/2 ^ s=((x/2 ^ s:Nat):Int):=by rw[qAL,<- jS]
theorem qCn (k:Nat):4294967296 ^ k=2 ^ (32*k):=by rw[Nat.pow_mul]
theorem qrc {a:List Int} (ha:Lim a) (hl:a.length<35184372088832) (h0:nn a≠0):∃ z m:Nat,qcN a=some (z:Int)/\nn a=2 ^ z*m/\m % 2=1/\z<32*a.length:=by
 obtain⟨r,⟨z,m,rfl,h1,h2,h3⟩,hlp⟩:=qmI (step:=qeY) (fun v=>∃ k:Nat,k<=a.length/\v=((((32*k:Nat):Int),a,(a.length:Int),(k:Int),()),())/\nn (a.take k)=0) (fun v=>(a.length-v.1.2.2.2.1).toNat)
  (fun r => ∃ z m : Nat, r = .inr (((z : Int), ()), ()) /\ nn a = 2 ^ z * m /\ m % 2 = 1 /\ z < 32 * a.length) (v := ((0, a, (a.length : Int), 0, ()), ())) ⟨0, by omega, rfl, rfl⟩ (by simp; omega) (by
   rintro v ⟨k,hk,rfl,hz⟩;by_cases hka:k<a.length
   · have b := ha.at hka;by_cases hx:a[k]=0
     · refine .inr ⟨((((32 * (k + 1) : Nat) : Int), a, (a.length : Int), ((k + 1 : Nat) : Int), ()), ()), ⟨k + 1, by omega, rfl, ?_⟩, by simp; omega, fun g => ?_⟩
       · rw[nnt hka,hz,hx];simp
       · have q1 : iadd .i64 ((32 * k : Nat) : Int) 32 = ((32 * (k + 1) : Nat) : Int) := by rw [qfq] <;> omega
         have e1:(k:Int)<(a.length:Int):=by omega
         have e2:(0:Int)<=(k:Int):=by omega
         simp only[qeY,cnd e1,cnd e2,tN0,gE0 hka,bS0,hx,q1,qaV (n:=k) (by omega)];simp
     · obtain ⟨x, hx2⟩ := jq b.1;obtain⟨m,h1,h2,h3⟩:=qtS 64 x (by omega) (by omega);have h4:tzN 64 x<32:=by
         rcases jn (tzN 64 x) 32 with h | h
         · exact h
         · have : 2 ^ 32 <= 2 ^ tzN 64 x := jh (by decide) h;have hm:0<m:=by omega
           have:2 ^ tzN 64 x*1<=2 ^ tzN 64 x*m:=jc _ hm;omega
       refine .inl ⟨_,⟨32*k+tzN 64 x,m+2 ^ (32-tzN 64 x)*nn (a.drop (k+1)),rfl,?_,?_,by omega⟩,fun g=>?_⟩
       · rw [qud hka, hz, qCn];have k3:(a[k] % 4294967296).toNat=x:=by omega
         rw[k3,je];have k4:2 ^ tzN 64 x*2 ^ (32-tzN 64 x)=4294967296:=by rw[<- je,show tzN 64 x+(32-tzN 64 x)=32 by omega]
         generalize tzN 64 x=t at *;have k5:2 ^ t*(m+2 ^ (32-t)*nn (a.drop (k+1)))=x+4294967296*nn (a.drop (k+1)):=by
           rw[jy,<- h1,<- jp,k4]
         rw[jp,k5];omega
       · have : 2 ^ (32 - tzN 64 x) = 2 * 2 ^ (31 - tzN 64 x) := by rw [show 32 - tzN 64 x = (31 - tzN 64 x) + 1 by omega, jb, jg]
         rw[this,jp];omega
       · have e1 : (k : Int) < (a.length : Int) := by omega
         have e2:(0:Int)<=(k:Int):=by omega
         have q1:imul .i64 32 (k:Int)=((32*k:Nat):Int):=by rw[qym]<;>omega
         have q2:iadd .i64 ((32*k:Nat):Int) ((tzN 64 x:Nat):Int)=((32*k+tzN 64 x:Nat):Int):=by rw[qfq]<;>omega
         have q3:tz64 a[k]=some ((tzN 64 x:Nat):Int):=by
           rw[hx2,tz64,cnd2 (by omega) (by omega)];rfl
         simp only[qeY,cnd e1,cnd e2,tN0,gE0 hka,bS0,q1,q2,q3];simp [hx]
   · exfalso;rw[jd (by omega)] at hz;exact h0 hz)
 exact⟨z,m,by simp [qcN,hlp],h1,h2,h3⟩
def shrL (s:Nat):List Int->List Int
 | []=>[]
 | x::r=>((((((r[0]?).getD 0)*4294967296+x)/2 ^ s) % 4294967296:Int))::shrL s r
theorem qxZ (s:Nat):∀ l:List Int,(shrL s l).length=l.length
 | []=>rfl
 | _::r=>by simp [shrL,qxZ s r]
theorem qx0 (s:Nat):∀ (l:List Int) (i:Nat) (h:i<(shrL s l).length),(shrL s l)[i]=((lget l (i+1))*4294967296+lget l i)/2 ^ s % 4294967296
 | [],i,h=>by simp [shrL] at h
 | x::r,0,h=>by simp [shrL,lget]
 | x::r,i+1,h=>by
  simp only[shrL,List.getElem_cons_succ];rw[qx0 s r i];simp [lget]
theorem qxY (s:Nat):∀ l:List Int,Lim (shrL s l)
 | []=>Lim.nil
 | x::r=>Lim.cons (by omega) (qxY s r)
theorem qEP {r:List Int} (hr:Lim r):nn r % 4294967296=((r[0]?).getD 0).toNat:=by
 cases r with
 | nil=>rfl
 | cons x r=>have:=hr x kn;simp only[nn,jX,Option.getD_some];omega
theorem qEt {X M P C B:Nat} (hB:P*C=B) (hP:0<P) (hX:X<B):(X+B*M)/P=(M % B*B+X)/P % B+B*(M/P):=by
 have hB0:0<B:=by omega
 have f1:(X+B*M)/P % B=(M % B*B+X)/P % B:=by
  have h1:B*M=B*(M % B)+B*(B*(M/B)):=by rw[<- jy,Nat.mod_add_div]
  have h2:B*(B*(M/B))=P*(B*(C*(M/B))):=by
   have:B*(B*(M/B))=(P*C)*(B*(M/B)):=by rw[hB]
   rw[this];grind
  have:X+B*M=(M % B*B+X)+P*(B*(C*(M/B))):=by rw[h1,h2,jg B (M % B)];omega
  rw[this,jZ _ _ hP,kU]
 have f2:(X+B*M)/P/B=M/P:=by
  rw[ko,jg P B,<- ko,jZ _ _ hB0,jJ hX,kp]
 have:=jv ((X+B*M)/P) B;rw[f1,f2] at this;omega
theorem qA0 (s:Nat) (hs:s<=32):∀ l:List Int,Lim l->nn (shrL s l)=nn l/2 ^ s
 | [],_=>by simp [shrL]
 | x::r,h=>by
  have hx:=h x kn;have hr:Lim r:=fun y hy=>h y (kV _ hy)
  have hh:=qEP hr;have hr0:=qlD hr 0;unfold lget at hr0;obtain⟨X,rfl⟩:=jq hx.1;obtain⟨Y,hY⟩:=jq hr0.1;have ih:=qA0 s hs r hr;simp only[shrL,nn,ih,hY];rw[hY] at hh;simp only[tN0] at hh;have e1:(((Y:Int)*4294967296+(X:Int))/2 ^ s % 4294967296 % 4294967296).toNat=(Y*4294967296+X)/2 ^ s % 4294967296:=by
   have h1:((Y:Int)*4294967296+(X:Int))=((Y*4294967296+X:Nat):Int):=by omega
   rw[h1,qwj];generalize (Y*4294967296+X)/2 ^ s=Q;omega
  have e2:((X:Int) % 4294967296).toNat=X:=by omega
  rw[e1,e2];have p2:(2:Nat) ^ s*2 ^ (32-s)=4294967296:=by rw[<- je,show s+(32-s)=32 by omega]
  have key:=qEt (X:=X) (M:=nn r) p2 (ji (by decide)) (by omega);rw[key,hh]
theorem qu1 {a:List Int} {n:Nat} (ha:Lim a) (hl:a.length<35184372088832) (hn:n<4611686018427387904):qe5 a (n:Int)=some (qab (nn a/2 ^ n)):=by
 have q1:iquo .i64 (n:Int) 32=((n/32:Nat):Int):=by rw[qq4 (by omega) (by omega) (by omega)];omega
 have q2:irem (n:Int) 32=((n % 32:Nat):Int):=by rw[qog (by omega)];omega
 unfold qe5;rw[q1,q2];have hpow:2 ^ n=4294967296 ^ (n/32)*2 ^ (n % 32):=by rw[qCn,<- je];congr 1;omega
 by_cases hw:a.length<=n/32
 · have c1 : ((n / 32 : Nat) : Int) >= (a.length : Int) := by omega
   rw[cnd c1];have:=qgx a;have h2:=jh (n:=4294967296) (by decide) hw;have h3:4294967296 ^ (n/32)*1<=4294967296 ^ (n/32)*2 ^ (n % 32):=jc _ (ji (by decide));rw[hpow,jJ (by omega),qbt]
 · have c1 : ¬ ((n / 32 : Nat) : Int) >= (a.length : Int) := by omega
   rw[cnd' c1];have q3:isub .i64 (a.length:Int) ((n/32:Nat):Int)=((a.length-n/32:Nat):Int):=by rw[qci]<;>omega
   rw[q3];have hs:n % 32<=32:=by omega
   have hX:(shrL (n % 32) (a.drop (n/32))).length=a.length-n/32:=by rw[qxZ];simp
   have key:=qfM (step:=qfZ) (fun i=>((a,((n/32:Nat):Int),((n % 32:Nat):Int),fill (shrL (n % 32) (a.drop (n/32))) 0 i,((a.length-n/32:Nat):Int),(i:Int),()),())) (a.length-n/32) (r:=((shrL (n % 32) (a.drop (n/32)),()),())) (by omega) (by
    intro g i hi;have hi2:i<(shrL (n % 32) (a.drop (n/32))).length:=by omega
    have e3:=qyu (z:=0) hi2;have e4:(fill (shrL (n % 32) (a.drop (n/32))) 0 i).length=a.length-n/32:=by rw[qyv _ _ _ (by omega),hX]
    have hi3:i+n/32<a.length:=by omega
    have r1:iadd .i64 (i:Int) ((n/32:Nat):Int)=((i+n/32:Nat):Int):=by rw[qfq]<;>omega
    have r2:iadd .i64 ((i+n/32:Nat):Int) 1=((i+n/32+1:Nat):Int):=by rw[qfq]<;>omega
    have b1:=ha.at hi3;have b2:=qlD ha (i+n/32+1);obtain⟨X,hX1⟩:=jq b1.1;obtain⟨Y,hY1⟩:=jq b2.1;have r3:shlV .u64 (lget a (i+n/32+1)) 32=lget a (i+n/32+1)*4294967296:=qAv b2.1 b2.2;have r4:ior .u64 (lget a (i+n/32+1)*4294967296) a[i+n/32]=((Y*4294967296+X:Nat):Int):=by rw[qBf b2.1 b2.2 b1.1 b1.2,hX1,hY1];omega
    have r5:shrV .u64 ((Y*4294967296+X:Nat):Int) ((n % 32:Nat):Int)=(((Y*4294967296+X)/2 ^ (n % 32):Nat):Int):=qAt _ _ (by omega);have r6:(shrL (n % 32) (a.drop (n/32)))[i]=(((Y*4294967296+X)/2 ^ (n % 32):Nat):Int) % 4294967296:=by
     rw[qx0];have g1:lget (a.drop (n/32)) (i+1)=(Y:Int):=by rw[<- hY1];simp only[lget,k7];congr 2;omega
     have g2:lget (a.drop (n/32)) i=(X:Int):=by rw[<- hX1,<- qzA hi3];simp only[lget,k7];congr 2;omega
     have h1:((Y:Int)*4294967296+(X:Int))=((Y*4294967296+X:Nat):Int):=by omega
     rw[g1,g2,h1,qwj]
    rw[r6] at e3;have c2:(i:Int)<((a.length-n/32:Nat):Int):=by omega
    have c3:(0:Int)<=((i+n/32:Nat):Int):=by omega
    have c4:¬ ((n % 32:Nat):Int)<0:=by omega
    have c5:(0:Int)<=(i:Int):=by omega
    have c6:(i:Int)<((fill (shrL (n % 32) (a.drop (n/32))) 0 i).length:Int):=by omega
    have c7:i<(fill (shrL (n % 32) (a.drop (n/32))) 0 i).length:=by omega
    simp only[qfZ,cnd c2,r1,r2,qsh,bS0,cnd c3,tN0,gE0 hi3,cnd' c4,cnd2 c5 c6,gE0 c7,r3,r4,r5,qhl,e3,qaV (n:=i) (by omega)];simp) (by
    intro g;have:=qyw (shrL (n % 32) (a.drop (n/32))) (0:Int);rw[hX] at this;simp [qfZ,this])
   rw[qv8,hX] at key;have hv:nn (shrL (n % 32) (a.drop (n/32)))=nn a/2 ^ n:=by
    rw[qA0 _ hs _ (ha.drop _),hpow,<- ko];congr 1;have e:nn a=nn (a.take (n/32))+4294967296 ^ (n/32)*nn (a.drop (n/32)):=by
     conv=>lhs;rw[<- jQ (n/32) a]
     rw[qcs,jk,jf (by omega)]
    have h1:=qgx (a.take (n/32));rw[jk,jf (by omega)] at h1;rw[e,jZ _ _ (ji (by decide)),jJ h1,kp]
   have g2:((a.length-n/32:Nat):Int)<=9223372036854775807:=by omega
   have g3:(0:Int)<=((a.length-n/32:Nat):Int):=by omega
   have g4:((8:Nat):Int)*((a.length-n/32:Nat):Int)<=281474976710656:=by omega
   have key':lp qfZ K0 ((a,((n/32:Nat):Int),((n % 32:Nat):Int),j9 (a.length-n/32) 0,((j9 (a.length-n/32) (0:Int)).length:Int),0,()),())=some ((shrL (n % 32) (a.drop (n/32)),()),()):=by simpa using key
   simp only[tN0,key',bS0,qke (qxY _ _) (show(shrL (n % 32) (a.drop (n/32))).length<4611686018427387904 by omega),hv,decide_eq_true g2,decide_eq_true g3,decide_eq_true g4,jR,decide_true,cond_true]
theorem qGe {x y s:Nat} (hy:y<2 ^ s) (h:x*2 ^ s+y<18446744073709551616):ior .u64 (y:Int) ((x*2 ^ s:Nat):Int)=((x*2 ^ s+y:Nat):Int):=by
 rw[<- qD6 hy h,qxi (by omega) (by omega),qxi (by omega) (by omega),Nat.or_comm]
theorem qCw {x c P C B:Nat} (hB:C*P=B) (hc:c<P) (hx:x<B) (hB64:B*P<18446744073709551616) (hP:0<P) (hC:0<C) :
   x*P % B=(x % C)*P/\(x % C)*P+c<B/\x*P/B<P/\x*P<18446744073709551616:=by
 refine⟨?_,?_,?_,?_⟩
 · rw[<- hB,kX]
 · have : x % C + 1 <= C := jw _ hC;have:=jm P this;rw[hB,jr] at this;omega
 · rw [jW (by omega), jg P B];exact kq hx hP
 · exact jV (kq hx hP) hB64
theorem qx1 {a:List Int} {n:Nat} (ha:Lim a) (hl:a.length<8796093022208) (hn:n<281474976710656):qjO a (n:Int)=some (qab (nn a*2 ^ n)):=by
 have q1:iquo .i64 (n:Int) 32=((n/32:Nat):Int):=by rw[qq4 (by omega) (by omega) (by omega)];omega
 have q2:irem (n:Int) 32=((n % 32:Nat):Int):=by rw[qog (by omega)];omega
 unfold qjO;rw[q1,q2];have hpow:2 ^ n=4294967296 ^ (n/32)*2 ^ (n % 32):=by rw[qCn,<- je];congr 1;omega
 have hw:n/32<8796093022208:=by omega
 have hs:n % 32<32:=by omega
 rw[hpow];generalize n/32=w at *;generalize n % 32=s at *;clear hpow q1 q2 hn;have q3:iadd .i64 (iadd .i64 (a.length:Int) (w:Int)) 1=((a.length+w+1:Nat):Int):=by
  have:iadd .i64 (a.length:Int) (w:Int)=((a.length+w:Nat):Int):=by rw[qfq]<;>omega
  rw[this,qaV (by omega)];omega
 rw[q3];have hB:2 ^ (32-s)*2 ^ s=4294967296:=by rw[<- je,show 32-s+s=32 by omega]
 have hP:0<2 ^ s:=ji (by decide);have hC:0<2 ^ (32-s):=ji (by decide);have hB64:4294967296*2 ^ s<18446744073709551616:=by
  have:2 ^ s<=2 ^ 31:=jh (by decide) (by omega);generalize 2 ^ s=P at *;omega
 have hs64:s<=64:=by omega
 have key0:∀ P,P=2 ^ s->∃ r,(∃ (q:List Int) (c:Nat),r=(((j9 w 0++q)++[(c:Int)],()),())/\q.length=a.length/\Lim q/\c<P/\nn q+4294967296 ^ a.length*c=nn a*P) /\
    lp qf0 K0 (((w:Int),(s:Int),j9 (a.length+w+1) 0,a,(a.length:Int),0,()),())=some r:=by
  intro P hPe;refine qjS (step:=qf0) (fun i v=>∃ (q:List Int) (c:Nat),v=(((w:Int),(s:Int),(j9 w 0++q)++((c:Int)::j9 (a.length-i) 0),a,(a.length:Int),(i:Int),()),())/\q.length=i/\Lim q/\c<P/\nn q+4294967296 ^ i*c=nn (a.take i)*P)
    (fun r=>∃ (q:List Int) (c:Nat),r=(((j9 w 0++q)++[(c:Int)],()),())/\q.length=a.length/\Lim q/\c<P/\nn q+4294967296 ^ a.length*c=nn a*P) a.length
    ⟨[],0,?_,rfl,Lim.nil,by omega,by simp⟩ (by omega) ?_ ?_
  · have : j9 (a.length + w + 1) (0 : Int) = (j9 w 0 ++ []) ++ ((0 : Nat) : Int) :: j9 (a.length - 0) 0 := by
      rw[kY,show a.length+w+1=w+(a.length+1) by omega,<- ke,jN];rfl
    rw[this];rfl
  · rintro i v hi ⟨q, c, rfl, hq, hql, hc, hn⟩;have b:=ha.at hi;obtain⟨x,hx⟩:=jq b.1;have hx':x<4294967296:=by omega
    subst hPe;obtain⟨s1,s2,s3,s4⟩:=qCw hB hc hx' hB64 hP hC;have r1:shlV .u64 a[i] (s:Int)=((x*2 ^ s:Nat):Int):=by rw[hx];exact qAu hs64 s4
    have r2:iand .u64 ((x*2 ^ s:Nat):Int) 4294967295=((x % 2 ^ (32-s)*2 ^ s:Nat):Int):=by rw[qhl,<- s1];exact(jI _ 4294967296).symm
    have r3:ior .u64 (c:Int) ((x % 2 ^ (32-s)*2 ^ s:Nat):Int)=((x % 2 ^ (32-s)*2 ^ s+c:Nat):Int):=qGe hc (jV s2 (by decide));have r4:shrV .u64 ((x*2 ^ s:Nat):Int) 32=((x*2 ^ s/4294967296:Nat):Int):=by rw[qu2];exact(jS _ 4294967296).symm
    have r5:iadd .i64 (i:Int) (w:Int)=((i+w:Nat):Int):=by rw[qfq]<;>omega
    have r6:iadd .i64 ((i+w:Nat):Int) 1=((i+w+1:Nat):Int):=by rw[qfq]<;>omega
    have k3:(a[i] % 4294967296).toNat=x:=by omega
    have hnt:=nnt hi;rw[k3] at hnt;have hk2:nn q+4294967296 ^ i*(x % 2 ^ (32-s)*2 ^ s+c)+4294967296 ^ (i+1)*(x*2 ^ s/4294967296)=nn (a.take (i+1))*2 ^ s:=by
      rw[hnt,jb,<- s1,jr,<- hn];have:=jv (x*2 ^ s) 4294967296;generalize x*2 ^ s/4294967296=Q at *;generalize x*2 ^ s % 4294967296=R at *;rw[jp _ x,<- this]
      grind
    generalize hv:x % 2 ^ (32-s)*2 ^ s+c=vv at *;generalize hcc:x*2 ^ s/4294967296=cc at *;have l1:(j9 w (0:Int)++q).length=i+w:=by simp [hq];omega
    have l2:(j9 w (0:Int)++q++[(vv:Int)]).length=i+w+1:=by simp [hq];omega
    have z:j9 (a.length-i) (0:Int)=0::j9 (a.length-(i+1)) 0:=by rw[<- jN];congr 1;omega
    have t0:((j9 w (0:Int)++q)++((c:Int)::j9 (a.length-i) 0))[i+w]?=some (c:Int):=by rw[k8 (by omega),l1];simp
    have t1:((j9 w (0:Int)++q)++((c:Int)::j9 (a.length-i) 0)).set (i+w) (vv:Int)=((j9 w (0:Int)++q)++[(vv:Int)])++(0::j9 (a.length-(i+1)) 0):=by
      rw[jC _ _ (by omega),l1,z];simp
    have t2:(((j9 w (0:Int)++q)++[(vv:Int)])++(0::j9 (a.length-(i+1)) 0)).set (i+w+1) (cc:Int)=(j9 w (0:Int)++(q++[(vv:Int)]))++((cc:Int)::j9 (a.length-(i+1)) 0):=by
      rw[jC _ _ (by omega),l2];simp
    have t3:(((j9 w (0:Int)++q)++[(vv:Int)])++(0::j9 (a.length-(i+1)) 0))[i+w+1]?=some 0:=by rw[k8 (by omega),l2];simp
    have c1:(i:Int)<(a.length:Int):=by omega
    have c2:(0:Int)<=(i:Int):=by omega
    have c3:¬ (s:Int)<0:=by omega
    have c4:(0:Int)<=((i+w:Nat):Int):=by omega
    have c5:((i+w:Nat):Int)<(((j9 w (0:Int)++q)++((c:Int)::j9 (a.length-i) 0)).length:Int):=by rw[jL,l1,jD];omega
    have c6:(0:Int)<=((i+w+1:Nat):Int):=by omega
    have c7:((i+w+1:Nat):Int)<((((j9 w (0:Int)++q)++[(vv:Int)])++(0::j9 (a.length-(i+1)) 0)).length:Int):=by rw[jL,l2,jD];omega
    refine⟨(((w:Int),(s:Int),(j9 w 0++(q++[(vv:Int)]))++((cc:Int)::j9 (a.length-(i+1)) 0),a,(a.length:Int),((i+1:Nat):Int),()),()),⟨_,cc,rfl,by simp [hq],Lim.append hql (Lim.cons (by omega) Lim.nil),s3,?_⟩,fun g=>?_⟩
    · rw [qcs, hq, qr9 _ (by omega), tN0];exact hk2
    · simp only [qf0, cnd c1, cnd c2, tN0, gE0 hi, bS0, cnd' c3, r5, cnd2 c4 c5, t0, r6, r1, r2, r3, r4, t1, cnd2 c6 c7, t3, t2, qaV (n := i) (by omega)];rfl
  · rintro v ⟨q, c, rfl, hq, hql, hc, hn⟩;rw[jt] at hn;exact⟨_,⟨q,c,rfl,hq,hql,hc,hn⟩,fun g=>by simp [qf0]⟩
 obtain⟨r,⟨q,c,rfl,hq,hql,hc,hnq⟩,hlp⟩:=key0 _ rfl;have hc32:c<4294967296:=by
  have:2 ^ s<=2 ^ 32:=jh (by decide) (by omega);generalize 2 ^ s=P at *;omega
 have hval:nn ((j9 w (0:Int)++q)++[(c:Int)])=nn a*(4294967296 ^ w*2 ^ s):=by
  rw[jH,qcs,qcs,qyd,kZ,hq,qr9 _ (by omega),tN0,hnq];generalize 2 ^ s=P at *
  grind
 have g2:((a.length+w+1:Nat):Int)<=9223372036854775807:=by omega
 have g3:(0:Int)<=((a.length+w+1:Nat):Int):=by omega
 have g4:((8:Nat):Int)*((a.length+w+1:Nat):Int)<=281474976710656:=by omega
 have hlim:Lim ((j9 w (0:Int)++q)++[(c:Int)]):=Lim.append (Lim.append (Lim.zeros _) hql) (Lim.cons (by omega) Lim.nil);simp only[tN0,hlp,bS0,qke hlim (show((j9 w (0:Int)++q)++[(c:Int)]).length<4611686018427387904 by simp [hq];omega),hval,decide_eq_true g2,decide_eq_true g3,decide_eq_true g4,jR,decide_true,cond_true]
theorem qny {α:Type} {a b:List α} (h:b.length=a.length):over a 0 b=b:=by simp [over,h]
theorem qDX {α:Type} {p u:List α} {i:Nat} (x:α) (hp:p.length=i) (hi:i<u.length):(p++u.drop i).set i x=(p++[x])++u.drop (i+1):=by
 subst hp;rw[jC _ _ (by omega),jO,ju hi,kL,jH];rfl
theorem qEq {u v:List Int} {t:Nat} (hu:Lim u) (hv:Lim v) (hl:u.length<35184372088832) (hlv:v.length<u.length) (ht:t<4294967296) :
  ∃ (w:List Int) (d:Nat),qpj u v (t:Int)=some (w,decide (d=1))/\w.length=u.length/\Lim w/\d<=1/\nn w+t*nn v=nn u+4294967296 ^ u.length*d:=by
 obtain⟨r,⟨p,d,rfl,hp,hpl,hd,hpn⟩,hlp⟩:=qjS (step:=qfK) (fun i s=>∃ (p:List Int) (c d:Nat),s=((p++u.drop i,v,(t:Int),(c:Int),(d:Int),(u.length:Int),(i:Int),()),())/\p.length=i/\Lim p/\c<4294967296/\d<=1/\nn p+t*nn (v.take i)=nn (u.take i)+4294967296 ^ i*(d+c)/\(v.length<i->c=0))
  (fun r=>∃ (p:List Int) (d:Nat),r=((p,(d:Int),()),())/\p.length=u.length/\Lim p/\d<=1/\nn p+t*nn v=nn u+4294967296 ^ u.length*d) u.length (v:=((u,v,(t:Int),0,0,(u.length:Int),0,()),()))
  ⟨[], 0, 0, by simp, rfl, Lim.nil, by omega, by omega, by simp, by omega⟩ (by omega) (by
   rintro i s hi ⟨p,c,d,rfl,hp,hpl,hc,hd,hs,h0⟩;have b1:=hu.at hi;have b2:=qlD hv i;obtain⟨y,hy⟩:=jq b2.1;obtain⟨x,hx⟩:=jq b1.1;have bt:(0:Int)<=(t:Int)/\(t:Int)<4294967296:=by omega
   obtain⟨m0,m1,m2,m3⟩:=qvV bt b2 (show(0:Int)<=(c:Int)/\(c:Int)<4294967296 by omega) (show(0:Int)<=0/\(0:Int)<4294967296 by omega);have hm:(t:Int)*lget v i=((t*y:Nat):Int):=by rw[hy,kr]
   have q1:imul .u64 (t:Int) (lget v i)=((t*y:Nat):Int):=by rw[qBj m0 m1,hm]
   rw[hm] at m0 m1 m2 m3;have hty:t*y<=4294967295*4294967295:=kt (by omega) (by omega);have q2:iadd .u64 (c:Int) ((t*y:Nat):Int)=((c+t*y:Nat):Int):=by rw[qmJ (by omega) (by omega)];omega
   have q3:iadd .u64 4294967296 u[i]=4294967296+u[i]:=qmJ (by omega) (by omega);have hlow:iand .u64 ((c+t*y:Nat):Int) 4294967295=(((c+t*y) % 4294967296:Nat):Int):=by rw[qhl];exact(jI _ 4294967296).symm
   have hhi:shrV .u64 ((c+t*y:Nat):Int) 32=(((c+t*y)/4294967296:Nat):Int):=by rw[qu2];exact(jS _ 4294967296).symm
   have hnt:=qgW v i;have hdm:=jv (c+t*y) 4294967296;have hlt:=jw (c+t*y) (show 0<4294967296 by decide);have hcc:(c+t*y)/4294967296<4294967296:=by omega
   have hc0:v.length<i+1->(c+t*y)/4294967296=0:=by
     intro h;have:y=0:=by
      have:lget v i=0:=by simp only[lget];rw[jT (by omega)];rfl
      omega
     subst this;omega
   generalize hL:(c+t*y) % 4294967296=lo at *;generalize hH:(c+t*y)/4294967296=hg at *;have q4:isub .u64 (4294967296+u[i]) (lo:Int)=4294967296+u[i]-lo:=qpt (by omega) (by omega);have q5:isub .u64 (4294967296+u[i]-(lo:Int)) (d:Int)=((4294967296+x-lo-d:Nat):Int):=by rw[qpt (by omega) (by omega)];omega
   have q6:iand .u64 ((4294967296+x-lo-d:Nat):Int) 4294967295=(((4294967296+x-lo-d) % 4294967296:Nat):Int):=by rw[qhl];exact(jI _ 4294967296).symm
   have q7:isub .u64 1 (shrV .u64 ((4294967296+x-lo-d:Nat):Int) 32)=((1-(4294967296+x-lo-d)/4294967296:Nat):Int):=by
     rw[qu2,qpt (by omega) (by omega)];omega
   have hdd:(4294967296+x-lo-d) % 4294967296+lo+d=x+4294967296*(1-(4294967296+x-lo-d)/4294967296):=by omega
   have hd1:1-(4294967296+x-lo-d)/4294967296<=1:=by omega
   have ho:(4294967296+x-lo-d) % 4294967296<4294967296:=by omega
   generalize (4294967296+x-lo-d) % 4294967296=o at *;generalize 1-(4294967296+x-lo-d)/4294967296=d' at *;refine⟨(((p++[(o:Int)])++u.drop (i+1),v,(t:Int),(hg:Int),(d':Int),(u.length:Int),((i+1:Nat):Int),()),()),⟨_,_,_,rfl,by simp [hp],Lim.append hpl (Lim.cons (by omega) Lim.nil),hcc,hd1,?_,hc0⟩,fun g=>?_⟩
   · rw [qcs, hp, qr9 _ (by omega), qgW v i, nnt hi, jb, tN0];have k1:(lget v i % 4294967296).toNat=y:=by omega
     have k2:(u[i] % 4294967296).toNat=x:=by omega
     rw[k1,k2];have k3:4294967296 ^ i*(o+lo+d)=4294967296 ^ i*(x+4294967296*d'):=by rw[hdd]
     have k4:4294967296 ^ i*(4294967296*hg+lo)=4294967296 ^ i*(c+t*y):=by rw[hdm]
     grind
   · have e5 : (p ++ u.drop i).length = u.length := by simp [hp]; omega
     have e6:(p++u.drop i)[i]?=some u[i]:=by rw[k8 (by omega),hp,jO,k7,kx];exact gE0 hi
     have c1:(i:Int)<(u.length:Int):=by omega
     have c2:(0:Int)<=(i:Int):=by omega
     have c3:(i:Int)<((p++u.drop i).length:Int):=by omega
     simp only[qfK,cnd c1,qsh,bS0,cnd2 c2 c3,tN0,e6,q1,q2,hlow,q3,q4,q5,q6,q7,hhi,qDX _ hp hi,qaV (n:=i) (by omega)];rfl) (by
   rintro s ⟨p,c,d,rfl,hp,hpl,hc,hd,hs,h0⟩;have:=h0 hlv;subst this;rw[jd (jj hlv),jt] at hs;exact⟨((p,(d:Int),()),()),⟨p,d,rfl,hp,hpl,hd,by simpa using hs⟩,fun g=>by simp [qfK]⟩)
 refine⟨p,d,?_,hp,hpl,hd,hpn⟩;have:decide ((d:Int)=1)=decide (d=1):=by by_cases h:d=1<;>simp [h];omega
 simp [qpj,hlp,hp,this]
theorem qFa {u v:List Int} (hu:Lim u) (hv:Lim v) (hl:u.length<35184372088832) (hlv:v.length<=u.length) :
  ∃ (w:List Int) (c:Nat),qpn u v=some w/\w.length=u.length/\Lim w/\c<=1/\nn w+4294967296 ^ u.length*c=nn u+nn v:=by
 obtain⟨r,⟨p,c,rfl,hp,hpl,hc,hpn⟩,hlp⟩:=qjS (step:=qfL) (fun i s=>∃ (p:List Int) (c:Nat),s=((p++u.drop i,v,(c:Int),(u.length:Int),(i:Int),()),())/\p.length=i/\Lim p/\c<=1/\nn p+4294967296 ^ i*c=nn (u.take i)+nn (v.take i))
  (fun r=>∃ (p:List Int) (c:Nat),r=((p,()),())/\p.length=u.length/\Lim p/\c<=1/\nn p+4294967296 ^ u.length*c=nn u+nn v) u.length (v:=((u,v,0,(u.length:Int),0,()),()))
  ⟨[], 0, by simp, rfl, Lim.nil, by omega, by simp⟩ (by omega) (by
   rintro i s hi ⟨p,c,rfl,hp,hpl,hc,hs⟩;have b1:=hu.at hi;have b2:=qlD hv i;have q1:iadd .u64 u[i] (lget v i)=u[i]+lget v i:=qmJ (by omega) (by omega);have q2:iadd .u64 (c:Int) (u[i]+lget v i)=c+(u[i]+lget v i):=qmJ (by omega) (by omega);have e4:((((c:Int)+(u[i]+lget v i))/4294967296).toNat:Int)=((c:Int)+(u[i]+lget v i))/4294967296:=by omega
   refine⟨(((p++[((c:Int)+(u[i]+lget v i)) % 4294967296])++u.drop (i+1),v,((((c:Int)+(u[i]+lget v i))/4294967296).toNat:Int),(u.length:Int),((i+1:Nat):Int),()),()),⟨_,_,rfl,by simp [hp],Lim.append hpl (Lim.cons (by omega) Lim.nil),by omega,?_⟩,fun g=>?_⟩
   · rw [qcs, hp, qr9 _ (by omega), qgW v i, nnt hi, jb];have k1:(((c:Int)+(u[i]+lget v i)) % 4294967296).toNat+4294967296*(((c:Int)+(u[i]+lget v i))/4294967296).toNat=c+(u[i] % 4294967296).toNat+(lget v i % 4294967296).toNat:=by omega
     have k2:4294967296 ^ i*((((c:Int)+(u[i]+lget v i)) % 4294967296).toNat+4294967296*(((c:Int)+(u[i]+lget v i))/4294967296).toNat)=4294967296 ^ i*(c+(u[i] % 4294967296).toNat+(lget v i % 4294967296).toNat):=by rw[k1]
     grind
   · have e5 : (p ++ u.drop i).length = u.length := by simp [hp]; omega
     have e6:(p++u.drop i)[i]?=some u[i]:=by rw[k8 (by omega),hp,jO,k7,kx];exact gE0 hi
     have c1:(i:Int)<(u.length:Int):=by omega
     have c2:(0:Int)<=(i:Int):=by omega
     have c3:(i:Int)<((p++u.drop i).length:Int):=by omega
     simp only[qfL,cnd c1,qsh,bS0,cnd2 c2 c3,tN0,e6,q1,q2,qhl,qu2,e4,qDX _ hp hi,qaV (n:=i) (by omega)];rfl) (by
   rintro s ⟨p,c,rfl,hp,hpl,hc,hs⟩;rw[jd hlv,jt] at hs;exact⟨((p,()),()),⟨p,c,rfl,hp,hpl,hc,hs⟩,fun g=>by simp [qfL]⟩)
 refine⟨p,c,?_,hp,hpl,hc,hpn⟩;simp [qpn,hlp,hp]
section
variable {U V D B u2 ul two v1 v2 vl g r:Nat}
theorem qv0 (hU:U=ul+D*(u2+B*two)) (hV:V=vl+D*(v2+B*v1)) (hvl:vl<D) (hv1:0<v1) (ht:g*v1+r=two) (hg:g<B) (hle:g*v2<=r*B+u2):g*V<U+V:=by
 have h1:U=ul+D*(u2+r*B)+D*B*(g*v1):=by rw[hU,<- ht];grind
 have h2:g*V=g*vl+D*(g*v2)+D*B*(g*v1):=by rw[hV];grind
 have h3:D*(g*v2)<=D*(u2+r*B):=jc _ (by omega);have h4:g*vl<B*D:=jz hg hvl;have h5:D*(B*1)<=D*(v2+B*v1):=jc _ (by have:=jc B hv1;omega);have h6:D*(B*1)=B*D:=by rw[jE,jg]
 omega
theorem qzG (hU:U=ul+D*(u2+B*two)) (hV:V=vl+D*(v2+B*v1)) (hul:ul<D) (ht:g*v1+r=two) (hgt:r*B+u2<g*v2):U<g*V:=by
 have h1:U=ul+D*(u2+r*B)+D*B*(g*v1):=by rw[hU,<- ht];grind
 have h2:g*V=g*vl+D*(g*v2)+D*B*(g*v1):=by rw[hV];grind
 have h3:D*(u2+r*B+1)<=D*(g*v2):=jc _ (by omega);have h4:D*(u2+r*B+1)=D*(u2+r*B)+D:=by rw[jy,jE]
 omega
theorem qxh (hU:U=ul+D*(u2+B*two)) (hV:V=vl+D*(v2+B*v1)) (hul:ul<D) (hu2:u2<B) (ht:g*v1+r=two) (hr:r<v1):U<(g+1)*V:=by
 have h1:two+1<=(g+1)*v1:=by rw[jr];omega
 have h2:D*(u2+B*two+1)<=D*(B*(two+1)):=jc _ (by rw[jy,jE];omega);have h3:D*(B*(two+1))<=D*(B*((g+1)*v1)):=jc _ (jc _ h1);have h4:(g+1)*V=(g+1)*vl+(g+1)*(D*v2)+D*(B*((g+1)*v1)):=by rw[hV];grind
 have h5:D*(u2+B*two+1)=D*(u2+B*two)+D:=by rw[jy,jE]
 omega
theorem qqc (h2:two<=v1*B+(B-1)) (hB:0<B) (ht:g*v1+r=two) (hr:B<=r):g<B:=by
 rcases jn g B with h | h
 · exact h
 · have := jm v1 h;rw[jg B] at this;omega
theorem qzF (hg:g<B) (hv2:v2<B) (hr:B<=r):g*v2<=r*B+u2:=by
 have h1:g*v2<=B*B:=kt (jj hg) (jj hv2);have h2:B*B<=r*B:=jm _ hr;omega
theorem qC6 {w:Nat} (hV:0<V) (hw:w+g*V=U) (h:U<(g+1)*V):U/V=g/\U % V=w:=by
 rw[jr,jM] at h;have h1:U/V=g:=by
  rw[xa hV];omega
 have:=jv U V;rw[h1,jg] at this;exact⟨h1,by omega⟩
theorem qzH {w w' P c:Nat} (hV:0<V) (hw:w+g*V=U+P) (hwP:w<P) (h:g*V<U+V) (hc:c<=1) (hw':w'+P*c=w+V) (hwP':w'<P):0<g/\U/V=g-1/\U % V=w':=by
 have hg0:0<g:=by
  rcases jo g with h | h
  · subst h;omega
  · exact h
 have hgv2:g*V=(g-1)*V+V:=by
  conv=>lhs;rw[show g=(g-1)+1 by omega,jr,jM]
 have hc1:c=1:=by
  rcases jo c with h | h
  · subst h;omega
  · omega
 subst hc1;have h1:U/V=g-1:=by
  rw[xa hV];omega
 have:=jv U V;rw[h1,jg] at this;exact⟨hg0,h1,by omega⟩
end
theorem qCU {u:List Int} {m:Nat} (hu:Lim u) (h:u.length=m+3) {x y z:Nat} (hx:u[m]?=some (x:Int)) (hy:u[m+1]?=some (y:Int)) (hz:u[m+2]?=some (z:Int)):nn u=nn (u.take m)+4294967296 ^ m*(x+4294967296*(z*4294967296+y)):=by
 have e1:=qeX hx;have e2:=qeX hy;have e3:=qeX hz;rw[jd (by omega)] at e3;have bx:=hu.get hx;have by_:=hu.get hy;have bz:=hu.get hz;have k1:((x:Int) % 4294967296).toNat=x:=by omega
 have k2:((y:Int) % 4294967296).toNat=y:=by omega
 have k3:((z:Int) % 4294967296).toNat=z:=by omega
 rw[k1] at e1;rw[k2] at e2;rw[k3] at e3;rw[e3,e2,e1,jb,jb]
 grind
theorem qCV {u:List Int} {m:Nat} (hu:Lim u) (h:u.length=m+2) {x y:Nat} (hx:u[m]?=some (x:Int)) (hy:u[m+1]?=some (y:Int)):nn u=nn (u.take m)+4294967296 ^ m*(x+4294967296*y):=by
 have e1:=qeX hx;have e2:=qeX hy;rw[jd (by omega)] at e2;have bx:=hu.get hx;have by_:=hu.get hy;have k1:((x:Int) % 4294967296).toNat=x:=by omega
 have k2:((y:Int) % 4294967296).toNat=y:=by omega
 rw[k1] at e1;rw[k2] at e2;rw[e2,e1,jb]
 grind
theorem qtz {u:List Int} (hu:Lim u) {i:Nat} (h:i<u.length):∃ x:Nat,u[i]?=some (x:Int)/\x<4294967296:=by
 have b:=hu.at h;obtain⟨x,hx⟩:=jq b.1;exact⟨x,by rw[gE0 h,hx],by omega⟩
theorem qzQ {u v:List Int} {m:Nat} (hu:Lim u) (hv:Lim v) (hul:u.length=m+3) (hvl:v.length=m+2) (hm:m<35184372088832)
  {x y z p q:Nat} (hx:u[m]?=some (x:Int)) (hy:u[m+1]?=some (y:Int)) (hz:u[m+2]?=some (z:Int)) (hp:v[m]?=some (p:Int)) (hq:v[m+1]?=some (q:Int))
  (hx':x<4294967296) (hy':y<4294967296) (hz':z<4294967296) (hp':p<4294967296) (hq':q<4294967296)
  (hn:4294967296<=2*q) (hlt:nn u<4294967296*nn v) :
  ∃ g:Nat,g<4294967296/\nn u<(g+1)*nn v/\g*nn v<nn u+nn v /\
    lp qb6 K0 ((u,v,((m+2:Nat):Int),(((z*4294967296+y)/q:Nat):Int),(((z*4294967296+y) % q:Nat):Int),()),())=some ((u,v,(g:Int),()),()):=by
 have hU:=qCU hu hul hx hy hz;have hV:=qCV hv hvl hp hq;have hul':=qgx (u.take m);have hvl':=qgx (v.take m);rw[jk,jf (by omega)] at hul' hvl';have hq0:0<q:=by omega
 have hzq:z<=q:=by
  rcases jn q z with h | h
  · exfalso;have h1:4294967296 ^ m*(4294967296*((q+1)*4294967296))<=4294967296 ^ m*(x+4294967296*(z*4294967296+y)):=jc _ (by omega);have h2:4294967296 ^ m*(p+4294967296*q+1)<=4294967296 ^ m*(4294967296*(q+1)):=jc _ (by omega);have h3:4294967296 ^ m*(p+4294967296*q+1)=4294967296 ^ m*(p+4294967296*q)+4294967296 ^ m:=by rw[jy,jE]
    have h4:4294967296 ^ m*(4294967296*((q+1)*4294967296))=4294967296*(4294967296 ^ m*(4294967296*(q+1))):=by grind
    omega
  · exact h
 have htwo:z*4294967296+y<=q*4294967296+(4294967296-1):=by omega
 have hg0:(z*4294967296+y)/q<=4294967297:=by
  rw[Nat.div_le_iff_le_mul hq0];omega
 have hdm:=jv (z*4294967296+y) q;have hml:=jw (z*4294967296+y) hq0;rw[jg] at hdm;obtain⟨g0,hG0⟩:∃ t,t=(z*4294967296+y)/q:=⟨_,rfl⟩;obtain⟨r0,hR0⟩:∃ t,t=(z*4294967296+y) % q:=⟨_,rfl⟩;rw[<- hG0] at hg0 hdm ⊢;rw[<- hR0] at hml hdm ⊢;clear hG0 hR0;obtain⟨two,hTW⟩:∃ t,t=z*4294967296+y:=⟨_,rfl⟩;rw[<- hTW] at hU htwo hdm;have hfirst:nn u<(g0+1)*nn v:=qxh hU hV hul' hx' hdm hml;obtain⟨r,⟨g,rfl,h1,h2,h3⟩,hlp⟩:=qmI (step:=qb6)
  (fun s=>∃ g r:Nat,s=((u,v,((m+2:Nat):Int),(g:Int),(r:Int),()),())/\g*q+r=two/\r<4294967296/\g<=4294967297/\nn u<(g+1)*nn v) (fun s=>s.1.2.2.2.1.toNat)
  (fun t=>∃ g:Nat,t=((u,v,(g:Int),()),())/\g<4294967296/\nn u<(g+1)*nn v/\g*nn v<nn u+nn v) (v:=((u,v,((m+2:Nat):Int),(g0:Int),(r0:Int),()),()))
  ⟨g0,r0,rfl,hdm,by omega,hg0,hfirst⟩ (by simp;omega) (by
    rintro s ⟨g,r,rfl,ht,hr,hg,hgu⟩;have i1:isub .i64 ((m+2:Nat):Int) 1=((m+1:Nat):Int):=by rw[qci]<;>omega
    have i2:isub .i64 ((m+2:Nat):Int) 2=((m:Nat):Int):=by rw[qci]<;>omega
    have i3:iadd .u64 (r:Int) (q:Int)=((r+q:Nat):Int):=by rw[qmJ]<;>omega
    have c1:(0:Int)<=((m+1:Nat):Int):=by omega
    have c2:(0:Int)<=((m:Nat):Int):=by omega
    have c3:((m:Nat):Int)<(u.length:Int):=by omega
    have back:0<g->nn u<g*nn v->(∀ k,qb6 k ((u,v,((m+2:Nat):Int),(g:Int),(r:Int),()),())=bif decide (((r+q:Nat):Int)>=4294967296) then some ((u,v,(((g-1:Nat)):Int),()),()) else k ((u,v,((m+2:Nat):Int),((g-1:Nat):Int),((r+q:Nat):Int),()),())) ->
        (∃ t,(∃ g:Nat,t=((u,v,(g:Int),()),())/\g<4294967296/\nn u<(g+1)*nn v/\g*nn v<nn u+nn v)/\∀ k,qb6 k ((u,v,((m+2:Nat):Int),(g:Int),(r:Int),()),())=some t) \/
        ∃ s',(∃ g r:Nat,s'=((u,v,((m+2:Nat):Int),(g:Int),(r:Int),()),())/\g*q+r=two/\r<4294967296/\g<=4294967297/\nn u<(g+1)*nn v)/\s'.1.2.2.2.1.toNat<(g:Int).toNat/\∀ k,qb6 k ((u,v,((m+2:Nat):Int),(g:Int),(r:Int),()),())=k s':=by
      intro hg1 hgu' hk;have ht':(g-1)*q+(r+q)=two:=by
        have:g*q=(g-1)*q+q:=by
          conv=>lhs;rw[show g=(g-1)+1 by omega,jr,jM]
        omega
      have hgg:nn u<(g-1+1)*nn v:=by rw[show g-1+1=g by omega];exact hgu'
      by_cases hb:4294967296<=r+q
      · refine .inl ⟨_, ⟨g - 1, rfl, ?_, hgg, ?_⟩, fun k => by rw [hk]; exact cnd (by omega)⟩
        · exact qqc htwo (by decide) ht' hb
        · exact qv0 hU hV hvl' hq0 ht' (qqc htwo (by decide) ht' hb) (qzF (qqc htwo (by decide) ht' hb) hp' hb)
      · exact .inr ⟨_,⟨g-1,r+q,rfl,ht',by omega,by omega,hgg⟩,by show(((g-1:Nat)):Int).toNat<(g:Int).toNat;omega,fun k=>by rw[hk];exact cnd' (by omega)⟩
    by_cases hB:4294967296<=g
    · have i4 : isub .u64 (g : Int) 1 = ((g - 1 : Nat) : Int) := by rw [qpt] <;> omega
      refine back (by omega) ?_ ?_
      · exact jA hlt (jm _ hB)
      · intro k;have c4:(g:Int)>=4294967296:=by omega
        simp only[qb6,cnd c4,i1,cnd c1,tN0,hq,bS0,i3,i4]
    · have hgp : g * p <= 4294967295 * 4294967295 := kt (by omega) (by omega);have i5:imul .u64 (g:Int) (p:Int)=((g*p:Nat):Int):=by rw[qBj]<;>rw[<- kr]<;>omega
      have i6:ior .u64 (shlV .u64 (r:Int) 32) (x:Int)=((r*4294967296+x:Nat):Int):=by rw[qAv (by omega) (by omega),qBf (by omega) (by omega) (by omega) (by omega)];omega
      have c4:¬ (g:Int)>=4294967296:=by omega
      by_cases hgt:r*4294967296+x<g*p
      · have hg1 : 0 < g := by
          rcases jo g with h | h
          · subst h;omega
          · exact h
        have i4:isub .u64 (g:Int) 1=((g-1:Nat):Int):=by rw[qpt]<;>omega
        refine back hg1 (qzG hU hV hul' ht hgt) ?_;intro k;have c5:((g*p:Nat):Int)>((r*4294967296+x:Nat):Int):=by omega
        rw[qb6,cnd' c4,i2,cnd c2,tN0,hp,bS0,cnd2 c2 c3,hx,bS0,i5,i6,cnd c5,i1,cnd c1,tN0,hq,bS0,i3,i4]
      · have c5 : ¬ ((g * p : Nat) : Int) > ((r * 4294967296 + x : Nat) : Int) := by omega
        refine .inl ⟨_,⟨g,rfl,by omega,hgu,qv0 hU hV hvl' hq0 ht (by omega) (by omega)⟩,fun k=>?_⟩;rw[qb6,cnd' c4,i2,cnd c2,tN0,hp,bS0,cnd2 c2 c3,hx,bS0,i5,i6,cnd' c5])
 exact⟨g,h1,h2,h3,hlp⟩
theorem qDn {u v:List Int} {m:Nat} (hu:Lim u) (hv:Lim v) (hul:u.length=m+3) (hvl:v.length=m+2) (hm:m<17592186044416)
   {q:Nat} (hq:v[m+1]?=some (q:Int)) (hn:4294967296<=2*q) (hlt:nn u<4294967296*nn v) :
   ∃ w:List Int,qkU u v=some (w,((nn u/nn v:Nat):Int))/\w.length=u.length/\Lim w/\nn w=nn u % nn v:=by
 obtain⟨x,hx,hx'⟩:=qtz hu (i:=m) (by omega);obtain⟨y,hy,hy'⟩:=qtz hu (i:=m+1) (by omega);obtain⟨z,hz,hz'⟩:=qtz hu (i:=m+2) (by omega);obtain⟨p,hp,hp'⟩:=qtz hv (i:=m) (by omega);have hq':q<4294967296:=by have:=hv.get hq;omega
 obtain⟨g,hg,hg1,hg2,hlp⟩:=qzQ hu hv hul hvl (by omega) hx hy hz hp hq hx' hy' hz' hp' hq' hn hlt;obtain⟨w,d,htk,hw,hwl,hd,hwn⟩:=qEq hu hv (by omega) (by omega) hg;have hV0:0<nn v:=by
   rcases jo (nn v) with h | h
   · rw[h] at hlt;omega
   · exact h
 have hwlt:=qgx w;rw[hw] at hwlt;have e0:((v.length:Nat):Int)=((m+2:Nat):Int):=by omega
 have e1:isub .i64 ((m+2:Nat):Int) 1=((m+1:Nat):Int):=by rw[qci]<;>omega
 have c1:(0:Int)<=((m+2:Nat):Int):=by omega
 have c2:((m+2:Nat):Int)<((u.length:Nat):Int):=by omega
 have c3:(0:Int)<=((m+1:Nat):Int):=by omega
 have c4:((m+1:Nat):Int)<((u.length:Nat):Int):=by omega
 have c5:¬ (q:Int)=0:=by omega
 have i6:ior .u64 (shlV .u64 (z:Int) 32) (y:Int)=((z*4294967296+y:Nat):Int):=by rw[qAv (by omega) (by omega),qBf (by omega) (by omega) (by omega) (by omega)];omega
 have i7:iquo .u64 ((z*4294967296+y:Nat):Int) (q:Int)=(((z*4294967296+y)/q:Nat):Int):=by rw[qD5 (by omega) (by omega) (by omega)];exact(jS _ _).symm
 have i8:irem ((z*4294967296+y:Nat):Int) (q:Int)=(((z*4294967296+y) % q:Nat):Int):=by rw[qog (by omega)];exact(jI _ _).symm
 have ov:over u 0 w=w:=qny hw;by_cases hd0:d=0
 · subst hd0;obtain⟨hq2,hr2⟩:=qC6 hV0 (by simpa using hwn) hg1;refine⟨w,?_,hw,hwl,hr2.symm⟩;rw[qkU,e0,e1,cnd2 c1 c2,tN0,hz,bS0,cnd2 c3 c4,tN0,hy,bS0,cnd c3,hq,bS0,cnd' c5,cnd c3,bS0,cnd' c5,i6,i7,i8,hlp,bS0,htk,bS0,hq2];simp [hw,ov]
 · have hd1 : d = 1 := by omega
   subst hd1;obtain⟨w',c,hgv,hw',hwl',hc,hwn'⟩:=qFa hwl hv (by omega) (by omega);rw[hw] at hwn' hw';have hw'lt:=qgx w';rw[hw'] at hw'lt;obtain⟨hg0,hq2,hr2⟩:=qzH hV0 (by simpa using hwn) hwlt hg2 hc hwn' hw'lt;refine⟨w',?_,hw',hwl',hr2.symm⟩;have i9:isub .u64 (g:Int) 1=((g-1:Nat):Int):=by rw[qpt]<;>omega
   have ov2:over w 0 w'=w':=qny (by omega);rw[qkU,e0,e1,cnd2 c1 c2,tN0,hz,bS0,cnd2 c3 c4,tN0,hy,bS0,cnd c3,hq,bS0,cnd' c5,cnd c3,bS0,cnd' c5,i6,i7,i8,hlp,bS0,htk,bS0,hq2,ov];simp [hgv,ov2,hw',i9]
theorem qbA {n m:Nat} (h:n<=m):(qab n).length<=(qab m).length:=by
 rcases jn (qab m).length (qab n).length with h1 | h1
 · have:=qsj h1;omega
 · exact h1
theorem qmv (a:List Int):nn (a++[0,0])=nn a:=by rw[qcs];simp [nn]
theorem qCq {n s x D:Nat} {t:Nat} (hn:n=t+D*x) (ht:t<D) (hx:x*2 ^ s<4294967296) (hx1:(x+1)*2 ^ s<=4294967296) (hx2:2147483648<=x*2 ^ s):n*2 ^ s<D*4294967296/\D*2147483648<=n*2 ^ s:=by
 generalize 2 ^ s=P at *;subst hn;constructor
 · have h1 : (t + D * x) + 1 <= D * (x + 1) := by rw [jy, jE]; omega
   have hP:0<P:=by
    rcases jo P with h | h
    · subst h;omega
    · exact h
   have h2:=jm P h1;have h3:D*((x+1)*P)<=D*4294967296:=jc _ hx1;rw[jp] at h2;rw[jr,jM] at h2;omega
 · have h1 : D * 2147483648 <= D * (x * P) := jc _ hx2;have h2:(t+D*x)*P=t*P+D*(x*P):=by rw[jr,jp]
   omega
theorem qA9 {x:Nat} (h:x≠0) (hx:x<4294967296):∃ k,lenN x=k/\0<k/\k<=32/\x*2 ^ (32-k)<4294967296/\(x+1)*2 ^ (32-k)<=4294967296/\2147483648<=x*2 ^ (32-k):=by
 have h1:=xb h;have h2:x<2 ^ (x.log2+1):=Nat.lt_log2_self;have h3:x.log2<32:=(Nat.log2_lt h).2 hx;refine⟨x.log2+1,by simp [lenN,h],by omega,by omega,?_⟩;generalize x.log2=l at *;have p1:2 ^ (l+1)*2 ^ (32-(l+1))=4294967296:=by rw[<- je,show l+1+(32-(l+1))=32 by omega]
 have p2:2 ^ l*2 ^ (32-(l+1))=2147483648:=by rw[<- je,show l+(32-(l+1))=31 by omega]
 have hP:0<2 ^ (32-(l+1)):=ji (by decide);generalize 2 ^ (32-(l+1))=P at *;generalize 2 ^ (l+1)=Q at *;generalize 2 ^ l=R at *;have a1:(x+1)*P<=Q*P:=jm _ h2;have a2:R*P<=x*P:=jm _ h1;rw[jr,jM] at a1;refine⟨by omega,?_,by omega⟩;rw[jr,jM];omega
theorem qqv {x:Nat} (h:x≠0) (hx:x<4294967296):∃ s:Nat,qd1 (x:Int)=some (s:Int)/\s<32/\x*2 ^ s<4294967296/\(x+1)*2 ^ s<=4294967296/\2147483648<=x*2 ^ s:=by
 obtain⟨k,h1,h2,h3,h4⟩:=qA9 h hx;refine⟨32-k,?_,by omega,h4⟩;have e:qzD (x:Int)=some (k:Int):=by
  rw[qzD,cnd2 (by omega) (by omega),tN0,h1]
 have e2:isub .i64 32 (k:Int)=((32-k:Nat):Int):=by rw[qci]<;>omega
 rw[qd1,e,bS0,e2]
theorem qA4 {A' U U' V q w T E Q:Nat} (hA:A'=U+V*(E*4294967296*Q)) (hU:U=T+E*(V*q+w)) (hU':U'=T+E*w):A'=U'+V*(E*(q+4294967296*Q)):=by
 subst hU hU';rw[hA];grind
theorem qFf {u:List Int} {j V:Nat} (hu:Lim u) (hj:j<u.length) (h:nn (u.drop (j+1))<V):nn (u.drop j)<4294967296*V:=by
 rw[qw0 u hj];have h1:4294967296*(nn (u.drop (j+1))+1)<=4294967296*V:=jc _ h;omega
theorem qmu (u:List Int) {j:Nat} (hj:j<=u.length):nn u=nn (u.take j)+4294967296 ^ j*nn (u.drop j):=by
 conv=>lhs;rw[<- jQ j u]
 rw[qcs,jk,jf hj]
theorem qA5 {v u0:List Int} {s:Int} {m k:Nat} (hv:Lim v) (hvl:v.length=m+2) (hm:m<17592186044416) (hk:k+m+2<17592186044416) {q:Nat} (hq:v[m+1]?=some (q:Int)) (hn:4294967296<=2*q)
  (hu:Lim u0) (hul:u0.length=k+(m+2)) (hlt:nn (u0.drop k)<nn v) :
  ∃ (u qs:List Int),lp qe6 K0 ((s,v,u0,((m+2:Nat):Int),j9 k 0,(k:Int)-1,()),())=some ((s,u,qs,()),())/\Lim u/\Lim qs/\u.length=u0.length/\qs.length=k/\nn u<nn v/\nn u0=nn u+nn v*nn qs:=by
 have hVB:=qgx v;obtain⟨r,⟨u,qs,rfl,h1,h2,h3,h4,h5,h6⟩,hlp⟩:=qmI (step:=qe6)
  (fun t=>∃ (j:Nat) (u qs:List Int),t=((s,v,u,((m+2:Nat):Int),j9 j 0++qs,(j:Int)-1,()),())/\Lim u/\Lim qs/\u.length=u0.length/\j+qs.length=k/\nn (u.drop j)<nn v/\nn u0=nn u+nn v*(4294967296 ^ j*nn qs))
  (fun t=>(t.1.2.2.2.2.2.1+1).toNat)
  (fun r=>∃ (u qs:List Int),r=((s,u,qs,()),())/\Lim u/\Lim qs/\u.length=u0.length/\qs.length=k/\nn u<nn v/\nn u0=nn u+nn v*nn qs) (v:=((s,v,u0,((m+2:Nat):Int),j9 k 0,(k:Int)-1,()),()))
  ⟨k, u0, [], by simp, hu, Lim.nil, rfl, by simp, hlt, by simp⟩ (by simp; omega) (by
   rintro t ⟨j,u,qs,rfl,hul',hqs,hll,hjk,hdl,hval⟩;cases j with
   | zero =>
    refine .inl ⟨((s,u,qs,()),()),⟨u,qs,rfl,hul',hqs,hll,by omega,by simpa using hdl,by simpa using hval⟩,fun g=>by simp [qe6]⟩
   | succ j =>
    have hju:j<u.length:=by omega
    have hd1:=qFf hul' hju hdl;have hsl:((u.drop j).take (m+3)).length=m+3:=by simp;omega
    have hB:4294967296*nn v<4294967296 ^ (m+3):=by
      rw[hvl] at hVB;rw[show m+3=(m+2)+1 from rfl,jb,jg (4294967296 ^ (m+2))];exact Nat.mul_lt_mul_of_pos_left hVB (by decide)
    have hns:nn ((u.drop j).take (m+3))=nn (u.drop j):=qlz (jV hd1 hB);have hz:nn ((u.drop j).drop (m+3))=0:=by
      have:=qmu (u.drop j) (j:=m+3) (by simp;omega);rw[hns] at this;have h0:4294967296 ^ (m+3)*nn ((u.drop j).drop (m+3))=0:=by omega
      rcases Nat.mul_eq_zero.1 h0 with h | h
      · have:=ji (n:=m+3) (show 0<4294967296 by decide);omega
      · exact h
    obtain⟨w,hdg,hwl,hwlim,hwv⟩:=qDn (u:=(u.drop j).take (m+3)) ((hul'.drop j).take _) hv hsl hvl hm hq hn (by rw[hns];exact hd1);rw[hns] at hdg hwv;rw[hsl] at hwl;have hV0:0<nn v:=by omega
    have hqd:nn (u.drop j)/nn v<4294967296:=by rw[jW hV0];exact hd1
    have hov:over u j w=u.take j++(w++(u.drop j).drop (m+3)):=by simp [over,hwl,List.drop_drop]
    have htl:(u.take j).length=j:=by simp;omega
    have hv':nn (over u j w)=nn (u.take j)+4294967296 ^ j*nn w:=by rw[hov,qcs,qcs,hz,htl];simp
    have hdm:=jv (nn (u.drop j)) (nn v);have hml:=jw (nn (u.drop j)) hV0;have hstep:=qmu u (j:=j) (by omega);rw[<- hwv] at hdm hml;rw[<- hdm] at hstep;have hlim':Lim (over u j w):=by rw[hov];exact(hul'.take j).append (hwlim.append ((hul'.drop j).drop _))
    have hlen':(over u j w).length=u0.length:=by rw[hov];simp [hwl];omega
    have hdrop':nn ((over u j w).drop j)<nn v:=by
      rw[hov,List.drop_append,htl,jO,List.drop_zero,xc (by omega),List.nil_append,qcs,hz];simpa using hml
    generalize nn (u.drop j)/nn v=qd at *;refine .inr ⟨((s,v,over u j w,((m+2:Nat):Int),j9 j 0++(qd:Int)::qs,(j:Int)-1,()),()),⟨j,_,_,rfl,hlim',Lim.cons (by omega) hqs,hlen',by simp;omega,hdrop',?_⟩,by simp,fun g=>?_⟩
    · rw [nn];have:((qd:Int) % 4294967296).toNat=qd:=by omega
      rw[this];rw[jb] at hval;exact qA4 hval hstep hv'
    · have e0 : ((j + 1 : Nat) : Int) - 1 = (j : Int) := by omega
      have e1:iadd .i64 (iadd .i64 (j:Int) ((m+2:Nat):Int)) 1=((j+m+3:Nat):Int):=by
        have:iadd .i64 (j:Int) ((m+2:Nat):Int)=((j+m+2:Nat):Int):=by rw[qfq]<;>omega
        rw[this,qaV (by omega)];omega
      have e2:((((j+m+3:Nat):Int)-(j:Int)).toNat)=m+3:=by omega
      have e3:isub .i64 (j:Int) 1=(j:Int)-1:=by rw[qci]<;>omega
      have e5:(j9 (j+1) (0:Int)++qs).set j (qd:Int)=j9 j 0++(qd:Int)::qs:=by
        rw[kS,jH,jC _ _ (by simp)];simp
      have e6:j<(j9 (j+1) (0:Int)++qs).length:=by simp;omega
      have c1:(j:Int)>=0:=by omega
      have c2:(0:Int)<=(j:Int)/\(j:Int)<=((j+m+3:Nat):Int)/\((j+m+3:Nat):Int)<=((u.length:Nat):Int):=by omega
      have c3:(j:Int)<((j9 (j+1) (0:Int)++qs).length:Int):=by omega
      have c4:(decide ((0:Int)<=(j:Int))&&decide ((j:Int)<=((j+m+3:Nat):Int))&&decide (((j+m+3:Nat):Int)<=((j+m+3:Nat):Int))&&decide (((j+m+3:Nat):Int)<=((u.length:Nat):Int)))=true:=by
        rw[decide_eq_true c2.1,decide_eq_true c2.2.1,decide_eq_true c2.2.2,decide_eq_true (Int.le_refl _)];rfl
      rw[e0,qe6,cnd c1,e1,c4,e2,tN0,hdg,cond_true,bS0,cnd2 c2.1 c3,gE0 e6,bS0,e5,e3])
 exact⟨u,qs,hlp,h1,h2,h3,h4,h5,h6⟩
theorem qEW {A D:Nat} (hla:(qab A).length<4398046511104) (hD:2<=(qab D).length) (hDA:D<=A):qpm (qab A) (qab D)=some (qab (A/D),qab (A % D)):=by
 have hlb:=qbA hDA;have la:=qa4 A;have lb:=qa4 D;have ea:=q9q A;have eb:=q9q D;have cb:=qsf D;obtain⟨m,hm⟩:∃ m,(qab D).length=m+2:=⟨(qab D).length-2,by omega⟩;obtain⟨x,hx,hx32⟩:=qtz lb (i:=m+1) (by omega);have hx0:x≠0:=by
  have:=cb.2 (x:Int) (by rw[List.getLast?_eq_getElem?,hm];exact hx);omega
 obtain⟨s,hs,hs32,t1,t2,t3⟩:=qqv hx0 hx32;have hsplit:=qeX hx;rw[jd (by omega),eb] at hsplit;have hxx:((x:Int) % 4294967296).toNat=x:=by omega
 rw[hxx] at hsplit;have htk:=qgx ((qab D).take (m+1));rw[jk,jf (by omega)] at htk;obtain⟨u1,u2⟩:=qCq hsplit htk t1 t2 t3;have u1':D*2 ^ s<4294967296 ^ (m+2):=by rw[jb];exact u1
 have hshl1:=qx1 (n:=s) lb (by omega) (by omega);have hshl2:=qx1 (n:=s) la (by omega) (by omega);rw[eb] at hshl1;rw[ea] at hshl2;have hp0:0<2 ^ s:=ji (by decide);have hvl:(qab (D*2 ^ s)).length=m+2:=by
  have h1:=qc1 u1';have h2:(qab D).length<=(qab (D*2 ^ s)).length:=qbA (xd _ hp0);omega
 have hv:=qa4 (D*2 ^ s);have hnv:=q9q (D*2 ^ s);obtain⟨q,hq,hq32⟩:=qtz hv (i:=m+1) (by omega);have hqn:4294967296<=2*q:=by
  have h1:=qeX hq;rw[jd (by omega),hnv] at h1;have hqq:((q:Int) % 4294967296).toNat=q:=by omega
  rw[hqq] at h1;have h2:=qgx ((qab (D*2 ^ s)).take (m+1));rw[jk,jf (by omega)] at h2;rcases jn (2*q) 4294967296 with h | h
  · exfalso;have h3:4294967296 ^ (m+1)*(q+1)<=4294967296 ^ (m+1)*2147483648:=jc _ (by omega);rw[jy,jE] at h3;omega
  · exact h
 have hr4:(qab A).length<=(qab (A*2 ^ s)).length:=qbA (xd _ hp0);have hAlt:A*2 ^ s<4294967296 ^ ((qab A).length)*2 ^ s:=by
  have:=qgx (qab A);rw[ea] at this;exact kq this hp0
 have hs2:2 ^ s<=4294967296:=by
  have:2 ^ s<=2 ^ 32:=jh (by decide) (by omega);exact this
 have hA1:A*2 ^ s<4294967296 ^ ((qab A).length+1):=by
  rw[jb];exact jA hAlt (jc _ hs2)
 have hr4':(qab (A*2 ^ s)).length<=(qab A).length+1:=qc1 hA1;have hnu:nn ((qab (A*2 ^ s)++[0,0]).take ((qab A).length+1))=A*2 ^ s:=by
  rw[qlz (by rw[qmv,q9q];exact hA1),qmv,q9q]
 have hul:((qab (A*2 ^ s)++[0,0]).take ((qab A).length+1)).length=(qab A).length+1:=by simp;omega
 have hulim:Lim ((qab (A*2 ^ s)++[0,0]).take ((qab A).length+1)):=Lim.take (Lim.append (qa4 _) (Lim.cons (by omega) (Lim.cons (by omega) Lim.nil))) _;obtain⟨k,hk⟩:∃ k,(qab A).length+1=k+(m+2):=⟨(qab A).length+1-(m+2),by omega⟩;have hdrop:nn (((qab (A*2 ^ s)++[0,0]).take ((qab A).length+1)).drop k)<nn (qab (D*2 ^ s)):=by
  have h1:=qmu ((qab (A*2 ^ s)++[0,0]).take ((qab A).length+1)) (j:=k) (by omega);rw[hnu] at h1;rw[hnv];have h2:D*2 ^ s>=4294967296 ^ (m+1)*2 ^ s:=by
    have:4294967296 ^ (m+1)<=D:=by
     rw[hsplit];have:4294967296 ^ (m+1)*1<=4294967296 ^ (m+1)*x:=jc _ (by omega);omega
    exact jm _ this
  have h3:4294967296 ^ (qab A).length=4294967296 ^ k*4294967296 ^ (m+1):=by rw[<- je,show(qab A).length=k+(m+1) by omega]
  rw[h3,jp] at hAlt;generalize nn (((qab (A*2 ^ s)++[0,0]).take ((qab A).length+1)).drop k)=Y at *;have h4:4294967296 ^ k*Y<4294967296 ^ k*(4294967296 ^ (m+1)*2 ^ s):=by
    have:4294967296 ^ k*Y<=A*2 ^ s:=by rw[h1];exact xe _ _
    exact js this hAlt
  exact jA (Nat.lt_of_mul_lt_mul_left h4) h2
 obtain⟨u,qs,hlp,r1,r2,r3,r4,r5,r6⟩:=qA5 (s:=(s:Int)) (k:=k) hv hvl (by omega) (by omega) hq hqn hulim (by rw[hul,hk]) hdrop;rw[hnu,hnv] at r6;rw[hnv] at r5;have hV0:0<D*2 ^ s:=js (Nat.zero_le _) r5;have d1:A/D=nn qs:=by
  have:A*2 ^ s/(D*2 ^ s)=nn qs:=by rw[r6,jZ _ _ hV0,jJ r5,kp]
  rwa [Nat.mul_div_mul_right _ _ hp0] at this
 have d2:A % D*2 ^ s=nn u:=by
  have:A*2 ^ s % (D*2 ^ s)=nn u:=by rw[r6,kU,kg r5]
  rwa [kX] at this
 have i1:isub .i64 ((qab D).length:Int) 1=((m+1:Nat):Int):=by rw[qci]<;>omega
 have i2:IntKind.wrap .u32 (x:Int)=(x:Int):=by rw[qCh];omega
 have i3:iadd .i64 ((qab A).length:Int) 1=(((qab A).length+1:Nat):Int):=by rw[qfq]<;>omega
 have i4:(((((qab A).length+1:Nat):Int)-0).toNat:Nat)=(qab A).length+1:=by omega
 have i5:isub .i64 (((qab A).length+1:Nat):Int) ((qab (D*2 ^ s)).length:Int)=(k:Int):=by rw[qci]<;>omega
 have i6:isub .i64 ((k:Nat):Int) 1=(k:Int)-1:=by rw[qci]<;>omega
 have i7:((qab (D*2 ^ s)).length:Int)=((m+2:Nat):Int):=by omega
 have c1:(0:Int)<=((m+1:Nat):Int):=by omega
 have c2:(Nat.ble (((qab (A*2 ^ s)).length+2)*8) 140737488355328&&!false)=true:=by
  have:((qab (A*2 ^ s)).length+2)*8<=140737488355328:=by omega
  simp [this]
 have c3:(decide ((0:Int)<=(((qab A).length+1:Nat):Int))&&decide ((((qab A).length+1:Nat):Int)<=(((qab A).length+1:Nat):Int))&&decide ((((qab A).length+1:Nat):Int)<=((qab (A*2 ^ s)++([0,0]:List Int)).length:Int)))=true:=by
  have h1:(0:Int)<=(((qab A).length+1:Nat):Int):=by omega
  have h2:(((qab A).length+1:Nat):Int)<=((qab (A*2 ^ s)++([0,0]:List Int)).length:Int):=by simp only[jL,jD,ki];omega
  rw[decide_eq_true h1,decide_eq_true h2,decide_eq_true (Int.le_refl _)];rfl
 have c4:(decide ((k:Int)=(k:Int))&&decide (0<=(k:Int))&&decide (((8:Nat):Int)*(k:Int)<=281474976710656)&&decide ((k:Int)<=9223372036854775807))=true:=by
  have h1:(0:Int)<=(k:Int):=by omega
  have h2:((8:Nat):Int)*(k:Int)<=281474976710656:=by omega
  have h3:(k:Int)<=9223372036854775807:=by omega
  rw[decide_eq_true h1,decide_eq_true h2,decide_eq_true h3,decide_eq_true rfl];rfl
 have hshr:=qu1 (n:=s) (qa4 (nn u)) (by have:=qaB u;omega) (by omega);rw[q9q,<- d2,Nat.mul_div_cancel _ hp0] at hshr;have hlen:(j9 k (0:Int)).length=k:=by simp
 rw[qpm,i1,cnd c1,tN0,hx,bS0,i2,hs,bS0,hshl1,bS0,hshl2,bS0,c2,cond_true,i3,c3,cond_true,i4,i5,c4,cond_true,tN0,hlen,i6,i7,hlp,bS0,qke r2 (by omega),bS0,qke r1 (by omega),bS0,<- d2,hshr,bS0,d1]
theorem qsO {a b:List Int} (ha:a.length<4398046511104) (hb:b.length<4398046511104) (h0:nn b≠0):qf3 a b=some (qab (nn a/nn b),qab (nn a % nn b),0):=by
 have h1:=qaB a;have h2:=qaB b;have hne:qab (nn b)≠[]:=fun h=>h0 (qg5.1 h)
 have hlen:¬ ((qab (nn b)).length:Int)=0:=by
   intro h;apply hne;apply k9;omega
 rw[qf3,qe9 (by omega),bS0,qe9 (by omega),bS0,cnd' hlen,qrj (by omega),bS0];by_cases hlt:nn a<nn b
 · have c1 : ncmp (nn a) (nn b) < 0 := by simp [ncmp, hlt]
   rw[cnd c1,jJ hlt,kg hlt,qbt]
 · have c1 : ¬ ncmp (nn a) (nn b) < 0 := by unfold ncmp; rw [if_neg hlt]; split <;> omega
   rw[cnd' c1];by_cases h3:(qab (nn b)).length=1
   · have hb32 : nn b < 4294967296 := by
      have:=qgx (qab (nn b));rw[q9q,h3] at this;simpa using this
     have hsm:=qCv (qa4 (nn a)) (by omega) (jK h0) hb32;rw[q9q] at hsm;have hml:=jw (nn a) (jK h0);rw[qgI h0 hb32];rw[<- qgI h0 hb32,h3,cnd (by omega),cnd (by omega),qgI h0 hb32,jX,bS0,hsm,bS0,qxJ (show nn a % nn b<18446744073709551616 by omega)];rfl
   · have c2 : ¬ ((qab (nn b)).length : Int) = 1 := by omega
     have hlen2:2<=(qab (nn b)).length:=by omega
     rw[cnd' c2,qEW (by omega) hlen2 (by omega)];rfl
theorem qEz {a b:List Int} (ha:a.length<4398046511104) (hb:b.length<4398046511104) (h0:nn b≠0):qj9 a b=some (qab (nn a/nn b),qab (nn a % nn b)):=by
 rw[qj9,qsO ha hb h0];rfl
theorem qwX {z s:Nat} (h:s % 2=1):ky (2 ^ z) s:=by
 apply ky.pow_left;show ja 2 s=1;rw[jY,h];decide
theorem quv {z m s:Nat} (h:s % 2=1):ja (2 ^ z*m) s=ja m s:=ky.gcd_mul_left_cancel m (qwX h)
theorem qBn {z m s:Nat} (h:s % 2=1):ja s (2 ^ z*m)=ja s m:=by rw[jx,quv h,jx]
theorem qFb {x y p q:Nat} (hp:p % 2=1) (hq:q % 2=1):ja (2 ^ x*p) (2 ^ y*q)=ja p q*2 ^ min x y:=by
 rcases Nat.le_total x y with h | h
 · have e : 2 ^ y * q = 2 ^ x * (2 ^ (y - x) * q) := by rw [<- jp, <- je]; congr 2; omega
   rw[e,xf,qBn hp,jf h,jg]
 · have e : 2 ^ x * p = 2 ^ y * (2 ^ (x - y) * p) := by rw [<- jp, <- je]; congr 2; omega
   rw[e,xf,quv hq,xg h,jg]
theorem qse {m n:Nat} (hm:m≠0) (h:2*m<=n):m.log2<n.log2:=by
 have h1:=xb hm;have h2:2 ^ (m.log2+1)<=n:=by rw[jb];omega
 exact(Nat.le_log2 (by omega)).2 h2
theorem qv5 {b s t z m:Nat} (hb:b % 2=1) (hs:s % 2=1) (hlt:s<b) (ht:t=b-s\/(t=b % s/\2*s<=b)) (ht0:t≠0) (hz:t=2 ^ z*m) (hm:m % 2=1) :
   ja m s=ja b s/\2*m<=b/\m≠0:=by
 have hm0:m≠0:=by omega
 have e:=quv (z:=z) (m:=m) hs;rw[<- hz] at e;have hp:2 ^ z*m>=1*m:=jm _ (ji (by decide));rcases ht with h | ⟨h,h2⟩
 · refine ⟨?_, ?_, hm0⟩
   · rw[<- e,h,Nat.gcd_sub_self_left (by omega)]
   · cases z with
     | zero=>simp at hz;omega
     | succ z =>
      have:2 ^ (z+1)*m=2*(2 ^ z*m):=by rw[jb,jg (2 ^ z),jp]
      have hp:2 ^ z*m>=1*m:=jm _ (ji (by decide));omega
 · have := jw b (show 0 < s by omega);refine⟨?_,by omega,hm0⟩;rw[<- e,h,<- jY,jx]
theorem qE0 {s b:Nat} (h:(qab s).length+1<(qab b).length):2*s<=b:=by
 have h1:=qgx (qab s);rw[q9q] at h1;rcases jn b (4294967296 ^ ((qab s).length+1)) with h2 | h2
 · have:=qc1 h2;omega
 · rw [jb] at h2;omega
theorem qyM {R:Type} {p q:Nat} {L:Nat} (hp:p % 2=1) (hq:q % 2=1) (hlt:q<p) (hL:(qab p).length<=L) (hL2:L<4398046511104) (x y:Nat) (hx:x<32*L) (hy:y<32*L) :
   (∀ k1 k2:List Int->Option R,(bif (decide (((qab p).length:Int)>(iadd .i64 ((qab q).length:Int) 1))) then ((qj9 (qab p) (qab q)).bind fun r10=>bif (decide ((r10.2.length:Int)=0)) then ((qjO (qab q) (mn (x:Int) (y:Int))).bind fun r11=>k1 r11) else ((qcN r10.2).bind fun r12=>(qe5 r10.2 r12).bind fun r13=>k2 r13)) else ((qhg (qab p) (qab q)).bind fun r14=>(qcN r14).bind fun r15=>(qe5 r14 r15).bind fun r16=>k2 r16))=k1 (qab (ja p q*2 ^ min x y))) \/
   (∃ m:Nat,m % 2=1/\ja m q=ja p q/\m.log2<p.log2/\m<=p/\∀ k1 k2:List Int->Option R,(bif (decide (((qab p).length:Int)>(iadd .i64 ((qab q).length:Int) 1))) then ((qj9 (qab p) (qab q)).bind fun r10=>bif (decide ((r10.2.length:Int)=0)) then ((qjO (qab q) (mn (x:Int) (y:Int))).bind fun r11=>k1 r11) else ((qcN r10.2).bind fun r12=>(qe5 r10.2 r12).bind fun r13=>k2 r13)) else ((qhg (qab p) (qab q)).bind fun r14=>(qcN r14).bind fun r15=>(qe5 r14 r15).bind fun r16=>k2 r16))=k2 (qab m)):=by
 have hlq:=qbA (jj hlt);have i1:iadd .i64 ((qab q).length:Int) 1=(((qab q).length+1:Nat):Int):=by rw[qfq]<;>omega
 rw[i1];by_cases hg:(qab q).length+1<(qab p).length
 · have c1 : ((qab p).length : Int) > (((qab q).length + 1 : Nat) : Int) := by omega
   have hr:=qEz (a:=qab p) (b:=qab q) (by omega) (by omega) (by rw[q9q];omega);rw[q9q,q9q] at hr;simp only[cnd c1,hr,bS0];by_cases h0:p % q=0
   · left
     have hs:=qx1 (n:=min x y) (qa4 q) (by omega) (by omega);rw[q9q] at hs;have em:mn (x:Int) (y:Int)=((min x y:Nat):Int):=by unfold mn;split<;>omega
     have eg:ja p q=q:=by rw[jx,jY,h0,xh]
     intro k1 k2;rw[cnd (by rw[h0,qbt];rfl),em,hs,bS0,eg]
   · right
     have hne:qab (p % q)≠[]:=fun h=>h0 (qg5.1 h)
     have c2:¬ ((qab (p % q)).length:Int)=0:=by
      intro h;apply hne;apply k9;omega
     have hml:p % q<=p:=Nat.mod_le _ _;have hlm:=qbA hml;obtain⟨z,m,hz,h1,h2,h3⟩:=qrc (qa4 (p % q)) (by omega) (by rw[q9q];exact h0);rw[q9q] at h1;obtain⟨g1,g2,g3⟩:=qv5 hp hq hlt (.inr ⟨rfl,qE0 hg⟩) h0 h1 h2;have hs:=qu1 (n:=z) (qa4 (p % q)) (by omega) (by omega);rw[q9q,h1,ka _ (ji (by decide)),<- h1] at hs;refine⟨m,h2,g1,qse g3 g2,by omega,fun k1 k2=>?_⟩;rw[cnd' c2,hz,bS0,hs,bS0]
 · right
   have c1:¬ ((qab p).length:Int)>(((qab q).length+1:Nat):Int):=by omega
   have hmi:=qyf (qa4 p) (qa4 q) (by omega) (by rw[q9q,q9q];omega);rw[q9q,q9q] at hmi;have hlm:=qbA (Nat.sub_le p q);have h0:p-q≠0:=by omega
   obtain⟨z,m,hz,h1,h2,h3⟩:=qrc (qa4 (p-q)) (by omega) (by rw[q9q];exact h0);rw[q9q] at h1;obtain⟨g1,g2,g3⟩:=qv5 hp hq hlt (.inl rfl) h0 h1 h2;have hs:=qu1 (n:=z) (qa4 (p-q)) (by omega) (by omega);rw[q9q,h1,ka _ (ji (by decide)),<- h1] at hs;refine⟨m,h2,g1,qse g3 g2,by omega,fun k1 k2=>?_⟩;rw[cnd' c1,hmi,bS0,hz,bS0,hs,bS0]
theorem qDI {p q x y L:Nat} (hp:p % 2=1) (hq:q % 2=1) (hpL:(qab p).length<=L) (hqL:(qab q).length<=L) (hL:L<4398046511104) (hx:x<32*L) (hy:y<32*L) :
  lp qct K0 ((qab p,qab q,(x:Int),(y:Int),()),())=some ((qab (ja p q*2 ^ min x y),()),()):=by
 have hlog:∀ n,(qab n).length<=L->n.log2<32*L+1:=by
  intro n hn;by_cases h0:n=0
  · subst h0;rw[Nat.log2_zero];omega
  · have h1 := qgx (qab n);rw[q9q,qCn] at h1;have:=(Nat.log2_lt h0).2 h1;omega
 obtain⟨r,rfl,hlp⟩:=qmI (step:=qct) (fun v=>∃ p' q':Nat,v=((qab p',qab q',(x:Int),(y:Int),()),())/\p' % 2=1/\q' % 2=1/\(qab p').length<=L/\(qab q').length<=L/\ja p' q'=ja p q)
  (fun v=>(nn v.1.1).log2+(nn v.1.2.1).log2) (fun r=>r=((qab (ja p q*2 ^ min x y),()),())) (v:=((qab p,qab q,(x:Int),(y:Int),()),()))
  ⟨p,q,rfl,hp,hq,hpL,hqL,rfl⟩ (by
    have h1:=hlog p hpL;have h2:=hlog q hqL;simp only[q9q];omega) (by
    rintro v ⟨p',q',rfl,hp',hq',hpl,hql,hg⟩;have ho:=qrj (n:=p') (m:=q') (by omega);have em:mn (x:Int) (y:Int)=((min x y:Nat):Int):=by unfold mn;split<;>omega
    rcases Nat.lt_trichotomy p' q' with hlt | heq | hgt
    · have e : ncmp p' q' = -1 := by simp [ncmp, hlt]
      rw[e] at ho;have hpq:ja q' p'=ja p q:=by rw[jx,hg]
      rcases qyM (R:=((List Int×Unit)×Unit)) hq' hp' hlt hql hL x y hx hy with h | ⟨m,h1,h2,h3,h4,h⟩
      · refine .inl ⟨_, rfl, fun g => ?_⟩;rw[<- hpq,qct,ho,bS0,cnd' (by decide),cnd (by decide)];exact h (fun r=>some ((r,()),())) (fun r=>g ((r,qab p',(x:Int),(y:Int),()),()))
      · refine .inr ⟨((qab m, qab p', (x : Int), (y : Int), ()), ()), ⟨m, p', rfl, h1, hp', kz (qbA h4) hql, hpl, by rw [h2, hpq]⟩, by simp only [q9q]; omega, fun g => ?_⟩;rw[qct,ho,bS0,cnd' (by decide),cnd (by decide)];exact h (fun r=>some ((r,()),())) (fun r=>g ((r,qab p',(x:Int),(y:Int),()),()))
    · subst heq;have e:ncmp p' p'=0:=by simp [ncmp]
      rw[e] at ho;refine .inl ⟨_,rfl,fun g=>?_⟩;have hs:=qx1 (n:=min x y) (qa4 p') (by omega) (by omega);rw[q9q] at hs;rw[qct,ho,bS0,cnd (by decide),em,hs,bS0,<- hg,Nat.gcd_self]
    · have e : ncmp p' q' = 1 := by simp [ncmp, hgt, jP.2 (jj hgt)]
      rw[e] at ho;rcases qyM (R:=((List Int×Unit)×Unit)) hp' hq' hgt hpl hL x y hx hy with h | ⟨m,h1,h2,h3,h4,h⟩
      · refine .inl ⟨_, rfl, fun g => ?_⟩;rw[<- hg,qct,ho,bS0,cnd' (by decide),cnd' (by decide)];exact h (fun r=>some ((r,()),())) (fun r=>g ((r,qab q',(x:Int),(y:Int),()),()))
      · refine .inr ⟨((qab m, qab q', (x : Int), (y : Int), ()), ()), ⟨m, q', rfl, h1, hq', kz (qbA h4) hpl, hql, by rw [h2, hg]⟩, by simp only [q9q]; omega, fun g => ?_⟩;rw[qct,ho,bS0,cnd' (by decide),cnd' (by decide)];exact h (fun r=>some ((r,()),())) (fun r=>g ((r,qab q',(x:Int),(y:Int),()),())))
 exact hlp
theorem qGm {a b:List Int} (ha:a.length<4398046511104) (hb:b.length<4398046511104):qsc a b=some (qab (ja (nn a) (nn b))):=by
 have h1:=qaB a;have h2:=qaB b;have ea:=q9q (nn a);have eb:=q9q (nn b);have la:=qa4 (nn a);have lb:=qa4 (nn b);rw[qsc,qe9 (by omega),bS0,qe9 (by omega),bS0];by_cases ha0:nn a=0
 · rw[ha0,qbt,cnd (by rfl),xh]
 have hne:¬ ((qab (nn a)).length:Int)=0:=by
   intro h;exact ha0 (qg5.1 (k9 (by omega)))
 rw[cnd' hne];by_cases hb0:nn b=0
 · rw[hb0,qbt,cnd (by rfl),kj]
 have hne':¬ ((qab (nn b)).length:Int)=0:=by
   intro h;exact hb0 (qg5.1 (k9 (by omega)))
 rw[cnd' hne'];have sm:∀ n,(qab n).length<=2->n<18446744073709551616:=by
   intro n hn;have h3:=qgx (qab n);rw[q9q] at h3;have h4:4294967296 ^ (qab n).length<=4294967296 ^ 2:=jh (by decide) hn;exact jA h3 h4
 have big:((qcN (qab (nn a))).bind fun r4=>(qcN (qab (nn b))).bind fun r5=>(qe5 (qab (nn a)) r4).bind fun r6=>(qe5 (qab (nn b)) r5).bind fun r7=>(lp qct K0 ((r6,r7,r4,r5,()),())).bind fun t24=>some t24.1.1)=some (qab (ja (nn a) (nn b))):=by
   obtain⟨x,p,hx,hp1,hp2,hp3⟩:=qrc la (by omega) (by rw[ea];exact ha0);obtain⟨y,q,hy,hq1,hq2,hq3⟩:=qrc lb (by omega) (by rw[eb];exact hb0);have s1:=qu1 (n:=x) la (by omega) (by omega);have s2:=qu1 (n:=y) lb (by omega) (by omega);rw[hp1,ka _ (ji (by decide))] at s1;rw[hq1,ka _ (ji (by decide))] at s2;rw[ea] at hp1;rw[eb] at hq1;have lp1:(qab p).length<=max (qab (nn a)).length (qab (nn b)).length:=by
     have:p<=nn a:=by rw[hp1];exact xi _ (ji (by decide))
     have:=qbA this;omega
   have lq1:(qab q).length<=max (qab (nn a)).length (qab (nn b)).length:=by
     have:q<=nn b:=by rw[hq1];exact xi _ (ji (by decide))
     have:=qbA this;omega
   rw[hx,bS0,hy,bS0,s1,bS0,s2,bS0,qDI hp2 hq2 lp1 lq1 (by omega) (by omega) (by omega),bS0];congr 2
   conv=>rhs;rw[hp1,hq1]
   rw[qFb hp2 hq2]
 by_cases hA:(qab (nn a)).length<=2
 · rw [cnd (by omega)];by_cases hB:(qab (nn b)).length<=2
   · rw [cnd (by omega), qBy (by omega) (by omega) (by rw [ea]; exact sm _ hA) (by rw [eb]; exact sm _ hB), ea, eb];rfl
   · rw [cnd' (by omega)];exact big
 · rw [cnd' (by omega)];exact big
def qaG (z:Int):WH:=(decide (z<0),qab z.natAbs)
def wv (a:WH):Int:=if a.1 then -((nn a.2:Nat):Int) else ((nn a.2:Nat):Int)
theorem qcY (z:Int):wv (qaG z)=z:=by
 unfold wv qaG;by_cases h:z<0
 · simp [h,q9q];omega
 · simp [h,q9q];omega
theorem qfu (a:WH):(wv a).natAbs=nn a.2:=by unfold wv;split<;>omega
theorem qou:qaG 0=(false,[]):=by simp [qaG,qbt]
theorem qzz (z:Int):(qaG z).2=qab z.natAbs:=rfl
theorem qzy (n:Nat):qaG (n:Int)=(false,qab n):=by
 unfold qaG;rw[decide_eq_false (by omega),jF]
theorem qpr {n:Nat}:((qab n).length:Int)>0 ↔ n≠0:=by
 constructor
 · intro h h0;subst h0;rw[qbt] at h;simp at h
 · intro h;have:qab n≠[]:=fun e=>h (qg5.1 e)
   have:=kA.2 this;omega
theorem qjw {n:Nat}:((qab n).length:Int)=0 ↔ n=0:=by
 have:=@qpr n;omega
theorem qmd (b:Bool) (n:Nat):qex b (qab n)=some (qaG (if b then -(n:Int) else n)):=by
 cases b with
 | false =>
  show some (false,qab n)=some (qaG (n:Int));rw[qzy]
 | true =>
  show some (decide (((qab n).length:Int)>0),qab n)=some (qaG (-(n:Int)));unfold qaG;rw[kb,jF];congr 2;rw[decide_eq_decide,qpr];omega
theorem qfv {a:WH} (h:a.2.length<35184372088832):qbX a=some (qaG (wv a)):=by
 rw[qbX,qe9 h,bS0,qmd];rfl
def icmp (x y:Int):Int:=if x<y then -1 else if y<x then 1 else 0
theorem qEk {a b:WH} (ha:a.2.length<35184372088832) (hb:b.2.length<35184372088832):ql8 a b=some (icmp (wv a) (wv b)):=by
 rw[ql8,qfv ha,bS0,qfv hb,bS0];have la:=qaB a.2;have lb:=qaB b.2;have e1:∀ x y:Int,x.natAbs=nn a.2->y.natAbs=nn b.2->qiW (qab x.natAbs) (qab y.natAbs)=some (ncmp x.natAbs y.natAbs):=by
  intro x y hx hy;rw[qCg (by rw[hx];omega) (by rw[hy];omega),q9q,q9q]
 have e2:∀ x y:Int,x.natAbs=nn a.2->y.natAbs=nn b.2->qiW (qab y.natAbs) (qab x.natAbs)=some (ncmp y.natAbs x.natAbs):=by
  intro x y hx hy;rw[qCg (by rw[hy];omega) (by rw[hx];omega),q9q,q9q]
 have hx:=qfu a;have hy:=qfu b;generalize wv a=x at *;generalize wv b=y at *;have e1:=e1 x y hx hy;have e2:=e2 x y hx hy;simp only[qaG,e1,e2];by_cases h1:x<0<;>by_cases h2:y<0<;>simp [h1,h2,icmp,ncmp]<;>(repeat' split)<;>omega
theorem qwE {a b:WH} (ha:a.2.length<17592186044416) (hb:b.2.length<17592186044416):qey a b=some (qaG (wv a*wv b)):=by
 have la:=qaB a.2;have lb:=qaB b.2;have hx:=qfu a;have hy:=qfu b;rw[qey,qfv (by omega),bS0,qfv (by omega),bS0];generalize wv a=x at *;generalize wv b=y at *;have hm:qmE (qab x.natAbs) (qab y.natAbs)=some (qab (x.natAbs*y.natAbs)):=by
  have:=qCb (a:=qab x.natAbs) (b:=qab y.natAbs) (by rw[hx];omega) (by rw[hy];omega)
  rwa [q9q,q9q] at this
 simp only[qaG,hm,bS0,qmd];have e:(x*y).natAbs=x.natAbs*y.natAbs:=jG x y;congr 1;have key:(if (!decide (x<0) == decide (y<0))=true then -(((x.natAbs*y.natAbs:Nat)):Int) else ((x.natAbs*y.natAbs:Nat):Int))=x*y:=by
  rw[kr];by_cases h1:x<0<;>by_cases h2:y<0
  · rw[show((x.natAbs:Nat):Int)=-x by omega,show((y.natAbs:Nat):Int)=-y by omega];simp [h1,h2,Int.neg_mul_neg]
  · rw[show((x.natAbs:Nat):Int)=-x by omega,show((y.natAbs:Nat):Int)=y by omega];simp [h1,h2,Int.neg_mul]
  · rw[show((x.natAbs:Nat):Int)=x by omega,show((y.natAbs:Nat):Int)=-y by omega];simp [h1,h2,Int.mul_neg]
  · rw[show((x.natAbs:Nat):Int)=x by omega,show((y.natAbs:Nat):Int)=y by omega];simp [h1,h2]
 exact congrArg qaG key
theorem qEl {a b:WH} (ha:a.2.length<17592186044416) (hb:b.2.length<17592186044416):ql9 a b=some (qaG (wv a+wv b)):=by
 have la:=qaB a.2;have lb:=qaB b.2;have hx:=qfu a;have hy:=qfu b;rw[ql9,qfv (by omega),bS0,qfv (by omega),bS0];generalize wv a=x at *;generalize wv b=y at *;have e1:qp9 (qab x.natAbs) (qab y.natAbs)=some (qab (x.natAbs+y.natAbs)):=by
   have:=qGt (a:=qab x.natAbs) (b:=qab y.natAbs) (by rw[hx];omega) (by rw[hy];omega)
   rwa [q9q,q9q] at this
 have e2:qiW (qab x.natAbs) (qab y.natAbs)=some (ncmp x.natAbs y.natAbs):=by
   have:=qCg (a:=qab x.natAbs) (b:=qab y.natAbs) (by rw[hx];omega) (by rw[hy];omega)
   rwa [q9q,q9q] at this
 have e3:qmC (qab x.natAbs) (qab y.natAbs)=if x.natAbs<y.natAbs then some ([],3) else some (qab (x.natAbs-y.natAbs),0):=by
   have:=qEd (a:=qab x.natAbs) (b:=qab y.natAbs) (by rw[hx];omega) (by rw[hy];omega)
   rwa [q9q,q9q] at this
 have e4:qmC (qab y.natAbs) (qab x.natAbs)=if y.natAbs<x.natAbs then some ([],3) else some (qab (y.natAbs-x.natAbs),0):=by
   have:=qEd (a:=qab y.natAbs) (b:=qab x.natAbs) (by rw[hy];omega) (by rw[hx];omega)
   rwa [q9q,q9q] at this
 simp only[qaG,e1,e2,bS0,qmd];by_cases hs:decide (x<0)=decide (y<0)
 · have c : (decide (x < 0) == decide (y < 0)) = true := by simp [hs]
   rw[c,cond_true];congr 1;have key:(if decide (x<0)=true then -((x.natAbs+y.natAbs:Nat):Int) else ((x.natAbs+y.natAbs:Nat):Int))=x+y:=by
     rw[decide_eq_decide] at hs;simp only[decide_eq_true_eq];split<;>omega
   exact congrArg qaG key
 · have c : (decide (x < 0) == decide (y < 0)) = false := by simpa using hs
   rw[c,cond_false];rw[decide_eq_decide] at hs;by_cases hlt:x.natAbs<y.natAbs
   · rw [e4, if_neg (by omega), show ncmp x.natAbs y.natAbs = -1 by simp [ncmp, hlt], cnd (by decide), bS0, qmd, bS0];have key:(if decide (y<0)=true then -((y.natAbs-x.natAbs:Nat):Int) else ((y.natAbs-x.natAbs:Nat):Int))=x+y:=by
      simp only[decide_eq_true_eq];split<;>omega
     exact congrArg (fun z=>some (qaG z)) key
   · have c2 : ¬ ncmp x.natAbs y.natAbs < 0 := by unfold ncmp; rw [if_neg hlt]; split <;> omega
     rw[e3,if_neg hlt,cnd' c2,bS0,qmd,bS0];have key:(if decide (x<0)=true then -((x.natAbs-y.natAbs:Nat):Int) else ((x.natAbs-y.natAbs:Nat):Int))=x+y:=by
      simp only[decide_eq_true_eq];split<;>omega
     exact congrArg (fun z=>some (qaG z)) key
theorem qz8 {a:WH} (h:a.2.length<35184372088832):qko a=some (qaG (-wv a)):=by
 rw[qko,qfv h,bS0];simp only[qaG,qmd,bS0];congr 1;have key:(if (!decide (wv a<0))=true then -(((wv a).natAbs:Nat):Int) else (((wv a).natAbs:Nat):Int))=-wv a:=by
  by_cases h:wv a<0
  · simp [h];omega
  · simp [h];omega
 exact congrArg qaG key
def isgn (x:Int):Int:=if x<0 then -1 else if x=0 then 0 else 1
theorem qxP {a:WH} (h:a.2.length<35184372088832):qjj a=some (isgn (wv a)):=by
 rw[qjj,qfv h,bS0];simp only[qaG];generalize wv a=x;by_cases h1:x<0
 · simp [h1,isgn]
 · by_cases h2 : x = 0
   · subst h2;simp [isgn,qbt]
   · have : ¬ ((qab x.natAbs).length : Int) = 0 := by rw [qjw]; omega
     simp only[decide_eq_false h1,cond_false,isgn,if_neg h1,if_neg h2];exact cnd' this
theorem qz7 {n:Int} (h:-9223372036854775808<=n) (h':n<9223372036854775808):qig n=some (qaG n):=by
 by_cases h1:n<0
 · have e : ineg .u64 (IntKind.wrap .u64 n) = ((n.natAbs : Nat) : Int) := by
    show IntKind.wrap .u64 (0-IntKind.wrap .u64 n)=_;rw[qkm,qkm];omega
   rw[qig,cnd h1,e,qxJ (by omega),bS0,qmd,bS0];simp;congr 1;omega
 · have e : IntKind.wrap .u64 n = ((n.natAbs : Nat) : Int) := by rw [qkm]; omega
   rw[qig,cnd' h1,e,qxJ (by omega),bS0,qmd,bS0];simp;congr 1;omega
def canQ (q:Rat):RAT:=(qaG q.num,qab q.den)
def rv (a:RAT):Rat:=mkRat (wv a.1) (nn a.2)
theorem qae (q:Rat):rv (canQ q)=q:=by
 rw[rv,canQ,qcY,q9q,Rat.mkRat_self]
def SzR (a:RAT) (n:Nat):Prop:=a.1.2.length<=n/\a.2.length<=n
def Sm (a:RAT):Prop:=a.1.2.length<1099511627776/\a.2.length<1099511627776
def SzQ (q:Rat) (n:Nat):Prop:=q.num.natAbs<4294967296 ^ n/\q.den<4294967296 ^ n
theorem SzR.sm {a:RAT} {n:Nat} (h:SzR a n) (hn:n<1099511627776):Sm a:=⟨by have:=h.1;omega,by have:=h.2;omega⟩
theorem SzQ.szR {q:Rat} {n:Nat} (h:SzQ q n):SzR (canQ q) n:=⟨qc1 h.1,qc1 h.2⟩
theorem SzQ.sm {q:Rat} {n:Nat} (h:SzQ q n) (hn:n<1099511627776):Sm (canQ q):=h.szR.sm hn
theorem SzQ.mono {q:Rat} {n m:Nat} (h:SzQ q n) (hm:n<=m):SzQ q m:=by
 have:=jh (n:=4294967296) (by decide) hm;exact⟨jA h.1 this,jA h.2 this⟩
theorem qup {z:Int} {d n:Nat} (hz:z.natAbs<4294967296 ^ n) (hd:d<4294967296 ^ n) (hn:0<n):SzQ (mkRat z d) n:=by
 have hp:1<4294967296 ^ n:=by
   have:=jh (n:=4294967296) (by decide) hn;omega
 by_cases h0:d=0
 · subst h0;rw[xj];exact⟨by simpa using js (Nat.zero_le _) hp,by simpa using hp⟩
 · have h1 := xk z d;have h2:=xl z d;rw[if_neg h0] at h1 h2;constructor
   · rw [h1, xn (xo.2 (Nat.gcd_dvd_right _ _))];exact js (xp _ _) hz
   · rw[h2];exact js (xp _ _) hd
theorem SzR.szQ {a:RAT} {n:Nat} (h:SzR a n) (hn:0<n):SzQ (rv a) n:=by
 refine qup ?_ ?_ hn
 · rw[qfu];exact jA (qgx _) (jh (by decide) h.1)
 · exact jA (qgx _) (jh (by decide) h.2)
theorem SzQ.pos {q:Rat} {n:Nat} (h:SzQ q n):0<n:=by
 rcases jo n with h0 | h0
 · subst h0;have:=h.2;have:=q.den_pos;simp at *;omega
 · exact h0
theorem SzQ.mul {p q:Rat} {n m:Nat} (hp:SzQ p n) (hq:SzQ q m):SzQ (p*q) (n+m):=by
 have h0:=hp.pos;rw[Rat.mul_def'];refine qup ?_ ?_ (by omega)
 · rw[jG,je];exact jz hp.1 hq.1
 · rw[je];exact jz hp.2 hq.2
theorem SzQ.add {p q:Rat} {n m:Nat} (hp:SzQ p n) (hq:SzQ q m):SzQ (p+q) (n+m+1):=by
 have h0:=hp.pos;rw[Rat.add_def'];have h1:(p.num*q.den).natAbs<4294967296 ^ (n+m):=by rw[jG,je,jF];exact jz hp.1 hq.2
 have h2:(q.num*p.den).natAbs<4294967296 ^ (n+m):=by rw[jG,kf,je,jF];exact jz hq.1 hp.2
 have h3:p.den*q.den<4294967296 ^ (n+m):=by rw[je];exact jz hp.2 hq.2
 have h4:4294967296 ^ (n+m+1)=4294967296 ^ (n+m)*4294967296:=jb ..;refine qup ?_ (by omega) (by omega);have:=xq (p.num*q.den) (q.num*p.den);omega
theorem SzQ.neg {p:Rat} {n:Nat} (hp:SzQ p n):SzQ (-p) n:=by
 refine⟨?_,hp.2⟩;rw[Rat.neg_num,kb];exact hp.1
theorem SzQ.sub {p q:Rat} {n m:Nat} (hp:SzQ p n) (hq:SzQ q m):SzQ (p-q) (n+m+1):=by
 rw[xr];exact hp.add hq.neg
theorem SzQ.inv {p:Rat} {n:Nat} (hp:SzQ p n):SzQ p⁻¹ n:=by
 have h0:=hp.pos;have:1<4294967296 ^ n:=by
   have:=jh (n:=4294967296) (by decide) h0;omega
 constructor
 · rw [Rat.num_inv, jG, jF];have h1:p.num.sign.natAbs<=1:=by
     rcases Int.lt_trichotomy p.num 0 with h | h | h
     · rw[Int.sign_eq_neg_one_of_neg h];decide
     · rw[h];decide
     · rw[Int.sign_eq_one_of_pos h];decide
   have h2:=jm p.den h1;have:=hp.2;omega
 · rw [Rat.den_inv]; split
   · exact this
   · exact hp.1
theorem SzQ.div {p q:Rat} {n m:Nat} (hp:SzQ p n) (hq:SzQ q m):SzQ (p/q) (n+m):=by
 rw[kB];exact hp.mul hq.inv
theorem SzQ.int {z:Int} (h:z.natAbs<4294967296):SzQ (z:Rat) 1:=⟨by simpa using h,by simp⟩
theorem SzQ.zero:SzQ 0 1:=⟨by simp,by simp⟩
theorem SzQ.one:SzQ 1 1:=⟨by simp,by simp⟩
theorem qsp {z:Int} {d:Nat} (hz:(qab z.natAbs).length<4398046511104) (hd:(qab d).length<4398046511104) (h0:d≠0):qfk (qaG z) (qab d)=some (canQ (mkRat z d)):=by
 by_cases hz0:z=0
 · subst hz0;have:=qxJ (n:=1) (by decide);rw[qfk,qou];simp only[ki];rw[cnd (by rfl)];rw[show((1:Nat):Int)=1 from rfl] at this;rw[this,Rat.zero_mkRat,canQ];simp [qou]
 · have hne : ¬ ((qab z.natAbs).length : Int) = 0 := by rw [qjw]; omega
   have hg:=qGm hz hd;rw[q9q,q9q] at hg;have hgpos:0<ja z.natAbs d:=Nat.gcd_pos_of_pos_right _ (jK h0);have hgle:ja z.natAbs d<=d:=kT _ (jK h0);have hglen:=qbA hgle;have hgne:nn (qab (ja z.natAbs d))≠0:=by rw[q9q];omega
   have d1:=qsO hz (show(qab (ja z.natAbs d)).length<4398046511104 by omega) hgne;have d2:=qsO hd (show(qab (ja z.natAbs d)).length<4398046511104 by omega) hgne;rw[q9q,q9q] at d1 d2;have hres:((decide (z<0),qab (z.natAbs/ja z.natAbs d)),qab (d/ja z.natAbs d))=canQ (mkRat z d):=by
     have h1:=xk z d;have h2:=xl z d;rw[if_neg h0,jx] at h1 h2;have hdv:((ja z.natAbs d:Nat):Int) ∣ z:=xo.2 (Nat.gcd_dvd_left _ _);unfold canQ qaG;rw[h1,h2,xn hdv,jF];congr 2;rw[decide_eq_decide];obtain⟨c,hc⟩:=hdv;generalize ((ja z.natAbs d:Nat))=G at *;have hG:(0:Int)<(G:Int):=by omega
     have : z / (G : Int) = c := by conv => lhs; rw [hc]
                                    exact Int.mul_ediv_cancel_left _ (by omega)
     rw[this];constructor
     · intro h;by_cases h3:c<0
       · exact h3
       · have:=kd (Int.le_of_lt hG) (Int.not_lt.1 h3);omega
     · intro h;have:=Int.mul_neg_of_pos_of_neg hG h;omega
   rw[qaG,qfk];rw[cnd' hne,hg,bS0];by_cases h1:ja z.natAbs d=1
   · have e1 : qab 1 = [1] := by rw [qgI (by decide) (by decide)]; rfl
     rw[<- hres,h1,e1];simp
   · by_cases hl : (qab (ja z.natAbs d)).length = 1
     · have hg32 : ja z.natAbs d < 4294967296 := by
         have:=qgx (qab (ja z.natAbs d));rw[q9q,hl] at this;simpa using this
       have hls:=qgI (Nat.ne_of_gt hgpos) hg32;rw[cnd (by omega),cnd (by omega),d1,d2];rw[hls,jX,bS0,cnd' (by omega)];simp only[bS0];rw[hres]
     · rw [cnd' (by omega), d1, d2];simp only[bS0];rw[hres]
theorem qdx:qdE=some (canQ 0):=by
 have:=qxJ (n:=1) (by decide);rw[qdE];rw[show((1:Nat):Int)=1 from rfl] at this;rw[this,canQ];simp [qou]
theorem qbf {a:RAT} (h:Sm a):qbK a=some (canQ (rv a)):=by
 have h1:=h.1;have h2:=h.2;have l1:=qaB a.1.2;have l2:=qaB a.2;rw[qbK,qe9 (by omega),bS0];by_cases h0:nn a.2=0
 · rw[h0,qbt,cnd (by rfl),qdx,bS0,rv,h0,xj]
 · rw [cnd' (by rw [qjw]; exact h0), qfv (by omega), bS0, qsp (by rw [qfu]; omega) (by omega) h0];rfl
theorem qjc (x y:Nat):(qab (x*y)).length<=(qab x).length+(qab y).length:=by
 apply qc1;have a1:=qgx (qab x);have a2:=qgx (qab y);rw[q9q] at a1 a2;rw[je];exact jz a1 a2
theorem quq (x y:Nat):(qab (x+y)).length<=max (qab x).length (qab y).length+1:=by
 apply qc1;have a1:=qgx (qab x);have a2:=qgx (qab y);rw[q9q] at a1 a2;have h1:=jh (n:=4294967296) (by decide) (Nat.le_max_left (qab x).length (qab y).length);have h2:=jh (n:=4294967296) (by decide) (Nat.le_max_right (qab x).length (qab y).length);rw[jb];omega
theorem Sm.can {a:RAT} (h:Sm a):Sm (canQ (rv a)):=by
 have h1:SzR a (max 1 (max a.1.2.length a.2.length)):=⟨by omega,by omega⟩;exact(h1.szQ (by omega)).sm (by have:=h.1;have:=h.2;omega)
theorem Sm.num {q:Rat} (h:Sm (canQ q)):(qab q.num.natAbs).length<1099511627776:=h.1
theorem Sm.den {q:Rat} (h:Sm (canQ q)):(qab q.den).length<1099511627776:=h.2
def rcmp (p q:Rat):Int:=if p<q then -1 else if q<p then 1 else 0
theorem qyo (p q:Rat):icmp (p.num*q.den) (q.num*p.den)=rcmp p q:=by
 unfold icmp rcmp;simp only[Rat.lt_iff]
theorem qDR (n:Nat):wv (false,qab n)=(n:Int):=by simp [wv,q9q]
theorem qui {p q:Rat} (n1:(qab p.num.natAbs).length<1099511627776) (n2:(qab q.den).length<1099511627776):qey (qaG p.num) (false,qab q.den)=some (qaG (p.num*q.den)):=by
 have:=qwE (a:=qaG p.num) (b:=(false,qab q.den)) (by show(qab p.num.natAbs).length<_;omega) (by show(qab q.den).length<_;omega)
 rwa [qcY,qDR] at this
theorem qlB {p q:Rat} (n1:(qab p.num.natAbs).length<1099511627776) (n2:(qab q.den).length<1099511627776):(qaG (p.num*q.den)).2.length<2199023255552:=by
 have:=qjc p.num.natAbs q.den;show(qab (p.num*q.den).natAbs).length<_;rw[jG,jF];omega
theorem qqP {a b:RAT} (ha:Sm a) (hb:Sm b):qkE a b=some (rcmp (rv a) (rv b)):=by
 have sa:=ha.can;have sb:=hb.can;rw[qkE,qbf ha,bS0,qbf hb,bS0];generalize rv a=p at *;generalize rv b=q at *;have l1:=qlB (p:=p) (q:=q) sa.num sb.den;have l2:=qlB (p:=q) (q:=p) sb.num sa.den;have m3:=qEk (a:=qaG (p.num*q.den)) (b:=qaG (q.num*p.den)) (by omega) (by omega);rw[qcY,qcY,qyo] at m3;simp only[qgn,bS0,canQ,qui sa.num sb.den,qui sb.num sa.den,m3]
theorem qbN {a b:RAT} (ha:Sm a) (hb:Sm b):qaU a b=some (canQ (rv a+rv b)):=by
 have sa:=ha.can;have sb:=hb.can;rw[qaU,qbf ha,bS0,qbf hb,bS0];generalize rv a=p at *;generalize rv b=q at *;have l1:=qlB (p:=p) (q:=q) sa.num sb.den;have l2:=qlB (p:=q) (q:=p) sb.num sa.den;have m3:=qEl (a:=qaG (p.num*q.den)) (b:=qaG (q.num*p.den)) (by omega) (by omega);rw[qcY,qcY] at m3;have n1:=sa.num;have n2:=sa.den;have n3:=sb.num;have n4:=sb.den;have m4:=qCb (a:=qab p.den) (b:=qab q.den) (by omega) (by omega);rw[q9q,q9q] at m4;have m5:=qsp (z:=p.num*q.den+q.num*p.den) (d:=p.den*q.den) (by
  have h1:=quq (p.num*q.den).natAbs (q.num*p.den).natAbs;have h2:=qbA (xq (p.num*q.den) (q.num*p.den));simp only[qaG] at l1 l2;omega) (by
  have:=qjc p.den q.den;omega) (xt p.den_nz q.den_nz)
 simp only[qgn,bS0,canQ,qui sa.num sb.den,qui sb.num sa.den,m3,m4,m5];rw[Rat.add_def']
theorem qax {a b:RAT} (ha:Sm a) (hb:Sm b):qaj a b=some (canQ (rv a*rv b)):=by
 have sa:=ha.can;have sb:=hb.can;rw[qaj,qbf ha,bS0,qbf hb,bS0];generalize rv a=p at *;generalize rv b=q at *;have n1:=sa.num;have n2:=sa.den;have n3:=sb.num;have n4:=sb.den;have m3:=qwE (a:=qaG p.num) (b:=qaG q.num) (by show(qab _).length<_;omega) (by show(qab _).length<_;omega);rw[qcY,qcY] at m3;have m4:=qCb (a:=qab p.den) (b:=qab q.den) (by omega) (by omega);rw[q9q,q9q] at m4;have m5:=qsp (z:=p.num*q.num) (d:=p.den*q.den) (by
  have h1:=qjc p.num.natAbs q.num.natAbs;rw[jG];omega) (by
  have:=qjc p.den q.den;omega) (xt p.den_nz q.den_nz)
 simp only[bS0,canQ,m3,m4,m5];rw[Rat.mul_def']
theorem qqI {a:RAT} (ha:Sm a):qjG a=some (canQ (-rv a)):=by
 have sa:=ha.can;rw[qjG,qbf ha,bS0];generalize rv a=p at *;have n1:=sa.num;have m:=qz8 (a:=qaG p.num) (by show(qab _).length<_;omega);rw[qcY] at m;simp only[canQ,m,bS0];rfl
theorem Sm.neg {q:Rat} (h:Sm (canQ q)):Sm (canQ (-q)):=by
 refine⟨?_,h.2⟩;show(qab (-q.num).natAbs).length<_;rw[kb];exact h.1
theorem qfE {a b:RAT} (ha:Sm a) (hb:Sm b):qcZ a b=some (canQ (rv a-rv b)):=by
 rw[qcZ,qqI hb,bS0,qbN ha hb.can.neg,bS0,qae,xr]
theorem qE7 {y:Int} (h:y≠0):¬ isgn y=0:=by
 unfold isgn;(repeat' split)<;>omega
theorem qDa (q:Rat):isgn q.num=rcmp q 0:=by
 have h:∀ x:Int,isgn x=icmp x 0:=by
  intro x;unfold isgn icmp
  (repeat' split)<;>omega
 rw[<- qyo,h,Rat.zero_den,Rat.zero_num,Int.zero_mul];rw[show((1:Nat):Int)=1 from rfl,Int.mul_one]
theorem qo8 {a:RAT} (ha:Sm a):qjo a=some (rcmp (rv a) 0):=by
 have sa:=ha.can;rw[qjo,qbf ha,bS0];generalize rv a=p at *;have n1:=sa.num;have m:=qxP (a:=qaG p.num) (by show(qab _).length<_;omega);rw[qcY,qDa] at m;simp only[canQ,m,bS0]
def rabs (q:Rat):Rat:=if q<0 then -q else q
theorem qwS {n:Int} (h:-9223372036854775808<=n) (h':n<9223372036854775808):qj7 n=some (canQ (n:Rat)):=by
 have:=qxJ (n:=1) (by decide);rw[show((1:Nat):Int)=1 from rfl] at this;rw[qj7,qz7 h h',bS0,this,bS0];rfl
theorem qmj:qhc=some (canQ 1):=by
 rw[qhc,qwS (by decide) (by decide)];rfl
theorem qlh {a b:WH} (ha:a.2.length<1099511627776) (hb:b.2.length<1099511627776) :
   qhY a b=if wv b=0 then some (((false,[]),[]),2) else some (canQ ((wv a:Rat)/(wv b:Rat)),0):=by
 have la:=qaB a.2;have lb:=qaB b.2;rw[qhY,qfv (by omega),bS0,qfv (by omega),bS0];have hx:=qfu a;have hy:=qfu b;generalize wv a=x at *;generalize wv b=y at *;have m:=qxP (a:=qaG y) (by show(qab _).length<_;rw[hy];omega)
 rw[qcY] at m;rw[m,bS0];by_cases h0:y=0
 · subst h0;rfl
 · rw [if_neg h0, cnd' (qE7 h0)];by_cases hneg:y<0
   · have e : (qaG y).1 = true := decide_eq_true hneg;have mn:=qz8 (a:=qaG x) (by show(qab _).length<_;rw[hx];omega)
     rw[qcY] at mn;have mf:=qsp (z:=-x) (d:=y.natAbs) (by rw[kb,hx];omega) (by rw[hy];omega) (by omega);rw[e,cond_true,mn,bS0];rw[show(qaG y).2=qab y.natAbs from rfl,mf,bS0,<- kC,<- xu];rw[show((y.natAbs:Nat):Int)=-y by omega,Rat.neg_divInt_neg]
   · have e : (qaG y).1 = false := decide_eq_false hneg;have mf:=qsp (z:=x) (d:=y.natAbs) (by rw[hx];omega) (by rw[hy];omega) (by omega);rw[e,cond_false];rw[show(qaG y).2=qab y.natAbs from rfl,mf,bS0,<- kC,<- xu];rw[show((y.natAbs:Nat):Int)=y by omega]
theorem qvq {q:Rat}:q.num=0 ↔ q=0:=Rat.num_eq_zero
theorem qqL {a:RAT} (ha:Sm a):qkD a=if rv a=0 then some (((false,[]),[]),2) else some (canQ (rv a)⁻¹,0):=by
 have sa:=ha.can;rw[qkD,qbf ha,bS0];generalize rv a=p at *;have n1:=sa.num;have n2:=sa.den;have m:=qlh (a:=(false,qab p.den)) (b:=qaG p.num) (by show(qab _).length<_;omega) (by show(qab _).length<_;omega);rw[qcY,qDR] at m;simp only[qgn,bS0,canQ];simp only[canQ] at m;rw[m];simp only[qvq];by_cases h:p=0
 · simp [h]
 · simp only [if_neg h, bS0];rw[Rat.inv_def,kC]
theorem qqN {a b:RAT} (ha:Sm a) (hb:Sm b):qjH a b=if rv b=0 then some (((false,[]),[]),2) else some (canQ (rv a/rv b),0):=by
 rw[qjH,qqL hb];by_cases h:rv b=0
 · simp [h]
 · have si : Sm (canQ (rv b)⁻¹) := by
    have h1:SzR b (max 1 (max b.1.2.length b.2.length)):=⟨by omega,by omega⟩;exact(h1.szQ (by omega)).inv.sm (by have:=hb.1;have:=hb.2;omega)
   rw[if_neg h,if_neg h,bS0];simp only[qax ha si,qae,bS0,kB];rfl
theorem qli {n d:Int} (h:-9223372036854775808<=n) (h':n<9223372036854775808) (hd:-9223372036854775808<=d) (hd':d<9223372036854775808):qdc n d=some (canQ ((n:Rat)/(d:Rat))):=by
 have len:∀ z:Int,-9223372036854775808<=z->z<9223372036854775808->(qaG z).2.length<=2:=by
   intro z h1 h2;exact qc1 (by omega)
 have l1:=len n h h';have l2:=len d hd hd';rw[qdc,qz7 h h',bS0,qz7 hd hd',bS0,qlh (by omega) (by omega),qcY,qcY];by_cases h0:d=0
 · subst h0;rw[if_pos rfl,bS0,qbf (a:=((false,[]),[])) ⟨by decide,by decide⟩];have:rv ((false,[]),[])=0:=by simp [rv]
   rw[this];have e:(n:Rat)/((0:Int):Rat)=0:=by rw[kB];simp
   rw[e];rfl
 · rw [if_neg h0, bS0, qbf, bS0, qae];have a1:SzQ (n:Rat) 2:=⟨by rw[xw];omega,by simp⟩;have a2:SzQ (d:Rat) 2:=⟨by rw[xw];omega,by simp⟩;exact(a1.div a2).sm (by decide)
theorem qt7 {a b:RAT} (ha:Sm a) (hb:Sm b):qjp a b=some (decide (rv a=rv b)):=by
 rw[qjp,qqP ha hb,bS0];congr 1;rw[decide_eq_decide];unfold rcmp;generalize rv a=p;generalize rv b=q;constructor
 · intro h;by_cases h1:p<q
   · simp [h1] at h
   · by_cases h2 : q < p
     · simp [h1,h2] at h
     · exact Rat.le_antisymm (kD.1 h2) (kD.1 h1)
 · rintro rfl;simp [Rat.lt_irrefl]
def cutR (k:Nat) (a:RAT):RAT:=((a.1.1,a.1.2.take k),a.2.take k)
theorem qsH (k:Nat) (a:RAT):SzR (cutR k a) k:=⟨by simp [cutR];omega,by simp [cutR];omega⟩
theorem qjb {α J:Type} (f:α->J) {l:List α} {i:Nat} (h:i<l.length):(l.take (i+1)).map f=(l.take i).map f++[f l[i]]:=by
 rw[kM h,List.map_append];rfl
theorem qAD {p q:Rat} (h:p<q) (h':q<p):False:=by grind
def pre (v:Nat->Rat) (i j:Nat):Prop:=v j<v i\/(v i=v j/\i<j)
def ints (o:List Nat):List Int:=o.map fun(i:Nat)=>(i:Int)
@[simp] theorem qDb (o:List Nat):(ints o).length=o.length:=by simp [ints]
def vals (l:List RAT) (i:Nat):Rat:=rv ((l[i]?).getD ((false,[]),[]))
theorem qCi {l:List RAT} {i:Nat} (h:i<l.length):vals l i=rv l[i]:=by simp [vals,h]
theorem qx6 {p q:Rat}:rcmp p q>0 ↔ q<p:=by
 unfold rcmp;by_cases h:p<q
 · have : ¬ q < p := fun h' => qAD h h'
   simp [h,this]
 · by_cases h2:q<p<;>simp [h,h2]
theorem qx7 {p q:Rat}:rcmp p q<0 ↔ p<q:=by
 unfold rcmp;by_cases h:p<q
 · simp [h]
 · by_cases h2:q<p<;>simp [h,h2]
def qgm (n:Nat) (o:List Nat):List Bool:=(List.range n).map fun j=>decide (j∈o)
@[simp] theorem qth (n:Nat) (o:List Nat):(qgm n o).length=n:=by simp [qgm]
theorem qkr {n:Nat} {o:List Nat} {j:Nat} (h:j<n):(qgm n o)[j]?=some (decide (j∈o)):=by simp [qgm,h]
theorem qyS {n:Nat} {o:List Nat} {b:Nat} (h:b<n):(qgm n o).set b true=qgm n (o++[b]):=by
 apply List.ext_getElem?;intro j;rw[List.getElem?_set];by_cases hj:j<n
 · rw [qkr hj];by_cases hb:b=j
   · subst hb;simp [h,qgm]
   · rw [if_neg hb, qkr hj];simp [show ¬ j=b from fun e=>hb e.symm]
 · rw [jT (by simp; omega), jT (by simp; omega)];split
   · rw[if_neg (by simp;omega)]
   · rfl
theorem qwY (a:RAT):qdX a=some (cutR 3 a):=by
 obtain⟨⟨s,x⟩,y⟩:=a;unfold qdX cutR;by_cases h1:3<x.length
 · have c1 : ((x.length : Nat) : Int) > 3 := by omega
   have c2:(3:Int)<=((x.length:Nat):Int):=by omega
   by_cases h2:3<y.length
   · have c3 : ((y.length : Nat) : Int) > 3 := by omega
     have c4:(3:Int)<=((y.length:Nat):Int):=by omega
     rw[cnd c1,cnd c2,cnd c3,cnd c4]
   · have c3 : ¬ ((y.length : Nat) : Int) > 3 := by omega
     rw[cnd c1,cnd c2,cnd' c3,jd (l:=y) (by omega)]
 · have c1 : ¬ ((x.length : Nat) : Int) > 3 := by omega
   by_cases h2:3<y.length
   · have c3 : ((y.length : Nat) : Int) > 3 := by omega
     have c4:(3:Int)<=((y.length:Nat):Int):=by omega
     rw[cnd' c1,cnd c3,cnd c4,jd (l:=x) (by omega)]
   · have c3 : ¬ ((y.length : Nat) : Int) > 3 := by omega
     rw[cnd' c1,cnd' c3,jd (l:=x) (by omega),jd (l:=y) (by omega)]
def qkl (c:CELL):CELL:=(c.1,cutR 3 c.2)
theorem qDK (l:List CELL) (n:Nat) (hl:l.length<=9223372036854775807) (hn:n<1000000):qdm l (n:Int)=some ((l.take n).map qkl):=by
 have hnn:min l.length n<=l.length:=Nat.min_le_left _ _;have key:=qfM (step:=qbc) (fun i=>((l,(n:Int),(l.take i).map qkl,(i:Int),()),())) (min l.length n) (r:=(((l.take n).map qkl,()),())) (by omega) (by
  intro g i hi;have h1:i<l.length:=by omega
  have c1:(i:Int)<((l.length:Nat):Int):=by omega
  have c2:(i:Int)<(n:Int):=by omega
  have c3:(0:Int)<=(i:Int):=by omega
  have c4:(Nat.ble ((((l.take i).map qkl).length+1)*64) 140737488355328&&!false)=true:=by
    have:(((l.take i).map qkl).length+1)*64<=140737488355328:=by simp;omega
    simp only[Nat.ble_eq,this,xx,jR]
  rw[qbc,cnd c1,cnd c2,cnd c3,tN0,gE0 h1,bS0,qwY,bS0,c4,cond_true,qaV (by omega),qjb _ h1];rfl) (by
  intro g;by_cases h:l.length<=n
  · have c1 : ¬ ((min l.length n : Nat) : Int) < ((l.length : Nat) : Int) := by omega
    rw[qbc,cnd' c1,jf h,jd (jB _),jd h]
  · have c1 : ((min l.length n : Nat) : Int) < ((l.length : Nat) : Int) := by omega
    have c2:¬ ((min l.length n:Nat):Int)<(n:Int):=by omega
    rw[qbc,cnd c1,cnd' c2,xg (by omega)])
 rw[qdm];rw[show((l,(n:Int),([]:List CELL),(0:Int),()),())=(((l,(n:Int),(l.take 0).map qkl,((0:Nat):Int),()),()):(List CELL×Int×List CELL×Int×Unit)×Unit) from rfl,key];rfl
theorem qAG {p q:Rat}:rcmp p q<=0 ↔ p<=q:=by
 rw[<- kD,<- qx6];omega
def dd:List Int->Nat
 | []=>0
 | x::r=>(x % 10000).toNat+10000*dd r
@[simp] theorem qGh:dd []=0:=rfl
def Dig (a:List Int):Prop:=∀ x∈a,0<=x/\x<10000
theorem Dig.nil:Dig []:=by intro x h;cases h
theorem Dig.cons {x:Int} {a:List Int} (h:0<=x/\x<10000) (ha:Dig a):Dig (x::a):=by
 intro y hy;rcases List.mem_cons.1 hy with rfl | hy
 · exact h
 · exact ha y hy
theorem Dig.append {a b:List Int} (ha:Dig a) (hb:Dig b):Dig (a++b):=by
 intro y hy;rcases List.mem_append.1 hy with hy | hy
 · exact ha y hy
 · exact hb y hy
theorem Dig.take {a:List Int} (ha:Dig a) (n:Nat):Dig (a.take n):=fun x h=>ha x (List.mem_of_mem_take h)
theorem Dig.get {a:List Int} (ha:Dig a) {i:Nat} {x:Int} (h:a[i]?=some x):0<=x/\x<10000:=ha x (List.mem_of_getElem? h)
theorem Dig.zeros (n:Nat):Dig (j9 n 0):=by
 intro x h;have:=(List.mem_replicate.1 h).2;omega
theorem Dig.set {a:List Int} (ha:Dig a) {i:Nat} {x:Int} (h:0<=x/\x<10000):Dig (a.set i x):=by
 intro y hy;rcases List.mem_or_eq_of_mem_set hy with hy | rfl
 · exact ha y hy
 · exact h
theorem qgB (a b:List Int):dd (a++b)=dd a+10000 ^ a.length*dd b:=by
 induction a with
 | nil=>simp
 | cons x a ih=>simp only[List.cons_append,dd,ih,jD,jb];grind
theorem qDr (n:Nat):dd (j9 n 0)=0:=by
 induction n with
 | zero=>rfl
 | succ n ih=>simp [jN,dd,ih]
theorem qta (a:List Int):dd a<10000 ^ a.length:=by
 induction a with
 | nil=>simp
 | cons x a ih =>
  simp only[dd,jD,jb];have:(x % 10000).toNat<10000:=by omega
  have h2:10000*(dd a+1)<=10000*10000 ^ a.length:=jc _ ih;rw[jg (10000 ^ a.length)];omega
theorem qyC (x:Int) (h:0<=x/\x<10000):dd [x]=x.toNat:=by
 simp only[dd];omega
theorem qwm {a:List Int} {i:Nat} {x:Int} (h:a[i]?=some x):dd (a.take (i+1))=dd (a.take i)+10000 ^ i*(x % 10000).toNat:=by
 have hi:=(List.getElem?_eq_some_iff.1 h).1;have e:a.take (i+1)=a.take i++[x]:=by rw[kc,h];rfl
 rw[e,qgB,jk,jf (by omega)];simp [dd]
theorem qsG {a:List Int} {i:Nat} (h:a.length<=i):dd (a.take i)=dd a:=by rw[jd h]
def digs (n:Nat):List Int:=if h:n=0 then [] else ((n % 10000:Nat):Int)::digs (n/10000)
termination_by n
decreasing_by omega
theorem qee:digs 0=[]:=by rw[digs];rfl
theorem qpC {n:Nat} (h:n≠0):digs n=((n % 10000:Nat):Int)::digs (n/10000):=by
 rw[digs];simp [h]
theorem qdb (n:Nat):dd (digs n)=n:=by
 induction n using xy with
 | _ n ih =>
  by_cases h:n=0
  · subst h;rw[qee];rfl
  · rw[qpC h];simp only[dd];rw[ih _ (by omega)];omega
theorem qeu (n:Nat):Dig (digs n):=by
 induction n using xy with
 | _ n ih =>
  by_cases h:n=0
  · subst h;rw[qee];exact Dig.nil
  · rw[qpC h];exact Dig.cons (by omega) (ih _ (by omega))
theorem qxu {n:Nat}:digs n=[] ↔ n=0:=by
 constructor
 · intro h;have:=qdb n;rw[h] at this;exact this.symm
 · rintro rfl;exact qee
def DCan (a:List Int):Prop:=Dig a/\∀ x,a.getLast?=some x->x≠0
theorem qxx:∀ {a:List Int},DCan a->a=digs (dd a)
 | [],_=>by rw[qGh,qee]
 | x::r,h=>by
  have hx:=h.1 x kn;have hr:DCan r:=⟨fun y hy=>h.1 y (kV _ hy),fun y hy=>h.2 y (by rw[List.getLast?_cons,hy];rfl)⟩;have ih:=qxx hr;have hne:dd (x::r)≠0:=by
   simp only[dd];cases r with
   | nil=>have:=h.2 x rfl;simp;omega
   | cons y r' =>
    have:dd (y::r')≠0:=fun e=>by rw[e,qee] at ih;cases ih
    omega
  rw[qpC hne];simp only[dd];have e1:((x % 10000).toNat+10000*dd r)/10000=dd r:=by omega
  have e2:((((x % 10000).toNat+10000*dd r) % 10000:Nat):Int)=x:=by omega
  rw[e1,e2,<- ih]
theorem qdR {n k:Nat} (h:n<10000 ^ k):(digs n).length<=k:=by
 induction k generalizing n with
 | zero => have : n = 0 := by simpa using h
           subst this;rw[qee];simp
 | succ k ih =>
  by_cases h0:n=0
  · subst h0;rw[qee];simp
  · rw [qpC h0, jD];have:=ih (n:=n/10000) (by rw[jW (by decide)];rw[jb] at h;exact h)
    omega
theorem qxt {n k:Nat} (h:10000 ^ k<=n):k<(digs n).length:=by
 have:=qta (digs n);rw[qdb] at this;rcases jn k (digs n).length with h1 | h1
 · exact h1
 · have := jh (n := 10000) (by decide) h1;omega
theorem qxv (a:List Int):(digs (dd a)).length<=a.length:=qdR (qta a)
theorem dnnt {a:List Int} {i:Nat} (h:i<a.length):dd (a.take (i+1))=dd (a.take i)+10000 ^ i*(a[i] % 10000).toNat:=qwm (gE0 h)
theorem Dig.at {a:List Int} (ha:Dig a) {i:Nat} (h:i<a.length):0<=a[i]/\a[i]<10000:=ha _ (gM0 h)
theorem qyB {a:List Int} {i:Nat} (h:i<a.length):dd a=dd (a.take i)+10000 ^ i*((a[i] % 10000).toNat+10000*dd (a.drop (i+1))):=by
 have e:a=a.take i++(a[i]::a.drop (i+1)):=by simp
 conv=>lhs;rw[e]
 rw[qgB];simp [dd,jf (jj h)]
theorem qyD {a b:List Int} (ha:Dig a) (hb:Dig b) {i:Nat} (h:i<a.length) (h':i<b.length) (hd:a.drop (i+1)=b.drop (i+1)) (hlt:a[i]<b[i]):dd a<dd b:=by
 rw[qyB h,qyB h',hd];have h1:=qta (a.take i);rw[jk,jf (jj h)] at h1;have ha:=ha.at h;have hb:=hb.at h';have h2:(a[i] % 10000).toNat+1<=(b[i] % 10000).toNat:=by omega
 have h3:10000 ^ i*((a[i] % 10000).toNat+1+10000*dd (b.drop (i+1)))<=10000 ^ i*((b[i] % 10000).toNat+10000*dd (b.drop (i+1))):=jc _ (by omega);have h4:10000 ^ i*((a[i] % 10000).toNat+1+10000*dd (b.drop (i+1)))=10000 ^ i+10000 ^ i*((a[i] % 10000).toNat+10000*dd (b.drop (i+1))):=by grind
 omega
theorem qsk {n m:Nat} (h:(digs n).length<(digs m).length):n<m:=by
 have h1:=qta (digs n);rw[qdb] at h1;rcases jn m (10000 ^ (digs n).length) with h2 | h2
 · have:=qdR h2;omega
 · omega
theorem qur {a:List Int} (ha:Dig a) (i:Nat):0<=lget a i/\lget a i<10000:=by
 unfold lget;cases h:a[i]? with
 | none=>simp
 | some x=>exact ha.get h
theorem qkd (a:List Int) (i:Nat):dd (a.take (i+1))=dd (a.take i)+10000 ^ i*(lget a i % 10000).toNat:=by
 by_cases h:i<a.length
 · rw[dnnt h];simp [lget,h]
 · rw [jd (by omega), jd (by omega)];simp [lget,h]
theorem quI {b:List Int} {k:Nat} (h:dd b<10000 ^ k):dd (b.take k)=dd b:=by
 by_cases hk:b.length<=k
 · rw[jd hk]
 have e:dd b=dd (b.take k)+10000 ^ k*dd (b.drop k):=by
   conv=>lhs;rw[<- jQ k b]
   rw[qgB,jk,jf (by omega)]
 rcases jo (dd (b.drop k)) with h0 | h0
 · rw[h0] at e;omega
 · have : 10000 ^ k * 1 <= 10000 ^ k * dd (b.drop k) := jc _ h0;omega
theorem qGg {u:List Int} (hu:Dig u) {j:Nat} (hj:j<u.length) {y:Int} (hy:0<=y/\y<10000):dd (u.set j y)+10000 ^ j*u[j].toNat=dd u+10000 ^ j*y.toNat:=by
 have e1:u=u.take j++(u[j]::u.drop (j+1)):=by simp
 have e2:u.set j y=u.take j++(y::u.drop (j+1)):=kN.trans (by simp [hj]);have b:=hu.at hj;rw[e2];have:dd u=dd (u.take j++(u[j]::u.drop (j+1))):=by rw[<- e1]
 rw[this,qgB,qgB];simp only[jk,jf (jj hj),dd];have k1:(y % 10000).toNat=y.toNat:=by omega
 have k2:(u[j] % 10000).toNat=u[j].toNat:=by omega
 rw[k1,k2]
 grind
theorem qFh (a:List Int) {i:Nat} (h:i<a.length):dd (a.drop i)=(a[i] % 10000).toNat+10000*dd (a.drop (i+1)):=by
 rw[ju h,dd]
theorem qjh {n m:Nat} (h:n<=m):(digs n).length<=(digs m).length:=by
 rcases jn (digs m).length (digs n).length with h1 | h1
 · have:=qsk h1;omega
 · exact h1
theorem qwn (u:List Int) {j:Nat} (hj:j<=u.length):dd u=dd (u.take j)+10000 ^ j*dd (u.drop j):=by
 conv=>lhs;rw[<- jQ j u]
 rw[qgB,jk,jf hj]
theorem qka (x y:Nat):(digs (x*y)).length<=(digs x).length+(digs y).length:=by
 apply qdR;have a1:=qta (digs x);have a2:=qta (digs y);rw[qdb] at a1 a2;rw[je];exact jz a1 a2
theorem qmV {n:Nat}:((digs n).length:Int)>0 ↔ n≠0:=by
 constructor
 · intro h h0;subst h0;rw[qee] at h;simp at h
 · intro h;have:digs n≠[]:=fun e=>h (qxu.1 e)
   have:=kA.2 this;omega
theorem qwk {n:Nat}:((digs n).length:Int)=0 ↔ n=0:=by
 have:=@qmV n;omega
theorem qrg {a:List Int} (ha:Dig a) (hl:a.length<4611686018427387904):qb9 a=some (digs (dd a)):=by
 obtain⟨r,⟨n,hn,rfl,h1,h2⟩,hr⟩:=qmI (step:=qaX) (fun v=>∃ n:Nat,n<=a.length/\v=((a,(n:Int),()),())/\dd (a.take n)=dd a) (fun v=>v.1.2.1.toNat)
  (fun r=>∃ n:Nat,n<=a.length/\r=((a,(n:Int),()),())/\dd (a.take n)=dd a/\∀ x,(a.take n).getLast?=some x->x≠0) (v:=((a,(a.length:Int),()),()))
  ⟨a.length, jB _, rfl, by simp⟩ (by simp; omega) (by
   rintro v ⟨n,hn,rfl,h1⟩;cases n with
   | zero=>exact .inl ⟨_,⟨0,by omega,rfl,h1,by simp⟩,fun g=>by simp [qaX]⟩
   | succ n =>
    have hl2:n<a.length:=by omega
    have e2:(0:Int)<(n:Int)+1:=by omega
    have e1:=qGd (n:=n) (by omega);by_cases h0:a[n]=0
    · refine .inr ⟨((a, (n : Int), ()), ()), ⟨n, by omega, rfl, ?_⟩, by simp, fun g => ?_⟩
      · rw[<- h1,dnnt hl2,h0];simp
      · simp [qaX,e1,e2,h0,hl2]
    · refine .inl ⟨_, ⟨n + 1, hn, rfl, h1, ?_⟩, fun g => ?_⟩
      · intro y hy;rw[kc,gE0 hl2] at hy;simp only[kE,kH,kI,kJ,kK] at hy;subst hy;exact h0
      · simp [qaX,e1,e2,h0,hl2])
 have e:a.take n=digs (dd a):=by rw[<- h1];exact qxx ⟨ha.take n,h2⟩
 simp only[qb9,hr,bS0];rw[<- e];simp [hn]
theorem qxw {o:List Int} (ho:Dig o) (hl:o.length<=(digs (dd o)).length):o=digs (dd o):=by
 refine qxx ⟨ho,fun x hx h0=>?_⟩;subst h0;have hne:o≠[]:=by rintro rfl;cases hx
 have hlen:o.length-1+1=o.length:=by have:=kA.2 hne;omega
 have e1:=qwn o (j:=o.length-1) (by omega);have e2:o.drop (o.length-1)=[0]:=by
  rw[List.getLast?_eq_getElem?] at hx;have hlt:o.length-1<o.length:=by omega
  rw[ju hlt,xc (by omega)];rw[gE0 hlt] at hx;injection hx with hx
  rw[hx]
 rw[e2] at e1;have e3:dd [0]=0:=by simp [dd]
 rw[e3,Nat.mul_zero,kx] at e1;have:=qxv (o.take (o.length-1));rw[<- e1,jk] at this;omega
theorem blt {n:Nat} {k:Nat} (h:n*k<=140737488355328):(Nat.ble (n*k) 140737488355328&&!false)=true:=by
 simp only[Nat.ble_eq,h,xx,jR]
theorem qjI {n:Nat} (hn:n<9223372036854775808):qao (n:Int)=some (digs n):=by
 obtain⟨r,rfl,hlp⟩:=qmI (step:=qa6) (fun s=>∃ (m:Nat) (o:List Int),s=(((m:Int),o,()),())/\m<=n/\o.length<=n-m/\o.length<100/\m*10000 ^ o.length<=n/\o++digs m=digs n) (fun s=>s.1.1.toNat)
  (fun r => r = ((digs n, ()), ())) (v := (((n : Int), [], ()), ())) ⟨n, [], rfl, jB _, by simp, by simp, by simp, by simp⟩ (by simp; omega) (by
   rintro s ⟨m,o,rfl,hm,hol,ho2,hpw,ho⟩;by_cases h0:m=0
   · subst h0;refine .inl ⟨_,rfl,fun g=>?_⟩;rw[qee,kY] at ho;rw[qa6,cnd' (by decide),ho]
   · have e1 : iquo .i64 (m : Int) 10000 = ((m / 10000 : Nat) : Int) := by rw [qq4 (by omega) (by omega) (by omega)]; omega
     have e2:irem (m:Int) 10000=((m % 10000:Nat):Int):=by rw[qog (by omega)];omega
     have hlen:o.length<5:=by
       rcases jn o.length 5 with h | h
       · exact h
       · exfalso;have h1:=jh (n:=10000) (by decide) h;have h2:1*10000 ^ o.length<=m*10000 ^ o.length:=jm _ (by omega);omega
     refine .inr ⟨((((m/10000:Nat):Int),o++[((m % 10000:Nat):Int)],()),()),⟨m/10000,_,rfl,by omega,by simp;omega,by simp;omega,?_,?_⟩,by simp;omega,fun g=>?_⟩
     · rw [jL, List.length_singleton, jb, jg (10000 ^ o.length), <- jp];have:m/10000*10000<=m:=Nat.div_mul_le_self _ _;exact kz (jm _ this) hpw
     · rw[<- ho,qpC h0,jH];rfl
     · have c0 : (m : Int) > 0 := by omega
       rw[qa6,cnd c0,blt (by omega),cond_true,e1,e2])
 rw[qao,hlp];rfl
theorem qio (a:List Int) (i:Nat):qaN a (i:Int)=some (lget a i):=by
 by_cases h:i<a.length<;>simp [qaN,lget,h]
theorem qpe {n m:Nat} (hn:(digs n).length<4611686018427387904):qal (digs n) (digs m)=some (ncmp n m):=by
 unfold qal;by_cases h1:(digs n).length<(digs m).length
 · have := qsk h1;have c1:¬ (((digs n).length:Nat):Int)=(((digs m).length:Nat):Int):=by omega
   have c2:(((digs n).length:Nat):Int)<(((digs m).length:Nat):Int):=by omega
   rw[decide_eq_false c1,decide_eq_true c2];simp [ncmp,this]
 by_cases h2:(digs m).length<(digs n).length
 · have := qsk h2;have c1:¬ (((digs n).length:Nat):Int)=(((digs m).length:Nat):Int):=by omega
   have c2:¬ (((digs n).length:Nat):Int)<(((digs m).length:Nat):Int):=by omega
   rw[decide_eq_false c1,decide_eq_false c2];simp [ncmp,this,jP.2 (jj this)]
 have hl:(digs m).length=(digs n).length:=by omega
 have c1:(((digs n).length:Nat):Int)=(((digs m).length:Nat):Int):=by omega
 rw[decide_eq_true c1];have ha:=qeu n;have hb:=qeu m;have e1:=qdb n;have e2:=qdb m;generalize digs n=a at *;generalize digs m=b at *;obtain⟨r,hr,hlp⟩:=qmI (step:=qaD) (fun v=>∃ j:Nat,j<=a.length/\v=((a,b,(j:Int)-1,()),())/\a.drop j=b.drop j) (fun v=>(v.1.2.2.1+1).toNat)
   (fun r=>(r=.inl ((),())/\a=b)\/(r=.inr ((-1,()),())/\dd a<dd b)\/(r=.inr ((1,()),())/\dd b<dd a)) (v:=((a,b,(a.length:Int)-1,()),()))
   ⟨a.length, jB _, rfl, by rw [jU, <- hl, jU]⟩ (by simp; omega) (by
    rintro v ⟨j,hj,rfl,hd⟩;cases j with
    | zero=>exact .inl ⟨_,.inl ⟨rfl,by simpa using hd⟩,fun g=>by simp [qaD]⟩
    | succ j =>
     have hja:j<a.length:=by omega
     have hjb:j<b.length:=by omega
     have e3:((j+1:Nat):Int)-1=(j:Int):=by omega
     rw[e3];by_cases c1:a[j]<b[j]
     · exact .inl ⟨_,.inr (.inl ⟨rfl,qyD ha hb hja hjb hd c1⟩),fun g=>by simp [qaD,hja,hjb,c1]⟩
     by_cases c2:b[j]<a[j]
     · exact .inl ⟨_,.inr (.inr ⟨rfl,qyD hb ha hjb hja hd.symm c2⟩),fun g=>by simp [qaD,hja,hjb,c1,c2]⟩
     refine .inr ⟨((a,b,(j:Int)-1,()),()),⟨j,by omega,rfl,?_⟩,by simp,fun g=>?_⟩
     · rw[ju hja,ju hjb,hd,show a[j]=b[j] by omega]
     · have : isub .i64 (j : Int) 1 = (j : Int) - 1 := by rw [qci] <;> omega
       simp [qaD,hja,hjb,c1,c2,this])
 have e3:isub .i64 (a.length:Int) 1=(a.length:Int)-1:=by rw[qci]<;>omega
 rw[e3,hlp];rcases hr with ⟨rfl,h⟩ | ⟨rfl,h⟩ | ⟨rfl,h⟩
 · subst h;have:n=m:=by omega
   subst this;simp [ncmp]
 · rw [e1, e2] at h;simp [h1,hl,ncmp,h]
 · rw [e1, e2] at h;simp [h1,hl,ncmp,h,jP.2 (jj h)]
theorem qCG {x y:Nat} (hx:(digs x).length<1099511627776) (hy:(digs y).length<1099511627776):qdK (digs x) (digs y)=some (digs (x+y)):=by
 have la:=qeu x;have lb:=qeu y;have ea:=qdb x;have eb:=qdb y;have m1:=qjh (Nat.le_add_right x y);have m2:=qjh (xe y x);generalize digs x=a at *;generalize digs y=b at *;obtain⟨r,rfl,hlp⟩:=qmI (step:=qaK)
  (fun s=>∃ (i:Nat) (c:Nat) (o:List Int),s=((a,b,o,(c:Int),(i:Int),()),())/\o.length=i/\Dig o/\c<=1/\dd o+10000 ^ i*c=dd (a.take i)+dd (b.take i)/\(i<=max a.length b.length\/(c=0/\i=max a.length b.length+1/\i<=(digs (x+y)).length)))
  (fun s=>(max a.length b.length+2-s.1.2.2.2.2.1).toNat) (fun r=>r=((digs (x+y),()),())) (v:=((a,b,[],0,0,()),()))
  ⟨0, 0, [], rfl, rfl, Dig.nil, by omega, by simp, .inl (by omega)⟩ (by simp; omega) (by
   rintro s ⟨i,c,o,rfl,hol,hod,hc,hs,hi⟩;have b1:=qur la i;have b2:=qur lb i;have q1:iadd .i64 (iadd .i64 (c:Int) (lget a i)) (lget b i)=(c:Int)+lget a i+lget b i:=by
     have:iadd .i64 (c:Int) (lget a i)=(c:Int)+lget a i:=by rw[qfq]<;>omega
     rw[this,qfq]<;>omega
   have q2:irem ((c:Int)+lget a i+lget b i) 10000=((c:Int)+lget a i+lget b i) % 10000:=qog (by omega);have q3:iquo .i64 ((c:Int)+lget a i+lget b i) 10000=((((c:Int)+lget a i+lget b i)/10000).toNat:Int):=by rw[qq4 (by omega) (by omega) (by omega)];omega
   have hnext:dd (o++[((c:Int)+lget a i+lget b i) % 10000])+10000 ^ (i+1)*(((c:Int)+lget a i+lget b i)/10000).toNat=dd (a.take (i+1))+dd (b.take (i+1)):=by
     rw[qgB,hol,qkd,qkd,qyC _ (by omega),jb];have k1:(((c:Int)+lget a i+lget b i) % 10000).toNat+10000*(((c:Int)+lget a i+lget b i)/10000).toNat=c+(lget a i % 10000).toNat+(lget b i % 10000).toNat:=by omega
     have k2:10000 ^ i*((((c:Int)+lget a i+lget b i) % 10000).toNat+10000*(((c:Int)+lget a i+lget b i)/10000).toNat)=10000 ^ i*(c+(lget a i % 10000).toNat+(lget b i % 10000).toNat):=by rw[k1]
     grind
   have hod':Dig (o++[((c:Int)+lget a i+lget b i) % 10000]):=Dig.append hod (Dig.cons (by omega) Dig.nil);by_cases him:i<max a.length b.length
   · refine .inr ⟨((a, b, o ++ [((c : Int) + lget a i + lget b i) % 10000], ((((c : Int) + lget a i + lget b i) / 10000).toNat : Int), ((i + 1 : Nat) : Int), ()), ()), ⟨i + 1, _, _, rfl, by simp [hol], hod', by omega, hnext, .inl (by omega)⟩, by simp; omega, fun g => ?_⟩;by_cases h1:i<a.length
     · have c1 : (i : Int) < ((a.length : Nat) : Int) := by omega
       rw[qaK,cnd c1,qio,bS0,qio,bS0,blt (by omega),cond_true,q1,q2,q3,qaV (by omega)];rfl
     · have c1 : ¬ (i : Int) < ((a.length : Nat) : Int) := by omega
       have c2:(i:Int)<((b.length:Nat):Int):=by omega
       rw[qaK,cnd' c1,cnd c2,qio,bS0,qio,bS0,blt (by omega),cond_true,q1,q2,q3,qaV (by omega)];rfl
   · have c1 : ¬ (i : Int) < ((a.length : Nat) : Int) := by omega
     have c2:¬ (i:Int)<((b.length:Nat):Int):=by omega
     have t1:dd (a.take i)=x:=by rw[qsG (by omega),ea]
     have t2:dd (b.take i)=y:=by rw[qsG (by omega),eb]
     by_cases hc0:c=0
     · subst hc0;refine .inl ⟨_,rfl,fun g=>?_⟩;have hval:dd o=x+y:=by rw[t1,t2] at hs;simpa using hs
       have:o=digs (x+y):=by
         have:=qxw hod (by rw[hval,hol];rcases hi with h | ⟨_,_,h⟩<;>omega)
         rw[hval] at this;exact this
       rw[qaK,cnd' c1,cnd' c2,cnd' (by decide),this]
     · have hc1 : c = 1 := by omega
       have hieq:i=max a.length b.length:=by rcases hi with h | ⟨h,_⟩<;>omega
       have l1:lget a i=0:=by simp only[lget];rw[jT (by omega)];rfl
       have l2:lget b i=0:=by simp only[lget];rw[jT (by omega)];rfl
       refine .inr ⟨((a,b,o++[((c:Int)+lget a i+lget b i) % 10000],((((c:Int)+lget a i+lget b i)/10000).toNat:Int),((i+1:Nat):Int),()),()),⟨i+1,_,_,rfl,by simp [hol],hod',by omega,hnext,.inr ⟨by omega,by omega,?_⟩⟩,by simp;omega,fun g=>?_⟩
       · have : 10000 ^ i <= x + y := by rw [<- t1, <- t2, <- hs, hc1]; omega
         exact qxt this
       · have c3 : (c : Int) > 0 := by omega
         rw[qaK,cnd' c1,cnd' c2,cnd c3,qio,bS0,qio,bS0,blt (by omega),cond_true,q1,q2,q3,qaV (by omega)];rfl)
 rw[qdK,hlp];rfl
theorem qAI {a b:List Int} (ha:Dig a) (hb:Dig b) (hl:a.length<4398046511104) (hle:dd b<=dd a):qej a b=some (digs (dd a-dd b)):=by
 obtain⟨r,⟨p,rfl,hp,hpl,hpn⟩,hlp⟩:=qjS (step:=qaQ) (fun i v=>∃ (p:List Int) (d:Nat),v=((a,b,p,(d:Int),(i:Int),()),())/\p.length=i/\Dig p/\d<=1/\dd p+dd (b.take i)=dd (a.take i)+10000 ^ i*d)
  (fun r=>∃ p,r=((p,()),())/\p.length=a.length/\Dig p/\dd p=dd a-dd b) a.length (v:=((a,b,[],0,0,()),()))
  ⟨[], 0, rfl, rfl, Dig.nil, by omega, by simp⟩ (by omega) (by
   rintro i v hi ⟨p,d,rfl,hp,hpl,hd,hs⟩;have b1:=ha.at hi;have b2:=qur hb i;have q1:isub .i64 (isub .i64 a[i] (lget b i)) (d:Int)=a[i]-lget b i-d:=by
     have:isub .i64 a[i] (lget b i)=a[i]-lget b i:=by rw[qci]<;>omega
     rw[this,qci]<;>omega
   have c0:(i:Int)<((a.length:Nat):Int):=by omega
   have c1:(0:Int)<=(i:Int):=by omega
   by_cases hneg:a[i]-lget b i-d<0
   · have q2 : iadd .i64 (a[i] - lget b i - d) 10000 = a[i] - lget b i - d + 10000 := by rw [qfq] <;> omega
     refine⟨((a,b,p++[a[i]-lget b i-d+10000],((1:Nat):Int),((i+1:Nat):Int),()),()),⟨_,1,rfl,by simp [hp],Dig.append hpl (Dig.cons (by omega) Dig.nil),by omega,?_⟩,fun g=>?_⟩
     · rw [qgB, hp, qkd, dnnt hi, qyC _ (by omega), jb];have k1:(a[i]-lget b i-d+10000).toNat+(lget b i % 10000).toNat+d=(a[i] % 10000).toNat+10000*1:=by omega
       have k2:10000 ^ i*((a[i]-lget b i-d+10000).toNat+(lget b i % 10000).toNat+d)=10000 ^ i*((a[i] % 10000).toNat+10000*1):=by rw[k1]
       grind
     · rw [qaQ, cnd c0, cnd c1, tN0, gE0 hi, bS0, qio, bS0, q1, cnd hneg, blt (by omega), cond_true, q2, qaV (by omega)];rfl
   · refine ⟨((a, b, p ++ [a[i] - lget b i - d], ((0 : Nat) : Int), ((i + 1 : Nat) : Int), ()), ()), ⟨_, 0, rfl, by simp [hp], Dig.append hpl (Dig.cons (by omega) Dig.nil), by omega, ?_⟩, fun g => ?_⟩
     · rw [qgB, hp, qkd, dnnt hi, qyC _ (by omega), jb];have k1:(a[i]-lget b i-d).toNat+(lget b i % 10000).toNat+d=(a[i] % 10000).toNat:=by omega
       have k2:10000 ^ i*((a[i]-lget b i-d).toNat+(lget b i % 10000).toNat+d)=10000 ^ i*((a[i] % 10000).toNat):=by rw[k1]
       grind
     · rw [qaQ, cnd c0, cnd c1, tN0, gE0 hi, bS0, qio, bS0, q1, cnd' hneg, blt (by omega), cond_true, qaV (by omega)];rfl) (by
   rintro v ⟨p,d,rfl,hp,hpl,hd,hs⟩;refine⟨((p,()),()),⟨p,rfl,hp,hpl,?_⟩,fun g=>by simp [qaQ]⟩;rw[quI (js hle (qta a)),jt] at hs;have k1:=qta p;rw[hp] at k1;have:d=0:=by
     rcases jo d with h | h
     · exact h
     · have : d = 1 := by omega
       subst this;omega
   subst this;omega)
 rw[qej,hlp,bS0,qrg hpl (by omega),hpn];rfl
theorem qzP {x y c u:Int} (hx:0<=x/\x<10000) (hy:0<=y/\y<10000) (hc:0<=c/\c<10000) (hu:0<=u/\u<10000) :
  0<=x*y/\x*y<100000000/\u+x*y<100000000/\c+u+x*y<100000000:=by
 have h0:0<=x*y:=kd hx.1 hy.1;have h1:x*y<=9999*9999:=kO (by omega) (by omega) hy.1 (by decide);omega
theorem qvr {b a:List Int} {i:Nat} {u:List Int} {Z:Nat} (hb:Dig b) (ha:Dig a) (hi:i<a.length) (hu:Dig u) (hul:u.length=i+b.length) (hsz:i+b.length<4611686018427387904) :
  ∃ (w:List Int) (c:Nat),lp qaO K0 ((a,b,u++j9 Z 0,(i:Int),0,0,()),())=some ((a,b,w++j9 Z 0,(i:Int),(c:Int),()),()) /\
   w.length=i+b.length/\Dig w/\c<10000/\dd w+10000 ^ (i+b.length)*c=dd u+10000 ^ i*(a[i].toNat*dd b):=by
 have hx:=ha.at hi;generalize hxx:a[i]=x at *;obtain⟨r,⟨w,c,rfl,h1,h2,h3,h4⟩,hlp⟩:=qjS (step:=qaO)
  (fun k v=>∃ (w:List Int) (c:Nat),v=((a,b,w++j9 Z 0,(i:Int),(c:Int),(k:Int),()),())/\w.length=i+b.length/\Dig w/\c<10000/\dd w+10000 ^ (i+k)*c=dd u+10000 ^ i*(x.toNat*dd (b.take k)))
  (fun r=>∃ (w:List Int) (c:Nat),r=((a,b,w++j9 Z 0,(i:Int),(c:Int),()),())/\w.length=i+b.length/\Dig w/\c<10000/\dd w+10000 ^ (i+b.length)*c=dd u+10000 ^ i*(x.toNat*dd b))
  b.length (v:=((a,b,u++j9 Z 0,(i:Int),0,0,()),())) ⟨u,0,rfl,hul,hu,by omega,by simp⟩ (by omega) (by
   rintro k v hk ⟨w,c,rfl,hw,hwl,hc,hs⟩;have b1:=hb.at hk;have hik:i+k<w.length:=by omega
   have b2:=hwl.at hik;have b3:(0:Int)<=c/\(c:Int)<10000:=by omega
   obtain⟨m0,m1,m2,m3⟩:=qzP hx b1 b3 b2;have q1:imul .i64 x b[k]=x*b[k]:=by rw[qym]<;>omega
   have q2:iadd .i64 (c:Int) w[i+k]=c+w[i+k]:=by rw[qfq]<;>omega
   have q3:iadd .i64 ((c:Int)+w[i+k]) (x*b[k])=(c:Int)+w[i+k]+x*b[k]:=by rw[qfq]<;>omega
   have q4:iadd .i64 (i:Int) (k:Int)=((i+k:Nat):Int):=by rw[qfq]<;>omega
   have q5:irem ((c:Int)+w[i+k]+x*b[k]) 10000=((c:Int)+w[i+k]+x*b[k]) % 10000:=qog (by omega);have q6:iquo .i64 ((c:Int)+w[i+k]+x*b[k]) 10000=(((((c:Int)+w[i+k]+x*b[k])/10000).toNat:Nat):Int):=by rw[qq4 (by omega) (by omega) (by omega)];omega
   refine⟨((a,b,w.set (i+k) (((c:Int)+w[i+k]+x*b[k]) % 10000)++j9 Z 0,(i:Int),(((((c:Int)+w[i+k]+x*b[k])/10000).toNat:Nat):Int),((k+1:Nat):Int),()),()),⟨_,_,rfl,by simpa using hw,hwl.set (by omega),by omega,?_⟩,fun g=>?_⟩
   · have hset := qGg hwl hik (y := ((c : Int) + w[i + k] + x * b[k]) % 10000) (by omega);rw[dnnt hk,show i+(k+1)=i+k+1 from rfl,jb];have k1:(((c:Int)+w[i+k]+x*b[k]) % 10000).toNat+10000*(((c:Int)+w[i+k]+x*b[k])/10000).toNat=c+(w[i+k].toNat+(x*b[k]).toNat):=by omega
     have k2:10000 ^ (i+k)*((((c:Int)+w[i+k]+x*b[k]) % 10000).toNat+10000*(((c:Int)+w[i+k]+x*b[k])/10000).toNat)=10000 ^ (i+k)*(c+(w[i+k].toNat+(x*b[k]).toNat)):=by rw[k1]
     have k3:(x*b[k]).toNat=x.toNat*(b[k] % 10000).toNat:=by
      rw[kP hx.1 b1.1];congr 2;omega
     rw[k3] at k2;have k4:10000 ^ (i+k)=10000 ^ i*10000 ^ k:=je ..
     grind
   · have e5 : (w ++ j9 Z (0 : Int))[i + k]? = some w[i + k] := by rw [kQ hik]; exact gE0 hik
     have c0:(k:Int)<((b.length:Nat):Int):=by omega
     have c2:(0:Int)<=(k:Int):=by omega
     have c3:(0:Int)<=(i:Int):=by omega
     have e6:((i+k:Nat):Int)<(((w++j9 Z (0:Int)).length:Nat):Int):=by rw[jL];omega
     have e7:(0:Int)<=((i+k:Nat):Int):=by omega
     rw[qaO,cnd c0,q4,cnd2 e7 e6,tN0,e5,bS0,cnd c3,tN0,gE0 hi,bS0,hxx,cnd c2,tN0,gE0 hk,bS0,cnd2 e7 e6,bS0,q1,q2,q3,q5,q6,kR _ _ hik,qaV (by omega)];rfl) (by
   rintro v ⟨w,c,rfl,hw,hwl,hc,hs⟩;rw[jt] at hs;exact⟨((a,b,w++j9 Z 0,(i:Int),(c:Int),()),()),⟨w,c,rfl,hw,hwl,hc,hs⟩,fun g=>by simp [qaO]⟩)
 exact⟨w,c,hlp,h1,h2,h3,h4⟩
theorem qpd {x y:List Int} (l1:Dig x) (l2:Dig y) (ha:x.length<4398046511104) (hb:y.length<4398046511104):qbP x y=some (digs (dd x*dd y)):=by
 have hN:iadd .i64 (x.length:Int) (y.length:Int)=((x.length+y.length:Nat):Int):=by rw[qfq]<;>omega
 rw[qbP,hN];obtain⟨r,⟨p,rfl,hp,hpl,hpn⟩,hlp⟩:=qjS (step:=qa5) (fun i v=>∃ p:List Int,v=((x,y,p++j9 (x.length-i) 0,(i:Int),()),())/\p.length=i+y.length/\Dig p/\dd p=dd (x.take i)*dd y)
  (fun r=>∃ p,r=((p,()),())/\p.length=x.length+y.length/\Dig p/\dd p=dd x*dd y) x.length (v:=((x,y,j9 (x.length+y.length) 0,0,()),()))
  ⟨j9 y.length 0, by rw [ke, Nat.sub_zero, kf]; rfl, by simp, Dig.zeros _, by simp [qDr]⟩ (by omega) (by
   rintro i v hi ⟨p,rfl,hp,hpl,hs⟩;obtain⟨w,c,hin,hw,hwl,hc,hwn⟩:=qvr (Z:=x.length-i) l2 l1 hi hpl hp (by omega);have b1:=l1.at hi;refine⟨((x,y,(w++[(c:Int)])++j9 (x.length-(i+1)) 0,((i+1:Nat):Int),()),()),⟨_,rfl,by simp [hw];omega,Dig.append hwl (Dig.cons (by omega) Dig.nil),?_⟩,fun g=>?_⟩
   · rw [qgB, hw, qyC _ (by omega), dnnt hi, tN0, hwn, hs];have:(x[i] % 10000).toNat=x[i].toNat:=by omega
     rw[this]
     grind
   · have q4 : iadd .i64 (i : Int) (y.length : Int) = ((i + y.length : Nat) : Int) := by rw [qfq] <;> omega
     have c0:(i:Int)<((x.length:Nat):Int):=by omega
     have e6:((i+y.length:Nat):Int)<(((w++j9 (x.length-i) (0:Int)).length:Nat):Int):=by rw[jL,kZ];omega
     have e7:(0:Int)<=((i+y.length:Nat):Int):=by omega
     have e8:i+y.length<(w++j9 (x.length-i) (0:Int)).length:=by omega
     have e9:(w++j9 (x.length-i) (0:Int)).set (i+y.length) (c:Int)=(w++[(c:Int)])++j9 (x.length-(i+1)) 0:=by
      have:=qtW (p:=w) (i:=i+y.length) (n:=x.length+y.length) (z:=0) (c:Int) hw (by omega);rw[show x.length+y.length-(i+y.length)=x.length-i by omega,show x.length+y.length-(i+y.length+1)=x.length-(i+1) by omega] at this;exact this
     rw[qa5,cnd c0,hin,bS0,q4,cnd2 e7 e6,tN0,gE0 e8,bS0,e9,qaV (by omega)];rfl) (by
   rintro v ⟨p,rfl,hp,hpl,hs⟩;rw[jt] at hs;exact⟨((p,()),()),⟨p,rfl,hp,hpl,hs⟩,fun g=>by simp [qa5]⟩)
 have g2:((x.length+y.length:Nat):Int)<=9223372036854775807:=by omega
 have g3:(0:Int)<=((x.length+y.length:Nat):Int):=by omega
 have g4:((8:Nat):Int)*((x.length+y.length:Nat):Int)<=281474976710656:=by omega
 rw[decide_eq_true g2,decide_eq_true g3,decide_eq_true g4,decide_eq_true rfl,tN0,hlp,bS0,qrg hpl (by omega),hpn];rfl
end Go.Proofs.YtiefddjokkihdaaGreatDoor.X
