/- Own work: part of the proof; the first line of each part says what it tells. -/
import Derived.Test.YtmabkjhobhbfdaaGreatDoorLb7
import Derived.Test.YtmabkjhobhbfdaaGreatDoorLb6


namespace Go.Proofs.YtmabkjhobhbfdaaGreatDoor.X
open Go
set_option linter.unusedVariables false
set_option linter.unusedSimpArgs false
theorem qAm {n:Nat} (h:n<4611686018427387904):isub .i64 ((n:Int)+1) 1=(n:Int):=by rw[qcg]<;>omega
theorem qcr {n:Nat} (h:n<4611686018427387904):iadd .i64 (n:Int) 1=(n:Int)+1:=by rw[qeB]<;>omega
theorem nnt {a:List Int} {i:Nat} (h:i<a.length):nn (a.take (i+1))=nn (a.take i)+4294967296 ^ i*(a[i] % 4294967296).toNat:=qdP (gE0 h)
theorem Lim.at {a:List Int} (ha:Lim a) {i:Nat} (h:i<a.length):0<=a[i]/\a[i]<4294967296:=ha _ (gM0 h)
theorem qid {a:List Int} (ha:Lim a) (hl:a.length<4611686018427387904):qed a=some (qaa (nn a)):=by
 obtain⟨r,⟨n,hn,rfl,h1,h2⟩,hr⟩:=qlg (step:=qdW) (fun v=>∃ n:Nat,n<=a.length/\v=((a,(n:Int),()),())/\nn (a.take n)=nn a) (fun v=>v.1.2.1.toNat)
   (fun r=>∃ n:Nat,n<=a.length/\r=((a,(n:Int),()),())/\nn (a.take n)=nn a/\∀ x,(a.take n).getLast?=some x->x≠0) (v:=((a,(a.length:Int),()),()))
   ⟨a.length, Nat.le_refl _, rfl, by simp⟩ (by simp; omega) (by
    rintro v ⟨n,hn,rfl,h1⟩;cases n with
    | zero=>exact .inl ⟨_,⟨0,by omega,rfl,h1,by simp⟩,fun g=>by simp [qdW]⟩
    | succ n =>
     have hl2:n<a.length:=by omega
     have e2:(0:Int)<(n:Int)+1:=by omega
     have e1:=qAm (n:=n) (by omega);by_cases h0:a[n]=0
     · refine .inr ⟨((a, (n : Int), ()), ()), ⟨n, by omega, rfl, ?_⟩, by simp, fun g => ?_⟩
       · rw[<- h1,nnt hl2,h0];simp
       · simp [qdW,e1,e2,h0,hl2]
     · refine .inl ⟨_, ⟨n + 1, hn, rfl, h1, ?_⟩, fun g => ?_⟩
       · intro y hy;rw[List.take_add_one,gE0 hl2] at hy;simp only[Option.toList_some,List.getLast?_append,List.getLast?_singleton,Option.some_or,Option.some.injEq] at hy;subst hy;exact h0
       · simp [qdW,e1,e2,h0,hl2])
 have e:a.take n=qaa (nn a):=by rw[<- h1];exact quD ⟨ha.take n,h2⟩
 simp only[qed,hr,bS0];rw[<- e];by_cases h0:n=0
 · subst h0;simp
 · simp [h0,hn]
theorem qtR {n:Nat} (h:n<18446744073709551616):qki n=some (qaa n):=by
 have e:nn [((n:Int) % 4294967296),(n:Int)/4294967296]=n:=by simp only[nn];omega
 have hl:Lim [((n:Int) % 4294967296),(n:Int)/4294967296]:=Lim.cons (by omega) (Lim.cons (by omega) Lim.nil);simp only[qki,qge,qru];rw[qid hl (by simp)];simp [e]
def cut (a:List Int):List Int:=a.map (· % 4294967296)
theorem qAi (a:List Int):nn (cut a)=nn a:=by
 induction a with
 | nil=>rfl
 | cons x a ih=>simp only[cut,List.map_cons,nn];rw[show nn (a.map (· % 4294967296))=nn (cut a) from rfl,ih];omega
theorem qzH (a:List Int):Lim (cut a):=by
 intro x hx;obtain⟨y,_,rfl⟩:=List.mem_map.1 hx;omega
@[simp] theorem qwU (a:List Int):(cut a).length=a.length:=by simp [cut]
def fill {α:Type} (X:List α) (z:α) (i:Nat):List α:=X.take i++List.replicate (X.length-i) z
theorem qst {α:Type} (X:List α) (z:α):fill X z 0=List.replicate X.length z:=by simp [fill]
theorem quu {α:Type} (X:List α) (z:α):fill X z X.length=X:=by simp [fill]
@[simp] theorem qut {α:Type} (X:List α) (z:α) (i:Nat) (h:i<=X.length):(fill X z i).length=X.length:=by simp [fill];omega
theorem qus {α:Type} {X:List α} {z:α} {i:Nat} (h:i<X.length):(fill X z i).set i X[i]=fill X z (i+1):=by
 have e:X.length-i=(X.length-(i+1))+1:=by omega
 have e2:(X.take i).length=i:=by simp;omega
 unfold fill;rw[e,List.replicate_succ,List.set_append_right _ _ (by omega),e2,Nat.sub_self,List.set_cons_zero,List.take_succ_eq_append_getElem h,List.append_assoc];rfl
theorem qd0 {a:List Int} (hl:a.length<35184372088832):qbT a=some (qaa (nn a)):=by
 have key:lp qdd K0 ((List.replicate a.length (0:Int),a,(a.length:Int),0,()),())=some ((cut a,()),()):=by
  have:=qji (step:=qdd) (fun i=>((fill (cut a) 0 i,a,(a.length:Int),(i:Int),()),())) a.length (r:=((cut a,()),())) (by omega) (by
   intro g i hi;have e3:=qus (z:=0) (show i<(cut a).length by simpa using hi);have e4:(fill (cut a) 0 i).length=a.length:=by rw[qut _ _ _ (by simp;omega),qwU]
   simp [qdd,hi,qcr (n:=i) (by omega),qge,e4,<- e3];simp [cut]) (by
   intro g;have:=quu (cut a) (0:Int);rw[qwU] at this;simp [qdd,this])
  simpa [qst] using this
 have h1:(8:Int)*(a.length:Int)<=281474976710656:=by omega
 have h2:(a.length:Int)<=9223372036854775807:=by omega
 simp [qbT,h1,h2,key,qid (qzH a) (by simp;omega),qAi]
theorem qqN {a:List Int} {i:Nat} (h:i<a.length):nn a=nn (a.take i)+4294967296 ^ i*((a[i] % 4294967296).toNat+4294967296*nn (a.drop (i+1))):=by
 have e:a=a.take i++(a[i]::a.drop (i+1)):=by simp
 conv=>lhs;rw[e]
 rw[qbR];simp [nn,Nat.min_eq_left (Nat.le_of_lt h)]
def ncmp (n m:Nat):Int:=if n<m then -1 else if m<n then 1 else 0
theorem quf {a b:List Int} (ha:Lim a) (hb:Lim b) {i:Nat} (h:i<a.length) (h':i<b.length) (hd:a.drop (i+1)=b.drop (i+1)) (hlt:a[i]<b[i]):nn a<nn b:=by
 rw[qqN h,qqN h',hd];have h1:=qfl (a.take i);rw[List.length_take,Nat.min_eq_left (Nat.le_of_lt h)] at h1;have ha:=ha.at h;have hb:=hb.at h';have h2:(a[i] % 4294967296).toNat+1<=(b[i] % 4294967296).toNat:=by omega
 have h3:4294967296 ^ i*((a[i] % 4294967296).toNat+1+4294967296*nn (b.drop (i+1)))<=4294967296 ^ i*((b[i] % 4294967296).toNat+4294967296*nn (b.drop (i+1))):=Nat.mul_le_mul_left _ (by omega);have h4:4294967296 ^ i*((a[i] % 4294967296).toNat+1+4294967296*nn (b.drop (i+1)))=4294967296 ^ i+4294967296 ^ i*((a[i] % 4294967296).toNat+4294967296*nn (b.drop (i+1))):=by grind
 omega
theorem qo9 {n m:Nat} (h:(qaa n).length<(qaa m).length):n<m:=by
 have h1:=qfl (qaa n);rw[q9q] at h1;rcases Nat.lt_or_ge m (4294967296 ^ (qaa n).length) with h2 | h2
 · have:=qcf h2;omega
 · omega
theorem qoh {n m:Nat} (hn:(qaa n).length<4611686018427387904):qg6 (qaa n) (qaa m)=some (ncmp n m):=by
 unfold qg6;by_cases h1:(qaa n).length<(qaa m).length
 · have := qo9 h1;simp [h1,ncmp,this]
 by_cases h2:(qaa m).length<(qaa n).length
 · have := qo9 h2;simp [h1,h2,ncmp,this,Nat.not_lt.2 (Nat.le_of_lt this)]
 have hl:(qaa m).length=(qaa n).length:=by omega
 have ha:=qaR n;have hb:=qaR m;have e1:=q9q n;have e2:=q9q m;generalize qaa n=a at *;generalize qaa m=b at *;obtain⟨r,hr,hlp⟩:=qlg (step:=qcO) (fun v=>∃ j:Nat,j<=a.length/\v=((a,b,(j:Int)-1,()),())/\a.drop j=b.drop j) (fun v=>(v.1.2.2.1+1).toNat)
   (fun r=>(r=.inl ((),())/\a=b)\/(r=.inr ((-1,()),())/\nn a<nn b)\/(r=.inr ((1,()),())/\nn b<nn a)) (v:=((a,b,(a.length:Int)-1,()),()))
   ⟨a.length, Nat.le_refl _, rfl, by rw [List.drop_length, <- hl, List.drop_length]⟩ (by simp; omega) (by
    rintro v ⟨j,hj,rfl,hd⟩;cases j with
    | zero=>exact .inl ⟨_,.inl ⟨rfl,by simpa using hd⟩,fun g=>by simp [qcO]⟩
    | succ j =>
     have hja:j<a.length:=by omega
     have hjb:j<b.length:=by omega
     have e3:((j+1:Nat):Int)-1=(j:Int):=by omega
     rw[e3];by_cases c1:a[j]<b[j]
     · exact .inl ⟨_,.inr (.inl ⟨rfl,quf ha hb hja hjb hd c1⟩),fun g=>by simp [qcO,hja,hjb,c1]⟩
     by_cases c2:b[j]<a[j]
     · exact .inl ⟨_,.inr (.inr ⟨rfl,quf hb ha hjb hja hd.symm c2⟩),fun g=>by simp [qcO,hja,hjb,c1,c2]⟩
     refine .inr ⟨((a,b,(j:Int)-1,()),()),⟨j,by omega,rfl,?_⟩,by simp,fun g=>?_⟩
     · rw[List.drop_eq_getElem_cons hja,List.drop_eq_getElem_cons hjb,hd,show a[j]=b[j] by omega]
     · have : isub .i64 (j : Int) 1 = (j : Int) - 1 := by rw [qcg] <;> omega
       simp [qcO,hja,hjb,c1,c2,this])
 have e3:isub .i64 (a.length:Int) 1=(a.length:Int)-1:=by rw[qcg]<;>omega
 rw[e3,hlp];rcases hr with ⟨rfl,h⟩ | ⟨rfl,h⟩ | ⟨rfl,h⟩
 · subst h;have:n=m:=by omega
   subst this;simp [ncmp]
 · rw [e1, e2] at h;simp [h1,hl,ncmp,h]
 · rw [e1, e2] at h;simp [h1,hl,ncmp,h,Nat.not_lt.2 (Nat.le_of_lt h)]
theorem qAx {a b:List Int} (ha:a.length<35184372088832) (hb:b.length<35184372088832):qig a b=some (ncmp (nn a) (nn b)):=by
 simp [qig,qd0 ha,qd0 hb,qoh (Nat.lt_of_le_of_lt (qaG a) (Nat.lt_trans ha (by decide)))]
def lget (a:List Int) (i:Nat):Int:=(a[i]?).getD 0
theorem qo8 (a:List Int) (i:Nat):qgU a (i:Int)=some (lget a i):=by
 by_cases h:i<a.length<;>simp [qgU,lget,h]
theorem qjj {a:List Int} (ha:Lim a) (i:Nat):0<=lget a i/\lget a i<4294967296:=by
 unfold lget;cases h:a[i]? with
 | none=>simp
 | some x=>exact ha.get h
theorem qfI (a:List Int) (i:Nat):nn (a.take (i+1))=nn (a.take i)+4294967296 ^ i*(lget a i % 4294967296).toNat:=by
 by_cases h:i<a.length
 · rw[nnt h];simp [lget,h]
 · rw [List.take_of_length_le (by omega), List.take_of_length_le (by omega)];simp [lget,h]
theorem qvm {a:List Int} {i:Nat} (h:i<a.length):lget a i=a[i]:=by simp [lget,h]
theorem qqv {α:Type} {p:List α} {i n:Nat} {z:α} (x:α) (hp:p.length=i) (hi:i<n):(p++List.replicate (n-i) z).set i x=(p++[x])++List.replicate (n-(i+1)) z:=by
 have e:n-i=(n-(i+1))+1:=by omega
 subst hp;rw[e,List.replicate_succ,List.set_append_right _ _ (by omega)];simp
theorem qAy {a b:List Int} (ha:a.length<17592186044416) (hb:b.length<17592186044416):qnk a b=some (qaa (nn a+nn b)):=by
 have h1:=qaG a;have h2:=qaG b;have e1:=q9q (nn a);have e2:=q9q (nn b);have l1:=qaR (nn a);have l2:=qaR (nn b);simp only[qnk,qd0 (show a.length<35184372088832 by omega),qd0 (show b.length<35184372088832 by omega),bS0];generalize qaa (nn a)=x at *;generalize qaa (nn b)=y at *;rw[<- e1,<- e2];clear e1 e2;obtain⟨N,hN,hx,hy,hN2⟩:∃ N:Nat,iadd .i64 (mx (x.length:Int) (y.length:Int)) 1=(N:Int)/\x.length<N/\y.length<N/\N<=17592186044417:=by
  have:mx (x.length:Int) (y.length:Int)=((max x.length y.length:Nat):Int):=by unfold mx;split<;>omega
  refine⟨max x.length y.length+1,?_,by omega,by omega,by omega⟩;rw[this,qcr]<;>omega
 rw[hN];obtain⟨r,⟨p,rfl,hp,hpl,hpn⟩,hlp⟩:=qiR (step:=qfQ) (fun i v=>∃ (p:List Int) (c:Nat),v=((x,y,p++List.replicate (N-i) 0,(c:Int),(N:Int),(i:Int),()),())/\p.length=i/\Lim p/\c<=1/\nn p+4294967296 ^ i*c=nn (x.take i)+nn (y.take i))
  (fun r=>∃ p,r=((p,()),())/\p.length=N/\Lim p/\nn p=nn x+nn y) N (v:=((x,y,List.replicate N 0,0,(N:Int),0,()),()))
  ⟨[], 0, by simp, rfl, Lim.nil, by omega, by simp⟩ (by omega) (by
   rintro i v hi ⟨p,c,rfl,hp,hpl,hc,hs⟩;have b1:=qjj l1 i;have b2:=qjj l2 i;have hadd1:iadd .u64 (lget x i) (lget y i)=lget x i+lget y i:=qlK (by omega) (by omega);have hadd2:iadd .u64 (c:Int) (lget x i+lget y i)=c+(lget x i+lget y i):=qlK (by omega) (by omega);refine⟨((x,y,(p++[((c:Int)+(lget x i+lget y i)) % 4294967296])++List.replicate (N-(i+1)) 0,((((c:Int)+(lget x i+lget y i))/4294967296).toNat:Int),(N:Int),((i+1:Nat):Int),()),()),⟨_,_,rfl,by simp [hp],Lim.append hpl (Lim.cons (by omega) Lim.nil),by omega,?_⟩,fun g=>?_⟩
   · rw [qbR, hp, qfI, qfI, qoZ _ (by omega), Nat.pow_succ];have k1:(((c:Int)+(lget x i+lget y i)) % 4294967296).toNat+4294967296*(((c:Int)+(lget x i+lget y i))/4294967296).toNat=c+(lget x i % 4294967296).toNat+(lget y i % 4294967296).toNat:=by omega
     have k2:4294967296 ^ i*((((c:Int)+(lget x i+lget y i)) % 4294967296).toNat+4294967296*(((c:Int)+(lget x i+lget y i))/4294967296).toNat)=4294967296 ^ i*(c+(lget x i % 4294967296).toNat+(lget y i % 4294967296).toNat):=by rw[k1]
     grind
   · have e4 : ((((c : Int) + (lget x i + lget y i)) / 4294967296).toNat : Int) = ((c : Int) + (lget x i + lget y i)) / 4294967296 := by omega
     have e5:(p++List.replicate (N-i) 0).length=N:=by simp [hp];omega
     simp only[qfQ,qo8,bS0,hadd1,hadd2,qge,qru,e4,qcr (n:=i) (by omega),tN0,qqv _ hp hi,e5];simp [hi,e5,hp]) (by
   rintro v ⟨p,c,rfl,hp,hpl,hc,hs⟩;refine⟨_,⟨p,rfl,hp,hpl,?_⟩,fun g=>by simp [qfQ]⟩;rw[List.take_of_length_le (by omega),List.take_of_length_le (by omega)] at hs;have k1:=qfl x;have k2:=qfl y;have k3:=Nat.pow_le_pow_right (n:=4294967296) (by decide) hx;have k4:=Nat.pow_le_pow_right (n:=4294967296) (by decide) hy;have k5:4294967296 ^ (x.length+1)=4294967296*4294967296 ^ x.length:=by rw[Nat.pow_succ,Nat.mul_comm]
   have k6:4294967296 ^ (y.length+1)=4294967296*4294967296 ^ y.length:=by rw[Nat.pow_succ,Nat.mul_comm]
   have:c=0:=by
     rcases Nat.eq_zero_or_pos c with h | h
     · exact h
     · have : c = 1 := by omega
       subst this;simp only[Nat.succ_eq_add_one] at k3 k4;omega
   subst this;simpa using hs)
 have g1:(8:Int)*(N:Int)<=281474976710656:=by omega
 have g2:(N:Int)<=9223372036854775807:=by omega
 simp [hlp,qid hpl (by omega),hpn,g1,g2]
theorem qjf {b:List Int} {k:Nat} (h:nn b<4294967296 ^ k):nn (b.take k)=nn b:=by
 by_cases hk:b.length<=k
 · rw[List.take_of_length_le hk]
 have e:nn b=nn (b.take k)+4294967296 ^ k*nn (b.drop k):=by
   conv=>lhs;rw[<- List.take_append_drop k b]
   rw[qbR,List.length_take,Nat.min_eq_left (by omega)]
 rcases Nat.eq_zero_or_pos (nn (b.drop k)) with h0 | h0
 · rw[h0] at e;omega
 · have : 4294967296 ^ k * 1 <= 4294967296 ^ k * nn (b.drop k) := Nat.mul_le_mul_left _ h0;omega
theorem qug {a b:List Int} (ha:Lim a) (hb:Lim b) (hl:a.length<35184372088832) (hle:nn b<=nn a):qf8 a b=some (qaa (nn a-nn b)):=by
 obtain⟨r,⟨p,rfl,hp,hpl,hpn⟩,hlp⟩:=qiR (step:=qdS) (fun i v=>∃ (p:List Int) (d:Nat),v=((a,b,p++List.replicate (a.length-i) 0,(d:Int),(a.length:Int),(i:Int),()),())/\p.length=i/\Lim p/\d<=1/\nn p+nn (b.take i)=nn (a.take i)+4294967296 ^ i*d)
  (fun r=>∃ p,r=((p,()),())/\p.length=a.length/\Lim p/\nn p=nn a-nn b) a.length (v:=((a,b,List.replicate a.length 0,0,(a.length:Int),0,()),()))
  ⟨[], 0, by simp, rfl, Lim.nil, by omega, by simp⟩ (by omega) (by
   rintro i v hi ⟨p,d,rfl,hp,hpl,hd,hs⟩;have b1:=ha.at hi;have b2:=qjj hb i;have q1:iadd .u64 4294967296 a[i]=4294967296+a[i]:=qlK (by omega) (by omega);have q2:isub .u64 (4294967296+a[i]) (lget b i)=4294967296+a[i]-lget b i:=qmI (by omega) (by omega);have q3:isub .u64 (4294967296+a[i]-lget b i) (d:Int)=4294967296+a[i]-lget b i-d:=qmI (by omega) (by omega);have q4:isub .u64 1 ((4294967296+a[i]-lget b i-d)/4294967296)=1-(4294967296+a[i]-lget b i-d)/4294967296:=qmI (by omega) (by omega);have e4:((1-(4294967296+a[i]-lget b i-d)/4294967296).toNat:Int)=1-(4294967296+a[i]-lget b i-d)/4294967296:=by omega
   refine⟨((a,b,(p++[(4294967296+a[i]-lget b i-d) % 4294967296])++List.replicate (a.length-(i+1)) 0,((1-(4294967296+a[i]-lget b i-d)/4294967296).toNat:Int),(a.length:Int),((i+1:Nat):Int),()),()),⟨_,_,rfl,by simp [hp],Lim.append hpl (Lim.cons (by omega) Lim.nil),by omega,?_⟩,fun g=>?_⟩
   · rw [qbR, hp, qfI, nnt hi, qoZ _ (by omega), Nat.pow_succ];have k1:((4294967296+a[i]-lget b i-d) % 4294967296).toNat+(lget b i % 4294967296).toNat+d=(a[i] % 4294967296).toNat+4294967296*(1-(4294967296+a[i]-lget b i-d)/4294967296).toNat:=by omega
     have k2:4294967296 ^ i*(((4294967296+a[i]-lget b i-d) % 4294967296).toNat+(lget b i % 4294967296).toNat+d)=4294967296 ^ i*((a[i] % 4294967296).toNat+4294967296*(1-(4294967296+a[i]-lget b i-d)/4294967296).toNat):=by rw[k1]
     grind
   · have e5 : (p ++ List.replicate (a.length - i) 0).length = a.length := by simp [hp]; omega
     have e6:i<(p++List.replicate (a.length-i) (0:Int)).length:=by omega
     simp only[qdS,qo8,bS0,tN0,gE0 hi,gE0 e6,q1,q2,q3,q4,qge,qru,e4,qcr (n:=i) (by omega),qqv _ hp hi,e5];simp [hi,hp]) (by
   rintro v ⟨p,d,rfl,hp,hpl,hd,hs⟩;refine⟨_,⟨p,rfl,hp,hpl,?_⟩,fun g=>by simp [qdS]⟩;rw[qjf (Nat.lt_of_le_of_lt hle (qfl a)),List.take_length] at hs;have k1:=qfl p;rw[hp] at k1;have:d=0:=by
     rcases Nat.eq_zero_or_pos d with h | h
     · exact h
     · have : d = 1 := by omega
       subst this;omega
   subst this;omega)
 have g1:(8:Int)*(a.length:Int)<=281474976710656:=by omega
 have g2:(a.length:Int)<=9223372036854775807:=by omega
 simp [qf8,hlp,qid hpl (by omega),hpn,g1,g2]
theorem qyO {a b:List Int} (ha:a.length<35184372088832) (hb:b.length<35184372088832):qkh a b=if nn a<nn b then some ([],3) else some (qaa (nn a-nn b),0):=by
 have h1:=qaG a;simp only[qkh,qd0 ha,qd0 hb,bS0,qoh (show(qaa (nn a)).length<4611686018427387904 by omega)];by_cases h:nn a<nn b
 · simp [ncmp,h]
 · have := qug (qaR (nn a)) (qaR (nn b)) (by omega) (by rw [q9q, q9q]; omega);rw[q9q,q9q] at this;have e:¬ ncmp (nn a) (nn b)<0:=by unfold ncmp;rw[if_neg h];split<;>omega
   simp [h,e,this]
theorem qAh {u:List Int} (hu:Lim u) {j:Nat} (hj:j<u.length) {y:Int} (hy:0<=y/\y<4294967296):nn (u.set j y)+4294967296 ^ j*u[j].toNat=nn u+4294967296 ^ j*y.toNat:=by
 have e1:u=u.take j++(u[j]::u.drop (j+1)):=by simp
 have e2:u.set j y=u.take j++(y::u.drop (j+1)):=List.set_eq_take_append_cons_drop.trans (by simp [hj]);have b:=hu.at hj;rw[e2];have:nn u=nn (u.take j++(u[j]::u.drop (j+1))):=by rw[<- e1]
 rw[this,qbR,qbR];simp only[List.length_take,Nat.min_eq_left (Nat.le_of_lt hj),nn];have k1:(y % 4294967296).toNat=y.toNat:=by omega
 have k2:(u[j] % 4294967296).toNat=u[j].toNat:=by omega
 rw[k1,k2]
 grind
theorem qsi {x y c u:Int} (hx:0<=x/\x<4294967296) (hy:0<=y/\y<4294967296) (hc:0<=c/\c<4294967296) (hu:0<=u/\u<4294967296) :
  0<=x*y/\x*y<18446744073709551616/\u+x*y<18446744073709551616/\c+(u+x*y)<18446744073709551616:=by
 have h0:0<=x*y:=Int.mul_nonneg hx.1 hy.1;have h1:x*y<=4294967295*4294967295:=Int.mul_le_mul (by omega) (by omega) hy.1 (by decide);omega
theorem qxb {b a:List Int} {n i:Nat} {x:Int} {u:List Int} {Z:Nat} (hb:Lim b) (hx:0<=x/\x<4294967296) (hu:Lim u) (hul:u.length=i+b.length) (hsz:i+b.length<4611686018427387904) :
  ∃ (w:List Int) (c:Nat),lp qeP K0 ((b,u++List.replicate Z 0,(i:Int),x,0,a,(n:Int),(i:Int),b,(b.length:Int),0,()),())=some ((b,w++List.replicate Z 0,(i:Int),(c:Int),a,(n:Int),(i:Int),()),()) /\
   w.length=i+b.length/\Lim w/\c<4294967296/\nn w+4294967296 ^ (i+b.length)*c=nn u+4294967296 ^ i*(x.toNat*nn b):=by
 obtain⟨r,⟨w,c,rfl,h1,h2,h3,h4⟩,hlp⟩:=qiR (step:=qeP)
  (fun k v=>∃ (w:List Int) (c:Nat),v=((b,w++List.replicate Z 0,(i:Int),x,(c:Int),a,(n:Int),(i:Int),b,(b.length:Int),(k:Int),()),())/\w.length=i+b.length/\Lim w/\c<4294967296/\nn w+4294967296 ^ (i+k)*c=nn u+4294967296 ^ i*(x.toNat*nn (b.take k)))
  (fun r=>∃ (w:List Int) (c:Nat),r=((b,w++List.replicate Z 0,(i:Int),(c:Int),a,(n:Int),(i:Int),()),())/\w.length=i+b.length/\Lim w/\c<4294967296/\nn w+4294967296 ^ (i+b.length)*c=nn u+4294967296 ^ i*(x.toNat*nn b))
  b.length (v:=((b,u++List.replicate Z 0,(i:Int),x,0,a,(n:Int),(i:Int),b,(b.length:Int),0,()),())) ⟨u,0,rfl,hul,hu,by omega,by simp⟩ (by omega) (by
   rintro k v hk ⟨w,c,rfl,hw,hwl,hc,hs⟩;have b1:=hb.at hk;have hik:i+k<w.length:=by omega
   have b2:=hwl.at hik;have b3:(0:Int)<=c/\(c:Int)<4294967296:=by omega
   obtain⟨m0,m1,m2,m3⟩:=qsi hx b1 b3 b2;have e4:((((c:Int)+(w[i+k]+x*b[k]))/4294967296).toNat:Int)=((c:Int)+(w[i+k]+x*b[k]))/4294967296:=by omega
   have q1:imul .u64 x b[k]=x*b[k]:=qwv m0 m1;have q2:iadd .u64 w[i+k] (x*b[k])=w[i+k]+x*b[k]:=qlK (by omega) m2;have q3:iadd .u64 (c:Int) (w[i+k]+x*b[k])=c+(w[i+k]+x*b[k]):=qlK (by omega) m3;have q4:iadd .i64 (i:Int) (k:Int)=((i+k:Nat):Int):=by rw[qeB]<;>omega
   refine⟨((b,w.set (i+k) (((c:Int)+(w[i+k]+x*b[k])) % 4294967296)++List.replicate Z 0,(i:Int),x,((((c:Int)+(w[i+k]+x*b[k]))/4294967296).toNat:Int),a,(n:Int),(i:Int),b,(b.length:Int),((k+1:Nat):Int),()),()),⟨_,_,rfl,by simpa using hw,hwl.set (by omega),by omega,?_⟩,fun g=>?_⟩
   · have hset := qAh hwl hik (y := ((c : Int) + (w[i + k] + x * b[k])) % 4294967296) (by omega);rw[nnt hk,show i+(k+1)=i+k+1 from rfl,Nat.pow_succ];have k1:(((c:Int)+(w[i+k]+x*b[k])) % 4294967296).toNat+4294967296*(((c:Int)+(w[i+k]+x*b[k]))/4294967296).toNat=c+(w[i+k].toNat+(x*b[k]).toNat):=by omega
     have k2:4294967296 ^ (i+k)*((((c:Int)+(w[i+k]+x*b[k])) % 4294967296).toNat+4294967296*(((c:Int)+(w[i+k]+x*b[k]))/4294967296).toNat)=4294967296 ^ (i+k)*(c+(w[i+k].toNat+(x*b[k]).toNat)):=by rw[k1]
     have k3:(x*b[k]).toNat=x.toNat*(b[k] % 4294967296).toNat:=by
      rw[Int.toNat_mul hx.1 b1.1];congr 2;omega
     rw[k3] at k2;have k4:4294967296 ^ (i+k)=4294967296 ^ i*4294967296 ^ k:=Nat.pow_add ..
     grind
   · have e5 : (w ++ List.replicate Z (0 : Int))[i + k]? = some w[i + k] := by rw [List.getElem?_append_left hik]; exact gE0 hik
     have e6:((i+k:Nat):Int)<(((w++List.replicate Z (0:Int)).length:Nat):Int):=by simp;omega
     have e7:(0:Int)<=((i+k:Nat):Int):=by omega
     simp only[qeP,tN0,gE0 hk,bS0,q4,e5,q1,q2,q3,qge,qru,e4,qcr (n:=k) (by omega),List.set_append_left _ _ hik,cnd2 e7 e6];simp [hk]) (by
   rintro v ⟨w,c,rfl,hw,hwl,hc,hs⟩;rw[List.take_length] at hs;exact⟨_,⟨w,c,rfl,hw,hwl,hc,hs⟩,fun g=>by simp [qeP]⟩)
 exact⟨w,c,hlp,h1,h2,h3,h4⟩
theorem qxa {a b:List Int} (ha:a.length<17592186044416) (hb:b.length<17592186044416):qkj a b=some (qaa (nn a*nn b)):=by
 have h1:=qaG a;have h2:=qaG b;have e1:=q9q (nn a);have e2:=q9q (nn b);have l1:=qaR (nn a);have l2:=qaR (nn b);simp only[qkj,qd0 (show a.length<35184372088832 by omega),qd0 (show b.length<35184372088832 by omega),bS0];generalize qaa (nn a)=x at *;generalize qaa (nn b)=y at *;rw[<- e1,<- e2];clear e1 e2;have hN:iadd .i64 (x.length:Int) (y.length:Int)=((x.length+y.length:Nat):Int):=by rw[qeB]<;>omega
 rw[hN];obtain⟨r,⟨p,rfl,hp,hpl,hpn⟩,hlp⟩:=qiR (step:=qfO) (fun i v=>∃ p:List Int,v=((y,p++List.replicate (x.length-i) 0,x,(x.length:Int),(i:Int),()),())/\p.length=i+y.length/\Lim p/\nn p=nn (x.take i)*nn y)
  (fun r=>∃ p,r=((p,()),())/\p.length=x.length+y.length/\Lim p/\nn p=nn x*nn y) x.length (v:=((y,List.replicate (x.length+y.length) 0,x,(x.length:Int),0,()),()))
  ⟨List.replicate y.length 0, by rw [List.replicate_append_replicate, Nat.sub_zero, Nat.add_comm]; rfl, by simp, Lim.zeros _, by simp [que]⟩ (by omega) (by
   rintro i v hi ⟨p,rfl,hp,hpl,hs⟩;obtain⟨w,c,hin,hw,hwl,hc,hwn⟩:=qxb (a:=x) (n:=x.length) (i:=i) (x:=x[i]) (u:=p) (Z:=x.length-i) l2 (l1.at hi) hpl hp (by omega);have b1:=l1.at hi;refine⟨((y,(w++[(c:Int)])++List.replicate (x.length-(i+1)) 0,x,(x.length:Int),((i+1:Nat):Int),()),()),⟨_,rfl,by simp [hw];omega,Lim.append hwl (Lim.cons (by omega) Lim.nil),?_⟩,fun g=>?_⟩
   · rw [qbR, hw, qoZ _ (by omega), nnt hi, tN0, hwn, hs];have:(x[i] % 4294967296).toNat=x[i].toNat:=by omega
     rw[this]
     grind
   · have q4 : iadd .i64 (i : Int) (y.length : Int) = ((i + y.length : Nat) : Int) := by rw [qeB] <;> omega
     have e6:((i+y.length:Nat):Int)<(((w++List.replicate (x.length-i) (0:Int)).length:Nat):Int):=by simp;omega
     have e7:(0:Int)<=((i+y.length:Nat):Int):=by omega
     have e8:i+y.length<(w++List.replicate (x.length-i) (0:Int)).length:=by omega
     have e9:(w++List.replicate (x.length-i) (0:Int)).set (i+y.length) (c:Int)=(w++[(c:Int)])++List.replicate (x.length-(i+1)) 0:=by
      have:=qqv (p:=w) (i:=i+y.length) (n:=x.length+y.length) (z:=0) (c:Int) hw (by omega);rw[show x.length+y.length-(i+y.length)=x.length-i by omega,show x.length+y.length-(i+y.length+1)=x.length-(i+1) by omega] at this;exact this
     simp only[qfO,tN0,gE0 hi,bS0,hin,q4,qcr (n:=i) (by omega),cnd2 e7 e6,gE0 e8,e9];simp [hi]) (by
   rintro v ⟨p,rfl,hp,hpl,hs⟩;rw[List.take_length] at hs;exact⟨((p,()),()),⟨p,rfl,hp,hpl,hs⟩,fun g=>by simp [qfO]⟩)
 have g1:(8:Int)*((x.length+y.length:Nat):Int)<=281474976710656:=by omega
 have g2:((x.length+y.length:Nat):Int)<=9223372036854775807:=by omega
 have g3:(0:Int)<=((x.length+y.length:Nat):Int):=by omega
 have g4:((8:Nat):Int)*((x.length+y.length:Nat):Int)<=281474976710656:=g1;simp only[tN0,hlp,bS0,qid hpl (by omega),hpn,decide_eq_true g2,decide_eq_true g3,decide_eq_true g4,Bool.and_true,decide_true,cond_true]
theorem qtd (a:List Int) {i:Nat} (h:i<a.length):nn (a.drop i)=(a[i] % 4294967296).toNat+4294967296*nn (a.drop (i+1)):=by
 rw[List.drop_eq_getElem_cons h,nn]
theorem qxn {a:List Int} {d:Nat} (ha:Lim a) (hl:a.length<35184372088832) (hd:0<d) (hd':d<4294967296):qkd a (d:Int)=some (qaa (nn a/d),((nn a % d:Nat):Int)):=by
 obtain⟨r,⟨s,c,rfl,hs,hsl,hc,hsn⟩,hlp⟩:=qlg (step:=qdR)
  (fun v=>∃ (j:Nat) (s:List Int) (c:Nat),j<=a.length/\v=((a,(d:Int),List.replicate j 0++s,(c:Int),(j:Int)-1,()),())/\j+s.length=a.length/\Lim s/\c<d/\nn (a.drop j)=d*nn s+c)
  (fun v=>(v.1.2.2.2.2.1+1).toNat)
  (fun r=>∃ (s:List Int) (c:Nat),r=((s,(c:Int),()),())/\s.length=a.length/\Lim s/\c<d/\nn a=d*nn s+c) (v:=((a,(d:Int),List.replicate a.length 0,0,(a.length:Int)-1,()),()))
  ⟨a.length, [], 0, Nat.le_refl _, by simp, by simp, Lim.nil, hd, by simp⟩ (by simp; omega) (by
   rintro v ⟨j,s,c,hj,rfl,hjl,hsl,hc,hn⟩;cases j with
   | zero =>
    refine .inl ⟨((s,(c:Int),()),()),⟨s,c,rfl,by omega,hsl,hc,by simpa using hn⟩,fun g=>by simp [qdR]⟩
   | succ j =>
    have hja:j<a.length:=by omega
    have b:=ha.at hja;have e3:((j+1:Nat):Int)-1=(j:Int):=by omega
    rw[e3];obtain⟨x,hx⟩:=Int.eq_ofNat_of_zero_le b.1;have hx':x<4294967296:=by omega
    have hq:(c*4294967296+x)/d<4294967296:=by
      rw[Nat.div_lt_iff_lt_mul hd];have:(c+1)*4294967296<=d*4294967296:=Nat.mul_le_mul_right _ hc;rw[Nat.mul_comm 4294967296 d];omega
    have k1:=Nat.div_add_mod (c*4294967296+x) d;have k5:=Nat.mod_lt (c*4294967296+x) hd;have q3:iquo .u64 ((c*4294967296+x:Nat):Int) (d:Int)=(((c*4294967296+x)/d:Nat):Int):=by rw[qyJ (by omega) (by omega) (by omega)];exact(Int.natCast_ediv _ _).symm
    have q4:irem ((c*4294967296+x:Nat):Int) (d:Int)=(((c*4294967296+x) % d:Nat):Int):=by rw[qmJ (by omega)];exact(Int.natCast_emod _ _).symm
    generalize (c*4294967296+x)/d=q at *;generalize (c*4294967296+x) % d=rr at *;refine .inr ⟨((a,(d:Int),List.replicate j 0++(q:Int)::s,(rr:Int),(j:Int)-1,()),()),⟨j,_,_,by omega,rfl,by simp;omega,Lim.cons (by omega) hsl,k5,?_⟩,by simp,fun g=>?_⟩
    · rw [qtd a hja, hn, nn];have k2:((q:Int) % 4294967296).toNat=q:=by omega
      have k3:(a[j] % 4294967296).toNat=x:=by omega
      rw[k2,k3]
      grind
    · have c1 : (c : Int) < 4294967296 := by omega
      have q1:shlV .u64 (c:Int) 32=(c:Int)*4294967296:=qvV (by omega) c1;have q2:ior .u64 ((c:Int)*4294967296) a[j]=((c*4294967296+x:Nat):Int):=by rw[qws (by omega) c1 b.1 b.2,hx];omega
      have q5:isub .i64 (j:Int) 1=(j:Int)-1:=by rw[qcg]<;>omega
      have e5:(List.replicate (j+1) (0:Int)++s).set j (q:Int)=List.replicate j 0++(q:Int)::s:=by
       rw[List.replicate_succ',List.append_assoc,List.set_append_right _ _ (by simp)];simp
      have e6:j<(List.replicate (j+1) (0:Int)++s).length:=by simp;omega
      have e7:((j:Nat):Int)<((List.replicate (j+1) (0:Int)++s).length:Int):=by omega
      have e8:(0:Int)<=((j:Nat):Int):=by omega
      have e9:¬ ((d:Int)=0):=by omega
      simp only[qdR,tN0,gE0 hja,gE0 e6,bS0,q1,q2,q3,q4,q5,e5,cnd2 e8 e7,cnd e8,cnd' e9,ge_iff_le])
 have g1:(8:Int)*(a.length:Int)<=281474976710656:=by omega
 have g2:(a.length:Int)<=9223372036854775807:=by omega
 have g3:isub .i64 (a.length:Int) 1=(a.length:Int)-1:=by rw[qcg]<;>omega
 have k1:nn a/d=nn s:=by rw[hsn,Nat.mul_add_div hd,Nat.div_eq_of_lt hc];simp
 have k2:nn a % d=c:=by rw[hsn,Nat.mul_add_mod,Nat.mod_eq_of_lt hc]
 rw[k1,k2];simp [qkd,g1,g2,g3,hlp,qid hsl (by omega)]
theorem qAr {a:List Int} (hl:a.length<35184372088832):qpY a=if nn a<18446744073709551616 then some (((nn a:Nat):Int),true) else some (0,false):=by
 simp only[qpY,qd0 hl,bS0];generalize nn a=n;by_cases h0:n=0
 · subst h0;simp [qa7]
 by_cases h1:n<4294967296
 · rw[qfx h0 h1];simp;omega
 by_cases h2:n<18446744073709551616
 · have e : qaa n = [((n % 4294967296 : Nat) : Int), ((n / 4294967296 : Nat) : Int)] := by rw [qh2 h0, qfx (n := n / 4294967296) (by omega) (by omega)]
   have q1:shlV .u64 ((n/4294967296:Nat):Int) 32=((n/4294967296:Nat):Int)*4294967296:=qvV (by omega) (by omega);have q2:ior .u64 (((n/4294967296:Nat):Int)*4294967296) ((n % 4294967296:Nat):Int)=(n:Int):=by rw[qws]<;>omega
   rw[e];simp only[List.length_cons,List.length_nil,List.getElem?_cons_succ,List.getElem?_cons_zero,bS0,q1,q2];simp [h2]
 · have hlen : 2 < (qaa n).length := qsk (by omega);have a1:¬ ((qaa n).length:Int)=0:=by omega
   have a2:¬ ((qaa n).length:Int)=1:=by omega
   have a3:¬ ((qaa n).length:Int)=2:=by omega
   rw[cnd' a1,cnd' a2,cnd' a3,if_neg h2]
theorem qwK {a b:List Int} (hla:a.length<35184372088832) (hlb:b.length<35184372088832) (ha:nn a<18446744073709551616) (hb:nn b<18446744073709551616):qiM a b=some (qaa (Nat.gcd (nn a) (nn b))):=by
 obtain⟨r,rfl,hlp⟩:=qlg (step:=qdc) (fun v=>∃ x y:Nat,v=(((x:Int),(y:Int),()),())/\x<18446744073709551616/\y<18446744073709551616/\Nat.gcd x y=Nat.gcd (nn a) (nn b)) (fun v=>v.1.2.1.toNat)
  (fun r=>r=((((Nat.gcd (nn a) (nn b):Nat):Int),()),())) (v:=((((nn a:Nat):Int),((nn b:Nat):Int),()),())) ⟨nn a,nn b,rfl,ha,hb,rfl⟩ (by simp;omega) (by
    rintro v ⟨x,y,rfl,hx,hy,hg⟩;by_cases h0:y=0
    · subst h0;refine .inl ⟨_,rfl,fun g=>?_⟩;rw[Nat.gcd_zero_right] at hg;simp [qdc,hg]
    · have hlt := Nat.mod_lt x (Nat.pos_of_ne_zero h0);refine .inr ⟨(((y:Int),((x % y:Nat):Int),()),()),⟨y,x % y,rfl,hy,by omega,?_⟩,by show(((x % y:Nat):Int)).toNat<((y:Nat):Int).toNat;omega,fun g=>?_⟩
      · rw[<- hg,Nat.gcd_comm y,<- Nat.gcd_rec,Nat.gcd_comm]
      · have : irem (x : Int) (y : Int) = ((x % y : Nat) : Int) := by rw [qmJ (by omega)]; exact (Int.natCast_emod _ _).symm
        have h1:¬ (y:Int)=0:=by omega
        simp [qdc,this,h0])
 have hgl:Nat.gcd (nn a) (nn b)<18446744073709551616:=by
  by_cases h0:nn b=0
  · rw[h0,Nat.gcd_zero_right];exact ha
  · exact Nat.lt_of_le_of_lt (Nat.gcd_le_right _ (Nat.pos_of_ne_zero h0)) hb
 simp [qiM,qAr hla,qAr hlb,ha,hb,hlp,qtR hgl]
theorem qv4 (s:Nat):(2:Int) ^ s=((2 ^ s:Nat):Int):=by rw[Int.natCast_pow];rfl
theorem qsE (x s:Nat):(x:Int)/2 ^ s=((x/2 ^ s:Nat):Int):=by rw[qv4,<- Int.natCast_ediv]
theorem qxj (k:Nat):4294967296 ^ k=2 ^ (32*k):=by rw[Nat.pow_mul]
theorem qob {a:List Int} (ha:Lim a) (hl:a.length<35184372088832) (h0:nn a≠0):∃ z m:Nat,qb5 a=some (z:Int)/\nn a=2 ^ z*m/\m % 2=1/\z<32*a.length:=by
 obtain⟨r,⟨z,m,rfl,h1,h2,h3⟩,hlp⟩:=qlg (step:=qdQ) (fun v=>∃ k:Nat,k<=a.length/\v=((((32*k:Nat):Int),a,(a.length:Int),(k:Int),()),())/\nn (a.take k)=0) (fun v=>(a.length-v.1.2.2.2.1).toNat)
  (fun r => ∃ z m : Nat, r = .inr (((z : Int), ()), ()) /\ nn a = 2 ^ z * m /\ m % 2 = 1 /\ z < 32 * a.length) (v := ((0, a, (a.length : Int), 0, ()), ())) ⟨0, by omega, rfl, rfl⟩ (by simp; omega) (by
   rintro v ⟨k,hk,rfl,hz⟩;by_cases hka:k<a.length
   · have b := ha.at hka;by_cases hx:a[k]=0
     · refine .inr ⟨((((32 * (k + 1) : Nat) : Int), a, (a.length : Int), ((k + 1 : Nat) : Int), ()), ()), ⟨k + 1, by omega, rfl, ?_⟩, by simp; omega, fun g => ?_⟩
       · rw[nnt hka,hz,hx];simp
       · have q1 : iadd .i64 ((32 * k : Nat) : Int) 32 = ((32 * (k + 1) : Nat) : Int) := by rw [qeB] <;> omega
         have e1:(k:Int)<(a.length:Int):=by omega
         have e2:(0:Int)<=(k:Int):=by omega
         simp only[qdQ,cnd e1,cnd e2,tN0,gE0 hka,bS0,hx,q1,qcr (n:=k) (by omega)];simp
     · obtain ⟨x, hx2⟩ := Int.eq_ofNat_of_zero_le b.1;obtain⟨m,h1,h2,h3⟩:=qqr 64 x (by omega) (by omega);have h4:tzN 64 x<32:=by
         rcases Nat.lt_or_ge (tzN 64 x) 32 with h | h
         · exact h
         · have : 2 ^ 32 <= 2 ^ tzN 64 x := Nat.pow_le_pow_right (by decide) h;have hm:0<m:=by omega
           have:2 ^ tzN 64 x*1<=2 ^ tzN 64 x*m:=Nat.mul_le_mul_left _ hm;omega
       refine .inl ⟨_,⟨32*k+tzN 64 x,m+2 ^ (32-tzN 64 x)*nn (a.drop (k+1)),rfl,?_,?_,by omega⟩,fun g=>?_⟩
       · rw [qqN hka, hz, qxj];have k3:(a[k] % 4294967296).toNat=x:=by omega
         rw[k3,Nat.pow_add];have k4:2 ^ tzN 64 x*2 ^ (32-tzN 64 x)=4294967296:=by rw[<- Nat.pow_add,show tzN 64 x+(32-tzN 64 x)=32 by omega]
         generalize tzN 64 x=t at *;have k5:2 ^ t*(m+2 ^ (32-t)*nn (a.drop (k+1)))=x+4294967296*nn (a.drop (k+1)):=by
           rw[Nat.mul_add,<- h1,<- Nat.mul_assoc,k4]
         rw[Nat.mul_assoc,k5];omega
       · have : 2 ^ (32 - tzN 64 x) = 2 * 2 ^ (31 - tzN 64 x) := by rw [show 32 - tzN 64 x = (31 - tzN 64 x) + 1 by omega, Nat.pow_succ, Nat.mul_comm]
         rw[this,Nat.mul_assoc];omega
       · have e1 : (k : Int) < (a.length : Int) := by omega
         have e2:(0:Int)<=(k:Int):=by omega
         have q1:imul .i64 32 (k:Int)=((32*k:Nat):Int):=by rw[qww]<;>omega
         have q2:iadd .i64 ((32*k:Nat):Int) ((tzN 64 x:Nat):Int)=((32*k+tzN 64 x:Nat):Int):=by rw[qeB]<;>omega
         have q3:tz64 a[k]=some ((tzN 64 x:Nat):Int):=by
           rw[hx2,tz64,cnd2 (by omega) (by omega)];rfl
         simp only[qdQ,cnd e1,cnd e2,tN0,gE0 hka,bS0,q1,q2,q3];simp [hx]
   · exfalso;rw[List.take_of_length_le (by omega)] at hz;exact h0 hz)
 exact⟨z,m,by simp [qb5,hlp],h1,h2,h3⟩
def shrL (s:Nat):List Int->List Int
 | []=>[]
 | x::r=>((((((r[0]?).getD 0)*4294967296+x)/2 ^ s) % 4294967296:Int))::shrL s r
theorem qt3 (s:Nat):∀ l:List Int,(shrL s l).length=l.length
 | []=>rfl
 | _::r=>by simp [shrL,qt3 s r]
theorem qt4 (s:Nat):∀ (l:List Int) (i:Nat) (h:i<(shrL s l).length),(shrL s l)[i]=((lget l (i+1))*4294967296+lget l i)/2 ^ s % 4294967296
 | [],i,h=>by simp [shrL] at h
 | x::r,0,h=>by simp [shrL,lget]
 | x::r,i+1,h=>by
  simp only[shrL,List.getElem_cons_succ];rw[qt4 s r i];simp [lget]
theorem qt2 (s:Nat):∀ l:List Int,Lim (shrL s l)
 | []=>Lim.nil
 | x::r=>Lim.cons (by omega) (qt2 s r)
theorem qzo {r:List Int} (hr:Lim r):nn r % 4294967296=((r[0]?).getD 0).toNat:=by
 cases r with
 | nil=>rfl
 | cons x r=>have:=hr x List.mem_cons_self;simp only[nn,List.getElem?_cons_zero,Option.getD_some];omega
theorem qy3 {X M P C B:Nat} (hB:P*C=B) (hP:0<P) (hX:X<B):(X+B*M)/P=(M % B*B+X)/P % B+B*(M/P):=by
 have hB0:0<B:=by omega
 have f1:(X+B*M)/P % B=(M % B*B+X)/P % B:=by
  have h1:B*M=B*(M % B)+B*(B*(M/B)):=by rw[<- Nat.mul_add,Nat.mod_add_div]
  have h2:B*(B*(M/B))=P*(B*(C*(M/B))):=by
   have:B*(B*(M/B))=(P*C)*(B*(M/B)):=by rw[hB]
   rw[this];grind
  have:X+B*M=(M % B*B+X)+P*(B*(C*(M/B))):=by rw[h1,h2,Nat.mul_comm B (M % B)];omega
  rw[this,Nat.add_mul_div_left _ _ hP,Nat.add_mul_mod_self_left]
 have f2:(X+B*M)/P/B=M/P:=by
  rw[Nat.div_div_eq_div_mul,Nat.mul_comm P B,<- Nat.div_div_eq_div_mul,Nat.add_mul_div_left _ _ hB0,Nat.div_eq_of_lt hX,Nat.zero_add]
 have:=Nat.div_add_mod ((X+B*M)/P) B;rw[f1,f2] at this;omega
theorem qwf (s:Nat) (hs:s<=32):∀ l:List Int,Lim l->nn (shrL s l)=nn l/2 ^ s
 | [],_=>by simp [shrL]
 | x::r,h=>by
  have hx:=h x List.mem_cons_self;have hr:Lim r:=fun y hy=>h y (List.mem_cons_of_mem _ hy)
  have hh:=qzo hr;have hr0:=qjj hr 0;unfold lget at hr0;obtain⟨X,rfl⟩:=Int.eq_ofNat_of_zero_le hx.1;obtain⟨Y,hY⟩:=Int.eq_ofNat_of_zero_le hr0.1;have ih:=qwf s hs r hr;simp only[shrL,nn,ih,hY];rw[hY] at hh;simp only[tN0] at hh;have e1:(((Y:Int)*4294967296+(X:Int))/2 ^ s % 4294967296 % 4294967296).toNat=(Y*4294967296+X)/2 ^ s % 4294967296:=by
   have h1:((Y:Int)*4294967296+(X:Int))=((Y*4294967296+X:Nat):Int):=by omega
   rw[h1,qsE];generalize (Y*4294967296+X)/2 ^ s=Q;omega
  have e2:((X:Int) % 4294967296).toNat=X:=by omega
  rw[e1,e2];have p2:(2:Nat) ^ s*2 ^ (32-s)=4294967296:=by rw[<- Nat.pow_add,show s+(32-s)=32 by omega]
  have key:=qy3 (X:=X) (M:=nn r) p2 (Nat.pow_pos (by decide)) (by omega);rw[key,hh]
theorem qrt {a:List Int} {n:Nat} (ha:Lim a) (hl:a.length<35184372088832) (hn:n<4611686018427387904):qdX a (n:Int)=some (qaa (nn a/2 ^ n)):=by
 have q1:iquo .i64 (n:Int) 32=((n/32:Nat):Int):=by rw[qpc (by omega) (by omega) (by omega)];omega
 have q2:irem (n:Int) 32=((n % 32:Nat):Int):=by rw[qmJ (by omega)];omega
 unfold qdX;rw[q1,q2];have hpow:2 ^ n=4294967296 ^ (n/32)*2 ^ (n % 32):=by rw[qxj,<- Nat.pow_add];congr 1;omega
 by_cases hw:a.length<=n/32
 · have c1 : ((n / 32 : Nat) : Int) >= (a.length : Int) := by omega
   rw[cnd c1];have:=qfl a;have h2:=Nat.pow_le_pow_right (n:=4294967296) (by decide) hw;have h3:4294967296 ^ (n/32)*1<=4294967296 ^ (n/32)*2 ^ (n % 32):=Nat.mul_le_mul_left _ (Nat.pow_pos (by decide));rw[hpow,Nat.div_eq_of_lt (by omega),qa7]
 · have c1 : ¬ ((n / 32 : Nat) : Int) >= (a.length : Int) := by omega
   rw[cnd' c1];have q3:isub .i64 (a.length:Int) ((n/32:Nat):Int)=((a.length-n/32:Nat):Int):=by rw[qcg]<;>omega
   rw[q3];have hs:n % 32<=32:=by omega
   have hX:(shrL (n % 32) (a.drop (n/32))).length=a.length-n/32:=by rw[qt3];simp
   have key:=qji (step:=qeM) (fun i=>((a,((n/32:Nat):Int),((n % 32:Nat):Int),fill (shrL (n % 32) (a.drop (n/32))) 0 i,((a.length-n/32:Nat):Int),(i:Int),()),())) (a.length-n/32) (r:=((shrL (n % 32) (a.drop (n/32)),()),())) (by omega) (by
    intro g i hi;have hi2:i<(shrL (n % 32) (a.drop (n/32))).length:=by omega
    have e3:=qus (z:=0) hi2;have e4:(fill (shrL (n % 32) (a.drop (n/32))) 0 i).length=a.length-n/32:=by rw[qut _ _ _ (by omega),hX]
    have hi3:i+n/32<a.length:=by omega
    have r1:iadd .i64 (i:Int) ((n/32:Nat):Int)=((i+n/32:Nat):Int):=by rw[qeB]<;>omega
    have r2:iadd .i64 ((i+n/32:Nat):Int) 1=((i+n/32+1:Nat):Int):=by rw[qeB]<;>omega
    have b1:=ha.at hi3;have b2:=qjj ha (i+n/32+1);obtain⟨X,hX1⟩:=Int.eq_ofNat_of_zero_le b1.1;obtain⟨Y,hY1⟩:=Int.eq_ofNat_of_zero_le b2.1;have r3:shlV .u64 (lget a (i+n/32+1)) 32=lget a (i+n/32+1)*4294967296:=qvV b2.1 b2.2;have r4:ior .u64 (lget a (i+n/32+1)*4294967296) a[i+n/32]=((Y*4294967296+X:Nat):Int):=by rw[qws b2.1 b2.2 b1.1 b1.2,hX1,hY1];omega
    have r5:shrV .u64 ((Y*4294967296+X:Nat):Int) ((n % 32:Nat):Int)=(((Y*4294967296+X)/2 ^ (n % 32):Nat):Int):=qy2 _ _ (by omega);have r6:(shrL (n % 32) (a.drop (n/32)))[i]=(((Y*4294967296+X)/2 ^ (n % 32):Nat):Int) % 4294967296:=by
     rw[qt4];have g1:lget (a.drop (n/32)) (i+1)=(Y:Int):=by rw[<- hY1];simp only[lget,List.getElem?_drop];congr 2;omega
     have g2:lget (a.drop (n/32)) i=(X:Int):=by rw[<- hX1,<- qvm hi3];simp only[lget,List.getElem?_drop];congr 2;omega
     have h1:((Y:Int)*4294967296+(X:Int))=((Y*4294967296+X:Nat):Int):=by omega
     rw[g1,g2,h1,qsE]
    rw[r6] at e3;have c2:(i:Int)<((a.length-n/32:Nat):Int):=by omega
    have c3:(0:Int)<=((i+n/32:Nat):Int):=by omega
    have c4:¬ ((n % 32:Nat):Int)<0:=by omega
    have c5:(0:Int)<=(i:Int):=by omega
    have c6:(i:Int)<((fill (shrL (n % 32) (a.drop (n/32))) 0 i).length:Int):=by omega
    have c7:i<(fill (shrL (n % 32) (a.drop (n/32))) 0 i).length:=by omega
    simp only[qeM,cnd c2,r1,r2,qo8,bS0,cnd c3,tN0,gE0 hi3,cnd' c4,cnd2 c5 c6,gE0 c7,r3,r4,r5,qge,e3,qcr (n:=i) (by omega)];simp) (by
    intro g;have:=quu (shrL (n % 32) (a.drop (n/32))) (0:Int);rw[hX] at this;simp [qeM,this])
   rw[qst,hX] at key;have hv:nn (shrL (n % 32) (a.drop (n/32)))=nn a/2 ^ n:=by
    rw[qwf _ hs _ (ha.drop _),hpow,<- Nat.div_div_eq_div_mul];congr 1;have e:nn a=nn (a.take (n/32))+4294967296 ^ (n/32)*nn (a.drop (n/32)):=by
     conv=>lhs;rw[<- List.take_append_drop (n/32) a]
     rw[qbR,List.length_take,Nat.min_eq_left (by omega)]
    have h1:=qfl (a.take (n/32));rw[List.length_take,Nat.min_eq_left (by omega)] at h1;rw[e,Nat.add_mul_div_left _ _ (Nat.pow_pos (by decide)),Nat.div_eq_of_lt h1,Nat.zero_add]
   have g2:((a.length-n/32:Nat):Int)<=9223372036854775807:=by omega
   have g3:(0:Int)<=((a.length-n/32:Nat):Int):=by omega
   have g4:((8:Nat):Int)*((a.length-n/32:Nat):Int)<=281474976710656:=by omega
   have key':lp qeM K0 ((a,((n/32:Nat):Int),((n % 32:Nat):Int),List.replicate (a.length-n/32) 0,((List.replicate (a.length-n/32) (0:Int)).length:Int),0,()),())=some ((shrL (n % 32) (a.drop (n/32)),()),()):=by simpa using key
   simp only[tN0,key',bS0,qid (qt2 _ _) (show(shrL (n % 32) (a.drop (n/32))).length<4611686018427387904 by omega),hv,decide_eq_true g2,decide_eq_true g3,decide_eq_true g4,Bool.and_true,decide_true,cond_true]
theorem qAn {x y s:Nat} (hy:y<2 ^ s) (h:x*2 ^ s+y<18446744073709551616):ior .u64 (y:Int) ((x*2 ^ s:Nat):Int)=((x*2 ^ s+y:Nat):Int):=by
 rw[<- qyK hy h,qtw (by omega) (by omega),qtw (by omega) (by omega),Nat.or_comm]
theorem qxo {x c P C B:Nat} (hB:C*P=B) (hc:c<P) (hx:x<B) (hB64:B*P<18446744073709551616) (hP:0<P) (hC:0<C) :
   x*P % B=(x % C)*P/\(x % C)*P+c<B/\x*P/B<P/\x*P<18446744073709551616:=by
 refine⟨?_,?_,?_,?_⟩
 · rw[<- hB,Nat.mul_mod_mul_right]
 · have : x % C + 1 <= C := Nat.mod_lt _ hC;have:=Nat.mul_le_mul_right P this;rw[hB,Nat.add_mul] at this;omega
 · rw [Nat.div_lt_iff_lt_mul (by omega), Nat.mul_comm P B];exact Nat.mul_lt_mul_of_pos_right hx hP
 · exact Nat.lt_trans (Nat.mul_lt_mul_of_pos_right hx hP) hB64
theorem qt5 {a:List Int} {n:Nat} (ha:Lim a) (hl:a.length<8796093022208) (hn:n<281474976710656):qhY a (n:Int)=some (qaa (nn a*2 ^ n)):=by
 have q1:iquo .i64 (n:Int) 32=((n/32:Nat):Int):=by rw[qpc (by omega) (by omega) (by omega)];omega
 have q2:irem (n:Int) 32=((n % 32:Nat):Int):=by rw[qmJ (by omega)];omega
 unfold qhY;rw[q1,q2];have hpow:2 ^ n=4294967296 ^ (n/32)*2 ^ (n % 32):=by rw[qxj,<- Nat.pow_add];congr 1;omega
 have hw:n/32<8796093022208:=by omega
 have hs:n % 32<32:=by omega
 rw[hpow];generalize n/32=w at *;generalize n % 32=s at *;clear hpow q1 q2 hn;have q3:iadd .i64 (iadd .i64 (a.length:Int) (w:Int)) 1=((a.length+w+1:Nat):Int):=by
  have:iadd .i64 (a.length:Int) (w:Int)=((a.length+w:Nat):Int):=by rw[qeB]<;>omega
  rw[this,qcr (by omega)];omega
 rw[q3];have hB:2 ^ (32-s)*2 ^ s=4294967296:=by rw[<- Nat.pow_add,show 32-s+s=32 by omega]
 have hP:0<2 ^ s:=Nat.pow_pos (by decide);have hC:0<2 ^ (32-s):=Nat.pow_pos (by decide);have hB64:4294967296*2 ^ s<18446744073709551616:=by
  have:2 ^ s<=2 ^ 31:=Nat.pow_le_pow_right (by decide) (by omega);generalize 2 ^ s=P at *;omega
 have hs64:s<=64:=by omega
 have key0:∀ P,P=2 ^ s->∃ r,(∃ (q:List Int) (c:Nat),r=(((List.replicate w 0++q)++[(c:Int)],()),())/\q.length=a.length/\Lim q/\c<P/\nn q+4294967296 ^ a.length*c=nn a*P) /\
    lp qeN K0 (((w:Int),(s:Int),List.replicate (a.length+w+1) 0,a,(a.length:Int),0,()),())=some r:=by
  intro P hPe;refine qiR (step:=qeN) (fun i v=>∃ (q:List Int) (c:Nat),v=(((w:Int),(s:Int),(List.replicate w 0++q)++((c:Int)::List.replicate (a.length-i) 0),a,(a.length:Int),(i:Int),()),())/\q.length=i/\Lim q/\c<P/\nn q+4294967296 ^ i*c=nn (a.take i)*P)
    (fun r=>∃ (q:List Int) (c:Nat),r=(((List.replicate w 0++q)++[(c:Int)],()),())/\q.length=a.length/\Lim q/\c<P/\nn q+4294967296 ^ a.length*c=nn a*P) a.length
    ⟨[],0,?_,rfl,Lim.nil,by omega,by simp⟩ (by omega) ?_ ?_
  · have : List.replicate (a.length + w + 1) (0 : Int) = (List.replicate w 0 ++ []) ++ ((0 : Nat) : Int) :: List.replicate (a.length - 0) 0 := by
      rw[List.append_nil,show a.length+w+1=w+(a.length+1) by omega,<- List.replicate_append_replicate,List.replicate_succ];rfl
    rw[this];rfl
  · rintro i v hi ⟨q, c, rfl, hq, hql, hc, hn⟩;have b:=ha.at hi;obtain⟨x,hx⟩:=Int.eq_ofNat_of_zero_le b.1;have hx':x<4294967296:=by omega
    subst hPe;obtain⟨s1,s2,s3,s4⟩:=qxo hB hc hx' hB64 hP hC;have r1:shlV .u64 a[i] (s:Int)=((x*2 ^ s:Nat):Int):=by rw[hx];exact qy4 hs64 s4
    have r2:iand .u64 ((x*2 ^ s:Nat):Int) 4294967295=((x % 2 ^ (32-s)*2 ^ s:Nat):Int):=by rw[qge,<- s1];exact(Int.natCast_emod _ 4294967296).symm
    have r3:ior .u64 (c:Int) ((x % 2 ^ (32-s)*2 ^ s:Nat):Int)=((x % 2 ^ (32-s)*2 ^ s+c:Nat):Int):=qAn hc (Nat.lt_trans s2 (by decide));have r4:shrV .u64 ((x*2 ^ s:Nat):Int) 32=((x*2 ^ s/4294967296:Nat):Int):=by rw[qru];exact(Int.natCast_ediv _ 4294967296).symm
    have r5:iadd .i64 (i:Int) (w:Int)=((i+w:Nat):Int):=by rw[qeB]<;>omega
    have r6:iadd .i64 ((i+w:Nat):Int) 1=((i+w+1:Nat):Int):=by rw[qeB]<;>omega
    have k3:(a[i] % 4294967296).toNat=x:=by omega
    have hnt:=nnt hi;rw[k3] at hnt;have hk2:nn q+4294967296 ^ i*(x % 2 ^ (32-s)*2 ^ s+c)+4294967296 ^ (i+1)*(x*2 ^ s/4294967296)=nn (a.take (i+1))*2 ^ s:=by
      rw[hnt,Nat.pow_succ,<- s1,Nat.add_mul,<- hn];have:=Nat.div_add_mod (x*2 ^ s) 4294967296;generalize x*2 ^ s/4294967296=Q at *;generalize x*2 ^ s % 4294967296=R at *;rw[Nat.mul_assoc _ x,<- this]
      grind
    generalize hv:x % 2 ^ (32-s)*2 ^ s+c=vv at *;generalize hcc:x*2 ^ s/4294967296=cc at *;have l1:(List.replicate w (0:Int)++q).length=i+w:=by simp [hq];omega
    have l2:(List.replicate w (0:Int)++q++[(vv:Int)]).length=i+w+1:=by simp [hq];omega
    have z:List.replicate (a.length-i) (0:Int)=0::List.replicate (a.length-(i+1)) 0:=by rw[<- List.replicate_succ];congr 1;omega
    have t0:((List.replicate w (0:Int)++q)++((c:Int)::List.replicate (a.length-i) 0))[i+w]?=some (c:Int):=by rw[List.getElem?_append_right (by omega),l1];simp
    have t1:((List.replicate w (0:Int)++q)++((c:Int)::List.replicate (a.length-i) 0)).set (i+w) (vv:Int)=((List.replicate w (0:Int)++q)++[(vv:Int)])++(0::List.replicate (a.length-(i+1)) 0):=by
      rw[List.set_append_right _ _ (by omega),l1,z];simp
    have t2:(((List.replicate w (0:Int)++q)++[(vv:Int)])++(0::List.replicate (a.length-(i+1)) 0)).set (i+w+1) (cc:Int)=(List.replicate w (0:Int)++(q++[(vv:Int)]))++((cc:Int)::List.replicate (a.length-(i+1)) 0):=by
      rw[List.set_append_right _ _ (by omega),l2];simp
    have t3:(((List.replicate w (0:Int)++q)++[(vv:Int)])++(0::List.replicate (a.length-(i+1)) 0))[i+w+1]?=some 0:=by rw[List.getElem?_append_right (by omega),l2];simp
    have c1:(i:Int)<(a.length:Int):=by omega
    have c2:(0:Int)<=(i:Int):=by omega
    have c3:¬ (s:Int)<0:=by omega
    have c4:(0:Int)<=((i+w:Nat):Int):=by omega
    have c5:((i+w:Nat):Int)<(((List.replicate w (0:Int)++q)++((c:Int)::List.replicate (a.length-i) 0)).length:Int):=by rw[List.length_append,l1,List.length_cons];omega
    have c6:(0:Int)<=((i+w+1:Nat):Int):=by omega
    have c7:((i+w+1:Nat):Int)<((((List.replicate w (0:Int)++q)++[(vv:Int)])++(0::List.replicate (a.length-(i+1)) 0)).length:Int):=by rw[List.length_append,l2,List.length_cons];omega
    refine⟨(((w:Int),(s:Int),(List.replicate w 0++(q++[(vv:Int)]))++((cc:Int)::List.replicate (a.length-(i+1)) 0),a,(a.length:Int),((i+1:Nat):Int),()),()),⟨_,cc,rfl,by simp [hq],Lim.append hql (Lim.cons (by omega) Lim.nil),s3,?_⟩,fun g=>?_⟩
    · rw [qbR, hq, qoZ _ (by omega), tN0];exact hk2
    · simp only [qeN, cnd c1, cnd c2, tN0, gE0 hi, bS0, cnd' c3, r5, cnd2 c4 c5, t0, r6, r1, r2, r3, r4, t1, cnd2 c6 c7, t3, t2, qcr (n := i) (by omega)];rfl
  · rintro v ⟨q, c, rfl, hq, hql, hc, hn⟩;rw[List.take_length] at hn;exact⟨_,⟨q,c,rfl,hq,hql,hc,hn⟩,fun g=>by simp [qeN]⟩
 obtain⟨r,⟨q,c,rfl,hq,hql,hc,hnq⟩,hlp⟩:=key0 _ rfl;have hc32:c<4294967296:=by
  have:2 ^ s<=2 ^ 32:=Nat.pow_le_pow_right (by decide) (by omega);generalize 2 ^ s=P at *;omega
 have hval:nn ((List.replicate w (0:Int)++q)++[(c:Int)])=nn a*(4294967296 ^ w*2 ^ s):=by
  rw[List.append_assoc,qbR,qbR,que,List.length_replicate,hq,qoZ _ (by omega),tN0,hnq];generalize 2 ^ s=P at *
  grind
 have g2:((a.length+w+1:Nat):Int)<=9223372036854775807:=by omega
 have g3:(0:Int)<=((a.length+w+1:Nat):Int):=by omega
 have g4:((8:Nat):Int)*((a.length+w+1:Nat):Int)<=281474976710656:=by omega
 have hlim:Lim ((List.replicate w (0:Int)++q)++[(c:Int)]):=Lim.append (Lim.append (Lim.zeros _) hql) (Lim.cons (by omega) Lim.nil);simp only[tN0,hlp,bS0,qid hlim (show((List.replicate w (0:Int)++q)++[(c:Int)]).length<4611686018427387904 by simp [hq];omega),hval,decide_eq_true g2,decide_eq_true g3,decide_eq_true g4,Bool.and_true,decide_true,cond_true]
theorem qud {α:Type} {a b:List α} (h:b.length=a.length):over a 0 b=b:=by simp [over,h]
theorem qyD {α:Type} {p u:List α} {i:Nat} (x:α) (hp:p.length=i) (hi:i<u.length):(p++u.drop i).set i x=(p++[x])++u.drop (i+1):=by
 subst hp;rw[List.set_append_right _ _ (by omega),Nat.sub_self,List.drop_eq_getElem_cons hi,List.set_cons_zero,List.append_assoc];rfl
theorem qy1 {u v:List Int} {t:Nat} (hu:Lim u) (hv:Lim v) (hl:u.length<35184372088832) (hlv:v.length<u.length) (ht:t<4294967296) :
  ∃ (w:List Int) (d:Nat),qmx u v (t:Int)=some (w,decide (d=1))/\w.length=u.length/\Lim w/\d<=1/\nn w+t*nn v=nn u+4294967296 ^ u.length*d:=by
 obtain⟨r,⟨p,d,rfl,hp,hpl,hd,hpn⟩,hlp⟩:=qiR (step:=qey) (fun i s=>∃ (p:List Int) (c d:Nat),s=((p++u.drop i,v,(t:Int),(c:Int),(d:Int),(u.length:Int),(i:Int),()),())/\p.length=i/\Lim p/\c<4294967296/\d<=1/\nn p+t*nn (v.take i)=nn (u.take i)+4294967296 ^ i*(d+c)/\(v.length<i->c=0))
  (fun r=>∃ (p:List Int) (d:Nat),r=((p,(d:Int),()),())/\p.length=u.length/\Lim p/\d<=1/\nn p+t*nn v=nn u+4294967296 ^ u.length*d) u.length (v:=((u,v,(t:Int),0,0,(u.length:Int),0,()),()))
  ⟨[], 0, 0, by simp, rfl, Lim.nil, by omega, by omega, by simp, by omega⟩ (by omega) (by
   rintro i s hi ⟨p,c,d,rfl,hp,hpl,hc,hd,hs,h0⟩;have b1:=hu.at hi;have b2:=qjj hv i;obtain⟨y,hy⟩:=Int.eq_ofNat_of_zero_le b2.1;obtain⟨x,hx⟩:=Int.eq_ofNat_of_zero_le b1.1;have bt:(0:Int)<=(t:Int)/\(t:Int)<4294967296:=by omega
   obtain⟨m0,m1,m2,m3⟩:=qsi bt b2 (show(0:Int)<=(c:Int)/\(c:Int)<4294967296 by omega) (show(0:Int)<=0/\(0:Int)<4294967296 by omega);have hm:(t:Int)*lget v i=((t*y:Nat):Int):=by rw[hy,Int.natCast_mul]
   have q1:imul .u64 (t:Int) (lget v i)=((t*y:Nat):Int):=by rw[qwv m0 m1,hm]
   rw[hm] at m0 m1 m2 m3;have hty:t*y<=4294967295*4294967295:=Nat.mul_le_mul (by omega) (by omega);have q2:iadd .u64 (c:Int) ((t*y:Nat):Int)=((c+t*y:Nat):Int):=by rw[qlK (by omega) (by omega)];omega
   have q3:iadd .u64 4294967296 u[i]=4294967296+u[i]:=qlK (by omega) (by omega);have hlow:iand .u64 ((c+t*y:Nat):Int) 4294967295=(((c+t*y) % 4294967296:Nat):Int):=by rw[qge];exact(Int.natCast_emod _ 4294967296).symm
   have hhi:shrV .u64 ((c+t*y:Nat):Int) 32=(((c+t*y)/4294967296:Nat):Int):=by rw[qru];exact(Int.natCast_ediv _ 4294967296).symm
   have hnt:=qfI v i;have hdm:=Nat.div_add_mod (c+t*y) 4294967296;have hlt:=Nat.mod_lt (c+t*y) (show 0<4294967296 by decide);have hcc:(c+t*y)/4294967296<4294967296:=by omega
   have hc0:v.length<i+1->(c+t*y)/4294967296=0:=by
     intro h;have:y=0:=by
      have:lget v i=0:=by simp only[lget];rw[List.getElem?_eq_none (by omega)];rfl
      omega
     subst this;omega
   generalize hL:(c+t*y) % 4294967296=lo at *;generalize hH:(c+t*y)/4294967296=hg at *;have q4:isub .u64 (4294967296+u[i]) (lo:Int)=4294967296+u[i]-lo:=qmI (by omega) (by omega);have q5:isub .u64 (4294967296+u[i]-(lo:Int)) (d:Int)=((4294967296+x-lo-d:Nat):Int):=by rw[qmI (by omega) (by omega)];omega
   have q6:iand .u64 ((4294967296+x-lo-d:Nat):Int) 4294967295=(((4294967296+x-lo-d) % 4294967296:Nat):Int):=by rw[qge];exact(Int.natCast_emod _ 4294967296).symm
   have q7:isub .u64 1 (shrV .u64 ((4294967296+x-lo-d:Nat):Int) 32)=((1-(4294967296+x-lo-d)/4294967296:Nat):Int):=by
     rw[qru,qmI (by omega) (by omega)];omega
   have hdd:(4294967296+x-lo-d) % 4294967296+lo+d=x+4294967296*(1-(4294967296+x-lo-d)/4294967296):=by omega
   have hd1:1-(4294967296+x-lo-d)/4294967296<=1:=by omega
   have ho:(4294967296+x-lo-d) % 4294967296<4294967296:=by omega
   generalize (4294967296+x-lo-d) % 4294967296=o at *;generalize 1-(4294967296+x-lo-d)/4294967296=d' at *;refine⟨(((p++[(o:Int)])++u.drop (i+1),v,(t:Int),(hg:Int),(d':Int),(u.length:Int),((i+1:Nat):Int),()),()),⟨_,_,_,rfl,by simp [hp],Lim.append hpl (Lim.cons (by omega) Lim.nil),hcc,hd1,?_,hc0⟩,fun g=>?_⟩
   · rw [qbR, hp, qoZ _ (by omega), qfI v i, nnt hi, Nat.pow_succ, tN0];have k1:(lget v i % 4294967296).toNat=y:=by omega
     have k2:(u[i] % 4294967296).toNat=x:=by omega
     rw[k1,k2];have k3:4294967296 ^ i*(o+lo+d)=4294967296 ^ i*(x+4294967296*d'):=by rw[hdd]
     have k4:4294967296 ^ i*(4294967296*hg+lo)=4294967296 ^ i*(c+t*y):=by rw[hdm]
     grind
   · have e5 : (p ++ u.drop i).length = u.length := by simp [hp]; omega
     have e6:(p++u.drop i)[i]?=some u[i]:=by rw[List.getElem?_append_right (by omega),hp,Nat.sub_self,List.getElem?_drop,Nat.add_zero];exact gE0 hi
     have c1:(i:Int)<(u.length:Int):=by omega
     have c2:(0:Int)<=(i:Int):=by omega
     have c3:(i:Int)<((p++u.drop i).length:Int):=by omega
     simp only[qey,cnd c1,qo8,bS0,cnd2 c2 c3,tN0,e6,q1,q2,hlow,q3,q4,q5,q6,q7,hhi,qyD _ hp hi,qcr (n:=i) (by omega)];rfl) (by
   rintro s ⟨p,c,d,rfl,hp,hpl,hc,hd,hs,h0⟩;have:=h0 hlv;subst this;rw[List.take_of_length_le (Nat.le_of_lt hlv),List.take_length] at hs;exact⟨((p,(d:Int),()),()),⟨p,d,rfl,hp,hpl,hd,by simpa using hs⟩,fun g=>by simp [qey]⟩)
 refine⟨p,d,?_,hp,hpl,hd,hpn⟩;have:decide ((d:Int)=1)=decide (d=1):=by by_cases h:d=1<;>simp [h];omega
 simp [qmx,hlp,hp,this]
theorem qzz {u v:List Int} (hu:Lim u) (hv:Lim v) (hl:u.length<35184372088832) (hlv:v.length<=u.length) :
  ∃ (w:List Int) (c:Nat),qmB u v=some w/\w.length=u.length/\Lim w/\c<=1/\nn w+4294967296 ^ u.length*c=nn u+nn v:=by
 obtain⟨r,⟨p,c,rfl,hp,hpl,hc,hpn⟩,hlp⟩:=qiR (step:=qez) (fun i s=>∃ (p:List Int) (c:Nat),s=((p++u.drop i,v,(c:Int),(u.length:Int),(i:Int),()),())/\p.length=i/\Lim p/\c<=1/\nn p+4294967296 ^ i*c=nn (u.take i)+nn (v.take i))
  (fun r=>∃ (p:List Int) (c:Nat),r=((p,()),())/\p.length=u.length/\Lim p/\c<=1/\nn p+4294967296 ^ u.length*c=nn u+nn v) u.length (v:=((u,v,0,(u.length:Int),0,()),()))
  ⟨[], 0, by simp, rfl, Lim.nil, by omega, by simp⟩ (by omega) (by
   rintro i s hi ⟨p,c,rfl,hp,hpl,hc,hs⟩;have b1:=hu.at hi;have b2:=qjj hv i;have q1:iadd .u64 u[i] (lget v i)=u[i]+lget v i:=qlK (by omega) (by omega);have q2:iadd .u64 (c:Int) (u[i]+lget v i)=c+(u[i]+lget v i):=qlK (by omega) (by omega);have e4:((((c:Int)+(u[i]+lget v i))/4294967296).toNat:Int)=((c:Int)+(u[i]+lget v i))/4294967296:=by omega
   refine⟨(((p++[((c:Int)+(u[i]+lget v i)) % 4294967296])++u.drop (i+1),v,((((c:Int)+(u[i]+lget v i))/4294967296).toNat:Int),(u.length:Int),((i+1:Nat):Int),()),()),⟨_,_,rfl,by simp [hp],Lim.append hpl (Lim.cons (by omega) Lim.nil),by omega,?_⟩,fun g=>?_⟩
   · rw [qbR, hp, qoZ _ (by omega), qfI v i, nnt hi, Nat.pow_succ];have k1:(((c:Int)+(u[i]+lget v i)) % 4294967296).toNat+4294967296*(((c:Int)+(u[i]+lget v i))/4294967296).toNat=c+(u[i] % 4294967296).toNat+(lget v i % 4294967296).toNat:=by omega
     have k2:4294967296 ^ i*((((c:Int)+(u[i]+lget v i)) % 4294967296).toNat+4294967296*(((c:Int)+(u[i]+lget v i))/4294967296).toNat)=4294967296 ^ i*(c+(u[i] % 4294967296).toNat+(lget v i % 4294967296).toNat):=by rw[k1]
     grind
   · have e5 : (p ++ u.drop i).length = u.length := by simp [hp]; omega
     have e6:(p++u.drop i)[i]?=some u[i]:=by rw[List.getElem?_append_right (by omega),hp,Nat.sub_self,List.getElem?_drop,Nat.add_zero];exact gE0 hi
     have c1:(i:Int)<(u.length:Int):=by omega
     have c2:(0:Int)<=(i:Int):=by omega
     have c3:(i:Int)<((p++u.drop i).length:Int):=by omega
     simp only[qez,cnd c1,qo8,bS0,cnd2 c2 c3,tN0,e6,q1,q2,qge,qru,e4,qyD _ hp hi,qcr (n:=i) (by omega)];rfl) (by
   rintro s ⟨p,c,rfl,hp,hpl,hc,hs⟩;rw[List.take_of_length_le hlv,List.take_length] at hs;exact⟨((p,()),()),⟨p,c,rfl,hp,hpl,hc,hs⟩,fun g=>by simp [qez]⟩)
 refine⟨p,c,?_,hp,hpl,hc,hpn⟩;simp [qmB,hlp,hp]
section
variable {U V D B u2 ul two v1 v2 vl g r:Nat}
theorem qsm (hU:U=ul+D*(u2+B*two)) (hV:V=vl+D*(v2+B*v1)) (hvl:vl<D) (hv1:0<v1) (ht:g*v1+r=two) (hg:g<B) (hle:g*v2<=r*B+u2):g*V<U+V:=by
 have h1:U=ul+D*(u2+r*B)+D*B*(g*v1):=by rw[hU,<- ht];grind
 have h2:g*V=g*vl+D*(g*v2)+D*B*(g*v1):=by rw[hV];grind
 have h3:D*(g*v2)<=D*(u2+r*B):=Nat.mul_le_mul_left _ (by omega);have h4:g*vl<B*D:=Nat.mul_lt_mul'' hg hvl;have h5:D*(B*1)<=D*(v2+B*v1):=Nat.mul_le_mul_left _ (by have:=Nat.mul_le_mul_left B hv1;omega);have h6:D*(B*1)=B*D:=by rw[Nat.mul_one,Nat.mul_comm]
 omega
theorem qvp (hU:U=ul+D*(u2+B*two)) (hV:V=vl+D*(v2+B*v1)) (hul:ul<D) (ht:g*v1+r=two) (hgt:r*B+u2<g*v2):U<g*V:=by
 have h1:U=ul+D*(u2+r*B)+D*B*(g*v1):=by rw[hU,<- ht];grind
 have h2:g*V=g*vl+D*(g*v2)+D*B*(g*v1):=by rw[hV];grind
 have h3:D*(u2+r*B+1)<=D*(g*v2):=Nat.mul_le_mul_left _ (by omega);have h4:D*(u2+r*B+1)=D*(u2+r*B)+D:=by rw[Nat.mul_add,Nat.mul_one]
 omega
theorem qtu (hU:U=ul+D*(u2+B*two)) (hV:V=vl+D*(v2+B*v1)) (hul:ul<D) (hu2:u2<B) (ht:g*v1+r=two) (hr:r<v1):U<(g+1)*V:=by
 have h1:two+1<=(g+1)*v1:=by rw[Nat.add_mul];omega
 have h2:D*(u2+B*two+1)<=D*(B*(two+1)):=Nat.mul_le_mul_left _ (by rw[Nat.mul_add,Nat.mul_one];omega);have h3:D*(B*(two+1))<=D*(B*((g+1)*v1)):=Nat.mul_le_mul_left _ (Nat.mul_le_mul_left _ h1);have h4:(g+1)*V=(g+1)*vl+(g+1)*(D*v2)+D*(B*((g+1)*v1)):=by rw[hV];grind
 have h5:D*(u2+B*two+1)=D*(u2+B*two)+D:=by rw[Nat.mul_add,Nat.mul_one]
 omega
theorem qno (h2:two<=v1*B+(B-1)) (hB:0<B) (ht:g*v1+r=two) (hr:B<=r):g<B:=by
 rcases Nat.lt_or_ge g B with h | h
 · exact h
 · have := Nat.mul_le_mul_right v1 h;rw[Nat.mul_comm B] at this;omega
theorem qvo (hg:g<B) (hv2:v2<B) (hr:B<=r):g*v2<=r*B+u2:=by
 have h1:g*v2<=B*B:=Nat.mul_le_mul (Nat.le_of_lt hg) (Nat.le_of_lt hv2);have h2:B*B<=r*B:=Nat.mul_le_mul_right _ hr;omega
theorem qxV {w:Nat} (hV:0<V) (hw:w+g*V=U) (h:U<(g+1)*V):U/V=g/\U % V=w:=by
 rw[Nat.add_mul,Nat.one_mul] at h;have h1:U/V=g:=by
  rw[Nat.div_eq_iff hV];omega
 have:=Nat.div_add_mod U V;rw[h1,Nat.mul_comm] at this;exact⟨h1,by omega⟩
theorem qvq {w w' P c:Nat} (hV:0<V) (hw:w+g*V=U+P) (hwP:w<P) (h:g*V<U+V) (hc:c<=1) (hw':w'+P*c=w+V) (hwP':w'<P):0<g/\U/V=g-1/\U % V=w':=by
 have hg0:0<g:=by
  rcases Nat.eq_zero_or_pos g with h | h
  · subst h;omega
  · exact h
 have hgv2:g*V=(g-1)*V+V:=by
  conv=>lhs;rw[show g=(g-1)+1 by omega,Nat.add_mul,Nat.one_mul]
 have hc1:c=1:=by
  rcases Nat.eq_zero_or_pos c with h | h
  · subst h;omega
  · omega
 subst hc1;have h1:U/V=g-1:=by
  rw[Nat.div_eq_iff hV];omega
 have:=Nat.div_add_mod U V;rw[h1,Nat.mul_comm] at this;exact⟨hg0,h1,by omega⟩
end
theorem qxL {u:List Int} {m:Nat} (hu:Lim u) (h:u.length=m+3) {x y z:Nat} (hx:u[m]?=some (x:Int)) (hy:u[m+1]?=some (y:Int)) (hz:u[m+2]?=some (z:Int)):nn u=nn (u.take m)+4294967296 ^ m*(x+4294967296*(z*4294967296+y)):=by
 have e1:=qdP hx;have e2:=qdP hy;have e3:=qdP hz;rw[List.take_of_length_le (by omega)] at e3;have bx:=hu.get hx;have by_:=hu.get hy;have bz:=hu.get hz;have k1:((x:Int) % 4294967296).toNat=x:=by omega
 have k2:((y:Int) % 4294967296).toNat=y:=by omega
 have k3:((z:Int) % 4294967296).toNat=z:=by omega
 rw[k1] at e1;rw[k2] at e2;rw[k3] at e3;rw[e3,e2,e1,Nat.pow_succ,Nat.pow_succ]
 grind
theorem qxM {u:List Int} {m:Nat} (hu:Lim u) (h:u.length=m+2) {x y:Nat} (hx:u[m]?=some (x:Int)) (hy:u[m+1]?=some (y:Int)):nn u=nn (u.take m)+4294967296 ^ m*(x+4294967296*y):=by
 have e1:=qdP hx;have e2:=qdP hy;rw[List.take_of_length_le (by omega)] at e2;have bx:=hu.get hx;have by_:=hu.get hy;have k1:((x:Int) % 4294967296).toNat=x:=by omega
 have k2:((y:Int) % 4294967296).toNat=y:=by omega
 rw[k1] at e1;rw[k2] at e2;rw[e2,e1,Nat.pow_succ]
 grind
theorem qp6 {u:List Int} (hu:Lim u) {i:Nat} (h:i<u.length):∃ x:Nat,u[i]?=some (x:Int)/\x<4294967296:=by
 have b:=hu.at h;obtain⟨x,hx⟩:=Int.eq_ofNat_of_zero_le b.1;exact⟨x,by rw[gE0 h,hx],by omega⟩
theorem qvv {u v:List Int} {m:Nat} (hu:Lim u) (hv:Lim v) (hul:u.length=m+3) (hvl:v.length=m+2) (hm:m<35184372088832)
  {x y z p q:Nat} (hx:u[m]?=some (x:Int)) (hy:u[m+1]?=some (y:Int)) (hz:u[m+2]?=some (z:Int)) (hp:v[m]?=some (p:Int)) (hq:v[m+1]?=some (q:Int))
  (hx':x<4294967296) (hy':y<4294967296) (hz':z<4294967296) (hp':p<4294967296) (hq':q<4294967296)
  (hn:4294967296<=2*q) (hlt:nn u<4294967296*nn v) :
  ∃ g:Nat,g<4294967296/\nn u<(g+1)*nn v/\g*nn v<nn u+nn v /\
    lp qbv K0 ((u,v,((m+2:Nat):Int),(((z*4294967296+y)/q:Nat):Int),(((z*4294967296+y) % q:Nat):Int),()),())=some ((u,v,(g:Int),()),()):=by
 have hU:=qxL hu hul hx hy hz;have hV:=qxM hv hvl hp hq;have hul':=qfl (u.take m);have hvl':=qfl (v.take m);rw[List.length_take,Nat.min_eq_left (by omega)] at hul' hvl';have hq0:0<q:=by omega
 have hzq:z<=q:=by
  rcases Nat.lt_or_ge q z with h | h
  · exfalso;have h1:4294967296 ^ m*(4294967296*((q+1)*4294967296))<=4294967296 ^ m*(x+4294967296*(z*4294967296+y)):=Nat.mul_le_mul_left _ (by omega);have h2:4294967296 ^ m*(p+4294967296*q+1)<=4294967296 ^ m*(4294967296*(q+1)):=Nat.mul_le_mul_left _ (by omega);have h3:4294967296 ^ m*(p+4294967296*q+1)=4294967296 ^ m*(p+4294967296*q)+4294967296 ^ m:=by rw[Nat.mul_add,Nat.mul_one]
    have h4:4294967296 ^ m*(4294967296*((q+1)*4294967296))=4294967296*(4294967296 ^ m*(4294967296*(q+1))):=by grind
    omega
  · exact h
 have htwo:z*4294967296+y<=q*4294967296+(4294967296-1):=by omega
 have hg0:(z*4294967296+y)/q<=4294967297:=by
  rw[Nat.div_le_iff_le_mul hq0];omega
 have hdm:=Nat.div_add_mod (z*4294967296+y) q;have hml:=Nat.mod_lt (z*4294967296+y) hq0;rw[Nat.mul_comm] at hdm;obtain⟨g0,hG0⟩:∃ t,t=(z*4294967296+y)/q:=⟨_,rfl⟩;obtain⟨r0,hR0⟩:∃ t,t=(z*4294967296+y) % q:=⟨_,rfl⟩;rw[<- hG0] at hg0 hdm ⊢;rw[<- hR0] at hml hdm ⊢;clear hG0 hR0;obtain⟨two,hTW⟩:∃ t,t=z*4294967296+y:=⟨_,rfl⟩;rw[<- hTW] at hU htwo hdm;have hfirst:nn u<(g0+1)*nn v:=qtu hU hV hul' hx' hdm hml;obtain⟨r,⟨g,rfl,h1,h2,h3⟩,hlp⟩:=qlg (step:=qbv)
  (fun s=>∃ g r:Nat,s=((u,v,((m+2:Nat):Int),(g:Int),(r:Int),()),())/\g*q+r=two/\r<4294967296/\g<=4294967297/\nn u<(g+1)*nn v) (fun s=>s.1.2.2.2.1.toNat)
  (fun t=>∃ g:Nat,t=((u,v,(g:Int),()),())/\g<4294967296/\nn u<(g+1)*nn v/\g*nn v<nn u+nn v) (v:=((u,v,((m+2:Nat):Int),(g0:Int),(r0:Int),()),()))
  ⟨g0,r0,rfl,hdm,by omega,hg0,hfirst⟩ (by simp;omega) (by
    rintro s ⟨g,r,rfl,ht,hr,hg,hgu⟩;have i1:isub .i64 ((m+2:Nat):Int) 1=((m+1:Nat):Int):=by rw[qcg]<;>omega
    have i2:isub .i64 ((m+2:Nat):Int) 2=((m:Nat):Int):=by rw[qcg]<;>omega
    have i3:iadd .u64 (r:Int) (q:Int)=((r+q:Nat):Int):=by rw[qlK]<;>omega
    have c1:(0:Int)<=((m+1:Nat):Int):=by omega
    have c2:(0:Int)<=((m:Nat):Int):=by omega
    have c3:((m:Nat):Int)<(u.length:Int):=by omega
    have back:0<g->nn u<g*nn v->(∀ k,qbv k ((u,v,((m+2:Nat):Int),(g:Int),(r:Int),()),())=bif decide (((r+q:Nat):Int)>=4294967296) then some ((u,v,(((g-1:Nat)):Int),()),()) else k ((u,v,((m+2:Nat):Int),((g-1:Nat):Int),((r+q:Nat):Int),()),())) ->
        (∃ t,(∃ g:Nat,t=((u,v,(g:Int),()),())/\g<4294967296/\nn u<(g+1)*nn v/\g*nn v<nn u+nn v)/\∀ k,qbv k ((u,v,((m+2:Nat):Int),(g:Int),(r:Int),()),())=some t) \/
        ∃ s',(∃ g r:Nat,s'=((u,v,((m+2:Nat):Int),(g:Int),(r:Int),()),())/\g*q+r=two/\r<4294967296/\g<=4294967297/\nn u<(g+1)*nn v)/\s'.1.2.2.2.1.toNat<(g:Int).toNat/\∀ k,qbv k ((u,v,((m+2:Nat):Int),(g:Int),(r:Int),()),())=k s':=by
      intro hg1 hgu' hk;have ht':(g-1)*q+(r+q)=two:=by
        have:g*q=(g-1)*q+q:=by
          conv=>lhs;rw[show g=(g-1)+1 by omega,Nat.add_mul,Nat.one_mul]
        omega
      have hgg:nn u<(g-1+1)*nn v:=by rw[show g-1+1=g by omega];exact hgu'
      by_cases hb:4294967296<=r+q
      · refine .inl ⟨_, ⟨g - 1, rfl, ?_, hgg, ?_⟩, fun k => by rw [hk]; exact cnd (by omega)⟩
        · exact qno htwo (by decide) ht' hb
        · exact qsm hU hV hvl' hq0 ht' (qno htwo (by decide) ht' hb) (qvo (qno htwo (by decide) ht' hb) hp' hb)
      · exact .inr ⟨_,⟨g-1,r+q,rfl,ht',by omega,by omega,hgg⟩,by show(((g-1:Nat)):Int).toNat<(g:Int).toNat;omega,fun k=>by rw[hk];exact cnd' (by omega)⟩
    by_cases hB:4294967296<=g
    · have i4 : isub .u64 (g : Int) 1 = ((g - 1 : Nat) : Int) := by rw [qmI] <;> omega
      refine back (by omega) ?_ ?_
      · exact Nat.lt_of_lt_of_le hlt (Nat.mul_le_mul_right _ hB)
      · intro k;have c4:(g:Int)>=4294967296:=by omega
        simp only[qbv,cnd c4,i1,cnd c1,tN0,hq,bS0,i3,i4]
    · have hgp : g * p <= 4294967295 * 4294967295 := Nat.mul_le_mul (by omega) (by omega);have i5:imul .u64 (g:Int) (p:Int)=((g*p:Nat):Int):=by rw[qwv]<;>rw[<- Int.natCast_mul]<;>omega
      have i6:ior .u64 (shlV .u64 (r:Int) 32) (x:Int)=((r*4294967296+x:Nat):Int):=by rw[qvV (by omega) (by omega),qws (by omega) (by omega) (by omega) (by omega)];omega
      have c4:¬ (g:Int)>=4294967296:=by omega
      by_cases hgt:r*4294967296+x<g*p
      · have hg1 : 0 < g := by
          rcases Nat.eq_zero_or_pos g with h | h
          · subst h;omega
          · exact h
        have i4:isub .u64 (g:Int) 1=((g-1:Nat):Int):=by rw[qmI]<;>omega
        refine back hg1 (qvp hU hV hul' ht hgt) ?_;intro k;have c5:((g*p:Nat):Int)>((r*4294967296+x:Nat):Int):=by omega
        rw[qbv,cnd' c4,i2,cnd c2,tN0,hp,bS0,cnd2 c2 c3,hx,bS0,i5,i6,cnd c5,i1,cnd c1,tN0,hq,bS0,i3,i4]
      · have c5 : ¬ ((g * p : Nat) : Int) > ((r * 4294967296 + x : Nat) : Int) := by omega
        refine .inl ⟨_,⟨g,rfl,by omega,hgu,qsm hU hV hvl' hq0 ht (by omega) (by omega)⟩,fun k=>?_⟩;rw[qbv,cnd' c4,i2,cnd c2,tN0,hp,bS0,cnd2 c2 c3,hx,bS0,i5,i6,cnd' c5])
 exact⟨g,h1,h2,h3,hlp⟩
theorem qx9 {u v:List Int} {m:Nat} (hu:Lim u) (hv:Lim v) (hul:u.length=m+3) (hvl:v.length=m+2) (hm:m<17592186044416)
   {q:Nat} (hq:v[m+1]?=some (q:Int)) (hn:4294967296<=2*q) (hlt:nn u<4294967296*nn v) :
   ∃ w:List Int,qiN u v=some (w,((nn u/nn v:Nat):Int))/\w.length=u.length/\Lim w/\nn w=nn u % nn v:=by
 obtain⟨x,hx,hx'⟩:=qp6 hu (i:=m) (by omega);obtain⟨y,hy,hy'⟩:=qp6 hu (i:=m+1) (by omega);obtain⟨z,hz,hz'⟩:=qp6 hu (i:=m+2) (by omega);obtain⟨p,hp,hp'⟩:=qp6 hv (i:=m) (by omega);have hq':q<4294967296:=by have:=hv.get hq;omega
 obtain⟨g,hg,hg1,hg2,hlp⟩:=qvv hu hv hul hvl (by omega) hx hy hz hp hq hx' hy' hz' hp' hq' hn hlt;obtain⟨w,d,htk,hw,hwl,hd,hwn⟩:=qy1 hu hv (by omega) (by omega) hg;have hV0:0<nn v:=by
   rcases Nat.eq_zero_or_pos (nn v) with h | h
   · rw[h] at hlt;omega
   · exact h
 have hwlt:=qfl w;rw[hw] at hwlt;have e0:((v.length:Nat):Int)=((m+2:Nat):Int):=by omega
 have e1:isub .i64 ((m+2:Nat):Int) 1=((m+1:Nat):Int):=by rw[qcg]<;>omega
 have c1:(0:Int)<=((m+2:Nat):Int):=by omega
 have c2:((m+2:Nat):Int)<((u.length:Nat):Int):=by omega
 have c3:(0:Int)<=((m+1:Nat):Int):=by omega
 have c4:((m+1:Nat):Int)<((u.length:Nat):Int):=by omega
 have c5:¬ (q:Int)=0:=by omega
 have i6:ior .u64 (shlV .u64 (z:Int) 32) (y:Int)=((z*4294967296+y:Nat):Int):=by rw[qvV (by omega) (by omega),qws (by omega) (by omega) (by omega) (by omega)];omega
 have i7:iquo .u64 ((z*4294967296+y:Nat):Int) (q:Int)=(((z*4294967296+y)/q:Nat):Int):=by rw[qyJ (by omega) (by omega) (by omega)];exact(Int.natCast_ediv _ _).symm
 have i8:irem ((z*4294967296+y:Nat):Int) (q:Int)=(((z*4294967296+y) % q:Nat):Int):=by rw[qmJ (by omega)];exact(Int.natCast_emod _ _).symm
 have ov:over u 0 w=w:=qud hw;by_cases hd0:d=0
 · subst hd0;obtain⟨hq2,hr2⟩:=qxV hV0 (by simpa using hwn) hg1;refine⟨w,?_,hw,hwl,hr2.symm⟩;rw[qiN,e0,e1,cnd2 c1 c2,tN0,hz,bS0,cnd2 c3 c4,tN0,hy,bS0,cnd c3,hq,bS0,cnd' c5,cnd c3,bS0,cnd' c5,i6,i7,i8,hlp,bS0,htk,bS0,hq2];simp [hw,ov]
 · have hd1 : d = 1 := by omega
   subst hd1;obtain⟨w',c,hgv,hw',hwl',hc,hwn'⟩:=qzz hwl hv (by omega) (by omega);rw[hw] at hwn' hw';have hw'lt:=qfl w';rw[hw'] at hw'lt;obtain⟨hg0,hq2,hr2⟩:=qvq hV0 (by simpa using hwn) hwlt hg2 hc hwn' hw'lt;refine⟨w',?_,hw',hwl',hr2.symm⟩;have i9:isub .u64 (g:Int) 1=((g-1:Nat):Int):=by rw[qmI]<;>omega
   have ov2:over w 0 w'=w':=qud (by omega);rw[qiN,e0,e1,cnd2 c1 c2,tN0,hz,bS0,cnd2 c3 c4,tN0,hy,bS0,cnd c3,hq,bS0,cnd' c5,cnd c3,bS0,cnd' c5,i6,i7,i8,hlp,bS0,htk,bS0,hq2,ov];simp [hgv,ov2,hw',i9]
theorem qa9 {n m:Nat} (h:n<=m):(qaa n).length<=(qaa m).length:=by
 rcases Nat.lt_or_ge (qaa m).length (qaa n).length with h1 | h1
 · have:=qo9 h1;omega
 · exact h1
theorem qka (a:List Int):nn (a++[0,0])=nn a:=by rw[qbR];simp [nn]
theorem qxl {n s x D:Nat} {t:Nat} (hn:n=t+D*x) (ht:t<D) (hx:x*2 ^ s<4294967296) (hx1:(x+1)*2 ^ s<=4294967296) (hx2:2147483648<=x*2 ^ s):n*2 ^ s<D*4294967296/\D*2147483648<=n*2 ^ s:=by
 generalize 2 ^ s=P at *;subst hn;constructor
 · have h1 : (t + D * x) + 1 <= D * (x + 1) := by rw [Nat.mul_add, Nat.mul_one]; omega
   have hP:0<P:=by
    rcases Nat.eq_zero_or_pos P with h | h
    · subst h;omega
    · exact h
   have h2:=Nat.mul_le_mul_right P h1;have h3:D*((x+1)*P)<=D*4294967296:=Nat.mul_le_mul_left _ hx1;rw[Nat.mul_assoc] at h2;rw[Nat.add_mul,Nat.one_mul] at h2;omega
 · have h1 : D * 2147483648 <= D * (x * P) := Nat.mul_le_mul_left _ hx2;have h2:(t+D*x)*P=t*P+D*(x*P):=by rw[Nat.add_mul,Nat.mul_assoc]
   omega
theorem qwo {x:Nat} (h:x≠0) (hx:x<4294967296):∃ k,lenN x=k/\0<k/\k<=32/\x*2 ^ (32-k)<4294967296/\(x+1)*2 ^ (32-k)<=4294967296/\2147483648<=x*2 ^ (32-k):=by
 have h1:=Nat.log2_self_le h;have h2:x<2 ^ (x.log2+1):=Nat.lt_log2_self;have h3:x.log2<32:=(Nat.log2_lt h).2 hx;refine⟨x.log2+1,by simp [lenN,h],by omega,by omega,?_⟩;generalize x.log2=l at *;have p1:2 ^ (l+1)*2 ^ (32-(l+1))=4294967296:=by rw[<- Nat.pow_add,show l+1+(32-(l+1))=32 by omega]
 have p2:2 ^ l*2 ^ (32-(l+1))=2147483648:=by rw[<- Nat.pow_add,show l+(32-(l+1))=31 by omega]
 have hP:0<2 ^ (32-(l+1)):=Nat.pow_pos (by decide);generalize 2 ^ (32-(l+1))=P at *;generalize 2 ^ (l+1)=Q at *;generalize 2 ^ l=R at *;have a1:(x+1)*P<=Q*P:=Nat.mul_le_mul_right _ h2;have a2:R*P<=x*P:=Nat.mul_le_mul_right _ h1;rw[Nat.add_mul,Nat.one_mul] at a1;refine⟨by omega,?_,by omega⟩;rw[Nat.add_mul,Nat.one_mul];omega
theorem qnC {x:Nat} (h:x≠0) (hx:x<4294967296):∃ s:Nat,qc3 (x:Int)=some (s:Int)/\s<32/\x*2 ^ s<4294967296/\(x+1)*2 ^ s<=4294967296/\2147483648<=x*2 ^ s:=by
 obtain⟨k,h1,h2,h3,h4⟩:=qwo h hx;refine⟨32-k,?_,by omega,h4⟩;have e:qvn (x:Int)=some (k:Int):=by
  rw[qvn,cnd2 (by omega) (by omega),tN0,h1]
 have e2:isub .i64 32 (k:Int)=((32-k:Nat):Int):=by rw[qcg]<;>omega
 rw[qc3,e,bS0,e2]
theorem qwk {A' U U' V q w T E Q:Nat} (hA:A'=U+V*(E*4294967296*Q)) (hU:U=T+E*(V*q+w)) (hU':U'=T+E*w):A'=U'+V*(E*(q+4294967296*Q)):=by
 subst hU hU';rw[hA];grind
theorem qzE {u:List Int} {j V:Nat} (hu:Lim u) (hj:j<u.length) (h:nn (u.drop (j+1))<V):nn (u.drop j)<4294967296*V:=by
 rw[qtd u hj];have h1:4294967296*(nn (u.drop (j+1))+1)<=4294967296*V:=Nat.mul_le_mul_left _ h;omega
theorem qj9 (u:List Int) {j:Nat} (hj:j<=u.length):nn u=nn (u.take j)+4294967296 ^ j*nn (u.drop j):=by
 conv=>lhs;rw[<- List.take_append_drop j u]
 rw[qbR,List.length_take,Nat.min_eq_left hj]
theorem qwl {v u0:List Int} {s:Int} {m k:Nat} (hv:Lim v) (hvl:v.length=m+2) (hm:m<17592186044416) (hk:k+m+2<17592186044416) {q:Nat} (hq:v[m+1]?=some (q:Int)) (hn:4294967296<=2*q)
  (hu:Lim u0) (hul:u0.length=k+(m+2)) (hlt:nn (u0.drop k)<nn v) :
  ∃ (u qs:List Int),lp qdY K0 ((s,v,u0,((m+2:Nat):Int),List.replicate k 0,(k:Int)-1,()),())=some ((s,u,qs,()),())/\Lim u/\Lim qs/\u.length=u0.length/\qs.length=k/\nn u<nn v/\nn u0=nn u+nn v*nn qs:=by
 have hVB:=qfl v;obtain⟨r,⟨u,qs,rfl,h1,h2,h3,h4,h5,h6⟩,hlp⟩:=qlg (step:=qdY)
  (fun t=>∃ (j:Nat) (u qs:List Int),t=((s,v,u,((m+2:Nat):Int),List.replicate j 0++qs,(j:Int)-1,()),())/\Lim u/\Lim qs/\u.length=u0.length/\j+qs.length=k/\nn (u.drop j)<nn v/\nn u0=nn u+nn v*(4294967296 ^ j*nn qs))
  (fun t=>(t.1.2.2.2.2.2.1+1).toNat)
  (fun r=>∃ (u qs:List Int),r=((s,u,qs,()),())/\Lim u/\Lim qs/\u.length=u0.length/\qs.length=k/\nn u<nn v/\nn u0=nn u+nn v*nn qs) (v:=((s,v,u0,((m+2:Nat):Int),List.replicate k 0,(k:Int)-1,()),()))
  ⟨k, u0, [], by simp, hu, Lim.nil, rfl, by simp, hlt, by simp⟩ (by simp; omega) (by
   rintro t ⟨j,u,qs,rfl,hul',hqs,hll,hjk,hdl,hval⟩;cases j with
   | zero =>
    refine .inl ⟨((s,u,qs,()),()),⟨u,qs,rfl,hul',hqs,hll,by omega,by simpa using hdl,by simpa using hval⟩,fun g=>by simp [qdY]⟩
   | succ j =>
    have hju:j<u.length:=by omega
    have hd1:=qzE hul' hju hdl;have hsl:((u.drop j).take (m+3)).length=m+3:=by simp;omega
    have hB:4294967296*nn v<4294967296 ^ (m+3):=by
      rw[hvl] at hVB;rw[show m+3=(m+2)+1 from rfl,Nat.pow_succ,Nat.mul_comm (4294967296 ^ (m+2))];exact Nat.mul_lt_mul_of_pos_left hVB (by decide)
    have hns:nn ((u.drop j).take (m+3))=nn (u.drop j):=qjf (Nat.lt_trans hd1 hB);have hz:nn ((u.drop j).drop (m+3))=0:=by
      have:=qj9 (u.drop j) (j:=m+3) (by simp;omega);rw[hns] at this;have h0:4294967296 ^ (m+3)*nn ((u.drop j).drop (m+3))=0:=by omega
      rcases Nat.mul_eq_zero.1 h0 with h | h
      · have:=Nat.pow_pos (n:=m+3) (show 0<4294967296 by decide);omega
      · exact h
    obtain⟨w,hdg,hwl,hwlim,hwv⟩:=qx9 (u:=(u.drop j).take (m+3)) ((hul'.drop j).take _) hv hsl hvl hm hq hn (by rw[hns];exact hd1);rw[hns] at hdg hwv;rw[hsl] at hwl;have hV0:0<nn v:=by omega
    have hqd:nn (u.drop j)/nn v<4294967296:=by rw[Nat.div_lt_iff_lt_mul hV0];exact hd1
    have hov:over u j w=u.take j++(w++(u.drop j).drop (m+3)):=by simp [over,hwl,List.drop_drop]
    have htl:(u.take j).length=j:=by simp;omega
    have hv':nn (over u j w)=nn (u.take j)+4294967296 ^ j*nn w:=by rw[hov,qbR,qbR,hz,htl];simp
    have hdm:=Nat.div_add_mod (nn (u.drop j)) (nn v);have hml:=Nat.mod_lt (nn (u.drop j)) hV0;have hstep:=qj9 u (j:=j) (by omega);rw[<- hwv] at hdm hml;rw[<- hdm] at hstep;have hlim':Lim (over u j w):=by rw[hov];exact(hul'.take j).append (hwlim.append ((hul'.drop j).drop _))
    have hlen':(over u j w).length=u0.length:=by rw[hov];simp [hwl];omega
    have hdrop':nn ((over u j w).drop j)<nn v:=by
      rw[hov,List.drop_append,htl,Nat.sub_self,List.drop_zero,List.drop_eq_nil_of_le (by omega),List.nil_append,qbR,hz];simpa using hml
    generalize nn (u.drop j)/nn v=qd at *;refine .inr ⟨((s,v,over u j w,((m+2:Nat):Int),List.replicate j 0++(qd:Int)::qs,(j:Int)-1,()),()),⟨j,_,_,rfl,hlim',Lim.cons (by omega) hqs,hlen',by simp;omega,hdrop',?_⟩,by simp,fun g=>?_⟩
    · rw [nn];have:((qd:Int) % 4294967296).toNat=qd:=by omega
      rw[this];rw[Nat.pow_succ] at hval;exact qwk hval hstep hv'
    · have e0 : ((j + 1 : Nat) : Int) - 1 = (j : Int) := by omega
      have e1:iadd .i64 (iadd .i64 (j:Int) ((m+2:Nat):Int)) 1=((j+m+3:Nat):Int):=by
        have:iadd .i64 (j:Int) ((m+2:Nat):Int)=((j+m+2:Nat):Int):=by rw[qeB]<;>omega
        rw[this,qcr (by omega)];omega
      have e2:((((j+m+3:Nat):Int)-(j:Int)).toNat)=m+3:=by omega
      have e3:isub .i64 (j:Int) 1=(j:Int)-1:=by rw[qcg]<;>omega
      have e5:(List.replicate (j+1) (0:Int)++qs).set j (qd:Int)=List.replicate j 0++(qd:Int)::qs:=by
        rw[List.replicate_succ',List.append_assoc,List.set_append_right _ _ (by simp)];simp
      have e6:j<(List.replicate (j+1) (0:Int)++qs).length:=by simp;omega
      have c1:(j:Int)>=0:=by omega
      have c2:(0:Int)<=(j:Int)/\(j:Int)<=((j+m+3:Nat):Int)/\((j+m+3:Nat):Int)<=((u.length:Nat):Int):=by omega
      have c3:(j:Int)<((List.replicate (j+1) (0:Int)++qs).length:Int):=by omega
      have c4:(decide ((0:Int)<=(j:Int))&&decide ((j:Int)<=((j+m+3:Nat):Int))&&decide (((j+m+3:Nat):Int)<=((j+m+3:Nat):Int))&&decide (((j+m+3:Nat):Int)<=((u.length:Nat):Int)))=true:=by
        rw[decide_eq_true c2.1,decide_eq_true c2.2.1,decide_eq_true c2.2.2,decide_eq_true (Int.le_refl _)];rfl
      rw[e0,qdY,cnd c1,e1,c4,e2,tN0,hdg,cond_true,bS0,cnd2 c2.1 c3,gE0 e6,bS0,e5,e3])
 exact⟨u,qs,hlp,h1,h2,h3,h4,h5,h6⟩
theorem qzs {A D:Nat} (hla:(qaa A).length<4398046511104) (hD:2<=(qaa D).length) (hDA:D<=A):qmA (qaa A) (qaa D)=some (qaa (A/D),qaa (A % D)):=by
 have hlb:=qa9 hDA;have la:=qaR A;have lb:=qaR D;have ea:=q9q A;have eb:=q9q D;have cb:=qo6 D;obtain⟨m,hm⟩:∃ m,(qaa D).length=m+2:=⟨(qaa D).length-2,by omega⟩;obtain⟨x,hx,hx32⟩:=qp6 lb (i:=m+1) (by omega);have hx0:x≠0:=by
  have:=cb.2 (x:Int) (by rw[List.getLast?_eq_getElem?,hm];exact hx);omega
 obtain⟨s,hs,hs32,t1,t2,t3⟩:=qnC hx0 hx32;have hsplit:=qdP hx;rw[List.take_of_length_le (by omega),eb] at hsplit;have hxx:((x:Int) % 4294967296).toNat=x:=by omega
 rw[hxx] at hsplit;have htk:=qfl ((qaa D).take (m+1));rw[List.length_take,Nat.min_eq_left (by omega)] at htk;obtain⟨u1,u2⟩:=qxl hsplit htk t1 t2 t3;have u1':D*2 ^ s<4294967296 ^ (m+2):=by rw[Nat.pow_succ];exact u1
 have hshl1:=qt5 (n:=s) lb (by omega) (by omega);have hshl2:=qt5 (n:=s) la (by omega) (by omega);rw[eb] at hshl1;rw[ea] at hshl2;have hp0:0<2 ^ s:=Nat.pow_pos (by decide);have hvl:(qaa (D*2 ^ s)).length=m+2:=by
  have h1:=qcf u1';have h2:(qaa D).length<=(qaa (D*2 ^ s)).length:=qa9 (Nat.le_mul_of_pos_right _ hp0);omega
 have hv:=qaR (D*2 ^ s);have hnv:=q9q (D*2 ^ s);obtain⟨q,hq,hq32⟩:=qp6 hv (i:=m+1) (by omega);have hqn:4294967296<=2*q:=by
  have h1:=qdP hq;rw[List.take_of_length_le (by omega),hnv] at h1;have hqq:((q:Int) % 4294967296).toNat=q:=by omega
  rw[hqq] at h1;have h2:=qfl ((qaa (D*2 ^ s)).take (m+1));rw[List.length_take,Nat.min_eq_left (by omega)] at h2;rcases Nat.lt_or_ge (2*q) 4294967296 with h | h
  · exfalso;have h3:4294967296 ^ (m+1)*(q+1)<=4294967296 ^ (m+1)*2147483648:=Nat.mul_le_mul_left _ (by omega);rw[Nat.mul_add,Nat.mul_one] at h3;omega
  · exact h
 have hr4:(qaa A).length<=(qaa (A*2 ^ s)).length:=qa9 (Nat.le_mul_of_pos_right _ hp0);have hAlt:A*2 ^ s<4294967296 ^ ((qaa A).length)*2 ^ s:=by
  have:=qfl (qaa A);rw[ea] at this;exact Nat.mul_lt_mul_of_pos_right this hp0
 have hs2:2 ^ s<=4294967296:=by
  have:2 ^ s<=2 ^ 32:=Nat.pow_le_pow_right (by decide) (by omega);exact this
 have hA1:A*2 ^ s<4294967296 ^ ((qaa A).length+1):=by
  rw[Nat.pow_succ];exact Nat.lt_of_lt_of_le hAlt (Nat.mul_le_mul_left _ hs2)
 have hr4':(qaa (A*2 ^ s)).length<=(qaa A).length+1:=qcf hA1;have hnu:nn ((qaa (A*2 ^ s)++[0,0]).take ((qaa A).length+1))=A*2 ^ s:=by
  rw[qjf (by rw[qka,q9q];exact hA1),qka,q9q]
 have hul:((qaa (A*2 ^ s)++[0,0]).take ((qaa A).length+1)).length=(qaa A).length+1:=by simp;omega
 have hulim:Lim ((qaa (A*2 ^ s)++[0,0]).take ((qaa A).length+1)):=Lim.take (Lim.append (qaR _) (Lim.cons (by omega) (Lim.cons (by omega) Lim.nil))) _;obtain⟨k,hk⟩:∃ k,(qaa A).length+1=k+(m+2):=⟨(qaa A).length+1-(m+2),by omega⟩;have hdrop:nn (((qaa (A*2 ^ s)++[0,0]).take ((qaa A).length+1)).drop k)<nn (qaa (D*2 ^ s)):=by
  have h1:=qj9 ((qaa (A*2 ^ s)++[0,0]).take ((qaa A).length+1)) (j:=k) (by omega);rw[hnu] at h1;rw[hnv];have h2:D*2 ^ s>=4294967296 ^ (m+1)*2 ^ s:=by
    have:4294967296 ^ (m+1)<=D:=by
     rw[hsplit];have:4294967296 ^ (m+1)*1<=4294967296 ^ (m+1)*x:=Nat.mul_le_mul_left _ (by omega);omega
    exact Nat.mul_le_mul_right _ this
  have h3:4294967296 ^ (qaa A).length=4294967296 ^ k*4294967296 ^ (m+1):=by rw[<- Nat.pow_add,show(qaa A).length=k+(m+1) by omega]
  rw[h3,Nat.mul_assoc] at hAlt;generalize nn (((qaa (A*2 ^ s)++[0,0]).take ((qaa A).length+1)).drop k)=Y at *;have h4:4294967296 ^ k*Y<4294967296 ^ k*(4294967296 ^ (m+1)*2 ^ s):=by
    have:4294967296 ^ k*Y<=A*2 ^ s:=by rw[h1];exact Nat.le_add_left _ _
    exact Nat.lt_of_le_of_lt this hAlt
  exact Nat.lt_of_lt_of_le (Nat.lt_of_mul_lt_mul_left h4) h2
 obtain⟨u,qs,hlp,r1,r2,r3,r4,r5,r6⟩:=qwl (s:=(s:Int)) (k:=k) hv hvl (by omega) (by omega) hq hqn hulim (by rw[hul,hk]) hdrop;rw[hnu,hnv] at r6;rw[hnv] at r5;have hV0:0<D*2 ^ s:=Nat.lt_of_le_of_lt (Nat.zero_le _) r5;have d1:A/D=nn qs:=by
  have:A*2 ^ s/(D*2 ^ s)=nn qs:=by rw[r6,Nat.add_mul_div_left _ _ hV0,Nat.div_eq_of_lt r5,Nat.zero_add]
  rwa [Nat.mul_div_mul_right _ _ hp0] at this
 have d2:A % D*2 ^ s=nn u:=by
  have:A*2 ^ s % (D*2 ^ s)=nn u:=by rw[r6,Nat.add_mul_mod_self_left,Nat.mod_eq_of_lt r5]
  rwa [Nat.mul_mod_mul_right] at this
 have i1:isub .i64 ((qaa D).length:Int) 1=((m+1:Nat):Int):=by rw[qcg]<;>omega
 have i2:IntKind.wrap .u32 (x:Int)=(x:Int):=by rw[qxf];omega
 have i3:iadd .i64 ((qaa A).length:Int) 1=(((qaa A).length+1:Nat):Int):=by rw[qeB]<;>omega
 have i4:(((((qaa A).length+1:Nat):Int)-0).toNat:Nat)=(qaa A).length+1:=by omega
 have i5:isub .i64 (((qaa A).length+1:Nat):Int) ((qaa (D*2 ^ s)).length:Int)=(k:Int):=by rw[qcg]<;>omega
 have i6:isub .i64 ((k:Nat):Int) 1=(k:Int)-1:=by rw[qcg]<;>omega
 have i7:((qaa (D*2 ^ s)).length:Int)=((m+2:Nat):Int):=by omega
 have c1:(0:Int)<=((m+1:Nat):Int):=by omega
 have c2:(Nat.ble (((qaa (A*2 ^ s)).length+2)*8) 140737488355328&&!false)=true:=by
  have:((qaa (A*2 ^ s)).length+2)*8<=140737488355328:=by omega
  simp [this]
 have c3:(decide ((0:Int)<=(((qaa A).length+1:Nat):Int))&&decide ((((qaa A).length+1:Nat):Int)<=(((qaa A).length+1:Nat):Int))&&decide ((((qaa A).length+1:Nat):Int)<=((qaa (A*2 ^ s)++([0,0]:List Int)).length:Int)))=true:=by
  have h1:(0:Int)<=(((qaa A).length+1:Nat):Int):=by omega
  have h2:(((qaa A).length+1:Nat):Int)<=((qaa (A*2 ^ s)++([0,0]:List Int)).length:Int):=by simp only[List.length_append,List.length_cons,List.length_nil];omega
  rw[decide_eq_true h1,decide_eq_true h2,decide_eq_true (Int.le_refl _)];rfl
 have c4:(decide ((k:Int)=(k:Int))&&decide (0<=(k:Int))&&decide (((8:Nat):Int)*(k:Int)<=281474976710656)&&decide ((k:Int)<=9223372036854775807))=true:=by
  have h1:(0:Int)<=(k:Int):=by omega
  have h2:((8:Nat):Int)*(k:Int)<=281474976710656:=by omega
  have h3:(k:Int)<=9223372036854775807:=by omega
  rw[decide_eq_true h1,decide_eq_true h2,decide_eq_true h3,decide_eq_true rfl];rfl
 have hshr:=qrt (n:=s) (qaR (nn u)) (by have:=qaG u;omega) (by omega);rw[q9q,<- d2,Nat.mul_div_cancel _ hp0] at hshr;have hlen:(List.replicate k (0:Int)).length=k:=by simp
 rw[qmA,i1,cnd c1,tN0,hx,bS0,i2,hs,bS0,hshl1,bS0,hshl2,bS0,c2,cond_true,i3,c3,cond_true,i4,i5,c4,cond_true,tN0,hlen,i6,i7,hlp,bS0,qid r2 (by omega),bS0,qid r1 (by omega),bS0,<- d2,hshr,bS0,d1]
theorem qpr {a b:List Int} (ha:a.length<4398046511104) (hb:b.length<4398046511104) (h0:nn b≠0):qeQ a b=some (qaa (nn a/nn b),qaa (nn a % nn b),0):=by
 have h1:=qaG a;have h2:=qaG b;have hne:qaa (nn b)≠[]:=fun h=>h0 (qfR.1 h)
 have hlen:¬ ((qaa (nn b)).length:Int)=0:=by
   intro h;apply hne;apply List.eq_nil_of_length_eq_zero;omega
 rw[qeQ,qd0 (by omega),bS0,qd0 (by omega),bS0,cnd' hlen,qoh (by omega),bS0];by_cases hlt:nn a<nn b
 · have c1 : ncmp (nn a) (nn b) < 0 := by simp [ncmp, hlt]
   rw[cnd c1,Nat.div_eq_of_lt hlt,Nat.mod_eq_of_lt hlt,qa7]
 · have c1 : ¬ ncmp (nn a) (nn b) < 0 := by unfold ncmp; rw [if_neg hlt]; split <;> omega
   rw[cnd' c1];by_cases h3:(qaa (nn b)).length=1
   · have hb32 : nn b < 4294967296 := by
      have:=qfl (qaa (nn b));rw[q9q,h3] at this;simpa using this
     have hsm:=qxn (qaR (nn a)) (by omega) (Nat.pos_of_ne_zero h0) hb32;rw[q9q] at hsm;have hml:=Nat.mod_lt (nn a) (Nat.pos_of_ne_zero h0);rw[qfx h0 hb32];rw[<- qfx h0 hb32,h3,cnd (by omega),cnd (by omega),qfx h0 hb32,List.getElem?_cons_zero,bS0,hsm,bS0,qtR (show nn a % nn b<18446744073709551616 by omega)];rfl
   · have c2 : ¬ ((qaa (nn b)).length : Int) = 1 := by omega
     have hlen2:2<=(qaa (nn b)).length:=by omega
     rw[cnd' c2,qzs (by omega) hlen2 (by omega)];rfl
theorem qy9 {a b:List Int} (ha:a.length<4398046511104) (hb:b.length<4398046511104) (h0:nn b≠0):qh7 a b=some (qaa (nn a/nn b),qaa (nn a % nn b)):=by
 rw[qh7,qpr ha hb h0];rfl
theorem qs9 {z s:Nat} (h:s % 2=1):Nat.Coprime (2 ^ z) s:=by
 apply Nat.Coprime.pow_left;show Nat.gcd 2 s=1;rw[Nat.gcd_rec,h];decide
theorem qq0 {z m s:Nat} (h:s % 2=1):Nat.gcd (2 ^ z*m) s=Nat.gcd m s:=Nat.Coprime.gcd_mul_left_cancel m (qs9 h)
theorem qwB {z m s:Nat} (h:s % 2=1):Nat.gcd s (2 ^ z*m)=Nat.gcd s m:=by rw[Nat.gcd_comm,qq0 h,Nat.gcd_comm]
theorem qzA {x y p q:Nat} (hp:p % 2=1) (hq:q % 2=1):Nat.gcd (2 ^ x*p) (2 ^ y*q)=Nat.gcd p q*2 ^ min x y:=by
 rcases Nat.le_total x y with h | h
 · have e : 2 ^ y * q = 2 ^ x * (2 ^ (y - x) * q) := by rw [<- Nat.mul_assoc, <- Nat.pow_add]; congr 2; omega
   rw[e,Nat.gcd_mul_left,qwB hp,Nat.min_eq_left h,Nat.mul_comm]
 · have e : 2 ^ x * p = 2 ^ y * (2 ^ (x - y) * p) := by rw [<- Nat.mul_assoc, <- Nat.pow_add]; congr 2; omega
   rw[e,Nat.gcd_mul_left,qq0 hq,Nat.min_eq_right h,Nat.mul_comm]
theorem qo5 {m n:Nat} (hm:m≠0) (h:2*m<=n):m.log2<n.log2:=by
 have h1:=Nat.log2_self_le hm;have h2:2 ^ (m.log2+1)<=n:=by rw[Nat.pow_succ];omega
 exact(Nat.le_log2 (by omega)).2 h2
theorem qsr {b s t z m:Nat} (hb:b % 2=1) (hs:s % 2=1) (hlt:s<b) (ht:t=b-s\/(t=b % s/\2*s<=b)) (ht0:t≠0) (hz:t=2 ^ z*m) (hm:m % 2=1) :
   Nat.gcd m s=Nat.gcd b s/\2*m<=b/\m≠0:=by
 have hm0:m≠0:=by omega
 have e:=qq0 (z:=z) (m:=m) hs;rw[<- hz] at e;have hp:2 ^ z*m>=1*m:=Nat.mul_le_mul_right _ (Nat.pow_pos (by decide));rcases ht with h | ⟨h,h2⟩
 · refine ⟨?_, ?_, hm0⟩
   · rw[<- e,h,Nat.gcd_sub_self_left (by omega)]
   · cases z with
     | zero=>simp at hz;omega
     | succ z =>
      have:2 ^ (z+1)*m=2*(2 ^ z*m):=by rw[Nat.pow_succ,Nat.mul_comm (2 ^ z),Nat.mul_assoc]
      have hp:2 ^ z*m>=1*m:=Nat.mul_le_mul_right _ (Nat.pow_pos (by decide));omega
 · have := Nat.mod_lt b (show 0 < s by omega);refine⟨?_,by omega,hm0⟩;rw[<- e,h,<- Nat.gcd_rec,Nat.gcd_comm]
theorem qzu {s b:Nat} (h:(qaa s).length+1<(qaa b).length):2*s<=b:=by
 have h1:=qfl (qaa s);rw[q9q] at h1;rcases Nat.lt_or_ge b (4294967296 ^ ((qaa s).length+1)) with h2 | h2
 · have:=qcf h2;omega
 · rw [Nat.pow_succ] at h2;omega
theorem quG {R:Type} {p q:Nat} {L:Nat} (hp:p % 2=1) (hq:q % 2=1) (hlt:q<p) (hL:(qaa p).length<=L) (hL2:L<4398046511104) (x y:Nat) (hx:x<32*L) (hy:y<32*L) :
   (∀ k1 k2:List Int->Option R,(bif (decide (((qaa p).length:Int)>(iadd .i64 ((qaa q).length:Int) 1))) then ((qh7 (qaa p) (qaa q)).bind fun r10=>bif (decide ((r10.2.length:Int)=0)) then ((qhY (qaa q) (mn (x:Int) (y:Int))).bind fun r11=>k1 r11) else ((qb5 r10.2).bind fun r12=>(qdX r10.2 r12).bind fun r13=>k2 r13)) else ((qf8 (qaa p) (qaa q)).bind fun r14=>(qb5 r14).bind fun r15=>(qdX r14 r15).bind fun r16=>k2 r16))=k1 (qaa (Nat.gcd p q*2 ^ min x y))) \/
   (∃ m:Nat,m % 2=1/\Nat.gcd m q=Nat.gcd p q/\m.log2<p.log2/\m<=p/\∀ k1 k2:List Int->Option R,(bif (decide (((qaa p).length:Int)>(iadd .i64 ((qaa q).length:Int) 1))) then ((qh7 (qaa p) (qaa q)).bind fun r10=>bif (decide ((r10.2.length:Int)=0)) then ((qhY (qaa q) (mn (x:Int) (y:Int))).bind fun r11=>k1 r11) else ((qb5 r10.2).bind fun r12=>(qdX r10.2 r12).bind fun r13=>k2 r13)) else ((qf8 (qaa p) (qaa q)).bind fun r14=>(qb5 r14).bind fun r15=>(qdX r14 r15).bind fun r16=>k2 r16))=k2 (qaa m)):=by
 have hlq:=qa9 (Nat.le_of_lt hlt);have i1:iadd .i64 ((qaa q).length:Int) 1=(((qaa q).length+1:Nat):Int):=by rw[qeB]<;>omega
 rw[i1];by_cases hg:(qaa q).length+1<(qaa p).length
 · have c1 : ((qaa p).length : Int) > (((qaa q).length + 1 : Nat) : Int) := by omega
   have hr:=qy9 (a:=qaa p) (b:=qaa q) (by omega) (by omega) (by rw[q9q];omega);rw[q9q,q9q] at hr;simp only[cnd c1,hr,bS0];by_cases h0:p % q=0
   · left
     have hs:=qt5 (n:=min x y) (qaR q) (by omega) (by omega);rw[q9q] at hs;have em:mn (x:Int) (y:Int)=((min x y:Nat):Int):=by unfold mn;split<;>omega
     have eg:Nat.gcd p q=q:=by rw[Nat.gcd_comm,Nat.gcd_rec,h0,Nat.gcd_zero_left]
     intro k1 k2;rw[cnd (by rw[h0,qa7];rfl),em,hs,bS0,eg]
   · right
     have hne:qaa (p % q)≠[]:=fun h=>h0 (qfR.1 h)
     have c2:¬ ((qaa (p % q)).length:Int)=0:=by
      intro h;apply hne;apply List.eq_nil_of_length_eq_zero;omega
     have hml:p % q<=p:=Nat.mod_le _ _;have hlm:=qa9 hml;obtain⟨z,m,hz,h1,h2,h3⟩:=qob (qaR (p % q)) (by omega) (by rw[q9q];exact h0);rw[q9q] at h1;obtain⟨g1,g2,g3⟩:=qsr hp hq hlt (.inr ⟨rfl,qzu hg⟩) h0 h1 h2;have hs:=qrt (n:=z) (qaR (p % q)) (by omega) (by omega);rw[q9q,h1,Nat.mul_div_cancel_left _ (Nat.pow_pos (by decide)),<- h1] at hs;refine⟨m,h2,g1,qo5 g3 g2,by omega,fun k1 k2=>?_⟩;rw[cnd' c2,hz,bS0,hs,bS0]
 · right
   have c1:¬ ((qaa p).length:Int)>(((qaa q).length+1:Nat):Int):=by omega
   have hmi:=qug (qaR p) (qaR q) (by omega) (by rw[q9q,q9q];omega);rw[q9q,q9q] at hmi;have hlm:=qa9 (Nat.sub_le p q);have h0:p-q≠0:=by omega
   obtain⟨z,m,hz,h1,h2,h3⟩:=qob (qaR (p-q)) (by omega) (by rw[q9q];exact h0);rw[q9q] at h1;obtain⟨g1,g2,g3⟩:=qsr hp hq hlt (.inl rfl) h0 h1 h2;have hs:=qrt (n:=z) (qaR (p-q)) (by omega) (by omega);rw[q9q,h1,Nat.mul_div_cancel_left _ (Nat.pow_pos (by decide)),<- h1] at hs;refine⟨m,h2,g1,qo5 g3 g2,by omega,fun k1 k2=>?_⟩;rw[cnd' c1,hmi,bS0,hz,bS0,hs,bS0]
theorem qyq {p q x y L:Nat} (hp:p % 2=1) (hq:q % 2=1) (hpL:(qaa p).length<=L) (hqL:(qaa q).length<=L) (hL:L<4398046511104) (hx:x<32*L) (hy:y<32*L) :
  lp qbS K0 ((qaa p,qaa q,(x:Int),(y:Int),()),())=some ((qaa (Nat.gcd p q*2 ^ min x y),()),()):=by
 have hlog:∀ n,(qaa n).length<=L->n.log2<32*L+1:=by
  intro n hn;by_cases h0:n=0
  · subst h0;rw[Nat.log2_zero];omega
  · have h1 := qfl (qaa n);rw[q9q,qxj] at h1;have:=(Nat.log2_lt h0).2 h1;omega
 obtain⟨r,rfl,hlp⟩:=qlg (step:=qbS) (fun v=>∃ p' q':Nat,v=((qaa p',qaa q',(x:Int),(y:Int),()),())/\p' % 2=1/\q' % 2=1/\(qaa p').length<=L/\(qaa q').length<=L/\Nat.gcd p' q'=Nat.gcd p q)
  (fun v=>(nn v.1.1).log2+(nn v.1.2.1).log2) (fun r=>r=((qaa (Nat.gcd p q*2 ^ min x y),()),())) (v:=((qaa p,qaa q,(x:Int),(y:Int),()),()))
  ⟨p,q,rfl,hp,hq,hpL,hqL,rfl⟩ (by
    have h1:=hlog p hpL;have h2:=hlog q hqL;simp only[q9q];omega) (by
    rintro v ⟨p',q',rfl,hp',hq',hpl,hql,hg⟩;have ho:=qoh (n:=p') (m:=q') (by omega);have em:mn (x:Int) (y:Int)=((min x y:Nat):Int):=by unfold mn;split<;>omega
    rcases Nat.lt_trichotomy p' q' with hlt | heq | hgt
    · have e : ncmp p' q' = -1 := by simp [ncmp, hlt]
      rw[e] at ho;have hpq:Nat.gcd q' p'=Nat.gcd p q:=by rw[Nat.gcd_comm,hg]
      rcases quG (R:=((List Int×Unit)×Unit)) hq' hp' hlt hql hL x y hx hy with h | ⟨m,h1,h2,h3,h4,h⟩
      · refine .inl ⟨_, rfl, fun g => ?_⟩;rw[<- hpq,qbS,ho,bS0,cnd' (by decide),cnd (by decide)];exact h (fun r=>some ((r,()),())) (fun r=>g ((r,qaa p',(x:Int),(y:Int),()),()))
      · refine .inr ⟨((qaa m, qaa p', (x : Int), (y : Int), ()), ()), ⟨m, p', rfl, h1, hp', Nat.le_trans (qa9 h4) hql, hpl, by rw [h2, hpq]⟩, by simp only [q9q]; omega, fun g => ?_⟩;rw[qbS,ho,bS0,cnd' (by decide),cnd (by decide)];exact h (fun r=>some ((r,()),())) (fun r=>g ((r,qaa p',(x:Int),(y:Int),()),()))
    · subst heq;have e:ncmp p' p'=0:=by simp [ncmp]
      rw[e] at ho;refine .inl ⟨_,rfl,fun g=>?_⟩;have hs:=qt5 (n:=min x y) (qaR p') (by omega) (by omega);rw[q9q] at hs;rw[qbS,ho,bS0,cnd (by decide),em,hs,bS0,<- hg,Nat.gcd_self]
    · have e : ncmp p' q' = 1 := by simp [ncmp, hgt, Nat.not_lt.2 (Nat.le_of_lt hgt)]
      rw[e] at ho;rcases quG (R:=((List Int×Unit)×Unit)) hp' hq' hgt hpl hL x y hx hy with h | ⟨m,h1,h2,h3,h4,h⟩
      · refine .inl ⟨_, rfl, fun g => ?_⟩;rw[<- hg,qbS,ho,bS0,cnd' (by decide),cnd' (by decide)];exact h (fun r=>some ((r,()),())) (fun r=>g ((r,qaa q',(x:Int),(y:Int),()),()))
      · refine .inr ⟨((qaa m, qaa q', (x : Int), (y : Int), ()), ()), ⟨m, q', rfl, h1, hq', Nat.le_trans (qa9 h4) hpl, hql, by rw [h2, hg]⟩, by simp only [q9q]; omega, fun g => ?_⟩;rw[qbS,ho,bS0,cnd' (by decide),cnd' (by decide)];exact h (fun r=>some ((r,()),())) (fun r=>g ((r,qaa q',(x:Int),(y:Int),()),())))
 exact hlp
theorem qAv {a b:List Int} (ha:a.length<4398046511104) (hb:b.length<4398046511104):qo2 a b=some (qaa (Nat.gcd (nn a) (nn b))):=by
 have h1:=qaG a;have h2:=qaG b;have ea:=q9q (nn a);have eb:=q9q (nn b);have la:=qaR (nn a);have lb:=qaR (nn b);rw[qo2,qd0 (by omega),bS0,qd0 (by omega),bS0];by_cases ha0:nn a=0
 · rw[ha0,qa7,cnd (by rfl),Nat.gcd_zero_left]
 have hne:¬ ((qaa (nn a)).length:Int)=0:=by
   intro h;exact ha0 (qfR.1 (List.eq_nil_of_length_eq_zero (by omega)))
 rw[cnd' hne];by_cases hb0:nn b=0
 · rw[hb0,qa7,cnd (by rfl),Nat.gcd_zero_right]
 have hne':¬ ((qaa (nn b)).length:Int)=0:=by
   intro h;exact hb0 (qfR.1 (List.eq_nil_of_length_eq_zero (by omega)))
 rw[cnd' hne'];have sm:∀ n,(qaa n).length<=2->n<18446744073709551616:=by
   intro n hn;have h3:=qfl (qaa n);rw[q9q] at h3;have h4:4294967296 ^ (qaa n).length<=4294967296 ^ 2:=Nat.pow_le_pow_right (by decide) hn;exact Nat.lt_of_lt_of_le h3 h4
 have big:((qb5 (qaa (nn a))).bind fun r4=>(qb5 (qaa (nn b))).bind fun r5=>(qdX (qaa (nn a)) r4).bind fun r6=>(qdX (qaa (nn b)) r5).bind fun r7=>(lp qbS K0 ((r6,r7,r4,r5,()),())).bind fun t24=>some t24.1.1)=some (qaa (Nat.gcd (nn a) (nn b))):=by
   obtain⟨x,p,hx,hp1,hp2,hp3⟩:=qob la (by omega) (by rw[ea];exact ha0);obtain⟨y,q,hy,hq1,hq2,hq3⟩:=qob lb (by omega) (by rw[eb];exact hb0);have s1:=qrt (n:=x) la (by omega) (by omega);have s2:=qrt (n:=y) lb (by omega) (by omega);rw[hp1,Nat.mul_div_cancel_left _ (Nat.pow_pos (by decide))] at s1;rw[hq1,Nat.mul_div_cancel_left _ (Nat.pow_pos (by decide))] at s2;rw[ea] at hp1;rw[eb] at hq1;have lp1:(qaa p).length<=max (qaa (nn a)).length (qaa (nn b)).length:=by
     have:p<=nn a:=by rw[hp1];exact Nat.le_mul_of_pos_left _ (Nat.pow_pos (by decide))
     have:=qa9 this;omega
   have lq1:(qaa q).length<=max (qaa (nn a)).length (qaa (nn b)).length:=by
     have:q<=nn b:=by rw[hq1];exact Nat.le_mul_of_pos_left _ (Nat.pow_pos (by decide))
     have:=qa9 this;omega
   rw[hx,bS0,hy,bS0,s1,bS0,s2,bS0,qyq hp2 hq2 lp1 lq1 (by omega) (by omega) (by omega),bS0];congr 2
   conv=>rhs;rw[hp1,hq1]
   rw[qzA hp2 hq2]
 by_cases hA:(qaa (nn a)).length<=2
 · rw [cnd (by omega)];by_cases hB:(qaa (nn b)).length<=2
   · rw [cnd (by omega), qwK (by omega) (by omega) (by rw [ea]; exact sm _ hA) (by rw [eb]; exact sm _ hB), ea, eb];rfl
   · rw [cnd' (by omega)];exact big
 · rw [cnd' (by omega)];exact big
def qaD (z:Int):WH:=(decide (z<0),qaa z.natAbs)
def wv (a:WH):Int:=if a.1 then -((nn a.2:Nat):Int) else ((nn a.2:Nat):Int)
theorem qcU (z:Int):wv (qaD z)=z:=by
 unfold wv qaD;by_cases h:z<0
 · simp [h,q9q];omega
 · simp [h,q9q];omega
theorem qfV (a:WH):(wv a).natAbs=nn a.2:=by unfold wv;split<;>omega
theorem qlT:qaD 0=(false,[]):=by simp [qaD,qa7]
theorem qvl (z:Int):(qaD z).2=qaa z.natAbs:=rfl
theorem qvk (n:Nat):qaD (n:Int)=(false,qaa n):=by
 unfold qaD;rw[decide_eq_false (by omega),Int.natAbs_natCast]
theorem qmG {n:Nat}:((qaa n).length:Int)>0 ↔ n≠0:=by
 constructor
 · intro h h0;subst h0;rw[qa7] at h;simp at h
 · intro h;have:qaa n≠[]:=fun e=>h (qfR.1 e)
   have:=List.length_pos_iff.2 this;omega
theorem qhK {n:Nat}:((qaa n).length:Int)=0 ↔ n=0:=by
 have:=@qmG n;omega
theorem qjS (b:Bool) (n:Nat):qdr b (qaa n)=some (qaD (if b then -(n:Int) else n)):=by
 cases b with
 | false =>
  show some (false,qaa n)=some (qaD (n:Int));rw[qvk]
 | true =>
  show some (decide (((qaa n).length:Int)>0),qaa n)=some (qaD (-(n:Int)));unfold qaD;rw[Int.natAbs_neg,Int.natAbs_natCast];congr 2;rw[decide_eq_decide,qmG];omega
theorem qfX {a:WH} (h:a.2.length<35184372088832):qbm a=some (qaD (wv a)):=by
 rw[qbm,qd0 h,bS0,qjS];rfl
def icmp (x y:Int):Int:=if x<y then -1 else if y<x then 1 else 0
theorem qsS {a b:WH} (ha:a.2.length<17592186044416) (hb:b.2.length<17592186044416):qds a b=some (qaD (wv a*wv b)):=by
 have la:=qaG a.2;have lb:=qaG b.2;have hx:=qfV a;have hy:=qfV b;rw[qds,qfX (by omega),bS0,qfX (by omega),bS0];generalize wv a=x at *;generalize wv b=y at *;have hm:qkj (qaa x.natAbs) (qaa y.natAbs)=some (qaa (x.natAbs*y.natAbs)):=by
  have:=qxa (a:=qaa x.natAbs) (b:=qaa y.natAbs) (by rw[hx];omega) (by rw[hy];omega)
  rwa [q9q,q9q] at this
 simp only[qaD,hm,bS0,qjS];have e:(x*y).natAbs=x.natAbs*y.natAbs:=Int.natAbs_mul x y;congr 1;have key:(if (!decide (x<0) == decide (y<0))=true then -(((x.natAbs*y.natAbs:Nat)):Int) else ((x.natAbs*y.natAbs:Nat):Int))=x*y:=by
  rw[Int.natCast_mul];by_cases h1:x<0<;>by_cases h2:y<0
  · rw[show((x.natAbs:Nat):Int)=-x by omega,show((y.natAbs:Nat):Int)=-y by omega];simp [h1,h2,Int.neg_mul_neg]
  · rw[show((x.natAbs:Nat):Int)=-x by omega,show((y.natAbs:Nat):Int)=y by omega];simp [h1,h2,Int.neg_mul]
  · rw[show((x.natAbs:Nat):Int)=x by omega,show((y.natAbs:Nat):Int)=-y by omega];simp [h1,h2,Int.mul_neg]
  · rw[show((x.natAbs:Nat):Int)=x by omega,show((y.natAbs:Nat):Int)=y by omega];simp [h1,h2]
 exact congrArg qaD key
theorem qyW {a b:WH} (ha:a.2.length<17592186044416) (hb:b.2.length<17592186044416):qjO a b=some (qaD (wv a+wv b)):=by
 have la:=qaG a.2;have lb:=qaG b.2;have hx:=qfV a;have hy:=qfV b;rw[qjO,qfX (by omega),bS0,qfX (by omega),bS0];generalize wv a=x at *;generalize wv b=y at *;have e1:qnk (qaa x.natAbs) (qaa y.natAbs)=some (qaa (x.natAbs+y.natAbs)):=by
   have:=qAy (a:=qaa x.natAbs) (b:=qaa y.natAbs) (by rw[hx];omega) (by rw[hy];omega)
   rwa [q9q,q9q] at this
 have e2:qig (qaa x.natAbs) (qaa y.natAbs)=some (ncmp x.natAbs y.natAbs):=by
   have:=qAx (a:=qaa x.natAbs) (b:=qaa y.natAbs) (by rw[hx];omega) (by rw[hy];omega)
   rwa [q9q,q9q] at this
 have e3:qkh (qaa x.natAbs) (qaa y.natAbs)=if x.natAbs<y.natAbs then some ([],3) else some (qaa (x.natAbs-y.natAbs),0):=by
   have:=qyO (a:=qaa x.natAbs) (b:=qaa y.natAbs) (by rw[hx];omega) (by rw[hy];omega)
   rwa [q9q,q9q] at this
 have e4:qkh (qaa y.natAbs) (qaa x.natAbs)=if y.natAbs<x.natAbs then some ([],3) else some (qaa (y.natAbs-x.natAbs),0):=by
   have:=qyO (a:=qaa y.natAbs) (b:=qaa x.natAbs) (by rw[hy];omega) (by rw[hx];omega)
   rwa [q9q,q9q] at this
 simp only[qaD,e1,e2,bS0,qjS];by_cases hs:decide (x<0)=decide (y<0)
 · have c : (decide (x < 0) == decide (y < 0)) = true := by simp [hs]
   rw[c,cond_true];congr 1;have key:(if decide (x<0)=true then -((x.natAbs+y.natAbs:Nat):Int) else ((x.natAbs+y.natAbs:Nat):Int))=x+y:=by
     rw[decide_eq_decide] at hs;simp only[decide_eq_true_eq];split<;>omega
   exact congrArg qaD key
 · have c : (decide (x < 0) == decide (y < 0)) = false := by simpa using hs
   rw[c,cond_false];rw[decide_eq_decide] at hs;by_cases hlt:x.natAbs<y.natAbs
   · rw [e4, if_neg (by omega), show ncmp x.natAbs y.natAbs = -1 by simp [ncmp, hlt], cnd (by decide), bS0, qjS, bS0];have key:(if decide (y<0)=true then -((y.natAbs-x.natAbs:Nat):Int) else ((y.natAbs-x.natAbs:Nat):Int))=x+y:=by
      simp only[decide_eq_true_eq];split<;>omega
     exact congrArg (fun z=>some (qaD z)) key
   · have c2 : ¬ ncmp x.natAbs y.natAbs < 0 := by unfold ncmp; rw [if_neg hlt]; split <;> omega
     rw[e3,if_neg hlt,cnd' c2,bS0,qjS,bS0];have key:(if decide (x<0)=true then -((x.natAbs-y.natAbs:Nat):Int) else ((x.natAbs-y.natAbs:Nat):Int))=x+y:=by
      simp only[decide_eq_true_eq];split<;>omega
     exact congrArg (fun z=>some (qaD z)) key
theorem qvH {a:WH} (h:a.2.length<35184372088832):qin a=some (qaD (-wv a)):=by
 rw[qin,qfX h,bS0];simp only[qaD,qjS,bS0];congr 1;have key:(if (!decide (wv a<0))=true then -(((wv a).natAbs:Nat):Int) else (((wv a).natAbs:Nat):Int))=-wv a:=by
  by_cases h:wv a<0
  · simp [h];omega
  · simp [h];omega
 exact congrArg qaD key
def isgn (x:Int):Int:=if x<0 then -1 else if x=0 then 0 else 1
theorem qtX {a:WH} (h:a.2.length<35184372088832):qhD a=some (isgn (wv a)):=by
 rw[qhD,qfX h,bS0];simp only[qaD];generalize wv a=x;by_cases h1:x<0
 · simp [h1,isgn]
 · by_cases h2 : x = 0
   · subst h2;simp [isgn,qa7]
   · have : ¬ ((qaa x.natAbs).length : Int) = 0 := by rw [qhK]; omega
     simp only[decide_eq_false h1,cond_false,isgn,if_neg h1,if_neg h2];exact cnd' this
theorem qvG {n:Int} (h:-9223372036854775808<=n) (h':n<9223372036854775808):qgS n=some (qaD n):=by
 by_cases h1:n<0
 · have e : ineg .u64 (IntKind.wrap .u64 n) = ((n.natAbs : Nat) : Int) := by
    show IntKind.wrap .u64 (0-IntKind.wrap .u64 n)=_;rw[qil,qil];omega
   rw[qgS,cnd h1,e,qtR (by omega),bS0,qjS,bS0];simp;congr 1;omega
 · have e : IntKind.wrap .u64 n = ((n.natAbs : Nat) : Int) := by rw [qil]; omega
   rw[qgS,cnd' h1,e,qtR (by omega),bS0,qjS,bS0];simp;congr 1;omega
def canQ (q:Rat):RAT:=(qaD q.num,qaa q.den)
def rv (a:RAT):Rat:=mkRat (wv a.1) (nn a.2)
theorem qbJ (q:Rat):rv (canQ q)=q:=by
 rw[rv,canQ,qcU,q9q,Rat.mkRat_self]
def SzR (a:RAT) (n:Nat):Prop:=a.1.2.length<=n/\a.2.length<=n
def Sm (a:RAT):Prop:=a.1.2.length<1099511627776/\a.2.length<1099511627776
def SzQ (q:Rat) (n:Nat):Prop:=q.num.natAbs<4294967296 ^ n/\q.den<4294967296 ^ n
theorem SzR.sm {a:RAT} {n:Nat} (h:SzR a n) (hn:n<1099511627776):Sm a:=⟨by have:=h.1;omega,by have:=h.2;omega⟩
theorem SzQ.szR {q:Rat} {n:Nat} (h:SzQ q n):SzR (canQ q) n:=⟨qcf h.1,qcf h.2⟩
theorem SzQ.sm {q:Rat} {n:Nat} (h:SzQ q n) (hn:n<1099511627776):Sm (canQ q):=h.szR.sm hn
theorem SzQ.mono {q:Rat} {n m:Nat} (h:SzQ q n) (hm:n<=m):SzQ q m:=by
 have:=Nat.pow_le_pow_right (n:=4294967296) (by decide) hm;exact⟨Nat.lt_of_lt_of_le h.1 this,Nat.lt_of_lt_of_le h.2 this⟩
theorem qqX {z:Int} {d n:Nat} (hz:z.natAbs<4294967296 ^ n) (hd:d<4294967296 ^ n) (hn:0<n):SzQ (mkRat z d) n:=by
 have hp:1<4294967296 ^ n:=by
   have:=Nat.pow_le_pow_right (n:=4294967296) (by decide) hn;omega
 by_cases h0:d=0
 · subst h0;rw[Rat.mkRat_zero];exact⟨by simpa using Nat.lt_of_le_of_lt (Nat.zero_le _) hp,by simpa using hp⟩
 · have h1 := Rat.num_mkRat z d;have h2:=Rat.den_mkRat z d;rw[if_neg h0] at h1 h2;constructor
   · rw [h1, Int.natAbs_ediv_of_dvd (Int.ofNat_dvd_left.2 (Nat.gcd_dvd_right _ _))];exact Nat.lt_of_le_of_lt (Nat.div_le_self _ _) hz
   · rw[h2];exact Nat.lt_of_le_of_lt (Nat.div_le_self _ _) hd
theorem SzR.szQ {a:RAT} {n:Nat} (h:SzR a n) (hn:0<n):SzQ (rv a) n:=by
 refine qqX ?_ ?_ hn
 · rw[qfV];exact Nat.lt_of_lt_of_le (qfl _) (Nat.pow_le_pow_right (by decide) h.1)
 · exact Nat.lt_of_lt_of_le (qfl _) (Nat.pow_le_pow_right (by decide) h.2)
theorem SzQ.pos {q:Rat} {n:Nat} (h:SzQ q n):0<n:=by
 rcases Nat.eq_zero_or_pos n with h0 | h0
 · subst h0;have:=h.2;have:=q.den_pos;simp at *;omega
 · exact h0
theorem SzQ.mul {p q:Rat} {n m:Nat} (hp:SzQ p n) (hq:SzQ q m):SzQ (p*q) (n+m):=by
 have h0:=hp.pos;rw[Rat.mul_def'];refine qqX ?_ ?_ (by omega)
 · rw[Int.natAbs_mul,Nat.pow_add];exact Nat.mul_lt_mul'' hp.1 hq.1
 · rw[Nat.pow_add];exact Nat.mul_lt_mul'' hp.2 hq.2
theorem SzQ.add {p q:Rat} {n m:Nat} (hp:SzQ p n) (hq:SzQ q m):SzQ (p+q) (n+m+1):=by
 have h0:=hp.pos;rw[Rat.add_def'];have h1:(p.num*q.den).natAbs<4294967296 ^ (n+m):=by rw[Int.natAbs_mul,Nat.pow_add,Int.natAbs_natCast];exact Nat.mul_lt_mul'' hp.1 hq.2
 have h2:(q.num*p.den).natAbs<4294967296 ^ (n+m):=by rw[Int.natAbs_mul,Nat.add_comm,Nat.pow_add,Int.natAbs_natCast];exact Nat.mul_lt_mul'' hq.1 hp.2
 have h3:p.den*q.den<4294967296 ^ (n+m):=by rw[Nat.pow_add];exact Nat.mul_lt_mul'' hp.2 hq.2
 have h4:4294967296 ^ (n+m+1)=4294967296 ^ (n+m)*4294967296:=Nat.pow_succ ..;refine qqX ?_ (by omega) (by omega);have:=Int.natAbs_add_le (p.num*q.den) (q.num*p.den);omega
theorem SzQ.inv {p:Rat} {n:Nat} (hp:SzQ p n):SzQ p⁻¹ n:=by
 have h0:=hp.pos;have:1<4294967296 ^ n:=by
   have:=Nat.pow_le_pow_right (n:=4294967296) (by decide) h0;omega
 constructor
 · rw [Rat.num_inv, Int.natAbs_mul, Int.natAbs_natCast];have h1:p.num.sign.natAbs<=1:=by
     rcases Int.lt_trichotomy p.num 0 with h | h | h
     · rw[Int.sign_eq_neg_one_of_neg h];decide
     · rw[h];decide
     · rw[Int.sign_eq_one_of_pos h];decide
   have h2:=Nat.mul_le_mul_right p.den h1;have:=hp.2;omega
 · rw [Rat.den_inv]; split
   · exact this
   · exact hp.1
theorem SzQ.div {p q:Rat} {n m:Nat} (hp:SzQ p n) (hq:SzQ q m):SzQ (p/q) (n+m):=by
 rw[Rat.div_def];exact hp.mul hq.inv
theorem SzQ.int {z:Int} (h:z.natAbs<4294967296):SzQ (z:Rat) 1:=⟨by simpa using h,by simp⟩
theorem SzQ.zero:SzQ 0 1:=⟨by simp,by simp⟩
theorem SzQ.one:SzQ 1 1:=⟨by simp,by simp⟩
theorem qpe {z:Int} {d:Nat} (hz:(qaa z.natAbs).length<4398046511104) (hd:(qaa d).length<4398046511104) (h0:d≠0):qd9 (qaD z) (qaa d)=some (canQ (mkRat z d)):=by
 by_cases hz0:z=0
 · subst hz0;have:=qtR (n:=1) (by decide);rw[qd9,qlT];simp only[List.length_nil];rw[cnd (by rfl)];rw[show((1:Nat):Int)=1 from rfl] at this;rw[this,Rat.zero_mkRat,canQ];simp [qlT]
 · have hne : ¬ ((qaa z.natAbs).length : Int) = 0 := by rw [qhK]; omega
   have hg:=qAv hz hd;rw[q9q,q9q] at hg;have hgpos:0<Nat.gcd z.natAbs d:=Nat.gcd_pos_of_pos_right _ (Nat.pos_of_ne_zero h0);have hgle:Nat.gcd z.natAbs d<=d:=Nat.gcd_le_right _ (Nat.pos_of_ne_zero h0);have hglen:=qa9 hgle;have hgne:nn (qaa (Nat.gcd z.natAbs d))≠0:=by rw[q9q];omega
   have d1:=qpr hz (show(qaa (Nat.gcd z.natAbs d)).length<4398046511104 by omega) hgne;have d2:=qpr hd (show(qaa (Nat.gcd z.natAbs d)).length<4398046511104 by omega) hgne;rw[q9q,q9q] at d1 d2;have hres:((decide (z<0),qaa (z.natAbs/Nat.gcd z.natAbs d)),qaa (d/Nat.gcd z.natAbs d))=canQ (mkRat z d):=by
     have h1:=Rat.num_mkRat z d;have h2:=Rat.den_mkRat z d;rw[if_neg h0,Nat.gcd_comm] at h1 h2;have hdv:((Nat.gcd z.natAbs d:Nat):Int) ∣ z:=Int.ofNat_dvd_left.2 (Nat.gcd_dvd_left _ _);unfold canQ qaD;rw[h1,h2,Int.natAbs_ediv_of_dvd hdv,Int.natAbs_natCast];congr 2;rw[decide_eq_decide];obtain⟨c,hc⟩:=hdv;generalize ((Nat.gcd z.natAbs d:Nat))=G at *;have hG:(0:Int)<(G:Int):=by omega
     have : z / (G : Int) = c := by conv => lhs; rw [hc]
                                    exact Int.mul_ediv_cancel_left _ (by omega)
     rw[this];constructor
     · intro h;by_cases h3:c<0
       · exact h3
       · have:=Int.mul_nonneg (Int.le_of_lt hG) (Int.not_lt.1 h3);omega
     · intro h;have:=Int.mul_neg_of_pos_of_neg hG h;omega
   rw[qaD,qd9];rw[cnd' hne,hg,bS0];by_cases h1:Nat.gcd z.natAbs d=1
   · have e1 : qaa 1 = [1] := by rw [qfx (by decide) (by decide)]; rfl
     rw[<- hres,h1,e1];simp
   · by_cases hl : (qaa (Nat.gcd z.natAbs d)).length = 1
     · have hg32 : Nat.gcd z.natAbs d < 4294967296 := by
         have:=qfl (qaa (Nat.gcd z.natAbs d));rw[q9q,hl] at this;simpa using this
       have hls:=qfx (Nat.ne_of_gt hgpos) hg32;rw[cnd (by omega),cnd (by omega),d1,d2];rw[hls,List.getElem?_cons_zero,bS0,cnd' (by omega)];simp only[bS0];rw[hres]
     · rw [cnd' (by omega), d1, d2];simp only[bS0];rw[hres]
theorem qiZ:qeL=some (canQ 0):=by
 have:=qtR (n:=1) (by decide);rw[qeL];rw[show((1:Nat):Int)=1 from rfl] at this;rw[this,canQ];simp [qlT]
theorem qbH {a:RAT} (h:Sm a):qbn a=some (canQ (rv a)):=by
 have h1:=h.1;have h2:=h.2;have l1:=qaG a.1.2;have l2:=qaG a.2;rw[qbn,qd0 (by omega),bS0];by_cases h0:nn a.2=0
 · rw[h0,qa7,cnd (by rfl),qiZ,bS0,rv,h0,Rat.mkRat_zero]
 · rw [cnd' (by rw [qhK]; exact h0), qfX (by omega), bS0, qpe (by rw [qfV]; omega) (by omega) h0];rfl
theorem qhw (x y:Nat):(qaa (x*y)).length<=(qaa x).length+(qaa y).length:=by
 apply qcf;have a1:=qfl (qaa x);have a2:=qfl (qaa y);rw[q9q] at a1 a2;rw[Nat.pow_add];exact Nat.mul_lt_mul'' a1 a2
theorem qqY (x y:Nat):(qaa (x+y)).length<=max (qaa x).length (qaa y).length+1:=by
 apply qcf;have a1:=qfl (qaa x);have a2:=qfl (qaa y);rw[q9q] at a1 a2;have h1:=Nat.pow_le_pow_right (n:=4294967296) (by decide) (Nat.le_max_left (qaa x).length (qaa y).length);have h2:=Nat.pow_le_pow_right (n:=4294967296) (by decide) (Nat.le_max_right (qaa x).length (qaa y).length);rw[Nat.pow_succ];omega
theorem Sm.can {a:RAT} (h:Sm a):Sm (canQ (rv a)):=by
 have h1:SzR a (max 1 (max a.1.2.length a.2.length)):=⟨by omega,by omega⟩;exact(h1.szQ (by omega)).sm (by have:=h.1;have:=h.2;omega)
theorem Sm.num {q:Rat} (h:Sm (canQ q)):(qaa q.num.natAbs).length<1099511627776:=h.1
theorem Sm.den {q:Rat} (h:Sm (canQ q)):(qaa q.den).length<1099511627776:=h.2
def rcmp (p q:Rat):Int:=if p<q then -1 else if q<p then 1 else 0
theorem qxY (p q:Rat):icmp (p.num*q.den) (q.num*p.den)=rcmp p q:=by
 unfold icmp rcmp;simp only[Rat.lt_iff]
theorem qyx (n:Nat):wv (false,qaa n)=(n:Int):=by simp [wv,q9q]
theorem qwj {p q:Rat} (n1:(qaa p.num.natAbs).length<1099511627776) (n2:(qaa q.den).length<1099511627776):qds (qaD p.num) (false,qaa q.den)=some (qaD (p.num*q.den)):=by
 have:=qsS (a:=qaD p.num) (b:=(false,qaa q.den)) (by show(qaa p.num.natAbs).length<_;omega) (by show(qaa q.den).length<_;omega)
 rwa [qcU,qyx] at this
theorem qo3 {p q:Rat} (n1:(qaa p.num.natAbs).length<1099511627776) (n2:(qaa q.den).length<1099511627776):(qaD (p.num*q.den)).2.length<2199023255552:=by
 have:=qhw p.num.natAbs q.den;show(qaa (p.num*q.den).natAbs).length<_;rw[Int.natAbs_mul,Int.natAbs_natCast];omega
theorem qjY {a b:RAT} (ha:Sm a) (hb:Sm b):qdC a b=some (canQ (rv a+rv b)):=by
 have sa:=ha.can;have sb:=hb.can;rw[qdC,qbH ha,bS0,qbH hb,bS0];generalize rv a=p at *;generalize rv b=q at *;have l1:=qo3 (p:=p) (q:=q) sa.num sb.den;have l2:=qo3 (p:=q) (q:=p) sb.num sa.den;have m3:=qyW (a:=qaD (p.num*q.den)) (b:=qaD (q.num*p.den)) (by omega) (by omega);rw[qcU,qcU] at m3;have n1:=sa.num;have n2:=sa.den;have n3:=sb.num;have n4:=sb.den;have m4:=qxa (a:=qaa p.den) (b:=qaa q.den) (by omega) (by omega);rw[q9q,q9q] at m4;have m5:=qpe (z:=p.num*q.den+q.num*p.den) (d:=p.den*q.den) (by
  have h1:=qqY (p.num*q.den).natAbs (q.num*p.den).natAbs;have h2:=qa9 (Int.natAbs_add_le (p.num*q.den) (q.num*p.den));simp only[qaD] at l1 l2;omega) (by
  have:=qhw p.den q.den;omega) (Nat.mul_ne_zero p.den_nz q.den_nz)
 simp only[qf3,bS0,canQ,qwj sa.num sb.den,qwj sb.num sa.den,m3,m4,m5];rw[Rat.add_def']
theorem qcN {a b:RAT} (ha:Sm a) (hb:Sm b):qay a b=some (canQ (rv a*rv b)):=by
 have sa:=ha.can;have sb:=hb.can;rw[qay,qbH ha,bS0,qbH hb,bS0];generalize rv a=p at *;generalize rv b=q at *;have n1:=sa.num;have n2:=sa.den;have n3:=sb.num;have n4:=sb.den;have m3:=qsS (a:=qaD p.num) (b:=qaD q.num) (by show(qaa _).length<_;omega) (by show(qaa _).length<_;omega);rw[qcU,qcU] at m3;have m4:=qxa (a:=qaa p.den) (b:=qaa q.den) (by omega) (by omega);rw[q9q,q9q] at m4;have m5:=qpe (z:=p.num*q.num) (d:=p.den*q.den) (by
  have h1:=qhw p.num.natAbs q.num.natAbs;rw[Int.natAbs_mul];omega) (by
  have:=qhw p.den q.den;omega) (Nat.mul_ne_zero p.den_nz q.den_nz)
 simp only[bS0,canQ,m3,m4,m5];rw[Rat.mul_def']
theorem qrG {a:RAT} (ha:Sm a):qiw a=some (canQ (-rv a)):=by
 have sa:=ha.can;rw[qiw,qbH ha,bS0];generalize rv a=p at *;have n1:=sa.num;have m:=qvH (a:=qaD p.num) (by show(qaa _).length<_;omega);rw[qcU] at m;simp only[canQ,m,bS0];rfl
theorem Sm.neg {q:Rat} (h:Sm (canQ q)):Sm (canQ (-q)):=by
 refine⟨?_,h.2⟩;show(qaa (-q.num).natAbs).length<_;rw[Int.natAbs_neg];exact h.1
theorem qrD {a b:RAT} (ha:Sm a) (hb:Sm b):qjW a b=some (canQ (rv a-rv b)):=by
 rw[qjW,qrG hb,bS0,qjY ha hb.can.neg,bS0,qbJ,Rat.sub_eq_add_neg]
theorem qzy {y:Int} (h:y≠0):¬ isgn y=0:=by
 unfold isgn;(repeat' split)<;>omega
theorem qxW (q:Rat):isgn q.num=rcmp q 0:=by
 have h:∀ x:Int,isgn x=icmp x 0:=by
  intro x;unfold isgn icmp
  (repeat' split)<;>omega
 rw[<- qxY,h,Rat.zero_den,Rat.zero_num,Int.zero_mul];rw[show((1:Nat):Int)=1 from rfl,Int.mul_one]
theorem qml {a:RAT} (ha:Sm a):qfD a=some (rcmp (rv a) 0):=by
 have sa:=ha.can;rw[qfD,qbH ha,bS0];generalize rv a=p at *;have n1:=sa.num;have m:=qtX (a:=qaD p.num) (by show(qaa _).length<_;omega);rw[qcU,qxW] at m;simp only[canQ,m,bS0]
def rabs (q:Rat):Rat:=if q<0 then -q else q
theorem qs1 {n:Int} (h:-9223372036854775808<=n) (h':n<9223372036854775808):qi0 n=some (canQ (n:Rat)):=by
 have:=qtR (n:=1) (by decide);rw[show((1:Nat):Int)=1 from rfl] at this;rw[qi0,qvG h h',bS0,this,bS0];rfl
theorem qjX:qdB=some (canQ 1):=by
 rw[qdB,qs1 (by decide) (by decide)];rfl
theorem qi1 {a b:WH} (ha:a.2.length<1099511627776) (hb:b.2.length<1099511627776) :
   qgH a b=if wv b=0 then some (((false,[]),[]),2) else some (canQ ((wv a:Rat)/(wv b:Rat)),0):=by
 have la:=qaG a.2;have lb:=qaG b.2;rw[qgH,qfX (by omega),bS0,qfX (by omega),bS0];have hx:=qfV a;have hy:=qfV b;generalize wv a=x at *;generalize wv b=y at *;have m:=qtX (a:=qaD y) (by show(qaa _).length<_;rw[hy];omega)
 rw[qcU] at m;rw[m,bS0];by_cases h0:y=0
 · subst h0;rfl
 · rw [if_neg h0, cnd' (qzy h0)];by_cases hneg:y<0
   · have e : (qaD y).1 = true := decide_eq_true hneg;have mn:=qvH (a:=qaD x) (by show(qaa _).length<_;rw[hx];omega)
     rw[qcU] at mn;have mf:=qpe (z:=-x) (d:=y.natAbs) (by rw[Int.natAbs_neg,hx];omega) (by rw[hy];omega) (by omega);rw[e,cond_true,mn,bS0];rw[show(qaD y).2=qaa y.natAbs from rfl,mf,bS0,<- Rat.divInt_eq_div,<- Rat.divInt_ofNat];rw[show((y.natAbs:Nat):Int)=-y by omega,Rat.neg_divInt_neg]
   · have e : (qaD y).1 = false := decide_eq_false hneg;have mf:=qpe (z:=x) (d:=y.natAbs) (by rw[hx];omega) (by rw[hy];omega) (by omega);rw[e,cond_false];rw[show(qaD y).2=qaa y.natAbs from rfl,mf,bS0,<- Rat.divInt_eq_div,<- Rat.divInt_ofNat];rw[show((y.natAbs:Nat):Int)=y by omega]
theorem qrO {q:Rat}:q.num=0 ↔ q=0:=Rat.num_eq_zero
theorem qrJ {a:RAT} (ha:Sm a):qix a=if rv a=0 then some (((false,[]),[]),2) else some (canQ (rv a)⁻¹,0):=by
 have sa:=ha.can;rw[qix,qbH ha,bS0];generalize rv a=p at *;have n1:=sa.num;have n2:=sa.den;have m:=qi1 (a:=(false,qaa p.den)) (b:=qaD p.num) (by show(qaa _).length<_;omega) (by show(qaa _).length<_;omega);rw[qcU,qyx] at m;simp only[qf3,bS0,canQ];simp only[canQ] at m;rw[m];simp only[qrO];by_cases h:p=0
 · simp [h]
 · simp only [if_neg h, bS0];rw[Rat.inv_def,Rat.divInt_eq_div]
theorem qqI {n d:Int} (h:-9223372036854775808<=n) (h':n<9223372036854775808) (hd:-9223372036854775808<=d) (hd':d<9223372036854775808):qc4 n d=some (canQ ((n:Rat)/(d:Rat))):=by
 have len:∀ z:Int,-9223372036854775808<=z->z<9223372036854775808->(qaD z).2.length<=2:=by
   intro z h1 h2;exact qcf (by omega)
 have l1:=len n h h';have l2:=len d hd hd';rw[qc4,qvG h h',bS0,qvG hd hd',bS0,qi1 (by omega) (by omega),qcU,qcU];by_cases h0:d=0
 · subst h0;rw[if_pos rfl,bS0,qbH (a:=((false,[]),[])) ⟨by decide,by decide⟩];have:rv ((false,[]),[])=0:=by simp [rv]
   rw[this];have e:(n:Rat)/((0:Int):Rat)=0:=by rw[Rat.div_def];simp
   rw[e];rfl
 · rw [if_neg h0, bS0, qbH, bS0, qbJ];have a1:SzQ (n:Rat) 2:=⟨by rw[Rat.num_intCast];omega,by simp⟩;have a2:SzQ (d:Rat) 2:=⟨by rw[Rat.num_intCast];omega,by simp⟩;exact(a1.div a2).sm (by decide)
def cutR (k:Nat) (a:RAT):RAT:=((a.1.1,a.1.2.take k),a.2.take k)
theorem qzI (k:Nat) (a:RAT):SzR (cutR k a) k:=⟨by simp [cutR];omega,by simp [cutR];omega⟩
theorem qmD {α J:Type} (f:α->J) {l:List α} {i:Nat} (h:i<l.length):(l.take (i+1)).map f=(l.take i).map f++[f l[i]]:=by
 rw[List.take_succ_eq_append_getElem h,List.map_append];rfl
theorem qv0 {p q:Rat} (h:p<q) (h':q<p):False:=by grind
def pre (v:Nat->Rat) (i j:Nat):Prop:=v j<v i\/(v i=v j/\i<j)
def ints (o:List Nat):List Int:=o.map fun(i:Nat)=>(i:Int)
@[simp] theorem qAA (o:List Nat):(ints o).length=o.length:=by simp [ints]
def vals (l:List RAT) (i:Nat):Rat:=rv ((l[i]?).getD ((false,[]),[]))
theorem qua {p q:Rat}:rcmp p q>0 ↔ q<p:=by
 unfold rcmp;by_cases h:p<q
 · have : ¬ q < p := fun h' => qv0 h h'
   simp [h,this]
 · by_cases h2:q<p<;>simp [h,h2]
def qyz (n:Nat) (o:List Nat):List Bool:=(List.range n).map fun j=>decide (j∈o)
@[simp] theorem qzV (n:Nat) (o:List Nat):(qyz n o).length=n:=by simp [qyz]
theorem qta (a:RAT):qc1 a=some (cutR 3 a):=by
 obtain⟨⟨s,x⟩,y⟩:=a;unfold qc1 cutR;by_cases h1:3<x.length
 · have c1 : ((x.length : Nat) : Int) > 3 := by omega
   have c2:(3:Int)<=((x.length:Nat):Int):=by omega
   by_cases h2:3<y.length
   · have c3 : ((y.length : Nat) : Int) > 3 := by omega
     have c4:(3:Int)<=((y.length:Nat):Int):=by omega
     rw[cnd c1,cnd c2,cnd c3,cnd c4]
   · have c3 : ¬ ((y.length : Nat) : Int) > 3 := by omega
     rw[cnd c1,cnd c2,cnd' c3,List.take_of_length_le (l:=y) (by omega)]
 · have c1 : ¬ ((x.length : Nat) : Int) > 3 := by omega
   by_cases h2:3<y.length
   · have c3 : ((y.length : Nat) : Int) > 3 := by omega
     have c4:(3:Int)<=((y.length:Nat):Int):=by omega
     rw[cnd' c1,cnd c3,cnd c4,List.take_of_length_le (l:=x) (by omega)]
   · have c3 : ¬ ((y.length : Nat) : Int) > 3 := by omega
     rw[cnd' c1,cnd' c3,List.take_of_length_le (l:=x) (by omega),List.take_of_length_le (l:=y) (by omega)]
def qny (c:CELL):CELL:=(c.1,cutR 3 c.2)
theorem qyr (l:List CELL) (n:Nat) (hl:l.length<=9223372036854775807) (hn:n<1000000):qc6 l (n:Int)=some ((l.take n).map qny):=by
 have hnn:min l.length n<=l.length:=Nat.min_le_left _ _;have key:=qji (step:=qaW) (fun i=>((l,(n:Int),(l.take i).map qny,(i:Int),()),())) (min l.length n) (r:=(((l.take n).map qny,()),())) (by omega) (by
  intro g i hi;have h1:i<l.length:=by omega
  have c1:(i:Int)<((l.length:Nat):Int):=by omega
  have c2:(i:Int)<(n:Int):=by omega
  have c3:(0:Int)<=(i:Int):=by omega
  have c4:(Nat.ble ((((l.take i).map qny).length+1)*64) 140737488355328&&!false)=true:=by
    have:(((l.take i).map qny).length+1)*64<=140737488355328:=by simp;omega
    simp only[Nat.ble_eq,this,Bool.not_false,Bool.and_true]
  rw[qaW,cnd c1,cnd c2,cnd c3,tN0,gE0 h1,bS0,qta,bS0,c4,cond_true,qcr (by omega),qmD _ h1];rfl) (by
  intro g;by_cases h:l.length<=n
  · have c1 : ¬ ((min l.length n : Nat) : Int) < ((l.length : Nat) : Int) := by omega
    rw[qaW,cnd' c1,Nat.min_eq_left h,List.take_of_length_le (Nat.le_refl _),List.take_of_length_le h]
  · have c1 : ((min l.length n : Nat) : Int) < ((l.length : Nat) : Int) := by omega
    have c2:¬ ((min l.length n:Nat):Int)<(n:Int):=by omega
    rw[qaW,cnd c1,cnd' c2,Nat.min_eq_right (by omega)])
 rw[qc6];rw[show((l,(n:Int),([]:List CELL),(0:Int),()),())=(((l,(n:Int),(l.take 0).map qny,((0:Nat):Int),()),()):(List CELL×Int×List CELL×Int×Unit)×Unit) from rfl,key];rfl
theorem qzd {p q:Rat}:rcmp p q<=0 ↔ p<=q:=by
 rw[<- Rat.not_lt,<- qua];omega
def dd:List Int->Nat
 | []=>0
 | x::r=>(x % 10000).toNat+10000*dd r
@[simp] theorem qAq:dd []=0:=rfl
def Dig (a:List Int):Prop:=∀ x∈a,0<=x/\x<10000
theorem Dig.nil:Dig []:=by intro x h;cases h
theorem Dig.cons {x:Int} {a:List Int} (h:0<=x/\x<10000) (ha:Dig a):Dig (x::a):=by
 intro y hy;rcases List.mem_cons.1 hy with rfl | hy
 · exact h
 · exact ha y hy
theorem Dig.append {a b:List Int} (ha:Dig a) (hb:Dig b):Dig (a++b):=by
 intro y hy;rcases List.mem_append.1 hy with hy | hy
 · exact ha y hy
 · exact hb y hy
theorem Dig.take {a:List Int} (ha:Dig a) (n:Nat):Dig (a.take n):=fun x h=>ha x (List.mem_of_mem_take h)
theorem Dig.get {a:List Int} (ha:Dig a) {i:Nat} {x:Int} (h:a[i]?=some x):0<=x/\x<10000:=ha x (List.mem_of_getElem? h)
theorem Dig.zeros (n:Nat):Dig (List.replicate n 0):=by
 intro x h;have:=(List.mem_replicate.1 h).2;omega
theorem Dig.set {a:List Int} (ha:Dig a) {i:Nat} {x:Int} (h:0<=x/\x<10000):Dig (a.set i x):=by
 intro y hy;rcases List.mem_or_eq_of_mem_set hy with hy | rfl
 · exact ha y hy
 · exact h
theorem qfr (a b:List Int):dd (a++b)=dd a+10000 ^ a.length*dd b:=by
 induction a with
 | nil=>simp
 | cons x a ih=>simp only[List.cons_append,dd,ih,List.length_cons,Nat.pow_succ];grind
theorem qyd (n:Nat):dd (List.replicate n 0)=0:=by
 induction n with
 | zero=>rfl
 | succ n ih=>simp [List.replicate_succ,dd,ih]
theorem qpL (a:List Int):dd a<10000 ^ a.length:=by
 induction a with
 | nil=>simp
 | cons x a ih =>
  simp only[dd,List.length_cons,Nat.pow_succ];have:(x % 10000).toNat<10000:=by omega
  have h2:10000*(dd a+1)<=10000*10000 ^ a.length:=Nat.mul_le_mul_left _ ih;rw[Nat.mul_comm (10000 ^ a.length)];omega
theorem quB (x:Int) (h:0<=x/\x<10000):dd [x]=x.toNat:=by
 simp only[dd];omega
theorem qsH {a:List Int} {i:Nat} {x:Int} (h:a[i]?=some x):dd (a.take (i+1))=dd (a.take i)+10000 ^ i*(x % 10000).toNat:=by
 have hi:=(List.getElem?_eq_some_iff.1 h).1;have e:a.take (i+1)=a.take i++[x]:=by rw[List.take_add_one,h];rfl
 rw[e,qfr,List.length_take,Nat.min_eq_left (by omega)];simp [dd]
theorem qpk {a:List Int} {i:Nat} (h:a.length<=i):dd (a.take i)=dd a:=by rw[List.take_of_length_le h]
def digs (n:Nat):List Int:=if h:n=0 then [] else ((n % 10000:Nat):Int)::digs (n/10000)
termination_by n
decreasing_by omega
theorem qde:digs 0=[]:=by rw[digs];rfl
theorem qmM {n:Nat} (h:n≠0):digs n=((n % 10000:Nat):Int)::digs (n/10000):=by
 rw[digs];simp [h]
theorem qcp (n:Nat):dd (digs n)=n:=by
 induction n using Nat.strongRecOn with
 | _ n ih =>
  by_cases h:n=0
  · subst h;rw[qde];rfl
  · rw[qmM h];simp only[dd];rw[ih _ (by omega)];omega
theorem qdp (n:Nat):Dig (digs n):=by
 induction n using Nat.strongRecOn with
 | _ n ih =>
  by_cases h:n=0
  · subst h;rw[qde];exact Dig.nil
  · rw[qmM h];exact Dig.cons (by omega) (ih _ (by omega))
theorem qtG {n:Nat}:digs n=[] ↔ n=0:=by
 constructor
 · intro h;have:=qcp n;rw[h] at this;exact this.symm
 · rintro rfl;exact qde
def DCan (a:List Int):Prop:=Dig a/\∀ x,a.getLast?=some x->x≠0
theorem qtJ:∀ {a:List Int},DCan a->a=digs (dd a)
 | [],_=>by rw[qAq,qde]
 | x::r,h=>by
  have hx:=h.1 x List.mem_cons_self;have hr:DCan r:=⟨fun y hy=>h.1 y (List.mem_cons_of_mem _ hy),fun y hy=>h.2 y (by rw[List.getLast?_cons,hy];rfl)⟩;have ih:=qtJ hr;have hne:dd (x::r)≠0:=by
   simp only[dd];cases r with
   | nil=>have:=h.2 x rfl;simp;omega
   | cons y r' =>
    have:dd (y::r')≠0:=fun e=>by rw[e,qde] at ih;cases ih
    omega
  rw[qmM hne];simp only[dd];have e1:((x % 10000).toNat+10000*dd r)/10000=dd r:=by omega
  have e2:((((x % 10000).toNat+10000*dd r) % 10000:Nat):Int)=x:=by omega
  rw[e1,e2,<- ih]
theorem qcV {n k:Nat} (h:n<10000 ^ k):(digs n).length<=k:=by
 induction k generalizing n with
 | zero => have : n = 0 := by simpa using h
           subst this;rw[qde];simp
 | succ k ih =>
  by_cases h0:n=0
  · subst h0;rw[qde];simp
  · rw [qmM h0, List.length_cons];have:=ih (n:=n/10000) (by rw[Nat.div_lt_iff_lt_mul (by decide)];rw[Nat.pow_succ] at h;exact h)
    omega
theorem qtF {n k:Nat} (h:10000 ^ k<=n):k<(digs n).length:=by
 have:=qpL (digs n);rw[qcp] at this;rcases Nat.lt_or_ge k (digs n).length with h1 | h1
 · exact h1
 · have := Nat.pow_le_pow_right (n := 10000) (by decide) h1;omega
theorem qtH (a:List Int):(digs (dd a)).length<=a.length:=qcV (qpL a)
theorem dnnt {a:List Int} {i:Nat} (h:i<a.length):dd (a.take (i+1))=dd (a.take i)+10000 ^ i*(a[i] % 10000).toNat:=qsH (gE0 h)
theorem Dig.at {a:List Int} (ha:Dig a) {i:Nat} (h:i<a.length):0<=a[i]/\a[i]<10000:=ha _ (gM0 h)
theorem quA {a:List Int} {i:Nat} (h:i<a.length):dd a=dd (a.take i)+10000 ^ i*((a[i] % 10000).toNat+10000*dd (a.drop (i+1))):=by
 have e:a=a.take i++(a[i]::a.drop (i+1)):=by simp
 conv=>lhs;rw[e]
 rw[qfr];simp [dd,Nat.min_eq_left (Nat.le_of_lt h)]
theorem quC {a b:List Int} (ha:Dig a) (hb:Dig b) {i:Nat} (h:i<a.length) (h':i<b.length) (hd:a.drop (i+1)=b.drop (i+1)) (hlt:a[i]<b[i]):dd a<dd b:=by
 rw[quA h,quA h',hd];have h1:=qpL (a.take i);rw[List.length_take,Nat.min_eq_left (Nat.le_of_lt h)] at h1;have ha:=ha.at h;have hb:=hb.at h';have h2:(a[i] % 10000).toNat+1<=(b[i] % 10000).toNat:=by omega
 have h3:10000 ^ i*((a[i] % 10000).toNat+1+10000*dd (b.drop (i+1)))<=10000 ^ i*((b[i] % 10000).toNat+10000*dd (b.drop (i+1))):=Nat.mul_le_mul_left _ (by omega);have h4:10000 ^ i*((a[i] % 10000).toNat+1+10000*dd (b.drop (i+1)))=10000 ^ i+10000 ^ i*((a[i] % 10000).toNat+10000*dd (b.drop (i+1))):=by grind
 omega
theorem qpa {n m:Nat} (h:(digs n).length<(digs m).length):n<m:=by
 have h1:=qpL (digs n);rw[qcp] at h1;rcases Nat.lt_or_ge m (10000 ^ (digs n).length) with h2 | h2
 · have:=qcV h2;omega
 · omega
theorem qqZ {a:List Int} (ha:Dig a) (i:Nat):0<=lget a i/\lget a i<10000:=by
 unfold lget;cases h:a[i]? with
 | none=>simp
 | some x=>exact ha.get h
theorem qic (a:List Int) (i:Nat):dd (a.take (i+1))=dd (a.take i)+10000 ^ i*(lget a i % 10000).toNat:=by
 by_cases h:i<a.length
 · rw[dnnt h];simp [lget,h]
 · rw [List.take_of_length_le (by omega), List.take_of_length_le (by omega)];simp [lget,h]
theorem qrd {b:List Int} {k:Nat} (h:dd b<10000 ^ k):dd (b.take k)=dd b:=by
 by_cases hk:b.length<=k
 · rw[List.take_of_length_le hk]
 have e:dd b=dd (b.take k)+10000 ^ k*dd (b.drop k):=by
   conv=>lhs;rw[<- List.take_append_drop k b]
   rw[qfr,List.length_take,Nat.min_eq_left (by omega)]
 rcases Nat.eq_zero_or_pos (dd (b.drop k)) with h0 | h0
 · rw[h0] at e;omega
 · have : 10000 ^ k * 1 <= 10000 ^ k * dd (b.drop k) := Nat.mul_le_mul_left _ h0;omega
theorem qAp {u:List Int} (hu:Dig u) {j:Nat} (hj:j<u.length) {y:Int} (hy:0<=y/\y<10000):dd (u.set j y)+10000 ^ j*u[j].toNat=dd u+10000 ^ j*y.toNat:=by
 have e1:u=u.take j++(u[j]::u.drop (j+1)):=by simp
 have e2:u.set j y=u.take j++(y::u.drop (j+1)):=List.set_eq_take_append_cons_drop.trans (by simp [hj]);have b:=hu.at hj;rw[e2];have:dd u=dd (u.take j++(u[j]::u.drop (j+1))):=by rw[<- e1]
 rw[this,qfr,qfr];simp only[List.length_take,Nat.min_eq_left (Nat.le_of_lt hj),dd];have k1:(y % 10000).toNat=y.toNat:=by omega
 have k2:(u[j] % 10000).toNat=u[j].toNat:=by omega
 rw[k1,k2]
 grind
theorem qzG (a:List Int) {i:Nat} (h:i<a.length):dd (a.drop i)=(a[i] % 10000).toNat+10000*dd (a.drop (i+1)):=by
 rw[List.drop_eq_getElem_cons h,dd]
theorem qhB {n m:Nat} (h:n<=m):(digs n).length<=(digs m).length:=by
 rcases Nat.lt_or_ge (digs m).length (digs n).length with h1 | h1
 · have:=qpa h1;omega
 · exact h1
theorem qsI (u:List Int) {j:Nat} (hj:j<=u.length):dd u=dd (u.take j)+10000 ^ j*dd (u.drop j):=by
 conv=>lhs;rw[<- List.take_append_drop j u]
 rw[qfr,List.length_take,Nat.min_eq_left hj]
theorem qh9 (x y:Nat):(digs (x*y)).length<=(digs x).length+(digs y).length:=by
 apply qcV;have a1:=qpL (digs x);have a2:=qpL (digs y);rw[qcp] at a1 a2;rw[Nat.pow_add];exact Nat.mul_lt_mul'' a1 a2
theorem qkv {n:Nat}:((digs n).length:Int)>0 ↔ n≠0:=by
 constructor
 · intro h h0;subst h0;rw[qde] at h;simp at h
 · intro h;have:digs n≠[]:=fun e=>h (qtG.1 e)
   have:=List.length_pos_iff.2 this;omega
theorem qsF {n:Nat}:((digs n).length:Int)=0 ↔ n=0:=by
 have:=@qkv n;omega
theorem qof {a:List Int} (ha:Dig a) (hl:a.length<4611686018427387904):qby a=some (digs (dd a)):=by
 obtain⟨r,⟨n,hn,rfl,h1,h2⟩,hr⟩:=qlg (step:=qaN) (fun v=>∃ n:Nat,n<=a.length/\v=((a,(n:Int),()),())/\dd (a.take n)=dd a) (fun v=>v.1.2.1.toNat)
  (fun r=>∃ n:Nat,n<=a.length/\r=((a,(n:Int),()),())/\dd (a.take n)=dd a/\∀ x,(a.take n).getLast?=some x->x≠0) (v:=((a,(a.length:Int),()),()))
  ⟨a.length, Nat.le_refl _, rfl, by simp⟩ (by simp; omega) (by
   rintro v ⟨n,hn,rfl,h1⟩;cases n with
   | zero=>exact .inl ⟨_,⟨0,by omega,rfl,h1,by simp⟩,fun g=>by simp [qaN]⟩
   | succ n =>
    have hl2:n<a.length:=by omega
    have e2:(0:Int)<(n:Int)+1:=by omega
    have e1:=qAm (n:=n) (by omega);by_cases h0:a[n]=0
    · refine .inr ⟨((a, (n : Int), ()), ()), ⟨n, by omega, rfl, ?_⟩, by simp, fun g => ?_⟩
      · rw[<- h1,dnnt hl2,h0];simp
      · simp [qaN,e1,e2,h0,hl2]
    · refine .inl ⟨_, ⟨n + 1, hn, rfl, h1, ?_⟩, fun g => ?_⟩
      · intro y hy;rw[List.take_add_one,gE0 hl2] at hy;simp only[Option.toList_some,List.getLast?_append,List.getLast?_singleton,Option.some_or,Option.some.injEq] at hy;subst hy;exact h0
      · simp [qaN,e1,e2,h0,hl2])
 have e:a.take n=digs (dd a):=by rw[<- h1];exact qtJ ⟨ha.take n,h2⟩
 simp only[qby,hr,bS0];rw[<- e];simp [hn]
theorem qtI {o:List Int} (ho:Dig o) (hl:o.length<=(digs (dd o)).length):o=digs (dd o):=by
 refine qtJ ⟨ho,fun x hx h0=>?_⟩;subst h0;have hne:o≠[]:=by rintro rfl;cases hx
 have hlen:o.length-1+1=o.length:=by have:=List.length_pos_iff.2 hne;omega
 have e1:=qsI o (j:=o.length-1) (by omega);have e2:o.drop (o.length-1)=[0]:=by
  rw[List.getLast?_eq_getElem?] at hx;have hlt:o.length-1<o.length:=by omega
  rw[List.drop_eq_getElem_cons hlt,List.drop_eq_nil_of_le (by omega)];rw[gE0 hlt] at hx;injection hx with hx
  rw[hx]
 rw[e2] at e1;have e3:dd [0]=0:=by simp [dd]
 rw[e3,Nat.mul_zero,Nat.add_zero] at e1;have:=qtH (o.take (o.length-1));rw[<- e1,List.length_take] at this;omega
theorem blt {n:Nat} {k:Nat} (h:n*k<=140737488355328):(Nat.ble (n*k) 140737488355328&&!false)=true:=by
 simp only[Nat.ble_eq,h,Bool.not_false,Bool.and_true]
theorem qhQ {n:Nat} (hn:n<9223372036854775808):qam (n:Int)=some (digs n):=by
 obtain⟨r,rfl,hlp⟩:=qlg (step:=qaT) (fun s=>∃ (m:Nat) (o:List Int),s=(((m:Int),o,()),())/\m<=n/\o.length<=n-m/\o.length<100/\m*10000 ^ o.length<=n/\o++digs m=digs n) (fun s=>s.1.1.toNat)
  (fun r => r = ((digs n, ()), ())) (v := (((n : Int), [], ()), ())) ⟨n, [], rfl, Nat.le_refl _, by simp, by simp, by simp, by simp⟩ (by simp; omega) (by
   rintro s ⟨m,o,rfl,hm,hol,ho2,hpw,ho⟩;by_cases h0:m=0
   · subst h0;refine .inl ⟨_,rfl,fun g=>?_⟩;rw[qde,List.append_nil] at ho;rw[qaT,cnd' (by decide),ho]
   · have e1 : iquo .i64 (m : Int) 10000 = ((m / 10000 : Nat) : Int) := by rw [qpc (by omega) (by omega) (by omega)]; omega
     have e2:irem (m:Int) 10000=((m % 10000:Nat):Int):=by rw[qmJ (by omega)];omega
     have hlen:o.length<5:=by
       rcases Nat.lt_or_ge o.length 5 with h | h
       · exact h
       · exfalso;have h1:=Nat.pow_le_pow_right (n:=10000) (by decide) h;have h2:1*10000 ^ o.length<=m*10000 ^ o.length:=Nat.mul_le_mul_right _ (by omega);omega
     refine .inr ⟨((((m/10000:Nat):Int),o++[((m % 10000:Nat):Int)],()),()),⟨m/10000,_,rfl,by omega,by simp;omega,by simp;omega,?_,?_⟩,by simp;omega,fun g=>?_⟩
     · rw [List.length_append, List.length_singleton, Nat.pow_succ, Nat.mul_comm (10000 ^ o.length), <- Nat.mul_assoc];have:m/10000*10000<=m:=Nat.div_mul_le_self _ _;exact Nat.le_trans (Nat.mul_le_mul_right _ this) hpw
     · rw[<- ho,qmM h0,List.append_assoc];rfl
     · have c0 : (m : Int) > 0 := by omega
       rw[qaT,cnd c0,blt (by omega),cond_true,e1,e2])
 rw[qam,hlp];rfl
theorem qgZ (a:List Int) (i:Nat):qaH a (i:Int)=some (lget a i):=by
 by_cases h:i<a.length<;>simp [qaH,lget,h]
theorem qms {n m:Nat} (hn:(digs n).length<4611686018427387904):qaj (digs n) (digs m)=some (ncmp n m):=by
 unfold qaj;by_cases h1:(digs n).length<(digs m).length
 · have := qpa h1;have c1:¬ (((digs n).length:Nat):Int)=(((digs m).length:Nat):Int):=by omega
   have c2:(((digs n).length:Nat):Int)<(((digs m).length:Nat):Int):=by omega
   rw[decide_eq_false c1,decide_eq_true c2];simp [ncmp,this]
 by_cases h2:(digs m).length<(digs n).length
 · have := qpa h2;have c1:¬ (((digs n).length:Nat):Int)=(((digs m).length:Nat):Int):=by omega
   have c2:¬ (((digs n).length:Nat):Int)<(((digs m).length:Nat):Int):=by omega
   rw[decide_eq_false c1,decide_eq_false c2];simp [ncmp,this,Nat.not_lt.2 (Nat.le_of_lt this)]
 have hl:(digs m).length=(digs n).length:=by omega
 have c1:(((digs n).length:Nat):Int)=(((digs m).length:Nat):Int):=by omega
 rw[decide_eq_true c1];have ha:=qdp n;have hb:=qdp m;have e1:=qcp n;have e2:=qcp m;generalize digs n=a at *;generalize digs m=b at *;obtain⟨r,hr,hlp⟩:=qlg (step:=qaw) (fun v=>∃ j:Nat,j<=a.length/\v=((a,b,(j:Int)-1,()),())/\a.drop j=b.drop j) (fun v=>(v.1.2.2.1+1).toNat)
   (fun r=>(r=.inl ((),())/\a=b)\/(r=.inr ((-1,()),())/\dd a<dd b)\/(r=.inr ((1,()),())/\dd b<dd a)) (v:=((a,b,(a.length:Int)-1,()),()))
   ⟨a.length, Nat.le_refl _, rfl, by rw [List.drop_length, <- hl, List.drop_length]⟩ (by simp; omega) (by
    rintro v ⟨j,hj,rfl,hd⟩;cases j with
    | zero=>exact .inl ⟨_,.inl ⟨rfl,by simpa using hd⟩,fun g=>by simp [qaw]⟩
    | succ j =>
     have hja:j<a.length:=by omega
     have hjb:j<b.length:=by omega
     have e3:((j+1:Nat):Int)-1=(j:Int):=by omega
     rw[e3];by_cases c1:a[j]<b[j]
     · exact .inl ⟨_,.inr (.inl ⟨rfl,quC ha hb hja hjb hd c1⟩),fun g=>by simp [qaw,hja,hjb,c1]⟩
     by_cases c2:b[j]<a[j]
     · exact .inl ⟨_,.inr (.inr ⟨rfl,quC hb ha hjb hja hd.symm c2⟩),fun g=>by simp [qaw,hja,hjb,c1,c2]⟩
     refine .inr ⟨((a,b,(j:Int)-1,()),()),⟨j,by omega,rfl,?_⟩,by simp,fun g=>?_⟩
     · rw[List.drop_eq_getElem_cons hja,List.drop_eq_getElem_cons hjb,hd,show a[j]=b[j] by omega]
     · have : isub .i64 (j : Int) 1 = (j : Int) - 1 := by rw [qcg] <;> omega
       simp [qaw,hja,hjb,c1,c2,this])
 have e3:isub .i64 (a.length:Int) 1=(a.length:Int)-1:=by rw[qcg]<;>omega
 rw[e3,hlp];rcases hr with ⟨rfl,h⟩ | ⟨rfl,h⟩ | ⟨rfl,h⟩
 · subst h;have:n=m:=by omega
   subst this;simp [ncmp]
 · rw [e1, e2] at h;simp [h1,hl,ncmp,h]
 · rw [e1, e2] at h;simp [h1,hl,ncmp,h,Nat.not_lt.2 (Nat.le_of_lt h)]
theorem qxy {x y:Nat} (hx:(digs x).length<1099511627776) (hy:(digs y).length<1099511627776):qcR (digs x) (digs y)=some (digs (x+y)):=by
 have la:=qdp x;have lb:=qdp y;have ea:=qcp x;have eb:=qcp y;have m1:=qhB (Nat.le_add_right x y);have m2:=qhB (Nat.le_add_left y x);generalize digs x=a at *;generalize digs y=b at *;obtain⟨r,rfl,hlp⟩:=qlg (step:=qaC)
  (fun s=>∃ (i:Nat) (c:Nat) (o:List Int),s=((a,b,o,(c:Int),(i:Int),()),())/\o.length=i/\Dig o/\c<=1/\dd o+10000 ^ i*c=dd (a.take i)+dd (b.take i)/\(i<=max a.length b.length\/(c=0/\i=max a.length b.length+1/\i<=(digs (x+y)).length)))
  (fun s=>(max a.length b.length+2-s.1.2.2.2.2.1).toNat) (fun r=>r=((digs (x+y),()),())) (v:=((a,b,[],0,0,()),()))
  ⟨0, 0, [], rfl, rfl, Dig.nil, by omega, by simp, .inl (by omega)⟩ (by simp; omega) (by
   rintro s ⟨i,c,o,rfl,hol,hod,hc,hs,hi⟩;have b1:=qqZ la i;have b2:=qqZ lb i;have q1:iadd .i64 (iadd .i64 (c:Int) (lget a i)) (lget b i)=(c:Int)+lget a i+lget b i:=by
     have:iadd .i64 (c:Int) (lget a i)=(c:Int)+lget a i:=by rw[qeB]<;>omega
     rw[this,qeB]<;>omega
   have q2:irem ((c:Int)+lget a i+lget b i) 10000=((c:Int)+lget a i+lget b i) % 10000:=qmJ (by omega);have q3:iquo .i64 ((c:Int)+lget a i+lget b i) 10000=((((c:Int)+lget a i+lget b i)/10000).toNat:Int):=by rw[qpc (by omega) (by omega) (by omega)];omega
   have hnext:dd (o++[((c:Int)+lget a i+lget b i) % 10000])+10000 ^ (i+1)*(((c:Int)+lget a i+lget b i)/10000).toNat=dd (a.take (i+1))+dd (b.take (i+1)):=by
     rw[qfr,hol,qic,qic,quB _ (by omega),Nat.pow_succ];have k1:(((c:Int)+lget a i+lget b i) % 10000).toNat+10000*(((c:Int)+lget a i+lget b i)/10000).toNat=c+(lget a i % 10000).toNat+(lget b i % 10000).toNat:=by omega
     have k2:10000 ^ i*((((c:Int)+lget a i+lget b i) % 10000).toNat+10000*(((c:Int)+lget a i+lget b i)/10000).toNat)=10000 ^ i*(c+(lget a i % 10000).toNat+(lget b i % 10000).toNat):=by rw[k1]
     grind
   have hod':Dig (o++[((c:Int)+lget a i+lget b i) % 10000]):=Dig.append hod (Dig.cons (by omega) Dig.nil);by_cases him:i<max a.length b.length
   · refine .inr ⟨((a, b, o ++ [((c : Int) + lget a i + lget b i) % 10000], ((((c : Int) + lget a i + lget b i) / 10000).toNat : Int), ((i + 1 : Nat) : Int), ()), ()), ⟨i + 1, _, _, rfl, by simp [hol], hod', by omega, hnext, .inl (by omega)⟩, by simp; omega, fun g => ?_⟩;by_cases h1:i<a.length
     · have c1 : (i : Int) < ((a.length : Nat) : Int) := by omega
       rw[qaC,cnd c1,qgZ,bS0,qgZ,bS0,blt (by omega),cond_true,q1,q2,q3,qcr (by omega)];rfl
     · have c1 : ¬ (i : Int) < ((a.length : Nat) : Int) := by omega
       have c2:(i:Int)<((b.length:Nat):Int):=by omega
       rw[qaC,cnd' c1,cnd c2,qgZ,bS0,qgZ,bS0,blt (by omega),cond_true,q1,q2,q3,qcr (by omega)];rfl
   · have c1 : ¬ (i : Int) < ((a.length : Nat) : Int) := by omega
     have c2:¬ (i:Int)<((b.length:Nat):Int):=by omega
     have t1:dd (a.take i)=x:=by rw[qpk (by omega),ea]
     have t2:dd (b.take i)=y:=by rw[qpk (by omega),eb]
     by_cases hc0:c=0
     · subst hc0;refine .inl ⟨_,rfl,fun g=>?_⟩;have hval:dd o=x+y:=by rw[t1,t2] at hs;simpa using hs
       have:o=digs (x+y):=by
         have:=qtI hod (by rw[hval,hol];rcases hi with h | ⟨_,_,h⟩<;>omega)
         rw[hval] at this;exact this
       rw[qaC,cnd' c1,cnd' c2,cnd' (by decide),this]
     · have hc1 : c = 1 := by omega
       have hieq:i=max a.length b.length:=by rcases hi with h | ⟨h,_⟩<;>omega
       have l1:lget a i=0:=by simp only[lget];rw[List.getElem?_eq_none (by omega)];rfl
       have l2:lget b i=0:=by simp only[lget];rw[List.getElem?_eq_none (by omega)];rfl
       refine .inr ⟨((a,b,o++[((c:Int)+lget a i+lget b i) % 10000],((((c:Int)+lget a i+lget b i)/10000).toNat:Int),((i+1:Nat):Int),()),()),⟨i+1,_,_,rfl,by simp [hol],hod',by omega,hnext,.inr ⟨by omega,by omega,?_⟩⟩,by simp;omega,fun g=>?_⟩
       · have : 10000 ^ i <= x + y := by rw [<- t1, <- t2, <- hs, hc1]; omega
         exact qtF this
       · have c3 : (c : Int) > 0 := by omega
         rw[qaC,cnd' c1,cnd' c2,cnd c3,qgZ,bS0,qgZ,bS0,blt (by omega),cond_true,q1,q2,q3,qcr (by omega)];rfl)
 rw[qcR,hlp];rfl
theorem qv2 {a b:List Int} (ha:Dig a) (hb:Dig b) (hl:a.length<4398046511104) (hle:dd b<=dd a):qdj a b=some (digs (dd a-dd b)):=by
 obtain⟨r,⟨p,rfl,hp,hpl,hpn⟩,hlp⟩:=qiR (step:=qaK) (fun i v=>∃ (p:List Int) (d:Nat),v=((a,b,p,(d:Int),(i:Int),()),())/\p.length=i/\Dig p/\d<=1/\dd p+dd (b.take i)=dd (a.take i)+10000 ^ i*d)
  (fun r=>∃ p,r=((p,()),())/\p.length=a.length/\Dig p/\dd p=dd a-dd b) a.length (v:=((a,b,[],0,0,()),()))
  ⟨[], 0, rfl, rfl, Dig.nil, by omega, by simp⟩ (by omega) (by
   rintro i v hi ⟨p,d,rfl,hp,hpl,hd,hs⟩;have b1:=ha.at hi;have b2:=qqZ hb i;have q1:isub .i64 (isub .i64 a[i] (lget b i)) (d:Int)=a[i]-lget b i-d:=by
     have:isub .i64 a[i] (lget b i)=a[i]-lget b i:=by rw[qcg]<;>omega
     rw[this,qcg]<;>omega
   have c0:(i:Int)<((a.length:Nat):Int):=by omega
   have c1:(0:Int)<=(i:Int):=by omega
   by_cases hneg:a[i]-lget b i-d<0
   · have q2 : iadd .i64 (a[i] - lget b i - d) 10000 = a[i] - lget b i - d + 10000 := by rw [qeB] <;> omega
     refine⟨((a,b,p++[a[i]-lget b i-d+10000],((1:Nat):Int),((i+1:Nat):Int),()),()),⟨_,1,rfl,by simp [hp],Dig.append hpl (Dig.cons (by omega) Dig.nil),by omega,?_⟩,fun g=>?_⟩
     · rw [qfr, hp, qic, dnnt hi, quB _ (by omega), Nat.pow_succ];have k1:(a[i]-lget b i-d+10000).toNat+(lget b i % 10000).toNat+d=(a[i] % 10000).toNat+10000*1:=by omega
       have k2:10000 ^ i*((a[i]-lget b i-d+10000).toNat+(lget b i % 10000).toNat+d)=10000 ^ i*((a[i] % 10000).toNat+10000*1):=by rw[k1]
       grind
     · rw [qaK, cnd c0, cnd c1, tN0, gE0 hi, bS0, qgZ, bS0, q1, cnd hneg, blt (by omega), cond_true, q2, qcr (by omega)];rfl
   · refine ⟨((a, b, p ++ [a[i] - lget b i - d], ((0 : Nat) : Int), ((i + 1 : Nat) : Int), ()), ()), ⟨_, 0, rfl, by simp [hp], Dig.append hpl (Dig.cons (by omega) Dig.nil), by omega, ?_⟩, fun g => ?_⟩
     · rw [qfr, hp, qic, dnnt hi, quB _ (by omega), Nat.pow_succ];have k1:(a[i]-lget b i-d).toNat+(lget b i % 10000).toNat+d=(a[i] % 10000).toNat:=by omega
       have k2:10000 ^ i*((a[i]-lget b i-d).toNat+(lget b i % 10000).toNat+d)=10000 ^ i*((a[i] % 10000).toNat):=by rw[k1]
       grind
     · rw [qaK, cnd c0, cnd c1, tN0, gE0 hi, bS0, qgZ, bS0, q1, cnd' hneg, blt (by omega), cond_true, qcr (by omega)];rfl) (by
   rintro v ⟨p,d,rfl,hp,hpl,hd,hs⟩;refine⟨((p,()),()),⟨p,rfl,hp,hpl,?_⟩,fun g=>by simp [qaK]⟩;rw[qrd (Nat.lt_of_le_of_lt hle (qpL a)),List.take_length] at hs;have k1:=qpL p;rw[hp] at k1;have:d=0:=by
     rcases Nat.eq_zero_or_pos d with h | h
     · exact h
     · have : d = 1 := by omega
       subst this;omega
   subst this;omega)
 rw[qdj,hlp,bS0,qof hpl (by omega),hpn];rfl
theorem qvu {x y c u:Int} (hx:0<=x/\x<10000) (hy:0<=y/\y<10000) (hc:0<=c/\c<10000) (hu:0<=u/\u<10000) :
  0<=x*y/\x*y<100000000/\u+x*y<100000000/\c+u+x*y<100000000:=by
 have h0:0<=x*y:=Int.mul_nonneg hx.1 hy.1;have h1:x*y<=9999*9999:=Int.mul_le_mul (by omega) (by omega) hy.1 (by decide);omega
theorem qrP {b a:List Int} {i:Nat} {u:List Int} {Z:Nat} (hb:Dig b) (ha:Dig a) (hi:i<a.length) (hu:Dig u) (hul:u.length=i+b.length) (hsz:i+b.length<4611686018427387904) :
  ∃ (w:List Int) (c:Nat),lp qaI K0 ((a,b,u++List.replicate Z 0,(i:Int),0,0,()),())=some ((a,b,w++List.replicate Z 0,(i:Int),(c:Int),()),()) /\
   w.length=i+b.length/\Dig w/\c<10000/\dd w+10000 ^ (i+b.length)*c=dd u+10000 ^ i*(a[i].toNat*dd b):=by
 have hx:=ha.at hi;generalize hxx:a[i]=x at *;obtain⟨r,⟨w,c,rfl,h1,h2,h3,h4⟩,hlp⟩:=qiR (step:=qaI)
  (fun k v=>∃ (w:List Int) (c:Nat),v=((a,b,w++List.replicate Z 0,(i:Int),(c:Int),(k:Int),()),())/\w.length=i+b.length/\Dig w/\c<10000/\dd w+10000 ^ (i+k)*c=dd u+10000 ^ i*(x.toNat*dd (b.take k)))
  (fun r=>∃ (w:List Int) (c:Nat),r=((a,b,w++List.replicate Z 0,(i:Int),(c:Int),()),())/\w.length=i+b.length/\Dig w/\c<10000/\dd w+10000 ^ (i+b.length)*c=dd u+10000 ^ i*(x.toNat*dd b))
  b.length (v:=((a,b,u++List.replicate Z 0,(i:Int),0,0,()),())) ⟨u,0,rfl,hul,hu,by omega,by simp⟩ (by omega) (by
   rintro k v hk ⟨w,c,rfl,hw,hwl,hc,hs⟩;have b1:=hb.at hk;have hik:i+k<w.length:=by omega
   have b2:=hwl.at hik;have b3:(0:Int)<=c/\(c:Int)<10000:=by omega
   obtain⟨m0,m1,m2,m3⟩:=qvu hx b1 b3 b2;have q1:imul .i64 x b[k]=x*b[k]:=by rw[qww]<;>omega
   have q2:iadd .i64 (c:Int) w[i+k]=c+w[i+k]:=by rw[qeB]<;>omega
   have q3:iadd .i64 ((c:Int)+w[i+k]) (x*b[k])=(c:Int)+w[i+k]+x*b[k]:=by rw[qeB]<;>omega
   have q4:iadd .i64 (i:Int) (k:Int)=((i+k:Nat):Int):=by rw[qeB]<;>omega
   have q5:irem ((c:Int)+w[i+k]+x*b[k]) 10000=((c:Int)+w[i+k]+x*b[k]) % 10000:=qmJ (by omega);have q6:iquo .i64 ((c:Int)+w[i+k]+x*b[k]) 10000=(((((c:Int)+w[i+k]+x*b[k])/10000).toNat:Nat):Int):=by rw[qpc (by omega) (by omega) (by omega)];omega
   refine⟨((a,b,w.set (i+k) (((c:Int)+w[i+k]+x*b[k]) % 10000)++List.replicate Z 0,(i:Int),(((((c:Int)+w[i+k]+x*b[k])/10000).toNat:Nat):Int),((k+1:Nat):Int),()),()),⟨_,_,rfl,by simpa using hw,hwl.set (by omega),by omega,?_⟩,fun g=>?_⟩
   · have hset := qAp hwl hik (y := ((c : Int) + w[i + k] + x * b[k]) % 10000) (by omega);rw[dnnt hk,show i+(k+1)=i+k+1 from rfl,Nat.pow_succ];have k1:(((c:Int)+w[i+k]+x*b[k]) % 10000).toNat+10000*(((c:Int)+w[i+k]+x*b[k])/10000).toNat=c+(w[i+k].toNat+(x*b[k]).toNat):=by omega
     have k2:10000 ^ (i+k)*((((c:Int)+w[i+k]+x*b[k]) % 10000).toNat+10000*(((c:Int)+w[i+k]+x*b[k])/10000).toNat)=10000 ^ (i+k)*(c+(w[i+k].toNat+(x*b[k]).toNat)):=by rw[k1]
     have k3:(x*b[k]).toNat=x.toNat*(b[k] % 10000).toNat:=by
      rw[Int.toNat_mul hx.1 b1.1];congr 2;omega
     rw[k3] at k2;have k4:10000 ^ (i+k)=10000 ^ i*10000 ^ k:=Nat.pow_add ..
     grind
   · have e5 : (w ++ List.replicate Z (0 : Int))[i + k]? = some w[i + k] := by rw [List.getElem?_append_left hik]; exact gE0 hik
     have c0:(k:Int)<((b.length:Nat):Int):=by omega
     have c2:(0:Int)<=(k:Int):=by omega
     have c3:(0:Int)<=(i:Int):=by omega
     have e6:((i+k:Nat):Int)<(((w++List.replicate Z (0:Int)).length:Nat):Int):=by rw[List.length_append];omega
     have e7:(0:Int)<=((i+k:Nat):Int):=by omega
     rw[qaI,cnd c0,q4,cnd2 e7 e6,tN0,e5,bS0,cnd c3,tN0,gE0 hi,bS0,hxx,cnd c2,tN0,gE0 hk,bS0,cnd2 e7 e6,bS0,q1,q2,q3,q5,q6,List.set_append_left _ _ hik,qcr (by omega)];rfl) (by
   rintro v ⟨w,c,rfl,hw,hwl,hc,hs⟩;rw[List.take_length] at hs;exact⟨((a,b,w++List.replicate Z 0,(i:Int),(c:Int),()),()),⟨w,c,rfl,hw,hwl,hc,hs⟩,fun g=>by simp [qaI]⟩)
 exact⟨w,c,hlp,h1,h2,h3,h4⟩
theorem qmr {x y:List Int} (l1:Dig x) (l2:Dig y) (ha:x.length<4398046511104) (hb:y.length<4398046511104):qbh x y=some (digs (dd x*dd y)):=by
 have hN:iadd .i64 (x.length:Int) (y.length:Int)=((x.length+y.length:Nat):Int):=by rw[qeB]<;>omega
 rw[qbh,hN];obtain⟨r,⟨p,rfl,hp,hpl,hpn⟩,hlp⟩:=qiR (step:=qaS) (fun i v=>∃ p:List Int,v=((x,y,p++List.replicate (x.length-i) 0,(i:Int),()),())/\p.length=i+y.length/\Dig p/\dd p=dd (x.take i)*dd y)
  (fun r=>∃ p,r=((p,()),())/\p.length=x.length+y.length/\Dig p/\dd p=dd x*dd y) x.length (v:=((x,y,List.replicate (x.length+y.length) 0,0,()),()))
  ⟨List.replicate y.length 0, by rw [List.replicate_append_replicate, Nat.sub_zero, Nat.add_comm]; rfl, by simp, Dig.zeros _, by simp [qyd]⟩ (by omega) (by
   rintro i v hi ⟨p,rfl,hp,hpl,hs⟩;obtain⟨w,c,hin,hw,hwl,hc,hwn⟩:=qrP (Z:=x.length-i) l2 l1 hi hpl hp (by omega);have b1:=l1.at hi;refine⟨((x,y,(w++[(c:Int)])++List.replicate (x.length-(i+1)) 0,((i+1:Nat):Int),()),()),⟨_,rfl,by simp [hw];omega,Dig.append hwl (Dig.cons (by omega) Dig.nil),?_⟩,fun g=>?_⟩
   · rw [qfr, hw, quB _ (by omega), dnnt hi, tN0, hwn, hs];have:(x[i] % 10000).toNat=x[i].toNat:=by omega
     rw[this]
     grind
   · have q4 : iadd .i64 (i : Int) (y.length : Int) = ((i + y.length : Nat) : Int) := by rw [qeB] <;> omega
     have c0:(i:Int)<((x.length:Nat):Int):=by omega
     have e6:((i+y.length:Nat):Int)<(((w++List.replicate (x.length-i) (0:Int)).length:Nat):Int):=by rw[List.length_append,List.length_replicate];omega
     have e7:(0:Int)<=((i+y.length:Nat):Int):=by omega
     have e8:i+y.length<(w++List.replicate (x.length-i) (0:Int)).length:=by omega
     have e9:(w++List.replicate (x.length-i) (0:Int)).set (i+y.length) (c:Int)=(w++[(c:Int)])++List.replicate (x.length-(i+1)) 0:=by
      have:=qqv (p:=w) (i:=i+y.length) (n:=x.length+y.length) (z:=0) (c:Int) hw (by omega);rw[show x.length+y.length-(i+y.length)=x.length-i by omega,show x.length+y.length-(i+y.length+1)=x.length-(i+1) by omega] at this;exact this
     rw[qaS,cnd c0,hin,bS0,q4,cnd2 e7 e6,tN0,gE0 e8,bS0,e9,qcr (by omega)];rfl) (by
   rintro v ⟨p,rfl,hp,hpl,hs⟩;rw[List.take_length] at hs;exact⟨((p,()),()),⟨p,rfl,hp,hpl,hs⟩,fun g=>by simp [qaS]⟩)
 have g2:((x.length+y.length:Nat):Int)<=9223372036854775807:=by omega
 have g3:(0:Int)<=((x.length+y.length:Nat):Int):=by omega
 have g4:((8:Nat):Int)*((x.length+y.length:Nat):Int)<=281474976710656:=by omega
 rw[decide_eq_true g2,decide_eq_true g3,decide_eq_true g4,decide_eq_true rfl,tN0,hlp,bS0,qof hpl (by omega),hpn];rfl
theorem qs3 {a q:List Int} {i:Int} {y R:Nat} (hy:(digs y).length<1099511627776) (hR:(digs R).length<1099511627776) (hRy:R<y*10000) :
  lp qav K0 ((a,digs y,q,digs R,i,0,10000,()),())=some ((a,digs y,q,digs R,i,((R/y:Nat):Int),()),()):=by
 have hy0:0<y:=by
  rcases Nat.eq_zero_or_pos y with h | h
  · subst h;omega
  · exact h
 obtain⟨r,rfl,hlp⟩:=qlg (step:=qav) (fun s=>∃ lo hi:Nat,s=((a,digs y,q,digs R,i,(lo:Int),(hi:Int),()),())/\lo<hi/\hi<=10000/\y*lo<=R/\R<y*hi) (fun s=>(s.1.2.2.2.2.2.2.1-s.1.2.2.2.2.2.1).toNat)
  (fun r=>r=((a,digs y,q,digs R,i,((R/y:Nat):Int),()),())) (v:=((a,digs y,q,digs R,i,0,10000,()),())) ⟨0,10000,rfl,by omega,by omega,by simp,hRy⟩ (by simp) (by
    rintro s ⟨lo,hi,rfl,hlt,hh,h1,h2⟩;have e1:isub .i64 (hi:Int) (lo:Int)=(hi:Int)-lo:=by rw[qcg]<;>omega
    by_cases hd:hi-lo<=1
    · have : hi = lo + 1 := by omega
      subst this;have hq:R/y=lo:=by
        rw[Nat.div_eq_iff hy0];rw[Nat.mul_add,Nat.mul_one] at h2;rw[Nat.mul_comm];omega
      refine .inl ⟨_,rfl,fun g=>?_⟩;rw[qav,e1,cnd' (by omega),hq]
    · have e2 : iquo .i64 (iadd .i64 (lo : Int) (hi : Int)) 2 = (((lo + hi) / 2 : Nat) : Int) := by
        have:iadd .i64 (lo:Int) (hi:Int)=((lo+hi:Nat):Int):=by rw[qeB]<;>omega
        rw[this,qpc (by omega) (by omega) (by omega)];omega
      have hmid:(lo+hi)/2<10000:=by omega
      have hs:=qhQ (n:=(lo+hi)/2) (by omega);have hdl:(digs ((lo+hi)/2)).length<=1:=qcV (by omega);have ht:=qmr (qdp y) (qdp ((lo+hi)/2)) (by omega) (by omega);rw[qcp,qcp] at ht;have hml:=qh9 y ((lo+hi)/2);have ho:=qms (n:=y*((lo+hi)/2)) (m:=R) (by omega);have hmlo:lo<(lo+hi)/2:=by omega
      have hmhi:(lo+hi)/2<hi:=by omega
      generalize (lo+hi)/2=mid at *;have step:∀ g,qav g ((a,digs y,q,digs R,i,(lo:Int),(hi:Int),()),())=bif decide (ncmp (y*mid) R<=0) then g ((a,digs y,q,digs R,i,(mid:Int),(hi:Int),()),()) else g ((a,digs y,q,digs R,i,(lo:Int),(mid:Int),()),()):=by
        intro g;rw[qav,e1,cnd (by omega),e2,hs,bS0,ht,bS0,ho,bS0]
      by_cases hc:y*mid<=R
      · have c : ncmp (y * mid) R <= 0 := by unfold ncmp; split <;> (try split) <;> omega
        exact .inr ⟨_,⟨mid,hi,rfl,hmhi,hh,hc,h2⟩,by show((hi:Int)-(mid:Int)).toNat<((hi:Int)-(lo:Int)).toNat;omega,fun g=>by rw[step,cnd c]⟩
      · have c : ¬ ncmp (y * mid) R <= 0 := by unfold ncmp; rw [if_neg (by omega), if_pos (by omega)]; decide
        exact .inr ⟨_,⟨lo,mid,rfl,hmlo,by omega,h1,by omega⟩,by show((mid:Int)-(lo:Int)).toNat<((hi:Int)-(lo:Int)).toNat;omega,fun g=>by rw[step,cnd' c]⟩)
 exact hlp
theorem qxB {R y k:Nat} (h:R<y*10000) (hy:y<10000 ^ k):R<10000 ^ (k+1):=by
 rw[Nat.pow_succ];exact Nat.lt_of_lt_of_le h (Nat.mul_le_mul_right _ (Nat.le_of_lt hy))
theorem qxz {a:List Int} {y:Nat} (ha:Dig a) (hl:a.length<1099511627776) (hy:(digs y).length<1099511627775) (hy0:0<y):qdK a (digs y)=some (digs (dd a/y),digs (dd a % y)):=by
 obtain⟨r,⟨s,c,rfl,hs,hsl,hc,hsn⟩,hlp⟩:=qlg (step:=qaY)
  (fun v=>∃ (j:Nat) (s:List Int) (c:Nat),j<=a.length/\v=((a,digs y,List.replicate j 0++s,digs c,(j:Int)-1,()),())/\j+s.length=a.length/\Dig s/\c<y/\dd (a.drop j)=y*dd s+c)
  (fun v=>(v.1.2.2.2.2.1+1).toNat)
  (fun r=>∃ (s:List Int) (c:Nat),r=((s,digs c,()),())/\s.length=a.length/\Dig s/\c<y/\dd a=y*dd s+c) (v:=((a,digs y,List.replicate a.length 0,[],(a.length:Int)-1,()),()))
  ⟨a.length, [], 0, Nat.le_refl _, by simp [qde], by simp, Dig.nil, hy0, by simp⟩ (by simp; omega) (by
   rintro v ⟨j,s,c,hj,rfl,hjl,hsl,hc,hn⟩;cases j with
   | zero =>
    refine .inl ⟨((s,digs c,()),()),⟨s,c,rfl,by omega,hsl,hc,by simpa using hn⟩,fun g=>by simp [qaY]⟩
   | succ j =>
    have hja:j<a.length:=by omega
    have b:=ha.at hja;have e3:((j+1:Nat):Int)-1=(j:Int):=by omega
    rw[e3];obtain⟨x,hx⟩:=Int.eq_ofNat_of_zero_le b.1;have hx':x<10000:=by omega
    have hcl:=qhB (Nat.le_of_lt hc);have htr:=qof (a:=[a[j]]++digs c) (Dig.append (Dig.cons b Dig.nil) (qdp c)) (by simp;omega);have hval:dd ([a[j]]++digs c)=x+10000*c:=by
      show dd (a[j]::digs c)=_;rw[dd,qcp];omega
    rw[hval] at htr;have hR:x+10000*c<y*10000:=by omega
    have hRl:(digs (x+10000*c)).length<1099511627776:=by
      have h5:x+10000*c<10000 ^ ((digs y).length+1):=by
       have h6:=qpL (digs y);rw[qcp] at h6;exact qxB hR h6
      have:=qcV h5;omega
    have hin:=qs3 (a:=a) (q:=List.replicate (j+1) 0++s) (i:=(j:Int)) (by omega) hRl hR;have k1:=Nat.div_add_mod (x+10000*c) y;have k5:=Nat.mod_lt (x+10000*c) hy0;have hq:(x+10000*c)/y<10000:=by rw[Nat.div_lt_iff_lt_mul hy0];omega
    have hs1:=qhQ (n:=(x+10000*c)/y) (by omega);have hdl:(digs ((x+10000*c)/y)).length<=1:=qcV (by omega);have ht:=qmr (qdp y) (qdp ((x+10000*c)/y)) (by omega) (by omega);rw[qcp,qcp] at ht;have hm:=qv2 (qdp (x+10000*c)) (qdp (y*((x+10000*c)/y))) (by omega) (by rw[qcp,qcp];omega);rw[qcp,qcp] at hm;have hrest:x+10000*c-y*((x+10000*c)/y)=(x+10000*c) % y:=by omega
    rw[hrest] at hm;generalize (x+10000*c)/y=qd at *;generalize (x+10000*c) % y=rr at *;refine .inr ⟨((a,digs y,List.replicate j 0++(qd:Int)::s,digs rr,(j:Int)-1,()),()),⟨j,_,_,by omega,rfl,by simp;omega,Dig.cons (by omega) hsl,k5,?_⟩,by simp,fun g=>?_⟩
    · rw [qzG a hja, hn, dd];have k2:((qd:Int) % 10000).toNat=qd:=by omega
      have k3:(a[j] % 10000).toNat=x:=by omega
      rw[k2,k3]
      grind
    · have q5 : isub .i64 (j : Int) 1 = (j : Int) - 1 := by rw [qcg] <;> omega
      have e5:(List.replicate (j+1) (0:Int)++s).set j (qd:Int)=List.replicate j 0++(qd:Int)::s:=by
       rw[List.replicate_succ',List.append_assoc,List.set_append_right _ _ (by simp)];simp
      have e6:j<(List.replicate (j+1) (0:Int)++s).length:=by simp;omega
      have e7:((j:Nat):Int)<((List.replicate (j+1) (0:Int)++s).length:Int):=by omega
      have e8:(0:Int)<=((j:Nat):Int):=by omega
      have c0:(j:Int)>=0:=by omega
      have c1:(Nat.ble ((([a[j]]:List Int).length+(digs c).length)*8) 140737488355328&&!false)=true:=blt (by simp;omega);rw[qaY,cnd c0,cnd e8,tN0,gE0 hja,bS0,c1,cond_true,htr,bS0,hin,bS0,cnd2 e8 e7,tN0,gE0 e6,bS0,hs1,bS0,ht,bS0,hm,bS0,e5,q5])
 have g1:((8:Nat):Int)*(a.length:Int)<=281474976710656:=by omega
 have g2:(a.length:Int)<=9223372036854775807:=by omega
 have g4:(0:Int)<=(a.length:Int):=by omega
 have g3:isub .i64 (a.length:Int) 1=(a.length:Int)-1:=by rw[qcg]<;>omega
 have k1:dd a/y=dd s:=by rw[hsn,Nat.mul_add_div hy0,Nat.div_eq_of_lt hc];simp
 have k2:dd a % y=c:=by rw[hsn,Nat.mul_add_mod,Nat.mod_eq_of_lt hc]
 rw[k1,k2];rw[qdK,decide_eq_true rfl,decide_eq_true g4,decide_eq_true g1,decide_eq_true g2,tN0,g3,hlp];simp only[Bool.and_self,cond_true,bS0,qof hsl (show s.length<4611686018427387904 by omega)]
theorem qzv {x y:Nat} (hy:y≠0) (h:2*x<=y):lenN x<lenN y:=by
 unfold lenN;by_cases hx:x=0
 · rw[if_pos hx,if_neg hy];omega
 · rw [if_neg hx, if_neg hy];have:=qo5 hx h;omega
theorem qzw {n k:Nat} (h:n<2 ^ k):lenN n<=k:=by
 unfold lenN;by_cases hx:n=0
 · rw[if_pos hx];omega
 · rw[if_neg hx];have:=(Nat.log2_lt hx).2 h;omega
theorem qsl (n:Nat):lenN n<=14*(digs n).length:=by
 apply qzw;have h1:=qpL (digs n);rw[qcp] at h1;have h2:10000 ^ (digs n).length<=(2 ^ 14) ^ (digs n).length:=Nat.pow_le_pow_left (by decide) _;rw[<- Nat.pow_mul] at h2;omega
theorem qze {x y:Nat} (hx:(digs x).length<1099511627775) (hy:(digs y).length<1099511627775):qcy (digs x) (digs y)=some (digs (Nat.gcd x y)):=by
 obtain⟨r,rfl,hlp⟩:=qlg (step:=qa8) (fun s=>∃ p q:Nat,s=((digs p,digs q,()),())/\(digs p).length<1099511627775/\(digs q).length<1099511627775/\Nat.gcd p q=Nat.gcd x y)
  (fun s=>2*(lenN (dd s.1.1)+lenN (dd s.1.2.1))+if dd s.1.1<dd s.1.2.1 then 1 else 0) (fun r=>r=((digs (Nat.gcd x y),()),())) (v:=((digs x,digs y,()),()))
  ⟨x, y, rfl, hx, hy, rfl⟩ (by
   have h1:=qsl x;have h2:=qsl y;simp only[qcp];split<;>omega) (by
   rintro s ⟨p,q,rfl,hp,hq,hg⟩;by_cases h0:q=0
   · subst h0;refine .inl ⟨_,rfl,fun g=>?_⟩;rw[Nat.gcd_zero_right] at hg;rw[qde,qa8,cnd' (by decide),<- hg]
   · have c0 : ((digs q).length : Int) > 0 := qkv.2 h0;have ho:=qxz (qdp p) (by omega) hq (Nat.pos_of_ne_zero h0);rw[qcp] at ho;have hml:=Nat.mod_lt p (Nat.pos_of_ne_zero h0);refine .inr ⟨((digs q,digs (p % q),()),()),⟨q,p % q,rfl,hq,Nat.lt_of_le_of_lt (qhB (Nat.le_of_lt hml)) hq,?_⟩,?_,fun g=>?_⟩
     · rw[<- hg,Nat.gcd_comm q,<- Nat.gcd_rec,Nat.gcd_comm]
     · simp only [qcp];rw[if_neg (by omega)];by_cases hpq:p<q
       · rw[if_pos hpq,Nat.mod_eq_of_lt hpq];omega
       · rw [if_neg hpq];have:2*(p % q)<=p:=by
          have h1:=Nat.div_add_mod p q;have h2:1<=p/q:=Nat.div_pos (by omega) (by omega);have h3:q*1<=q*(p/q):=Nat.mul_le_mul_left _ h2;omega
         have:=qzv (by omega) this;omega
     · rw[qa8,cnd c0,ho,bS0])
 rw[qcy,hlp];rfl
theorem qgh {n k:Nat} (h:n<4294967296 ^ k):(digs n).length<=3*k:=by
 apply qcV;have:4294967296 ^ k<=(10000 ^ 3) ^ k:=Nat.pow_le_pow_left (by decide) _;rw[<- Nat.pow_mul] at this;omega
theorem qog {a:List Int} (hl:a.length<274877906944):qaE a=some (digs (nn a)):=by
 have hu:=qhQ (n:=4294967296) (by decide);obtain⟨r,rfl,hlp⟩:=qlg (step:=qaZ) (fun s=>∃ j:Nat,j<=a.length/\s=((a,digs (nn (a.drop j)),digs 4294967296,(j:Int)-1,()),())) (fun s=>(s.1.2.2.2.1+1).toNat)
  (fun r => r = ((digs (nn a), ()), ())) (v := ((a, [], digs 4294967296, (a.length : Int) - 1, ()), ())) ⟨a.length, Nat.le_refl _, by rw [List.drop_length, qyG, qde]⟩ (by simp; omega) (by
   rintro s ⟨j,hj,rfl⟩;cases j with
   | zero=>exact .inl ⟨_,rfl,fun g=>by simp [qaZ]⟩
   | succ j =>
    have hja:j<a.length:=by omega
    have e3:((j+1:Nat):Int)-1=(j:Int):=by omega
    rw[e3];have hnl:=qfl (a.drop (j+1));rw[List.length_drop] at hnl;have hd:=qgh hnl;have hu2:(digs 4294967296).length<=3:=qcV (by decide);have ht:=qmr (qdp (nn (a.drop (j+1)))) (qdp 4294967296) (by omega) (by omega);rw[qcp,qcp] at ht;have hml:=qh9 (nn (a.drop (j+1))) 4294967296;have hw:IntKind.wrap .i64 (iand .u64 a[j] 4294967295)=(((a[j] % 4294967296).toNat:Nat):Int):=by
     rw[qge,qrg (by omega) (by omega)];omega
    have hs:=qhQ (n:=(a[j] % 4294967296).toNat) (by omega);have hsl:(digs (a[j] % 4294967296).toNat).length<=3:=qcV (by omega);have hp:=qxy (x:=nn (a.drop (j+1))*4294967296) (y:=(a[j] % 4294967296).toNat) (by omega) (by omega);have hval:nn (a.drop (j+1))*4294967296+(a[j] % 4294967296).toNat=nn (a.drop j):=by rw[qtd a hja];omega
    rw[hval] at hp;refine .inr ⟨((a,digs (nn (a.drop j)),digs 4294967296,(j:Int)-1,()),()),⟨j,by omega,rfl⟩,by simp,fun g=>?_⟩;have q5:isub .i64 (j:Int) 1=(j:Int)-1:=by rw[qcg]<;>omega
    have c0:(j:Int)>=0:=by omega
    have c1:(0:Int)<=(j:Int):=by omega
    rw[qaZ,cnd c0,ht,bS0,cnd c1,tN0,gE0 hja,bS0,hw,hs,bS0,hp,bS0,q5])
 have g3:isub .i64 (a.length:Int) 1=(a.length:Int)-1:=by rw[qcg]<;>omega
 rw[show((4294967296:Nat):Int)=4294967296 from rfl] at hu;rw[qaE,hu,bS0,g3,hlp];rfl
theorem qrQ {n:Nat} (hl:(qaa n).length<4398046511104):qcu (qaa n)=some true:=by
 have la:=qaR n;have hc:=(qo6 n).2;generalize qaa n=a at *;have key:=qji (step:=qaJ) (fun i=>((a,(i:Int),()),())) a.length (r:=.inl ((a,()),())) (by omega) (by
   intro g i hi;have b:=la.at hi;have c0:(i:Int)<((a.length:Nat):Int):=by omega
   have c1:(0:Int)<=(i:Int):=by omega
   rw[qaJ,cnd c0,cnd c1,tN0,gE0 hi,bS0,cnd' (by omega),qcr (by omega)];rfl) (by
   intro g;rw[qaJ,cnd' (by omega)])
 have key':lp qaJ K0 ((a,0,()),())=some (.inl ((a,()),())):=key;rw[qcu,key',bS0];by_cases h0:a=[]
 · subst h0;rfl
 · have hlen := List.length_pos_iff.2 h0;have e:isub .i64 (a.length:Int) 1=((a.length-1:Nat):Int):=by rw[qcg]<;>omega
   have hlt:a.length-1<a.length:=by omega
   have hne:a[a.length-1]≠0:=hc _ (by rw[List.getLast?_eq_getElem?];exact gE0 hlt);have c0:¬ ((a.length:Nat):Int)=0:=by omega
   have c1:(0:Int)<=((a.length-1:Nat):Int):=by omega
   simp only[];rw[cnd' c0,e,cnd c1,tN0,gE0 hlt,bS0,decide_eq_false hne];rfl
def qjH (z:Int):WH:=(decide (z<0),digs z.natAbs)
theorem qmt (b:Bool) (n:Nat):qbx b (digs n)=some (qjH (if b then -(n:Int) else n)):=by
 cases b with
 | false =>
  show some (false,digs n)=some (qjH (n:Int));unfold qjH;rw[decide_eq_false (by omega),Int.natAbs_natCast]
 | true =>
  show some (decide (((digs n).length:Int)>0),digs n)=some (qjH (-(n:Int)));unfold qjH;rw[Int.natAbs_neg,Int.natAbs_natCast];congr 2;rw[decide_eq_decide,qkv];omega
theorem qpT {x y:Int} (hx:(digs x.natAbs).length<1099511627776) (hy:(digs y.natAbs).length<1099511627776):qct (qjH x) (qjH y)=some (qjH (x*y)):=by
 have hm:=qmr (qdp x.natAbs) (qdp y.natAbs) (by omega) (by omega);rw[qcp,qcp] at hm;rw[qct];simp only[qjH,hm,bS0,qmt];have key:(if (!decide (x<0) == decide (y<0))=true then -(((x.natAbs*y.natAbs:Nat)):Int) else ((x.natAbs*y.natAbs:Nat):Int))=x*y:=by
  rw[Int.natCast_mul];by_cases h1:x<0<;>by_cases h2:y<0
  · rw[show((x.natAbs:Nat):Int)=-x by omega,show((y.natAbs:Nat):Int)=-y by omega];simp [h1,h2,Int.neg_mul_neg]
  · rw[show((x.natAbs:Nat):Int)=-x by omega,show((y.natAbs:Nat):Int)=y by omega];simp [h1,h2,Int.neg_mul]
  · rw[show((x.natAbs:Nat):Int)=x by omega,show((y.natAbs:Nat):Int)=-y by omega];simp [h1,h2,Int.mul_neg]
  · rw[show((x.natAbs:Nat):Int)=x by omega,show((y.natAbs:Nat):Int)=y by omega];simp [h1,h2]
 exact congrArg (fun z=>some (qjH z)) key
theorem quY {x y:Int} (hx:(digs x.natAbs).length<4398046511104) (hy:(digs y.natAbs).length<4398046511104):qdh (qjH x) (qjH y)=some (icmp x y):=by
 have e1:=qms (n:=x.natAbs) (m:=y.natAbs) (by omega);have e2:=qms (n:=y.natAbs) (m:=x.natAbs) (by omega);rw[qdh];simp only[qjH,e1,e2];by_cases h1:x<0<;>by_cases h2:y<0<;>simp [h1,h2,icmp,ncmp]<;>(repeat' split)<;>omega
theorem qrR {a:WH} (h:a.2.length<274877906944):qdJ a=some (qjH (wv a)):=by
 rw[qdJ,qog h,bS0,qmt];rfl
theorem qv3 {a:RAT} {n:Nat} (h:SzR a n) (hn:n<91625968980):∃ (z:Int) (d:Nat),qbw a=some (qjH z,digs d)/\0<d/\rv a=mkRat z d/\(digs z.natAbs).length<=3*n+1/\(digs d).length<=3*n+1:=by
 have h1:=h.1;have h2:=h.2;rw[qbw,qog (by omega),bS0];by_cases h0:nn a.2=0
 · refine ⟨0, 1, ?_, by omega, ?_, by simp [qde], qcV (by rw [Nat.pow_add]; have : 0 < 10000 ^ (3 * n) := Nat.pow_pos (by decide); omega)⟩
   · have s1 := qhQ (n := 1) (by decide);have s0:=qhQ (n:=0) (by decide);rw[show((1:Nat):Int)=1 from rfl] at s1;rw[show((0:Nat):Int)=0 from rfl] at s0;rw[h0,qde,cnd (by rfl),qee,qef,cnd' (by decide),s0,bS0,qmt,bS0,bS0,s1];rfl
   · rw[rv,h0];simp
 · have hne : ¬ ((digs (nn a.2)).length : Int) = 0 := by rw [qsF]; exact h0
   refine⟨wv a.1,nn a.2,?_,Nat.pos_of_ne_zero h0,rfl,?_,?_⟩
   · rw[cnd' hne,qrR (by omega)];rfl
   · rw [qfV];have:=qgh (qfl a.1.2);omega
   · have := qgh (qfl a.2);omega
theorem qAu {q:Rat} {b:RAT} {n m:Nat} (hq:SzQ q n) (hn:n<91625968980) (hb:SzR b m) (hm:m<91625968980):qcW (canQ q) b=some (decide (q=rv b)):=by
 obtain⟨z,d,hf,hd0,hv,hz,hd⟩:=qv3 hb hm;have hr:=hq.szR;have r1:(qaa q.num.natAbs).length<=n:=hr.1;have r2:(qaa q.den).length<=n:=hr.2;have hnum:=qgh hq.1;have hden:=qgh hq.2;have f1:=qog (a:=qaa q.num.natAbs) (by omega);have f2:=qog (a:=qaa q.den) (by omega);rw[q9q] at f1 f2;have hg:=qze (x:=q.num.natAbs) (y:=q.den) (by omega) (by omega);rw[show Nat.gcd q.num.natAbs q.den=1 from q.reduced] at hg;have s1:=qhQ (n:=1) (by decide);rw[show((1:Nat):Int)=1 from rfl] at s1;have hl1:(digs 1).length<=1:=qcV (by decide);have ho:=qms (n:=1) (m:=1) (by omega);have hcm:ncmp 1 1=0:=rfl;have hdne:¬ (((qaa q.den).length:Nat):Int)=0:=by rw[qhK];exact q.den_nz
 have hright:qdf (canQ q)=some true:=by
  have hfin:((qaE (qaa q.num.natAbs)).bind fun r3=>(qaE (qaa q.den)).bind fun r4=>(qcy r3 r4).bind fun r5=>(qam 1).bind fun r6=>(qaj r5 r6).bind fun r7=>some (decide (r7=0)))=some true:=by
    rw[f1,bS0,f2,bS0,hg,bS0,s1,bS0,ho,bS0,hcm];rfl
  rw[show canQ q=((decide (q.num<0),qaa q.num.natAbs),qaa q.den) from rfl,qdf,qrQ (show(qaa q.num.natAbs).length<4398046511104 by omega),bS0,Bool.not_true,cond_false,qrQ (show(qaa q.den).length<4398046511104 by omega),bS0,Bool.not_true,cond_false,cnd' hdne];by_cases hz0:q.num.natAbs=0
  · have hnn : ¬ q.num < 0 := by omega
    have hl0:(((qaa q.num.natAbs).length:Nat):Int)=0:=qhK.2 hz0;rw[cnd hl0,cnd' hnn];exact hfin
  · have hl0 : ¬ (((qaa q.num.natAbs).length : Nat) : Int) = 0 := by rw [qhK]; exact hz0
    rw[cnd' hl0];exact hfin
 have hfrom:qbw (canQ q)=some (qjH q.num,digs q.den):=by
  have hdne2:¬ (((digs q.den).length:Nat):Int)=0:=by rw[qsF];exact q.den_nz
  have f3:=qrR (a:=qaD q.num) (by show(qaa _).length<_;omega);rw[qcU] at f3;rw[qbw];simp only[canQ,f2,bS0,f3];exact cnd' hdne2
 have m1:=qpT (x:=q.num) (y:=(d:Int)) (by omega) (by rw[Int.natAbs_natCast];omega);have m2:=qpT (x:=z) (y:=(q.den:Int)) (by omega) (by rw[Int.natAbs_natCast];omega);have l1:=qh9 q.num.natAbs d;have l2:=qh9 z.natAbs q.den;have oo:=quY (x:=q.num*(d:Int)) (y:=z*(q.den:Int)) (by rw[Int.natAbs_mul,Int.natAbs_natCast];omega) (by rw[Int.natAbs_mul,Int.natAbs_natCast];omega);have k1:=qmt false d;have k2:=qmt false q.den;have horder:qdg (qjH q.num,digs q.den) (qjH z,digs d)=some (icmp (q.num*(d:Int)) (z*(q.den:Int))):=by
  rw[qdg];simp only[qd1,k1,k2,bS0,Bool.false_eq_true,if_false,m1,m2,oo]
 have hiff:icmp (q.num*(d:Int)) (z*(q.den:Int))=0 ↔ q=rv b:=by
  rw[hv];have h1:icmp (q.num*(d:Int)) (z*(q.den:Int))=0 ↔ q.num*(d:Int)=z*(q.den:Int):=by
    unfold icmp;(repeat' split)<;>omega
  rw[h1]
  conv=>rhs;rw[<- Rat.mkRat_self q]
  rw[Rat.mkRat_eq_iff q.den_nz (by omega)]
 rw[qcW,hf,bS0,qgi,hright,bS0,cond_true,hfrom,bS0,horder,bS0,bS0];congr 1;rw[decide_eq_decide];exact hiff
def rsum (f:Nat->Rat):Nat->Rat
 | 0=>0
 | n+1=>rsum f n+f n
theorem qpR {f g:Nat->Rat} {n:Nat} (h:∀ i,i<n->f i=g i):rsum f n=rsum g n:=by
 induction n with
 | zero=>rfl
 | succ n ih=>simp only[rsum];rw[ih (fun i hi=>h i (by omega)),h n (by omega)]
theorem qt7 (f:Nat->Rat) (c:Rat) (n:Nat):rsum (fun i=>f i*c) n=rsum f n*c:=by
 induction n with
 | zero=>simp [rsum]
 | succ n ih=>simp only[rsum,ih];rw[Rat.add_mul]
end Go.Proofs.YtmabkjhobhbfdaaGreatDoor.X
