/- Own work: part of the proof; the first line of each part says what it tells. -/
import Derived.Test.YtfoedjifcmfogaaDoorLa7
import Derived.Test.YtfoedjifcmfogaaDoorLa6


namespace Go.Proofs.YtfoedjifcmfogaaDoor.X
open Go
set_option linter.unusedVariables false
set_option linter.unusedSimpArgs false
theorem qvJ {n:Nat} (h:n<4611686018427387904):isub .i64 ((n:Int)+1) 1=(n:Int):=by rw[qeW]<;>omega
theorem qcp {n:Nat} (h:n<4611686018427387904):iadd .i64 (n:Int) 1=(n:Int)+1:=by rw[qfO]<;>omega
theorem nnt {a:List Int} {i:Nat} (h:i<a.length):nn (a.take (i+1))=nn (a.take i)+4294967296 ^ i*(a[i] % 4294967296).toNat:=qcr (gE0 h)
theorem Lim.at {a:List Int} (ha:Lim a) {i:Nat} (h:i<a.length):0<=a[i]/\a[i]<4294967296:=ha _ (gM0 h)
theorem qfV {a:List Int} (ha:Lim a) (hl:a.length<4611686018427387904):qcQ a=some (qaa (nn a)):=by
 obtain⟨r,⟨n,hn,rfl,h1,h2⟩,hr⟩:=qm9 (step:=qcz) (fun v=>∃ n:Nat,n<=a.length/\v=((a,(n:Int),()),())/\nn (a.take n)=nn a) (fun v=>v.1.2.1.toNat)
   (fun r=>∃ n:Nat,n<=a.length/\r=((a,(n:Int),()),())/\nn (a.take n)=nn a/\∀ x,(a.take n).getLast?=some x->x≠0) (v:=((a,(a.length:Int),()),()))
   ⟨a.length, Nat.le_refl _, rfl, by simp⟩ (by simp; omega) (by
    rintro v ⟨n,hn,rfl,h1⟩;cases n with
    | zero=>exact .inl ⟨_,⟨0,by omega,rfl,h1,by simp⟩,fun g=>by simp [qcz]⟩
    | succ n =>
     have hl2:n<a.length:=by omega
     have e2:(0:Int)<(n:Int)+1:=by omega
     have e1:=qvJ (n:=n) (by omega);by_cases h0:a[n]=0
     · refine .inr ⟨((a, (n : Int), ()), ()), ⟨n, by omega, rfl, ?_⟩, by simp, fun g => ?_⟩
       · rw[<- h1,nnt hl2,h0];simp
       · simp [qcz,e1,e2,h0,hl2]
     · refine .inl ⟨_, ⟨n + 1, hn, rfl, h1, ?_⟩, fun g => ?_⟩
       · intro y hy;rw[List.take_add_one,gE0 hl2] at hy;simp only[Option.toList_some,List.getLast?_append,List.getLast?_singleton,Option.some_or,Option.some.injEq] at hy;subst hy;exact h0
       · simp [qcz,e1,e2,h0,hl2])
 have e:a.take n=qaa (nn a):=by rw[<- h1];exact qqk ⟨ha.take n,h2⟩
 simp only[qcQ,hr,bS0];rw[<- e];by_cases h0:n=0
 · subst h0;simp
 · simp [h0,hn]
theorem qtL {n:Nat} (h:n<18446744073709551616):qhI n=some (qaa n):=by
 have e:nn [((n:Int) % 4294967296),(n:Int)/4294967296]=n:=by simp only[nn];omega
 have hl:Lim [((n:Int) % 4294967296),(n:Int)/4294967296]:=Lim.cons (by omega) (Lim.cons (by omega) Lim.nil);simp only[qhI,qeI,qnC];rw[qfV hl (by simp)];simp [e]
def cut (a:List Int):List Int:=a.map (· % 4294967296)
theorem qvq (a:List Int):nn (cut a)=nn a:=by
 induction a with
 | nil=>rfl
 | cons x a ih=>simp only[cut,List.map_cons,nn];rw[show nn (a.map (· % 4294967296))=nn (cut a) from rfl,ih];omega
theorem qu1 (a:List Int):Lim (cut a):=by
 intro x hx;obtain⟨y,_,rfl⟩:=List.mem_map.1 hx;omega
@[simp] theorem qsk (a:List Int):(cut a).length=a.length:=by simp [cut]
def fill {α:Type} (X:List α) (z:α) (i:Nat):List α:=X.take i++List.replicate (X.length-i) z
theorem qox {α:Type} (X:List α) (z:α):fill X z 0=List.replicate X.length z:=by simp [fill]
theorem qqh {α:Type} (X:List α) (z:α):fill X z X.length=X:=by simp [fill]
@[simp] theorem qqg {α:Type} (X:List α) (z:α) (i:Nat) (h:i<=X.length):(fill X z i).length=X.length:=by simp [fill];omega
theorem qqf {α:Type} {X:List α} {z:α} {i:Nat} (h:i<X.length):(fill X z i).set i X[i]=fill X z (i+1):=by
 have e:X.length-i=(X.length-(i+1))+1:=by omega
 have e2:(X.take i).length=i:=by simp;omega
 unfold fill;rw[e,List.replicate_succ,List.set_append_right _ _ (by omega),e2,Nat.sub_self,List.set_cons_zero,List.take_succ_eq_append_getElem h,List.append_assoc];rfl
theorem qcD {a:List Int} (hl:a.length<35184372088832):qbn a=some (qaa (nn a)):=by
 have key:lp qbZ K0 ((List.replicate a.length (0:Int),a,(a.length:Int),0,()),())=some ((cut a,()),()):=by
  have:=qpn (step:=qbZ) (fun i=>((fill (cut a) 0 i,a,(a.length:Int),(i:Int),()),())) a.length (r:=((cut a,()),())) (by omega) (by
   intro g i hi;have e3:=qqf (z:=0) (show i<(cut a).length by simpa using hi);have e4:(fill (cut a) 0 i).length=a.length:=by rw[qqg _ _ _ (by simp;omega),qsk]
   simp [qbZ,hi,qcp (n:=i) (by omega),qeI,e4,<- e3];simp [cut]) (by
   intro g;have:=qqh (cut a) (0:Int);rw[qsk] at this;simp [qbZ,this])
  simpa [qox] using this
 have h1:(8:Int)*(a.length:Int)<=281474976710656:=by omega
 have h2:(a.length:Int)<=9223372036854775807:=by omega
 simp [qbn,h1,h2,key,qfV (qu1 a) (by simp;omega),qvq]
theorem qmY {a:List Int} {i:Nat} (h:i<a.length):nn a=nn (a.take i)+4294967296 ^ i*((a[i] % 4294967296).toNat+4294967296*nn (a.drop (i+1))):=by
 have e:a=a.take i++(a[i]::a.drop (i+1)):=by simp
 conv=>lhs;rw[e]
 rw[qbl];simp [nn,Nat.min_eq_left (Nat.le_of_lt h)]
def ncmp (n m:Nat):Int:=if n<m then -1 else if m<n then 1 else 0
theorem qp0 {a b:List Int} (ha:Lim a) (hb:Lim b) {i:Nat} (h:i<a.length) (h':i<b.length) (hd:a.drop (i+1)=b.drop (i+1)) (hlt:a[i]<b[i]):nn a<nn b:=by
 rw[qmY h,qmY h',hd];have h1:=qec (a.take i);rw[List.length_take,Nat.min_eq_left (Nat.le_of_lt h)] at h1;have ha:=ha.at h;have hb:=hb.at h';have h2:(a[i] % 4294967296).toNat+1<=(b[i] % 4294967296).toNat:=by omega
 have h3:4294967296 ^ i*((a[i] % 4294967296).toNat+1+4294967296*nn (b.drop (i+1)))<=4294967296 ^ i*((b[i] % 4294967296).toNat+4294967296*nn (b.drop (i+1))):=Nat.mul_le_mul_left _ (by omega);have h4:4294967296 ^ i*((a[i] % 4294967296).toNat+1+4294967296*nn (b.drop (i+1)))=4294967296 ^ i+4294967296 ^ i*((a[i] % 4294967296).toNat+4294967296*nn (b.drop (i+1))):=by grind
 omega
theorem qlw {n m:Nat} (h:(qaa n).length<(qaa m).length):n<m:=by
 have h1:=qec (qaa n);rw[q9q] at h1;rcases Nat.lt_or_ge m (4294967296 ^ (qaa n).length) with h2 | h2
 · have:=qb0 h2;omega
 · omega
theorem qkJ {n m:Nat} (hn:(qaa n).length<4611686018427387904):qeS (qaa n) (qaa m)=some (ncmp n m):=by
 unfold qeS;by_cases h1:(qaa n).length<(qaa m).length
 · have := qlw h1;simp [h1,ncmp,this]
 by_cases h2:(qaa m).length<(qaa n).length
 · have := qlw h2;simp [h1,h2,ncmp,this,Nat.not_lt.2 (Nat.le_of_lt this)]
 have hl:(qaa m).length=(qaa n).length:=by omega
 have ha:=qaz n;have hb:=qaz m;have e1:=q9q n;have e2:=q9q m;generalize qaa n=a at *;generalize qaa m=b at *;obtain⟨r,hr,hlp⟩:=qm9 (step:=qbN) (fun v=>∃ j:Nat,j<=a.length/\v=((a,b,(j:Int)-1,()),())/\a.drop j=b.drop j) (fun v=>(v.1.2.2.1+1).toNat)
   (fun r=>(r=.inl ((),())/\a=b)\/(r=.inr ((-1,()),())/\nn a<nn b)\/(r=.inr ((1,()),())/\nn b<nn a)) (v:=((a,b,(a.length:Int)-1,()),()))
   ⟨a.length, Nat.le_refl _, rfl, by rw [List.drop_length, <- hl, List.drop_length]⟩ (by simp; omega) (by
    rintro v ⟨j,hj,rfl,hd⟩;cases j with
    | zero=>exact .inl ⟨_,.inl ⟨rfl,by simpa using hd⟩,fun g=>by simp [qbN]⟩
    | succ j =>
     have hja:j<a.length:=by omega
     have hjb:j<b.length:=by omega
     have e3:((j+1:Nat):Int)-1=(j:Int):=by omega
     rw[e3];by_cases c1:a[j]<b[j]
     · exact .inl ⟨_,.inr (.inl ⟨rfl,qp0 ha hb hja hjb hd c1⟩),fun g=>by simp [qbN,hja,hjb,c1]⟩
     by_cases c2:b[j]<a[j]
     · exact .inl ⟨_,.inr (.inr ⟨rfl,qp0 hb ha hjb hja hd.symm c2⟩),fun g=>by simp [qbN,hja,hjb,c1,c2]⟩
     refine .inr ⟨((a,b,(j:Int)-1,()),()),⟨j,by omega,rfl,?_⟩,by simp,fun g=>?_⟩
     · rw[List.drop_eq_getElem_cons hja,List.drop_eq_getElem_cons hjb,hd,show a[j]=b[j] by omega]
     · have : isub .i64 (j : Int) 1 = (j : Int) - 1 := by rw [qeW] <;> omega
       simp [qbN,hja,hjb,c1,c2,this])
 have e3:isub .i64 (a.length:Int) 1=(a.length:Int)-1:=by rw[qeW]<;>omega
 rw[e3,hlp];rcases hr with ⟨rfl,h⟩ | ⟨rfl,h⟩ | ⟨rfl,h⟩
 · subst h;have:n=m:=by omega
   subst this;simp [ncmp]
 · rw [e1, e2] at h;simp [h1,hl,ncmp,h]
 · rw [e1, e2] at h;simp [h1,hl,ncmp,h,Nat.not_lt.2 (Nat.le_of_lt h)]
theorem qsI {a b:List Int} (ha:a.length<35184372088832) (hb:b.length<35184372088832):qe9 a b=some (ncmp (nn a) (nn b)):=by
 simp [qe9,qcD ha,qcD hb,qkJ (Nat.lt_of_le_of_lt (qaq a) (Nat.lt_trans ha (by decide)))]
def lget (a:List Int) (i:Nat):Int:=(a[i]?).getD 0
theorem qlv (a:List Int) (i:Nat):qeH a (i:Int)=some (lget a i):=by
 by_cases h:i<a.length<;>simp [qeH,lget,h]
theorem qgV {a:List Int} (ha:Lim a) (i:Nat):0<=lget a i/\lget a i<4294967296:=by
 unfold lget;cases h:a[i]? with
 | none=>simp
 | some x=>exact ha.get h
theorem qdT (a:List Int) (i:Nat):nn (a.take (i+1))=nn (a.take i)+4294967296 ^ i*(lget a i % 4294967296).toNat:=by
 by_cases h:i<a.length
 · rw[nnt h];simp [lget,h]
 · rw [List.take_of_length_le (by omega), List.take_of_length_le (by omega)];simp [lget,h]
theorem qqZ {a:List Int} {i:Nat} (h:i<a.length):lget a i=a[i]:=by simp [lget,h]
theorem qoW {α:Type} {p:List α} {i n:Nat} {z:α} (x:α) (hp:p.length=i) (hi:i<n):(p++List.replicate (n-i) z).set i x=(p++[x])++List.replicate (n-(i+1)) z:=by
 have e:n-i=(n-(i+1))+1:=by omega
 subst hp;rw[e,List.replicate_succ,List.set_append_right _ _ (by omega)];simp
theorem qvD {a b:List Int} (ha:a.length<17592186044416) (hb:b.length<17592186044416):qjP a b=some (qaa (nn a+nn b)):=by
 have h1:=qaq a;have h2:=qaq b;have e1:=q9q (nn a);have e2:=q9q (nn b);have l1:=qaz (nn a);have l2:=qaz (nn b);simp only[qjP,qcD (show a.length<35184372088832 by omega),qcD (show b.length<35184372088832 by omega),bS0];generalize qaa (nn a)=x at *;generalize qaa (nn b)=y at *;rw[<- e1,<- e2];clear e1 e2;obtain⟨N,hN,hx,hy,hN2⟩:∃ N:Nat,iadd .i64 (mx (x.length:Int) (y.length:Int)) 1=(N:Int)/\x.length<N/\y.length<N/\N<=17592186044417:=by
  have:mx (x.length:Int) (y.length:Int)=((max x.length y.length:Nat):Int):=by unfold mx;split<;>omega
  refine⟨max x.length y.length+1,?_,by omega,by omega,by omega⟩;rw[this,qcp]<;>omega
 rw[hN];obtain⟨r,⟨p,rfl,hp,hpl,hpn⟩,hlp⟩:=qky (step:=qd1) (fun i v=>∃ (p:List Int) (c:Nat),v=((x,y,p++List.replicate (N-i) 0,(c:Int),(N:Int),(i:Int),()),())/\p.length=i/\Lim p/\c<=1/\nn p+4294967296 ^ i*c=nn (x.take i)+nn (y.take i))
  (fun r=>∃ p,r=((p,()),())/\p.length=N/\Lim p/\nn p=nn x+nn y) N (v:=((x,y,List.replicate N 0,0,(N:Int),0,()),()))
  ⟨[], 0, by simp, rfl, Lim.nil, by omega, by simp⟩ (by omega) (by
   rintro i v hi ⟨p,c,rfl,hp,hpl,hc,hs⟩;have b1:=qgV l1 i;have b2:=qgV l2 i;have hadd1:iadd .u64 (lget x i) (lget y i)=lget x i+lget y i:=qiv (by omega) (by omega);have hadd2:iadd .u64 (c:Int) (lget x i+lget y i)=c+(lget x i+lget y i):=qiv (by omega) (by omega);refine⟨((x,y,(p++[((c:Int)+(lget x i+lget y i)) % 4294967296])++List.replicate (N-(i+1)) 0,((((c:Int)+(lget x i+lget y i))/4294967296).toNat:Int),(N:Int),((i+1:Nat):Int),()),()),⟨_,_,rfl,by simp [hp],Lim.append hpl (Lim.cons (by omega) Lim.nil),by omega,?_⟩,fun g=>?_⟩
   · rw [qbl, hp, qdT, qdT, qlp _ (by omega), Nat.pow_succ];have k1:(((c:Int)+(lget x i+lget y i)) % 4294967296).toNat+4294967296*(((c:Int)+(lget x i+lget y i))/4294967296).toNat=c+(lget x i % 4294967296).toNat+(lget y i % 4294967296).toNat:=by omega
     have k2:4294967296 ^ i*((((c:Int)+(lget x i+lget y i)) % 4294967296).toNat+4294967296*(((c:Int)+(lget x i+lget y i))/4294967296).toNat)=4294967296 ^ i*(c+(lget x i % 4294967296).toNat+(lget y i % 4294967296).toNat):=by rw[k1]
     grind
   · have e4 : ((((c : Int) + (lget x i + lget y i)) / 4294967296).toNat : Int) = ((c : Int) + (lget x i + lget y i)) / 4294967296 := by omega
     have e5:(p++List.replicate (N-i) 0).length=N:=by simp [hp];omega
     simp only[qd1,qlv,bS0,hadd1,hadd2,qeI,qnC,e4,qcp (n:=i) (by omega),tN0,qoW _ hp hi,e5];simp [hi,e5,hp]) (by
   rintro v ⟨p,c,rfl,hp,hpl,hc,hs⟩;refine⟨_,⟨p,rfl,hp,hpl,?_⟩,fun g=>by simp [qd1]⟩;rw[List.take_of_length_le (by omega),List.take_of_length_le (by omega)] at hs;have k1:=qec x;have k2:=qec y;have k3:=Nat.pow_le_pow_right (n:=4294967296) (by decide) hx;have k4:=Nat.pow_le_pow_right (n:=4294967296) (by decide) hy;have k5:4294967296 ^ (x.length+1)=4294967296*4294967296 ^ x.length:=by rw[Nat.pow_succ,Nat.mul_comm]
   have k6:4294967296 ^ (y.length+1)=4294967296*4294967296 ^ y.length:=by rw[Nat.pow_succ,Nat.mul_comm]
   have:c=0:=by
     rcases Nat.eq_zero_or_pos c with h | h
     · exact h
     · have : c = 1 := by omega
       subst this;simp only[Nat.succ_eq_add_one] at k3 k4;omega
   subst this;simpa using hs)
 have g1:(8:Int)*(N:Int)<=281474976710656:=by omega
 have g2:(N:Int)<=9223372036854775807:=by omega
 simp [hlp,qfV hpl (by omega),hpn,g1,g2]
theorem qgR {b:List Int} {k:Nat} (h:nn b<4294967296 ^ k):nn (b.take k)=nn b:=by
 by_cases hk:b.length<=k
 · rw[List.take_of_length_le hk]
 have e:nn b=nn (b.take k)+4294967296 ^ k*nn (b.drop k):=by
   conv=>lhs;rw[<- List.take_append_drop k b]
   rw[qbl,List.length_take,Nat.min_eq_left (by omega)]
 rcases Nat.eq_zero_or_pos (nn (b.drop k)) with h0 | h0
 · rw[h0] at e;omega
 · have : 4294967296 ^ k * 1 <= 4294967296 ^ k * nn (b.drop k) := Nat.mul_le_mul_left _ h0;omega
theorem qp2 {a b:List Int} (ha:Lim a) (hb:Lim b) (hl:a.length<35184372088832) (hle:nn b<=nn a):qed a b=some (qaa (nn a-nn b)):=by
 obtain⟨r,⟨p,rfl,hp,hpl,hpn⟩,hlp⟩:=qky (step:=qcu) (fun i v=>∃ (p:List Int) (d:Nat),v=((a,b,p++List.replicate (a.length-i) 0,(d:Int),(a.length:Int),(i:Int),()),())/\p.length=i/\Lim p/\d<=1/\nn p+nn (b.take i)=nn (a.take i)+4294967296 ^ i*d)
  (fun r=>∃ p,r=((p,()),())/\p.length=a.length/\Lim p/\nn p=nn a-nn b) a.length (v:=((a,b,List.replicate a.length 0,0,(a.length:Int),0,()),()))
  ⟨[], 0, by simp, rfl, Lim.nil, by omega, by simp⟩ (by omega) (by
   rintro i v hi ⟨p,d,rfl,hp,hpl,hd,hs⟩;have b1:=ha.at hi;have b2:=qgV hb i;have q1:iadd .u64 4294967296 a[i]=4294967296+a[i]:=qiv (by omega) (by omega);have q2:isub .u64 (4294967296+a[i]) (lget b i)=4294967296+a[i]-lget b i:=qjk (by omega) (by omega);have q3:isub .u64 (4294967296+a[i]-lget b i) (d:Int)=4294967296+a[i]-lget b i-d:=qjk (by omega) (by omega);have q4:isub .u64 1 ((4294967296+a[i]-lget b i-d)/4294967296)=1-(4294967296+a[i]-lget b i-d)/4294967296:=qjk (by omega) (by omega);have e4:((1-(4294967296+a[i]-lget b i-d)/4294967296).toNat:Int)=1-(4294967296+a[i]-lget b i-d)/4294967296:=by omega
   refine⟨((a,b,(p++[(4294967296+a[i]-lget b i-d) % 4294967296])++List.replicate (a.length-(i+1)) 0,((1-(4294967296+a[i]-lget b i-d)/4294967296).toNat:Int),(a.length:Int),((i+1:Nat):Int),()),()),⟨_,_,rfl,by simp [hp],Lim.append hpl (Lim.cons (by omega) Lim.nil),by omega,?_⟩,fun g=>?_⟩
   · rw [qbl, hp, qdT, nnt hi, qlp _ (by omega), Nat.pow_succ];have k1:((4294967296+a[i]-lget b i-d) % 4294967296).toNat+(lget b i % 4294967296).toNat+d=(a[i] % 4294967296).toNat+4294967296*(1-(4294967296+a[i]-lget b i-d)/4294967296).toNat:=by omega
     have k2:4294967296 ^ i*(((4294967296+a[i]-lget b i-d) % 4294967296).toNat+(lget b i % 4294967296).toNat+d)=4294967296 ^ i*((a[i] % 4294967296).toNat+4294967296*(1-(4294967296+a[i]-lget b i-d)/4294967296).toNat):=by rw[k1]
     grind
   · have e5 : (p ++ List.replicate (a.length - i) 0).length = a.length := by simp [hp]; omega
     have e6:i<(p++List.replicate (a.length-i) (0:Int)).length:=by omega
     simp only[qcu,qlv,bS0,tN0,gE0 hi,gE0 e6,q1,q2,q3,q4,qeI,qnC,e4,qcp (n:=i) (by omega),qoW _ hp hi,e5];simp [hi,hp]) (by
   rintro v ⟨p,d,rfl,hp,hpl,hd,hs⟩;refine⟨_,⟨p,rfl,hp,hpl,?_⟩,fun g=>by simp [qcu]⟩;rw[qgR (Nat.lt_of_le_of_lt hle (qec a)),List.take_length] at hs;have k1:=qec p;rw[hp] at k1;have:d=0:=by
     rcases Nat.eq_zero_or_pos d with h | h
     · exact h
     · have : d = 1 := by omega
       subst this;omega
   subst this;omega)
 have g1:(8:Int)*(a.length:Int)<=281474976710656:=by omega
 have g2:(a.length:Int)<=9223372036854775807:=by omega
 simp [qed,hlp,qfV hpl (by omega),hpn,g1,g2]
theorem qt9 {a b:List Int} (ha:a.length<35184372088832) (hb:b.length<35184372088832):qhH a b=if nn a<nn b then some ([],3) else some (qaa (nn a-nn b),0):=by
 have h1:=qaq a;simp only[qhH,qcD ha,qcD hb,bS0,qkJ (show(qaa (nn a)).length<4611686018427387904 by omega)];by_cases h:nn a<nn b
 · simp [ncmp,h]
 · have := qp2 (qaz (nn a)) (qaz (nn b)) (by omega) (by rw [q9q, q9q]; omega);rw[q9q,q9q] at this;have e:¬ ncmp (nn a) (nn b)<0:=by unfold ncmp;rw[if_neg h];split<;>omega
   simp [h,e,this]
theorem qvo {u:List Int} (hu:Lim u) {j:Nat} (hj:j<u.length) {y:Int} (hy:0<=y/\y<4294967296):nn (u.set j y)+4294967296 ^ j*u[j].toNat=nn u+4294967296 ^ j*y.toNat:=by
 have e1:u=u.take j++(u[j]::u.drop (j+1)):=by simp
 have e2:u.set j y=u.take j++(y::u.drop (j+1)):=List.set_eq_take_append_cons_drop.trans (by simp [hj]);have b:=hu.at hj;rw[e2];have:nn u=nn (u.take j++(u[j]::u.drop (j+1))):=by rw[<- e1]
 rw[this,qbl,qbl];simp only[List.length_take,Nat.min_eq_left (Nat.le_of_lt hj),nn];have k1:(y % 4294967296).toNat=y.toNat:=by omega
 have k2:(u[j] % 4294967296).toNat=u[j].toNat:=by omega
 rw[k1,k2]
 grind
theorem qol {x y c u:Int} (hx:0<=x/\x<4294967296) (hy:0<=y/\y<4294967296) (hc:0<=c/\c<4294967296) (hu:0<=u/\u<4294967296) :
  0<=x*y/\x*y<18446744073709551616/\u+x*y<18446744073709551616/\c+(u+x*y)<18446744073709551616:=by
 have h0:0<=x*y:=Int.mul_nonneg hx.1 hy.1;have h1:x*y<=4294967295*4294967295:=Int.mul_le_mul (by omega) (by omega) hy.1 (by decide);omega
theorem qsD {b a:List Int} {n i:Nat} {x:Int} {u:List Int} {Z:Nat} (hb:Lim b) (hx:0<=x/\x<4294967296) (hu:Lim u) (hul:u.length=i+b.length) (hsz:i+b.length<4611686018427387904) :
  ∃ (w:List Int) (c:Nat),lp qdd K0 ((b,u++List.replicate Z 0,(i:Int),x,0,a,(n:Int),(i:Int),b,(b.length:Int),0,()),())=some ((b,w++List.replicate Z 0,(i:Int),(c:Int),a,(n:Int),(i:Int),()),()) /\
   w.length=i+b.length/\Lim w/\c<4294967296/\nn w+4294967296 ^ (i+b.length)*c=nn u+4294967296 ^ i*(x.toNat*nn b):=by
 obtain⟨r,⟨w,c,rfl,h1,h2,h3,h4⟩,hlp⟩:=qky (step:=qdd)
  (fun k v=>∃ (w:List Int) (c:Nat),v=((b,w++List.replicate Z 0,(i:Int),x,(c:Int),a,(n:Int),(i:Int),b,(b.length:Int),(k:Int),()),())/\w.length=i+b.length/\Lim w/\c<4294967296/\nn w+4294967296 ^ (i+k)*c=nn u+4294967296 ^ i*(x.toNat*nn (b.take k)))
  (fun r=>∃ (w:List Int) (c:Nat),r=((b,w++List.replicate Z 0,(i:Int),(c:Int),a,(n:Int),(i:Int),()),())/\w.length=i+b.length/\Lim w/\c<4294967296/\nn w+4294967296 ^ (i+b.length)*c=nn u+4294967296 ^ i*(x.toNat*nn b))
  b.length (v:=((b,u++List.replicate Z 0,(i:Int),x,0,a,(n:Int),(i:Int),b,(b.length:Int),0,()),())) ⟨u,0,rfl,hul,hu,by omega,by simp⟩ (by omega) (by
   rintro k v hk ⟨w,c,rfl,hw,hwl,hc,hs⟩;have b1:=hb.at hk;have hik:i+k<w.length:=by omega
   have b2:=hwl.at hik;have b3:(0:Int)<=c/\(c:Int)<4294967296:=by omega
   obtain⟨m0,m1,m2,m3⟩:=qol hx b1 b3 b2;have e4:((((c:Int)+(w[i+k]+x*b[k]))/4294967296).toNat:Int)=((c:Int)+(w[i+k]+x*b[k]))/4294967296:=by omega
   have q1:imul .u64 x b[k]=x*b[k]:=qr2 m0 m1;have q2:iadd .u64 w[i+k] (x*b[k])=w[i+k]+x*b[k]:=qiv (by omega) m2;have q3:iadd .u64 (c:Int) (w[i+k]+x*b[k])=c+(w[i+k]+x*b[k]):=qiv (by omega) m3;have q4:iadd .i64 (i:Int) (k:Int)=((i+k:Nat):Int):=by rw[qfO]<;>omega
   refine⟨((b,w.set (i+k) (((c:Int)+(w[i+k]+x*b[k])) % 4294967296)++List.replicate Z 0,(i:Int),x,((((c:Int)+(w[i+k]+x*b[k]))/4294967296).toNat:Int),a,(n:Int),(i:Int),b,(b.length:Int),((k+1:Nat):Int),()),()),⟨_,_,rfl,by simpa using hw,hwl.set (by omega),by omega,?_⟩,fun g=>?_⟩
   · have hset := qvo hwl hik (y := ((c : Int) + (w[i + k] + x * b[k])) % 4294967296) (by omega);rw[nnt hk,show i+(k+1)=i+k+1 from rfl,Nat.pow_succ];have k1:(((c:Int)+(w[i+k]+x*b[k])) % 4294967296).toNat+4294967296*(((c:Int)+(w[i+k]+x*b[k]))/4294967296).toNat=c+(w[i+k].toNat+(x*b[k]).toNat):=by omega
     have k2:4294967296 ^ (i+k)*((((c:Int)+(w[i+k]+x*b[k])) % 4294967296).toNat+4294967296*(((c:Int)+(w[i+k]+x*b[k]))/4294967296).toNat)=4294967296 ^ (i+k)*(c+(w[i+k].toNat+(x*b[k]).toNat)):=by rw[k1]
     have k3:(x*b[k]).toNat=x.toNat*(b[k] % 4294967296).toNat:=by
      rw[Int.toNat_mul hx.1 b1.1];congr 2;omega
     rw[k3] at k2;have k4:4294967296 ^ (i+k)=4294967296 ^ i*4294967296 ^ k:=Nat.pow_add ..
     grind
   · have e5 : (w ++ List.replicate Z (0 : Int))[i + k]? = some w[i + k] := by rw [List.getElem?_append_left hik]; exact gE0 hik
     have e6:((i+k:Nat):Int)<(((w++List.replicate Z (0:Int)).length:Nat):Int):=by simp;omega
     have e7:(0:Int)<=((i+k:Nat):Int):=by omega
     simp only[qdd,tN0,gE0 hk,bS0,q4,e5,q1,q2,q3,qeI,qnC,e4,qcp (n:=k) (by omega),List.set_append_left _ _ hik,cnd2 e7 e6];simp [hk]) (by
   rintro v ⟨w,c,rfl,hw,hwl,hc,hs⟩;rw[List.take_length] at hs;exact⟨_,⟨w,c,rfl,hw,hwl,hc,hs⟩,fun g=>by simp [qdd]⟩)
 exact⟨w,c,hlp,h1,h2,h3,h4⟩
theorem qua {a b:List Int} (ha:a.length<17592186044416) (hb:b.length<17592186044416):qhJ a b=some (qaa (nn a*nn b)):=by
 have h1:=qaq a;have h2:=qaq b;have e1:=q9q (nn a);have e2:=q9q (nn b);have l1:=qaz (nn a);have l2:=qaz (nn b);simp only[qhJ,qcD (show a.length<35184372088832 by omega),qcD (show b.length<35184372088832 by omega),bS0];generalize qaa (nn a)=x at *;generalize qaa (nn b)=y at *;rw[<- e1,<- e2];clear e1 e2;have hN:iadd .i64 (x.length:Int) (y.length:Int)=((x.length+y.length:Nat):Int):=by rw[qfO]<;>omega
 rw[hN];obtain⟨r,⟨p,rfl,hp,hpl,hpn⟩,hlp⟩:=qky (step:=qdZ) (fun i v=>∃ p:List Int,v=((y,p++List.replicate (x.length-i) 0,x,(x.length:Int),(i:Int),()),())/\p.length=i+y.length/\Lim p/\nn p=nn (x.take i)*nn y)
  (fun r=>∃ p,r=((p,()),())/\p.length=x.length+y.length/\Lim p/\nn p=nn x*nn y) x.length (v:=((y,List.replicate (x.length+y.length) 0,x,(x.length:Int),0,()),()))
  ⟨List.replicate y.length 0, by rw [List.replicate_append_replicate, Nat.sub_zero, Nat.add_comm]; rfl, by simp, Lim.zeros _, by simp [qpZ]⟩ (by omega) (by
   rintro i v hi ⟨p,rfl,hp,hpl,hs⟩;obtain⟨w,c,hin,hw,hwl,hc,hwn⟩:=qsD (a:=x) (n:=x.length) (i:=i) (x:=x[i]) (u:=p) (Z:=x.length-i) l2 (l1.at hi) hpl hp (by omega);have b1:=l1.at hi;refine⟨((y,(w++[(c:Int)])++List.replicate (x.length-(i+1)) 0,x,(x.length:Int),((i+1:Nat):Int),()),()),⟨_,rfl,by simp [hw];omega,Lim.append hwl (Lim.cons (by omega) Lim.nil),?_⟩,fun g=>?_⟩
   · rw [qbl, hw, qlp _ (by omega), nnt hi, tN0, hwn, hs];have:(x[i] % 4294967296).toNat=x[i].toNat:=by omega
     rw[this]
     grind
   · have q4 : iadd .i64 (i : Int) (y.length : Int) = ((i + y.length : Nat) : Int) := by rw [qfO] <;> omega
     have e6:((i+y.length:Nat):Int)<(((w++List.replicate (x.length-i) (0:Int)).length:Nat):Int):=by simp;omega
     have e7:(0:Int)<=((i+y.length:Nat):Int):=by omega
     have e8:i+y.length<(w++List.replicate (x.length-i) (0:Int)).length:=by omega
     have e9:(w++List.replicate (x.length-i) (0:Int)).set (i+y.length) (c:Int)=(w++[(c:Int)])++List.replicate (x.length-(i+1)) 0:=by
      have:=qoW (p:=w) (i:=i+y.length) (n:=x.length+y.length) (z:=0) (c:Int) hw (by omega);rw[show x.length+y.length-(i+y.length)=x.length-i by omega,show x.length+y.length-(i+y.length+1)=x.length-(i+1) by omega] at this;exact this
     simp only[qdZ,tN0,gE0 hi,bS0,hin,q4,qcp (n:=i) (by omega),cnd2 e7 e6,gE0 e8,e9];simp [hi]) (by
   rintro v ⟨p,rfl,hp,hpl,hs⟩;rw[List.take_length] at hs;exact⟨((p,()),()),⟨p,rfl,hp,hpl,hs⟩,fun g=>by simp [qdZ]⟩)
 have g1:(8:Int)*((x.length+y.length:Nat):Int)<=281474976710656:=by omega
 have g2:((x.length+y.length:Nat):Int)<=9223372036854775807:=by omega
 have g3:(0:Int)<=((x.length+y.length:Nat):Int):=by omega
 have g4:((8:Nat):Int)*((x.length+y.length:Nat):Int)<=281474976710656:=g1;simp only[tN0,hlp,bS0,qfV hpl (by omega),hpn,decide_eq_true g2,decide_eq_true g3,decide_eq_true g4,Bool.and_true,decide_true,cond_true]
theorem qrL (a:List Int) {i:Nat} (h:i<a.length):nn (a.drop i)=(a[i] % 4294967296).toNat+4294967296*nn (a.drop (i+1)):=by
 rw[List.drop_eq_getElem_cons h,nn]
theorem qsP {a:List Int} {d:Nat} (ha:Lim a) (hl:a.length<35184372088832) (hd:0<d) (hd':d<4294967296):qhD a (d:Int)=some (qaa (nn a/d),((nn a % d:Nat):Int)):=by
 obtain⟨r,⟨s,c,rfl,hs,hsl,hc,hsn⟩,hlp⟩:=qm9 (step:=qct)
  (fun v=>∃ (j:Nat) (s:List Int) (c:Nat),j<=a.length/\v=((a,(d:Int),List.replicate j 0++s,(c:Int),(j:Int)-1,()),())/\j+s.length=a.length/\Lim s/\c<d/\nn (a.drop j)=d*nn s+c)
  (fun v=>(v.1.2.2.2.2.1+1).toNat)
  (fun r=>∃ (s:List Int) (c:Nat),r=((s,(c:Int),()),())/\s.length=a.length/\Lim s/\c<d/\nn a=d*nn s+c) (v:=((a,(d:Int),List.replicate a.length 0,0,(a.length:Int)-1,()),()))
  ⟨a.length, [], 0, Nat.le_refl _, by simp, by simp, Lim.nil, hd, by simp⟩ (by simp; omega) (by
   rintro v ⟨j,s,c,hj,rfl,hjl,hsl,hc,hn⟩;cases j with
   | zero =>
    refine .inl ⟨((s,(c:Int),()),()),⟨s,c,rfl,by omega,hsl,hc,by simpa using hn⟩,fun g=>by simp [qct]⟩
   | succ j =>
    have hja:j<a.length:=by omega
    have b:=ha.at hja;have e3:((j+1:Nat):Int)-1=(j:Int):=by omega
    rw[e3];obtain⟨x,hx⟩:=Int.eq_ofNat_of_zero_le b.1;have hx':x<4294967296:=by omega
    have hq:(c*4294967296+x)/d<4294967296:=by
      rw[Nat.div_lt_iff_lt_mul hd];have:(c+1)*4294967296<=d*4294967296:=Nat.mul_le_mul_right _ hc;rw[Nat.mul_comm 4294967296 d];omega
    have k1:=Nat.div_add_mod (c*4294967296+x) d;have k5:=Nat.mod_lt (c*4294967296+x) hd;have q3:iquo .u64 ((c*4294967296+x:Nat):Int) (d:Int)=(((c*4294967296+x)/d:Nat):Int):=by rw[qt1 (by omega) (by omega) (by omega)];exact(Int.natCast_ediv _ _).symm
    have q4:irem ((c*4294967296+x:Nat):Int) (d:Int)=(((c*4294967296+x) % d:Nat):Int):=by rw[qoq (by omega)];exact(Int.natCast_emod _ _).symm
    generalize (c*4294967296+x)/d=q at *;generalize (c*4294967296+x) % d=rr at *;refine .inr ⟨((a,(d:Int),List.replicate j 0++(q:Int)::s,(rr:Int),(j:Int)-1,()),()),⟨j,_,_,by omega,rfl,by simp;omega,Lim.cons (by omega) hsl,k5,?_⟩,by simp,fun g=>?_⟩
    · rw [qrL a hja, hn, nn];have k2:((q:Int) % 4294967296).toNat=q:=by omega
      have k3:(a[j] % 4294967296).toNat=x:=by omega
      rw[k2,k3]
      grind
    · have c1 : (c : Int) < 4294967296 := by omega
      have q1:shlV .u64 (c:Int) 32=(c:Int)*4294967296:=qrv (by omega) c1;have q2:ior .u64 ((c:Int)*4294967296) a[j]=((c*4294967296+x:Nat):Int):=by rw[qr0 (by omega) c1 b.1 b.2,hx];omega
      have q5:isub .i64 (j:Int) 1=(j:Int)-1:=by rw[qeW]<;>omega
      have e5:(List.replicate (j+1) (0:Int)++s).set j (q:Int)=List.replicate j 0++(q:Int)::s:=by
       rw[List.replicate_succ',List.append_assoc,List.set_append_right _ _ (by simp)];simp
      have e6:j<(List.replicate (j+1) (0:Int)++s).length:=by simp;omega
      have e7:((j:Nat):Int)<((List.replicate (j+1) (0:Int)++s).length:Int):=by omega
      have e8:(0:Int)<=((j:Nat):Int):=by omega
      have e9:¬ ((d:Int)=0):=by omega
      simp only[qct,tN0,gE0 hja,gE0 e6,bS0,q1,q2,q3,q4,q5,e5,cnd2 e8 e7,cnd e8,cnd' e9,ge_iff_le])
 have g1:(8:Int)*(a.length:Int)<=281474976710656:=by omega
 have g2:(a.length:Int)<=9223372036854775807:=by omega
 have g3:isub .i64 (a.length:Int) 1=(a.length:Int)-1:=by rw[qeW]<;>omega
 have k1:nn a/d=nn s:=by rw[hsn,Nat.mul_add_div hd,Nat.div_eq_of_lt hc];simp
 have k2:nn a % d=c:=by rw[hsn,Nat.mul_add_mod,Nat.mod_eq_of_lt hc]
 rw[k1,k2];simp [qhD,g1,g2,g3,hlp,qfV hsl (by omega)]
theorem qvx {a:List Int} (hl:a.length<35184372088832):qme a=if nn a<18446744073709551616 then some (((nn a:Nat):Int),true) else some (0,false):=by
 simp only[qme,qcD hl,bS0];generalize nn a=n;by_cases h0:n=0
 · subst h0;simp [qaG]
 by_cases h1:n<4294967296
 · rw[qdK h0 h1];simp;omega
 by_cases h2:n<18446744073709551616
 · have e : qaa n = [((n % 4294967296 : Nat) : Int), ((n / 4294967296 : Nat) : Int)] := by rw [qfL h0, qdK (n := n / 4294967296) (by omega) (by omega)]
   have q1:shlV .u64 ((n/4294967296:Nat):Int) 32=((n/4294967296:Nat):Int)*4294967296:=qrv (by omega) (by omega);have q2:ior .u64 (((n/4294967296:Nat):Int)*4294967296) ((n % 4294967296:Nat):Int)=(n:Int):=by rw[qr0]<;>omega
   rw[e];simp only[List.length_cons,List.length_nil,List.getElem?_cons_succ,List.getElem?_cons_zero,bS0,q1,q2];simp [h2]
 · have hlen : 2 < (qaa n).length := qoo (by omega);have a1:¬ ((qaa n).length:Int)=0:=by omega
   have a2:¬ ((qaa n).length:Int)=1:=by omega
   have a3:¬ ((qaa n).length:Int)=2:=by omega
   rw[cnd' a1,cnd' a2,cnd' a3,if_neg h2]
theorem qsd {a b:List Int} (hla:a.length<35184372088832) (hlb:b.length<35184372088832) (ha:nn a<18446744073709551616) (hb:nn b<18446744073709551616):qgr a b=some (qaa (Nat.gcd (nn a) (nn b))):=by
 obtain⟨r,rfl,hlp⟩:=qm9 (step:=qbY) (fun v=>∃ x y:Nat,v=(((x:Int),(y:Int),()),())/\x<18446744073709551616/\y<18446744073709551616/\Nat.gcd x y=Nat.gcd (nn a) (nn b)) (fun v=>v.1.2.1.toNat)
  (fun r=>r=((((Nat.gcd (nn a) (nn b):Nat):Int),()),())) (v:=((((nn a:Nat):Int),((nn b:Nat):Int),()),())) ⟨nn a,nn b,rfl,ha,hb,rfl⟩ (by simp;omega) (by
    rintro v ⟨x,y,rfl,hx,hy,hg⟩;by_cases h0:y=0
    · subst h0;refine .inl ⟨_,rfl,fun g=>?_⟩;rw[Nat.gcd_zero_right] at hg;simp [qbY,hg]
    · have hlt := Nat.mod_lt x (Nat.pos_of_ne_zero h0);refine .inr ⟨(((y:Int),((x % y:Nat):Int),()),()),⟨y,x % y,rfl,hy,by omega,?_⟩,by show(((x % y:Nat):Int)).toNat<((y:Nat):Int).toNat;omega,fun g=>?_⟩
      · rw[<- hg,Nat.gcd_comm y,<- Nat.gcd_rec,Nat.gcd_comm]
      · have : irem (x : Int) (y : Int) = ((x % y : Nat) : Int) := by rw [qoq (by omega)]; exact (Int.natCast_emod _ _).symm
        have h1:¬ (y:Int)=0:=by omega
        simp [qbY,this,h0])
 have hgl:Nat.gcd (nn a) (nn b)<18446744073709551616:=by
  by_cases h0:nn b=0
  · rw[h0,Nat.gcd_zero_right];exact ha
  · exact Nat.lt_of_le_of_lt (Nat.gcd_le_right _ (Nat.pos_of_ne_zero h0)) hb
 simp [qgr,qvx hla,qvx hlb,ha,hb,hlp,qtL hgl]
theorem qrB (s:Nat):(2:Int) ^ s=((2 ^ s:Nat):Int):=by rw[Int.natCast_pow];rfl
theorem qoH (x s:Nat):(x:Int)/2 ^ s=((x/2 ^ s:Nat):Int):=by rw[qrB,<- Int.natCast_ediv]
theorem qsM (k:Nat):4294967296 ^ k=2 ^ (32*k):=by rw[Nat.pow_mul]
theorem qkF {a:List Int} (ha:Lim a) (hl:a.length<35184372088832) (h0:nn a≠0):∃ z m:Nat,qbx a=some (z:Int)/\nn a=2 ^ z*m/\m % 2=1/\z<32*a.length:=by
 obtain⟨r,⟨z,m,rfl,h1,h2,h3⟩,hlp⟩:=qm9 (step:=qcs) (fun v=>∃ k:Nat,k<=a.length/\v=((((32*k:Nat):Int),a,(a.length:Int),(k:Int),()),())/\nn (a.take k)=0) (fun v=>(a.length-v.1.2.2.2.1).toNat)
  (fun r => ∃ z m : Nat, r = .inr (((z : Int), ()), ()) /\ nn a = 2 ^ z * m /\ m % 2 = 1 /\ z < 32 * a.length) (v := ((0, a, (a.length : Int), 0, ()), ())) ⟨0, by omega, rfl, rfl⟩ (by simp; omega) (by
   rintro v ⟨k,hk,rfl,hz⟩;by_cases hka:k<a.length
   · have b := ha.at hka;by_cases hx:a[k]=0
     · refine .inr ⟨((((32 * (k + 1) : Nat) : Int), a, (a.length : Int), ((k + 1 : Nat) : Int), ()), ()), ⟨k + 1, by omega, rfl, ?_⟩, by simp; omega, fun g => ?_⟩
       · rw[nnt hka,hz,hx];simp
       · have q1 : iadd .i64 ((32 * k : Nat) : Int) 32 = ((32 * (k + 1) : Nat) : Int) := by rw [qfO] <;> omega
         have e1:(k:Int)<(a.length:Int):=by omega
         have e2:(0:Int)<=(k:Int):=by omega
         simp only[qcs,cnd e1,cnd e2,tN0,gE0 hka,bS0,hx,q1,qcp (n:=k) (by omega)];simp
     · obtain ⟨x, hx2⟩ := Int.eq_ofNat_of_zero_le b.1;obtain⟨m,h1,h2,h3⟩:=qmC 64 x (by omega) (by omega);have h4:tzN 64 x<32:=by
         rcases Nat.lt_or_ge (tzN 64 x) 32 with h | h
         · exact h
         · have : 2 ^ 32 <= 2 ^ tzN 64 x := Nat.pow_le_pow_right (by decide) h;have hm:0<m:=by omega
           have:2 ^ tzN 64 x*1<=2 ^ tzN 64 x*m:=Nat.mul_le_mul_left _ hm;omega
       refine .inl ⟨_,⟨32*k+tzN 64 x,m+2 ^ (32-tzN 64 x)*nn (a.drop (k+1)),rfl,?_,?_,by omega⟩,fun g=>?_⟩
       · rw [qmY hka, hz, qsM];have k3:(a[k] % 4294967296).toNat=x:=by omega
         rw[k3,Nat.pow_add];have k4:2 ^ tzN 64 x*2 ^ (32-tzN 64 x)=4294967296:=by rw[<- Nat.pow_add,show tzN 64 x+(32-tzN 64 x)=32 by omega]
         generalize tzN 64 x=t at *;have k5:2 ^ t*(m+2 ^ (32-t)*nn (a.drop (k+1)))=x+4294967296*nn (a.drop (k+1)):=by
           rw[Nat.mul_add,<- h1,<- Nat.mul_assoc,k4]
         rw[Nat.mul_assoc,k5];omega
       · have : 2 ^ (32 - tzN 64 x) = 2 * 2 ^ (31 - tzN 64 x) := by rw [show 32 - tzN 64 x = (31 - tzN 64 x) + 1 by omega, Nat.pow_succ, Nat.mul_comm]
         rw[this,Nat.mul_assoc];omega
       · have e1 : (k : Int) < (a.length : Int) := by omega
         have e2:(0:Int)<=(k:Int):=by omega
         have q1:imul .i64 32 (k:Int)=((32*k:Nat):Int):=by rw[qvv]<;>omega
         have q2:iadd .i64 ((32*k:Nat):Int) ((tzN 64 x:Nat):Int)=((32*k+tzN 64 x:Nat):Int):=by rw[qfO]<;>omega
         have q3:tz64 a[k]=some ((tzN 64 x:Nat):Int):=by
           rw[hx2,tz64,cnd2 (by omega) (by omega)];rfl
         simp only[qcs,cnd e1,cnd e2,tN0,gE0 hka,bS0,q1,q2,q3];simp [hx]
   · exfalso;rw[List.take_of_length_le (by omega)] at hz;exact h0 hz)
 exact⟨z,m,by simp [qbx,hlp],h1,h2,h3⟩
def shrL (s:Nat):List Int->List Int
 | []=>[]
 | x::r=>((((((r[0]?).getD 0)*4294967296+x)/2 ^ s) % 4294967296:Int))::shrL s r
theorem qpR (s:Nat):∀ l:List Int,(shrL s l).length=l.length
 | []=>rfl
 | _::r=>by simp [shrL,qpR s r]
theorem qpS (s:Nat):∀ (l:List Int) (i:Nat) (h:i<(shrL s l).length),(shrL s l)[i]=((lget l (i+1))*4294967296+lget l i)/2 ^ s % 4294967296
 | [],i,h=>by simp [shrL] at h
 | x::r,0,h=>by simp [shrL,lget]
 | x::r,i+1,h=>by
  simp only[shrL,List.getElem_cons_succ];rw[qpS s r i];simp [lget]
theorem qpQ (s:Nat):∀ l:List Int,Lim (shrL s l)
 | []=>Lim.nil
 | x::r=>Lim.cons (by omega) (qpQ s r)
theorem quI {r:List Int} (hr:Lim r):nn r % 4294967296=((r[0]?).getD 0).toNat:=by
 cases r with
 | nil=>rfl
 | cons x r=>have:=hr x List.mem_cons_self;simp only[nn,List.getElem?_cons_zero,Option.getD_some];omega
theorem qus {X M P C B:Nat} (hB:P*C=B) (hP:0<P) (hX:X<B):(X+B*M)/P=(M % B*B+X)/P % B+B*(M/P):=by
 have hB0:0<B:=by omega
 have f1:(X+B*M)/P % B=(M % B*B+X)/P % B:=by
  have h1:B*M=B*(M % B)+B*(B*(M/B)):=by rw[<- Nat.mul_add,Nat.mod_add_div]
  have h2:B*(B*(M/B))=P*(B*(C*(M/B))):=by
   have:B*(B*(M/B))=(P*C)*(B*(M/B)):=by rw[hB]
   rw[this];grind
  have:X+B*M=(M % B*B+X)+P*(B*(C*(M/B))):=by rw[h1,h2,Nat.mul_comm B (M % B)];omega
  rw[this,Nat.add_mul_div_left _ _ hP,Nat.add_mul_mod_self_left]
 have f2:(X+B*M)/P/B=M/P:=by
  rw[Nat.div_div_eq_div_mul,Nat.mul_comm P B,<- Nat.div_div_eq_div_mul,Nat.add_mul_div_left _ _ hB0,Nat.div_eq_of_lt hX,Nat.zero_add]
 have:=Nat.div_add_mod ((X+B*M)/P) B;rw[f1,f2] at this;omega
theorem qrK (s:Nat) (hs:s<=32):∀ l:List Int,Lim l->nn (shrL s l)=nn l/2 ^ s
 | [],_=>by simp [shrL]
 | x::r,h=>by
  have hx:=h x List.mem_cons_self;have hr:Lim r:=fun y hy=>h y (List.mem_cons_of_mem _ hy)
  have hh:=quI hr;have hr0:=qgV hr 0;unfold lget at hr0;obtain⟨X,rfl⟩:=Int.eq_ofNat_of_zero_le hx.1;obtain⟨Y,hY⟩:=Int.eq_ofNat_of_zero_le hr0.1;have ih:=qrK s hs r hr;simp only[shrL,nn,ih,hY];rw[hY] at hh;simp only[tN0] at hh;have e1:(((Y:Int)*4294967296+(X:Int))/2 ^ s % 4294967296 % 4294967296).toNat=(Y*4294967296+X)/2 ^ s % 4294967296:=by
   have h1:((Y:Int)*4294967296+(X:Int))=((Y*4294967296+X:Nat):Int):=by omega
   rw[h1,qoH];generalize (Y*4294967296+X)/2 ^ s=Q;omega
  have e2:((X:Int) % 4294967296).toNat=X:=by omega
  rw[e1,e2];have p2:(2:Nat) ^ s*2 ^ (32-s)=4294967296:=by rw[<- Nat.pow_add,show s+(32-s)=32 by omega]
  have key:=qus (X:=X) (M:=nn r) p2 (Nat.pow_pos (by decide)) (by omega);rw[key,hh]
theorem qnB {a:List Int} {n:Nat} (ha:Lim a) (hl:a.length<35184372088832) (hn:n<4611686018427387904):qcA a (n:Int)=some (qaa (nn a/2 ^ n)):=by
 have q1:iquo .i64 (n:Int) 32=((n/32:Nat):Int):=by rw[qt2 (by omega) (by omega) (by omega)];omega
 have q2:irem (n:Int) 32=((n % 32:Nat):Int):=by rw[qoq (by omega)];omega
 unfold qcA;rw[q1,q2];have hpow:2 ^ n=4294967296 ^ (n/32)*2 ^ (n % 32):=by rw[qsM,<- Nat.pow_add];congr 1;omega
 by_cases hw:a.length<=n/32
 · have c1 : ((n / 32 : Nat) : Int) >= (a.length : Int) := by omega
   rw[cnd c1];have:=qec a;have h2:=Nat.pow_le_pow_right (n:=4294967296) (by decide) hw;have h3:4294967296 ^ (n/32)*1<=4294967296 ^ (n/32)*2 ^ (n % 32):=Nat.mul_le_mul_left _ (Nat.pow_pos (by decide));rw[hpow,Nat.div_eq_of_lt (by omega),qaG]
 · have c1 : ¬ ((n / 32 : Nat) : Int) >= (a.length : Int) := by omega
   rw[cnd' c1];have q3:isub .i64 (a.length:Int) ((n/32:Nat):Int)=((a.length-n/32:Nat):Int):=by rw[qeW]<;>omega
   rw[q3];have hs:n % 32<=32:=by omega
   have hX:(shrL (n % 32) (a.drop (n/32))).length=a.length-n/32:=by rw[qpR];simp
   have key:=qpn (step:=qda) (fun i=>((a,((n/32:Nat):Int),((n % 32:Nat):Int),fill (shrL (n % 32) (a.drop (n/32))) 0 i,((a.length-n/32:Nat):Int),(i:Int),()),())) (a.length-n/32) (r:=((shrL (n % 32) (a.drop (n/32)),()),())) (by omega) (by
    intro g i hi;have hi2:i<(shrL (n % 32) (a.drop (n/32))).length:=by omega
    have e3:=qqf (z:=0) hi2;have e4:(fill (shrL (n % 32) (a.drop (n/32))) 0 i).length=a.length-n/32:=by rw[qqg _ _ _ (by omega),hX]
    have hi3:i+n/32<a.length:=by omega
    have r1:iadd .i64 (i:Int) ((n/32:Nat):Int)=((i+n/32:Nat):Int):=by rw[qfO]<;>omega
    have r2:iadd .i64 ((i+n/32:Nat):Int) 1=((i+n/32+1:Nat):Int):=by rw[qfO]<;>omega
    have b1:=ha.at hi3;have b2:=qgV ha (i+n/32+1);obtain⟨X,hX1⟩:=Int.eq_ofNat_of_zero_le b1.1;obtain⟨Y,hY1⟩:=Int.eq_ofNat_of_zero_le b2.1;have r3:shlV .u64 (lget a (i+n/32+1)) 32=lget a (i+n/32+1)*4294967296:=qrv b2.1 b2.2;have r4:ior .u64 (lget a (i+n/32+1)*4294967296) a[i+n/32]=((Y*4294967296+X:Nat):Int):=by rw[qr0 b2.1 b2.2 b1.1 b1.2,hX1,hY1];omega
    have r5:shrV .u64 ((Y*4294967296+X:Nat):Int) ((n % 32:Nat):Int)=(((Y*4294967296+X)/2 ^ (n % 32):Nat):Int):=qur _ _ (by omega);have r6:(shrL (n % 32) (a.drop (n/32)))[i]=(((Y*4294967296+X)/2 ^ (n % 32):Nat):Int) % 4294967296:=by
     rw[qpS];have g1:lget (a.drop (n/32)) (i+1)=(Y:Int):=by rw[<- hY1];simp only[lget,List.getElem?_drop];congr 2;omega
     have g2:lget (a.drop (n/32)) i=(X:Int):=by rw[<- hX1,<- qqZ hi3];simp only[lget,List.getElem?_drop];congr 2;omega
     have h1:((Y:Int)*4294967296+(X:Int))=((Y*4294967296+X:Nat):Int):=by omega
     rw[g1,g2,h1,qoH]
    rw[r6] at e3;have c2:(i:Int)<((a.length-n/32:Nat):Int):=by omega
    have c3:(0:Int)<=((i+n/32:Nat):Int):=by omega
    have c4:¬ ((n % 32:Nat):Int)<0:=by omega
    have c5:(0:Int)<=(i:Int):=by omega
    have c6:(i:Int)<((fill (shrL (n % 32) (a.drop (n/32))) 0 i).length:Int):=by omega
    have c7:i<(fill (shrL (n % 32) (a.drop (n/32))) 0 i).length:=by omega
    simp only[qda,cnd c2,r1,r2,qlv,bS0,cnd c3,tN0,gE0 hi3,cnd' c4,cnd2 c5 c6,gE0 c7,r3,r4,r5,qeI,e3,qcp (n:=i) (by omega)];simp) (by
    intro g;have:=qqh (shrL (n % 32) (a.drop (n/32))) (0:Int);rw[hX] at this;simp [qda,this])
   rw[qox,hX] at key;have hv:nn (shrL (n % 32) (a.drop (n/32)))=nn a/2 ^ n:=by
    rw[qrK _ hs _ (ha.drop _),hpow,<- Nat.div_div_eq_div_mul];congr 1;have e:nn a=nn (a.take (n/32))+4294967296 ^ (n/32)*nn (a.drop (n/32)):=by
     conv=>lhs;rw[<- List.take_append_drop (n/32) a]
     rw[qbl,List.length_take,Nat.min_eq_left (by omega)]
    have h1:=qec (a.take (n/32));rw[List.length_take,Nat.min_eq_left (by omega)] at h1;rw[e,Nat.add_mul_div_left _ _ (Nat.pow_pos (by decide)),Nat.div_eq_of_lt h1,Nat.zero_add]
   have g2:((a.length-n/32:Nat):Int)<=9223372036854775807:=by omega
   have g3:(0:Int)<=((a.length-n/32:Nat):Int):=by omega
   have g4:((8:Nat):Int)*((a.length-n/32:Nat):Int)<=281474976710656:=by omega
   have key':lp qda K0 ((a,((n/32:Nat):Int),((n % 32:Nat):Int),List.replicate (a.length-n/32) 0,((List.replicate (a.length-n/32) (0:Int)).length:Int),0,()),())=some ((shrL (n % 32) (a.drop (n/32)),()),()):=by simpa using key
   simp only[tN0,key',bS0,qfV (qpQ _ _) (show(shrL (n % 32) (a.drop (n/32))).length<4611686018427387904 by omega),hv,decide_eq_true g2,decide_eq_true g3,decide_eq_true g4,Bool.and_true,decide_true,cond_true]
theorem qvu {x y s:Nat} (hy:y<2 ^ s) (h:x*2 ^ s+y<18446744073709551616):ior .u64 (y:Int) ((x*2 ^ s:Nat):Int)=((x*2 ^ s+y:Nat):Int):=by
 rw[<- qt3 hy h,qpr (by omega) (by omega),qpr (by omega) (by omega),Nat.or_comm]
theorem qsQ {x c P C B:Nat} (hB:C*P=B) (hc:c<P) (hx:x<B) (hB64:B*P<18446744073709551616) (hP:0<P) (hC:0<C) :
   x*P % B=(x % C)*P/\(x % C)*P+c<B/\x*P/B<P/\x*P<18446744073709551616:=by
 refine⟨?_,?_,?_,?_⟩
 · rw[<- hB,Nat.mul_mod_mul_right]
 · have : x % C + 1 <= C := Nat.mod_lt _ hC;have:=Nat.mul_le_mul_right P this;rw[hB,Nat.add_mul] at this;omega
 · rw [Nat.div_lt_iff_lt_mul (by omega), Nat.mul_comm P B];exact Nat.mul_lt_mul_of_pos_right hx hP
 · exact Nat.lt_trans (Nat.mul_lt_mul_of_pos_right hx hP) hB64
theorem qpT {a:List Int} {n:Nat} (ha:Lim a) (hl:a.length<8796093022208) (hn:n<281474976710656):qfH a (n:Int)=some (qaa (nn a*2 ^ n)):=by
 have q1:iquo .i64 (n:Int) 32=((n/32:Nat):Int):=by rw[qt2 (by omega) (by omega) (by omega)];omega
 have q2:irem (n:Int) 32=((n % 32:Nat):Int):=by rw[qoq (by omega)];omega
 unfold qfH;rw[q1,q2];have hpow:2 ^ n=4294967296 ^ (n/32)*2 ^ (n % 32):=by rw[qsM,<- Nat.pow_add];congr 1;omega
 have hw:n/32<8796093022208:=by omega
 have hs:n % 32<32:=by omega
 rw[hpow];generalize n/32=w at *;generalize n % 32=s at *;clear hpow q1 q2 hn;have q3:iadd .i64 (iadd .i64 (a.length:Int) (w:Int)) 1=((a.length+w+1:Nat):Int):=by
  have:iadd .i64 (a.length:Int) (w:Int)=((a.length+w:Nat):Int):=by rw[qfO]<;>omega
  rw[this,qcp (by omega)];omega
 rw[q3];have hB:2 ^ (32-s)*2 ^ s=4294967296:=by rw[<- Nat.pow_add,show 32-s+s=32 by omega]
 have hP:0<2 ^ s:=Nat.pow_pos (by decide);have hC:0<2 ^ (32-s):=Nat.pow_pos (by decide);have hB64:4294967296*2 ^ s<18446744073709551616:=by
  have:2 ^ s<=2 ^ 31:=Nat.pow_le_pow_right (by decide) (by omega);generalize 2 ^ s=P at *;omega
 have hs64:s<=64:=by omega
 have key0:∀ P,P=2 ^ s->∃ r,(∃ (q:List Int) (c:Nat),r=(((List.replicate w 0++q)++[(c:Int)],()),())/\q.length=a.length/\Lim q/\c<P/\nn q+4294967296 ^ a.length*c=nn a*P) /\
    lp qdb K0 (((w:Int),(s:Int),List.replicate (a.length+w+1) 0,a,(a.length:Int),0,()),())=some r:=by
  intro P hPe;refine qky (step:=qdb) (fun i v=>∃ (q:List Int) (c:Nat),v=(((w:Int),(s:Int),(List.replicate w 0++q)++((c:Int)::List.replicate (a.length-i) 0),a,(a.length:Int),(i:Int),()),())/\q.length=i/\Lim q/\c<P/\nn q+4294967296 ^ i*c=nn (a.take i)*P)
    (fun r=>∃ (q:List Int) (c:Nat),r=(((List.replicate w 0++q)++[(c:Int)],()),())/\q.length=a.length/\Lim q/\c<P/\nn q+4294967296 ^ a.length*c=nn a*P) a.length
    ⟨[],0,?_,rfl,Lim.nil,by omega,by simp⟩ (by omega) ?_ ?_
  · have : List.replicate (a.length + w + 1) (0 : Int) = (List.replicate w 0 ++ []) ++ ((0 : Nat) : Int) :: List.replicate (a.length - 0) 0 := by
      rw[List.append_nil,show a.length+w+1=w+(a.length+1) by omega,<- List.replicate_append_replicate,List.replicate_succ];rfl
    rw[this];rfl
  · rintro i v hi ⟨q, c, rfl, hq, hql, hc, hn⟩;have b:=ha.at hi;obtain⟨x,hx⟩:=Int.eq_ofNat_of_zero_le b.1;have hx':x<4294967296:=by omega
    subst hPe;obtain⟨s1,s2,s3,s4⟩:=qsQ hB hc hx' hB64 hP hC;have r1:shlV .u64 a[i] (s:Int)=((x*2 ^ s:Nat):Int):=by rw[hx];exact qut hs64 s4
    have r2:iand .u64 ((x*2 ^ s:Nat):Int) 4294967295=((x % 2 ^ (32-s)*2 ^ s:Nat):Int):=by rw[qeI,<- s1];exact(Int.natCast_emod _ 4294967296).symm
    have r3:ior .u64 (c:Int) ((x % 2 ^ (32-s)*2 ^ s:Nat):Int)=((x % 2 ^ (32-s)*2 ^ s+c:Nat):Int):=qvu hc (Nat.lt_trans s2 (by decide));have r4:shrV .u64 ((x*2 ^ s:Nat):Int) 32=((x*2 ^ s/4294967296:Nat):Int):=by rw[qnC];exact(Int.natCast_ediv _ 4294967296).symm
    have r5:iadd .i64 (i:Int) (w:Int)=((i+w:Nat):Int):=by rw[qfO]<;>omega
    have r6:iadd .i64 ((i+w:Nat):Int) 1=((i+w+1:Nat):Int):=by rw[qfO]<;>omega
    have k3:(a[i] % 4294967296).toNat=x:=by omega
    have hnt:=nnt hi;rw[k3] at hnt;have hk2:nn q+4294967296 ^ i*(x % 2 ^ (32-s)*2 ^ s+c)+4294967296 ^ (i+1)*(x*2 ^ s/4294967296)=nn (a.take (i+1))*2 ^ s:=by
      rw[hnt,Nat.pow_succ,<- s1,Nat.add_mul,<- hn];have:=Nat.div_add_mod (x*2 ^ s) 4294967296;generalize x*2 ^ s/4294967296=Q at *;generalize x*2 ^ s % 4294967296=R at *;rw[Nat.mul_assoc _ x,<- this]
      grind
    generalize hv:x % 2 ^ (32-s)*2 ^ s+c=vv at *;generalize hcc:x*2 ^ s/4294967296=cc at *;have l1:(List.replicate w (0:Int)++q).length=i+w:=by simp [hq];omega
    have l2:(List.replicate w (0:Int)++q++[(vv:Int)]).length=i+w+1:=by simp [hq];omega
    have z:List.replicate (a.length-i) (0:Int)=0::List.replicate (a.length-(i+1)) 0:=by rw[<- List.replicate_succ];congr 1;omega
    have t0:((List.replicate w (0:Int)++q)++((c:Int)::List.replicate (a.length-i) 0))[i+w]?=some (c:Int):=by rw[List.getElem?_append_right (by omega),l1];simp
    have t1:((List.replicate w (0:Int)++q)++((c:Int)::List.replicate (a.length-i) 0)).set (i+w) (vv:Int)=((List.replicate w (0:Int)++q)++[(vv:Int)])++(0::List.replicate (a.length-(i+1)) 0):=by
      rw[List.set_append_right _ _ (by omega),l1,z];simp
    have t2:(((List.replicate w (0:Int)++q)++[(vv:Int)])++(0::List.replicate (a.length-(i+1)) 0)).set (i+w+1) (cc:Int)=(List.replicate w (0:Int)++(q++[(vv:Int)]))++((cc:Int)::List.replicate (a.length-(i+1)) 0):=by
      rw[List.set_append_right _ _ (by omega),l2];simp
    have t3:(((List.replicate w (0:Int)++q)++[(vv:Int)])++(0::List.replicate (a.length-(i+1)) 0))[i+w+1]?=some 0:=by rw[List.getElem?_append_right (by omega),l2];simp
    have c1:(i:Int)<(a.length:Int):=by omega
    have c2:(0:Int)<=(i:Int):=by omega
    have c3:¬ (s:Int)<0:=by omega
    have c4:(0:Int)<=((i+w:Nat):Int):=by omega
    have c5:((i+w:Nat):Int)<(((List.replicate w (0:Int)++q)++((c:Int)::List.replicate (a.length-i) 0)).length:Int):=by rw[List.length_append,l1,List.length_cons];omega
    have c6:(0:Int)<=((i+w+1:Nat):Int):=by omega
    have c7:((i+w+1:Nat):Int)<((((List.replicate w (0:Int)++q)++[(vv:Int)])++(0::List.replicate (a.length-(i+1)) 0)).length:Int):=by rw[List.length_append,l2,List.length_cons];omega
    refine⟨(((w:Int),(s:Int),(List.replicate w 0++(q++[(vv:Int)]))++((cc:Int)::List.replicate (a.length-(i+1)) 0),a,(a.length:Int),((i+1:Nat):Int),()),()),⟨_,cc,rfl,by simp [hq],Lim.append hql (Lim.cons (by omega) Lim.nil),s3,?_⟩,fun g=>?_⟩
    · rw [qbl, hq, qlp _ (by omega), tN0];exact hk2
    · simp only [qdb, cnd c1, cnd c2, tN0, gE0 hi, bS0, cnd' c3, r5, cnd2 c4 c5, t0, r6, r1, r2, r3, r4, t1, cnd2 c6 c7, t3, t2, qcp (n := i) (by omega)];rfl
  · rintro v ⟨q, c, rfl, hq, hql, hc, hn⟩;rw[List.take_length] at hn;exact⟨_,⟨q,c,rfl,hq,hql,hc,hn⟩,fun g=>by simp [qdb]⟩
 obtain⟨r,⟨q,c,rfl,hq,hql,hc,hnq⟩,hlp⟩:=key0 _ rfl;have hc32:c<4294967296:=by
  have:2 ^ s<=2 ^ 32:=Nat.pow_le_pow_right (by decide) (by omega);generalize 2 ^ s=P at *;omega
 have hval:nn ((List.replicate w (0:Int)++q)++[(c:Int)])=nn a*(4294967296 ^ w*2 ^ s):=by
  rw[List.append_assoc,qbl,qbl,qpZ,List.length_replicate,hq,qlp _ (by omega),tN0,hnq];generalize 2 ^ s=P at *
  grind
 have g2:((a.length+w+1:Nat):Int)<=9223372036854775807:=by omega
 have g3:(0:Int)<=((a.length+w+1:Nat):Int):=by omega
 have g4:((8:Nat):Int)*((a.length+w+1:Nat):Int)<=281474976710656:=by omega
 have hlim:Lim ((List.replicate w (0:Int)++q)++[(c:Int)]):=Lim.append (Lim.append (Lim.zeros _) hql) (Lim.cons (by omega) Lim.nil);simp only[tN0,hlp,bS0,qfV hlim (show((List.replicate w (0:Int)++q)++[(c:Int)]).length<4611686018427387904 by simp [hq];omega),hval,decide_eq_true g2,decide_eq_true g3,decide_eq_true g4,Bool.and_true,decide_true,cond_true]
theorem qpY {α:Type} {a b:List α} (h:b.length=a.length):over a 0 b=b:=by simp [over,h]
theorem qtW {α:Type} {p u:List α} {i:Nat} (x:α) (hp:p.length=i) (hi:i<u.length):(p++u.drop i).set i x=(p++[x])++u.drop (i+1):=by
 subst hp;rw[List.set_append_right _ _ (by omega),Nat.sub_self,List.drop_eq_getElem_cons hi,List.set_cons_zero,List.append_assoc];rfl
theorem qup {u v:List Int} {t:Nat} (hu:Lim u) (hv:Lim v) (hl:u.length<35184372088832) (hlv:v.length<u.length) (ht:t<4294967296) :
  ∃ (w:List Int) (d:Nat),qi8 u v (t:Int)=some (w,decide (d=1))/\w.length=u.length/\Lim w/\d<=1/\nn w+t*nn v=nn u+4294967296 ^ u.length*d:=by
 obtain⟨r,⟨p,d,rfl,hp,hpl,hd,hpn⟩,hlp⟩:=qky (step:=qc5) (fun i s=>∃ (p:List Int) (c d:Nat),s=((p++u.drop i,v,(t:Int),(c:Int),(d:Int),(u.length:Int),(i:Int),()),())/\p.length=i/\Lim p/\c<4294967296/\d<=1/\nn p+t*nn (v.take i)=nn (u.take i)+4294967296 ^ i*(d+c)/\(v.length<i->c=0))
  (fun r=>∃ (p:List Int) (d:Nat),r=((p,(d:Int),()),())/\p.length=u.length/\Lim p/\d<=1/\nn p+t*nn v=nn u+4294967296 ^ u.length*d) u.length (v:=((u,v,(t:Int),0,0,(u.length:Int),0,()),()))
  ⟨[], 0, 0, by simp, rfl, Lim.nil, by omega, by omega, by simp, by omega⟩ (by omega) (by
   rintro i s hi ⟨p,c,d,rfl,hp,hpl,hc,hd,hs,h0⟩;have b1:=hu.at hi;have b2:=qgV hv i;obtain⟨y,hy⟩:=Int.eq_ofNat_of_zero_le b2.1;obtain⟨x,hx⟩:=Int.eq_ofNat_of_zero_le b1.1;have bt:(0:Int)<=(t:Int)/\(t:Int)<4294967296:=by omega
   obtain⟨m0,m1,m2,m3⟩:=qol bt b2 (show(0:Int)<=(c:Int)/\(c:Int)<4294967296 by omega) (show(0:Int)<=0/\(0:Int)<4294967296 by omega);have hm:(t:Int)*lget v i=((t*y:Nat):Int):=by rw[hy,Int.natCast_mul]
   have q1:imul .u64 (t:Int) (lget v i)=((t*y:Nat):Int):=by rw[qr2 m0 m1,hm]
   rw[hm] at m0 m1 m2 m3;have hty:t*y<=4294967295*4294967295:=Nat.mul_le_mul (by omega) (by omega);have q2:iadd .u64 (c:Int) ((t*y:Nat):Int)=((c+t*y:Nat):Int):=by rw[qiv (by omega) (by omega)];omega
   have q3:iadd .u64 4294967296 u[i]=4294967296+u[i]:=qiv (by omega) (by omega);have hlow:iand .u64 ((c+t*y:Nat):Int) 4294967295=(((c+t*y) % 4294967296:Nat):Int):=by rw[qeI];exact(Int.natCast_emod _ 4294967296).symm
   have hhi:shrV .u64 ((c+t*y:Nat):Int) 32=(((c+t*y)/4294967296:Nat):Int):=by rw[qnC];exact(Int.natCast_ediv _ 4294967296).symm
   have hnt:=qdT v i;have hdm:=Nat.div_add_mod (c+t*y) 4294967296;have hlt:=Nat.mod_lt (c+t*y) (show 0<4294967296 by decide);have hcc:(c+t*y)/4294967296<4294967296:=by omega
   have hc0:v.length<i+1->(c+t*y)/4294967296=0:=by
     intro h;have:y=0:=by
      have:lget v i=0:=by simp only[lget];rw[List.getElem?_eq_none (by omega)];rfl
      omega
     subst this;omega
   generalize hL:(c+t*y) % 4294967296=lo at *;generalize hH:(c+t*y)/4294967296=hg at *;have q4:isub .u64 (4294967296+u[i]) (lo:Int)=4294967296+u[i]-lo:=qjk (by omega) (by omega);have q5:isub .u64 (4294967296+u[i]-(lo:Int)) (d:Int)=((4294967296+x-lo-d:Nat):Int):=by rw[qjk (by omega) (by omega)];omega
   have q6:iand .u64 ((4294967296+x-lo-d:Nat):Int) 4294967295=(((4294967296+x-lo-d) % 4294967296:Nat):Int):=by rw[qeI];exact(Int.natCast_emod _ 4294967296).symm
   have q7:isub .u64 1 (shrV .u64 ((4294967296+x-lo-d:Nat):Int) 32)=((1-(4294967296+x-lo-d)/4294967296:Nat):Int):=by
     rw[qnC,qjk (by omega) (by omega)];omega
   have hdd:(4294967296+x-lo-d) % 4294967296+lo+d=x+4294967296*(1-(4294967296+x-lo-d)/4294967296):=by omega
   have hd1:1-(4294967296+x-lo-d)/4294967296<=1:=by omega
   have ho:(4294967296+x-lo-d) % 4294967296<4294967296:=by omega
   generalize (4294967296+x-lo-d) % 4294967296=o at *;generalize 1-(4294967296+x-lo-d)/4294967296=d' at *;refine⟨(((p++[(o:Int)])++u.drop (i+1),v,(t:Int),(hg:Int),(d':Int),(u.length:Int),((i+1:Nat):Int),()),()),⟨_,_,_,rfl,by simp [hp],Lim.append hpl (Lim.cons (by omega) Lim.nil),hcc,hd1,?_,hc0⟩,fun g=>?_⟩
   · rw [qbl, hp, qlp _ (by omega), qdT v i, nnt hi, Nat.pow_succ, tN0];have k1:(lget v i % 4294967296).toNat=y:=by omega
     have k2:(u[i] % 4294967296).toNat=x:=by omega
     rw[k1,k2];have k3:4294967296 ^ i*(o+lo+d)=4294967296 ^ i*(x+4294967296*d'):=by rw[hdd]
     have k4:4294967296 ^ i*(4294967296*hg+lo)=4294967296 ^ i*(c+t*y):=by rw[hdm]
     grind
   · have e5 : (p ++ u.drop i).length = u.length := by simp [hp]; omega
     have e6:(p++u.drop i)[i]?=some u[i]:=by rw[List.getElem?_append_right (by omega),hp,Nat.sub_self,List.getElem?_drop,Nat.add_zero];exact gE0 hi
     have c1:(i:Int)<(u.length:Int):=by omega
     have c2:(0:Int)<=(i:Int):=by omega
     have c3:(i:Int)<((p++u.drop i).length:Int):=by omega
     simp only[qc5,cnd c1,qlv,bS0,cnd2 c2 c3,tN0,e6,q1,q2,hlow,q3,q4,q5,q6,q7,hhi,qtW _ hp hi,qcp (n:=i) (by omega)];rfl) (by
   rintro s ⟨p,c,d,rfl,hp,hpl,hc,hd,hs,h0⟩;have:=h0 hlv;subst this;rw[List.take_of_length_le (Nat.le_of_lt hlv),List.take_length] at hs;exact⟨((p,(d:Int),()),()),⟨p,d,rfl,hp,hpl,hd,by simpa using hs⟩,fun g=>by simp [qc5]⟩)
 refine⟨p,d,?_,hp,hpl,hd,hpn⟩;have:decide ((d:Int)=1)=decide (d=1):=by by_cases h:d=1<;>simp [h];omega
 simp [qi8,hlp,hp,this]
theorem quT {u v:List Int} (hu:Lim u) (hv:Lim v) (hl:u.length<35184372088832) (hlv:v.length<=u.length) :
  ∃ (w:List Int) (c:Nat),qjc u v=some w/\w.length=u.length/\Lim w/\c<=1/\nn w+4294967296 ^ u.length*c=nn u+nn v:=by
 obtain⟨r,⟨p,c,rfl,hp,hpl,hc,hpn⟩,hlp⟩:=qky (step:=qc6) (fun i s=>∃ (p:List Int) (c:Nat),s=((p++u.drop i,v,(c:Int),(u.length:Int),(i:Int),()),())/\p.length=i/\Lim p/\c<=1/\nn p+4294967296 ^ i*c=nn (u.take i)+nn (v.take i))
  (fun r=>∃ (p:List Int) (c:Nat),r=((p,()),())/\p.length=u.length/\Lim p/\c<=1/\nn p+4294967296 ^ u.length*c=nn u+nn v) u.length (v:=((u,v,0,(u.length:Int),0,()),()))
  ⟨[], 0, by simp, rfl, Lim.nil, by omega, by simp⟩ (by omega) (by
   rintro i s hi ⟨p,c,rfl,hp,hpl,hc,hs⟩;have b1:=hu.at hi;have b2:=qgV hv i;have q1:iadd .u64 u[i] (lget v i)=u[i]+lget v i:=qiv (by omega) (by omega);have q2:iadd .u64 (c:Int) (u[i]+lget v i)=c+(u[i]+lget v i):=qiv (by omega) (by omega);have e4:((((c:Int)+(u[i]+lget v i))/4294967296).toNat:Int)=((c:Int)+(u[i]+lget v i))/4294967296:=by omega
   refine⟨(((p++[((c:Int)+(u[i]+lget v i)) % 4294967296])++u.drop (i+1),v,((((c:Int)+(u[i]+lget v i))/4294967296).toNat:Int),(u.length:Int),((i+1:Nat):Int),()),()),⟨_,_,rfl,by simp [hp],Lim.append hpl (Lim.cons (by omega) Lim.nil),by omega,?_⟩,fun g=>?_⟩
   · rw [qbl, hp, qlp _ (by omega), qdT v i, nnt hi, Nat.pow_succ];have k1:(((c:Int)+(u[i]+lget v i)) % 4294967296).toNat+4294967296*(((c:Int)+(u[i]+lget v i))/4294967296).toNat=c+(u[i] % 4294967296).toNat+(lget v i % 4294967296).toNat:=by omega
     have k2:4294967296 ^ i*((((c:Int)+(u[i]+lget v i)) % 4294967296).toNat+4294967296*(((c:Int)+(u[i]+lget v i))/4294967296).toNat)=4294967296 ^ i*(c+(u[i] % 4294967296).toNat+(lget v i % 4294967296).toNat):=by rw[k1]
     grind
   · have e5 : (p ++ u.drop i).length = u.length := by simp [hp]; omega
     have e6:(p++u.drop i)[i]?=some u[i]:=by rw[List.getElem?_append_right (by omega),hp,Nat.sub_self,List.getElem?_drop,Nat.add_zero];exact gE0 hi
     have c1:(i:Int)<(u.length:Int):=by omega
     have c2:(0:Int)<=(i:Int):=by omega
     have c3:(i:Int)<((p++u.drop i).length:Int):=by omega
     simp only[qc6,cnd c1,qlv,bS0,cnd2 c2 c3,tN0,e6,q1,q2,qeI,qnC,e4,qtW _ hp hi,qcp (n:=i) (by omega)];rfl) (by
   rintro s ⟨p,c,rfl,hp,hpl,hc,hs⟩;rw[List.take_of_length_le hlv,List.take_length] at hs;exact⟨((p,()),()),⟨p,c,rfl,hp,hpl,hc,hs⟩,fun g=>by simp [qc6]⟩)
 refine⟨p,c,?_,hp,hpl,hc,hpn⟩;simp [qjc,hlp,hp]
section
variable {U V D B u2 ul two v1 v2 vl g r:Nat}
theorem qop (hU:U=ul+D*(u2+B*two)) (hV:V=vl+D*(v2+B*v1)) (hvl:vl<D) (hv1:0<v1) (ht:g*v1+r=two) (hg:g<B) (hle:g*v2<=r*B+u2):g*V<U+V:=by
 have h1:U=ul+D*(u2+r*B)+D*B*(g*v1):=by rw[hU,<- ht];grind
 have h2:g*V=g*vl+D*(g*v2)+D*B*(g*v1):=by rw[hV];grind
 have h3:D*(g*v2)<=D*(u2+r*B):=Nat.mul_le_mul_left _ (by omega);have h4:g*vl<B*D:=Nat.mul_lt_mul'' hg hvl;have h5:D*(B*1)<=D*(v2+B*v1):=Nat.mul_le_mul_left _ (by have:=Nat.mul_le_mul_left B hv1;omega);have h6:D*(B*1)=B*D:=by rw[Nat.mul_one,Nat.mul_comm]
 omega
theorem qq2 (hU:U=ul+D*(u2+B*two)) (hV:V=vl+D*(v2+B*v1)) (hul:ul<D) (ht:g*v1+r=two) (hgt:r*B+u2<g*v2):U<g*V:=by
 have h1:U=ul+D*(u2+r*B)+D*B*(g*v1):=by rw[hU,<- ht];grind
 have h2:g*V=g*vl+D*(g*v2)+D*B*(g*v1):=by rw[hV];grind
 have h3:D*(u2+r*B+1)<=D*(g*v2):=Nat.mul_le_mul_left _ (by omega);have h4:D*(u2+r*B+1)=D*(u2+r*B)+D:=by rw[Nat.mul_add,Nat.mul_one]
 omega
theorem qpp (hU:U=ul+D*(u2+B*two)) (hV:V=vl+D*(v2+B*v1)) (hul:ul<D) (hu2:u2<B) (ht:g*v1+r=two) (hr:r<v1):U<(g+1)*V:=by
 have h1:two+1<=(g+1)*v1:=by rw[Nat.add_mul];omega
 have h2:D*(u2+B*two+1)<=D*(B*(two+1)):=Nat.mul_le_mul_left _ (by rw[Nat.mul_add,Nat.mul_one];omega);have h3:D*(B*(two+1))<=D*(B*((g+1)*v1)):=Nat.mul_le_mul_left _ (Nat.mul_le_mul_left _ h1);have h4:(g+1)*V=(g+1)*vl+(g+1)*(D*v2)+D*(B*((g+1)*v1)):=by rw[hV];grind
 have h5:D*(u2+B*two+1)=D*(u2+B*two)+D:=by rw[Nat.mul_add,Nat.mul_one]
 omega
theorem qjU (h2:two<=v1*B+(B-1)) (hB:0<B) (ht:g*v1+r=two) (hr:B<=r):g<B:=by
 rcases Nat.lt_or_ge g B with h | h
 · exact h
 · have := Nat.mul_le_mul_right v1 h;rw[Nat.mul_comm B] at this;omega
theorem qq1 (hg:g<B) (hv2:v2<B) (hr:B<=r):g*v2<=r*B+u2:=by
 have h1:g*v2<=B*B:=Nat.mul_le_mul (Nat.le_of_lt hg) (Nat.le_of_lt hv2);have h2:B*B<=r*B:=Nat.mul_le_mul_right _ hr;omega
theorem qtl {w:Nat} (hV:0<V) (hw:w+g*V=U) (h:U<(g+1)*V):U/V=g/\U % V=w:=by
 rw[Nat.add_mul,Nat.one_mul] at h;have h1:U/V=g:=by
  rw[Nat.div_eq_iff hV];omega
 have:=Nat.div_add_mod U V;rw[h1,Nat.mul_comm] at this;exact⟨h1,by omega⟩
theorem qq3 {w w' P c:Nat} (hV:0<V) (hw:w+g*V=U+P) (hwP:w<P) (h:g*V<U+V) (hc:c<=1) (hw':w'+P*c=w+V) (hwP':w'<P):0<g/\U/V=g-1/\U % V=w':=by
 have hg0:0<g:=by
  rcases Nat.eq_zero_or_pos g with h | h
  · subst h;omega
  · exact h
 have hgv2:g*V=(g-1)*V+V:=by
  conv=>lhs;rw[show g=(g-1)+1 by omega,Nat.add_mul,Nat.one_mul]
 have hc1:c=1:=by
  rcases Nat.eq_zero_or_pos c with h | h
  · subst h;omega
  · omega
 subst hc1;have h1:U/V=g-1:=by
  rw[Nat.div_eq_iff hV];omega
 have:=Nat.div_add_mod U V;rw[h1,Nat.mul_comm] at this;exact⟨hg0,h1,by omega⟩
end
theorem qs6 {u:List Int} {m:Nat} (hu:Lim u) (h:u.length=m+3) {x y z:Nat} (hx:u[m]?=some (x:Int)) (hy:u[m+1]?=some (y:Int)) (hz:u[m+2]?=some (z:Int)):nn u=nn (u.take m)+4294967296 ^ m*(x+4294967296*(z*4294967296+y)):=by
 have e1:=qcr hx;have e2:=qcr hy;have e3:=qcr hz;rw[List.take_of_length_le (by omega)] at e3;have bx:=hu.get hx;have by_:=hu.get hy;have bz:=hu.get hz;have k1:((x:Int) % 4294967296).toNat=x:=by omega
 have k2:((y:Int) % 4294967296).toNat=y:=by omega
 have k3:((z:Int) % 4294967296).toNat=z:=by omega
 rw[k1] at e1;rw[k2] at e2;rw[k3] at e3;rw[e3,e2,e1,Nat.pow_succ,Nat.pow_succ]
 grind
theorem qs7 {u:List Int} {m:Nat} (hu:Lim u) (h:u.length=m+2) {x y:Nat} (hx:u[m]?=some (x:Int)) (hy:u[m+1]?=some (y:Int)):nn u=nn (u.take m)+4294967296 ^ m*(x+4294967296*y):=by
 have e1:=qcr hx;have e2:=qcr hy;rw[List.take_of_length_le (by omega)] at e2;have bx:=hu.get hx;have by_:=hu.get hy;have k1:((x:Int) % 4294967296).toNat=x:=by omega
 have k2:((y:Int) % 4294967296).toNat=y:=by omega
 rw[k1] at e1;rw[k2] at e2;rw[e2,e1,Nat.pow_succ]
 grind
theorem qmm {u:List Int} (hu:Lim u) {i:Nat} (h:i<u.length):∃ x:Nat,u[i]?=some (x:Int)/\x<4294967296:=by
 have b:=hu.at h;obtain⟨x,hx⟩:=Int.eq_ofNat_of_zero_le b.1;exact⟨x,by rw[gE0 h,hx],by omega⟩
theorem qq9 {u v:List Int} {m:Nat} (hu:Lim u) (hv:Lim v) (hul:u.length=m+3) (hvl:v.length=m+2) (hm:m<35184372088832)
  {x y z p q:Nat} (hx:u[m]?=some (x:Int)) (hy:u[m+1]?=some (y:Int)) (hz:u[m+2]?=some (z:Int)) (hp:v[m]?=some (p:Int)) (hq:v[m+1]?=some (q:Int))
  (hx':x<4294967296) (hy':y<4294967296) (hz':z<4294967296) (hp':p<4294967296) (hq':q<4294967296)
  (hn:4294967296<=2*q) (hlt:nn u<4294967296*nn v) :
  ∃ g:Nat,g<4294967296/\nn u<(g+1)*nn v/\g*nn v<nn u+nn v /\
    lp qba K0 ((u,v,((m+2:Nat):Int),(((z*4294967296+y)/q:Nat):Int),(((z*4294967296+y) % q:Nat):Int),()),())=some ((u,v,(g:Int),()),()):=by
 have hU:=qs6 hu hul hx hy hz;have hV:=qs7 hv hvl hp hq;have hul':=qec (u.take m);have hvl':=qec (v.take m);rw[List.length_take,Nat.min_eq_left (by omega)] at hul' hvl';have hq0:0<q:=by omega
 have hzq:z<=q:=by
  rcases Nat.lt_or_ge q z with h | h
  · exfalso;have h1:4294967296 ^ m*(4294967296*((q+1)*4294967296))<=4294967296 ^ m*(x+4294967296*(z*4294967296+y)):=Nat.mul_le_mul_left _ (by omega);have h2:4294967296 ^ m*(p+4294967296*q+1)<=4294967296 ^ m*(4294967296*(q+1)):=Nat.mul_le_mul_left _ (by omega);have h3:4294967296 ^ m*(p+4294967296*q+1)=4294967296 ^ m*(p+4294967296*q)+4294967296 ^ m:=by rw[Nat.mul_add,Nat.mul_one]
    have h4:4294967296 ^ m*(4294967296*((q+1)*4294967296))=4294967296*(4294967296 ^ m*(4294967296*(q+1))):=by grind
    omega
  · exact h
 have htwo:z*4294967296+y<=q*4294967296+(4294967296-1):=by omega
 have hg0:(z*4294967296+y)/q<=4294967297:=by
  rw[Nat.div_le_iff_le_mul hq0];omega
 have hdm:=Nat.div_add_mod (z*4294967296+y) q;have hml:=Nat.mod_lt (z*4294967296+y) hq0;rw[Nat.mul_comm] at hdm;obtain⟨g0,hG0⟩:∃ t,t=(z*4294967296+y)/q:=⟨_,rfl⟩;obtain⟨r0,hR0⟩:∃ t,t=(z*4294967296+y) % q:=⟨_,rfl⟩;rw[<- hG0] at hg0 hdm ⊢;rw[<- hR0] at hml hdm ⊢;clear hG0 hR0;obtain⟨two,hTW⟩:∃ t,t=z*4294967296+y:=⟨_,rfl⟩;rw[<- hTW] at hU htwo hdm;have hfirst:nn u<(g0+1)*nn v:=qpp hU hV hul' hx' hdm hml;obtain⟨r,⟨g,rfl,h1,h2,h3⟩,hlp⟩:=qm9 (step:=qba)
  (fun s=>∃ g r:Nat,s=((u,v,((m+2:Nat):Int),(g:Int),(r:Int),()),())/\g*q+r=two/\r<4294967296/\g<=4294967297/\nn u<(g+1)*nn v) (fun s=>s.1.2.2.2.1.toNat)
  (fun t=>∃ g:Nat,t=((u,v,(g:Int),()),())/\g<4294967296/\nn u<(g+1)*nn v/\g*nn v<nn u+nn v) (v:=((u,v,((m+2:Nat):Int),(g0:Int),(r0:Int),()),()))
  ⟨g0,r0,rfl,hdm,by omega,hg0,hfirst⟩ (by simp;omega) (by
    rintro s ⟨g,r,rfl,ht,hr,hg,hgu⟩;have i1:isub .i64 ((m+2:Nat):Int) 1=((m+1:Nat):Int):=by rw[qeW]<;>omega
    have i2:isub .i64 ((m+2:Nat):Int) 2=((m:Nat):Int):=by rw[qeW]<;>omega
    have i3:iadd .u64 (r:Int) (q:Int)=((r+q:Nat):Int):=by rw[qiv]<;>omega
    have c1:(0:Int)<=((m+1:Nat):Int):=by omega
    have c2:(0:Int)<=((m:Nat):Int):=by omega
    have c3:((m:Nat):Int)<(u.length:Int):=by omega
    have back:0<g->nn u<g*nn v->(∀ k,qba k ((u,v,((m+2:Nat):Int),(g:Int),(r:Int),()),())=bif decide (((r+q:Nat):Int)>=4294967296) then some ((u,v,(((g-1:Nat)):Int),()),()) else k ((u,v,((m+2:Nat):Int),((g-1:Nat):Int),((r+q:Nat):Int),()),())) ->
        (∃ t,(∃ g:Nat,t=((u,v,(g:Int),()),())/\g<4294967296/\nn u<(g+1)*nn v/\g*nn v<nn u+nn v)/\∀ k,qba k ((u,v,((m+2:Nat):Int),(g:Int),(r:Int),()),())=some t) \/
        ∃ s',(∃ g r:Nat,s'=((u,v,((m+2:Nat):Int),(g:Int),(r:Int),()),())/\g*q+r=two/\r<4294967296/\g<=4294967297/\nn u<(g+1)*nn v)/\s'.1.2.2.2.1.toNat<(g:Int).toNat/\∀ k,qba k ((u,v,((m+2:Nat):Int),(g:Int),(r:Int),()),())=k s':=by
      intro hg1 hgu' hk;have ht':(g-1)*q+(r+q)=two:=by
        have:g*q=(g-1)*q+q:=by
          conv=>lhs;rw[show g=(g-1)+1 by omega,Nat.add_mul,Nat.one_mul]
        omega
      have hgg:nn u<(g-1+1)*nn v:=by rw[show g-1+1=g by omega];exact hgu'
      by_cases hb:4294967296<=r+q
      · refine .inl ⟨_, ⟨g - 1, rfl, ?_, hgg, ?_⟩, fun k => by rw [hk]; exact cnd (by omega)⟩
        · exact qjU htwo (by decide) ht' hb
        · exact qop hU hV hvl' hq0 ht' (qjU htwo (by decide) ht' hb) (qq1 (qjU htwo (by decide) ht' hb) hp' hb)
      · exact .inr ⟨_,⟨g-1,r+q,rfl,ht',by omega,by omega,hgg⟩,by show(((g-1:Nat)):Int).toNat<(g:Int).toNat;omega,fun k=>by rw[hk];exact cnd' (by omega)⟩
    by_cases hB:4294967296<=g
    · have i4 : isub .u64 (g : Int) 1 = ((g - 1 : Nat) : Int) := by rw [qjk] <;> omega
      refine back (by omega) ?_ ?_
      · exact Nat.lt_of_lt_of_le hlt (Nat.mul_le_mul_right _ hB)
      · intro k;have c4:(g:Int)>=4294967296:=by omega
        simp only[qba,cnd c4,i1,cnd c1,tN0,hq,bS0,i3,i4]
    · have hgp : g * p <= 4294967295 * 4294967295 := Nat.mul_le_mul (by omega) (by omega);have i5:imul .u64 (g:Int) (p:Int)=((g*p:Nat):Int):=by rw[qr2]<;>rw[<- Int.natCast_mul]<;>omega
      have i6:ior .u64 (shlV .u64 (r:Int) 32) (x:Int)=((r*4294967296+x:Nat):Int):=by rw[qrv (by omega) (by omega),qr0 (by omega) (by omega) (by omega) (by omega)];omega
      have c4:¬ (g:Int)>=4294967296:=by omega
      by_cases hgt:r*4294967296+x<g*p
      · have hg1 : 0 < g := by
          rcases Nat.eq_zero_or_pos g with h | h
          · subst h;omega
          · exact h
        have i4:isub .u64 (g:Int) 1=((g-1:Nat):Int):=by rw[qjk]<;>omega
        refine back hg1 (qq2 hU hV hul' ht hgt) ?_;intro k;have c5:((g*p:Nat):Int)>((r*4294967296+x:Nat):Int):=by omega
        rw[qba,cnd' c4,i2,cnd c2,tN0,hp,bS0,cnd2 c2 c3,hx,bS0,i5,i6,cnd c5,i1,cnd c1,tN0,hq,bS0,i3,i4]
      · have c5 : ¬ ((g * p : Nat) : Int) > ((r * 4294967296 + x : Nat) : Int) := by omega
        refine .inl ⟨_,⟨g,rfl,by omega,hgu,qop hU hV hvl' hq0 ht (by omega) (by omega)⟩,fun k=>?_⟩;rw[qba,cnd' c4,i2,cnd c2,tN0,hp,bS0,cnd2 c2 c3,hx,bS0,i5,i6,cnd' c5])
 exact⟨g,h1,h2,h3,hlp⟩
theorem qtx {u v:List Int} {m:Nat} (hu:Lim u) (hv:Lim v) (hul:u.length=m+3) (hvl:v.length=m+2) (hm:m<17592186044416)
   {q:Nat} (hq:v[m+1]?=some (q:Int)) (hn:4294967296<=2*q) (hlt:nn u<4294967296*nn v) :
   ∃ w:List Int,qgs u v=some (w,((nn u/nn v:Nat):Int))/\w.length=u.length/\Lim w/\nn w=nn u % nn v:=by
 obtain⟨x,hx,hx'⟩:=qmm hu (i:=m) (by omega);obtain⟨y,hy,hy'⟩:=qmm hu (i:=m+1) (by omega);obtain⟨z,hz,hz'⟩:=qmm hu (i:=m+2) (by omega);obtain⟨p,hp,hp'⟩:=qmm hv (i:=m) (by omega);have hq':q<4294967296:=by have:=hv.get hq;omega
 obtain⟨g,hg,hg1,hg2,hlp⟩:=qq9 hu hv hul hvl (by omega) hx hy hz hp hq hx' hy' hz' hp' hq' hn hlt;obtain⟨w,d,htk,hw,hwl,hd,hwn⟩:=qup hu hv (by omega) (by omega) hg;have hV0:0<nn v:=by
   rcases Nat.eq_zero_or_pos (nn v) with h | h
   · rw[h] at hlt;omega
   · exact h
 have hwlt:=qec w;rw[hw] at hwlt;have e0:((v.length:Nat):Int)=((m+2:Nat):Int):=by omega
 have e1:isub .i64 ((m+2:Nat):Int) 1=((m+1:Nat):Int):=by rw[qeW]<;>omega
 have c1:(0:Int)<=((m+2:Nat):Int):=by omega
 have c2:((m+2:Nat):Int)<((u.length:Nat):Int):=by omega
 have c3:(0:Int)<=((m+1:Nat):Int):=by omega
 have c4:((m+1:Nat):Int)<((u.length:Nat):Int):=by omega
 have c5:¬ (q:Int)=0:=by omega
 have i6:ior .u64 (shlV .u64 (z:Int) 32) (y:Int)=((z*4294967296+y:Nat):Int):=by rw[qrv (by omega) (by omega),qr0 (by omega) (by omega) (by omega) (by omega)];omega
 have i7:iquo .u64 ((z*4294967296+y:Nat):Int) (q:Int)=(((z*4294967296+y)/q:Nat):Int):=by rw[qt1 (by omega) (by omega) (by omega)];exact(Int.natCast_ediv _ _).symm
 have i8:irem ((z*4294967296+y:Nat):Int) (q:Int)=(((z*4294967296+y) % q:Nat):Int):=by rw[qoq (by omega)];exact(Int.natCast_emod _ _).symm
 have ov:over u 0 w=w:=qpY hw;by_cases hd0:d=0
 · subst hd0;obtain⟨hq2,hr2⟩:=qtl hV0 (by simpa using hwn) hg1;refine⟨w,?_,hw,hwl,hr2.symm⟩;rw[qgs,e0,e1,cnd2 c1 c2,tN0,hz,bS0,cnd2 c3 c4,tN0,hy,bS0,cnd c3,hq,bS0,cnd' c5,cnd c3,bS0,cnd' c5,i6,i7,i8,hlp,bS0,htk,bS0,hq2];simp [hw,ov]
 · have hd1 : d = 1 := by omega
   subst hd1;obtain⟨w',c,hgv,hw',hwl',hc,hwn'⟩:=quT hwl hv (by omega) (by omega);rw[hw] at hwn' hw';have hw'lt:=qec w';rw[hw'] at hw'lt;obtain⟨hg0,hq2,hr2⟩:=qq3 hV0 (by simpa using hwn) hwlt hg2 hc hwn' hw'lt;refine⟨w',?_,hw',hwl',hr2.symm⟩;have i9:isub .u64 (g:Int) 1=((g-1:Nat):Int):=by rw[qjk]<;>omega
   have ov2:over w 0 w'=w':=qpY (by omega);rw[qgs,e0,e1,cnd2 c1 c2,tN0,hz,bS0,cnd2 c3 c4,tN0,hy,bS0,cnd c3,hq,bS0,cnd' c5,cnd c3,bS0,cnd' c5,i6,i7,i8,hlp,bS0,htk,bS0,hq2,ov];simp [hgv,ov2,hw',i9]
theorem qaK {n m:Nat} (h:n<=m):(qaa n).length<=(qaa m).length:=by
 rcases Nat.lt_or_ge (qaa m).length (qaa n).length with h1 | h1
 · have:=qlw h1;omega
 · exact h1
theorem qhA (a:List Int):nn (a++[0,0])=nn a:=by rw[qbl];simp [nn]
theorem qsO {n s x D:Nat} {t:Nat} (hn:n=t+D*x) (ht:t<D) (hx:x*2 ^ s<4294967296) (hx1:(x+1)*2 ^ s<=4294967296) (hx2:2147483648<=x*2 ^ s):n*2 ^ s<D*4294967296/\D*2147483648<=n*2 ^ s:=by
 generalize 2 ^ s=P at *;subst hn;constructor
 · have h1 : (t + D * x) + 1 <= D * (x + 1) := by rw [Nat.mul_add, Nat.mul_one]; omega
   have hP:0<P:=by
    rcases Nat.eq_zero_or_pos P with h | h
    · subst h;omega
    · exact h
   have h2:=Nat.mul_le_mul_right P h1;have h3:D*((x+1)*P)<=D*4294967296:=Nat.mul_le_mul_left _ hx1;rw[Nat.mul_assoc] at h2;rw[Nat.add_mul,Nat.one_mul] at h2;omega
 · have h1 : D * 2147483648 <= D * (x * P) := Nat.mul_le_mul_left _ hx2;have h2:(t+D*x)*P=t*P+D*(x*P):=by rw[Nat.add_mul,Nat.mul_assoc]
   omega
theorem qrV {x:Nat} (h:x≠0) (hx:x<4294967296):∃ k,lenN x=k/\0<k/\k<=32/\x*2 ^ (32-k)<4294967296/\(x+1)*2 ^ (32-k)<=4294967296/\2147483648<=x*2 ^ (32-k):=by
 have h1:=Nat.log2_self_le h;have h2:x<2 ^ (x.log2+1):=Nat.lt_log2_self;have h3:x.log2<32:=(Nat.log2_lt h).2 hx;refine⟨x.log2+1,by simp [lenN,h],by omega,by omega,?_⟩;generalize x.log2=l at *;have p1:2 ^ (l+1)*2 ^ (32-(l+1))=4294967296:=by rw[<- Nat.pow_add,show l+1+(32-(l+1))=32 by omega]
 have p2:2 ^ l*2 ^ (32-(l+1))=2147483648:=by rw[<- Nat.pow_add,show l+(32-(l+1))=31 by omega]
 have hP:0<2 ^ (32-(l+1)):=Nat.pow_pos (by decide);generalize 2 ^ (32-(l+1))=P at *;generalize 2 ^ (l+1)=Q at *;generalize 2 ^ l=R at *;have a1:(x+1)*P<=Q*P:=Nat.mul_le_mul_right _ h2;have a2:R*P<=x*P:=Nat.mul_le_mul_right _ h1;rw[Nat.add_mul,Nat.one_mul] at a1;refine⟨by omega,?_,by omega⟩;rw[Nat.add_mul,Nat.one_mul];omega
theorem qj6 {x:Nat} (h:x≠0) (hx:x<4294967296):∃ s:Nat,qbS (x:Int)=some (s:Int)/\s<32/\x*2 ^ s<4294967296/\(x+1)*2 ^ s<=4294967296/\2147483648<=x*2 ^ s:=by
 obtain⟨k,h1,h2,h3,h4⟩:=qrV h hx;refine⟨32-k,?_,by omega,h4⟩;have e:qq0 (x:Int)=some (k:Int):=by
  rw[qq0,cnd2 (by omega) (by omega),tN0,h1]
 have e2:isub .i64 32 (k:Int)=((32-k:Nat):Int):=by rw[qeW]<;>omega
 rw[qbS,e,bS0,e2]
theorem qrR {A' U U' V q w T E Q:Nat} (hA:A'=U+V*(E*4294967296*Q)) (hU:U=T+E*(V*q+w)) (hU':U'=T+E*w):A'=U'+V*(E*(q+4294967296*Q)):=by
 subst hU hU';rw[hA];grind
theorem quZ {u:List Int} {j V:Nat} (hu:Lim u) (hj:j<u.length) (h:nn (u.drop (j+1))<V):nn (u.drop j)<4294967296*V:=by
 rw[qrL u hj];have h1:4294967296*(nn (u.drop (j+1))+1)<=4294967296*V:=Nat.mul_le_mul_left _ h;omega
theorem qhz (u:List Int) {j:Nat} (hj:j<=u.length):nn u=nn (u.take j)+4294967296 ^ j*nn (u.drop j):=by
 conv=>lhs;rw[<- List.take_append_drop j u]
 rw[qbl,List.length_take,Nat.min_eq_left hj]
theorem qrS {v u0:List Int} {s:Int} {m k:Nat} (hv:Lim v) (hvl:v.length=m+2) (hm:m<17592186044416) (hk:k+m+2<17592186044416) {q:Nat} (hq:v[m+1]?=some (q:Int)) (hn:4294967296<=2*q)
  (hu:Lim u0) (hul:u0.length=k+(m+2)) (hlt:nn (u0.drop k)<nn v) :
  ∃ (u qs:List Int),lp qcB K0 ((s,v,u0,((m+2:Nat):Int),List.replicate k 0,(k:Int)-1,()),())=some ((s,u,qs,()),())/\Lim u/\Lim qs/\u.length=u0.length/\qs.length=k/\nn u<nn v/\nn u0=nn u+nn v*nn qs:=by
 have hVB:=qec v;obtain⟨r,⟨u,qs,rfl,h1,h2,h3,h4,h5,h6⟩,hlp⟩:=qm9 (step:=qcB)
  (fun t=>∃ (j:Nat) (u qs:List Int),t=((s,v,u,((m+2:Nat):Int),List.replicate j 0++qs,(j:Int)-1,()),())/\Lim u/\Lim qs/\u.length=u0.length/\j+qs.length=k/\nn (u.drop j)<nn v/\nn u0=nn u+nn v*(4294967296 ^ j*nn qs))
  (fun t=>(t.1.2.2.2.2.2.1+1).toNat)
  (fun r=>∃ (u qs:List Int),r=((s,u,qs,()),())/\Lim u/\Lim qs/\u.length=u0.length/\qs.length=k/\nn u<nn v/\nn u0=nn u+nn v*nn qs) (v:=((s,v,u0,((m+2:Nat):Int),List.replicate k 0,(k:Int)-1,()),()))
  ⟨k, u0, [], by simp, hu, Lim.nil, rfl, by simp, hlt, by simp⟩ (by simp; omega) (by
   rintro t ⟨j,u,qs,rfl,hul',hqs,hll,hjk,hdl,hval⟩;cases j with
   | zero =>
    refine .inl ⟨((s,u,qs,()),()),⟨u,qs,rfl,hul',hqs,hll,by omega,by simpa using hdl,by simpa using hval⟩,fun g=>by simp [qcB]⟩
   | succ j =>
    have hju:j<u.length:=by omega
    have hd1:=quZ hul' hju hdl;have hsl:((u.drop j).take (m+3)).length=m+3:=by simp;omega
    have hB:4294967296*nn v<4294967296 ^ (m+3):=by
      rw[hvl] at hVB;rw[show m+3=(m+2)+1 from rfl,Nat.pow_succ,Nat.mul_comm (4294967296 ^ (m+2))];exact Nat.mul_lt_mul_of_pos_left hVB (by decide)
    have hns:nn ((u.drop j).take (m+3))=nn (u.drop j):=qgR (Nat.lt_trans hd1 hB);have hz:nn ((u.drop j).drop (m+3))=0:=by
      have:=qhz (u.drop j) (j:=m+3) (by simp;omega);rw[hns] at this;have h0:4294967296 ^ (m+3)*nn ((u.drop j).drop (m+3))=0:=by omega
      rcases Nat.mul_eq_zero.1 h0 with h | h
      · have:=Nat.pow_pos (n:=m+3) (show 0<4294967296 by decide);omega
      · exact h
    obtain⟨w,hdg,hwl,hwlim,hwv⟩:=qtx (u:=(u.drop j).take (m+3)) ((hul'.drop j).take _) hv hsl hvl hm hq hn (by rw[hns];exact hd1);rw[hns] at hdg hwv;rw[hsl] at hwl;have hV0:0<nn v:=by omega
    have hqd:nn (u.drop j)/nn v<4294967296:=by rw[Nat.div_lt_iff_lt_mul hV0];exact hd1
    have hov:over u j w=u.take j++(w++(u.drop j).drop (m+3)):=by simp [over,hwl,List.drop_drop]
    have htl:(u.take j).length=j:=by simp;omega
    have hv':nn (over u j w)=nn (u.take j)+4294967296 ^ j*nn w:=by rw[hov,qbl,qbl,hz,htl];simp
    have hdm:=Nat.div_add_mod (nn (u.drop j)) (nn v);have hml:=Nat.mod_lt (nn (u.drop j)) hV0;have hstep:=qhz u (j:=j) (by omega);rw[<- hwv] at hdm hml;rw[<- hdm] at hstep;have hlim':Lim (over u j w):=by rw[hov];exact(hul'.take j).append (hwlim.append ((hul'.drop j).drop _))
    have hlen':(over u j w).length=u0.length:=by rw[hov];simp [hwl];omega
    have hdrop':nn ((over u j w).drop j)<nn v:=by
      rw[hov,List.drop_append,htl,Nat.sub_self,List.drop_zero,List.drop_eq_nil_of_le (by omega),List.nil_append,qbl,hz];simpa using hml
    generalize nn (u.drop j)/nn v=qd at *;refine .inr ⟨((s,v,over u j w,((m+2:Nat):Int),List.replicate j 0++(qd:Int)::qs,(j:Int)-1,()),()),⟨j,_,_,rfl,hlim',Lim.cons (by omega) hqs,hlen',by simp;omega,hdrop',?_⟩,by simp,fun g=>?_⟩
    · rw [nn];have:((qd:Int) % 4294967296).toNat=qd:=by omega
      rw[this];rw[Nat.pow_succ] at hval;exact qrR hval hstep hv'
    · have e0 : ((j + 1 : Nat) : Int) - 1 = (j : Int) := by omega
      have e1:iadd .i64 (iadd .i64 (j:Int) ((m+2:Nat):Int)) 1=((j+m+3:Nat):Int):=by
        have:iadd .i64 (j:Int) ((m+2:Nat):Int)=((j+m+2:Nat):Int):=by rw[qfO]<;>omega
        rw[this,qcp (by omega)];omega
      have e2:((((j+m+3:Nat):Int)-(j:Int)).toNat)=m+3:=by omega
      have e3:isub .i64 (j:Int) 1=(j:Int)-1:=by rw[qeW]<;>omega
      have e5:(List.replicate (j+1) (0:Int)++qs).set j (qd:Int)=List.replicate j 0++(qd:Int)::qs:=by
        rw[List.replicate_succ',List.append_assoc,List.set_append_right _ _ (by simp)];simp
      have e6:j<(List.replicate (j+1) (0:Int)++qs).length:=by simp;omega
      have c1:(j:Int)>=0:=by omega
      have c2:(0:Int)<=(j:Int)/\(j:Int)<=((j+m+3:Nat):Int)/\((j+m+3:Nat):Int)<=((u.length:Nat):Int):=by omega
      have c3:(j:Int)<((List.replicate (j+1) (0:Int)++qs).length:Int):=by omega
      have c4:(decide ((0:Int)<=(j:Int))&&decide ((j:Int)<=((j+m+3:Nat):Int))&&decide (((j+m+3:Nat):Int)<=((j+m+3:Nat):Int))&&decide (((j+m+3:Nat):Int)<=((u.length:Nat):Int)))=true:=by
        rw[decide_eq_true c2.1,decide_eq_true c2.2.1,decide_eq_true c2.2.2,decide_eq_true (Int.le_refl _)];rfl
      rw[e0,qcB,cnd c1,e1,c4,e2,tN0,hdg,cond_true,bS0,cnd2 c2.1 c3,gE0 e6,bS0,e5,e3])
 exact⟨u,qs,hlp,h1,h2,h3,h4,h5,h6⟩
theorem quO {A D:Nat} (hla:(qaa A).length<4398046511104) (hD:2<=(qaa D).length) (hDA:D<=A):qjb (qaa A) (qaa D)=some (qaa (A/D),qaa (A % D)):=by
 have hlb:=qaK hDA;have la:=qaz A;have lb:=qaz D;have ea:=q9q A;have eb:=q9q D;have cb:=qpo D;obtain⟨m,hm⟩:∃ m,(qaa D).length=m+2:=⟨(qaa D).length-2,by omega⟩;obtain⟨x,hx,hx32⟩:=qmm lb (i:=m+1) (by omega);have hx0:x≠0:=by
  have:=cb.2 (x:Int) (by rw[List.getLast?_eq_getElem?,hm];exact hx);omega
 obtain⟨s,hs,hs32,t1,t2,t3⟩:=qj6 hx0 hx32;have hsplit:=qcr hx;rw[List.take_of_length_le (by omega),eb] at hsplit;have hxx:((x:Int) % 4294967296).toNat=x:=by omega
 rw[hxx] at hsplit;have htk:=qec ((qaa D).take (m+1));rw[List.length_take,Nat.min_eq_left (by omega)] at htk;obtain⟨u1,u2⟩:=qsO hsplit htk t1 t2 t3;have u1':D*2 ^ s<4294967296 ^ (m+2):=by rw[Nat.pow_succ];exact u1
 have hshl1:=qpT (n:=s) lb (by omega) (by omega);have hshl2:=qpT (n:=s) la (by omega) (by omega);rw[eb] at hshl1;rw[ea] at hshl2;have hp0:0<2 ^ s:=Nat.pow_pos (by decide);have hvl:(qaa (D*2 ^ s)).length=m+2:=by
  have h1:=qb0 u1';have h2:(qaa D).length<=(qaa (D*2 ^ s)).length:=qaK (Nat.le_mul_of_pos_right _ hp0);omega
 have hv:=qaz (D*2 ^ s);have hnv:=q9q (D*2 ^ s);obtain⟨q,hq,hq32⟩:=qmm hv (i:=m+1) (by omega);have hqn:4294967296<=2*q:=by
  have h1:=qcr hq;rw[List.take_of_length_le (by omega),hnv] at h1;have hqq:((q:Int) % 4294967296).toNat=q:=by omega
  rw[hqq] at h1;have h2:=qec ((qaa (D*2 ^ s)).take (m+1));rw[List.length_take,Nat.min_eq_left (by omega)] at h2;rcases Nat.lt_or_ge (2*q) 4294967296 with h | h
  · exfalso;have h3:4294967296 ^ (m+1)*(q+1)<=4294967296 ^ (m+1)*2147483648:=Nat.mul_le_mul_left _ (by omega);rw[Nat.mul_add,Nat.mul_one] at h3;omega
  · exact h
 have hr4:(qaa A).length<=(qaa (A*2 ^ s)).length:=qaK (Nat.le_mul_of_pos_right _ hp0);have hAlt:A*2 ^ s<4294967296 ^ ((qaa A).length)*2 ^ s:=by
  have:=qec (qaa A);rw[ea] at this;exact Nat.mul_lt_mul_of_pos_right this hp0
 have hs2:2 ^ s<=4294967296:=by
  have:2 ^ s<=2 ^ 32:=Nat.pow_le_pow_right (by decide) (by omega);exact this
 have hA1:A*2 ^ s<4294967296 ^ ((qaa A).length+1):=by
  rw[Nat.pow_succ];exact Nat.lt_of_lt_of_le hAlt (Nat.mul_le_mul_left _ hs2)
 have hr4':(qaa (A*2 ^ s)).length<=(qaa A).length+1:=qb0 hA1;have hnu:nn ((qaa (A*2 ^ s)++[0,0]).take ((qaa A).length+1))=A*2 ^ s:=by
  rw[qgR (by rw[qhA,q9q];exact hA1),qhA,q9q]
 have hul:((qaa (A*2 ^ s)++[0,0]).take ((qaa A).length+1)).length=(qaa A).length+1:=by simp;omega
 have hulim:Lim ((qaa (A*2 ^ s)++[0,0]).take ((qaa A).length+1)):=Lim.take (Lim.append (qaz _) (Lim.cons (by omega) (Lim.cons (by omega) Lim.nil))) _;obtain⟨k,hk⟩:∃ k,(qaa A).length+1=k+(m+2):=⟨(qaa A).length+1-(m+2),by omega⟩;have hdrop:nn (((qaa (A*2 ^ s)++[0,0]).take ((qaa A).length+1)).drop k)<nn (qaa (D*2 ^ s)):=by
  have h1:=qhz ((qaa (A*2 ^ s)++[0,0]).take ((qaa A).length+1)) (j:=k) (by omega);rw[hnu] at h1;rw[hnv];have h2:D*2 ^ s>=4294967296 ^ (m+1)*2 ^ s:=by
    have:4294967296 ^ (m+1)<=D:=by
     rw[hsplit];have:4294967296 ^ (m+1)*1<=4294967296 ^ (m+1)*x:=Nat.mul_le_mul_left _ (by omega);omega
    exact Nat.mul_le_mul_right _ this
  have h3:4294967296 ^ (qaa A).length=4294967296 ^ k*4294967296 ^ (m+1):=by rw[<- Nat.pow_add,show(qaa A).length=k+(m+1) by omega]
  rw[h3,Nat.mul_assoc] at hAlt;generalize nn (((qaa (A*2 ^ s)++[0,0]).take ((qaa A).length+1)).drop k)=Y at *;have h4:4294967296 ^ k*Y<4294967296 ^ k*(4294967296 ^ (m+1)*2 ^ s):=by
    have:4294967296 ^ k*Y<=A*2 ^ s:=by rw[h1];exact Nat.le_add_left _ _
    exact Nat.lt_of_le_of_lt this hAlt
  exact Nat.lt_of_lt_of_le (Nat.lt_of_mul_lt_mul_left h4) h2
 obtain⟨u,qs,hlp,r1,r2,r3,r4,r5,r6⟩:=qrS (s:=(s:Int)) (k:=k) hv hvl (by omega) (by omega) hq hqn hulim (by rw[hul,hk]) hdrop;rw[hnu,hnv] at r6;rw[hnv] at r5;have hV0:0<D*2 ^ s:=Nat.lt_of_le_of_lt (Nat.zero_le _) r5;have d1:A/D=nn qs:=by
  have:A*2 ^ s/(D*2 ^ s)=nn qs:=by rw[r6,Nat.add_mul_div_left _ _ hV0,Nat.div_eq_of_lt r5,Nat.zero_add]
  rwa [Nat.mul_div_mul_right _ _ hp0] at this
 have d2:A % D*2 ^ s=nn u:=by
  have:A*2 ^ s % (D*2 ^ s)=nn u:=by rw[r6,Nat.add_mul_mod_self_left,Nat.mod_eq_of_lt r5]
  rwa [Nat.mul_mod_mul_right] at this
 have i1:isub .i64 ((qaa D).length:Int) 1=((m+1:Nat):Int):=by rw[qeW]<;>omega
 have i2:IntKind.wrap .u32 (x:Int)=(x:Int):=by rw[qsJ];omega
 have i3:iadd .i64 ((qaa A).length:Int) 1=(((qaa A).length+1:Nat):Int):=by rw[qfO]<;>omega
 have i4:(((((qaa A).length+1:Nat):Int)-0).toNat:Nat)=(qaa A).length+1:=by omega
 have i5:isub .i64 (((qaa A).length+1:Nat):Int) ((qaa (D*2 ^ s)).length:Int)=(k:Int):=by rw[qeW]<;>omega
 have i6:isub .i64 ((k:Nat):Int) 1=(k:Int)-1:=by rw[qeW]<;>omega
 have i7:((qaa (D*2 ^ s)).length:Int)=((m+2:Nat):Int):=by omega
 have c1:(0:Int)<=((m+1:Nat):Int):=by omega
 have c2:(Nat.ble (((qaa (A*2 ^ s)).length+2)*8) 140737488355328&&!false)=true:=by
  have:((qaa (A*2 ^ s)).length+2)*8<=140737488355328:=by omega
  simp [this]
 have c3:(decide ((0:Int)<=(((qaa A).length+1:Nat):Int))&&decide ((((qaa A).length+1:Nat):Int)<=(((qaa A).length+1:Nat):Int))&&decide ((((qaa A).length+1:Nat):Int)<=((qaa (A*2 ^ s)++([0,0]:List Int)).length:Int)))=true:=by
  have h1:(0:Int)<=(((qaa A).length+1:Nat):Int):=by omega
  have h2:(((qaa A).length+1:Nat):Int)<=((qaa (A*2 ^ s)++([0,0]:List Int)).length:Int):=by simp only[List.length_append,List.length_cons,List.length_nil];omega
  rw[decide_eq_true h1,decide_eq_true h2,decide_eq_true (Int.le_refl _)];rfl
 have c4:(decide ((k:Int)=(k:Int))&&decide (0<=(k:Int))&&decide (((8:Nat):Int)*(k:Int)<=281474976710656)&&decide ((k:Int)<=9223372036854775807))=true:=by
  have h1:(0:Int)<=(k:Int):=by omega
  have h2:((8:Nat):Int)*(k:Int)<=281474976710656:=by omega
  have h3:(k:Int)<=9223372036854775807:=by omega
  rw[decide_eq_true h1,decide_eq_true h2,decide_eq_true h3,decide_eq_true rfl];rfl
 have hshr:=qnB (n:=s) (qaz (nn u)) (by have:=qaq u;omega) (by omega);rw[q9q,<- d2,Nat.mul_div_cancel _ hp0] at hshr;have hlen:(List.replicate k (0:Int)).length=k:=by simp
 rw[qjb,i1,cnd c1,tN0,hx,bS0,i2,hs,bS0,hshl1,bS0,hshl2,bS0,c2,cond_true,i3,c3,cond_true,i4,i5,c4,cond_true,tN0,hlen,i6,i7,hlp,bS0,qfV r2 (by omega),bS0,qfV r1 (by omega),bS0,<- d2,hshr,bS0,d1]
theorem qlI {a b:List Int} (ha:a.length<4398046511104) (hb:b.length<4398046511104) (h0:nn b≠0):qde a b=some (qaa (nn a/nn b),qaa (nn a % nn b),0):=by
 have h1:=qaq a;have h2:=qaq b;have hne:qaa (nn b)≠[]:=fun h=>h0 (qd2.1 h)
 have hlen:¬ ((qaa (nn b)).length:Int)=0:=by
   intro h;apply hne;apply List.eq_nil_of_length_eq_zero;omega
 rw[qde,qcD (by omega),bS0,qcD (by omega),bS0,cnd' hlen,qkJ (by omega),bS0];by_cases hlt:nn a<nn b
 · have c1 : ncmp (nn a) (nn b) < 0 := by simp [ncmp, hlt]
   rw[cnd c1,Nat.div_eq_of_lt hlt,Nat.mod_eq_of_lt hlt,qaG]
 · have c1 : ¬ ncmp (nn a) (nn b) < 0 := by unfold ncmp; rw [if_neg hlt]; split <;> omega
   rw[cnd' c1];by_cases h3:(qaa (nn b)).length=1
   · have hb32 : nn b < 4294967296 := by
      have:=qec (qaa (nn b));rw[q9q,h3] at this;simpa using this
     have hsm:=qsP (qaz (nn a)) (by omega) (Nat.pos_of_ne_zero h0) hb32;rw[q9q] at hsm;have hml:=Nat.mod_lt (nn a) (Nat.pos_of_ne_zero h0);rw[qdK h0 hb32];rw[<- qdK h0 hb32,h3,cnd (by omega),cnd (by omega),qdK h0 hb32,List.getElem?_cons_zero,bS0,hsm,bS0,qtL (show nn a % nn b<18446744073709551616 by omega)];rfl
   · have c2 : ¬ ((qaa (nn b)).length : Int) = 1 := by omega
     have hlen2:2<=(qaa (nn b)).length:=by omega
     rw[cnd' c2,quO (by omega) hlen2 (by omega)];rfl
theorem qux {a b:List Int} (ha:a.length<4398046511104) (hb:b.length<4398046511104) (h0:nn b≠0):qfT a b=some (qaa (nn a/nn b),qaa (nn a % nn b)):=by
 rw[qfT,qlI ha hb h0];rfl
theorem qo2 {z s:Nat} (h:s % 2=1):Nat.Coprime (2 ^ z) s:=by
 apply Nat.Coprime.pow_left;show Nat.gcd 2 s=1;rw[Nat.gcd_rec,h];decide
theorem qnd {z m s:Nat} (h:s % 2=1):Nat.gcd (2 ^ z*m) s=Nat.gcd m s:=Nat.Coprime.gcd_mul_left_cancel m (qo2 h)
theorem qr8 {z m s:Nat} (h:s % 2=1):Nat.gcd s (2 ^ z*m)=Nat.gcd s m:=by rw[Nat.gcd_comm,qnd h,Nat.gcd_comm]
theorem quV {x y p q:Nat} (hp:p % 2=1) (hq:q % 2=1):Nat.gcd (2 ^ x*p) (2 ^ y*q)=Nat.gcd p q*2 ^ min x y:=by
 rcases Nat.le_total x y with h | h
 · have e : 2 ^ y * q = 2 ^ x * (2 ^ (y - x) * q) := by rw [<- Nat.mul_assoc, <- Nat.pow_add]; congr 2; omega
   rw[e,Nat.gcd_mul_left,qr8 hp,Nat.min_eq_left h,Nat.mul_comm]
 · have e : 2 ^ x * p = 2 ^ y * (2 ^ (x - y) * p) := by rw [<- Nat.mul_assoc, <- Nat.pow_add]; congr 2; omega
   rw[e,Nat.gcd_mul_left,qnd hq,Nat.min_eq_right h,Nat.mul_comm]
theorem qon {m n:Nat} (hm:m≠0) (h:2*m<=n):m.log2<n.log2:=by
 have h1:=Nat.log2_self_le hm;have h2:2 ^ (m.log2+1)<=n:=by rw[Nat.pow_succ];omega
 exact(Nat.le_log2 (by omega)).2 h2
theorem qov {b s t z m:Nat} (hb:b % 2=1) (hs:s % 2=1) (hlt:s<b) (ht:t=b-s\/(t=b % s/\2*s<=b)) (ht0:t≠0) (hz:t=2 ^ z*m) (hm:m % 2=1) :
   Nat.gcd m s=Nat.gcd b s/\2*m<=b/\m≠0:=by
 have hm0:m≠0:=by omega
 have e:=qnd (z:=z) (m:=m) hs;rw[<- hz] at e;have hp:2 ^ z*m>=1*m:=Nat.mul_le_mul_right _ (Nat.pow_pos (by decide));rcases ht with h | ⟨h,h2⟩
 · refine ⟨?_, ?_, hm0⟩
   · rw[<- e,h,Nat.gcd_sub_self_left (by omega)]
   · cases z with
     | zero=>simp at hz;omega
     | succ z =>
      have:2 ^ (z+1)*m=2*(2 ^ z*m):=by rw[Nat.pow_succ,Nat.mul_comm (2 ^ z),Nat.mul_assoc]
      have hp:2 ^ z*m>=1*m:=Nat.mul_le_mul_right _ (Nat.pow_pos (by decide));omega
 · have := Nat.mod_lt b (show 0 < s by omega);refine⟨?_,by omega,hm0⟩;rw[<- e,h,<- Nat.gcd_rec,Nat.gcd_comm]
theorem quP {s b:Nat} (h:(qaa s).length+1<(qaa b).length):2*s<=b:=by
 have h1:=qec (qaa s);rw[q9q] at h1;rcases Nat.lt_or_ge b (4294967296 ^ ((qaa s).length+1)) with h2 | h2
 · have:=qb0 h2;omega
 · rw [Nat.pow_succ] at h2;omega
theorem qqp {R:Type} {p q:Nat} {L:Nat} (hp:p % 2=1) (hq:q % 2=1) (hlt:q<p) (hL:(qaa p).length<=L) (hL2:L<4398046511104) (x y:Nat) (hx:x<32*L) (hy:y<32*L) :
   (∀ k1 k2:List Int->Option R,(bif (decide (((qaa p).length:Int)>(iadd .i64 ((qaa q).length:Int) 1))) then ((qfT (qaa p) (qaa q)).bind fun r10=>bif (decide ((r10.2.length:Int)=0)) then ((qfH (qaa q) (mn (x:Int) (y:Int))).bind fun r11=>k1 r11) else ((qbx r10.2).bind fun r12=>(qcA r10.2 r12).bind fun r13=>k2 r13)) else ((qed (qaa p) (qaa q)).bind fun r14=>(qbx r14).bind fun r15=>(qcA r14 r15).bind fun r16=>k2 r16))=k1 (qaa (Nat.gcd p q*2 ^ min x y))) \/
   (∃ m:Nat,m % 2=1/\Nat.gcd m q=Nat.gcd p q/\m.log2<p.log2/\m<=p/\∀ k1 k2:List Int->Option R,(bif (decide (((qaa p).length:Int)>(iadd .i64 ((qaa q).length:Int) 1))) then ((qfT (qaa p) (qaa q)).bind fun r10=>bif (decide ((r10.2.length:Int)=0)) then ((qfH (qaa q) (mn (x:Int) (y:Int))).bind fun r11=>k1 r11) else ((qbx r10.2).bind fun r12=>(qcA r10.2 r12).bind fun r13=>k2 r13)) else ((qed (qaa p) (qaa q)).bind fun r14=>(qbx r14).bind fun r15=>(qcA r14 r15).bind fun r16=>k2 r16))=k2 (qaa m)):=by
 have hlq:=qaK (Nat.le_of_lt hlt);have i1:iadd .i64 ((qaa q).length:Int) 1=(((qaa q).length+1:Nat):Int):=by rw[qfO]<;>omega
 rw[i1];by_cases hg:(qaa q).length+1<(qaa p).length
 · have c1 : ((qaa p).length : Int) > (((qaa q).length + 1 : Nat) : Int) := by omega
   have hr:=qux (a:=qaa p) (b:=qaa q) (by omega) (by omega) (by rw[q9q];omega);rw[q9q,q9q] at hr;simp only[cnd c1,hr,bS0];by_cases h0:p % q=0
   · left
     have hs:=qpT (n:=min x y) (qaz q) (by omega) (by omega);rw[q9q] at hs;have em:mn (x:Int) (y:Int)=((min x y:Nat):Int):=by unfold mn;split<;>omega
     have eg:Nat.gcd p q=q:=by rw[Nat.gcd_comm,Nat.gcd_rec,h0,Nat.gcd_zero_left]
     intro k1 k2;rw[cnd (by rw[h0,qaG];rfl),em,hs,bS0,eg]
   · right
     have hne:qaa (p % q)≠[]:=fun h=>h0 (qd2.1 h)
     have c2:¬ ((qaa (p % q)).length:Int)=0:=by
      intro h;apply hne;apply List.eq_nil_of_length_eq_zero;omega
     have hml:p % q<=p:=Nat.mod_le _ _;have hlm:=qaK hml;obtain⟨z,m,hz,h1,h2,h3⟩:=qkF (qaz (p % q)) (by omega) (by rw[q9q];exact h0);rw[q9q] at h1;obtain⟨g1,g2,g3⟩:=qov hp hq hlt (.inr ⟨rfl,quP hg⟩) h0 h1 h2;have hs:=qnB (n:=z) (qaz (p % q)) (by omega) (by omega);rw[q9q,h1,Nat.mul_div_cancel_left _ (Nat.pow_pos (by decide)),<- h1] at hs;refine⟨m,h2,g1,qon g3 g2,by omega,fun k1 k2=>?_⟩;rw[cnd' c2,hz,bS0,hs,bS0]
 · right
   have c1:¬ ((qaa p).length:Int)>(((qaa q).length+1:Nat):Int):=by omega
   have hmi:=qp2 (qaz p) (qaz q) (by omega) (by rw[q9q,q9q];omega);rw[q9q,q9q] at hmi;have hlm:=qaK (Nat.sub_le p q);have h0:p-q≠0:=by omega
   obtain⟨z,m,hz,h1,h2,h3⟩:=qkF (qaz (p-q)) (by omega) (by rw[q9q];exact h0);rw[q9q] at h1;obtain⟨g1,g2,g3⟩:=qov hp hq hlt (.inl rfl) h0 h1 h2;have hs:=qnB (n:=z) (qaz (p-q)) (by omega) (by omega);rw[q9q,h1,Nat.mul_div_cancel_left _ (Nat.pow_pos (by decide)),<- h1] at hs;refine⟨m,h2,g1,qon g3 g2,by omega,fun k1 k2=>?_⟩;rw[cnd' c1,hmi,bS0,hz,bS0,hs,bS0]
theorem qtO {p q x y L:Nat} (hp:p % 2=1) (hq:q % 2=1) (hpL:(qaa p).length<=L) (hqL:(qaa q).length<=L) (hL:L<4398046511104) (hx:x<32*L) (hy:y<32*L) :
  lp qbm K0 ((qaa p,qaa q,(x:Int),(y:Int),()),())=some ((qaa (Nat.gcd p q*2 ^ min x y),()),()):=by
 have hlog:∀ n,(qaa n).length<=L->n.log2<32*L+1:=by
  intro n hn;by_cases h0:n=0
  · subst h0;rw[Nat.log2_zero];omega
  · have h1 := qec (qaa n);rw[q9q,qsM] at h1;have:=(Nat.log2_lt h0).2 h1;omega
 obtain⟨r,rfl,hlp⟩:=qm9 (step:=qbm) (fun v=>∃ p' q':Nat,v=((qaa p',qaa q',(x:Int),(y:Int),()),())/\p' % 2=1/\q' % 2=1/\(qaa p').length<=L/\(qaa q').length<=L/\Nat.gcd p' q'=Nat.gcd p q)
  (fun v=>(nn v.1.1).log2+(nn v.1.2.1).log2) (fun r=>r=((qaa (Nat.gcd p q*2 ^ min x y),()),())) (v:=((qaa p,qaa q,(x:Int),(y:Int),()),()))
  ⟨p,q,rfl,hp,hq,hpL,hqL,rfl⟩ (by
    have h1:=hlog p hpL;have h2:=hlog q hqL;simp only[q9q];omega) (by
    rintro v ⟨p',q',rfl,hp',hq',hpl,hql,hg⟩;have ho:=qkJ (n:=p') (m:=q') (by omega);have em:mn (x:Int) (y:Int)=((min x y:Nat):Int):=by unfold mn;split<;>omega
    rcases Nat.lt_trichotomy p' q' with hlt | heq | hgt
    · have e : ncmp p' q' = -1 := by simp [ncmp, hlt]
      rw[e] at ho;have hpq:Nat.gcd q' p'=Nat.gcd p q:=by rw[Nat.gcd_comm,hg]
      rcases qqp (R:=((List Int×Unit)×Unit)) hq' hp' hlt hql hL x y hx hy with h | ⟨m,h1,h2,h3,h4,h⟩
      · refine .inl ⟨_, rfl, fun g => ?_⟩;rw[<- hpq,qbm,ho,bS0,cnd' (by decide),cnd (by decide)];exact h (fun r=>some ((r,()),())) (fun r=>g ((r,qaa p',(x:Int),(y:Int),()),()))
      · refine .inr ⟨((qaa m, qaa p', (x : Int), (y : Int), ()), ()), ⟨m, p', rfl, h1, hp', Nat.le_trans (qaK h4) hql, hpl, by rw [h2, hpq]⟩, by simp only [q9q]; omega, fun g => ?_⟩;rw[qbm,ho,bS0,cnd' (by decide),cnd (by decide)];exact h (fun r=>some ((r,()),())) (fun r=>g ((r,qaa p',(x:Int),(y:Int),()),()))
    · subst heq;have e:ncmp p' p'=0:=by simp [ncmp]
      rw[e] at ho;refine .inl ⟨_,rfl,fun g=>?_⟩;have hs:=qpT (n:=min x y) (qaz p') (by omega) (by omega);rw[q9q] at hs;rw[qbm,ho,bS0,cnd (by decide),em,hs,bS0,<- hg,Nat.gcd_self]
    · have e : ncmp p' q' = 1 := by simp [ncmp, hgt, Nat.not_lt.2 (Nat.le_of_lt hgt)]
      rw[e] at ho;rcases qqp (R:=((List Int×Unit)×Unit)) hp' hq' hgt hpl hL x y hx hy with h | ⟨m,h1,h2,h3,h4,h⟩
      · refine .inl ⟨_, rfl, fun g => ?_⟩;rw[<- hg,qbm,ho,bS0,cnd' (by decide),cnd' (by decide)];exact h (fun r=>some ((r,()),())) (fun r=>g ((r,qaa q',(x:Int),(y:Int),()),()))
      · refine .inr ⟨((qaa m, qaa q', (x : Int), (y : Int), ()), ()), ⟨m, q', rfl, h1, hq', Nat.le_trans (qaK h4) hpl, hql, by rw [h2, hg]⟩, by simp only [q9q]; omega, fun g => ?_⟩;rw[qbm,ho,bS0,cnd' (by decide),cnd' (by decide)];exact h (fun r=>some ((r,()),())) (fun r=>g ((r,qaa q',(x:Int),(y:Int),()),())))
 exact hlp
theorem qvA {a b:List Int} (ha:a.length<4398046511104) (hb:b.length<4398046511104):qls a b=some (qaa (Nat.gcd (nn a) (nn b))):=by
 have h1:=qaq a;have h2:=qaq b;have ea:=q9q (nn a);have eb:=q9q (nn b);have la:=qaz (nn a);have lb:=qaz (nn b);rw[qls,qcD (by omega),bS0,qcD (by omega),bS0];by_cases ha0:nn a=0
 · rw[ha0,qaG,cnd (by rfl),Nat.gcd_zero_left]
 have hne:¬ ((qaa (nn a)).length:Int)=0:=by
   intro h;exact ha0 (qd2.1 (List.eq_nil_of_length_eq_zero (by omega)))
 rw[cnd' hne];by_cases hb0:nn b=0
 · rw[hb0,qaG,cnd (by rfl),Nat.gcd_zero_right]
 have hne':¬ ((qaa (nn b)).length:Int)=0:=by
   intro h;exact hb0 (qd2.1 (List.eq_nil_of_length_eq_zero (by omega)))
 rw[cnd' hne'];have sm:∀ n,(qaa n).length<=2->n<18446744073709551616:=by
   intro n hn;have h3:=qec (qaa n);rw[q9q] at h3;have h4:4294967296 ^ (qaa n).length<=4294967296 ^ 2:=Nat.pow_le_pow_right (by decide) hn;exact Nat.lt_of_lt_of_le h3 h4
 have big:((qbx (qaa (nn a))).bind fun r4=>(qbx (qaa (nn b))).bind fun r5=>(qcA (qaa (nn a)) r4).bind fun r6=>(qcA (qaa (nn b)) r5).bind fun r7=>(lp qbm K0 ((r6,r7,r4,r5,()),())).bind fun t24=>some t24.1.1)=some (qaa (Nat.gcd (nn a) (nn b))):=by
   obtain⟨x,p,hx,hp1,hp2,hp3⟩:=qkF la (by omega) (by rw[ea];exact ha0);obtain⟨y,q,hy,hq1,hq2,hq3⟩:=qkF lb (by omega) (by rw[eb];exact hb0);have s1:=qnB (n:=x) la (by omega) (by omega);have s2:=qnB (n:=y) lb (by omega) (by omega);rw[hp1,Nat.mul_div_cancel_left _ (Nat.pow_pos (by decide))] at s1;rw[hq1,Nat.mul_div_cancel_left _ (Nat.pow_pos (by decide))] at s2;rw[ea] at hp1;rw[eb] at hq1;have lp1:(qaa p).length<=max (qaa (nn a)).length (qaa (nn b)).length:=by
     have:p<=nn a:=by rw[hp1];exact Nat.le_mul_of_pos_left _ (Nat.pow_pos (by decide))
     have:=qaK this;omega
   have lq1:(qaa q).length<=max (qaa (nn a)).length (qaa (nn b)).length:=by
     have:q<=nn b:=by rw[hq1];exact Nat.le_mul_of_pos_left _ (Nat.pow_pos (by decide))
     have:=qaK this;omega
   rw[hx,bS0,hy,bS0,s1,bS0,s2,bS0,qtO hp2 hq2 lp1 lq1 (by omega) (by omega) (by omega),bS0];congr 2
   conv=>rhs;rw[hp1,hq1]
   rw[quV hp2 hq2]
 by_cases hA:(qaa (nn a)).length<=2
 · rw [cnd (by omega)];by_cases hB:(qaa (nn b)).length<=2
   · rw [cnd (by omega), qsd (by omega) (by omega) (by rw [ea]; exact sm _ hA) (by rw [eb]; exact sm _ hB), ea, eb];rfl
   · rw [cnd' (by omega)];exact big
 · rw [cnd' (by omega)];exact big
def qbE (z:Int):WH:=(decide (z<0),qaa z.natAbs)
def wv (a:WH):Int:=if a.1 then -((nn a.2:Nat):Int) else ((nn a.2:Nat):Int)
theorem qfw (z:Int):wv (qbE z)=z:=by
 unfold wv qbE;by_cases h:z<0
 · simp [h,q9q];omega
 · simp [h,q9q];omega
theorem qeJ (a:WH):(wv a).natAbs=nn a.2:=by unfold wv;split<;>omega
theorem qiD:qbE 0=(false,[]):=by simp [qbE,qaG]
theorem qqY (n:Nat):qbE (n:Int)=(false,qaa n):=by
 unfold qbE;rw[decide_eq_false (by omega),Int.natAbs_natCast]
theorem qjg {n:Nat}:((qaa n).length:Int)>0 ↔ n≠0:=by
 constructor
 · intro h h0;subst h0;rw[qaG] at h;simp at h
 · intro h;have:qaa n≠[]:=fun e=>h (qd2.1 e)
   have:=List.length_pos_iff.2 this;omega
theorem qjT {n:Nat}:((qaa n).length:Int)=0 ↔ n=0:=by
 have:=@qjg n;omega
theorem qk6 (b:Bool) (n:Nat):qce b (qaa n)=some (qbE (if b then -(n:Int) else n)):=by
 cases b with
 | false =>
  show some (false,qaa n)=some (qbE (n:Int));rw[qqY]
 | true =>
  show some (decide (((qaa n).length:Int)>0),qaa n)=some (qbE (-(n:Int)));unfold qbE;rw[Int.natAbs_neg,Int.natAbs_natCast];congr 2;rw[decide_eq_decide,qjg];omega
theorem qeK {a:WH} (h:a.2.length<35184372088832):qaZ a=some (qbE (wv a)):=by
 rw[qaZ,qcD h,bS0,qk6];rfl
def icmp (x y:Int):Int:=if x<y then -1 else if y<x then 1 else 0
theorem qui {a b:WH} (ha:a.2.length<35184372088832) (hb:b.2.length<35184372088832):qhi a b=some (icmp (wv a) (wv b)):=by
 rw[qhi,qeK ha,bS0,qeK hb,bS0];have la:=qaq a.2;have lb:=qaq b.2;have e1:∀ x y:Int,x.natAbs=nn a.2->y.natAbs=nn b.2->qe9 (qaa x.natAbs) (qaa y.natAbs)=some (ncmp x.natAbs y.natAbs):=by
  intro x y hx hy;rw[qsI (by rw[hx];omega) (by rw[hy];omega),q9q,q9q]
 have e2:∀ x y:Int,x.natAbs=nn a.2->y.natAbs=nn b.2->qe9 (qaa y.natAbs) (qaa x.natAbs)=some (ncmp y.natAbs x.natAbs):=by
  intro x y hx hy;rw[qsI (by rw[hy];omega) (by rw[hx];omega),q9q,q9q]
 have hx:=qeJ a;have hy:=qeJ b;generalize wv a=x at *;generalize wv b=y at *;have e1:=e1 x y hx hy;have e2:=e2 x y hx hy;simp only[qbE,e1,e2];by_cases h1:x<0<;>by_cases h2:y<0<;>simp [h1,h2,icmp,ncmp]<;>(repeat' split)<;>omega
theorem quh {a b:WH} (ha:a.2.length<17592186044416) (hb:b.2.length<17592186044416):qdp a b=some (qbE (wv a*wv b)):=by
 have la:=qaq a.2;have lb:=qaq b.2;have hx:=qeJ a;have hy:=qeJ b;rw[qdp,qeK (by omega),bS0,qeK (by omega),bS0];generalize wv a=x at *;generalize wv b=y at *;have hm:qhJ (qaa x.natAbs) (qaa y.natAbs)=some (qaa (x.natAbs*y.natAbs)):=by
  have:=qua (a:=qaa x.natAbs) (b:=qaa y.natAbs) (by rw[hx];omega) (by rw[hy];omega)
  rwa [q9q,q9q] at this
 simp only[qbE,hm,bS0,qk6];have e:(x*y).natAbs=x.natAbs*y.natAbs:=Int.natAbs_mul x y;congr 1;have key:(if (!decide (x<0) == decide (y<0))=true then -(((x.natAbs*y.natAbs:Nat)):Int) else ((x.natAbs*y.natAbs:Nat):Int))=x*y:=by
  rw[Int.natCast_mul];by_cases h1:x<0<;>by_cases h2:y<0
  · rw[show((x.natAbs:Nat):Int)=-x by omega,show((y.natAbs:Nat):Int)=-y by omega];simp [h1,h2,Int.neg_mul_neg]
  · rw[show((x.natAbs:Nat):Int)=-x by omega,show((y.natAbs:Nat):Int)=y by omega];simp [h1,h2,Int.neg_mul]
  · rw[show((x.natAbs:Nat):Int)=x by omega,show((y.natAbs:Nat):Int)=-y by omega];simp [h1,h2,Int.mul_neg]
  · rw[show((x.natAbs:Nat):Int)=x by omega,show((y.natAbs:Nat):Int)=y by omega];simp [h1,h2]
 exact congrArg qbE key
theorem quj {a b:WH} (ha:a.2.length<17592186044416) (hb:b.2.length<17592186044416):qhj a b=some (qbE (wv a+wv b)):=by
 have la:=qaq a.2;have lb:=qaq b.2;have hx:=qeJ a;have hy:=qeJ b;rw[qhj,qeK (by omega),bS0,qeK (by omega),bS0];generalize wv a=x at *;generalize wv b=y at *;have e1:qjP (qaa x.natAbs) (qaa y.natAbs)=some (qaa (x.natAbs+y.natAbs)):=by
   have:=qvD (a:=qaa x.natAbs) (b:=qaa y.natAbs) (by rw[hx];omega) (by rw[hy];omega)
   rwa [q9q,q9q] at this
 have e2:qe9 (qaa x.natAbs) (qaa y.natAbs)=some (ncmp x.natAbs y.natAbs):=by
   have:=qsI (a:=qaa x.natAbs) (b:=qaa y.natAbs) (by rw[hx];omega) (by rw[hy];omega)
   rwa [q9q,q9q] at this
 have e3:qhH (qaa x.natAbs) (qaa y.natAbs)=if x.natAbs<y.natAbs then some ([],3) else some (qaa (x.natAbs-y.natAbs),0):=by
   have:=qt9 (a:=qaa x.natAbs) (b:=qaa y.natAbs) (by rw[hx];omega) (by rw[hy];omega)
   rwa [q9q,q9q] at this
 have e4:qhH (qaa y.natAbs) (qaa x.natAbs)=if y.natAbs<x.natAbs then some ([],3) else some (qaa (y.natAbs-x.natAbs),0):=by
   have:=qt9 (a:=qaa y.natAbs) (b:=qaa x.natAbs) (by rw[hy];omega) (by rw[hx];omega)
   rwa [q9q,q9q] at this
 simp only[qbE,e1,e2,bS0,qk6];by_cases hs:decide (x<0)=decide (y<0)
 · have c : (decide (x < 0) == decide (y < 0)) = true := by simp [hs]
   rw[c,cond_true];congr 1;have key:(if decide (x<0)=true then -((x.natAbs+y.natAbs:Nat):Int) else ((x.natAbs+y.natAbs:Nat):Int))=x+y:=by
     rw[decide_eq_decide] at hs;simp only[decide_eq_true_eq];split<;>omega
   exact congrArg qbE key
 · have c : (decide (x < 0) == decide (y < 0)) = false := by simpa using hs
   rw[c,cond_false];rw[decide_eq_decide] at hs;by_cases hlt:x.natAbs<y.natAbs
   · rw [e4, if_neg (by omega), show ncmp x.natAbs y.natAbs = -1 by simp [ncmp, hlt], cnd (by decide), bS0, qk6, bS0];have key:(if decide (y<0)=true then -((y.natAbs-x.natAbs:Nat):Int) else ((y.natAbs-x.natAbs:Nat):Int))=x+y:=by
      simp only[decide_eq_true_eq];split<;>omega
     exact congrArg (fun z=>some (qbE z)) key
   · have c2 : ¬ ncmp x.natAbs y.natAbs < 0 := by unfold ncmp; rw [if_neg hlt]; split <;> omega
     rw[e3,if_neg hlt,cnd' c2,bS0,qk6,bS0];have key:(if decide (x<0)=true then -((x.natAbs-y.natAbs:Nat):Int) else ((x.natAbs-y.natAbs:Nat):Int))=x+y:=by
      simp only[decide_eq_true_eq];split<;>omega
     exact congrArg (fun z=>some (qbE z)) key
def isgn (x:Int):Int:=if x<0 then -1 else if x=0 then 0 else 1
theorem qsK {a:WH} (h:a.2.length<35184372088832):qfm a=some (isgn (wv a)):=by
 rw[qfm,qeK h,bS0];simp only[qbE];generalize wv a=x;by_cases h1:x<0
 · simp [h1,isgn]
 · by_cases h2 : x = 0
   · subst h2;simp [isgn,qaG]
   · have : ¬ ((qaa x.natAbs).length : Int) = 0 := by rw [qjT]; omega
     simp only[decide_eq_false h1,cond_false,isgn,if_neg h1,if_neg h2];exact cnd' this
def canQ (q:Rat):RAT:=(qbE q.num,qaa q.den)
def rv (a:RAT):Rat:=mkRat (wv a.1) (nn a.2)
theorem quu (q:Rat):rv (canQ q)=q:=by
 rw[rv,canQ,qfw,q9q,Rat.mkRat_self]
def SzR (a:RAT) (n:Nat):Prop:=a.1.2.length<=n/\a.2.length<=n
def Sm (a:RAT):Prop:=a.1.2.length<1099511627776/\a.2.length<1099511627776
def SzQ (q:Rat) (n:Nat):Prop:=q.num.natAbs<4294967296 ^ n/\q.den<4294967296 ^ n
theorem SzR.sm {a:RAT} {n:Nat} (h:SzR a n) (hn:n<1099511627776):Sm a:=⟨by have:=h.1;omega,by have:=h.2;omega⟩
theorem SzQ.szR {q:Rat} {n:Nat} (h:SzQ q n):SzR (canQ q) n:=⟨qb0 h.1,qb0 h.2⟩
theorem SzQ.sm {q:Rat} {n:Nat} (h:SzQ q n) (hn:n<1099511627776):Sm (canQ q):=h.szR.sm hn
theorem qp1 {z:Int} {d n:Nat} (hz:z.natAbs<4294967296 ^ n) (hd:d<4294967296 ^ n) (hn:0<n):SzQ (mkRat z d) n:=by
 have hp:1<4294967296 ^ n:=by
   have:=Nat.pow_le_pow_right (n:=4294967296) (by decide) hn;omega
 by_cases h0:d=0
 · subst h0;rw[Rat.mkRat_zero];exact⟨by simpa using Nat.lt_of_le_of_lt (Nat.zero_le _) hp,by simpa using hp⟩
 · have h1 := Rat.num_mkRat z d;have h2:=Rat.den_mkRat z d;rw[if_neg h0] at h1 h2;constructor
   · rw [h1, Int.natAbs_ediv_of_dvd (Int.ofNat_dvd_left.2 (Nat.gcd_dvd_right _ _))];exact Nat.lt_of_le_of_lt (Nat.div_le_self _ _) hz
   · rw[h2];exact Nat.lt_of_le_of_lt (Nat.div_le_self _ _) hd
theorem SzR.szQ {a:RAT} {n:Nat} (h:SzR a n) (hn:0<n):SzQ (rv a) n:=by
 refine qp1 ?_ ?_ hn
 · rw[qeJ];exact Nat.lt_of_lt_of_le (qec _) (Nat.pow_le_pow_right (by decide) h.1)
 · exact Nat.lt_of_lt_of_le (qec _) (Nat.pow_le_pow_right (by decide) h.2)
theorem SzQ.pos {q:Rat} {n:Nat} (h:SzQ q n):0<n:=by
 rcases Nat.eq_zero_or_pos n with h0 | h0
 · subst h0;have:=h.2;have:=q.den_pos;simp at *;omega
 · exact h0
theorem SzQ.add {p q:Rat} {n m:Nat} (hp:SzQ p n) (hq:SzQ q m):SzQ (p+q) (n+m+1):=by
 have h0:=hp.pos;rw[Rat.add_def'];have h1:(p.num*q.den).natAbs<4294967296 ^ (n+m):=by rw[Int.natAbs_mul,Nat.pow_add,Int.natAbs_natCast];exact Nat.mul_lt_mul'' hp.1 hq.2
 have h2:(q.num*p.den).natAbs<4294967296 ^ (n+m):=by rw[Int.natAbs_mul,Nat.add_comm,Nat.pow_add,Int.natAbs_natCast];exact Nat.mul_lt_mul'' hq.1 hp.2
 have h3:p.den*q.den<4294967296 ^ (n+m):=by rw[Nat.pow_add];exact Nat.mul_lt_mul'' hp.2 hq.2
 have h4:4294967296 ^ (n+m+1)=4294967296 ^ (n+m)*4294967296:=Nat.pow_succ ..;refine qp1 ?_ (by omega) (by omega);have:=Int.natAbs_add_le (p.num*q.den) (q.num*p.den);omega
theorem qsa {z:Int} {d:Nat} (hz:(qaa z.natAbs).length<4398046511104) (hd:(qaa d).length<4398046511104) (h0:d≠0):qcM (qbE z) (qaa d)=some (canQ (mkRat z d)):=by
 by_cases hz0:z=0
 · subst hz0;have:=qtL (n:=1) (by decide);rw[qcM,qiD];simp only[List.length_nil];rw[cnd (by rfl)];rw[show((1:Nat):Int)=1 from rfl] at this;rw[this,Rat.zero_mkRat,canQ];simp [qiD]
 · have hne : ¬ ((qaa z.natAbs).length : Int) = 0 := by rw [qjT]; omega
   have hg:=qvA hz hd;rw[q9q,q9q] at hg;have hgpos:0<Nat.gcd z.natAbs d:=Nat.gcd_pos_of_pos_right _ (Nat.pos_of_ne_zero h0);have hgle:Nat.gcd z.natAbs d<=d:=Nat.gcd_le_right _ (Nat.pos_of_ne_zero h0);have hglen:=qaK hgle;have hgne:nn (qaa (Nat.gcd z.natAbs d))≠0:=by rw[q9q];omega
   have d1:=qlI hz (show(qaa (Nat.gcd z.natAbs d)).length<4398046511104 by omega) hgne;have d2:=qlI hd (show(qaa (Nat.gcd z.natAbs d)).length<4398046511104 by omega) hgne;rw[q9q,q9q] at d1 d2;have hres:((decide (z<0),qaa (z.natAbs/Nat.gcd z.natAbs d)),qaa (d/Nat.gcd z.natAbs d))=canQ (mkRat z d):=by
     have h1:=Rat.num_mkRat z d;have h2:=Rat.den_mkRat z d;rw[if_neg h0,Nat.gcd_comm] at h1 h2;have hdv:((Nat.gcd z.natAbs d:Nat):Int) ∣ z:=Int.ofNat_dvd_left.2 (Nat.gcd_dvd_left _ _);unfold canQ qbE;rw[h1,h2,Int.natAbs_ediv_of_dvd hdv,Int.natAbs_natCast];congr 2;rw[decide_eq_decide];obtain⟨c,hc⟩:=hdv;generalize ((Nat.gcd z.natAbs d:Nat))=G at *;have hG:(0:Int)<(G:Int):=by omega
     have : z / (G : Int) = c := by conv => lhs; rw [hc]
                                    exact Int.mul_ediv_cancel_left _ (by omega)
     rw[this];constructor
     · intro h;by_cases h3:c<0
       · exact h3
       · have:=Int.mul_nonneg (Int.le_of_lt hG) (Int.not_lt.1 h3);omega
     · intro h;have:=Int.mul_neg_of_pos_of_neg hG h;omega
   rw[qbE,qcM];rw[cnd' hne,hg,bS0];by_cases h1:Nat.gcd z.natAbs d=1
   · have e1 : qaa 1 = [1] := by rw [qdK (by decide) (by decide)]; rfl
     rw[<- hres,h1,e1];simp
   · by_cases hl : (qaa (Nat.gcd z.natAbs d)).length = 1
     · have hg32 : Nat.gcd z.natAbs d < 4294967296 := by
         have:=qec (qaa (Nat.gcd z.natAbs d));rw[q9q,hl] at this;simpa using this
       have hls:=qdK (Nat.ne_of_gt hgpos) hg32;rw[cnd (by omega),cnd (by omega),d1,d2];rw[hls,List.getElem?_cons_zero,bS0,cnd' (by omega)];simp only[bS0];rw[hres]
     · rw [cnd' (by omega), d1, d2];simp only[bS0];rw[hres]
theorem qmO:qdO=some (canQ 0):=by
 have:=qtL (n:=1) (by decide);rw[qdO];rw[show((1:Nat):Int)=1 from rfl] at this;rw[this,canQ];simp [qiD]
theorem qdv {a:RAT} (h:Sm a):qa1 a=some (canQ (rv a)):=by
 have h1:=h.1;have h2:=h.2;have l1:=qaq a.1.2;have l2:=qaq a.2;rw[qa1,qcD (by omega),bS0];by_cases h0:nn a.2=0
 · rw[h0,qaG,cnd (by rfl),qmO,bS0,rv,h0,Rat.mkRat_zero]
 · rw [cnd' (by rw [qjT]; exact h0), qeK (by omega), bS0, qsa (by rw [qeJ]; omega) (by omega) h0];rfl
theorem qjh (x y:Nat):(qaa (x*y)).length<=(qaa x).length+(qaa y).length:=by
 apply qb0;have a1:=qec (qaa x);have a2:=qec (qaa y);rw[q9q] at a1 a2;rw[Nat.pow_add];exact Nat.mul_lt_mul'' a1 a2
theorem qna (x y:Nat):(qaa (x+y)).length<=max (qaa x).length (qaa y).length+1:=by
 apply qb0;have a1:=qec (qaa x);have a2:=qec (qaa y);rw[q9q] at a1 a2;have h1:=Nat.pow_le_pow_right (n:=4294967296) (by decide) (Nat.le_max_left (qaa x).length (qaa y).length);have h2:=Nat.pow_le_pow_right (n:=4294967296) (by decide) (Nat.le_max_right (qaa x).length (qaa y).length);rw[Nat.pow_succ];omega
theorem Sm.can {a:RAT} (h:Sm a):Sm (canQ (rv a)):=by
 have h1:SzR a (max 1 (max a.1.2.length a.2.length)):=⟨by omega,by omega⟩;exact(h1.szQ (by omega)).sm (by have:=h.1;have:=h.2;omega)
theorem Sm.num {q:Rat} (h:Sm (canQ q)):(qaa q.num.natAbs).length<1099511627776:=h.1
theorem Sm.den {q:Rat} (h:Sm (canQ q)):(qaa q.den).length<1099511627776:=h.2
def rcmp (p q:Rat):Int:=if p<q then -1 else if q<p then 1 else 0
theorem qqa (p q:Rat):icmp (p.num*q.den) (q.num*p.den)=rcmp p q:=by
 unfold icmp rcmp;simp only[Rat.lt_iff]
theorem qve (n:Nat):wv (false,qaa n)=(n:Int):=by simp [wv,q9q]
theorem qm3 {p q:Rat} (n1:(qaa p.num.natAbs).length<1099511627776) (n2:(qaa q.den).length<1099511627776):qdp (qbE p.num) (false,qaa q.den)=some (qbE (p.num*q.den)):=by
 have:=quh (a:=qbE p.num) (b:=(false,qaa q.den)) (by show(qaa p.num.natAbs).length<_;omega) (by show(qaa q.den).length<_;omega)
 rwa [qfw,qve] at this
theorem qgT {p q:Rat} (n1:(qaa p.num.natAbs).length<1099511627776) (n2:(qaa q.den).length<1099511627776):(qbE (p.num*q.den)).2.length<2199023255552:=by
 have:=qjh p.num.natAbs q.den;show(qaa (p.num*q.den).natAbs).length<_;rw[Int.natAbs_mul,Int.natAbs_natCast];omega
theorem qnR {a b:RAT} (ha:Sm a) (hb:Sm b):qgd a b=some (rcmp (rv a) (rv b)):=by
 have sa:=ha.can;have sb:=hb.can;rw[qgd,qdv ha,bS0,qdv hb,bS0];generalize rv a=p at *;generalize rv b=q at *;have l1:=qgT (p:=p) (q:=q) sa.num sb.den;have l2:=qgT (p:=q) (q:=p) sb.num sa.den;have m3:=qui (a:=qbE (p.num*q.den)) (b:=qbE (q.num*p.den)) (by omega) (by omega);rw[qfw,qfw,qqa] at m3;simp only[qd7,bS0,canQ,qm3 sa.num sb.den,qm3 sb.num sa.den,m3]
theorem qnT {a b:RAT} (ha:Sm a) (hb:Sm b):qcY a b=some (canQ (rv a+rv b)):=by
 have sa:=ha.can;have sb:=hb.can;rw[qcY,qdv ha,bS0,qdv hb,bS0];generalize rv a=p at *;generalize rv b=q at *;have l1:=qgT (p:=p) (q:=q) sa.num sb.den;have l2:=qgT (p:=q) (q:=p) sb.num sa.den;have m3:=quj (a:=qbE (p.num*q.den)) (b:=qbE (q.num*p.den)) (by omega) (by omega);rw[qfw,qfw] at m3;have n1:=sa.num;have n2:=sa.den;have n3:=sb.num;have n4:=sb.den;have m4:=qua (a:=qaa p.den) (b:=qaa q.den) (by omega) (by omega);rw[q9q,q9q] at m4;have m5:=qsa (z:=p.num*q.den+q.num*p.den) (d:=p.den*q.den) (by
  have h1:=qna (p.num*q.den).natAbs (q.num*p.den).natAbs;have h2:=qaK (Int.natAbs_add_le (p.num*q.den) (q.num*p.den));simp only[qbE] at l1 l2;omega) (by
  have:=qjh p.den q.den;omega) (Nat.mul_ne_zero p.den_nz q.den_nz)
 simp only[qd7,bS0,canQ,qm3 sa.num sb.den,qm3 sb.num sa.den,m3,m4,m5];rw[Rat.add_def']
theorem qtm (q:Rat):isgn q.num=rcmp q 0:=by
 have h:∀ x:Int,isgn x=icmp x 0:=by
  intro x;unfold isgn icmp
  (repeat' split)<;>omega
 rw[<- qqa,h,Rat.zero_den,Rat.zero_num,Int.zero_mul];rw[show((1:Nat):Int)=1 from rfl,Int.mul_one]
theorem qmQ {a:RAT} (ha:Sm a):qfo a=some (rcmp (rv a) 0):=by
 have sa:=ha.can;rw[qfo,qdv ha,bS0];generalize rv a=p at *;have n1:=sa.num;have m:=qsK (a:=qbE p.num) (by show(qaa _).length<_;omega);rw[qfw,qtm] at m;simp only[canQ,m,bS0]
def rabs (q:Rat):Rat:=if q<0 then -q else q
theorem qmS {a b:RAT} (ha:Sm a) (hb:Sm b):qfp a b=some (decide (rv a=rv b)):=by
 rw[qfp,qnR ha hb,bS0];congr 1;rw[decide_eq_decide];unfold rcmp;generalize rv a=p;generalize rv b=q;constructor
 · intro h;by_cases h1:p<q
   · simp [h1] at h
   · by_cases h2 : q < p
     · simp [h1,h2] at h
     · exact Rat.le_antisymm (Rat.not_lt.1 h2) (Rat.not_lt.1 h1)
 · rintro rfl;simp [Rat.lt_irrefl]
def cutR (k:Nat) (a:RAT):RAT:=((a.1.1,a.1.2.take k),a.2.take k)
theorem qpC (k:Nat) (a:RAT):SzR (cutR k a) k:=⟨by simp [cutR];omega,by simp [cutR];omega⟩
theorem qje {α J:Type} (f:α->J) {l:List α} {i:Nat} (h:i<l.length):(l.take (i+1)).map f=(l.take i).map f++[f l[i]]:=by
 rw[List.take_succ_eq_append_getElem h,List.map_append];rfl
theorem qrw {p q:Rat} (h:p<q) (h':q<p):False:=by grind
def pre (v:Nat->Rat) (i j:Nat):Prop:=v j<v i\/(v i=v j/\i<j)
def ints (o:List Nat):List Int:=o.map fun(i:Nat)=>(i:Int)
@[simp] theorem qtn (o:List Nat):(ints o).length=o.length:=by simp [ints]
def vals (l:List RAT) (i:Nat):Rat:=rv ((l[i]?).getD ((false,[]),[]))
theorem qsY {p q:Rat}:rcmp p q>0 ↔ q<p:=by
 unfold rcmp;by_cases h:p<q
 · have : ¬ q < p := fun h' => qrw h h'
   simp [h,this]
 · by_cases h2:q<p<;>simp [h,h2]
def left (n:Nat) (o:List Nat):List Nat:=(List.range n).filter fun j=>!decide (j∈o)
def qdt (n:Nat) (o:List Nat):List Bool:=(List.range n).map fun j=>decide (j∈o)
@[simp] theorem ql7 (n:Nat) (o:List Nat):(qdt n o).length=n:=by simp [qdt]
theorem qf6 {n:Nat} {o:List Nat} {j:Nat} (h:j<n):(qdt n o)[j]?=some (decide (j∈o)):=by simp [qdt,h]
theorem qqt {n:Nat} {o:List Nat} {b:Nat} (h:b<n):(qdt n o).set b true=qdt n (o++[b]):=by
 apply List.ext_getElem?;intro j;rw[List.getElem?_set];by_cases hj:j<n
 · rw [qf6 hj];by_cases hb:b=j
   · subst hb;simp [h,qdt]
   · rw [if_neg hb, qf6 hj];simp [show ¬ j=b from fun e=>hb e.symm]
 · rw [List.getElem?_eq_none (by simp; omega), List.getElem?_eq_none (by simp; omega)];split
   · rw[if_neg (by simp;omega)]
   · rfl
theorem qrz {p q:Rat}:rcmp p q<=0 ↔ p<=q:=by
 rw[<- Rat.not_lt,<- qsY];omega
def dd:List Int->Nat
 | []=>0
 | x::r=>(x % 10000).toNat+10000*dd r
@[simp] theorem qvO:dd []=0:=rfl
theorem blt {n:Nat} {k:Nat} (h:n*k<=140737488355328):(Nat.ble (n*k) 140737488355328&&!false)=true:=by
 simp only[Nat.ble_eq,h,Bool.not_false,Bool.and_true]
def rsum (f:Nat->Rat):Nat->Rat
 | 0=>0
 | n+1=>rsum f n+f n
def vabs (l:List RAT) (i:Nat):Rat:=rabs (vals l i)
def vsum (l:List RAT):Rat:=rsum (vabs l) l.length
def qvi (l:List RAT) (i:Nat):Rat:=vabs l i/vsum l
def qtV (l:List RAT) (n:Nat):List RAT:=(List.range n).map fun i=>canQ (qvi l i)
@[simp] theorem qvc (l:List RAT) (n:Nat):(qtV l n).length=n:=by simp [qtV]
section
variable {l:List RAT} (hsz:∀ x∈l,SzR x 2) (hlen:l.length<=33)
include hsz
end
theorem quN {V T:Type} {step:(V->Option T)->V->Option T} (f:Nat->V) (n:Nat) (ok:Nat->Prop) (bad:Nat->T) (fin:T)
  (hs:∀ i,i<n->(ok i/\∀ g,step g (f i)=g (f (i+1)))\/(¬ ok i/\∀ g,step g (f i)=some (bad i))) (he:∀ g,step g (f n)=some fin) :
  ∀ (d i m:Nat),i+d=n->d<m->(∀ j,j<i->ok j)->((∀ i,i<n->ok i)/\lp step m (f i)=some fin)\/∃ j,j<n/\¬ ok j/\lp step m (f i)=some (bad j):=by
 intro d
 induction d with
 | zero =>
  intro i m hi hm hok;obtain⟨m,rfl⟩:∃ k,m=k+1:=⟨m-1,by omega⟩;have:i=n:=by omega
  subst this;exact .inl ⟨hok,he _⟩
 | succ d ih =>
  intro i m hi hm hok;obtain⟨m,rfl⟩:∃ k,m=k+1:=⟨m-1,by omega⟩;rcases hs i (by omega) with ⟨h1,h2⟩ | ⟨h1,h2⟩
  · have := ih (i + 1) m (by omega) (by omega) (fun j hj => by
     by_cases e:j=i
     · subst e;exact h1
     · exact hok j (by omega))
    have e:lp step (m+1) (f i)=lp step m (f (i+1)):=h2 _;rw[e];exact this
  · exact .inr ⟨i,by omega,h1,h2 _⟩
theorem qiu {V T:Type} {step:(V->Option T)->V->Option T} (f:Nat->V) (n:Nat) (ok:Nat->Prop) (bad:Nat->T) (fin:T) (hn:n<18446744073709551616)
  (hs:∀ i,i<n->(ok i/\∀ g,step g (f i)=g (f (i+1)))\/(¬ ok i/\∀ g,step g (f i)=some (bad i))) (he:∀ g,step g (f n)=some fin) :
  ((∀ i,i<n->ok i)/\lp step K0 (f 0)=some fin)\/∃ i,i<n/\¬ ok i/\lp step K0 (f 0)=some (bad i) :=
 quN f n ok bad fin hs he n 0 K0 (by omega) hn (fun j h=>by omega)
abbrev qhe (n:NODE):Bool:=n.1
abbrev qfS (n:NODE):Int:=n.2.1
abbrev nCut (n:NODE):RAT:=n.2.2.1
abbrev nL (n:NODE):Int:=n.2.2.2.1
abbrev nR (n:NODE):Int:=n.2.2.2.2.1
abbrev nVal (n:NODE):RAT:=n.2.2.2.2.2.2.1
abbrev nCov (n:NODE):RAT:=n.2.2.2.2.2.2.2
def NSz (n:NODE) (k:Nat):Prop:=SzR (nCut n) k/\SzR (nVal n) k/\SzR (nCov n) k
def TSz (t:List NODE) (k:Nat):Prop:=∀ n∈t,NSz n k
def qfb (t:List NODE) (f:Int):Prop:=∀ i (h:i<t.length),qhe t[i]=false->0<=qfS t[i]/\qfS t[i]<f/\1<=nL t[i]/\nL t[i]<t.length/\1<=nR t[i]/\nR t[i]<t.length
def qsH (t:List NODE):Prop:=∀ i (h:i<t.length),0<rv (nCov t[i])
def cov (t:List NODE) (i:Nat):Rat:=rv (nCov ((t[i]?).getD (false,0,((false,[]),[]),0,0,false,((false,[]),[]),((false,[]),[]))))
theorem qno {t:List NODE} {i:Nat} (h:i<t.length):cov t i=rv (nCov t[i]):=by simp [cov,h]
def qvy (t:List NODE):Prop:=∀ i (h:i<t.length),qhe t[i]=false->rv (nCov t[i])=cov t (nL t[i]).toNat+cov t (nR t[i]).toNat
theorem qrA {t:List NODE} {f:Int} (hl:t.length<4294967296):∃ a e,qdM t f=some (a,e)/\(e=0 ↔ qfb t f):=by
 rcases qiu (step:=qaI) (fun i=>((t,f,t,((t.length:Nat):Int),(i:Int),()),())) t.length
   (fun i=>∀ h:i<t.length,qhe t[i]=false->0<=qfS t[i]/\qfS t[i]<f/\1<=nL t[i]/\nL t[i]<t.length/\1<=nR t[i]/\nR t[i]<t.length)
   (fun i => .inr (((i : Int), 8, ()), ())) (.inl ((), ())) (by omega) (by
    intro i hi;have d0:(i:Int)<((t.length:Nat):Int):=by omega
    have d1:(0:Int)<=(i:Int):=by omega
    have head:∀ g,qaI g ((t,f,t,((t.length:Nat):Int),(i:Int),()),())=bif qhe t[i] then (g ((t,f,t,((t.length:Nat):Int),((i+1:Nat):Int),()),())) else (bif (decide (qfS t[i]<0)) then (some (.inr (((i:Int),8,()),()))) else (bif (decide (qfS t[i]>=f)) then (some (.inr (((i:Int),8,()),()))) else (bif (decide (nL t[i]<1)) then (some (.inr (((i:Int),8,()),()))) else (bif (decide (nL t[i]>=(t.length:Int))) then (some (.inr (((i:Int),8,()),()))) else (bif (decide (nR t[i]<1)) then (some (.inr (((i:Int),8,()),()))) else (bif (decide (nR t[i]>=(t.length:Int))) then (some (.inr (((i:Int),8,()),()))) else (g ((t,f,t,((t.length:Nat):Int),((i+1:Nat):Int),()),())))))))):=by
     intro g;rw[qaI,cnd d0,cnd d1,tN0,gE0 hi,bS0,qcp (by omega)];rfl
    cases hleaf:qhe t[i] with
    | true=>exact .inl ⟨fun h h2=>absurd h2 (by rw[hleaf];decide),fun g=>by rw[head,hleaf];rfl⟩
    | false =>
     by_cases h:0<=qfS t[i]/\qfS t[i]<f/\1<=nL t[i]/\nL t[i]<t.length/\1<=nR t[i]/\nR t[i]<t.length
     · refine .inl ⟨fun _ _ => h, fun g => ?_⟩;obtain⟨h1,h2,h3,h4,h5,h6⟩:=h;rw[head,hleaf,cond_false,cnd' (by omega),cnd' (by omega),cnd' (by omega),cnd' (by omega),cnd' (by omega),cnd' (by omega)]
     · refine .inr ⟨fun h' => h (h' hi hleaf), fun g => ?_⟩;rw[head,hleaf,cond_false];by_cases h1:qfS t[i]<0
       · rw[cnd h1]
       by_cases h2:qfS t[i]>=f
       · rw[cnd' h1,cnd h2]
       by_cases h3:nL t[i]<1
       · rw[cnd' h1,cnd' h2,cnd h3]
       by_cases h4:nL t[i]>=(t.length:Int)
       · rw[cnd' h1,cnd' h2,cnd' h3,cnd h4]
       by_cases h5:nR t[i]<1
       · rw[cnd' h1,cnd' h2,cnd' h3,cnd' h4,cnd h5]
       by_cases h6:nR t[i]>=(t.length:Int)
       · rw[cnd' h1,cnd' h2,cnd' h3,cnd' h4,cnd' h5,cnd h6]
       exfalso;apply h;omega) (by
    intro g;rw[qaI,cnd' (by omega)]) with ⟨h,hlp⟩ | ⟨i,hi,h,hlp⟩
 · have hlp : lp qaI K0 ((t, f, t, ((t.length : Nat) : Int), 0, ()), ()) = some (.inl ((), ())) := hlp;refine⟨0,0,by rw[qdM,hlp];rfl,?_⟩;exact⟨fun _ i hi=>h i hi hi,fun _=>rfl⟩
 · have hlp : lp qaI K0 ((t, f, t, ((t.length : Nat) : Int), 0, ()), ()) = some (.inr (((i : Int), 8, ()), ())) := hlp;refine⟨(i:Int),8,by rw[qdM,hlp];rfl,?_⟩;exact⟨fun e=>(by cases e),fun hp=>absurd (fun hh=>hp i hh) h⟩
theorem qsm {t:List NODE} (hl:t.length<4294967296) {k:Nat} (hs:TSz t k) (hk:k<1099511627776):∃ a e,qdN t=some (a,e)/\(e=0 ↔ qsH t):=by
 rcases qiu (step:=qaJ) (fun i=>((t,((t.length:Nat):Int),(i:Int),()),())) t.length (fun i=>∀ h:i<t.length,0<rv (nCov t[i]))
   (fun i => .inr (((i : Int), 12, ()), ())) (.inl ((), ())) (by omega) (by
    intro i hi;have d0:(i:Int)<((t.length:Nat):Int):=by omega
    have d1:(0:Int)<=(i:Int):=by omega
    have hsg:=qmQ ((hs _ (gM0 hi)).2.2.sm hk);have head:∀ g,qaJ g ((t,((t.length:Nat):Int),(i:Int),()),())=bif decide (rcmp (rv (nCov t[i])) 0<=0) then some (.inr (((i:Int),12,()),())) else g ((t,((t.length:Nat):Int),((i+1:Nat):Int),()),()):=by
      intro g;rw[qaJ,cnd d0,cnd d1,tN0,gE0 hi,bS0,hsg,bS0,qcp (by omega)];rfl
    by_cases h:0<rv (nCov t[i])
    · exact .inl ⟨fun _=>h,fun g=>by rw[head,cnd' (fun h'=>Rat.not_le.2 h (qrz.1 h'))]⟩
    · exact .inr ⟨fun h'=>h (h' hi),fun g=>by rw[head,cnd (qrz.2 (Rat.not_lt.1 h))]⟩) (by
    intro g;rw[qaJ,cnd' (by omega)]) with ⟨h,hlp⟩ | ⟨i,hi,h,hlp⟩
 · have hlp : lp qaJ K0 ((t, ((t.length : Nat) : Int), 0, ()), ()) = some (.inl ((), ())) := hlp;exact⟨0,0,by rw[qdN,hlp];rfl,fun _ i hi=>h i hi hi,fun _=>rfl⟩
 · have hlp : lp qaJ K0 ((t, ((t.length : Nat) : Int), 0, ()), ()) = some (.inr (((i : Int), 12, ()), ())) := hlp;exact⟨(i:Int),12,by rw[qdN,hlp];rfl,fun e=>(by cases e),fun hp=>absurd (fun hh=>hp i hh) h⟩
theorem quq {t:List NODE} {f:Int} (hl:t.length<4294967296) {k:Nat} (hs:TSz t k) (hk:k<500000000000) (hr:qfb t f):∃ a e,qfn t=some (a,e)/\(e=0 ↔ qvy t):=by
 rcases qiu (step:=qaX) (fun i=>((t,t,((t.length:Nat):Int),(i:Int),()),())) t.length (fun i=>∀ h:i<t.length,qhe t[i]=false->rv (nCov t[i])=cov t (nL t[i]).toNat+cov t (nR t[i]).toNat)
   (fun i => .inr (((i : Int), 13, ()), ())) (.inl ((), ())) (by omega) (by
    intro i hi;have d0:(i:Int)<((t.length:Nat):Int):=by omega
    have d1:(0:Int)<=(i:Int):=by omega
    cases hleaf:qhe t[i] with
    | true =>
     refine .inl ⟨fun h h2=>absurd h2 (by rw[hleaf];decide),fun g=>?_⟩;rw[qaX,cnd d0,cnd d1,tN0,gE0 hi,bS0,show t[i].1=true from hleaf,qcp (by omega)];rfl
    | false =>
     obtain⟨r1,r2,r3,r4,r5,r6⟩:=hr i hi hleaf;have l1:(nL t[i]).toNat<t.length:=by omega
     have l2:(nR t[i]).toNat<t.length:=by omega
     have c1:(0:Int)<=nL t[i]:=by omega
     have c2:(0:Int)<=nR t[i]:=by omega
     have z1:=(hs _ (gM0 l1)).2.2;have z2:=(hs _ (gM0 l2)).2.2;have z0:=(hs _ (gM0 hi)).2.2;have hadd:=qnT (z1.sm (by omega)) (z2.sm (by omega));rw[<- qno l1,<- qno l2] at hadd;have zz:SzQ (cov t (nL t[i]).toNat+cov t (nR t[i]).toNat) (max k 1+max k 1+1):=by
       rw[qno l1,qno l2];have y1:SzR (nCov t[(nL t[i]).toNat]) (max k 1):=⟨Nat.le_trans z1.1 (Nat.le_max_left _ _),Nat.le_trans z1.2 (Nat.le_max_left _ _)⟩;have y2:SzR (nCov t[(nR t[i]).toNat]) (max k 1):=⟨Nat.le_trans z2.1 (Nat.le_max_left _ _),Nat.le_trans z2.2 (Nat.le_max_left _ _)⟩;exact(y1.szQ (by omega)).add (y2.szQ (by omega))
     have hsame:=qmS (z0.sm (by omega)) (zz.sm (by omega));rw[quu] at hsame;have head:∀ g,qaX g ((t,t,((t.length:Nat):Int),(i:Int),()),())=bif (!decide (rv (nCov t[i])=cov t (nL t[i]).toNat+cov t (nR t[i]).toNat)) then some (.inr (((i:Int),13,()),())) else g ((t,t,((t.length:Nat):Int),((i+1:Nat):Int),()),()):=by
       intro g;rw[qaX,cnd d0,cnd d1,tN0,gE0 hi,bS0,show t[i].1=false from hleaf,Bool.not_false,cond_true,cnd c1,gE0 l1,bS0,cnd c2,gE0 l2,bS0,hadd,bS0,hsame,bS0,qcp (by omega)];rfl
     by_cases h:rv (nCov t[i])=cov t (nL t[i]).toNat+cov t (nR t[i]).toNat
     · exact .inl ⟨fun _ _=>h,fun g=>by rw[head,decide_eq_true h];rfl⟩
     · exact .inr ⟨fun h'=>h (h' hi hleaf),fun g=>by rw[head,decide_eq_false h];rfl⟩) (by
    intro g;rw[qaX,cnd' (by omega)]) with ⟨h,hlp⟩ | ⟨i,hi,h,hlp⟩
 · have hlp : lp qaX K0 ((t, t, ((t.length : Nat) : Int), 0, ()), ()) = some (.inl ((), ())) := hlp;exact⟨0,0,by rw[qfn,hlp];rfl,fun _ i hi=>h i hi hi,fun _=>rfl⟩
 · have hlp : lp qaX K0 ((t, t, ((t.length : Nat) : Int), 0, ()), ()) = some (.inr (((i : Int), 13, ()), ())) := hlp;exact⟨(i:Int),13,by rw[qfn,hlp];rfl,fun e=>(by cases e),fun hp=>absurd (fun hh=>hp i hh) h⟩
def kids (t:List NODE) (i:Nat):List Nat :=
 match t[i]? with
 | some n=>if qhe n then [] else [(nL n).toNat,(nR n).toNat]
 | none=>[]
theorem qjj {t:List NODE} {i:Nat} (h:i<t.length) (hl:qhe t[i]=true):kids t i=[]:=by
 have hl':t[i].1=true:=hl;simp [kids,h,hl']
theorem qeE {t:List NODE} {i:Nat} (h:i<t.length) (hl:qhe t[i]=false):kids t i=[(nL t[i]).toNat,(nR t[i]).toNat]:=by
 have hl':t[i].1=false:=hl;simp [kids,h,hl']
def cnt (t:List NODE) (i j:Nat):Nat:=((List.range i).flatMap (kids t)).count j
theorem qqj (t:List NODE) (j:Nat):cnt t 0 j=0:=by simp [cnt]
theorem qjq (t:List NODE) (i j:Nat):cnt t (i+1) j=cnt t i j+(kids t i).count j:=by
 simp [cnt,List.range_succ,List.flatMap_append]
theorem qt8 (t:List NODE) (i j:Nat):cnt t i j<=2*i:=by
 induction i with
 | zero=>simp [qqj]
 | succ i ih =>
  rw[qjq];have h1:(kids t i).count j<=(kids t i).length:=List.count_le_length;have h2:(kids t i).length<=2:=by
   unfold kids;split
   · split<;>simp
   · simp
  omega
def qqo (t:List NODE):Prop:=∃ rk:Nat->Nat,∀ i,i<t.length->rk i<=t.length/\∀ c∈kids t i,rk c<rk i
def qsA (t:List NODE):Prop:=(∀ j,0<j->j<t.length->cnt t t.length j=1)/\qqo t
theorem qi5:∀ {n:Nat} {V:List Nat},V.Nodup->(∀ x∈V,x<n)->V.length<=n
 | 0,V,_,h=>by
  cases V with
  | nil=>simp
  | cons x V=>have:=h x List.mem_cons_self;omega
 | n+1,V,hnd,h=>by
  by_cases hm:n∈V
  · have h1 : (V.erase n).Nodup := hnd.sublist List.erase_sublist;have h2:∀ x∈V.erase n,x<n:=by
     intro x hx;have:=(List.Nodup.mem_erase_iff hnd).1 hx;have:=h x this.2;omega
    have h3:=qi5 h1 h2;have h4:=List.length_erase_of_mem hm;omega
  · have := qi5 hnd (n := n) (fun x hx => by
     have:=h x hx;have:x≠n:=fun e=>hm (e ▸ hx)
     omega)
    omega
section
variable {t:List NODE} {f:Int}
theorem qnb (hr:qfb t f) {i c:Nat} (hi:i<t.length) (hc:c∈kids t i):0<c/\c<t.length:=by
 cases hl:qhe t[i] with
 | true=>rw[qjj hi hl] at hc;cases hc
 | false =>
  obtain⟨_,_,h1,h2,h3,h4⟩:=hr i hi hl;rw[qeE hi hl] at hc;simp at hc;rcases hc with rfl | rfl<;>omega
theorem qoK (t:List NODE) (j:Nat) {a n:Nat} (ha:a<n):(kids t a).count j<=cnt t n j:=by
 induction n with
 | zero=>omega
 | succ n ih =>
  rw[qjq];by_cases e:a=n
  · subst e;omega
  · have:=ih (by omega);omega
theorem qsn (t:List NODE) (j:Nat) {a b n:Nat} (hab:a<b) (hb:b<n):(kids t a).count j+(kids t b).count j<=cnt t n j:=by
 induction n with
 | zero=>omega
 | succ n ih =>
  rw[qjq];by_cases e:b=n
  · subst e;have:=qoK t j hab;omega
  · have:=ih (by omega);omega
theorem qqD (hc:∀ j,0<j->j<t.length->cnt t t.length j=1) (hr:qfb t f) {a b j:Nat} (ha:a<t.length) (hb:b<t.length) (h1:j∈kids t a) (h2:j∈kids t b):a=b:=by
 obtain⟨j0,jl⟩:=qnb hr ha h1;have c1:=List.count_pos_iff.2 h1;have c2:=List.count_pos_iff.2 h2;have:=hc j j0 jl;rcases Nat.lt_trichotomy a b with h | h | h
 · have:=qsn t j h hb;omega
 · exact h
 · have:=qsn t j h ha;omega
theorem qq4 (hc:∀ j,0<j->j<t.length->cnt t t.length j=1) (hr:qfb t f) {a:Nat} (ha:a<t.length):(kids t a).Nodup:=by
 rw[List.nodup_iff_count];intro j;by_cases hj:j∈kids t a
 · obtain ⟨j0, jl⟩ := qnb hr ha hj;have h1:=qoK t j ha;have h2:=hc j j0 jl;exact Nat.le_trans h1 (Nat.le_of_eq h2)
 · rw[List.count_eq_zero_of_not_mem hj];omega
theorem qh8 (hc:∀ j,0<j->j<t.length->cnt t t.length j=1) {j:Nat} (h0:0<j) (hj:j<t.length):∃ p,p<t.length/\j∈kids t p:=by
 have h1:=hc j h0 hj;have h2:j∈(List.range t.length).flatMap (kids t):=List.count_pos_iff.1 (by rw[<- cnt,h1];omega);obtain⟨p,hp,hm⟩:=List.mem_flatMap.1 h2;exact⟨p,by simpa using hp,hm⟩
end
structure Srch (t:List NODE) (V S:List Nat):Prop where
 nd:(V++S).Nodup
 lt:∀ x∈V++S,x<t.length
 par:∀ c∈V++S,c≠0->∃ p∈V,c∈kids t p
 kid:∀ p∈V,∀ c∈kids t p,c∈V++S
 root:0∈V++S
 ord:V.Pairwise fun a b=>a ∉ kids t b
 self:∀ x∈V,x ∉ kids t x
theorem Srch.init {t:List NODE} (h:0<t.length):Srch t [] [0] where
 nd:=by simp
 lt:=by simpa using h
 par:=by simp
 kid:=by simp
 root:=by simp
 ord:=List.Pairwise.nil
 self:=by simp
theorem Srch.step {t:List NODE} {f:Int} (hc:∀ j,0<j->j<t.length->cnt t t.length j=1) (hr:qfb t f) {V S:List Nat} {x:Nat} (h:Srch t V (S++[x])):Srch t (V++[x]) (S++kids t x):=by
 have hxlt:x<t.length:=h.lt x (by simp);have hnd:=h.nd;rw[<- List.append_assoc,List.nodup_append] at hnd;obtain⟨n1,n2,n3⟩:=hnd;have hxVS:x ∉ V++S:=fun hx=>n3 x hx x (by simp) rfl
 have hnew:∀ c∈kids t x,c ∉ V++(S++[x]):=by
   intro c hcx hmem;obtain⟨c0,cl⟩:=qnb hr hxlt hcx;obtain⟨p,hp,hcp⟩:=h.par c hmem (by omega);have:=qqD hc hr (h.lt p (List.mem_append_left _ hp)) hxlt hcp hcx;subst this;exact hxVS (List.mem_append_left _ hp)
 have hperm:((V++[x])++(S++kids t x)).Perm ((V++(S++[x]))++kids t x):=by
   have e1:(V++[x])++(S++kids t x)=V++([x]++S)++kids t x:=by simp
   have e2:(V++(S++[x]))++kids t x=V++(S++[x])++kids t x:=rfl;rw[e1,e2];exact List.Perm.append_right _ (List.Perm.append_left _ List.perm_append_comm)
 have hmem:∀ y,y∈(V++[x])++(S++kids t x) ↔ y∈V++(S++[x])\/y∈kids t x:=by
   intro y;rw[hperm.mem_iff,List.mem_append]
 refine⟨?_,?_,?_,?_,?_,?_,?_⟩
 · rw [hperm.nodup_iff, List.nodup_append];exact⟨h.nd,qq4 hc hr hxlt,fun a ha b hb e=>hnew b hb (e ▸ ha)⟩
 · intro y hy;rcases(hmem y).1 hy with hy | hy
   · exact h.lt y hy
   · exact(qnb hr hxlt hy).2
 · intro c hcm hc0;rcases(hmem c).1 hcm with hy | hy
   · obtain ⟨p, hp, hcp⟩ := h.par c hy hc0;exact⟨p,List.mem_append_left _ hp,hcp⟩
   · exact⟨x,by simp,hy⟩
 · intro p hp c hcp;rw[hmem];rcases List.mem_append.1 hp with hp | hp
   · exact .inl (h.kid p hp c hcp)
   · simp at hp;subst hp;exact .inr hcp
 · rw[hmem];exact .inl h.root
 · rw [List.pairwise_append];refine⟨h.ord,by simp,fun a ha b hb=>?_⟩;simp at hb;subst hb;intro hak;exact hnew a hak (List.mem_append_left _ ha)
 · intro y hy;rcases List.mem_append.1 hy with hy | hy
   · exact h.self y hy
   · simp at hy; subst hy;intro hk;exact hnew y hk (by simp)
theorem Srch.ranked {t:List NODE} {V:List Nat} (h:Srch t V []) (hall:∀ i,i<t.length->i∈V):qqo t:=by
 have hnd:V.Nodup:=by simpa using h.nd
 have hlen:V.length<=t.length:=qi5 hnd (fun x hx=>h.lt x (by simpa using hx));refine⟨fun i=>V.length-V.idxOf i,fun i hi=>⟨by show V.length-V.idxOf i<=t.length;omega,fun c hc=>?_⟩⟩;have hiV:=hall i hi;have hcV:c∈V:=by simpa using h.kid i hiV c hc
 have h1:V.idxOf i<V.length:=List.idxOf_lt_length_iff.2 hiV;have h2:V.idxOf c<V.length:=List.idxOf_lt_length_iff.2 hcV;have g1:V[V.idxOf i]=i:=List.getElem_idxOf h1;have g2:V[V.idxOf c]=c:=List.getElem_idxOf h2;have hne:¬ V.idxOf c<=V.idxOf i:=by
  intro hle;by_cases e:V.idxOf c=V.idxOf i
  · have : c = i := by rw [<- g1, <- g2]; simp [e]
    subst this;exact h.self c hiV hc
  · have := List.pairwise_iff_getElem.1 h.ord _ _ h2 h1 (by omega);rw[g1,g2] at this;exact this hc
 show V.length-V.idxOf c<V.length-V.idxOf i;omega
theorem Srch.all {t:List NODE} {V:List Nat} (h:Srch t V []) (hc:∀ j,0<j->j<t.length->cnt t t.length j=1) (hrk:qqo t):∀ i,i<t.length->i∈V:=by
 obtain⟨rk,hrk⟩:=hrk;have key:∀ (d i:Nat),i<t.length->t.length-rk i<=d->i∈V:=by
  intro d
  induction d with
  | zero =>
   intro i hi hd;by_cases h0:i=0
   · subst h0;simpa using h.root
   · obtain ⟨p, hp, hm⟩ := qh8 hc (by omega) hi;have h1:=(hrk p hp).1;have h2:=(hrk p hp).2 i hm;omega
  | succ d ih =>
   intro i hi hd;by_cases h0:i=0
   · subst h0;simpa using h.root
   · obtain ⟨p, hp, hm⟩ := qh8 hc (by omega) hi;have h1:=(hrk p hp).1;have h2:=(hrk p hp).2 i hm;have:=ih p hp (by omega);simpa using h.kid p this i hm
 exact fun i hi=>key _ i hi (Nat.le_refl _)
def cntL (t:List NODE) (i:Nat):List Int:=(List.range t.length).map fun j=>((cnt t i j:Nat):Int)
@[simp] theorem qkO (t:List NODE) (i:Nat):(cntL t i).length=t.length:=by simp [cntL]
theorem qg0 {t:List NODE} {i j:Nat} (h:j<t.length):(cntL t i)[j]?=some ((cnt t i j:Nat):Int):=by simp [cntL,h]
theorem qso {t:List NODE} {i a b:Nat} (ha:a<t.length) (hb:b<t.length) (hk:kids t i=[a,b]) :
   ((cntL t i).set a (((cnt t i a:Nat):Int)+1))[b]?=some ((cnt t i b+(if a=b then 1 else 0):Nat):Int) /\
   ((cntL t i).set a (((cnt t i a:Nat):Int)+1)).set b (((cnt t i b+(if a=b then 1 else 0):Nat):Int)+1)=cntL t (i+1):=by
 constructor
 · rw [List.getElem?_set];by_cases e:a=b
   · subst e;simp [ha]
   · rw[if_neg e,qg0 hb];simp [e]
 · apply List.ext_getElem?;intro j;by_cases hj:j<t.length
   · rw [qg0 hj, qjq, hk, List.getElem?_set, List.getElem?_set];by_cases e1:b=j
     · subst e1;by_cases e2:a=b
       · subst e2;simp [ha];omega
       · simp [hb,e2,List.count_cons]
     · by_cases e2 : a = j
       · subst e2;simp [ha,e1,List.count_cons]
       · rw[if_neg e1,if_neg e2,qg0 hj];simp [List.count_cons,e1,e2]
   · rw[List.getElem?_eq_none (by simp;omega),List.getElem?_eq_none (by simp;omega)]
theorem qoV {t:List NODE} {f:Int} (hl:t.length<4294967296) (hr:qfb t f) :
  lp qbb K0 ((t,List.replicate t.length 0,t,((t.length:Nat):Int),0,()),())=some ((t,cntL t t.length,()),()):=by
 have e0:cntL t 0=List.replicate t.length 0:=by simp [cntL,qqj,List.map_const']
 have:=qpn (step:=qbb) (fun i=>((t,cntL t i,t,((t.length:Nat):Int),(i:Int),()),())) t.length (r:=((t,cntL t t.length,()),())) (by omega) (by
  intro g i hi;have d0:(i:Int)<((t.length:Nat):Int):=by omega
  have d1:(0:Int)<=(i:Int):=by omega
  cases hleaf:qhe t[i] with
  | true =>
   have:cntL t (i+1)=cntL t i:=by
    unfold cntL;congr 1;funext j;rw[qjq,qjj hi hleaf];simp
   rw[qbb,cnd d0,cnd d1,tN0,gE0 hi,bS0,show t[i].1=true from hleaf,qcp (by omega),this];rfl
  | false =>
   obtain⟨r1,r2,r3,r4,r5,r6⟩:=hr i hi hleaf;have hk:=qeE hi hleaf;have l1:(nL t[i]).toNat<t.length:=by omega
   have l2:(nR t[i]).toNat<t.length:=by omega
   have c1:(0:Int)<=nL t[i]:=by omega
   have c2:(0:Int)<=nR t[i]:=by omega
   have c3:nL t[i]<((cntL t i).length:Int):=by rw[qkO];omega
   obtain⟨s1,s2⟩:=qso l1 l2 hk;have b1:=qt8 t i (nL t[i]).toNat;have b2:=qt8 t i (nR t[i]).toNat;have e1:iadd .i64 ((cnt t i (nL t[i]).toNat:Nat):Int) 1=((cnt t i (nL t[i]).toNat:Nat):Int)+1:=qcp (by omega);have e2:iadd .i64 ((cnt t i (nR t[i]).toNat+(if (nL t[i]).toNat=(nR t[i]).toNat then 1 else 0):Nat):Int) 1=((cnt t i (nR t[i]).toNat+(if (nL t[i]).toNat=(nR t[i]).toNat then 1 else 0):Nat):Int)+1:=qcp (by split<;>omega);have c4:nR t[i]<(((cntL t i).set (nL t[i]).toNat (((cnt t i (nL t[i]).toNat:Nat):Int)+1)).length:Int):=by rw[List.length_set,qkO];omega
   rw[qbb,cnd d0,cnd d1,tN0,gE0 hi,bS0,show t[i].1=false from hleaf,Bool.not_false,cond_true,cnd2 c1 c3,qg0 l1,bS0,cnd2 c1 c3,bS0,e1,cnd2 c2 c4,s1,bS0,cnd2 c2 c4,bS0,e2,s2,qcp (by omega)];rfl) (by
  intro g;rw[qbb,cnd' (by omega)])
 rw[<- e0];exact this
theorem qnE {t:List NODE} {f:Int} (hl:t.length<4294967296) (h0:0<t.length) (hr:qfb t f) (hc:∀ j,0<j->j<t.length->cnt t t.length j=1) :
  ∃ V,Srch t V []/\lp qbc K0 ((t,List.replicate t.length false,[0],()),())=some ((qdt t.length V,()),()):=by
 obtain⟨r,⟨V,hV,rfl⟩,hlp⟩:=qm9 (step:=qbc) (fun s=>∃ V S:List Nat,Srch t V S/\s=((t,qdt t.length V,ints S,()),())) (fun s=>t.length+1-(s.1.2.1.filter id).length)
  (fun r=>∃ V,Srch t V []/\r=((qdt t.length V,()),())) (v:=((t,List.replicate t.length false,[0],()),()))
  ⟨[], [0], Srch.init h0, by simp [qdt, ints, List.map_const']⟩ (by simp; omega) (by
   rintro s ⟨V,S,hS,rfl⟩;rcases List.eq_nil_or_concat S with rfl | ⟨S',x,hSx⟩
   · exact .inl ⟨_,⟨V,hS,rfl⟩,fun g=>by rw[qbc,cnd' (by simp [ints])]⟩
   · rw [List.concat_eq_append] at hSx;subst hSx;have hnd:=hS.nd;have hVl:(V++(S'++[x])).length<=t.length:=qi5 hnd hS.lt;have hSl:S'.length+1<=t.length:=by simp at hVl;omega
     have hxlt:x<t.length:=hS.lt x (by simp);have hst:=Srch.step hc hr hS;have hxV:x ∉ V:=by
       intro hx;rw[List.nodup_append] at hnd;exact hnd.2.2 x hx x (by simp) rfl
     have hcount:∀ U:List Nat,U.Nodup->(∀ y∈U,y<t.length)->((qdt t.length U).filter id).length=U.length:=by
       intro U hU hlt;have e1:((qdt t.length U).filter id).length=((List.range t.length).filter fun j=>decide (j∈U)).length:=by
         unfold qdt;rw[List.filter_map,List.length_map];rfl
       rw[e1];refine List.Perm.length_eq ?_;rw[List.perm_iff_count];intro a;have n1:((List.range t.length).filter fun j=>decide (j∈U)).Nodup:=List.Nodup.sublist List.filter_sublist List.nodup_range;have m1:a∈((List.range t.length).filter fun j=>decide (j∈U)) ↔ a∈U:=by
         simp;exact hlt a
       by_cases ha:a∈U
       · rw[List.Nodup.count hU,if_pos ha,List.Nodup.count n1,if_pos (m1.2 ha)]
       · rw[List.count_eq_zero_of_not_mem ha,List.count_eq_zero_of_not_mem (fun h=>ha (m1.1 h))]
     have hVnd:V.Nodup:=(List.nodup_append.1 hnd).1;have hm1:=hcount V hVnd (fun y hy=>hS.lt y (List.mem_append_left _ hy));have hVx:(V++[x]).Nodup:=(List.nodup_append.1 hst.nd).1;have hm2:=hcount (V++[x]) hVx (fun y hy=>hst.lt y (List.mem_append_left _ hy));refine .inr ⟨_,⟨V++[x],S'++kids t x,hst,rfl⟩,?_,fun g=>?_⟩
     · show t.length + 1 - ((qdt t.length (V ++ [x])).filter id).length < t.length + 1 - ((qdt t.length V).filter id).length;rw[hm1,hm2];simp at hVl ⊢;omega
     · have hlen : (ints (S' ++ [x])).length = S'.length + 1 := by simp
       have e1:isub .i64 ((S'.length+1:Nat):Int) 1=((S'.length:Nat):Int):=by rw[qeW]<;>omega
       have c0:((S'.length+1:Nat):Int)>0:=by omega
       have c1:(0:Int)<=((S'.length:Nat):Int):=by omega
       have c2:((S'.length:Nat):Int)<((S'.length+1:Nat):Int):=by omega
       have g1:(ints (S'++[x]))[S'.length]?=some ((x:Nat):Int):=by simp [ints]
       have c3:(decide ((0:Int)<=((S'.length:Nat):Int))&&decide (((S'.length:Nat):Int)<=((S'.length:Nat):Int))&&decide (((S'.length:Nat):Int)<=((S'.length+1:Nat):Int)))=true:=by
         rw[decide_eq_true c1,decide_eq_true (Int.le_refl _),decide_eq_true (Int.le_of_lt c2)];rfl
       have c4:(0:Int)<=((x:Nat):Int):=by omega
       have c5:((x:Nat):Int)<((qdt t.length V).length:Int):=by simp;omega
       have e2:(((S'.length:Nat):Int)-0).toNat=S'.length:=by omega
       have e3:(ints (S'++[x])).take S'.length=ints S':=by simp [ints]
       rw[qbc,hlen,cnd c0,e1,cnd2 c1 c2,tN0,g1,bS0,c3,cond_true,cnd2 c4 c5,tN0,qf6 hxlt,bS0,cnd c4,gE0 hxlt,bS0,qqt hxlt,e2,e3];cases hleaf:qhe t[x] with
       | true =>
         rw[show t[x].1=true from hleaf,qjj hxlt hleaf,List.append_nil];rfl
       | false =>
         obtain⟨r1,r2,r3,r4,r5,r6⟩:=hr x hxlt hleaf;have q1:(((nL t[x]).toNat:Nat):Int)=nL t[x]:=by omega
         have q2:(((nR t[x]).toNat:Nat):Int)=nR t[x]:=by omega
         have e4:ints (S'++kids t x)=ints S'++[nL t[x],nR t[x]]:=by
          rw[qeE hxlt hleaf];simp only[ints,List.map_append,List.map_cons,List.map_nil,q1,q2]
         have hb8:((ints S').length+2)*8<=140737488355328:=by rw[qtn];omega
         rw[show t[x].1=false from hleaf,blt hb8,cond_true,Bool.not_false,cond_true,e4])
 exact⟨V,hV,hlp⟩
theorem qsR {t:List NODE} {f:Int} (hl:t.length<4294967296) (h0:0<t.length) (hr:qfb t f):∃ a e,qfx t=some (a,e)/\(e=0 ↔ qsA t):=by
 have hcount:=qoV hl hr;have gd:(decide ((t.length:Int)=(t.length:Int))&&decide (0<=(t.length:Int))&&decide (((8:Nat):Int)*(t.length:Int)<=281474976710656)&&decide ((t.length:Int)<=9223372036854775807))=true:=by
   have h1:(0:Int)<=(t.length:Int):=by omega
   have h2:((8:Nat):Int)*(t.length:Int)<=281474976710656:=by omega
   have h3:(t.length:Int)<=9223372036854775807:=by omega
   rw[decide_eq_true h1,decide_eq_true h2,decide_eq_true h3,decide_eq_true rfl];rfl
 have gd1:(decide ((t.length:Int)=(t.length:Int))&&decide (0<=(t.length:Int))&&decide (((1:Nat):Int)*(t.length:Int)<=281474976710656)&&decide ((t.length:Int)<=9223372036854775807))=true:=by
   have h1:(0:Int)<=(t.length:Int):=by omega
   have h2:((1:Nat):Int)*(t.length:Int)<=281474976710656:=by omega
   have h3:(t.length:Int)<=9223372036854775807:=by omega
   rw[decide_eq_true h1,decide_eq_true h2,decide_eq_true h3,decide_eq_true rfl];rfl
 rw[qfx,gd,cond_true,tN0,hcount,bS0,qkO];rcases qiu (step:=qay) (fun i=>((t,cntL t t.length,((t.length:Nat):Int),(i:Int),()),())) t.length (fun i=>i=0\/cnt t t.length i=1) (fun i=>.inr (((i:Int),11,()),())) (.inl ((t,()),())) (by omega) (by
     intro i hi;have d0:(i:Int)<((t.length:Nat):Int):=by omega
     have d1:(0:Int)<=(i:Int):=by omega
     have d2:(i:Int)<((cntL t t.length).length:Int):=by rw[qkO];omega
     by_cases hi0:i=0
     · refine .inl ⟨.inl hi0, fun g => ?_⟩;rw[qay,cnd d0,cnd2 d1 d2,tN0,qg0 hi,bS0,cnd' (by omega),qcp (by omega)];rfl
     · by_cases h1 : cnt t t.length i = 1
       · refine .inl ⟨.inr h1, fun g => ?_⟩;rw[qay,cnd d0,cnd2 d1 d2,tN0,qg0 hi,bS0,cnd (by omega),decide_eq_true (by omega),qcp (by omega)];rfl
       · refine .inr ⟨fun h => by rcases h with h | h <;> contradiction, fun g => ?_⟩;rw[qay,cnd d0,cnd2 d1 d2,tN0,qg0 hi,bS0,cnd (by omega),decide_eq_false (by omega)];rfl) (by
     intro g;rw[qay,cnd' (by omega)]) with ⟨h,hlp⟩ | ⟨i,hi,h,hlp⟩
 · have hlp : lp qay K0 ((t, cntL t t.length, ((t.length : Nat) : Int), 0, ()), ()) = some (.inl ((t, ()), ())) := hlp;have hc:∀ j,0<j->j<t.length->cnt t t.length j=1:=fun j h1 h2=>by
     rcases h j h2 with h3 | h3
     · omega
     · exact h3
   obtain⟨V,hV,hlp2⟩:=qnE hl h0 hr hc;rw[hlp,bS0];dsimp only;rw[gd1,cond_true,tN0,hlp2,bS0];dsimp only;rw[ql7];rcases qiu (step:=qaH) (fun i=>((qdt t.length V,((t.length:Nat):Int),(i:Int),()),())) t.length (fun i=>i∈V) (fun i=>.inr (((i:Int),11,()),())) (.inl ((),())) (by omega) (by
       intro i hi;have d0:(i:Int)<((t.length:Nat):Int):=by omega
       have d1:(0:Int)<=(i:Int):=by omega
       have d2:(i:Int)<((qdt t.length V).length:Int):=by rw[ql7];omega
       by_cases hiV:i∈V
       · refine .inl ⟨hiV, fun g => ?_⟩;rw[qaH,cnd d0,cnd2 d1 d2,tN0,qf6 hi,bS0,decide_eq_true hiV,qcp (by omega)];rfl
       · refine .inr ⟨hiV, fun g => ?_⟩;rw[qaH,cnd d0,cnd2 d1 d2,tN0,qf6 hi,bS0,decide_eq_false hiV];rfl) (by
       intro g;rw[qaH,cnd' (by omega)]) with ⟨h2,hlp3⟩ | ⟨i,hi,h2,hlp3⟩
   · have hlp3 : lp qaH K0 ((qdt t.length V, ((t.length : Nat) : Int), 0, ()), ()) = some (.inl ((), ())) := hlp3;rw[hlp3];exact⟨0,0,rfl,fun _=>⟨hc,hV.ranked h2⟩,fun _=>rfl⟩
   · have hlp3 : lp qaH K0 ((qdt t.length V, ((t.length : Nat) : Int), 0, ()), ()) = some (.inr (((i : Int), 11, ()), ())) := hlp3;rw[hlp3];exact⟨(i:Int),11,rfl,fun e=>(by cases e),fun hp=>absurd (hV.all hc hp.2 i hi) h2⟩
 · have hlp : lp qay K0 ((t, cntL t t.length, ((t.length : Nat) : Int), 0, ()), ()) = some (.inr (((i : Int), 11, ()), ())) := hlp;rw[hlp];refine⟨(i:Int),11,rfl,fun e=>(by cases e),fun hp=>?_⟩;exfalso;apply h;by_cases hi0:i=0
   · exact .inl hi0
   · exact .inr (hp.1 i (by omega) hi)
theorem qtg {V T:Type} {step:(V->Option T)->V->Option T} (f:Nat->V) (n:Nat) (ok:Nat->Prop) (Q:T->Prop) (fin:T)
  (hs:∀ i,i<n->(∀ j,j<i->ok j)->(ok i/\∀ g,step g (f i)=g (f (i+1)))\/(¬ ok i/\∃ r,Q r/\∀ g,step g (f i)=some r)) (he:∀ g,step g (f n)=some fin) :
  ∀ (d i m:Nat),i+d=n->d<m->(∀ j,j<i->ok j)->((∀ i,i<n->ok i)/\lp step m (f i)=some fin)\/(¬ (∀ i,i<n->ok i)/\∃ r,Q r/\lp step m (f i)=some r):=by
 intro d
 induction d with
 | zero =>
  intro i m hi hm hok;obtain⟨m,rfl⟩:∃ k,m=k+1:=⟨m-1,by omega⟩;have:i=n:=by omega
  subst this;exact .inl ⟨hok,he _⟩
 | succ d ih =>
  intro i m hi hm hok;obtain⟨m,rfl⟩:∃ k,m=k+1:=⟨m-1,by omega⟩;rcases hs i (by omega) hok with ⟨h1,h2⟩ | ⟨h1,r,h2,h3⟩
  · have := ih (i + 1) m (by omega) (by omega) (fun j hj => by
     by_cases e:j=i
     · subst e;exact h1
     · exact hok j (by omega))
    have e:lp step (m+1) (f i)=lp step m (f (i+1)):=h2 _;rw[e];exact this
  · exact .inr ⟨fun h=>h1 (h i (by omega)),r,h2,h3 _⟩
theorem quM {V T:Type} {step:(V->Option T)->V->Option T} (f:Nat->V) (n:Nat) (ok:Nat->Prop) (Q:T->Prop) (fin:T) (hn:n<18446744073709551616)
  (hs:∀ i,i<n->(∀ j,j<i->ok j)->(ok i/\∀ g,step g (f i)=g (f (i+1)))\/(¬ ok i/\∃ r,Q r/\∀ g,step g (f i)=some r)) (he:∀ g,step g (f n)=some fin) :
  ((∀ i,i<n->ok i)/\lp step K0 (f 0)=some fin)\/(¬ (∀ i,i<n->ok i)/\∃ r,Q r/\lp step K0 (f 0)=some r) :=
 qtg f n ok Q fin hs he n 0 K0 (by omega) hn (fun j h=>by omega)
def qic (n:NODE):Prop:=0<=qfS n/\qfS n<=64/\0<=nL n/\nL n<=255/\0<=nR n/\nR n<=255
def qqn (t:List NODE):Prop:=1<=t.length/\t.length<=255/\∀ i (h:i<t.length),qic t[i]
def qtP (m:qbs):Prop:=0<=m.1/\m.1<=64/\m.2.length<=64/\∀ i (h:i<m.2.length),qqn m.2[i]
theorem qq7 (a:List (List NODE)) (b c:Int) {t:List NODE} (hl:t.length<4294967296) :
   ((∀ i (h:i<t.length),qic t[i])/\lp qbo K0 ((a,b,c,t,((t.length:Nat):Int),0,()),())=some (.inl ((a,b,c,()),()))) \/
   (¬ (∀ i (h:i<t.length),qic t[i])/\lp qbo K0 ((a,b,c,t,((t.length:Nat):Int),0,()),())=some (.inr ((false,()),()))):=by
 rcases qiu (step:=qbo) (fun i=>((a,b,c,t,((t.length:Nat):Int),(i:Int),()),())) t.length (fun i=>∀ h:i<t.length,qic t[i]) (fun i=>.inr ((false,()),())) (.inl ((a,b,c,()),())) (by omega) (by
    intro i hi;have d0:(i:Int)<((t.length:Nat):Int):=by omega
    have d1:(0:Int)<=(i:Int):=by omega
    have head:∀ g,qbo g ((a,b,c,t,((t.length:Nat):Int),(i:Int),()),())=bif (decide (qfS t[i]<0)) then (some (.inr ((false,()),()))) else (bif (decide (qfS t[i]>64)) then (some (.inr ((false,()),()))) else (bif (decide (nL t[i]<0)) then (some (.inr ((false,()),()))) else (bif (decide (nL t[i]>255)) then (some (.inr ((false,()),()))) else (bif (decide (nR t[i]<0)) then (some (.inr ((false,()),()))) else (bif (decide (nR t[i]>255)) then (some (.inr ((false,()),()))) else (g ((a,b,c,t,((t.length:Nat):Int),((i+1:Nat):Int),()),()))))))):=by
      intro g;rw[qbo,cnd d0,cnd d1,tN0,gE0 hi,bS0,qcp (by omega)];rfl
    by_cases h:qic t[i]
    · refine .inl ⟨fun _ => h, fun g => ?_⟩;obtain⟨h1,h2,h3,h4,h5,h6⟩:=h;rw[head,cnd' (by omega),cnd' (by omega),cnd' (by omega),cnd' (by omega),cnd' (by omega),cnd' (by omega)]
    · refine .inr ⟨fun h' => h (h' hi), fun g => ?_⟩;rw[head];by_cases h1:qfS t[i]<0
      · rw[cnd h1]
      by_cases h2:qfS t[i]>64
      · rw[cnd' h1,cnd h2]
      by_cases h3:nL t[i]<0
      · rw[cnd' h1,cnd' h2,cnd h3]
      by_cases h4:nL t[i]>255
      · rw[cnd' h1,cnd' h2,cnd' h3,cnd h4]
      by_cases h5:nR t[i]<0
      · rw[cnd' h1,cnd' h2,cnd' h3,cnd' h4,cnd h5]
      by_cases h6:nR t[i]>255
      · rw[cnd' h1,cnd' h2,cnd' h3,cnd' h4,cnd' h5,cnd h6]
      exfalso;apply h;unfold qic;omega) (by
    intro g;rw[qbo,cnd' (by omega)]) with ⟨h,hlp⟩ | ⟨i,hi,h,hlp⟩
 · exact .inl ⟨fun i hi=>h i hi hi,hlp⟩
 · exact .inr ⟨fun hh=>h (fun hi=>hh i hi),hlp⟩
theorem qu9 {m:qbs} (hl:m.2.length<4294967296) (ht:∀ t∈m.2,t.length<4294967296):∃ b,qgw m=some b/\(b=true ↔ qtP m):=by
 unfold qgw;by_cases h1:m.1<0
 · exact⟨false,by rw[cnd h1],fun h=>(by cases h),fun h=>by have:=h.1;omega⟩
 by_cases h2:m.1>64
 · exact⟨false,by rw[cnd' h1,cnd h2],fun h=>(by cases h),fun h=>by have:=h.2.1;omega⟩
 by_cases h3:((m.2.length:Nat):Int)>64
 · exact⟨false,by rw[cnd' h1,cnd' h2,cnd h3],fun h=>(by cases h),fun h=>by have:=h.2.2.1;omega⟩
 rw[cnd' h1,cnd' h2,cnd' h3];rcases qiu (step:=qaQ) (fun i=>((m.2,((m.2.length:Nat):Int),(i:Int),()),())) m.2.length (fun i=>∀ h:i<m.2.length,qqn m.2[i]) (fun i=>.inr ((false,()),())) (.inl ((),())) (by omega) (by
    intro i hi;have d0:(i:Int)<((m.2.length:Nat):Int):=by omega
    have d1:(0:Int)<=(i:Int):=by omega
    have hti:=ht _ (gM0 hi);by_cases g1:((m.2[i].length:Nat):Int)<1
    · refine .inr ⟨fun h => by have := (h hi).1; omega, fun g => ?_⟩;rw[qaQ,cnd d0,cnd d1,tN0,gE0 hi,bS0,cnd g1]
    by_cases g2:((m.2[i].length:Nat):Int)>255
    · refine .inr ⟨fun h => by have := (h hi).2.1; omega, fun g => ?_⟩;rw[qaQ,cnd d0,cnd d1,tN0,gE0 hi,bS0,cnd' g1,cnd g2]
    rcases qq7 m.2 ((m.2.length:Nat):Int) (i:Int) hti with ⟨h,hlp⟩ | ⟨h,hlp⟩
    · refine .inl ⟨fun _ => ⟨by omega, by omega, h⟩, fun g => ?_⟩;rw[qaQ,cnd d0,cnd d1,tN0,gE0 hi,bS0,cnd' g1,cnd' g2,hlp,bS0];dsimp only;rw[qcp (by omega)];rfl
    · refine .inr ⟨fun hh => h (hh hi).2.2, fun g => ?_⟩;rw[qaQ,cnd d0,cnd d1,tN0,gE0 hi,bS0,cnd' g1,cnd' g2,hlp,bS0]) (by
    intro g;rw[qaQ,cnd' (by omega)]) with ⟨h,hlp⟩ | ⟨i,hi,h,hlp⟩
 · have hlp : lp qaQ K0 ((m.2, ((m.2.length : Nat) : Int), 0, ()), ()) = some (.inl ((), ())) := hlp;exact⟨true,by rw[hlp];rfl,fun _=>⟨by omega,by omega,by omega,fun i hi=>h i hi hi⟩,fun _=>rfl⟩
 · have hlp : lp qaQ K0 ((m.2, ((m.2.length : Nat) : Int), 0, ()), ()) = some (.inr ((false, ()), ())) := hlp;exact⟨false,by rw[hlp];rfl,fun h'=>(by cases h'),fun hp=>absurd (fun hh=>hp.2.2.2 i hh) h⟩
def qoP (f:Int):Nat->List NODE->Prop
 | 0,t=>qfb t f
 | 1,t=>qsA t
 | 2,t=>qsH t
 | _,t=>qvy t
def Good (m:qbs):Prop:=qtP m/\∀ r,r<4->∀ i (h:i<m.2.length),qoP m.1 r m.2[i]
theorem Good.ranges {m:qbs} (h:Good m) {i:Nat} (hi:i<m.2.length):qfb m.2[i] m.1:=h.2 0 (by decide) i hi
theorem Good.shape {m:qbs} (h:Good m) {i:Nat} (hi:i<m.2.length):qsA m.2[i]:=h.2 1 (by decide) i hi
def MSz (m:qbs) (k:Nat):Prop:=∀ t∈m.2,TSz t k
theorem qpD {m:qbs} {k:Nat} (hf:qtP m) (hs:MSz m k) (hk:k<500000000000) {r:Nat} (hr:r<4) (hlow:∀ r',r'<r->∀ i (h:i<m.2.length),qoP m.1 r' m.2[i]) (z:Int×Int×Int×Int) :
   ((∀ i (h:i<m.2.length),qoP m.1 r m.2[i])/\lp qap K0 (((r:Int),(r:Int),m.2,((m.2.length:Nat):Int),0,()),((m.1,m.2,()),(z.1,z.2.1,z.2.2.1,z.2.2.2,()),()))=some (.inl (((r:Int),()),((m.1,m.2,()),(z.1,z.2.1,z.2.2.1,z.2.2.2,()),())))) \/
   (¬ (∀ i (h:i<m.2.length),qoP m.1 r m.2[i])/\∃ e a b c,e≠0/\lp qap K0 (((r:Int),(r:Int),m.2,((m.2.length:Nat):Int),0,()),((m.1,m.2,()),(z.1,z.2.1,z.2.2.1,z.2.2.2,()),()))=some (.inr ((),((e,a,b,c,()),())))):=by
 have hlen:=hf.2.2.1;have ans:∀ i (h:i<m.2.length),∃ a e,(e=0 ↔ qoP m.1 r m.2[i])/\∀ g,qap g (((r:Int),(r:Int),m.2,((m.2.length:Nat):Int),(i:Int),()),((m.1,m.2,()),(z.1,z.2.1,z.2.2.1,z.2.2.2,()),())) =
     bif (!decide (e=0)) then some (.inr ((),((e,0,(i:Int),a,()),()))) else g (((r:Int),(r:Int),m.2,((m.2.length:Nat):Int),((i+1:Nat):Int),()),((m.1,m.2,()),(z.1,z.2.1,z.2.2.1,z.2.2.2,()),())):=by
   intro i hi;have d0:(i:Int)<((m.2.length:Nat):Int):=by omega
   have d1:(0:Int)<=(i:Int):=by omega
   have htf:=hf.2.2.2 i hi;have htl:m.2[i].length<4294967296:=by have:=htf.2.1;omega
   have ht0:0<m.2[i].length:=htf.1;have hts:=hs _ (gM0 hi)
   match r,hr with
   | 0, _ =>
     obtain⟨a,e,h1,h2⟩:=qrA (f:=m.1) htl;refine⟨a,e,h2,fun g=>?_⟩;rw[qap,cnd d0,cnd d1,tN0,gE0 hi,bS0,cnd (by rfl),h1,bS0,qcp (by omega)];rfl
   | 1, _ =>
     obtain⟨a,e,h1,h2⟩:=qsR htl ht0 (hlow 0 (by decide) i hi);refine⟨a,e,h2,fun g=>?_⟩;rw[qap,cnd d0,cnd d1,tN0,gE0 hi,bS0,cnd' (by decide),cnd (by rfl),h1,bS0,qcp (by omega)];rfl
   | 2, _ =>
     obtain⟨a,e,h1,h2⟩:=qsm htl hts (by omega);refine⟨a,e,h2,fun g=>?_⟩;rw[qap,cnd d0,cnd d1,tN0,gE0 hi,bS0,cnd' (by decide),cnd' (by decide),cnd (by rfl),h1,bS0,qcp (by omega)];rfl
   | 3, _ =>
     obtain⟨a,e,h1,h2⟩:=quq htl hts hk (hlow 0 (by decide) i hi);refine⟨a,e,h2,fun g=>?_⟩;rw[qap,cnd d0,cnd d1,tN0,gE0 hi,bS0,cnd' (by decide),cnd' (by decide),cnd' (by decide),cnd (by rfl),h1,bS0,qcp (by omega)];rfl
 have ans2:∀ i,∃ a e,∀ h:i<m.2.length,(e=0 ↔ qoP m.1 r m.2[i])/\∀ g,qap g (((r:Int),(r:Int),m.2,((m.2.length:Nat):Int),(i:Int),()),((m.1,m.2,()),(z.1,z.2.1,z.2.2.1,z.2.2.2,()),())) =
     bif (!decide (e=0)) then some (.inr ((),((e,0,(i:Int),a,()),()))) else g (((r:Int),(r:Int),m.2,((m.2.length:Nat):Int),((i+1:Nat):Int),()),((m.1,m.2,()),(z.1,z.2.1,z.2.2.1,z.2.2.2,()),())):=by
   intro i;by_cases h:i<m.2.length
   · obtain ⟨a, e, h1, h2⟩ := ans i h;exact⟨a,e,fun _=>⟨h1,h2⟩⟩
   · exact⟨0,0,fun h'=>absurd h' h⟩
 have A:=fun i=>(ans2 i).choose
 let E:Nat->Int:=fun i=>(ans2 i).choose_spec.choose
 have hE:∀ i (h:i<m.2.length),(E i=0 ↔ qoP m.1 r m.2[i])/\∀ g,qap g (((r:Int),(r:Int),m.2,((m.2.length:Nat):Int),(i:Int),()),((m.1,m.2,()),(z.1,z.2.1,z.2.2.1,z.2.2.2,()),())) =
     bif (!decide (E i=0)) then some (.inr ((),((E i,0,(i:Int),(ans2 i).choose,()),()))) else g (((r:Int),(r:Int),m.2,((m.2.length:Nat):Int),((i+1:Nat):Int),()),((m.1,m.2,()),(z.1,z.2.1,z.2.2.1,z.2.2.2,()),())):=fun i h=>(ans2 i).choose_spec.choose_spec h
 rcases qiu (step:=qap) (fun i=>(((r:Int),(r:Int),m.2,((m.2.length:Nat):Int),(i:Int),()),((m.1,m.2,()),(z.1,z.2.1,z.2.2.1,z.2.2.2,()),()))) m.2.length (fun i=>E i=0) (fun i=>.inr ((),((E i,0,(i:Int),(ans2 i).choose,()),()))) (.inl (((r:Int),()),((m.1,m.2,()),(z.1,z.2.1,z.2.2.1,z.2.2.2,()),()))) (by omega) (by
     intro i hi;obtain⟨h1,h2⟩:=hE i hi;by_cases h0:E i=0
     · exact .inl ⟨h0,fun g=>by rw[h2,decide_eq_true h0];rfl⟩
     · exact .inr ⟨h0,fun g=>by rw[h2,decide_eq_false h0];rfl⟩) (by
     intro g;rw[qap,cnd' (by omega)]) with ⟨h,hlp⟩ | ⟨i,hi,h,hlp⟩
 · exact .inl ⟨fun i hi=>(hE i hi).1.1 (h i hi),hlp⟩
 · exact .inr ⟨fun hh=>h ((hE i hi).1.2 (hh i hi)),E i,0,(i:Int),_,h,hlp⟩
theorem qvM {m:qbs} {k:Nat} (hl:m.2.length<4294967296) (ht:∀ t∈m.2,t.length<4294967296) (hs:MSz m k) (hk:k<500000000000):∃ b,qdE m=some b/\(b=true ↔ Good m):=by
 obtain⟨b,hb,hbf⟩:=qu9 hl ht;cases b with
 | false =>
  have hnf:¬ qtP m:=fun h=>by have:=hbf.2 h;cases this
  refine⟨false,?_,fun h=>(by cases h),fun h=>absurd h.1 hnf⟩;rw[qdE,qet,hb,bS0];rfl
 | true =>
  have hf:=hbf.1 rfl;rcases quM (step:=qaU) (fun r=>(((r:Int),()),((m.1,m.2,()),(0,0,0,0,()),()))) 4 (fun r=>∀ i (h:i<m.2.length),qoP m.1 r m.2[i]) (fun r=>∃ e a b c,e≠0/\r=.inr ((),((e,a,b,c,()),()))) (.inl ((),((0,0,0,0,()),()))) (by omega) (by
     intro r hr hlow;have d0:(r:Int)<4:=by omega
     rcases qpD hf hs hk hr (fun r' hr'=>hlow r' hr') (0,0,0,0) with ⟨h1,h2⟩ | ⟨h1,e,a,b,c,h2,h3⟩
     · refine .inl ⟨h1, fun g => ?_⟩;rw[qaU,cnd d0,h2,bS0];dsimp only;rw[qcp (by omega)];rfl
     · refine .inr ⟨h1, _, ⟨e, a, b, c, h2, rfl⟩, fun g => ?_⟩;rw[qaU,cnd d0,h3,bS0]) (by
     intro g;rw[qaU,cnd' (by decide)]) with ⟨h,hlp⟩ | ⟨h,r,⟨e,a,b,c,he,rfl⟩,hlp⟩
  · have hlp : lp qaU K0 (((0 : Int), ()), ((m.1, m.2, ()), (0, 0, 0, 0, ()), ())) = _ := hlp;refine⟨true,?_,fun _=>⟨hf,h⟩,fun _=>rfl⟩;rw[qdE,qet,hb,bS0,Bool.not_true,cond_false,hlp];rfl
  · have hlp : lp qaU K0 (((0 : Int), ()), ((m.1, m.2, ()), (0, 0, 0, 0, ()), ())) = _ := hlp;refine⟨false,?_,fun h'=>(by cases h'),fun hg=>absurd hg.2 h⟩;rw[qdE,qet,hb,bS0,Bool.not_true,cond_false,hlp,bS0];dsimp only;rw[bS0,decide_eq_false he];rfl
theorem qix (a:RAT):qa2 a=some (cutR 4 a):=by
 obtain⟨⟨s,x⟩,y⟩:=a;unfold qa2 cutR;by_cases h1:4<x.length
 · have c1 : ((x.length : Nat) : Int) > 4 := by omega
   have c2:(4:Int)<=((x.length:Nat):Int):=by omega
   by_cases h2:4<y.length
   · have c3 : ((y.length : Nat) : Int) > 4 := by omega
     have c4:(4:Int)<=((y.length:Nat):Int):=by omega
     rw[cnd c1,cnd c2,cnd c3,cnd c4]
   · have c3 : ¬ ((y.length : Nat) : Int) > 4 := by omega
     rw[cnd c1,cnd c2,cnd' c3,List.take_of_length_le (l:=y) (by omega)]
 · have c1 : ¬ ((x.length : Nat) : Int) > 4 := by omega
   by_cases h2:4<y.length
   · have c3 : ((y.length : Nat) : Int) > 4 := by omega
     have c4:(4:Int)<=((y.length:Nat):Int):=by omega
     rw[cnd' c1,cnd c3,cnd c4,List.take_of_length_le (l:=x) (by omega)]
   · have c3 : ¬ ((y.length : Nat) : Int) > 4 := by omega
     rw[cnd' c1,cnd' c3,List.take_of_length_le (l:=x) (by omega),List.take_of_length_le (l:=y) (by omega)]
def qnn (n:NODE):NODE:=(n.1,n.2.1,cutR 4 n.2.2.1,n.2.2.2.1,n.2.2.2.2.1,n.2.2.2.2.2.1,cutR 4 n.2.2.2.2.2.2.1,cutR 4 n.2.2.2.2.2.2.2)
def qfP (t:List NODE):List NODE:=(t.take 15).map qnn
def cutM (m:qbs):qbs:=(m.1,(m.2.take 6).map qfP)
theorem qrb (n:NODE):NSz (qnn n) 4:=⟨qpC 4 _,qpC 4 _,qpC 4 _⟩
theorem qra (t:List NODE):TSz (qfP t) 4:=by
 intro n hn;obtain⟨x,_,rfl⟩:=List.mem_map.1 hn;exact qrb x
theorem qpB (t:List NODE):(qfP t).length<=15:=by simp [qfP];omega
theorem qu2 (m:qbs):MSz (cutM m) 4:=by
 intro t ht;obtain⟨x,_,rfl⟩:=List.mem_map.1 ht;exact qra x
theorem qtB (m:qbs):(cutM m).2.length<=6:=by simp [cutM];omega
theorem qsl (m:qbs):∀ t∈(cutM m).2,t.length<=15:=by
 intro t ht;obtain⟨x,_,rfl⟩:=List.mem_map.1 ht;exact qpB x
theorem qpK {m:qbs} {i:Nat} (hi:i<m.2.length) (hl:m.2[i].length<=9223372036854775807) (hi2:i<4611686018427387904) (z w:Int×List (List NODE)) :
  lp qat K0 (((i:Int),[],0,()),((m.1,m.2,()),(z.1,z.2,()),(w.1,w.2,()),()))=some (((i:Int),qfP m.2[i],()),((m.1,m.2,()),(z.1,z.2,()),(w.1,w.2,()),())):=by
 have hn:min m.2[i].length 15<=m.2[i].length:=Nat.min_le_left _ _;exact qpn (step:=qat) (fun k=>(((i:Int),(m.2[i].take k).map qnn,(k:Int),()),((m.1,m.2,()),(z.1,z.2,()),(w.1,w.2,()),()))) (min m.2[i].length 15) (by omega) (by
  intro g k hk;have h1:k<m.2[i].length:=by omega
  have d0:(0:Int)<=(i:Int):=by omega
  have d1:(k:Int)<((m.2[i].length:Nat):Int):=by omega
  have d2:(k:Int)<15:=by omega
  have d3:(0:Int)<=(k:Int):=by omega
  have d4:(((m.2[i].take k).map qnn).length+1)*208<=140737488355328:=by simp;omega
  rw[qat,cnd d0,tN0,gE0 hi,bS0,cnd d1,cnd d2,cnd d0,bS0,cnd d3,tN0,gE0 h1,bS0,qix,bS0,qix,bS0,qix,bS0,blt d4,cond_true,qcp (by omega),qje _ h1];rfl) (by
  intro g;have d0:(0:Int)<=(i:Int):=by omega
  by_cases h:m.2[i].length<=15
  · have c1 : ¬ ((min m.2[i].length 15 : Nat) : Int) < ((m.2[i].length : Nat) : Int) := by omega
    rw[qat,cnd d0,tN0,gE0 hi,bS0,cnd' c1,Nat.min_eq_left h,List.take_of_length_le (Nat.le_refl _),qfP,List.take_of_length_le h]
  · have c1 : ((min m.2[i].length 15 : Nat) : Int) < ((m.2[i].length : Nat) : Int) := by omega
    have c2:¬ ((min m.2[i].length 15:Nat):Int)<15:=by omega
    rw[qat,cnd d0,tN0,gE0 hi,bS0,cnd c1,cnd' c2,Nat.min_eq_right (by omega),qfP])
theorem qtQ (m:qbs) (hl:m.2.length<=9223372036854775807) (ht:∀ t∈m.2,t.length<=9223372036854775807):qcF m=some (cutM m):=by
 have hn:min m.2.length 6<=m.2.length:=Nat.min_le_left _ _;have key:=qpn (step:=qau) (fun i=>(((i:Int),()),((m.1,m.2,()),(0,[],()),(m.1,(m.2.take i).map qfP,()),()))) (min m.2.length 6) (r:=((),((0,[],()),(m.1,(m.2.take 6).map qfP,()),()))) (by omega) (by
  intro g i hi;have h1:i<m.2.length:=by omega
  have d0:(i:Int)<((m.2.length:Nat):Int):=by omega
  have d1:(i:Int)<6:=by omega
  have hin:=qpK h1 (ht _ (gM0 h1)) (by omega) (0,[]) (m.1,(m.2.take i).map qfP);have d4:(((m.2.take i).map qfP).length+1)*24<=140737488355328:=by simp;omega
  rw[qau,cnd d0,cnd d1,hin,bS0,blt d4,cond_true,qcp (by omega),qje _ h1];rfl) (by
  intro g;by_cases h:m.2.length<=6
  · have c1 : ¬ ((min m.2.length 6 : Nat) : Int) < ((m.2.length : Nat) : Int) := by omega
    rw[qau,cnd' c1,Nat.min_eq_left h,List.take_of_length_le (Nat.le_refl _),List.take_of_length_le h]
  · have c1 : ((min m.2.length 6 : Nat) : Int) < ((m.2.length : Nat) : Int) := by omega
    have c2:¬ ((min m.2.length 6:Nat):Int)<6:=by omega
    rw[qau,cnd c1,cnd' c2,Nat.min_eq_right (by omega)])
 have key':lp qau K0 ((0,()),((m.1,m.2,()),(0,[],()),(m.1,[],()),()))=_:=key;rw[qcF,key'];rfl
inductive TR where
 | leaf (i:Nat)
 | split (i:Nat) (l r:TR)
def TR.top:TR->Nat
 | .leaf i=>i
 | .split i _ _=>i
def TR.deep:TR->Nat
 | .leaf _=>1
 | .split _ l r=>1+max l.deep r.deep
def Is (t:List NODE) (f:Int):TR->Prop
 | .leaf i=>∃ h:i<t.length,qhe t[i]=true
 | .split i l r=>∃ h:i<t.length,qhe t[i]=false/\0<=qfS t[i]/\qfS t[i]<f/\nL t[i]=(l.top:Int)/\nR t[i]=(r.top:Int)/\Is t f l/\Is t f r
theorem qum {t:List NODE} {f:Int} (hr:qfb t f) (hrk:qqo t):∀ i,i<t.length->∃ T,Is t f T/\T.top=i/\T.deep<=t.length+1:=by
 obtain⟨rk,hrk⟩:=hrk;have key:∀ (d i:Nat),i<t.length->rk i<=d->∃ T,Is t f T/\T.top=i/\T.deep<=rk i+1:=by
  intro d
  induction d with
  | zero =>
   intro i hi hd;cases hl:qhe t[i] with
   | true=>exact⟨.leaf i,⟨hi,hl⟩,rfl,by simp [TR.deep]⟩
   | false =>
    have:=(hrk i hi).2 (nL t[i]).toNat (by rw[qeE hi hl];simp);omega
  | succ d ih =>
   intro i hi hd;cases hl:qhe t[i] with
   | true=>exact⟨.leaf i,⟨hi,hl⟩,rfl,by simp [TR.deep]⟩
   | false =>
    obtain⟨r1,r2,r3,r4,r5,r6⟩:=hr i hi hl;have k1:=(hrk i hi).2 (nL t[i]).toNat (by rw[qeE hi hl];simp);have k2:=(hrk i hi).2 (nR t[i]).toNat (by rw[qeE hi hl];simp);obtain⟨L,hL,hLt,hLd⟩:=ih (nL t[i]).toNat (by omega) (by omega);obtain⟨R,hR,hRt,hRd⟩:=ih (nR t[i]).toNat (by omega) (by omega);refine⟨.split i L R,⟨hi,hl,r1,r2,by rw[hLt];omega,by rw[hRt];omega,hL,hR⟩,rfl,?_⟩
    simp only[TR.deep];omega
 intro i hi;obtain⟨T,h1,h2,h3⟩:=key (rk i) i hi (Nat.le_refl _);have:=(hrk i hi).1;exact⟨T,h1,h2,by omega⟩
theorem Good.tree {m:qbs} (h:Good m) {i:Nat} (hi:i<m.2.length):∃ T,Is m.2[i] m.1 T/\T.top=0/\T.deep<=m.2[i].length+1 :=
 qum (h.ranges hi) (h.shape hi).2 0 (h.1.2.2.2 i hi).1
abbrev zR:RAT:=((false,[]),[])
abbrev zN:NODE:=(false,0,zR,0,0,false,zR,zR)
def qmc (t:List NODE) (i:Nat):NODE:=(t[i]?).getD zN
theorem qgo {t:List NODE} {i:Nat} (h:i<t.length):qmc t i=t[i]:=by simp [qmc,h]
theorem Is.top_lt {t:List NODE} {f:Int} {T:TR} (h:Is t f T):T.top<t.length:=by
 cases T with
 | leaf i=>exact h.1
 | split i l r=>exact h.1
theorem TR.deep_pos (T:TR):0<T.deep:=by cases T<;>simp [TR.deep]<;>omega
def mkT (t:List NODE):Nat->Nat->TR
 | 0,i=>.leaf i
 | d+1,i=>if qhe (qmc t i) then .leaf i else .split i (mkT t d (nL (qmc t i)).toNat) (mkT t d (nR (qmc t i)).toNat)
theorem qrP {t:List NODE} {f:Int}:∀ (d:Nat) (T:TR),Is t f T->T.deep<=d->mkT t d T.top=T:=by
 intro d
 induction d with
 | zero=>intro T _ h;have:=T.deep_pos;omega
 | succ d ih =>
  intro T h hd;cases T with
  | leaf i =>
   obtain⟨h1,h2⟩:=h;simp only[TR.top,mkT,qgo h1,h2,if_true]
  | split i l r =>
   obtain⟨h1,h2,_,_,h3,h4,h5,h6⟩:=h;simp only[TR.deep] at hd;show mkT t (d+1) i=_;rw[mkT,qgo h1,h2,h3,h4,tN0,tN0,ih l h5 (by omega),ih r h6 (by omega)];rfl
def treeOf (t:List NODE):TR:=mkT t (t.length+1) 0
theorem Good.treeOf {m:qbs} (h:Good m) {i:Nat} (hi:i<m.2.length):Is m.2[i] m.1 (treeOf m.2[i])/\(treeOf m.2[i]).top=0/\(treeOf m.2[i]).deep<=m.2[i].length+1:=by
 obtain⟨T,h1,h2,h3⟩:=h.tree hi;have:X.treeOf m.2[i]=T:=by rw[X.treeOf,<- h2];exact qrP _ T h1 h3
 rw[this];exact⟨h1,h2,h3⟩
def qd4 (m:qbs) (i:Nat):List NODE:=(m.2[i]?).getD []
theorem qjB {m:qbs} {i:Nat} (h:i<m.2.length):qd4 m i=m.2[i]:=by simp [qd4,h]
def qcan (qs:List Rat):List RAT:=qs.map canQ
@[simp] theorem qvE (qs:List Rat):(qcan qs).length=qs.length:=by simp [qcan]
def qrW:TR->List Nat
 | .leaf i=>[i]
 | .split _ l r=>qrW l++qrW r
def InT (U:TR):TR->Prop
 | .leaf i=>U=.leaf i
 | .split i l r=>U=.split i l r\/InT U l\/InT U r
theorem InT.self (T:TR):InT T T:=by cases T<;>simp [InT]
theorem InT.left {U:TR} {T:TR} {i:Nat} {l r:TR} (h:InT (.split i l r) T):InT l T/\InT r T:=by
 induction T with
 | leaf j=>simp [InT] at h
 | split j a b iha ihb =>
  rcases h with h | h | h
  · injection h with h1 h2 h3;subst h2;subst h3;exact⟨.inr (.inl (InT.self _)),.inr (.inr (InT.self _))⟩
  · have:=iha h;exact⟨.inr (.inl this.1),.inr (.inl this.2)⟩
  · have:=ihb h;exact⟨.inr (.inr this.1),.inr (.inr this.2)⟩
theorem InT.is {t:List NODE} {f:Int} {U T:TR} (h:InT U T) (hT:Is t f T):Is t f U:=by
 induction T with
 | leaf j=>cases h;exact hT
 | split j a b iha ihb =>
  rcases h with h | h | h
  · subst h;exact hT
  · exact iha h hT.2.2.2.2.2.2.1
  · exact ihb h hT.2.2.2.2.2.2.2
theorem InT.deep {U T:TR} (h:InT U T):U.deep<=T.deep:=by
 induction T with
 | leaf j=>cases h;exact Nat.le_refl _
 | split j a b iha ihb =>
  simp only[TR.deep];rcases h with h | h | h
  · subst h;simp only[TR.deep];omega
  · have:=iha h;omega
  · have:=ihb h;omega
theorem InT.uniq {t:List NODE} {f:Int} {U U' T:TR} (h:InT U T) (h':InT U' T) (hT:Is t f T) (e:U.top=U'.top):U=U':=by
 have h1:=qrP T.deep U (h.is hT) h.deep;have h2:=qrP T.deep U' (h'.is hT) h'.deep;rw[<- h1,<- h2,e]
theorem Good.reach {m:qbs} (h:Good m) {i:Nat} (hi:i<m.2.length):∀ j,j<m.2[i].length->∃ U,InT U (X.treeOf m.2[i])/\U.top=j:=by
 have hr:=h.ranges hi;obtain⟨hc,rk,hrk⟩:=h.shape hi;obtain⟨g1,g2,_⟩:=h.treeOf hi;obtain⟨t,et⟩:∃ t,t=m.2[i]:=⟨_,rfl⟩;rw[<- et] at hr hc hrk g1 g2 ⊢;have key:∀ (d j:Nat),j<t.length->t.length-rk j<=d->∃ U,InT U (X.treeOf t)/\U.top=j:=by
  intro d
  induction d with
  | zero =>
   intro j hj hd;by_cases h0:j=0
   · subst h0;exact⟨_,InT.self _,g2⟩
   · obtain ⟨p, hp, hm⟩ := qh8 hc (by omega) hj;have h1:=(hrk p hp).1;have h2:=(hrk p hp).2 j hm;omega
  | succ d ih =>
   intro j hj hd;by_cases h0:j=0
   · subst h0;exact⟨_,InT.self _,g2⟩
   · obtain ⟨p, hp, hm⟩ := qh8 hc (by omega) hj;have h1:=(hrk p hp).1;have h2:=(hrk p hp).2 j hm;obtain⟨U,hU,hUt⟩:=ih p hp (by omega);have hI:=hU.is g1;cases U with
     | leaf q =>
      obtain⟨q1,q2⟩:=hI;have:q=p:=hUt;subst this;rw[qjj q1 q2] at hm;cases hm
     | split q l r =>
      obtain⟨q1,q2,_,_,q3,q4,_,_⟩:=hI;have:q=p:=hUt;subst this;rw[qeE q1 q2,q3,q4] at hm;simp at hm;have:=hU.left (U:=.leaf 0);rcases hm with rfl | rfl
      · exact⟨l,this.1,rfl⟩
      · exact⟨r,this.2,rfl⟩
 exact fun j hj=>key _ j hj (Nat.le_refl _)
end Go.Proofs.YtfoedjifcmfogaaDoor.X
