/- Own work: part of the proof; the first line of each part says what it tells. -/
import Derived.Test.YtfoedjifcmfogaaDoorLb7
import Derived.Test.YtfoedjifcmfogaaDoorLb6


namespace Go.Proofs.YtfoedjifcmfogaaDoor.X
open Go
set_option linter.unusedVariables false
set_option linter.unusedSimpArgs false
theorem qAE {n:Nat} (h:n<4611686018427387904):isub .i64 ((n:Int)+1) 1=(n:Int):=by rw[qdF]<;>omega
theorem qbr {n:Nat} (h:n<4611686018427387904):iadd .i64 (n:Int) 1=(n:Int)+1:=by rw[qg6]<;>omega
theorem nnt {a:List Int} {i:Nat} (h:i<a.length):nn (a.take (i+1))=nn (a.take i)+4294967296 ^ i*(a[i] % 4294967296).toNat:=qdc (gE0 h)
theorem Lim.at {a:List Int} (ha:Lim a) {i:Nat} (h:i<a.length):0<=a[i]/\a[i]<4294967296:=ha _ (gM0 h)
theorem qg7 {a:List Int} (ha:Lim a) (hl:a.length<4611686018427387904):qdE a=some (qaa (nn a)):=by
 obtain⟨r,⟨n,hn,rfl,h1,h2⟩,hr⟩:=qpm (step:=qdj) (fun v=>∃ n:Nat,n<=a.length/\v=((a,(n:Int),()),())/\nn (a.take n)=nn a) (fun v=>v.1.2.1.toNat)
   (fun r=>∃ n:Nat,n<=a.length/\r=((a,(n:Int),()),())/\nn (a.take n)=nn a/\∀ x,(a.take n).getLast?=some x->x≠0) (v:=((a,(a.length:Int),()),()))
   ⟨a.length, Nat.le_refl _, rfl, by simp⟩ (by simp; omega) (by
    rintro v ⟨n,hn,rfl,h1⟩;cases n with
    | zero=>exact .inl ⟨_,⟨0,by omega,rfl,h1,by simp⟩,fun g=>by simp [qdj]⟩
    | succ n =>
     have hl2:n<a.length:=by omega
     have e2:(0:Int)<(n:Int)+1:=by omega
     have e1:=qAE (n:=n) (by omega);by_cases h0:a[n]=0
     · refine .inr ⟨((a, (n : Int), ()), ()), ⟨n, by omega, rfl, ?_⟩, by simp, fun g => ?_⟩
       · rw[<- h1,nnt hl2,h0];simp
       · simp [qdj,e1,e2,h0,hl2]
     · refine .inl ⟨_, ⟨n + 1, hn, rfl, h1, ?_⟩, fun g => ?_⟩
       · intro y hy;rw[List.take_add_one,gE0 hl2] at hy;simp only[Option.toList_some,List.getLast?_append,List.getLast?_singleton,Option.some_or,Option.some.injEq] at hy;subst hy;exact h0
       · simp [qdj,e1,e2,h0,hl2])
 have e:a.take n=qaa (nn a):=by rw[<- h1];exact qtd ⟨ha.take n,h2⟩
 simp only[qdE,hr,bS0];rw[<- e];by_cases h0:n=0
 · subst h0;simp
 · simp [h0,hn]
theorem qsp {n:Nat} (h:n<18446744073709551616):qjc n=some (qaa n):=by
 have e:nn [((n:Int) % 4294967296),(n:Int)/4294967296]=n:=by simp only[nn];omega
 have hl:Lim [((n:Int) % 4294967296),(n:Int)/4294967296]:=Lim.cons (by omega) (Lim.cons (by omega) Lim.nil);simp only[qjc,qfz,qpU];rw[qg7 hl (by simp)];simp [e]
def cut (a:List Int):List Int:=a.map (· % 4294967296)
theorem qz8 (a:List Int):nn (cut a)=nn a:=by
 induction a with
 | nil=>rfl
 | cons x a ih=>simp only[cut,List.map_cons,nn];rw[show nn (a.map (· % 4294967296))=nn (cut a) from rfl,ih];omega
theorem qzu (a:List Int):Lim (cut a):=by
 intro x hx;obtain⟨y,_,rfl⟩:=List.mem_map.1 hx;omega
@[simp] theorem qv4 (a:List Int):(cut a).length=a.length:=by simp [cut]
def fill {α:Type} (X:List α) (z:α) (i:Nat):List α:=X.take i++List.replicate (X.length-i) z
theorem qqX {α:Type} (X:List α) (z:α):fill X z 0=List.replicate X.length z:=by simp [fill]
theorem qs7 {α:Type} (X:List α) (z:α):fill X z X.length=X:=by simp [fill]
@[simp] theorem qs6 {α:Type} (X:List α) (z:α) (i:Nat) (h:i<=X.length):(fill X z i).length=X.length:=by simp [fill];omega
theorem qs5 {α:Type} {X:List α} {z:α} {i:Nat} (h:i<X.length):(fill X z i).set i X[i]=fill X z (i+1):=by
 have e:X.length-i=(X.length-(i+1))+1:=by omega
 have e2:(X.take i).length=i:=by simp;omega
 unfold fill;rw[e,List.replicate_succ,List.set_append_right _ _ (by omega),e2,Nat.sub_self,List.set_cons_zero,List.take_succ_eq_append_getElem h,List.append_assoc];rfl
theorem qdn {a:List Int} (hl:a.length<35184372088832):qbL a=some (qaa (nn a)):=by
 have key:lp qcF K0 ((List.replicate a.length (0:Int),a,(a.length:Int),0,()),())=some ((cut a,()),()):=by
  have:=qfM (step:=qcF) (fun i=>((fill (cut a) 0 i,a,(a.length:Int),(i:Int),()),())) a.length (r:=((cut a,()),())) (by omega) (by
   intro g i hi;have e3:=qs5 (z:=0) (show i<(cut a).length by simpa using hi);have e4:(fill (cut a) 0 i).length=a.length:=by rw[qs6 _ _ _ (by simp;omega),qv4]
   simp [qcF,hi,qbr (n:=i) (by omega),qfz,e4,<- e3];simp [cut]) (by
   intro g;have:=qs7 (cut a) (0:Int);rw[qv4] at this;simp [qcF,this])
  simpa [qqX] using this
 have h1:(8:Int)*(a.length:Int)<=281474976710656:=by omega
 have h2:(a.length:Int)<=9223372036854775807:=by omega
 simp [qbL,h1,h2,key,qg7 (qzu a) (by simp;omega),qz8]
theorem qpa {a:List Int} {i:Nat} (h:i<a.length):nn a=nn (a.take i)+4294967296 ^ i*((a[i] % 4294967296).toNat+4294967296*nn (a.drop (i+1))):=by
 have e:a=a.take i++(a[i]::a.drop (i+1)):=by simp
 conv=>lhs;rw[e]
 rw[qbJ];simp [nn,Nat.min_eq_left (Nat.le_of_lt h)]
def ncmp (n m:Nat):Int:=if n<m then -1 else if m<n then 1 else 0
theorem qsQ {a b:List Int} (ha:Lim a) (hb:Lim b) {i:Nat} (h:i<a.length) (h':i<b.length) (hd:a.drop (i+1)=b.drop (i+1)) (hlt:a[i]<b[i]):nn a<nn b:=by
 rw[qpa h,qpa h',hd];have h1:=qe1 (a.take i);rw[List.length_take,Nat.min_eq_left (Nat.le_of_lt h)] at h1;have ha:=ha.at h;have hb:=hb.at h';have h2:(a[i] % 4294967296).toNat+1<=(b[i] % 4294967296).toNat:=by omega
 have h3:4294967296 ^ i*((a[i] % 4294967296).toNat+1+4294967296*nn (b.drop (i+1)))<=4294967296 ^ i*((b[i] % 4294967296).toNat+4294967296*nn (b.drop (i+1))):=Nat.mul_le_mul_left _ (by omega);have h4:4294967296 ^ i*((a[i] % 4294967296).toNat+1+4294967296*nn (b.drop (i+1)))=4294967296 ^ i+4294967296 ^ i*((a[i] % 4294967296).toNat+4294967296*nn (b.drop (i+1))):=by grind
 omega
theorem qnx {n m:Nat} (h:(qaa n).length<(qaa m).length):n<m:=by
 have h1:=qe1 (qaa n);rw[q9q] at h1;rcases Nat.lt_or_ge m (4294967296 ^ (qaa n).length) with h2 | h2
 · have:=qcf h2;omega
 · omega
theorem qmB {n m:Nat} (hn:(qaa n).length<4611686018427387904):qfI (qaa n) (qaa m)=some (ncmp n m):=by
 unfold qfI;by_cases h1:(qaa n).length<(qaa m).length
 · have := qnx h1;simp [h1,ncmp,this]
 by_cases h2:(qaa m).length<(qaa n).length
 · have := qnx h2;simp [h1,h2,ncmp,this,Nat.not_lt.2 (Nat.le_of_lt this)]
 have hl:(qaa m).length=(qaa n).length:=by omega
 have ha:=qaO n;have hb:=qaO m;have e1:=q9q n;have e2:=q9q m;generalize qaa n=a at *;generalize qaa m=b at *;obtain⟨r,hr,hlp⟩:=qpm (step:=qce) (fun v=>∃ j:Nat,j<=a.length/\v=((a,b,(j:Int)-1,()),())/\a.drop j=b.drop j) (fun v=>(v.1.2.2.1+1).toNat)
   (fun r=>(r=.inl ((),())/\a=b)\/(r=.inr ((-1,()),())/\nn a<nn b)\/(r=.inr ((1,()),())/\nn b<nn a)) (v:=((a,b,(a.length:Int)-1,()),()))
   ⟨a.length, Nat.le_refl _, rfl, by rw [List.drop_length, <- hl, List.drop_length]⟩ (by simp; omega) (by
    rintro v ⟨j,hj,rfl,hd⟩;cases j with
    | zero=>exact .inl ⟨_,.inl ⟨rfl,by simpa using hd⟩,fun g=>by simp [qce]⟩
    | succ j =>
     have hja:j<a.length:=by omega
     have hjb:j<b.length:=by omega
     have e3:((j+1:Nat):Int)-1=(j:Int):=by omega
     rw[e3];by_cases c1:a[j]<b[j]
     · exact .inl ⟨_,.inr (.inl ⟨rfl,qsQ ha hb hja hjb hd c1⟩),fun g=>by simp [qce,hja,hjb,c1]⟩
     by_cases c2:b[j]<a[j]
     · exact .inl ⟨_,.inr (.inr ⟨rfl,qsQ hb ha hjb hja hd.symm c2⟩),fun g=>by simp [qce,hja,hjb,c1,c2]⟩
     refine .inr ⟨((a,b,(j:Int)-1,()),()),⟨j,by omega,rfl,?_⟩,by simp,fun g=>?_⟩
     · rw[List.drop_eq_getElem_cons hja,List.drop_eq_getElem_cons hjb,hd,show a[j]=b[j] by omega]
     · have : isub .i64 (j : Int) 1 = (j : Int) - 1 := by rw [qdF] <;> omega
       simp [qce,hja,hjb,c1,c2,this])
 have e3:isub .i64 (a.length:Int) 1=(a.length:Int)-1:=by rw[qdF]<;>omega
 rw[e3,hlp];rcases hr with ⟨rfl,h⟩ | ⟨rfl,h⟩ | ⟨rfl,h⟩
 · subst h;have:n=m:=by omega
   subst this;simp [ncmp]
 · rw [e1, e2] at h;simp [h1,hl,ncmp,h]
 · rw [e1, e2] at h;simp [h1,hl,ncmp,h,Nat.not_lt.2 (Nat.le_of_lt h)]
theorem qwC {a b:List Int} (ha:a.length<35184372088832) (hb:b.length<35184372088832):qf4 a b=some (ncmp (nn a) (nn b)):=by
 simp [qf4,qdn ha,qdn hb,qmB (Nat.lt_of_le_of_lt (qau a) (Nat.lt_trans ha (by decide)))]
def lget (a:List Int) (i:Nat):Int:=(a[i]?).getD 0
theorem qnv (a:List Int) (i:Nat):qfy a (i:Int)=some (lget a i):=by
 by_cases h:i<a.length<;>simp [qfy,lget,h]
theorem qin {a:List Int} (ha:Lim a) (i:Nat):0<=lget a i/\lget a i<4294967296:=by
 unfold lget;cases h:a[i]? with
 | none=>simp
 | some x=>exact ha.get h
theorem qeK (a:List Int) (i:Nat):nn (a.take (i+1))=nn (a.take i)+4294967296 ^ i*(lget a i % 4294967296).toNat:=by
 by_cases h:i<a.length
 · rw[nnt h];simp [lget,h]
 · rw [List.take_of_length_le (by omega), List.take_of_length_le (by omega)];simp [lget,h]
theorem qt3 {a:List Int} {i:Nat} (h:i<a.length):lget a i=a[i]:=by simp [lget,h]
theorem qrx {α:Type} {p:List α} {i n:Nat} {z:α} (x:α) (hp:p.length=i) (hi:i<n):(p++List.replicate (n-i) z).set i x=(p++[x])++List.replicate (n-(i+1)) z:=by
 have e:n-i=(n-(i+1))+1:=by omega
 subst hp;rw[e,List.replicate_succ,List.set_append_right _ _ (by omega)];simp
theorem qAx {a b:List Int} (ha:a.length<17592186044416) (hb:b.length<17592186044416):qlt a b=some (qaa (nn a+nn b)):=by
 have h1:=qau a;have h2:=qau b;have e1:=q9q (nn a);have e2:=q9q (nn b);have l1:=qaO (nn a);have l2:=qaO (nn b);simp only[qlt,qdn (show a.length<35184372088832 by omega),qdn (show b.length<35184372088832 by omega),bS0];generalize qaa (nn a)=x at *;generalize qaa (nn b)=y at *;rw[<- e1,<- e2];clear e1 e2;obtain⟨N,hN,hx,hy,hN2⟩:∃ N:Nat,iadd .i64 (mx (x.length:Int) (y.length:Int)) 1=(N:Int)/\x.length<N/\y.length<N/\N<=17592186044417:=by
  have:mx (x.length:Int) (y.length:Int)=((max x.length y.length:Nat):Int):=by unfold mx;split<;>omega
  refine⟨max x.length y.length+1,?_,by omega,by omega,by omega⟩;rw[this,qbr]<;>omega
 rw[hN];obtain⟨r,⟨p,rfl,hp,hpl,hpn⟩,hlp⟩:=qkS (step:=qeS) (fun i v=>∃ (p:List Int) (c:Nat),v=((x,y,p++List.replicate (N-i) 0,(c:Int),(N:Int),(i:Int),()),())/\p.length=i/\Lim p/\c<=1/\nn p+4294967296 ^ i*c=nn (x.take i)+nn (y.take i))
  (fun r=>∃ p,r=((p,()),())/\p.length=N/\Lim p/\nn p=nn x+nn y) N (v:=((x,y,List.replicate N 0,0,(N:Int),0,()),()))
  ⟨[], 0, by simp, rfl, Lim.nil, by omega, by simp⟩ (by omega) (by
   rintro i v hi ⟨p,c,rfl,hp,hpl,hc,hs⟩;have b1:=qin l1 i;have b2:=qin l2 i;have hadd1:iadd .u64 (lget x i) (lget y i)=lget x i+lget y i:=qjW (by omega) (by omega);have hadd2:iadd .u64 (c:Int) (lget x i+lget y i)=c+(lget x i+lget y i):=qjW (by omega) (by omega);refine⟨((x,y,(p++[((c:Int)+(lget x i+lget y i)) % 4294967296])++List.replicate (N-(i+1)) 0,((((c:Int)+(lget x i+lget y i))/4294967296).toNat:Int),(N:Int),((i+1:Nat):Int),()),()),⟨_,_,rfl,by simp [hp],Lim.append hpl (Lim.cons (by omega) Lim.nil),by omega,?_⟩,fun g=>?_⟩
   · rw [qbJ, hp, qeK, qeK, qnq _ (by omega), Nat.pow_succ];have k1:(((c:Int)+(lget x i+lget y i)) % 4294967296).toNat+4294967296*(((c:Int)+(lget x i+lget y i))/4294967296).toNat=c+(lget x i % 4294967296).toNat+(lget y i % 4294967296).toNat:=by omega
     have k2:4294967296 ^ i*((((c:Int)+(lget x i+lget y i)) % 4294967296).toNat+4294967296*(((c:Int)+(lget x i+lget y i))/4294967296).toNat)=4294967296 ^ i*(c+(lget x i % 4294967296).toNat+(lget y i % 4294967296).toNat):=by rw[k1]
     grind
   · have e4 : ((((c : Int) + (lget x i + lget y i)) / 4294967296).toNat : Int) = ((c : Int) + (lget x i + lget y i)) / 4294967296 := by omega
     have e5:(p++List.replicate (N-i) 0).length=N:=by simp [hp];omega
     simp only[qeS,qnv,bS0,hadd1,hadd2,qfz,qpU,e4,qbr (n:=i) (by omega),tN0,qrx _ hp hi,e5];simp [hi,e5,hp]) (by
   rintro v ⟨p,c,rfl,hp,hpl,hc,hs⟩;refine⟨_,⟨p,rfl,hp,hpl,?_⟩,fun g=>by simp [qeS]⟩;rw[List.take_of_length_le (by omega),List.take_of_length_le (by omega)] at hs;have k1:=qe1 x;have k2:=qe1 y;have k3:=Nat.pow_le_pow_right (n:=4294967296) (by decide) hx;have k4:=Nat.pow_le_pow_right (n:=4294967296) (by decide) hy;have k5:4294967296 ^ (x.length+1)=4294967296*4294967296 ^ x.length:=by rw[Nat.pow_succ,Nat.mul_comm]
   have k6:4294967296 ^ (y.length+1)=4294967296*4294967296 ^ y.length:=by rw[Nat.pow_succ,Nat.mul_comm]
   have:c=0:=by
     rcases Nat.eq_zero_or_pos c with h | h
     · exact h
     · have : c = 1 := by omega
       subst this;simp only[Nat.succ_eq_add_one] at k3 k4;omega
   subst this;simpa using hs)
 have g1:(8:Int)*(N:Int)<=281474976710656:=by omega
 have g2:(N:Int)<=9223372036854775807:=by omega
 simp [hlp,qg7 hpl (by omega),hpn,g1,g2]
theorem qij {b:List Int} {k:Nat} (h:nn b<4294967296 ^ k):nn (b.take k)=nn b:=by
 by_cases hk:b.length<=k
 · rw[List.take_of_length_le hk]
 have e:nn b=nn (b.take k)+4294967296 ^ k*nn (b.drop k):=by
   conv=>lhs;rw[<- List.take_append_drop k b]
   rw[qbJ,List.length_take,Nat.min_eq_left (by omega)]
 rcases Nat.eq_zero_or_pos (nn (b.drop k)) with h0 | h0
 · rw[h0] at e;omega
 · have : 4294967296 ^ k * 1 <= 4294967296 ^ k * nn (b.drop k) := Nat.mul_le_mul_left _ h0;omega
theorem qsR {a b:List Int} (ha:Lim a) (hb:Lim b) (hl:a.length<35184372088832) (hle:nn b<=nn a):qe2 a b=some (qaa (nn a-nn b)):=by
 obtain⟨r,⟨p,rfl,hp,hpl,hpn⟩,hlp⟩:=qkS (step:=qdf) (fun i v=>∃ (p:List Int) (d:Nat),v=((a,b,p++List.replicate (a.length-i) 0,(d:Int),(a.length:Int),(i:Int),()),())/\p.length=i/\Lim p/\d<=1/\nn p+nn (b.take i)=nn (a.take i)+4294967296 ^ i*d)
  (fun r=>∃ p,r=((p,()),())/\p.length=a.length/\Lim p/\nn p=nn a-nn b) a.length (v:=((a,b,List.replicate a.length 0,0,(a.length:Int),0,()),()))
  ⟨[], 0, by simp, rfl, Lim.nil, by omega, by simp⟩ (by omega) (by
   rintro i v hi ⟨p,d,rfl,hp,hpl,hd,hs⟩;have b1:=ha.at hi;have b2:=qin hb i;have q1:iadd .u64 4294967296 a[i]=4294967296+a[i]:=qjW (by omega) (by omega);have q2:isub .u64 (4294967296+a[i]) (lget b i)=4294967296+a[i]-lget b i:=qkW (by omega) (by omega);have q3:isub .u64 (4294967296+a[i]-lget b i) (d:Int)=4294967296+a[i]-lget b i-d:=qkW (by omega) (by omega);have q4:isub .u64 1 ((4294967296+a[i]-lget b i-d)/4294967296)=1-(4294967296+a[i]-lget b i-d)/4294967296:=qkW (by omega) (by omega);have e4:((1-(4294967296+a[i]-lget b i-d)/4294967296).toNat:Int)=1-(4294967296+a[i]-lget b i-d)/4294967296:=by omega
   refine⟨((a,b,(p++[(4294967296+a[i]-lget b i-d) % 4294967296])++List.replicate (a.length-(i+1)) 0,((1-(4294967296+a[i]-lget b i-d)/4294967296).toNat:Int),(a.length:Int),((i+1:Nat):Int),()),()),⟨_,_,rfl,by simp [hp],Lim.append hpl (Lim.cons (by omega) Lim.nil),by omega,?_⟩,fun g=>?_⟩
   · rw [qbJ, hp, qeK, nnt hi, qnq _ (by omega), Nat.pow_succ];have k1:((4294967296+a[i]-lget b i-d) % 4294967296).toNat+(lget b i % 4294967296).toNat+d=(a[i] % 4294967296).toNat+4294967296*(1-(4294967296+a[i]-lget b i-d)/4294967296).toNat:=by omega
     have k2:4294967296 ^ i*(((4294967296+a[i]-lget b i-d) % 4294967296).toNat+(lget b i % 4294967296).toNat+d)=4294967296 ^ i*((a[i] % 4294967296).toNat+4294967296*(1-(4294967296+a[i]-lget b i-d)/4294967296).toNat):=by rw[k1]
     grind
   · have e5 : (p ++ List.replicate (a.length - i) 0).length = a.length := by simp [hp]; omega
     have e6:i<(p++List.replicate (a.length-i) (0:Int)).length:=by omega
     simp only[qdf,qnv,bS0,tN0,gE0 hi,gE0 e6,q1,q2,q3,q4,qfz,qpU,e4,qbr (n:=i) (by omega),qrx _ hp hi,e5];simp [hi,hp]) (by
   rintro v ⟨p,d,rfl,hp,hpl,hd,hs⟩;refine⟨_,⟨p,rfl,hp,hpl,?_⟩,fun g=>by simp [qdf]⟩;rw[qij (Nat.lt_of_le_of_lt hle (qe1 a)),List.take_length] at hs;have k1:=qe1 p;rw[hp] at k1;have:d=0:=by
     rcases Nat.eq_zero_or_pos d with h | h
     · exact h
     · have : d = 1 := by omega
       subst this;omega
   subst this;omega)
 have g1:(8:Int)*(a.length:Int)<=281474976710656:=by omega
 have g2:(a.length:Int)<=9223372036854775807:=by omega
 simp [qe2,hlp,qg7 hpl (by omega),hpn,g1,g2]
theorem qyq {a b:List Int} (ha:a.length<35184372088832) (hb:b.length<35184372088832):qjb a b=if nn a<nn b then some ([],3) else some (qaa (nn a-nn b),0):=by
 have h1:=qau a;simp only[qjb,qdn ha,qdn hb,bS0,qmB (show(qaa (nn a)).length<4611686018427387904 by omega)];by_cases h:nn a<nn b
 · simp [ncmp,h]
 · have := qsR (qaO (nn a)) (qaO (nn b)) (by omega) (by rw [q9q, q9q]; omega);rw[q9q,q9q] at this;have e:¬ ncmp (nn a) (nn b)<0:=by unfold ncmp;rw[if_neg h];split<;>omega
   simp [h,e,this]
theorem qz6 {u:List Int} (hu:Lim u) {j:Nat} (hj:j<u.length) {y:Int} (hy:0<=y/\y<4294967296):nn (u.set j y)+4294967296 ^ j*u[j].toNat=nn u+4294967296 ^ j*y.toNat:=by
 have e1:u=u.take j++(u[j]::u.drop (j+1)):=by simp
 have e2:u.set j y=u.take j++(y::u.drop (j+1)):=List.set_eq_take_append_cons_drop.trans (by simp [hj]);have b:=hu.at hj;rw[e2];have:nn u=nn (u.take j++(u[j]::u.drop (j+1))):=by rw[<- e1]
 rw[this,qbJ,qbJ];simp only[List.length_take,Nat.min_eq_left (Nat.le_of_lt hj),nn];have k1:(y % 4294967296).toNat=y.toNat:=by omega
 have k2:(u[j] % 4294967296).toNat=u[j].toNat:=by omega
 rw[k1,k2]
 grind
theorem qqJ {x y c u:Int} (hx:0<=x/\x<4294967296) (hy:0<=y/\y<4294967296) (hc:0<=c/\c<4294967296) (hu:0<=u/\u<4294967296) :
  0<=x*y/\x*y<18446744073709551616/\u+x*y<18446744073709551616/\c+(u+x*y)<18446744073709551616:=by
 have h0:0<=x*y:=Int.mul_nonneg hx.1 hy.1;have h1:x*y<=4294967295*4294967295:=Int.mul_le_mul (by omega) (by omega) hy.1 (by decide);omega
theorem qww {b a:List Int} {n i:Nat} {x:Int} {u:List Int} {Z:Nat} (hb:Lim b) (hx:0<=x/\x<4294967296) (hu:Lim u) (hul:u.length=i+b.length) (hsz:i+b.length<4611686018427387904) :
  ∃ (w:List Int) (c:Nat),lp qd3 K0 ((b,u++List.replicate Z 0,(i:Int),x,0,a,(n:Int),(i:Int),b,(b.length:Int),0,()),())=some ((b,w++List.replicate Z 0,(i:Int),(c:Int),a,(n:Int),(i:Int),()),()) /\
   w.length=i+b.length/\Lim w/\c<4294967296/\nn w+4294967296 ^ (i+b.length)*c=nn u+4294967296 ^ i*(x.toNat*nn b):=by
 obtain⟨r,⟨w,c,rfl,h1,h2,h3,h4⟩,hlp⟩:=qkS (step:=qd3)
  (fun k v=>∃ (w:List Int) (c:Nat),v=((b,w++List.replicate Z 0,(i:Int),x,(c:Int),a,(n:Int),(i:Int),b,(b.length:Int),(k:Int),()),())/\w.length=i+b.length/\Lim w/\c<4294967296/\nn w+4294967296 ^ (i+k)*c=nn u+4294967296 ^ i*(x.toNat*nn (b.take k)))
  (fun r=>∃ (w:List Int) (c:Nat),r=((b,w++List.replicate Z 0,(i:Int),(c:Int),a,(n:Int),(i:Int),()),())/\w.length=i+b.length/\Lim w/\c<4294967296/\nn w+4294967296 ^ (i+b.length)*c=nn u+4294967296 ^ i*(x.toNat*nn b))
  b.length (v:=((b,u++List.replicate Z 0,(i:Int),x,0,a,(n:Int),(i:Int),b,(b.length:Int),0,()),())) ⟨u,0,rfl,hul,hu,by omega,by simp⟩ (by omega) (by
   rintro k v hk ⟨w,c,rfl,hw,hwl,hc,hs⟩;have b1:=hb.at hk;have hik:i+k<w.length:=by omega
   have b2:=hwl.at hik;have b3:(0:Int)<=c/\(c:Int)<4294967296:=by omega
   obtain⟨m0,m1,m2,m3⟩:=qqJ hx b1 b3 b2;have e4:((((c:Int)+(w[i+k]+x*b[k]))/4294967296).toNat:Int)=((c:Int)+(w[i+k]+x*b[k]))/4294967296:=by omega
   have q1:imul .u64 x b[k]=x*b[k]:=qvB m0 m1;have q2:iadd .u64 w[i+k] (x*b[k])=w[i+k]+x*b[k]:=qjW (by omega) m2;have q3:iadd .u64 (c:Int) (w[i+k]+x*b[k])=c+(w[i+k]+x*b[k]):=qjW (by omega) m3;have q4:iadd .i64 (i:Int) (k:Int)=((i+k:Nat):Int):=by rw[qg6]<;>omega
   refine⟨((b,w.set (i+k) (((c:Int)+(w[i+k]+x*b[k])) % 4294967296)++List.replicate Z 0,(i:Int),x,((((c:Int)+(w[i+k]+x*b[k]))/4294967296).toNat:Int),a,(n:Int),(i:Int),b,(b.length:Int),((k+1:Nat):Int),()),()),⟨_,_,rfl,by simpa using hw,hwl.set (by omega),by omega,?_⟩,fun g=>?_⟩
   · have hset := qz6 hwl hik (y := ((c : Int) + (w[i + k] + x * b[k])) % 4294967296) (by omega);rw[nnt hk,show i+(k+1)=i+k+1 from rfl,Nat.pow_succ];have k1:(((c:Int)+(w[i+k]+x*b[k])) % 4294967296).toNat+4294967296*(((c:Int)+(w[i+k]+x*b[k]))/4294967296).toNat=c+(w[i+k].toNat+(x*b[k]).toNat):=by omega
     have k2:4294967296 ^ (i+k)*((((c:Int)+(w[i+k]+x*b[k])) % 4294967296).toNat+4294967296*(((c:Int)+(w[i+k]+x*b[k]))/4294967296).toNat)=4294967296 ^ (i+k)*(c+(w[i+k].toNat+(x*b[k]).toNat)):=by rw[k1]
     have k3:(x*b[k]).toNat=x.toNat*(b[k] % 4294967296).toNat:=by
      rw[Int.toNat_mul hx.1 b1.1];congr 2;omega
     rw[k3] at k2;have k4:4294967296 ^ (i+k)=4294967296 ^ i*4294967296 ^ k:=Nat.pow_add ..
     grind
   · have e5 : (w ++ List.replicate Z (0 : Int))[i + k]? = some w[i + k] := by rw [List.getElem?_append_left hik]; exact gE0 hik
     have e6:((i+k:Nat):Int)<(((w++List.replicate Z (0:Int)).length:Nat):Int):=by simp;omega
     have e7:(0:Int)<=((i+k:Nat):Int):=by omega
     simp only[qd3,tN0,gE0 hk,bS0,q4,e5,q1,q2,q3,qfz,qpU,e4,qbr (n:=k) (by omega),List.set_append_left _ _ hik,cnd2 e7 e6];simp [hk]) (by
   rintro v ⟨w,c,rfl,hw,hwl,hc,hs⟩;rw[List.take_length] at hs;exact⟨_,⟨w,c,rfl,hw,hwl,hc,hs⟩,fun g=>by simp [qd3]⟩)
 exact⟨w,c,hlp,h1,h2,h3,h4⟩
theorem qwv {a b:List Int} (ha:a.length<17592186044416) (hb:b.length<17592186044416):qjd a b=some (qaa (nn a*nn b)):=by
 have h1:=qau a;have h2:=qau b;have e1:=q9q (nn a);have e2:=q9q (nn b);have l1:=qaO (nn a);have l2:=qaO (nn b);simp only[qjd,qdn (show a.length<35184372088832 by omega),qdn (show b.length<35184372088832 by omega),bS0];generalize qaa (nn a)=x at *;generalize qaa (nn b)=y at *;rw[<- e1,<- e2];clear e1 e2;have hN:iadd .i64 (x.length:Int) (y.length:Int)=((x.length+y.length:Nat):Int):=by rw[qg6]<;>omega
 rw[hN];obtain⟨r,⟨p,rfl,hp,hpl,hpn⟩,hlp⟩:=qkS (step:=qeQ) (fun i v=>∃ p:List Int,v=((y,p++List.replicate (x.length-i) 0,x,(x.length:Int),(i:Int),()),())/\p.length=i+y.length/\Lim p/\nn p=nn (x.take i)*nn y)
  (fun r=>∃ p,r=((p,()),())/\p.length=x.length+y.length/\Lim p/\nn p=nn x*nn y) x.length (v:=((y,List.replicate (x.length+y.length) 0,x,(x.length:Int),0,()),()))
  ⟨List.replicate y.length 0, by rw [List.replicate_append_replicate, Nat.sub_zero, Nat.add_comm]; rfl, by simp, Lim.zeros _, by simp [qsP]⟩ (by omega) (by
   rintro i v hi ⟨p,rfl,hp,hpl,hs⟩;obtain⟨w,c,hin,hw,hwl,hc,hwn⟩:=qww (a:=x) (n:=x.length) (i:=i) (x:=x[i]) (u:=p) (Z:=x.length-i) l2 (l1.at hi) hpl hp (by omega);have b1:=l1.at hi;refine⟨((y,(w++[(c:Int)])++List.replicate (x.length-(i+1)) 0,x,(x.length:Int),((i+1:Nat):Int),()),()),⟨_,rfl,by simp [hw];omega,Lim.append hwl (Lim.cons (by omega) Lim.nil),?_⟩,fun g=>?_⟩
   · rw [qbJ, hw, qnq _ (by omega), nnt hi, tN0, hwn, hs];have:(x[i] % 4294967296).toNat=x[i].toNat:=by omega
     rw[this]
     grind
   · have q4 : iadd .i64 (i : Int) (y.length : Int) = ((i + y.length : Nat) : Int) := by rw [qg6] <;> omega
     have e6:((i+y.length:Nat):Int)<(((w++List.replicate (x.length-i) (0:Int)).length:Nat):Int):=by simp;omega
     have e7:(0:Int)<=((i+y.length:Nat):Int):=by omega
     have e8:i+y.length<(w++List.replicate (x.length-i) (0:Int)).length:=by omega
     have e9:(w++List.replicate (x.length-i) (0:Int)).set (i+y.length) (c:Int)=(w++[(c:Int)])++List.replicate (x.length-(i+1)) 0:=by
      have:=qrx (p:=w) (i:=i+y.length) (n:=x.length+y.length) (z:=0) (c:Int) hw (by omega);rw[show x.length+y.length-(i+y.length)=x.length-i by omega,show x.length+y.length-(i+y.length+1)=x.length-(i+1) by omega] at this;exact this
     simp only[qeQ,tN0,gE0 hi,bS0,hin,q4,qbr (n:=i) (by omega),cnd2 e7 e6,gE0 e8,e9];simp [hi]) (by
   rintro v ⟨p,rfl,hp,hpl,hs⟩;rw[List.take_length] at hs;exact⟨((p,()),()),⟨p,rfl,hp,hpl,hs⟩,fun g=>by simp [qeQ]⟩)
 have g1:(8:Int)*((x.length+y.length:Nat):Int)<=281474976710656:=by omega
 have g2:((x.length+y.length:Nat):Int)<=9223372036854775807:=by omega
 have g3:(0:Int)<=((x.length+y.length:Nat):Int):=by omega
 have g4:((8:Nat):Int)*((x.length+y.length:Nat):Int)<=281474976710656:=g1;simp only[tN0,hlp,bS0,qg7 hpl (by omega),hpn,decide_eq_true g2,decide_eq_true g3,decide_eq_true g4,Bool.and_true,decide_true,cond_true]
theorem qvj (a:List Int) {i:Nat} (h:i<a.length):nn (a.drop i)=(a[i] % 4294967296).toNat+4294967296*nn (a.drop (i+1)):=by
 rw[List.drop_eq_getElem_cons h,nn]
theorem qwN {a:List Int} {d:Nat} (ha:Lim a) (hl:a.length<35184372088832) (hd:0<d) (hd':d<4294967296):qi7 a (d:Int)=some (qaa (nn a/d),((nn a % d:Nat):Int)):=by
 obtain⟨r,⟨s,c,rfl,hs,hsl,hc,hsn⟩,hlp⟩:=qpm (step:=qde)
  (fun v=>∃ (j:Nat) (s:List Int) (c:Nat),j<=a.length/\v=((a,(d:Int),List.replicate j 0++s,(c:Int),(j:Int)-1,()),())/\j+s.length=a.length/\Lim s/\c<d/\nn (a.drop j)=d*nn s+c)
  (fun v=>(v.1.2.2.2.2.1+1).toNat)
  (fun r=>∃ (s:List Int) (c:Nat),r=((s,(c:Int),()),())/\s.length=a.length/\Lim s/\c<d/\nn a=d*nn s+c) (v:=((a,(d:Int),List.replicate a.length 0,0,(a.length:Int)-1,()),()))
  ⟨a.length, [], 0, Nat.le_refl _, by simp, by simp, Lim.nil, hd, by simp⟩ (by simp; omega) (by
   rintro v ⟨j,s,c,hj,rfl,hjl,hsl,hc,hn⟩;cases j with
   | zero =>
    refine .inl ⟨((s,(c:Int),()),()),⟨s,c,rfl,by omega,hsl,hc,by simpa using hn⟩,fun g=>by simp [qde]⟩
   | succ j =>
    have hja:j<a.length:=by omega
    have b:=ha.at hja;have e3:((j+1:Nat):Int)-1=(j:Int):=by omega
    rw[e3];obtain⟨x,hx⟩:=Int.eq_ofNat_of_zero_le b.1;have hx':x<4294967296:=by omega
    have hq:(c*4294967296+x)/d<4294967296:=by
      rw[Nat.div_lt_iff_lt_mul hd];have:(c+1)*4294967296<=d*4294967296:=Nat.mul_le_mul_right _ hc;rw[Nat.mul_comm 4294967296 d];omega
    have k1:=Nat.div_add_mod (c*4294967296+x) d;have k5:=Nat.mod_lt (c*4294967296+x) hd;have q3:iquo .u64 ((c*4294967296+x:Nat):Int) (d:Int)=(((c*4294967296+x)/d:Nat):Int):=by rw[qyg (by omega) (by omega) (by omega)];exact(Int.natCast_ediv _ _).symm
    have q4:irem ((c*4294967296+x:Nat):Int) (d:Int)=(((c*4294967296+x) % d:Nat):Int):=by rw[qqP (by omega)];exact(Int.natCast_emod _ _).symm
    generalize (c*4294967296+x)/d=q at *;generalize (c*4294967296+x) % d=rr at *;refine .inr ⟨((a,(d:Int),List.replicate j 0++(q:Int)::s,(rr:Int),(j:Int)-1,()),()),⟨j,_,_,by omega,rfl,by simp;omega,Lim.cons (by omega) hsl,k5,?_⟩,by simp,fun g=>?_⟩
    · rw [qvj a hja, hn, nn];have k2:((q:Int) % 4294967296).toNat=q:=by omega
      have k3:(a[j] % 4294967296).toNat=x:=by omega
      rw[k2,k3]
      grind
    · have c1 : (c : Int) < 4294967296 := by omega
      have q1:shlV .u64 (c:Int) 32=(c:Int)*4294967296:=quU (by omega) c1;have q2:ior .u64 ((c:Int)*4294967296) a[j]=((c*4294967296+x:Nat):Int):=by rw[qvy (by omega) c1 b.1 b.2,hx];omega
      have q5:isub .i64 (j:Int) 1=(j:Int)-1:=by rw[qdF]<;>omega
      have e5:(List.replicate (j+1) (0:Int)++s).set j (q:Int)=List.replicate j 0++(q:Int)::s:=by
       rw[List.replicate_succ',List.append_assoc,List.set_append_right _ _ (by simp)];simp
      have e6:j<(List.replicate (j+1) (0:Int)++s).length:=by simp;omega
      have e7:((j:Nat):Int)<((List.replicate (j+1) (0:Int)++s).length:Int):=by omega
      have e8:(0:Int)<=((j:Nat):Int):=by omega
      have e9:¬ ((d:Int)=0):=by omega
      simp only[qde,tN0,gE0 hja,gE0 e6,bS0,q1,q2,q3,q4,q5,e5,cnd2 e8 e7,cnd e8,cnd' e9,ge_iff_le])
 have g1:(8:Int)*(a.length:Int)<=281474976710656:=by omega
 have g2:(a.length:Int)<=9223372036854775807:=by omega
 have g3:isub .i64 (a.length:Int) 1=(a.length:Int)-1:=by rw[qdF]<;>omega
 have k1:nn a/d=nn s:=by rw[hsn,Nat.mul_add_div hd,Nat.div_eq_of_lt hc];simp
 have k2:nn a % d=c:=by rw[hsn,Nat.mul_add_mod,Nat.mod_eq_of_lt hc]
 rw[k1,k2];simp [qi7,g1,g2,g3,hlp,qg7 hsl (by omega)]
theorem qAm {a:List Int} (hl:a.length<35184372088832):qol a=if nn a<18446744073709551616 then some (((nn a:Nat):Int),true) else some (0,false):=by
 simp only[qol,qdn hl,bS0];generalize nn a=n;by_cases h0:n=0
 · subst h0;simp [qaX]
 by_cases h1:n<4294967296
 · rw[qeA h0 h1];simp;omega
 by_cases h2:n<18446744073709551616
 · have e : qaa n = [((n % 4294967296 : Nat) : Int), ((n / 4294967296 : Nat) : Int)] := by rw [qgO h0, qeA (n := n / 4294967296) (by omega) (by omega)]
   have q1:shlV .u64 ((n/4294967296:Nat):Int) 32=((n/4294967296:Nat):Int)*4294967296:=quU (by omega) (by omega);have q2:ior .u64 (((n/4294967296:Nat):Int)*4294967296) ((n % 4294967296:Nat):Int)=(n:Int):=by rw[qvy]<;>omega
   rw[e];simp only[List.length_cons,List.length_nil,List.getElem?_cons_succ,List.getElem?_cons_zero,bS0,q1,q2];simp [h2]
 · have hlen : 2 < (qaa n).length := qqN (by omega);have a1:¬ ((qaa n).length:Int)=0:=by omega
   have a2:¬ ((qaa n).length:Int)=1:=by omega
   have a3:¬ ((qaa n).length:Int)=2:=by omega
   rw[cnd' a1,cnd' a2,cnd' a3,if_neg h2]
theorem qvT {a b:List Int} (hla:a.length<35184372088832) (hlb:b.length<35184372088832) (ha:nn a<18446744073709551616) (hb:nn b<18446744073709551616):qhO a b=some (qaa (Nat.gcd (nn a) (nn b))):=by
 obtain⟨r,rfl,hlp⟩:=qpm (step:=qcE) (fun v=>∃ x y:Nat,v=(((x:Int),(y:Int),()),())/\x<18446744073709551616/\y<18446744073709551616/\Nat.gcd x y=Nat.gcd (nn a) (nn b)) (fun v=>v.1.2.1.toNat)
  (fun r=>r=((((Nat.gcd (nn a) (nn b):Nat):Int),()),())) (v:=((((nn a:Nat):Int),((nn b:Nat):Int),()),())) ⟨nn a,nn b,rfl,ha,hb,rfl⟩ (by simp;omega) (by
    rintro v ⟨x,y,rfl,hx,hy,hg⟩;by_cases h0:y=0
    · subst h0;refine .inl ⟨_,rfl,fun g=>?_⟩;rw[Nat.gcd_zero_right] at hg;simp [qcE,hg]
    · have hlt := Nat.mod_lt x (Nat.pos_of_ne_zero h0);refine .inr ⟨(((y:Int),((x % y:Nat):Int),()),()),⟨y,x % y,rfl,hy,by omega,?_⟩,by show(((x % y:Nat):Int)).toNat<((y:Nat):Int).toNat;omega,fun g=>?_⟩
      · rw[<- hg,Nat.gcd_comm y,<- Nat.gcd_rec,Nat.gcd_comm]
      · have : irem (x : Int) (y : Int) = ((x % y : Nat) : Int) := by rw [qqP (by omega)]; exact (Int.natCast_emod _ _).symm
        have h1:¬ (y:Int)=0:=by omega
        simp [qcE,this,h0])
 have hgl:Nat.gcd (nn a) (nn b)<18446744073709551616:=by
  by_cases h0:nn b=0
  · rw[h0,Nat.gcd_zero_right];exact ha
  · exact Nat.lt_of_le_of_lt (Nat.gcd_le_right _ (Nat.pos_of_ne_zero h0)) hb
 simp [qhO,qAm hla,qAm hlb,ha,hb,hlp,qsp hgl]
theorem qu6 (s:Nat):(2:Int) ^ s=((2 ^ s:Nat):Int):=by rw[Int.natCast_pow];rfl
theorem qq8 (x s:Nat):(x:Int)/2 ^ s=((x/2 ^ s:Nat):Int):=by rw[qu6,<- Int.natCast_ediv]
theorem qwJ (k:Nat):4294967296 ^ k=2 ^ (32*k):=by rw[Nat.pow_mul]
theorem qmw {a:List Int} (ha:Lim a) (hl:a.length<35184372088832) (h0:nn a≠0):∃ z m:Nat,qbU a=some (z:Int)/\nn a=2 ^ z*m/\m % 2=1/\z<32*a.length:=by
 obtain⟨r,⟨z,m,rfl,h1,h2,h3⟩,hlp⟩:=qpm (step:=qdd) (fun v=>∃ k:Nat,k<=a.length/\v=((((32*k:Nat):Int),a,(a.length:Int),(k:Int),()),())/\nn (a.take k)=0) (fun v=>(a.length-v.1.2.2.2.1).toNat)
  (fun r => ∃ z m : Nat, r = .inr (((z : Int), ()), ()) /\ nn a = 2 ^ z * m /\ m % 2 = 1 /\ z < 32 * a.length) (v := ((0, a, (a.length : Int), 0, ()), ())) ⟨0, by omega, rfl, rfl⟩ (by simp; omega) (by
   rintro v ⟨k,hk,rfl,hz⟩;by_cases hka:k<a.length
   · have b := ha.at hka;by_cases hx:a[k]=0
     · refine .inr ⟨((((32 * (k + 1) : Nat) : Int), a, (a.length : Int), ((k + 1 : Nat) : Int), ()), ()), ⟨k + 1, by omega, rfl, ?_⟩, by simp; omega, fun g => ?_⟩
       · rw[nnt hka,hz,hx];simp
       · have q1 : iadd .i64 ((32 * k : Nat) : Int) 32 = ((32 * (k + 1) : Nat) : Int) := by rw [qg6] <;> omega
         have e1:(k:Int)<(a.length:Int):=by omega
         have e2:(0:Int)<=(k:Int):=by omega
         simp only[qdd,cnd e1,cnd e2,tN0,gE0 hka,bS0,hx,q1,qbr (n:=k) (by omega)];simp
     · obtain ⟨x, hx2⟩ := Int.eq_ofNat_of_zero_le b.1;obtain⟨m,h1,h2,h3⟩:=qoP 64 x (by omega) (by omega);have h4:tzN 64 x<32:=by
         rcases Nat.lt_or_ge (tzN 64 x) 32 with h | h
         · exact h
         · have : 2 ^ 32 <= 2 ^ tzN 64 x := Nat.pow_le_pow_right (by decide) h;have hm:0<m:=by omega
           have:2 ^ tzN 64 x*1<=2 ^ tzN 64 x*m:=Nat.mul_le_mul_left _ hm;omega
       refine .inl ⟨_,⟨32*k+tzN 64 x,m+2 ^ (32-tzN 64 x)*nn (a.drop (k+1)),rfl,?_,?_,by omega⟩,fun g=>?_⟩
       · rw [qpa hka, hz, qwJ];have k3:(a[k] % 4294967296).toNat=x:=by omega
         rw[k3,Nat.pow_add];have k4:2 ^ tzN 64 x*2 ^ (32-tzN 64 x)=4294967296:=by rw[<- Nat.pow_add,show tzN 64 x+(32-tzN 64 x)=32 by omega]
         generalize tzN 64 x=t at *;have k5:2 ^ t*(m+2 ^ (32-t)*nn (a.drop (k+1)))=x+4294967296*nn (a.drop (k+1)):=by
           rw[Nat.mul_add,<- h1,<- Nat.mul_assoc,k4]
         rw[Nat.mul_assoc,k5];omega
       · have : 2 ^ (32 - tzN 64 x) = 2 * 2 ^ (31 - tzN 64 x) := by rw [show 32 - tzN 64 x = (31 - tzN 64 x) + 1 by omega, Nat.pow_succ, Nat.mul_comm]
         rw[this,Nat.mul_assoc];omega
       · have e1 : (k : Int) < (a.length : Int) := by omega
         have e2:(0:Int)<=(k:Int):=by omega
         have q1:imul .i64 32 (k:Int)=((32*k:Nat):Int):=by rw[qAf]<;>omega
         have q2:iadd .i64 ((32*k:Nat):Int) ((tzN 64 x:Nat):Int)=((32*k+tzN 64 x:Nat):Int):=by rw[qg6]<;>omega
         have q3:tz64 a[k]=some ((tzN 64 x:Nat):Int):=by
           rw[hx2,tz64,cnd2 (by omega) (by omega)];rfl
         simp only[qdd,cnd e1,cnd e2,tN0,gE0 hka,bS0,q1,q2,q3];simp [hx]
   · exfalso;rw[List.take_of_length_le (by omega)] at hz;exact h0 hz)
 exact⟨z,m,by simp [qbU,hlp],h1,h2,h3⟩
def shrL (s:Nat):List Int->List Int
 | []=>[]
 | x::r=>((((((r[0]?).getD 0)*4294967296+x)/2 ^ s) % 4294967296:Int))::shrL s r
theorem qsE (s:Nat):∀ l:List Int,(shrL s l).length=l.length
 | []=>rfl
 | _::r=>by simp [shrL,qsE s r]
theorem qsF (s:Nat):∀ (l:List Int) (i:Nat) (h:i<(shrL s l).length),(shrL s l)[i]=((lget l (i+1))*4294967296+lget l i)/2 ^ s % 4294967296
 | [],i,h=>by simp [shrL] at h
 | x::r,0,h=>by simp [shrL,lget]
 | x::r,i+1,h=>by
  simp only[shrL,List.getElem_cons_succ];rw[qsF s r i];simp [lget]
theorem qsD (s:Nat):∀ l:List Int,Lim (shrL s l)
 | []=>Lim.nil
 | x::r=>Lim.cons (by omega) (qsD s r)
theorem qy2 {r:List Int} (hr:Lim r):nn r % 4294967296=((r[0]?).getD 0).toNat:=by
 cases r with
 | nil=>rfl
 | cons x r=>have:=hr x List.mem_cons_self;simp only[nn,List.getElem?_cons_zero,Option.getD_some];omega
theorem qyJ {X M P C B:Nat} (hB:P*C=B) (hP:0<P) (hX:X<B):(X+B*M)/P=(M % B*B+X)/P % B+B*(M/P):=by
 have hB0:0<B:=by omega
 have f1:(X+B*M)/P % B=(M % B*B+X)/P % B:=by
  have h1:B*M=B*(M % B)+B*(B*(M/B)):=by rw[<- Nat.mul_add,Nat.mod_add_div]
  have h2:B*(B*(M/B))=P*(B*(C*(M/B))):=by
   have:B*(B*(M/B))=(P*C)*(B*(M/B)):=by rw[hB]
   rw[this];grind
  have:X+B*M=(M % B*B+X)+P*(B*(C*(M/B))):=by rw[h1,h2,Nat.mul_comm B (M % B)];omega
  rw[this,Nat.add_mul_div_left _ _ hP,Nat.add_mul_mod_self_left]
 have f2:(X+B*M)/P/B=M/P:=by
  rw[Nat.div_div_eq_div_mul,Nat.mul_comm P B,<- Nat.div_div_eq_div_mul,Nat.add_mul_div_left _ _ hB0,Nat.div_eq_of_lt hX,Nat.zero_add]
 have:=Nat.div_add_mod ((X+B*M)/P) B;rw[f1,f2] at this;omega
theorem qvi (s:Nat) (hs:s<=32):∀ l:List Int,Lim l->nn (shrL s l)=nn l/2 ^ s
 | [],_=>by simp [shrL]
 | x::r,h=>by
  have hx:=h x List.mem_cons_self;have hr:Lim r:=fun y hy=>h y (List.mem_cons_of_mem _ hy)
  have hh:=qy2 hr;have hr0:=qin hr 0;unfold lget at hr0;obtain⟨X,rfl⟩:=Int.eq_ofNat_of_zero_le hx.1;obtain⟨Y,hY⟩:=Int.eq_ofNat_of_zero_le hr0.1;have ih:=qvi s hs r hr;simp only[shrL,nn,ih,hY];rw[hY] at hh;simp only[tN0] at hh;have e1:(((Y:Int)*4294967296+(X:Int))/2 ^ s % 4294967296 % 4294967296).toNat=(Y*4294967296+X)/2 ^ s % 4294967296:=by
   have h1:((Y:Int)*4294967296+(X:Int))=((Y*4294967296+X:Nat):Int):=by omega
   rw[h1,qq8];generalize (Y*4294967296+X)/2 ^ s=Q;omega
  have e2:((X:Int) % 4294967296).toNat=X:=by omega
  rw[e1,e2];have p2:(2:Nat) ^ s*2 ^ (32-s)=4294967296:=by rw[<- Nat.pow_add,show s+(32-s)=32 by omega]
  have key:=qyJ (X:=X) (M:=nn r) p2 (Nat.pow_pos (by decide)) (by omega);rw[key,hh]
theorem qpT {a:List Int} {n:Nat} (ha:Lim a) (hl:a.length<35184372088832) (hn:n<4611686018427387904):qdk a (n:Int)=some (qaa (nn a/2 ^ n)):=by
 have q1:iquo .i64 (n:Int) 32=((n/32:Nat):Int):=by rw[qyh (by omega) (by omega) (by omega)];omega
 have q2:irem (n:Int) 32=((n % 32:Nat):Int):=by rw[qqP (by omega)];omega
 unfold qdk;rw[q1,q2];have hpow:2 ^ n=4294967296 ^ (n/32)*2 ^ (n % 32):=by rw[qwJ,<- Nat.pow_add];congr 1;omega
 by_cases hw:a.length<=n/32
 · have c1 : ((n / 32 : Nat) : Int) >= (a.length : Int) := by omega
   rw[cnd c1];have:=qe1 a;have h2:=Nat.pow_le_pow_right (n:=4294967296) (by decide) hw;have h3:4294967296 ^ (n/32)*1<=4294967296 ^ (n/32)*2 ^ (n % 32):=Nat.mul_le_mul_left _ (Nat.pow_pos (by decide));rw[hpow,Nat.div_eq_of_lt (by omega),qaX]
 · have c1 : ¬ ((n / 32 : Nat) : Int) >= (a.length : Int) := by omega
   rw[cnd' c1];have q3:isub .i64 (a.length:Int) ((n/32:Nat):Int)=((a.length-n/32:Nat):Int):=by rw[qdF]<;>omega
   rw[q3];have hs:n % 32<=32:=by omega
   have hX:(shrL (n % 32) (a.drop (n/32))).length=a.length-n/32:=by rw[qsE];simp
   have key:=qfM (step:=qd0) (fun i=>((a,((n/32:Nat):Int),((n % 32:Nat):Int),fill (shrL (n % 32) (a.drop (n/32))) 0 i,((a.length-n/32:Nat):Int),(i:Int),()),())) (a.length-n/32) (r:=((shrL (n % 32) (a.drop (n/32)),()),())) (by omega) (by
    intro g i hi;have hi2:i<(shrL (n % 32) (a.drop (n/32))).length:=by omega
    have e3:=qs5 (z:=0) hi2;have e4:(fill (shrL (n % 32) (a.drop (n/32))) 0 i).length=a.length-n/32:=by rw[qs6 _ _ _ (by omega),hX]
    have hi3:i+n/32<a.length:=by omega
    have r1:iadd .i64 (i:Int) ((n/32:Nat):Int)=((i+n/32:Nat):Int):=by rw[qg6]<;>omega
    have r2:iadd .i64 ((i+n/32:Nat):Int) 1=((i+n/32+1:Nat):Int):=by rw[qg6]<;>omega
    have b1:=ha.at hi3;have b2:=qin ha (i+n/32+1);obtain⟨X,hX1⟩:=Int.eq_ofNat_of_zero_le b1.1;obtain⟨Y,hY1⟩:=Int.eq_ofNat_of_zero_le b2.1;have r3:shlV .u64 (lget a (i+n/32+1)) 32=lget a (i+n/32+1)*4294967296:=quU b2.1 b2.2;have r4:ior .u64 (lget a (i+n/32+1)*4294967296) a[i+n/32]=((Y*4294967296+X:Nat):Int):=by rw[qvy b2.1 b2.2 b1.1 b1.2,hX1,hY1];omega
    have r5:shrV .u64 ((Y*4294967296+X:Nat):Int) ((n % 32:Nat):Int)=(((Y*4294967296+X)/2 ^ (n % 32):Nat):Int):=qyI _ _ (by omega);have r6:(shrL (n % 32) (a.drop (n/32)))[i]=(((Y*4294967296+X)/2 ^ (n % 32):Nat):Int) % 4294967296:=by
     rw[qsF];have g1:lget (a.drop (n/32)) (i+1)=(Y:Int):=by rw[<- hY1];simp only[lget,List.getElem?_drop];congr 2;omega
     have g2:lget (a.drop (n/32)) i=(X:Int):=by rw[<- hX1,<- qt3 hi3];simp only[lget,List.getElem?_drop];congr 2;omega
     have h1:((Y:Int)*4294967296+(X:Int))=((Y*4294967296+X:Nat):Int):=by omega
     rw[g1,g2,h1,qq8]
    rw[r6] at e3;have c2:(i:Int)<((a.length-n/32:Nat):Int):=by omega
    have c3:(0:Int)<=((i+n/32:Nat):Int):=by omega
    have c4:¬ ((n % 32:Nat):Int)<0:=by omega
    have c5:(0:Int)<=(i:Int):=by omega
    have c6:(i:Int)<((fill (shrL (n % 32) (a.drop (n/32))) 0 i).length:Int):=by omega
    have c7:i<(fill (shrL (n % 32) (a.drop (n/32))) 0 i).length:=by omega
    simp only[qd0,cnd c2,r1,r2,qnv,bS0,cnd c3,tN0,gE0 hi3,cnd' c4,cnd2 c5 c6,gE0 c7,r3,r4,r5,qfz,e3,qbr (n:=i) (by omega)];simp) (by
    intro g;have:=qs7 (shrL (n % 32) (a.drop (n/32))) (0:Int);rw[hX] at this;simp [qd0,this])
   rw[qqX,hX] at key;have hv:nn (shrL (n % 32) (a.drop (n/32)))=nn a/2 ^ n:=by
    rw[qvi _ hs _ (ha.drop _),hpow,<- Nat.div_div_eq_div_mul];congr 1;have e:nn a=nn (a.take (n/32))+4294967296 ^ (n/32)*nn (a.drop (n/32)):=by
     conv=>lhs;rw[<- List.take_append_drop (n/32) a]
     rw[qbJ,List.length_take,Nat.min_eq_left (by omega)]
    have h1:=qe1 (a.take (n/32));rw[List.length_take,Nat.min_eq_left (by omega)] at h1;rw[e,Nat.add_mul_div_left _ _ (Nat.pow_pos (by decide)),Nat.div_eq_of_lt h1,Nat.zero_add]
   have g2:((a.length-n/32:Nat):Int)<=9223372036854775807:=by omega
   have g3:(0:Int)<=((a.length-n/32:Nat):Int):=by omega
   have g4:((8:Nat):Int)*((a.length-n/32:Nat):Int)<=281474976710656:=by omega
   have key':lp qd0 K0 ((a,((n/32:Nat):Int),((n % 32:Nat):Int),List.replicate (a.length-n/32) 0,((List.replicate (a.length-n/32) (0:Int)).length:Int),0,()),())=some ((shrL (n % 32) (a.drop (n/32)),()),()):=by simpa using key
   simp only[tN0,key',bS0,qg7 (qsD _ _) (show(shrL (n % 32) (a.drop (n/32))).length<4611686018427387904 by omega),hv,decide_eq_true g2,decide_eq_true g3,decide_eq_true g4,Bool.and_true,decide_true,cond_true]
theorem qAe {x y s:Nat} (hy:y<2 ^ s) (h:x*2 ^ s+y<18446744073709551616):ior .u64 (y:Int) ((x*2 ^ s:Nat):Int)=((x*2 ^ s+y:Nat):Int):=by
 rw[<- qyi hy h,qr4 (by omega) (by omega),qr4 (by omega) (by omega),Nat.or_comm]
theorem qwO {x c P C B:Nat} (hB:C*P=B) (hc:c<P) (hx:x<B) (hB64:B*P<18446744073709551616) (hP:0<P) (hC:0<C) :
   x*P % B=(x % C)*P/\(x % C)*P+c<B/\x*P/B<P/\x*P<18446744073709551616:=by
 refine⟨?_,?_,?_,?_⟩
 · rw[<- hB,Nat.mul_mod_mul_right]
 · have : x % C + 1 <= C := Nat.mod_lt _ hC;have:=Nat.mul_le_mul_right P this;rw[hB,Nat.add_mul] at this;omega
 · rw [Nat.div_lt_iff_lt_mul (by omega), Nat.mul_comm P B];exact Nat.mul_lt_mul_of_pos_right hx hP
 · exact Nat.lt_trans (Nat.mul_lt_mul_of_pos_right hx hP) hB64
theorem qsG {a:List Int} {n:Nat} (ha:Lim a) (hl:a.length<8796093022208) (hn:n<281474976710656):qgJ a (n:Int)=some (qaa (nn a*2 ^ n)):=by
 have q1:iquo .i64 (n:Int) 32=((n/32:Nat):Int):=by rw[qyh (by omega) (by omega) (by omega)];omega
 have q2:irem (n:Int) 32=((n % 32:Nat):Int):=by rw[qqP (by omega)];omega
 unfold qgJ;rw[q1,q2];have hpow:2 ^ n=4294967296 ^ (n/32)*2 ^ (n % 32):=by rw[qwJ,<- Nat.pow_add];congr 1;omega
 have hw:n/32<8796093022208:=by omega
 have hs:n % 32<32:=by omega
 rw[hpow];generalize n/32=w at *;generalize n % 32=s at *;clear hpow q1 q2 hn;have q3:iadd .i64 (iadd .i64 (a.length:Int) (w:Int)) 1=((a.length+w+1:Nat):Int):=by
  have:iadd .i64 (a.length:Int) (w:Int)=((a.length+w:Nat):Int):=by rw[qg6]<;>omega
  rw[this,qbr (by omega)];omega
 rw[q3];have hB:2 ^ (32-s)*2 ^ s=4294967296:=by rw[<- Nat.pow_add,show 32-s+s=32 by omega]
 have hP:0<2 ^ s:=Nat.pow_pos (by decide);have hC:0<2 ^ (32-s):=Nat.pow_pos (by decide);have hB64:4294967296*2 ^ s<18446744073709551616:=by
  have:2 ^ s<=2 ^ 31:=Nat.pow_le_pow_right (by decide) (by omega);generalize 2 ^ s=P at *;omega
 have hs64:s<=64:=by omega
 have key0:∀ P,P=2 ^ s->∃ r,(∃ (q:List Int) (c:Nat),r=(((List.replicate w 0++q)++[(c:Int)],()),())/\q.length=a.length/\Lim q/\c<P/\nn q+4294967296 ^ a.length*c=nn a*P) /\
    lp qd1 K0 (((w:Int),(s:Int),List.replicate (a.length+w+1) 0,a,(a.length:Int),0,()),())=some r:=by
  intro P hPe;refine qkS (step:=qd1) (fun i v=>∃ (q:List Int) (c:Nat),v=(((w:Int),(s:Int),(List.replicate w 0++q)++((c:Int)::List.replicate (a.length-i) 0),a,(a.length:Int),(i:Int),()),())/\q.length=i/\Lim q/\c<P/\nn q+4294967296 ^ i*c=nn (a.take i)*P)
    (fun r=>∃ (q:List Int) (c:Nat),r=(((List.replicate w 0++q)++[(c:Int)],()),())/\q.length=a.length/\Lim q/\c<P/\nn q+4294967296 ^ a.length*c=nn a*P) a.length
    ⟨[],0,?_,rfl,Lim.nil,by omega,by simp⟩ (by omega) ?_ ?_
  · have : List.replicate (a.length + w + 1) (0 : Int) = (List.replicate w 0 ++ []) ++ ((0 : Nat) : Int) :: List.replicate (a.length - 0) 0 := by
      rw[List.append_nil,show a.length+w+1=w+(a.length+1) by omega,<- List.replicate_append_replicate,List.replicate_succ];rfl
    rw[this];rfl
  · rintro i v hi ⟨q, c, rfl, hq, hql, hc, hn⟩;have b:=ha.at hi;obtain⟨x,hx⟩:=Int.eq_ofNat_of_zero_le b.1;have hx':x<4294967296:=by omega
    subst hPe;obtain⟨s1,s2,s3,s4⟩:=qwO hB hc hx' hB64 hP hC;have r1:shlV .u64 a[i] (s:Int)=((x*2 ^ s:Nat):Int):=by rw[hx];exact qyK hs64 s4
    have r2:iand .u64 ((x*2 ^ s:Nat):Int) 4294967295=((x % 2 ^ (32-s)*2 ^ s:Nat):Int):=by rw[qfz,<- s1];exact(Int.natCast_emod _ 4294967296).symm
    have r3:ior .u64 (c:Int) ((x % 2 ^ (32-s)*2 ^ s:Nat):Int)=((x % 2 ^ (32-s)*2 ^ s+c:Nat):Int):=qAe hc (Nat.lt_trans s2 (by decide));have r4:shrV .u64 ((x*2 ^ s:Nat):Int) 32=((x*2 ^ s/4294967296:Nat):Int):=by rw[qpU];exact(Int.natCast_ediv _ 4294967296).symm
    have r5:iadd .i64 (i:Int) (w:Int)=((i+w:Nat):Int):=by rw[qg6]<;>omega
    have r6:iadd .i64 ((i+w:Nat):Int) 1=((i+w+1:Nat):Int):=by rw[qg6]<;>omega
    have k3:(a[i] % 4294967296).toNat=x:=by omega
    have hnt:=nnt hi;rw[k3] at hnt;have hk2:nn q+4294967296 ^ i*(x % 2 ^ (32-s)*2 ^ s+c)+4294967296 ^ (i+1)*(x*2 ^ s/4294967296)=nn (a.take (i+1))*2 ^ s:=by
      rw[hnt,Nat.pow_succ,<- s1,Nat.add_mul,<- hn];have:=Nat.div_add_mod (x*2 ^ s) 4294967296;generalize x*2 ^ s/4294967296=Q at *;generalize x*2 ^ s % 4294967296=R at *;rw[Nat.mul_assoc _ x,<- this]
      grind
    generalize hv:x % 2 ^ (32-s)*2 ^ s+c=vv at *;generalize hcc:x*2 ^ s/4294967296=cc at *;have l1:(List.replicate w (0:Int)++q).length=i+w:=by simp [hq];omega
    have l2:(List.replicate w (0:Int)++q++[(vv:Int)]).length=i+w+1:=by simp [hq];omega
    have z:List.replicate (a.length-i) (0:Int)=0::List.replicate (a.length-(i+1)) 0:=by rw[<- List.replicate_succ];congr 1;omega
    have t0:((List.replicate w (0:Int)++q)++((c:Int)::List.replicate (a.length-i) 0))[i+w]?=some (c:Int):=by rw[List.getElem?_append_right (by omega),l1];simp
    have t1:((List.replicate w (0:Int)++q)++((c:Int)::List.replicate (a.length-i) 0)).set (i+w) (vv:Int)=((List.replicate w (0:Int)++q)++[(vv:Int)])++(0::List.replicate (a.length-(i+1)) 0):=by
      rw[List.set_append_right _ _ (by omega),l1,z];simp
    have t2:(((List.replicate w (0:Int)++q)++[(vv:Int)])++(0::List.replicate (a.length-(i+1)) 0)).set (i+w+1) (cc:Int)=(List.replicate w (0:Int)++(q++[(vv:Int)]))++((cc:Int)::List.replicate (a.length-(i+1)) 0):=by
      rw[List.set_append_right _ _ (by omega),l2];simp
    have t3:(((List.replicate w (0:Int)++q)++[(vv:Int)])++(0::List.replicate (a.length-(i+1)) 0))[i+w+1]?=some 0:=by rw[List.getElem?_append_right (by omega),l2];simp
    have c1:(i:Int)<(a.length:Int):=by omega
    have c2:(0:Int)<=(i:Int):=by omega
    have c3:¬ (s:Int)<0:=by omega
    have c4:(0:Int)<=((i+w:Nat):Int):=by omega
    have c5:((i+w:Nat):Int)<(((List.replicate w (0:Int)++q)++((c:Int)::List.replicate (a.length-i) 0)).length:Int):=by rw[List.length_append,l1,List.length_cons];omega
    have c6:(0:Int)<=((i+w+1:Nat):Int):=by omega
    have c7:((i+w+1:Nat):Int)<((((List.replicate w (0:Int)++q)++[(vv:Int)])++(0::List.replicate (a.length-(i+1)) 0)).length:Int):=by rw[List.length_append,l2,List.length_cons];omega
    refine⟨(((w:Int),(s:Int),(List.replicate w 0++(q++[(vv:Int)]))++((cc:Int)::List.replicate (a.length-(i+1)) 0),a,(a.length:Int),((i+1:Nat):Int),()),()),⟨_,cc,rfl,by simp [hq],Lim.append hql (Lim.cons (by omega) Lim.nil),s3,?_⟩,fun g=>?_⟩
    · rw [qbJ, hq, qnq _ (by omega), tN0];exact hk2
    · simp only [qd1, cnd c1, cnd c2, tN0, gE0 hi, bS0, cnd' c3, r5, cnd2 c4 c5, t0, r6, r1, r2, r3, r4, t1, cnd2 c6 c7, t3, t2, qbr (n := i) (by omega)];rfl
  · rintro v ⟨q, c, rfl, hq, hql, hc, hn⟩;rw[List.take_length] at hn;exact⟨_,⟨q,c,rfl,hq,hql,hc,hn⟩,fun g=>by simp [qd1]⟩
 obtain⟨r,⟨q,c,rfl,hq,hql,hc,hnq⟩,hlp⟩:=key0 _ rfl;have hc32:c<4294967296:=by
  have:2 ^ s<=2 ^ 32:=Nat.pow_le_pow_right (by decide) (by omega);generalize 2 ^ s=P at *;omega
 have hval:nn ((List.replicate w (0:Int)++q)++[(c:Int)])=nn a*(4294967296 ^ w*2 ^ s):=by
  rw[List.append_assoc,qbJ,qbJ,qsP,List.length_replicate,hq,qnq _ (by omega),tN0,hnq];generalize 2 ^ s=P at *
  grind
 have g2:((a.length+w+1:Nat):Int)<=9223372036854775807:=by omega
 have g3:(0:Int)<=((a.length+w+1:Nat):Int):=by omega
 have g4:((8:Nat):Int)*((a.length+w+1:Nat):Int)<=281474976710656:=by omega
 have hlim:Lim ((List.replicate w (0:Int)++q)++[(c:Int)]):=Lim.append (Lim.append (Lim.zeros _) hql) (Lim.cons (by omega) Lim.nil);simp only[tN0,hlp,bS0,qg7 hlim (show((List.replicate w (0:Int)++q)++[(c:Int)]).length<4611686018427387904 by simp [hq];omega),hval,decide_eq_true g2,decide_eq_true g3,decide_eq_true g4,Bool.and_true,decide_true,cond_true]
theorem qjC {α:Type} {a b:List α} (h:b.length=a.length):over a 0 b=b:=by simp [over,h]
theorem qya {α:Type} {p u:List α} {i:Nat} (x:α) (hp:p.length=i) (hi:i<u.length):(p++u.drop i).set i x=(p++[x])++u.drop (i+1):=by
 subst hp;rw[List.set_append_right _ _ (by omega),Nat.sub_self,List.drop_eq_getElem_cons hi,List.set_cons_zero,List.append_assoc];rfl
theorem qyF {u v:List Int} {t:Nat} (hu:Lim u) (hv:Lim v) (hl:u.length<35184372088832) (hlv:v.length<u.length) (ht:t<4294967296) :
  ∃ (w:List Int) (d:Nat),qkL u v (t:Int)=some (w,decide (d=1))/\w.length=u.length/\Lim w/\d<=1/\nn w+t*nn v=nn u+4294967296 ^ u.length*d:=by
 obtain⟨r,⟨p,d,rfl,hp,hpl,hd,hpn⟩,hlp⟩:=qkS (step:=qdU) (fun i s=>∃ (p:List Int) (c d:Nat),s=((p++u.drop i,v,(t:Int),(c:Int),(d:Int),(u.length:Int),(i:Int),()),())/\p.length=i/\Lim p/\c<4294967296/\d<=1/\nn p+t*nn (v.take i)=nn (u.take i)+4294967296 ^ i*(d+c)/\(v.length<i->c=0))
  (fun r=>∃ (p:List Int) (d:Nat),r=((p,(d:Int),()),())/\p.length=u.length/\Lim p/\d<=1/\nn p+t*nn v=nn u+4294967296 ^ u.length*d) u.length (v:=((u,v,(t:Int),0,0,(u.length:Int),0,()),()))
  ⟨[], 0, 0, by simp, rfl, Lim.nil, by omega, by omega, by simp, by omega⟩ (by omega) (by
   rintro i s hi ⟨p,c,d,rfl,hp,hpl,hc,hd,hs,h0⟩;have b1:=hu.at hi;have b2:=qin hv i;obtain⟨y,hy⟩:=Int.eq_ofNat_of_zero_le b2.1;obtain⟨x,hx⟩:=Int.eq_ofNat_of_zero_le b1.1;have bt:(0:Int)<=(t:Int)/\(t:Int)<4294967296:=by omega
   obtain⟨m0,m1,m2,m3⟩:=qqJ bt b2 (show(0:Int)<=(c:Int)/\(c:Int)<4294967296 by omega) (show(0:Int)<=0/\(0:Int)<4294967296 by omega);have hm:(t:Int)*lget v i=((t*y:Nat):Int):=by rw[hy,Int.natCast_mul]
   have q1:imul .u64 (t:Int) (lget v i)=((t*y:Nat):Int):=by rw[qvB m0 m1,hm]
   rw[hm] at m0 m1 m2 m3;have hty:t*y<=4294967295*4294967295:=Nat.mul_le_mul (by omega) (by omega);have q2:iadd .u64 (c:Int) ((t*y:Nat):Int)=((c+t*y:Nat):Int):=by rw[qjW (by omega) (by omega)];omega
   have q3:iadd .u64 4294967296 u[i]=4294967296+u[i]:=qjW (by omega) (by omega);have hlow:iand .u64 ((c+t*y:Nat):Int) 4294967295=(((c+t*y) % 4294967296:Nat):Int):=by rw[qfz];exact(Int.natCast_emod _ 4294967296).symm
   have hhi:shrV .u64 ((c+t*y:Nat):Int) 32=(((c+t*y)/4294967296:Nat):Int):=by rw[qpU];exact(Int.natCast_ediv _ 4294967296).symm
   have hnt:=qeK v i;have hdm:=Nat.div_add_mod (c+t*y) 4294967296;have hlt:=Nat.mod_lt (c+t*y) (show 0<4294967296 by decide);have hcc:(c+t*y)/4294967296<4294967296:=by omega
   have hc0:v.length<i+1->(c+t*y)/4294967296=0:=by
     intro h;have:y=0:=by
      have:lget v i=0:=by simp only[lget];rw[List.getElem?_eq_none (by omega)];rfl
      omega
     subst this;omega
   generalize hL:(c+t*y) % 4294967296=lo at *;generalize hH:(c+t*y)/4294967296=hg at *;have q4:isub .u64 (4294967296+u[i]) (lo:Int)=4294967296+u[i]-lo:=qkW (by omega) (by omega);have q5:isub .u64 (4294967296+u[i]-(lo:Int)) (d:Int)=((4294967296+x-lo-d:Nat):Int):=by rw[qkW (by omega) (by omega)];omega
   have q6:iand .u64 ((4294967296+x-lo-d:Nat):Int) 4294967295=(((4294967296+x-lo-d) % 4294967296:Nat):Int):=by rw[qfz];exact(Int.natCast_emod _ 4294967296).symm
   have q7:isub .u64 1 (shrV .u64 ((4294967296+x-lo-d:Nat):Int) 32)=((1-(4294967296+x-lo-d)/4294967296:Nat):Int):=by
     rw[qpU,qkW (by omega) (by omega)];omega
   have hdd:(4294967296+x-lo-d) % 4294967296+lo+d=x+4294967296*(1-(4294967296+x-lo-d)/4294967296):=by omega
   have hd1:1-(4294967296+x-lo-d)/4294967296<=1:=by omega
   have ho:(4294967296+x-lo-d) % 4294967296<4294967296:=by omega
   generalize (4294967296+x-lo-d) % 4294967296=o at *;generalize 1-(4294967296+x-lo-d)/4294967296=d' at *;refine⟨(((p++[(o:Int)])++u.drop (i+1),v,(t:Int),(hg:Int),(d':Int),(u.length:Int),((i+1:Nat):Int),()),()),⟨_,_,_,rfl,by simp [hp],Lim.append hpl (Lim.cons (by omega) Lim.nil),hcc,hd1,?_,hc0⟩,fun g=>?_⟩
   · rw [qbJ, hp, qnq _ (by omega), qeK v i, nnt hi, Nat.pow_succ, tN0];have k1:(lget v i % 4294967296).toNat=y:=by omega
     have k2:(u[i] % 4294967296).toNat=x:=by omega
     rw[k1,k2];have k3:4294967296 ^ i*(o+lo+d)=4294967296 ^ i*(x+4294967296*d'):=by rw[hdd]
     have k4:4294967296 ^ i*(4294967296*hg+lo)=4294967296 ^ i*(c+t*y):=by rw[hdm]
     grind
   · have e5 : (p ++ u.drop i).length = u.length := by simp [hp]; omega
     have e6:(p++u.drop i)[i]?=some u[i]:=by rw[List.getElem?_append_right (by omega),hp,Nat.sub_self,List.getElem?_drop,Nat.add_zero];exact gE0 hi
     have c1:(i:Int)<(u.length:Int):=by omega
     have c2:(0:Int)<=(i:Int):=by omega
     have c3:(i:Int)<((p++u.drop i).length:Int):=by omega
     simp only[qdU,cnd c1,qnv,bS0,cnd2 c2 c3,tN0,e6,q1,q2,hlow,q3,q4,q5,q6,q7,hhi,qya _ hp hi,qbr (n:=i) (by omega)];rfl) (by
   rintro s ⟨p,c,d,rfl,hp,hpl,hc,hd,hs,h0⟩;have:=h0 hlv;subst this;rw[List.take_of_length_le (Nat.le_of_lt hlv),List.take_length] at hs;exact⟨((p,(d:Int),()),()),⟨p,d,rfl,hp,hpl,hd,by simpa using hs⟩,fun g=>by simp [qdU]⟩)
 refine⟨p,d,?_,hp,hpl,hd,hpn⟩;have:decide ((d:Int)=1)=decide (d=1):=by by_cases h:d=1<;>simp [h];omega
 simp [qkL,hlp,hp,this]
theorem qzn {u v:List Int} (hu:Lim u) (hv:Lim v) (hl:u.length<35184372088832) (hlv:v.length<=u.length) :
  ∃ (w:List Int) (c:Nat),qkP u v=some w/\w.length=u.length/\Lim w/\c<=1/\nn w+4294967296 ^ u.length*c=nn u+nn v:=by
 obtain⟨r,⟨p,c,rfl,hp,hpl,hc,hpn⟩,hlp⟩:=qkS (step:=qdV) (fun i s=>∃ (p:List Int) (c:Nat),s=((p++u.drop i,v,(c:Int),(u.length:Int),(i:Int),()),())/\p.length=i/\Lim p/\c<=1/\nn p+4294967296 ^ i*c=nn (u.take i)+nn (v.take i))
  (fun r=>∃ (p:List Int) (c:Nat),r=((p,()),())/\p.length=u.length/\Lim p/\c<=1/\nn p+4294967296 ^ u.length*c=nn u+nn v) u.length (v:=((u,v,0,(u.length:Int),0,()),()))
  ⟨[], 0, by simp, rfl, Lim.nil, by omega, by simp⟩ (by omega) (by
   rintro i s hi ⟨p,c,rfl,hp,hpl,hc,hs⟩;have b1:=hu.at hi;have b2:=qin hv i;have q1:iadd .u64 u[i] (lget v i)=u[i]+lget v i:=qjW (by omega) (by omega);have q2:iadd .u64 (c:Int) (u[i]+lget v i)=c+(u[i]+lget v i):=qjW (by omega) (by omega);have e4:((((c:Int)+(u[i]+lget v i))/4294967296).toNat:Int)=((c:Int)+(u[i]+lget v i))/4294967296:=by omega
   refine⟨(((p++[((c:Int)+(u[i]+lget v i)) % 4294967296])++u.drop (i+1),v,((((c:Int)+(u[i]+lget v i))/4294967296).toNat:Int),(u.length:Int),((i+1:Nat):Int),()),()),⟨_,_,rfl,by simp [hp],Lim.append hpl (Lim.cons (by omega) Lim.nil),by omega,?_⟩,fun g=>?_⟩
   · rw [qbJ, hp, qnq _ (by omega), qeK v i, nnt hi, Nat.pow_succ];have k1:(((c:Int)+(u[i]+lget v i)) % 4294967296).toNat+4294967296*(((c:Int)+(u[i]+lget v i))/4294967296).toNat=c+(u[i] % 4294967296).toNat+(lget v i % 4294967296).toNat:=by omega
     have k2:4294967296 ^ i*((((c:Int)+(u[i]+lget v i)) % 4294967296).toNat+4294967296*(((c:Int)+(u[i]+lget v i))/4294967296).toNat)=4294967296 ^ i*(c+(u[i] % 4294967296).toNat+(lget v i % 4294967296).toNat):=by rw[k1]
     grind
   · have e5 : (p ++ u.drop i).length = u.length := by simp [hp]; omega
     have e6:(p++u.drop i)[i]?=some u[i]:=by rw[List.getElem?_append_right (by omega),hp,Nat.sub_self,List.getElem?_drop,Nat.add_zero];exact gE0 hi
     have c1:(i:Int)<(u.length:Int):=by omega
     have c2:(0:Int)<=(i:Int):=by omega
     have c3:(i:Int)<((p++u.drop i).length:Int):=by omega
     simp only[qdV,cnd c1,qnv,bS0,cnd2 c2 c3,tN0,e6,q1,q2,qfz,qpU,e4,qya _ hp hi,qbr (n:=i) (by omega)];rfl) (by
   rintro s ⟨p,c,rfl,hp,hpl,hc,hs⟩;rw[List.take_of_length_le hlv,List.take_length] at hs;exact⟨((p,()),()),⟨p,c,rfl,hp,hpl,hc,hs⟩,fun g=>by simp [qdV]⟩)
 refine⟨p,c,?_,hp,hpl,hc,hpn⟩;simp [qkP,hlp,hp]
section
variable {U V D B u2 ul two v1 v2 vl g r:Nat}
theorem qqO (hU:U=ul+D*(u2+B*two)) (hV:V=vl+D*(v2+B*v1)) (hvl:vl<D) (hv1:0<v1) (ht:g*v1+r=two) (hg:g<B) (hle:g*v2<=r*B+u2):g*V<U+V:=by
 have h1:U=ul+D*(u2+r*B)+D*B*(g*v1):=by rw[hU,<- ht];grind
 have h2:g*V=g*vl+D*(g*v2)+D*B*(g*v1):=by rw[hV];grind
 have h3:D*(g*v2)<=D*(u2+r*B):=Nat.mul_le_mul_left _ (by omega);have h4:g*vl<B*D:=Nat.mul_lt_mul'' hg hvl;have h5:D*(B*1)<=D*(v2+B*v1):=Nat.mul_le_mul_left _ (by have:=Nat.mul_le_mul_left B hv1;omega);have h6:D*(B*1)=B*D:=by rw[Nat.mul_one,Nat.mul_comm]
 omega
theorem qt8 (hU:U=ul+D*(u2+B*two)) (hV:V=vl+D*(v2+B*v1)) (hul:ul<D) (ht:g*v1+r=two) (hgt:r*B+u2<g*v2):U<g*V:=by
 have h1:U=ul+D*(u2+r*B)+D*B*(g*v1):=by rw[hU,<- ht];grind
 have h2:g*V=g*vl+D*(g*v2)+D*B*(g*v1):=by rw[hV];grind
 have h3:D*(u2+r*B+1)<=D*(g*v2):=Nat.mul_le_mul_left _ (by omega);have h4:D*(u2+r*B+1)=D*(u2+r*B)+D:=by rw[Nat.mul_add,Nat.mul_one]
 omega
theorem qr2 (hU:U=ul+D*(u2+B*two)) (hV:V=vl+D*(v2+B*v1)) (hul:ul<D) (hu2:u2<B) (ht:g*v1+r=two) (hr:r<v1):U<(g+1)*V:=by
 have h1:two+1<=(g+1)*v1:=by rw[Nat.add_mul];omega
 have h2:D*(u2+B*two+1)<=D*(B*(two+1)):=Nat.mul_le_mul_left _ (by rw[Nat.mul_add,Nat.mul_one];omega);have h3:D*(B*(two+1))<=D*(B*((g+1)*v1)):=Nat.mul_le_mul_left _ (Nat.mul_le_mul_left _ h1);have h4:(g+1)*V=(g+1)*vl+(g+1)*(D*v2)+D*(B*((g+1)*v1)):=by rw[hV];grind
 have h5:D*(u2+B*two+1)=D*(u2+B*two)+D:=by rw[Nat.mul_add,Nat.mul_one]
 omega
theorem qly (h2:two<=v1*B+(B-1)) (hB:0<B) (ht:g*v1+r=two) (hr:B<=r):g<B:=by
 rcases Nat.lt_or_ge g B with h | h
 · exact h
 · have := Nat.mul_le_mul_right v1 h;rw[Nat.mul_comm B] at this;omega
theorem qt7 (hg:g<B) (hv2:v2<B) (hr:B<=r):g*v2<=r*B+u2:=by
 have h1:g*v2<=B*B:=Nat.mul_le_mul (Nat.le_of_lt hg) (Nat.le_of_lt hv2);have h2:B*B<=r*B:=Nat.mul_le_mul_right _ hr;omega
theorem qxl {w:Nat} (hV:0<V) (hw:w+g*V=U) (h:U<(g+1)*V):U/V=g/\U % V=w:=by
 rw[Nat.add_mul,Nat.one_mul] at h;have h1:U/V=g:=by
  rw[Nat.div_eq_iff hV];omega
 have:=Nat.div_add_mod U V;rw[h1,Nat.mul_comm] at this;exact⟨h1,by omega⟩
theorem qt9 {w w' P c:Nat} (hV:0<V) (hw:w+g*V=U+P) (hwP:w<P) (h:g*V<U+V) (hc:c<=1) (hw':w'+P*c=w+V) (hwP':w'<P):0<g/\U/V=g-1/\U % V=w':=by
 have hg0:0<g:=by
  rcases Nat.eq_zero_or_pos g with h | h
  · subst h;omega
  · exact h
 have hgv2:g*V=(g-1)*V+V:=by
  conv=>lhs;rw[show g=(g-1)+1 by omega,Nat.add_mul,Nat.one_mul]
 have hc1:c=1:=by
  rcases Nat.eq_zero_or_pos c with h | h
  · subst h;omega
  · omega
 subst hc1;have h1:U/V=g-1:=by
  rw[Nat.div_eq_iff hV];omega
 have:=Nat.div_add_mod U V;rw[h1,Nat.mul_comm] at this;exact⟨hg0,h1,by omega⟩
end
theorem qw7 {u:List Int} {m:Nat} (hu:Lim u) (h:u.length=m+3) {x y z:Nat} (hx:u[m]?=some (x:Int)) (hy:u[m+1]?=some (y:Int)) (hz:u[m+2]?=some (z:Int)):nn u=nn (u.take m)+4294967296 ^ m*(x+4294967296*(z*4294967296+y)):=by
 have e1:=qdc hx;have e2:=qdc hy;have e3:=qdc hz;rw[List.take_of_length_le (by omega)] at e3;have bx:=hu.get hx;have by_:=hu.get hy;have bz:=hu.get hz;have k1:((x:Int) % 4294967296).toNat=x:=by omega
 have k2:((y:Int) % 4294967296).toNat=y:=by omega
 have k3:((z:Int) % 4294967296).toNat=z:=by omega
 rw[k1] at e1;rw[k2] at e2;rw[k3] at e3;rw[e3,e2,e1,Nat.pow_succ,Nat.pow_succ]
 grind
theorem qw8 {u:List Int} {m:Nat} (hu:Lim u) (h:u.length=m+2) {x y:Nat} (hx:u[m]?=some (x:Int)) (hy:u[m+1]?=some (y:Int)):nn u=nn (u.take m)+4294967296 ^ m*(x+4294967296*y):=by
 have e1:=qdc hx;have e2:=qdc hy;rw[List.take_of_length_le (by omega)] at e2;have bx:=hu.get hx;have by_:=hu.get hy;have k1:((x:Int) % 4294967296).toNat=x:=by omega
 have k2:((y:Int) % 4294967296).toNat=y:=by omega
 rw[k1] at e1;rw[k2] at e2;rw[e2,e1,Nat.pow_succ]
 grind
theorem qou {u:List Int} (hu:Lim u) {i:Nat} (h:i<u.length):∃ x:Nat,u[i]?=some (x:Int)/\x<4294967296:=by
 have b:=hu.at h;obtain⟨x,hx⟩:=Int.eq_ofNat_of_zero_le b.1;exact⟨x,by rw[gE0 h,hx],by omega⟩
theorem qui {u v:List Int} {m:Nat} (hu:Lim u) (hv:Lim v) (hul:u.length=m+3) (hvl:v.length=m+2) (hm:m<35184372088832)
  {x y z p q:Nat} (hx:u[m]?=some (x:Int)) (hy:u[m+1]?=some (y:Int)) (hz:u[m+2]?=some (z:Int)) (hp:v[m]?=some (p:Int)) (hq:v[m+1]?=some (q:Int))
  (hx':x<4294967296) (hy':y<4294967296) (hz':z<4294967296) (hp':p<4294967296) (hq':q<4294967296)
  (hn:4294967296<=2*q) (hlt:nn u<4294967296*nn v) :
  ∃ g:Nat,g<4294967296/\nn u<(g+1)*nn v/\g*nn v<nn u+nn v /\
    lp qbA K0 ((u,v,((m+2:Nat):Int),(((z*4294967296+y)/q:Nat):Int),(((z*4294967296+y) % q:Nat):Int),()),())=some ((u,v,(g:Int),()),()):=by
 have hU:=qw7 hu hul hx hy hz;have hV:=qw8 hv hvl hp hq;have hul':=qe1 (u.take m);have hvl':=qe1 (v.take m);rw[List.length_take,Nat.min_eq_left (by omega)] at hul' hvl';have hq0:0<q:=by omega
 have hzq:z<=q:=by
  rcases Nat.lt_or_ge q z with h | h
  · exfalso;have h1:4294967296 ^ m*(4294967296*((q+1)*4294967296))<=4294967296 ^ m*(x+4294967296*(z*4294967296+y)):=Nat.mul_le_mul_left _ (by omega);have h2:4294967296 ^ m*(p+4294967296*q+1)<=4294967296 ^ m*(4294967296*(q+1)):=Nat.mul_le_mul_left _ (by omega);have h3:4294967296 ^ m*(p+4294967296*q+1)=4294967296 ^ m*(p+4294967296*q)+4294967296 ^ m:=by rw[Nat.mul_add,Nat.mul_one]
    have h4:4294967296 ^ m*(4294967296*((q+1)*4294967296))=4294967296*(4294967296 ^ m*(4294967296*(q+1))):=by grind
    omega
  · exact h
 have htwo:z*4294967296+y<=q*4294967296+(4294967296-1):=by omega
 have hg0:(z*4294967296+y)/q<=4294967297:=by
  rw[Nat.div_le_iff_le_mul hq0];omega
 have hdm:=Nat.div_add_mod (z*4294967296+y) q;have hml:=Nat.mod_lt (z*4294967296+y) hq0;rw[Nat.mul_comm] at hdm;obtain⟨g0,hG0⟩:∃ t,t=(z*4294967296+y)/q:=⟨_,rfl⟩;obtain⟨r0,hR0⟩:∃ t,t=(z*4294967296+y) % q:=⟨_,rfl⟩;rw[<- hG0] at hg0 hdm ⊢;rw[<- hR0] at hml hdm ⊢;clear hG0 hR0;obtain⟨two,hTW⟩:∃ t,t=z*4294967296+y:=⟨_,rfl⟩;rw[<- hTW] at hU htwo hdm;have hfirst:nn u<(g0+1)*nn v:=qr2 hU hV hul' hx' hdm hml;obtain⟨r,⟨g,rfl,h1,h2,h3⟩,hlp⟩:=qpm (step:=qbA)
  (fun s=>∃ g r:Nat,s=((u,v,((m+2:Nat):Int),(g:Int),(r:Int),()),())/\g*q+r=two/\r<4294967296/\g<=4294967297/\nn u<(g+1)*nn v) (fun s=>s.1.2.2.2.1.toNat)
  (fun t=>∃ g:Nat,t=((u,v,(g:Int),()),())/\g<4294967296/\nn u<(g+1)*nn v/\g*nn v<nn u+nn v) (v:=((u,v,((m+2:Nat):Int),(g0:Int),(r0:Int),()),()))
  ⟨g0,r0,rfl,hdm,by omega,hg0,hfirst⟩ (by simp;omega) (by
    rintro s ⟨g,r,rfl,ht,hr,hg,hgu⟩;have i1:isub .i64 ((m+2:Nat):Int) 1=((m+1:Nat):Int):=by rw[qdF]<;>omega
    have i2:isub .i64 ((m+2:Nat):Int) 2=((m:Nat):Int):=by rw[qdF]<;>omega
    have i3:iadd .u64 (r:Int) (q:Int)=((r+q:Nat):Int):=by rw[qjW]<;>omega
    have c1:(0:Int)<=((m+1:Nat):Int):=by omega
    have c2:(0:Int)<=((m:Nat):Int):=by omega
    have c3:((m:Nat):Int)<(u.length:Int):=by omega
    have back:0<g->nn u<g*nn v->(∀ k,qbA k ((u,v,((m+2:Nat):Int),(g:Int),(r:Int),()),())=bif decide (((r+q:Nat):Int)>=4294967296) then some ((u,v,(((g-1:Nat)):Int),()),()) else k ((u,v,((m+2:Nat):Int),((g-1:Nat):Int),((r+q:Nat):Int),()),())) ->
        (∃ t,(∃ g:Nat,t=((u,v,(g:Int),()),())/\g<4294967296/\nn u<(g+1)*nn v/\g*nn v<nn u+nn v)/\∀ k,qbA k ((u,v,((m+2:Nat):Int),(g:Int),(r:Int),()),())=some t) \/
        ∃ s',(∃ g r:Nat,s'=((u,v,((m+2:Nat):Int),(g:Int),(r:Int),()),())/\g*q+r=two/\r<4294967296/\g<=4294967297/\nn u<(g+1)*nn v)/\s'.1.2.2.2.1.toNat<(g:Int).toNat/\∀ k,qbA k ((u,v,((m+2:Nat):Int),(g:Int),(r:Int),()),())=k s':=by
      intro hg1 hgu' hk;have ht':(g-1)*q+(r+q)=two:=by
        have:g*q=(g-1)*q+q:=by
          conv=>lhs;rw[show g=(g-1)+1 by omega,Nat.add_mul,Nat.one_mul]
        omega
      have hgg:nn u<(g-1+1)*nn v:=by rw[show g-1+1=g by omega];exact hgu'
      by_cases hb:4294967296<=r+q
      · refine .inl ⟨_, ⟨g - 1, rfl, ?_, hgg, ?_⟩, fun k => by rw [hk]; exact cnd (by omega)⟩
        · exact qly htwo (by decide) ht' hb
        · exact qqO hU hV hvl' hq0 ht' (qly htwo (by decide) ht' hb) (qt7 (qly htwo (by decide) ht' hb) hp' hb)
      · exact .inr ⟨_,⟨g-1,r+q,rfl,ht',by omega,by omega,hgg⟩,by show(((g-1:Nat)):Int).toNat<(g:Int).toNat;omega,fun k=>by rw[hk];exact cnd' (by omega)⟩
    by_cases hB:4294967296<=g
    · have i4 : isub .u64 (g : Int) 1 = ((g - 1 : Nat) : Int) := by rw [qkW] <;> omega
      refine back (by omega) ?_ ?_
      · exact Nat.lt_of_lt_of_le hlt (Nat.mul_le_mul_right _ hB)
      · intro k;have c4:(g:Int)>=4294967296:=by omega
        simp only[qbA,cnd c4,i1,cnd c1,tN0,hq,bS0,i3,i4]
    · have hgp : g * p <= 4294967295 * 4294967295 := Nat.mul_le_mul (by omega) (by omega);have i5:imul .u64 (g:Int) (p:Int)=((g*p:Nat):Int):=by rw[qvB]<;>rw[<- Int.natCast_mul]<;>omega
      have i6:ior .u64 (shlV .u64 (r:Int) 32) (x:Int)=((r*4294967296+x:Nat):Int):=by rw[quU (by omega) (by omega),qvy (by omega) (by omega) (by omega) (by omega)];omega
      have c4:¬ (g:Int)>=4294967296:=by omega
      by_cases hgt:r*4294967296+x<g*p
      · have hg1 : 0 < g := by
          rcases Nat.eq_zero_or_pos g with h | h
          · subst h;omega
          · exact h
        have i4:isub .u64 (g:Int) 1=((g-1:Nat):Int):=by rw[qkW]<;>omega
        refine back hg1 (qt8 hU hV hul' ht hgt) ?_;intro k;have c5:((g*p:Nat):Int)>((r*4294967296+x:Nat):Int):=by omega
        rw[qbA,cnd' c4,i2,cnd c2,tN0,hp,bS0,cnd2 c2 c3,hx,bS0,i5,i6,cnd c5,i1,cnd c1,tN0,hq,bS0,i3,i4]
      · have c5 : ¬ ((g * p : Nat) : Int) > ((r * 4294967296 + x : Nat) : Int) := by omega
        refine .inl ⟨_,⟨g,rfl,by omega,hgu,qqO hU hV hvl' hq0 ht (by omega) (by omega)⟩,fun k=>?_⟩;rw[qbA,cnd' c4,i2,cnd c2,tN0,hp,bS0,cnd2 c2 c3,hx,bS0,i5,i6,cnd' c5])
 exact⟨g,h1,h2,h3,hlp⟩
theorem qxE {u v:List Int} {m:Nat} (hu:Lim u) (hv:Lim v) (hul:u.length=m+3) (hvl:v.length=m+2) (hm:m<17592186044416)
   {q:Nat} (hq:v[m+1]?=some (q:Int)) (hn:4294967296<=2*q) (hlt:nn u<4294967296*nn v) :
   ∃ w:List Int,qhP u v=some (w,((nn u/nn v:Nat):Int))/\w.length=u.length/\Lim w/\nn w=nn u % nn v:=by
 obtain⟨x,hx,hx'⟩:=qou hu (i:=m) (by omega);obtain⟨y,hy,hy'⟩:=qou hu (i:=m+1) (by omega);obtain⟨z,hz,hz'⟩:=qou hu (i:=m+2) (by omega);obtain⟨p,hp,hp'⟩:=qou hv (i:=m) (by omega);have hq':q<4294967296:=by have:=hv.get hq;omega
 obtain⟨g,hg,hg1,hg2,hlp⟩:=qui hu hv hul hvl (by omega) hx hy hz hp hq hx' hy' hz' hp' hq' hn hlt;obtain⟨w,d,htk,hw,hwl,hd,hwn⟩:=qyF hu hv (by omega) (by omega) hg;have hV0:0<nn v:=by
   rcases Nat.eq_zero_or_pos (nn v) with h | h
   · rw[h] at hlt;omega
   · exact h
 have hwlt:=qe1 w;rw[hw] at hwlt;have e0:((v.length:Nat):Int)=((m+2:Nat):Int):=by omega
 have e1:isub .i64 ((m+2:Nat):Int) 1=((m+1:Nat):Int):=by rw[qdF]<;>omega
 have c1:(0:Int)<=((m+2:Nat):Int):=by omega
 have c2:((m+2:Nat):Int)<((u.length:Nat):Int):=by omega
 have c3:(0:Int)<=((m+1:Nat):Int):=by omega
 have c4:((m+1:Nat):Int)<((u.length:Nat):Int):=by omega
 have c5:¬ (q:Int)=0:=by omega
 have i6:ior .u64 (shlV .u64 (z:Int) 32) (y:Int)=((z*4294967296+y:Nat):Int):=by rw[quU (by omega) (by omega),qvy (by omega) (by omega) (by omega) (by omega)];omega
 have i7:iquo .u64 ((z*4294967296+y:Nat):Int) (q:Int)=(((z*4294967296+y)/q:Nat):Int):=by rw[qyg (by omega) (by omega) (by omega)];exact(Int.natCast_ediv _ _).symm
 have i8:irem ((z*4294967296+y:Nat):Int) (q:Int)=(((z*4294967296+y) % q:Nat):Int):=by rw[qqP (by omega)];exact(Int.natCast_emod _ _).symm
 have ov:over u 0 w=w:=qjC hw;by_cases hd0:d=0
 · subst hd0;obtain⟨hq2,hr2⟩:=qxl hV0 (by simpa using hwn) hg1;refine⟨w,?_,hw,hwl,hr2.symm⟩;rw[qhP,e0,e1,cnd2 c1 c2,tN0,hz,bS0,cnd2 c3 c4,tN0,hy,bS0,cnd c3,hq,bS0,cnd' c5,cnd c3,bS0,cnd' c5,i6,i7,i8,hlp,bS0,htk,bS0,hq2];simp [hw,ov]
 · have hd1 : d = 1 := by omega
   subst hd1;obtain⟨w',c,hgv,hw',hwl',hc,hwn'⟩:=qzn hwl hv (by omega) (by omega);rw[hw] at hwn' hw';have hw'lt:=qe1 w';rw[hw'] at hw'lt;obtain⟨hg0,hq2,hr2⟩:=qt9 hV0 (by simpa using hwn) hwlt hg2 hc hwn' hw'lt;refine⟨w',?_,hw',hwl',hr2.symm⟩;have i9:isub .u64 (g:Int) 1=((g-1:Nat):Int):=by rw[qkW]<;>omega
   have ov2:over w 0 w'=w':=qjC (by omega);rw[qhP,e0,e1,cnd2 c1 c2,tN0,hz,bS0,cnd2 c3 c4,tN0,hy,bS0,cnd c3,hq,bS0,cnd' c5,cnd c3,bS0,cnd' c5,i6,i7,i8,hlp,bS0,htk,bS0,hq2,ov];simp [hgv,ov2,hw',i9]
theorem qa4 {n m:Nat} (h:n<=m):(qaa n).length<=(qaa m).length:=by
 rcases Nat.lt_or_ge (qaa m).length (qaa n).length with h1 | h1
 · have:=qnx h1;omega
 · exact h1
theorem qi4 (a:List Int):nn (a++[0,0])=nn a:=by rw[qbJ];simp [nn]
theorem qwL {n s x D:Nat} {t:Nat} (hn:n=t+D*x) (ht:t<D) (hx:x*2 ^ s<4294967296) (hx1:(x+1)*2 ^ s<=4294967296) (hx2:2147483648<=x*2 ^ s):n*2 ^ s<D*4294967296/\D*2147483648<=n*2 ^ s:=by
 generalize 2 ^ s=P at *;subst hn;constructor
 · have h1 : (t + D * x) + 1 <= D * (x + 1) := by rw [Nat.mul_add, Nat.mul_one]; omega
   have hP:0<P:=by
    rcases Nat.eq_zero_or_pos P with h | h
    · subst h;omega
    · exact h
   have h2:=Nat.mul_le_mul_right P h1;have h3:D*((x+1)*P)<=D*4294967296:=Nat.mul_le_mul_left _ hx1;rw[Nat.mul_assoc] at h2;rw[Nat.add_mul,Nat.one_mul] at h2;omega
 · have h1 : D * 2147483648 <= D * (x * P) := Nat.mul_le_mul_left _ hx2;have h2:(t+D*x)*P=t*P+D*(x*P):=by rw[Nat.add_mul,Nat.mul_assoc]
   omega
theorem qvs {x:Nat} (h:x≠0) (hx:x<4294967296):∃ k,lenN x=k/\0<k/\k<=32/\x*2 ^ (32-k)<4294967296/\(x+1)*2 ^ (32-k)<=4294967296/\2147483648<=x*2 ^ (32-k):=by
 have h1:=Nat.log2_self_le h;have h2:x<2 ^ (x.log2+1):=Nat.lt_log2_self;have h3:x.log2<32:=(Nat.log2_lt h).2 hx;refine⟨x.log2+1,by simp [lenN,h],by omega,by omega,?_⟩;generalize x.log2=l at *;have p1:2 ^ (l+1)*2 ^ (32-(l+1))=4294967296:=by rw[<- Nat.pow_add,show l+1+(32-(l+1))=32 by omega]
 have p2:2 ^ l*2 ^ (32-(l+1))=2147483648:=by rw[<- Nat.pow_add,show l+(32-(l+1))=31 by omega]
 have hP:0<2 ^ (32-(l+1)):=Nat.pow_pos (by decide);generalize 2 ^ (32-(l+1))=P at *;generalize 2 ^ (l+1)=Q at *;generalize 2 ^ l=R at *;have a1:(x+1)*P<=Q*P:=Nat.mul_le_mul_right _ h2;have a2:R*P<=x*P:=Nat.mul_le_mul_right _ h1;rw[Nat.add_mul,Nat.one_mul] at a1;refine⟨by omega,?_,by omega⟩;rw[Nat.add_mul,Nat.one_mul];omega
theorem qlQ {x:Nat} (h:x≠0) (hx:x<4294967296):∃ s:Nat,qcu (x:Int)=some (s:Int)/\s<32/\x*2 ^ s<4294967296/\(x+1)*2 ^ s<=4294967296/\2147483648<=x*2 ^ s:=by
 obtain⟨k,h1,h2,h3,h4⟩:=qvs h hx;refine⟨32-k,?_,by omega,h4⟩;have e:qt6 (x:Int)=some (k:Int):=by
  rw[qt6,cnd2 (by omega) (by omega),tN0,h1]
 have e2:isub .i64 32 (k:Int)=((32-k:Nat):Int):=by rw[qdF]<;>omega
 rw[qcu,e,bS0,e2]
theorem qvn {A' U U' V q w T E Q:Nat} (hA:A'=U+V*(E*4294967296*Q)) (hU:U=T+E*(V*q+w)) (hU':U'=T+E*w):A'=U'+V*(E*(q+4294967296*Q)):=by
 subst hU hU';rw[hA];grind
theorem qzs {u:List Int} {j V:Nat} (hu:Lim u) (hj:j<u.length) (h:nn (u.drop (j+1))<V):nn (u.drop j)<4294967296*V:=by
 rw[qvj u hj];have h1:4294967296*(nn (u.drop (j+1))+1)<=4294967296*V:=Nat.mul_le_mul_left _ h;omega
theorem qi3 (u:List Int) {j:Nat} (hj:j<=u.length):nn u=nn (u.take j)+4294967296 ^ j*nn (u.drop j):=by
 conv=>lhs;rw[<- List.take_append_drop j u]
 rw[qbJ,List.length_take,Nat.min_eq_left hj]
theorem qvo {v u0:List Int} {s:Int} {m k:Nat} (hv:Lim v) (hvl:v.length=m+2) (hm:m<17592186044416) (hk:k+m+2<17592186044416) {q:Nat} (hq:v[m+1]?=some (q:Int)) (hn:4294967296<=2*q)
  (hu:Lim u0) (hul:u0.length=k+(m+2)) (hlt:nn (u0.drop k)<nn v) :
  ∃ (u qs:List Int),lp qdl K0 ((s,v,u0,((m+2:Nat):Int),List.replicate k 0,(k:Int)-1,()),())=some ((s,u,qs,()),())/\Lim u/\Lim qs/\u.length=u0.length/\qs.length=k/\nn u<nn v/\nn u0=nn u+nn v*nn qs:=by
 have hVB:=qe1 v;obtain⟨r,⟨u,qs,rfl,h1,h2,h3,h4,h5,h6⟩,hlp⟩:=qpm (step:=qdl)
  (fun t=>∃ (j:Nat) (u qs:List Int),t=((s,v,u,((m+2:Nat):Int),List.replicate j 0++qs,(j:Int)-1,()),())/\Lim u/\Lim qs/\u.length=u0.length/\j+qs.length=k/\nn (u.drop j)<nn v/\nn u0=nn u+nn v*(4294967296 ^ j*nn qs))
  (fun t=>(t.1.2.2.2.2.2.1+1).toNat)
  (fun r=>∃ (u qs:List Int),r=((s,u,qs,()),())/\Lim u/\Lim qs/\u.length=u0.length/\qs.length=k/\nn u<nn v/\nn u0=nn u+nn v*nn qs) (v:=((s,v,u0,((m+2:Nat):Int),List.replicate k 0,(k:Int)-1,()),()))
  ⟨k, u0, [], by simp, hu, Lim.nil, rfl, by simp, hlt, by simp⟩ (by simp; omega) (by
   rintro t ⟨j,u,qs,rfl,hul',hqs,hll,hjk,hdl,hval⟩;cases j with
   | zero =>
    refine .inl ⟨((s,u,qs,()),()),⟨u,qs,rfl,hul',hqs,hll,by omega,by simpa using hdl,by simpa using hval⟩,fun g=>by simp [qdl]⟩
   | succ j =>
    have hju:j<u.length:=by omega
    have hd1:=qzs hul' hju hdl;have hsl:((u.drop j).take (m+3)).length=m+3:=by simp;omega
    have hB:4294967296*nn v<4294967296 ^ (m+3):=by
      rw[hvl] at hVB;rw[show m+3=(m+2)+1 from rfl,Nat.pow_succ,Nat.mul_comm (4294967296 ^ (m+2))];exact Nat.mul_lt_mul_of_pos_left hVB (by decide)
    have hns:nn ((u.drop j).take (m+3))=nn (u.drop j):=qij (Nat.lt_trans hd1 hB);have hz:nn ((u.drop j).drop (m+3))=0:=by
      have:=qi3 (u.drop j) (j:=m+3) (by simp;omega);rw[hns] at this;have h0:4294967296 ^ (m+3)*nn ((u.drop j).drop (m+3))=0:=by omega
      rcases Nat.mul_eq_zero.1 h0 with h | h
      · have:=Nat.pow_pos (n:=m+3) (show 0<4294967296 by decide);omega
      · exact h
    obtain⟨w,hdg,hwl,hwlim,hwv⟩:=qxE (u:=(u.drop j).take (m+3)) ((hul'.drop j).take _) hv hsl hvl hm hq hn (by rw[hns];exact hd1);rw[hns] at hdg hwv;rw[hsl] at hwl;have hV0:0<nn v:=by omega
    have hqd:nn (u.drop j)/nn v<4294967296:=by rw[Nat.div_lt_iff_lt_mul hV0];exact hd1
    have hov:over u j w=u.take j++(w++(u.drop j).drop (m+3)):=by simp [over,hwl,List.drop_drop]
    have htl:(u.take j).length=j:=by simp;omega
    have hv':nn (over u j w)=nn (u.take j)+4294967296 ^ j*nn w:=by rw[hov,qbJ,qbJ,hz,htl];simp
    have hdm:=Nat.div_add_mod (nn (u.drop j)) (nn v);have hml:=Nat.mod_lt (nn (u.drop j)) hV0;have hstep:=qi3 u (j:=j) (by omega);rw[<- hwv] at hdm hml;rw[<- hdm] at hstep;have hlim':Lim (over u j w):=by rw[hov];exact(hul'.take j).append (hwlim.append ((hul'.drop j).drop _))
    have hlen':(over u j w).length=u0.length:=by rw[hov];simp [hwl];omega
    have hdrop':nn ((over u j w).drop j)<nn v:=by
      rw[hov,List.drop_append,htl,Nat.sub_self,List.drop_zero,List.drop_eq_nil_of_le (by omega),List.nil_append,qbJ,hz];simpa using hml
    generalize nn (u.drop j)/nn v=qd at *;refine .inr ⟨((s,v,over u j w,((m+2:Nat):Int),List.replicate j 0++(qd:Int)::qs,(j:Int)-1,()),()),⟨j,_,_,rfl,hlim',Lim.cons (by omega) hqs,hlen',by simp;omega,hdrop',?_⟩,by simp,fun g=>?_⟩
    · rw [nn];have:((qd:Int) % 4294967296).toNat=qd:=by omega
      rw[this];rw[Nat.pow_succ] at hval;exact qvn hval hstep hv'
    · have e0 : ((j + 1 : Nat) : Int) - 1 = (j : Int) := by omega
      have e1:iadd .i64 (iadd .i64 (j:Int) ((m+2:Nat):Int)) 1=((j+m+3:Nat):Int):=by
        have:iadd .i64 (j:Int) ((m+2:Nat):Int)=((j+m+2:Nat):Int):=by rw[qg6]<;>omega
        rw[this,qbr (by omega)];omega
      have e2:((((j+m+3:Nat):Int)-(j:Int)).toNat)=m+3:=by omega
      have e3:isub .i64 (j:Int) 1=(j:Int)-1:=by rw[qdF]<;>omega
      have e5:(List.replicate (j+1) (0:Int)++qs).set j (qd:Int)=List.replicate j 0++(qd:Int)::qs:=by
        rw[List.replicate_succ',List.append_assoc,List.set_append_right _ _ (by simp)];simp
      have e6:j<(List.replicate (j+1) (0:Int)++qs).length:=by simp;omega
      have c1:(j:Int)>=0:=by omega
      have c2:(0:Int)<=(j:Int)/\(j:Int)<=((j+m+3:Nat):Int)/\((j+m+3:Nat):Int)<=((u.length:Nat):Int):=by omega
      have c3:(j:Int)<((List.replicate (j+1) (0:Int)++qs).length:Int):=by omega
      have c4:(decide ((0:Int)<=(j:Int))&&decide ((j:Int)<=((j+m+3:Nat):Int))&&decide (((j+m+3:Nat):Int)<=((j+m+3:Nat):Int))&&decide (((j+m+3:Nat):Int)<=((u.length:Nat):Int)))=true:=by
        rw[decide_eq_true c2.1,decide_eq_true c2.2.1,decide_eq_true c2.2.2,decide_eq_true (Int.le_refl _)];rfl
      rw[e0,qdl,cnd c1,e1,c4,e2,tN0,hdg,cond_true,bS0,cnd2 c2.1 c3,gE0 e6,bS0,e5,e3])
 exact⟨u,qs,hlp,h1,h2,h3,h4,h5,h6⟩
theorem qy8 {A D:Nat} (hla:(qaa A).length<4398046511104) (hD:2<=(qaa D).length) (hDA:D<=A):qkO (qaa A) (qaa D)=some (qaa (A/D),qaa (A % D)):=by
 have hlb:=qa4 hDA;have la:=qaO A;have lb:=qaO D;have ea:=q9q A;have eb:=q9q D;have cb:=qr1 D;obtain⟨m,hm⟩:∃ m,(qaa D).length=m+2:=⟨(qaa D).length-2,by omega⟩;obtain⟨x,hx,hx32⟩:=qou lb (i:=m+1) (by omega);have hx0:x≠0:=by
  have:=cb.2 (x:Int) (by rw[List.getLast?_eq_getElem?,hm];exact hx);omega
 obtain⟨s,hs,hs32,t1,t2,t3⟩:=qlQ hx0 hx32;have hsplit:=qdc hx;rw[List.take_of_length_le (by omega),eb] at hsplit;have hxx:((x:Int) % 4294967296).toNat=x:=by omega
 rw[hxx] at hsplit;have htk:=qe1 ((qaa D).take (m+1));rw[List.length_take,Nat.min_eq_left (by omega)] at htk;obtain⟨u1,u2⟩:=qwL hsplit htk t1 t2 t3;have u1':D*2 ^ s<4294967296 ^ (m+2):=by rw[Nat.pow_succ];exact u1
 have hshl1:=qsG (n:=s) lb (by omega) (by omega);have hshl2:=qsG (n:=s) la (by omega) (by omega);rw[eb] at hshl1;rw[ea] at hshl2;have hp0:0<2 ^ s:=Nat.pow_pos (by decide);have hvl:(qaa (D*2 ^ s)).length=m+2:=by
  have h1:=qcf u1';have h2:(qaa D).length<=(qaa (D*2 ^ s)).length:=qa4 (Nat.le_mul_of_pos_right _ hp0);omega
 have hv:=qaO (D*2 ^ s);have hnv:=q9q (D*2 ^ s);obtain⟨q,hq,hq32⟩:=qou hv (i:=m+1) (by omega);have hqn:4294967296<=2*q:=by
  have h1:=qdc hq;rw[List.take_of_length_le (by omega),hnv] at h1;have hqq:((q:Int) % 4294967296).toNat=q:=by omega
  rw[hqq] at h1;have h2:=qe1 ((qaa (D*2 ^ s)).take (m+1));rw[List.length_take,Nat.min_eq_left (by omega)] at h2;rcases Nat.lt_or_ge (2*q) 4294967296 with h | h
  · exfalso;have h3:4294967296 ^ (m+1)*(q+1)<=4294967296 ^ (m+1)*2147483648:=Nat.mul_le_mul_left _ (by omega);rw[Nat.mul_add,Nat.mul_one] at h3;omega
  · exact h
 have hr4:(qaa A).length<=(qaa (A*2 ^ s)).length:=qa4 (Nat.le_mul_of_pos_right _ hp0);have hAlt:A*2 ^ s<4294967296 ^ ((qaa A).length)*2 ^ s:=by
  have:=qe1 (qaa A);rw[ea] at this;exact Nat.mul_lt_mul_of_pos_right this hp0
 have hs2:2 ^ s<=4294967296:=by
  have:2 ^ s<=2 ^ 32:=Nat.pow_le_pow_right (by decide) (by omega);exact this
 have hA1:A*2 ^ s<4294967296 ^ ((qaa A).length+1):=by
  rw[Nat.pow_succ];exact Nat.lt_of_lt_of_le hAlt (Nat.mul_le_mul_left _ hs2)
 have hr4':(qaa (A*2 ^ s)).length<=(qaa A).length+1:=qcf hA1;have hnu:nn ((qaa (A*2 ^ s)++[0,0]).take ((qaa A).length+1))=A*2 ^ s:=by
  rw[qij (by rw[qi4,q9q];exact hA1),qi4,q9q]
 have hul:((qaa (A*2 ^ s)++[0,0]).take ((qaa A).length+1)).length=(qaa A).length+1:=by simp;omega
 have hulim:Lim ((qaa (A*2 ^ s)++[0,0]).take ((qaa A).length+1)):=Lim.take (Lim.append (qaO _) (Lim.cons (by omega) (Lim.cons (by omega) Lim.nil))) _;obtain⟨k,hk⟩:∃ k,(qaa A).length+1=k+(m+2):=⟨(qaa A).length+1-(m+2),by omega⟩;have hdrop:nn (((qaa (A*2 ^ s)++[0,0]).take ((qaa A).length+1)).drop k)<nn (qaa (D*2 ^ s)):=by
  have h1:=qi3 ((qaa (A*2 ^ s)++[0,0]).take ((qaa A).length+1)) (j:=k) (by omega);rw[hnu] at h1;rw[hnv];have h2:D*2 ^ s>=4294967296 ^ (m+1)*2 ^ s:=by
    have:4294967296 ^ (m+1)<=D:=by
     rw[hsplit];have:4294967296 ^ (m+1)*1<=4294967296 ^ (m+1)*x:=Nat.mul_le_mul_left _ (by omega);omega
    exact Nat.mul_le_mul_right _ this
  have h3:4294967296 ^ (qaa A).length=4294967296 ^ k*4294967296 ^ (m+1):=by rw[<- Nat.pow_add,show(qaa A).length=k+(m+1) by omega]
  rw[h3,Nat.mul_assoc] at hAlt;generalize nn (((qaa (A*2 ^ s)++[0,0]).take ((qaa A).length+1)).drop k)=Y at *;have h4:4294967296 ^ k*Y<4294967296 ^ k*(4294967296 ^ (m+1)*2 ^ s):=by
    have:4294967296 ^ k*Y<=A*2 ^ s:=by rw[h1];exact Nat.le_add_left _ _
    exact Nat.lt_of_le_of_lt this hAlt
  exact Nat.lt_of_lt_of_le (Nat.lt_of_mul_lt_mul_left h4) h2
 obtain⟨u,qs,hlp,r1,r2,r3,r4,r5,r6⟩:=qvo (s:=(s:Int)) (k:=k) hv hvl (by omega) (by omega) hq hqn hulim (by rw[hul,hk]) hdrop;rw[hnu,hnv] at r6;rw[hnv] at r5;have hV0:0<D*2 ^ s:=Nat.lt_of_le_of_lt (Nat.zero_le _) r5;have d1:A/D=nn qs:=by
  have:A*2 ^ s/(D*2 ^ s)=nn qs:=by rw[r6,Nat.add_mul_div_left _ _ hV0,Nat.div_eq_of_lt r5,Nat.zero_add]
  rwa [Nat.mul_div_mul_right _ _ hp0] at this
 have d2:A % D*2 ^ s=nn u:=by
  have:A*2 ^ s % (D*2 ^ s)=nn u:=by rw[r6,Nat.add_mul_mod_self_left,Nat.mod_eq_of_lt r5]
  rwa [Nat.mul_mod_mul_right] at this
 have i1:isub .i64 ((qaa D).length:Int) 1=((m+1:Nat):Int):=by rw[qdF]<;>omega
 have i2:IntKind.wrap .u32 (x:Int)=(x:Int):=by rw[qwD];omega
 have i3:iadd .i64 ((qaa A).length:Int) 1=(((qaa A).length+1:Nat):Int):=by rw[qg6]<;>omega
 have i4:(((((qaa A).length+1:Nat):Int)-0).toNat:Nat)=(qaa A).length+1:=by omega
 have i5:isub .i64 (((qaa A).length+1:Nat):Int) ((qaa (D*2 ^ s)).length:Int)=(k:Int):=by rw[qdF]<;>omega
 have i6:isub .i64 ((k:Nat):Int) 1=(k:Int)-1:=by rw[qdF]<;>omega
 have i7:((qaa (D*2 ^ s)).length:Int)=((m+2:Nat):Int):=by omega
 have c1:(0:Int)<=((m+1:Nat):Int):=by omega
 have c2:(Nat.ble (((qaa (A*2 ^ s)).length+2)*8) 140737488355328&&!false)=true:=by
  have:((qaa (A*2 ^ s)).length+2)*8<=140737488355328:=by omega
  simp [this]
 have c3:(decide ((0:Int)<=(((qaa A).length+1:Nat):Int))&&decide ((((qaa A).length+1:Nat):Int)<=(((qaa A).length+1:Nat):Int))&&decide ((((qaa A).length+1:Nat):Int)<=((qaa (A*2 ^ s)++([0,0]:List Int)).length:Int)))=true:=by
  have h1:(0:Int)<=(((qaa A).length+1:Nat):Int):=by omega
  have h2:(((qaa A).length+1:Nat):Int)<=((qaa (A*2 ^ s)++([0,0]:List Int)).length:Int):=by simp only[List.length_append,List.length_cons,List.length_nil];omega
  rw[decide_eq_true h1,decide_eq_true h2,decide_eq_true (Int.le_refl _)];rfl
 have c4:(decide ((k:Int)=(k:Int))&&decide (0<=(k:Int))&&decide (((8:Nat):Int)*(k:Int)<=281474976710656)&&decide ((k:Int)<=9223372036854775807))=true:=by
  have h1:(0:Int)<=(k:Int):=by omega
  have h2:((8:Nat):Int)*(k:Int)<=281474976710656:=by omega
  have h3:(k:Int)<=9223372036854775807:=by omega
  rw[decide_eq_true h1,decide_eq_true h2,decide_eq_true h3,decide_eq_true rfl];rfl
 have hshr:=qpT (n:=s) (qaO (nn u)) (by have:=qau u;omega) (by omega);rw[q9q,<- d2,Nat.mul_div_cancel _ hp0] at hshr;have hlen:(List.replicate k (0:Int)).length=k:=by simp
 rw[qkO,i1,cnd c1,tN0,hx,bS0,i2,hs,bS0,hshl1,bS0,hshl2,bS0,c2,cond_true,i3,c3,cond_true,i4,i5,c4,cond_true,tN0,hlen,i6,i7,hlp,bS0,qg7 r2 (by omega),bS0,qg7 r1 (by omega),bS0,<- d2,hshr,bS0,d1]
theorem qnO {a b:List Int} (ha:a.length<4398046511104) (hb:b.length<4398046511104) (h0:nn b≠0):qd4 a b=some (qaa (nn a/nn b),qaa (nn a % nn b),0):=by
 have h1:=qau a;have h2:=qau b;have hne:qaa (nn b)≠[]:=fun h=>h0 (qeT.1 h)
 have hlen:¬ ((qaa (nn b)).length:Int)=0:=by
   intro h;apply hne;apply List.eq_nil_of_length_eq_zero;omega
 rw[qd4,qdn (by omega),bS0,qdn (by omega),bS0,cnd' hlen,qmB (by omega),bS0];by_cases hlt:nn a<nn b
 · have c1 : ncmp (nn a) (nn b) < 0 := by simp [ncmp, hlt]
   rw[cnd c1,Nat.div_eq_of_lt hlt,Nat.mod_eq_of_lt hlt,qaX]
 · have c1 : ¬ ncmp (nn a) (nn b) < 0 := by unfold ncmp; rw [if_neg hlt]; split <;> omega
   rw[cnd' c1];by_cases h3:(qaa (nn b)).length=1
   · have hb32 : nn b < 4294967296 := by
      have:=qe1 (qaa (nn b));rw[q9q,h3] at this;simpa using this
     have hsm:=qwN (qaO (nn a)) (by omega) (Nat.pos_of_ne_zero h0) hb32;rw[q9q] at hsm;have hml:=Nat.mod_lt (nn a) (Nat.pos_of_ne_zero h0);rw[qeA h0 hb32];rw[<- qeA h0 hb32,h3,cnd (by omega),cnd (by omega),qeA h0 hb32,List.getElem?_cons_zero,bS0,hsm,bS0,qsp (show nn a % nn b<18446744073709551616 by omega)];rfl
   · have c2 : ¬ ((qaa (nn b)).length : Int) = 1 := by omega
     have hlen2:2<=(qaa (nn b)).length:=by omega
     rw[cnd' c2,qy8 (by omega) hlen2 (by omega)];rfl
theorem qyN {a b:List Int} (ha:a.length<4398046511104) (hb:b.length<4398046511104) (h0:nn b≠0):qg4 a b=some (qaa (nn a/nn b),qaa (nn a % nn b)):=by
 rw[qg4,qnO ha hb h0];rfl
theorem qrG {z s:Nat} (h:s % 2=1):Nat.Coprime (2 ^ z) s:=by
 apply Nat.Coprime.pow_left;show Nat.gcd 2 s=1;rw[Nat.gcd_rec,h];decide
theorem qps {z m s:Nat} (h:s % 2=1):Nat.gcd (2 ^ z*m) s=Nat.gcd m s:=Nat.Coprime.gcd_mul_left_cancel m (qrG h)
theorem qvJ {z m s:Nat} (h:s % 2=1):Nat.gcd s (2 ^ z*m)=Nat.gcd s m:=by rw[Nat.gcd_comm,qps h,Nat.gcd_comm]
theorem qzp {x y p q:Nat} (hp:p % 2=1) (hq:q % 2=1):Nat.gcd (2 ^ x*p) (2 ^ y*q)=Nat.gcd p q*2 ^ min x y:=by
 rcases Nat.le_total x y with h | h
 · have e : 2 ^ y * q = 2 ^ x * (2 ^ (y - x) * q) := by rw [<- Nat.mul_assoc, <- Nat.pow_add]; congr 2; omega
   rw[e,Nat.gcd_mul_left,qvJ hp,Nat.min_eq_left h,Nat.mul_comm]
 · have e : 2 ^ x * p = 2 ^ y * (2 ^ (x - y) * p) := by rw [<- Nat.mul_assoc, <- Nat.pow_add]; congr 2; omega
   rw[e,Nat.gcd_mul_left,qps hq,Nat.min_eq_right h,Nat.mul_comm]
theorem qqM {m n:Nat} (hm:m≠0) (h:2*m<=n):m.log2<n.log2:=by
 have h1:=Nat.log2_self_le hm;have h2:2 ^ (m.log2+1)<=n:=by rw[Nat.pow_succ];omega
 exact(Nat.le_log2 (by omega)).2 h2
theorem qqU {b s t z m:Nat} (hb:b % 2=1) (hs:s % 2=1) (hlt:s<b) (ht:t=b-s\/(t=b % s/\2*s<=b)) (ht0:t≠0) (hz:t=2 ^ z*m) (hm:m % 2=1) :
   Nat.gcd m s=Nat.gcd b s/\2*m<=b/\m≠0:=by
 have hm0:m≠0:=by omega
 have e:=qps (z:=z) (m:=m) hs;rw[<- hz] at e;have hp:2 ^ z*m>=1*m:=Nat.mul_le_mul_right _ (Nat.pow_pos (by decide));rcases ht with h | ⟨h,h2⟩
 · refine ⟨?_, ?_, hm0⟩
   · rw[<- e,h,Nat.gcd_sub_self_left (by omega)]
   · cases z with
     | zero=>simp at hz;omega
     | succ z =>
      have:2 ^ (z+1)*m=2*(2 ^ z*m):=by rw[Nat.pow_succ,Nat.mul_comm (2 ^ z),Nat.mul_assoc]
      have hp:2 ^ z*m>=1*m:=Nat.mul_le_mul_right _ (Nat.pow_pos (by decide));omega
 · have := Nat.mod_lt b (show 0 < s by omega);refine⟨?_,by omega,hm0⟩;rw[<- e,h,<- Nat.gcd_rec,Nat.gcd_comm]
theorem qzc {s b:Nat} (h:(qaa s).length+1<(qaa b).length):2*s<=b:=by
 have h1:=qe1 (qaa s);rw[q9q] at h1;rcases Nat.lt_or_ge b (4294967296 ^ ((qaa s).length+1)) with h2 | h2
 · have:=qcf h2;omega
 · rw [Nat.pow_succ] at h2;omega
theorem qtj {R:Type} {p q:Nat} {L:Nat} (hp:p % 2=1) (hq:q % 2=1) (hlt:q<p) (hL:(qaa p).length<=L) (hL2:L<4398046511104) (x y:Nat) (hx:x<32*L) (hy:y<32*L) :
   (∀ k1 k2:List Int->Option R,(bif (decide (((qaa p).length:Int)>(iadd .i64 ((qaa q).length:Int) 1))) then ((qg4 (qaa p) (qaa q)).bind fun r10=>bif (decide ((r10.2.length:Int)=0)) then ((qgJ (qaa q) (mn (x:Int) (y:Int))).bind fun r11=>k1 r11) else ((qbU r10.2).bind fun r12=>(qdk r10.2 r12).bind fun r13=>k2 r13)) else ((qe2 (qaa p) (qaa q)).bind fun r14=>(qbU r14).bind fun r15=>(qdk r14 r15).bind fun r16=>k2 r16))=k1 (qaa (Nat.gcd p q*2 ^ min x y))) \/
   (∃ m:Nat,m % 2=1/\Nat.gcd m q=Nat.gcd p q/\m.log2<p.log2/\m<=p/\∀ k1 k2:List Int->Option R,(bif (decide (((qaa p).length:Int)>(iadd .i64 ((qaa q).length:Int) 1))) then ((qg4 (qaa p) (qaa q)).bind fun r10=>bif (decide ((r10.2.length:Int)=0)) then ((qgJ (qaa q) (mn (x:Int) (y:Int))).bind fun r11=>k1 r11) else ((qbU r10.2).bind fun r12=>(qdk r10.2 r12).bind fun r13=>k2 r13)) else ((qe2 (qaa p) (qaa q)).bind fun r14=>(qbU r14).bind fun r15=>(qdk r14 r15).bind fun r16=>k2 r16))=k2 (qaa m)):=by
 have hlq:=qa4 (Nat.le_of_lt hlt);have i1:iadd .i64 ((qaa q).length:Int) 1=(((qaa q).length+1:Nat):Int):=by rw[qg6]<;>omega
 rw[i1];by_cases hg:(qaa q).length+1<(qaa p).length
 · have c1 : ((qaa p).length : Int) > (((qaa q).length + 1 : Nat) : Int) := by omega
   have hr:=qyN (a:=qaa p) (b:=qaa q) (by omega) (by omega) (by rw[q9q];omega);rw[q9q,q9q] at hr;simp only[cnd c1,hr,bS0];by_cases h0:p % q=0
   · left
     have hs:=qsG (n:=min x y) (qaO q) (by omega) (by omega);rw[q9q] at hs;have em:mn (x:Int) (y:Int)=((min x y:Nat):Int):=by unfold mn;split<;>omega
     have eg:Nat.gcd p q=q:=by rw[Nat.gcd_comm,Nat.gcd_rec,h0,Nat.gcd_zero_left]
     intro k1 k2;rw[cnd (by rw[h0,qaX];rfl),em,hs,bS0,eg]
   · right
     have hne:qaa (p % q)≠[]:=fun h=>h0 (qeT.1 h)
     have c2:¬ ((qaa (p % q)).length:Int)=0:=by
      intro h;apply hne;apply List.eq_nil_of_length_eq_zero;omega
     have hml:p % q<=p:=Nat.mod_le _ _;have hlm:=qa4 hml;obtain⟨z,m,hz,h1,h2,h3⟩:=qmw (qaO (p % q)) (by omega) (by rw[q9q];exact h0);rw[q9q] at h1;obtain⟨g1,g2,g3⟩:=qqU hp hq hlt (.inr ⟨rfl,qzc hg⟩) h0 h1 h2;have hs:=qpT (n:=z) (qaO (p % q)) (by omega) (by omega);rw[q9q,h1,Nat.mul_div_cancel_left _ (Nat.pow_pos (by decide)),<- h1] at hs;refine⟨m,h2,g1,qqM g3 g2,by omega,fun k1 k2=>?_⟩;rw[cnd' c2,hz,bS0,hs,bS0]
 · right
   have c1:¬ ((qaa p).length:Int)>(((qaa q).length+1:Nat):Int):=by omega
   have hmi:=qsR (qaO p) (qaO q) (by omega) (by rw[q9q,q9q];omega);rw[q9q,q9q] at hmi;have hlm:=qa4 (Nat.sub_le p q);have h0:p-q≠0:=by omega
   obtain⟨z,m,hz,h1,h2,h3⟩:=qmw (qaO (p-q)) (by omega) (by rw[q9q];exact h0);rw[q9q] at h1;obtain⟨g1,g2,g3⟩:=qqU hp hq hlt (.inl rfl) h0 h1 h2;have hs:=qpT (n:=z) (qaO (p-q)) (by omega) (by omega);rw[q9q,h1,Nat.mul_div_cancel_left _ (Nat.pow_pos (by decide)),<- h1] at hs;refine⟨m,h2,g1,qqM g3 g2,by omega,fun k1 k2=>?_⟩;rw[cnd' c1,hmi,bS0,hz,bS0,hs,bS0]
theorem qxX {p q x y L:Nat} (hp:p % 2=1) (hq:q % 2=1) (hpL:(qaa p).length<=L) (hqL:(qaa q).length<=L) (hL:L<4398046511104) (hx:x<32*L) (hy:y<32*L) :
  lp qbK K0 ((qaa p,qaa q,(x:Int),(y:Int),()),())=some ((qaa (Nat.gcd p q*2 ^ min x y),()),()):=by
 have hlog:∀ n,(qaa n).length<=L->n.log2<32*L+1:=by
  intro n hn;by_cases h0:n=0
  · subst h0;rw[Nat.log2_zero];omega
  · have h1 := qe1 (qaa n);rw[q9q,qwJ] at h1;have:=(Nat.log2_lt h0).2 h1;omega
 obtain⟨r,rfl,hlp⟩:=qpm (step:=qbK) (fun v=>∃ p' q':Nat,v=((qaa p',qaa q',(x:Int),(y:Int),()),())/\p' % 2=1/\q' % 2=1/\(qaa p').length<=L/\(qaa q').length<=L/\Nat.gcd p' q'=Nat.gcd p q)
  (fun v=>(nn v.1.1).log2+(nn v.1.2.1).log2) (fun r=>r=((qaa (Nat.gcd p q*2 ^ min x y),()),())) (v:=((qaa p,qaa q,(x:Int),(y:Int),()),()))
  ⟨p,q,rfl,hp,hq,hpL,hqL,rfl⟩ (by
    have h1:=hlog p hpL;have h2:=hlog q hqL;simp only[q9q];omega) (by
    rintro v ⟨p',q',rfl,hp',hq',hpl,hql,hg⟩;have ho:=qmB (n:=p') (m:=q') (by omega);have em:mn (x:Int) (y:Int)=((min x y:Nat):Int):=by unfold mn;split<;>omega
    rcases Nat.lt_trichotomy p' q' with hlt | heq | hgt
    · have e : ncmp p' q' = -1 := by simp [ncmp, hlt]
      rw[e] at ho;have hpq:Nat.gcd q' p'=Nat.gcd p q:=by rw[Nat.gcd_comm,hg]
      rcases qtj (R:=((List Int×Unit)×Unit)) hq' hp' hlt hql hL x y hx hy with h | ⟨m,h1,h2,h3,h4,h⟩
      · refine .inl ⟨_, rfl, fun g => ?_⟩;rw[<- hpq,qbK,ho,bS0,cnd' (by decide),cnd (by decide)];exact h (fun r=>some ((r,()),())) (fun r=>g ((r,qaa p',(x:Int),(y:Int),()),()))
      · refine .inr ⟨((qaa m, qaa p', (x : Int), (y : Int), ()), ()), ⟨m, p', rfl, h1, hp', Nat.le_trans (qa4 h4) hql, hpl, by rw [h2, hpq]⟩, by simp only [q9q]; omega, fun g => ?_⟩;rw[qbK,ho,bS0,cnd' (by decide),cnd (by decide)];exact h (fun r=>some ((r,()),())) (fun r=>g ((r,qaa p',(x:Int),(y:Int),()),()))
    · subst heq;have e:ncmp p' p'=0:=by simp [ncmp]
      rw[e] at ho;refine .inl ⟨_,rfl,fun g=>?_⟩;have hs:=qsG (n:=min x y) (qaO p') (by omega) (by omega);rw[q9q] at hs;rw[qbK,ho,bS0,cnd (by decide),em,hs,bS0,<- hg,Nat.gcd_self]
    · have e : ncmp p' q' = 1 := by simp [ncmp, hgt, Nat.not_lt.2 (Nat.le_of_lt hgt)]
      rw[e] at ho;rcases qtj (R:=((List Int×Unit)×Unit)) hp' hq' hgt hpl hL x y hx hy with h | ⟨m,h1,h2,h3,h4,h⟩
      · refine .inl ⟨_, rfl, fun g => ?_⟩;rw[<- hg,qbK,ho,bS0,cnd' (by decide),cnd' (by decide)];exact h (fun r=>some ((r,()),())) (fun r=>g ((r,qaa q',(x:Int),(y:Int),()),()))
      · refine .inr ⟨((qaa m, qaa q', (x : Int), (y : Int), ()), ()), ⟨m, q', rfl, h1, hq', Nat.le_trans (qa4 h4) hpl, hql, by rw [h2, hg]⟩, by simp only [q9q]; omega, fun g => ?_⟩;rw[qbK,ho,bS0,cnd' (by decide),cnd' (by decide)];exact h (fun r=>some ((r,()),())) (fun r=>g ((r,qaa q',(x:Int),(y:Int),()),())))
 exact hlp
theorem qAq {a b:List Int} (ha:a.length<4398046511104) (hb:b.length<4398046511104):qnt a b=some (qaa (Nat.gcd (nn a) (nn b))):=by
 have h1:=qau a;have h2:=qau b;have ea:=q9q (nn a);have eb:=q9q (nn b);have la:=qaO (nn a);have lb:=qaO (nn b);rw[qnt,qdn (by omega),bS0,qdn (by omega),bS0];by_cases ha0:nn a=0
 · rw[ha0,qaX,cnd (by rfl),Nat.gcd_zero_left]
 have hne:¬ ((qaa (nn a)).length:Int)=0:=by
   intro h;exact ha0 (qeT.1 (List.eq_nil_of_length_eq_zero (by omega)))
 rw[cnd' hne];by_cases hb0:nn b=0
 · rw[hb0,qaX,cnd (by rfl),Nat.gcd_zero_right]
 have hne':¬ ((qaa (nn b)).length:Int)=0:=by
   intro h;exact hb0 (qeT.1 (List.eq_nil_of_length_eq_zero (by omega)))
 rw[cnd' hne'];have sm:∀ n,(qaa n).length<=2->n<18446744073709551616:=by
   intro n hn;have h3:=qe1 (qaa n);rw[q9q] at h3;have h4:4294967296 ^ (qaa n).length<=4294967296 ^ 2:=Nat.pow_le_pow_right (by decide) hn;exact Nat.lt_of_lt_of_le h3 h4
 have big:((qbU (qaa (nn a))).bind fun r4=>(qbU (qaa (nn b))).bind fun r5=>(qdk (qaa (nn a)) r4).bind fun r6=>(qdk (qaa (nn b)) r5).bind fun r7=>(lp qbK K0 ((r6,r7,r4,r5,()),())).bind fun t24=>some t24.1.1)=some (qaa (Nat.gcd (nn a) (nn b))):=by
   obtain⟨x,p,hx,hp1,hp2,hp3⟩:=qmw la (by omega) (by rw[ea];exact ha0);obtain⟨y,q,hy,hq1,hq2,hq3⟩:=qmw lb (by omega) (by rw[eb];exact hb0);have s1:=qpT (n:=x) la (by omega) (by omega);have s2:=qpT (n:=y) lb (by omega) (by omega);rw[hp1,Nat.mul_div_cancel_left _ (Nat.pow_pos (by decide))] at s1;rw[hq1,Nat.mul_div_cancel_left _ (Nat.pow_pos (by decide))] at s2;rw[ea] at hp1;rw[eb] at hq1;have lp1:(qaa p).length<=max (qaa (nn a)).length (qaa (nn b)).length:=by
     have:p<=nn a:=by rw[hp1];exact Nat.le_mul_of_pos_left _ (Nat.pow_pos (by decide))
     have:=qa4 this;omega
   have lq1:(qaa q).length<=max (qaa (nn a)).length (qaa (nn b)).length:=by
     have:q<=nn b:=by rw[hq1];exact Nat.le_mul_of_pos_left _ (Nat.pow_pos (by decide))
     have:=qa4 this;omega
   rw[hx,bS0,hy,bS0,s1,bS0,s2,bS0,qxX hp2 hq2 lp1 lq1 (by omega) (by omega) (by omega),bS0];congr 2
   conv=>rhs;rw[hp1,hq1]
   rw[qzp hp2 hq2]
 by_cases hA:(qaa (nn a)).length<=2
 · rw [cnd (by omega)];by_cases hB:(qaa (nn b)).length<=2
   · rw [cnd (by omega), qvT (by omega) (by omega) (by rw [ea]; exact sm _ hA) (by rw [eb]; exact sm _ hB), ea, eb];rfl
   · rw [cnd' (by omega)];exact big
 · rw [cnd' (by omega)];exact big
def qaQ (z:Int):WH:=(decide (z<0),qaa z.natAbs)
def wv (a:WH):Int:=if a.1 then -((nn a.2:Nat):Int) else ((nn a.2:Nat):Int)
theorem qcl (z:Int):wv (qaQ z)=z:=by
 unfold wv qaQ;by_cases h:z<0
 · simp [h,q9q];omega
 · simp [h,q9q];omega
theorem qed (a:WH):(wv a).natAbs=nn a.2:=by unfold wv;split<;>omega
theorem qj7:qaQ 0=(false,[]):=by simp [qaQ,qaX]
theorem qt2 (n:Nat):qaQ (n:Int)=(false,qaa n):=by
 unfold qaQ;rw[decide_eq_false (by omega),Int.natAbs_natCast]
theorem qkU {n:Nat}:((qaa n).length:Int)>0 ↔ n≠0:=by
 constructor
 · intro h h0;subst h0;rw[qaX] at h;simp at h
 · intro h;have:qaa n≠[]:=fun e=>h (qeT.1 e)
   have:=List.length_pos_iff.2 this;omega
theorem qlx {n:Nat}:((qaa n).length:Int)=0 ↔ n=0:=by
 have:=@qkU n;omega
theorem qiP (b:Bool) (n:Nat):qcT b (qaa n)=some (qaQ (if b then -(n:Int) else n)):=by
 cases b with
 | false =>
  show some (false,qaa n)=some (qaQ (n:Int));rw[qt2]
 | true =>
  show some (decide (((qaa n).length:Int)>0),qaa n)=some (qaQ (-(n:Int)));unfold qaQ;rw[Int.natAbs_neg,Int.natAbs_natCast];congr 2;rw[decide_eq_decide,qkU];omega
theorem qdH {a:WH} (h:a.2.length<35184372088832):qbn a=some (qaQ (wv a)):=by
 rw[qbn,qdn h,bS0,qiP];rfl
def icmp (x y:Int):Int:=if x<y then -1 else if y<x then 1 else 0
theorem qyz {a b:WH} (ha:a.2.length<35184372088832) (hb:b.2.length<35184372088832):qiM a b=some (icmp (wv a) (wv b)):=by
 rw[qiM,qdH ha,bS0,qdH hb,bS0];have la:=qau a.2;have lb:=qau b.2;have e1:∀ x y:Int,x.natAbs=nn a.2->y.natAbs=nn b.2->qf4 (qaa x.natAbs) (qaa y.natAbs)=some (ncmp x.natAbs y.natAbs):=by
  intro x y hx hy;rw[qwC (by rw[hx];omega) (by rw[hy];omega),q9q,q9q]
 have e2:∀ x y:Int,x.natAbs=nn a.2->y.natAbs=nn b.2->qf4 (qaa y.natAbs) (qaa x.natAbs)=some (ncmp y.natAbs x.natAbs):=by
  intro x y hx hy;rw[qwC (by rw[hy];omega) (by rw[hx];omega),q9q,q9q]
 have hx:=qed a;have hy:=qed b;generalize wv a=x at *;generalize wv b=y at *;have e1:=e1 x y hx hy;have e2:=e2 x y hx hy;simp only[qaQ,e1,e2];by_cases h1:x<0<;>by_cases h2:y<0<;>simp [h1,h2,icmp,ncmp]<;>(repeat' split)<;>omega
theorem quB {a b:WH} (ha:a.2.length<17592186044416) (hb:b.2.length<17592186044416):qee a b=some (qaQ (wv a*wv b)):=by
 have la:=qau a.2;have lb:=qau b.2;have hx:=qed a;have hy:=qed b;rw[qee,qdH (by omega),bS0,qdH (by omega),bS0];generalize wv a=x at *;generalize wv b=y at *;have hm:qjd (qaa x.natAbs) (qaa y.natAbs)=some (qaa (x.natAbs*y.natAbs)):=by
  have:=qwv (a:=qaa x.natAbs) (b:=qaa y.natAbs) (by rw[hx];omega) (by rw[hy];omega)
  rwa [q9q,q9q] at this
 simp only[qaQ,hm,bS0,qiP];have e:(x*y).natAbs=x.natAbs*y.natAbs:=Int.natAbs_mul x y;congr 1;have key:(if (!decide (x<0) == decide (y<0))=true then -(((x.natAbs*y.natAbs:Nat)):Int) else ((x.natAbs*y.natAbs:Nat):Int))=x*y:=by
  rw[Int.natCast_mul];by_cases h1:x<0<;>by_cases h2:y<0
  · rw[show((x.natAbs:Nat):Int)=-x by omega,show((y.natAbs:Nat):Int)=-y by omega];simp [h1,h2,Int.neg_mul_neg]
  · rw[show((x.natAbs:Nat):Int)=-x by omega,show((y.natAbs:Nat):Int)=y by omega];simp [h1,h2,Int.neg_mul]
  · rw[show((x.natAbs:Nat):Int)=x by omega,show((y.natAbs:Nat):Int)=-y by omega];simp [h1,h2,Int.mul_neg]
  · rw[show((x.natAbs:Nat):Int)=x by omega,show((y.natAbs:Nat):Int)=y by omega];simp [h1,h2]
 exact congrArg qaQ key
theorem qyA {a b:WH} (ha:a.2.length<17592186044416) (hb:b.2.length<17592186044416):qiN a b=some (qaQ (wv a+wv b)):=by
 have la:=qau a.2;have lb:=qau b.2;have hx:=qed a;have hy:=qed b;rw[qiN,qdH (by omega),bS0,qdH (by omega),bS0];generalize wv a=x at *;generalize wv b=y at *;have e1:qlt (qaa x.natAbs) (qaa y.natAbs)=some (qaa (x.natAbs+y.natAbs)):=by
   have:=qAx (a:=qaa x.natAbs) (b:=qaa y.natAbs) (by rw[hx];omega) (by rw[hy];omega)
   rwa [q9q,q9q] at this
 have e2:qf4 (qaa x.natAbs) (qaa y.natAbs)=some (ncmp x.natAbs y.natAbs):=by
   have:=qwC (a:=qaa x.natAbs) (b:=qaa y.natAbs) (by rw[hx];omega) (by rw[hy];omega)
   rwa [q9q,q9q] at this
 have e3:qjb (qaa x.natAbs) (qaa y.natAbs)=if x.natAbs<y.natAbs then some ([],3) else some (qaa (x.natAbs-y.natAbs),0):=by
   have:=qyq (a:=qaa x.natAbs) (b:=qaa y.natAbs) (by rw[hx];omega) (by rw[hy];omega)
   rwa [q9q,q9q] at this
 have e4:qjb (qaa y.natAbs) (qaa x.natAbs)=if y.natAbs<x.natAbs then some ([],3) else some (qaa (y.natAbs-x.natAbs),0):=by
   have:=qyq (a:=qaa y.natAbs) (b:=qaa x.natAbs) (by rw[hy];omega) (by rw[hx];omega)
   rwa [q9q,q9q] at this
 simp only[qaQ,e1,e2,bS0,qiP];by_cases hs:decide (x<0)=decide (y<0)
 · have c : (decide (x < 0) == decide (y < 0)) = true := by simp [hs]
   rw[c,cond_true];congr 1;have key:(if decide (x<0)=true then -((x.natAbs+y.natAbs:Nat):Int) else ((x.natAbs+y.natAbs:Nat):Int))=x+y:=by
     rw[decide_eq_decide] at hs;simp only[decide_eq_true_eq];split<;>omega
   exact congrArg qaQ key
 · have c : (decide (x < 0) == decide (y < 0)) = false := by simpa using hs
   rw[c,cond_false];rw[decide_eq_decide] at hs;by_cases hlt:x.natAbs<y.natAbs
   · rw [e4, if_neg (by omega), show ncmp x.natAbs y.natAbs = -1 by simp [ncmp, hlt], cnd (by decide), bS0, qiP, bS0];have key:(if decide (y<0)=true then -((y.natAbs-x.natAbs:Nat):Int) else ((y.natAbs-x.natAbs:Nat):Int))=x+y:=by
      simp only[decide_eq_true_eq];split<;>omega
     exact congrArg (fun z=>some (qaQ z)) key
   · have c2 : ¬ ncmp x.natAbs y.natAbs < 0 := by unfold ncmp; rw [if_neg hlt]; split <;> omega
     rw[e3,if_neg hlt,cnd' c2,bS0,qiP,bS0];have key:(if decide (x<0)=true then -((x.natAbs-y.natAbs:Nat):Int) else ((x.natAbs-y.natAbs:Nat):Int))=x+y:=by
      simp only[decide_eq_true_eq];split<;>omega
     exact congrArg (fun z=>some (qaQ z)) key
theorem quA {a:WH} (h:a.2.length<35184372088832):qhi a=some (qaQ (-wv a)):=by
 rw[qhi,qdH h,bS0];simp only[qaQ,qiP,bS0];congr 1;have key:(if (!decide (wv a<0))=true then -(((wv a).natAbs:Nat):Int) else (((wv a).natAbs:Nat):Int))=-wv a:=by
  by_cases h:wv a<0
  · simp [h];omega
  · simp [h];omega
 exact congrArg qaQ key
def isgn (x:Int):Int:=if x<0 then -1 else if x=0 then 0 else 1
theorem qsv {a:WH} (h:a.2.length<35184372088832):qgm a=some (isgn (wv a)):=by
 rw[qgm,qdH h,bS0];simp only[qaQ];generalize wv a=x;by_cases h1:x<0
 · simp [h1,isgn]
 · by_cases h2 : x = 0
   · subst h2;simp [isgn,qaX]
   · have : ¬ ((qaa x.natAbs).length : Int) = 0 := by rw [qlx]; omega
     simp only[decide_eq_false h1,cond_false,isgn,if_neg h1,if_neg h2];exact cnd' this
theorem quz {n:Int} (h:-9223372036854775808<=n) (h':n<9223372036854775808):qg0 n=some (qaQ n):=by
 by_cases h1:n<0
 · have e : ineg .u64 (IntKind.wrap .u64 n) = ((n.natAbs : Nat) : Int) := by
    show IntKind.wrap .u64 (0-IntKind.wrap .u64 n)=_;rw[qhg,qhg];omega
   rw[qg0,cnd h1,e,qsp (by omega),bS0,qiP,bS0];simp;congr 1;omega
 · have e : IntKind.wrap .u64 n = ((n.natAbs : Nat) : Int) := by rw [qhg]; omega
   rw[qg0,cnd' h1,e,qsp (by omega),bS0,qiP,bS0];simp;congr 1;omega
def canQ (q:Rat):RAT:=(qaQ q.num,qaa q.den)
def rv (a:RAT):Rat:=mkRat (wv a.1) (nn a.2)
theorem qai (q:Rat):rv (canQ q)=q:=by
 rw[rv,canQ,qcl,q9q,Rat.mkRat_self]
def SzR (a:RAT) (n:Nat):Prop:=a.1.2.length<=n/\a.2.length<=n
def Sm (a:RAT):Prop:=a.1.2.length<1099511627776/\a.2.length<1099511627776
def SzQ (q:Rat) (n:Nat):Prop:=q.num.natAbs<4294967296 ^ n/\q.den<4294967296 ^ n
theorem SzR.sm {a:RAT} {n:Nat} (h:SzR a n) (hn:n<1099511627776):Sm a:=⟨by have:=h.1;omega,by have:=h.2;omega⟩
theorem SzQ.szR {q:Rat} {n:Nat} (h:SzQ q n):SzR (canQ q) n:=⟨qcf h.1,qcf h.2⟩
theorem SzQ.sm {q:Rat} {n:Nat} (h:SzQ q n) (hn:n<1099511627776):Sm (canQ q):=h.szR.sm hn
theorem SzQ.mono {q:Rat} {n m:Nat} (h:SzQ q n) (hm:n<=m):SzQ q m:=by
 have:=Nat.pow_le_pow_right (n:=4294967296) (by decide) hm;exact⟨Nat.lt_of_lt_of_le h.1 this,Nat.lt_of_lt_of_le h.2 this⟩
theorem qpl {z:Int} {d n:Nat} (hz:z.natAbs<4294967296 ^ n) (hd:d<4294967296 ^ n) (hn:0<n):SzQ (mkRat z d) n:=by
 have hp:1<4294967296 ^ n:=by
   have:=Nat.pow_le_pow_right (n:=4294967296) (by decide) hn;omega
 by_cases h0:d=0
 · subst h0;rw[Rat.mkRat_zero];exact⟨by simpa using Nat.lt_of_le_of_lt (Nat.zero_le _) hp,by simpa using hp⟩
 · have h1 := Rat.num_mkRat z d;have h2:=Rat.den_mkRat z d;rw[if_neg h0] at h1 h2;constructor
   · rw [h1, Int.natAbs_ediv_of_dvd (Int.ofNat_dvd_left.2 (Nat.gcd_dvd_right _ _))];exact Nat.lt_of_le_of_lt (Nat.div_le_self _ _) hz
   · rw[h2];exact Nat.lt_of_le_of_lt (Nat.div_le_self _ _) hd
theorem SzR.szQ {a:RAT} {n:Nat} (h:SzR a n) (hn:0<n):SzQ (rv a) n:=by
 refine qpl ?_ ?_ hn
 · rw[qed];exact Nat.lt_of_lt_of_le (qe1 _) (Nat.pow_le_pow_right (by decide) h.1)
 · exact Nat.lt_of_lt_of_le (qe1 _) (Nat.pow_le_pow_right (by decide) h.2)
theorem SzQ.pos {q:Rat} {n:Nat} (h:SzQ q n):0<n:=by
 rcases Nat.eq_zero_or_pos n with h0 | h0
 · subst h0;have:=h.2;have:=q.den_pos;simp at *;omega
 · exact h0
theorem SzQ.mul {p q:Rat} {n m:Nat} (hp:SzQ p n) (hq:SzQ q m):SzQ (p*q) (n+m):=by
 have h0:=hp.pos;rw[Rat.mul_def'];refine qpl ?_ ?_ (by omega)
 · rw[Int.natAbs_mul,Nat.pow_add];exact Nat.mul_lt_mul'' hp.1 hq.1
 · rw[Nat.pow_add];exact Nat.mul_lt_mul'' hp.2 hq.2
theorem SzQ.add {p q:Rat} {n m:Nat} (hp:SzQ p n) (hq:SzQ q m):SzQ (p+q) (n+m+1):=by
 have h0:=hp.pos;rw[Rat.add_def'];have h1:(p.num*q.den).natAbs<4294967296 ^ (n+m):=by rw[Int.natAbs_mul,Nat.pow_add,Int.natAbs_natCast];exact Nat.mul_lt_mul'' hp.1 hq.2
 have h2:(q.num*p.den).natAbs<4294967296 ^ (n+m):=by rw[Int.natAbs_mul,Nat.add_comm,Nat.pow_add,Int.natAbs_natCast];exact Nat.mul_lt_mul'' hq.1 hp.2
 have h3:p.den*q.den<4294967296 ^ (n+m):=by rw[Nat.pow_add];exact Nat.mul_lt_mul'' hp.2 hq.2
 have h4:4294967296 ^ (n+m+1)=4294967296 ^ (n+m)*4294967296:=Nat.pow_succ ..;refine qpl ?_ (by omega) (by omega);have:=Int.natAbs_add_le (p.num*q.den) (q.num*p.den);omega
theorem SzQ.neg {p:Rat} {n:Nat} (hp:SzQ p n):SzQ (-p) n:=by
 refine⟨?_,hp.2⟩;rw[Rat.neg_num,Int.natAbs_neg];exact hp.1
theorem SzQ.sub {p q:Rat} {n m:Nat} (hp:SzQ p n) (hq:SzQ q m):SzQ (p-q) (n+m+1):=by
 rw[Rat.sub_eq_add_neg];exact hp.add hq.neg
theorem SzQ.inv {p:Rat} {n:Nat} (hp:SzQ p n):SzQ p⁻¹ n:=by
 have h0:=hp.pos;have:1<4294967296 ^ n:=by
   have:=Nat.pow_le_pow_right (n:=4294967296) (by decide) h0;omega
 constructor
 · rw [Rat.num_inv, Int.natAbs_mul, Int.natAbs_natCast];have h1:p.num.sign.natAbs<=1:=by
     rcases Int.lt_trichotomy p.num 0 with h | h | h
     · rw[Int.sign_eq_neg_one_of_neg h];decide
     · rw[h];decide
     · rw[Int.sign_eq_one_of_pos h];decide
   have h2:=Nat.mul_le_mul_right p.den h1;have:=hp.2;omega
 · rw [Rat.den_inv]; split
   · exact this
   · exact hp.1
theorem SzQ.div {p q:Rat} {n m:Nat} (hp:SzQ p n) (hq:SzQ q m):SzQ (p/q) (n+m):=by
 rw[Rat.div_def];exact hp.mul hq.inv
theorem SzQ.int {z:Int} (h:z.natAbs<4294967296):SzQ (z:Rat) 1:=⟨by simpa using h,by simp⟩
theorem SzQ.zero:SzQ 0 1:=⟨by simp,by simp⟩
theorem SzQ.one:SzQ 1 1:=⟨by simp,by simp⟩
theorem qnB {z:Int} {d:Nat} (hz:(qaa z.natAbs).length<4398046511104) (hd:(qaa d).length<4398046511104) (h0:d≠0):qdx (qaQ z) (qaa d)=some (canQ (mkRat z d)):=by
 by_cases hz0:z=0
 · subst hz0;have:=qsp (n:=1) (by decide);rw[qdx,qj7];simp only[List.length_nil];rw[cnd (by rfl)];rw[show((1:Nat):Int)=1 from rfl] at this;rw[this,Rat.zero_mkRat,canQ];simp [qj7]
 · have hne : ¬ ((qaa z.natAbs).length : Int) = 0 := by rw [qlx]; omega
   have hg:=qAq hz hd;rw[q9q,q9q] at hg;have hgpos:0<Nat.gcd z.natAbs d:=Nat.gcd_pos_of_pos_right _ (Nat.pos_of_ne_zero h0);have hgle:Nat.gcd z.natAbs d<=d:=Nat.gcd_le_right _ (Nat.pos_of_ne_zero h0);have hglen:=qa4 hgle;have hgne:nn (qaa (Nat.gcd z.natAbs d))≠0:=by rw[q9q];omega
   have d1:=qnO hz (show(qaa (Nat.gcd z.natAbs d)).length<4398046511104 by omega) hgne;have d2:=qnO hd (show(qaa (Nat.gcd z.natAbs d)).length<4398046511104 by omega) hgne;rw[q9q,q9q] at d1 d2;have hres:((decide (z<0),qaa (z.natAbs/Nat.gcd z.natAbs d)),qaa (d/Nat.gcd z.natAbs d))=canQ (mkRat z d):=by
     have h1:=Rat.num_mkRat z d;have h2:=Rat.den_mkRat z d;rw[if_neg h0,Nat.gcd_comm] at h1 h2;have hdv:((Nat.gcd z.natAbs d:Nat):Int) ∣ z:=Int.ofNat_dvd_left.2 (Nat.gcd_dvd_left _ _);unfold canQ qaQ;rw[h1,h2,Int.natAbs_ediv_of_dvd hdv,Int.natAbs_natCast];congr 2;rw[decide_eq_decide];obtain⟨c,hc⟩:=hdv;generalize ((Nat.gcd z.natAbs d:Nat))=G at *;have hG:(0:Int)<(G:Int):=by omega
     have : z / (G : Int) = c := by conv => lhs; rw [hc]
                                    exact Int.mul_ediv_cancel_left _ (by omega)
     rw[this];constructor
     · intro h;by_cases h3:c<0
       · exact h3
       · have:=Int.mul_nonneg (Int.le_of_lt hG) (Int.not_lt.1 h3);omega
     · intro h;have:=Int.mul_neg_of_pos_of_neg hG h;omega
   rw[qaQ,qdx];rw[cnd' hne,hg,bS0];by_cases h1:Nat.gcd z.natAbs d=1
   · have e1 : qaa 1 = [1] := by rw [qeA (by decide) (by decide)]; rfl
     rw[<- hres,h1,e1];simp
   · by_cases hl : (qaa (Nat.gcd z.natAbs d)).length = 1
     · have hg32 : Nat.gcd z.natAbs d < 4294967296 := by
         have:=qe1 (qaa (Nat.gcd z.natAbs d));rw[q9q,hl] at this;simpa using this
       have hls:=qeA (Nat.ne_of_gt hgpos) hg32;rw[cnd (by omega),cnd (by omega),d1,d2];rw[hls,List.getElem?_cons_zero,bS0,cnd' (by omega)];simp only[bS0];rw[hres]
     · rw [cnd' (by omega), d1, d2];simp only[bS0];rw[hres]
theorem qdZ:qdy=some (canQ 0):=by
 have:=qsp (n:=1) (by decide);rw[qdy];rw[show((1:Nat):Int)=1 from rfl] at this;rw[this,canQ];simp [qj7]
theorem qa3 {a:RAT} (h:Sm a):qbp a=some (canQ (rv a)):=by
 have h1:=h.1;have h2:=h.2;have l1:=qau a.1.2;have l2:=qau a.2;rw[qbp,qdn (by omega),bS0];by_cases h0:nn a.2=0
 · rw[h0,qaX,cnd (by rfl),qdZ,bS0,rv,h0,Rat.mkRat_zero]
 · rw [cnd' (by rw [qlx]; exact h0), qdH (by omega), bS0, qnB (by rw [qed]; omega) (by omega) h0];rfl
theorem qgg (x y:Nat):(qaa (x*y)).length<=(qaa x).length+(qaa y).length:=by
 apply qcf;have a1:=qe1 (qaa x);have a2:=qe1 (qaa y);rw[q9q] at a1 a2;rw[Nat.pow_add];exact Nat.mul_lt_mul'' a1 a2
theorem qpn (x y:Nat):(qaa (x+y)).length<=max (qaa x).length (qaa y).length+1:=by
 apply qcf;have a1:=qe1 (qaa x);have a2:=qe1 (qaa y);rw[q9q] at a1 a2;have h1:=Nat.pow_le_pow_right (n:=4294967296) (by decide) (Nat.le_max_left (qaa x).length (qaa y).length);have h2:=Nat.pow_le_pow_right (n:=4294967296) (by decide) (Nat.le_max_right (qaa x).length (qaa y).length);rw[Nat.pow_succ];omega
theorem Sm.can {a:RAT} (h:Sm a):Sm (canQ (rv a)):=by
 have h1:SzR a (max 1 (max a.1.2.length a.2.length)):=⟨by omega,by omega⟩;exact(h1.szQ (by omega)).sm (by have:=h.1;have:=h.2;omega)
theorem Sm.num {q:Rat} (h:Sm (canQ q)):(qaa q.num.natAbs).length<1099511627776:=h.1
theorem Sm.den {q:Rat} (h:Sm (canQ q)):(qaa q.den).length<1099511627776:=h.2
def rcmp (p q:Rat):Int:=if p<q then -1 else if q<p then 1 else 0
theorem qs0 (p q:Rat):icmp (p.num*q.den) (q.num*p.den)=rcmp p q:=by
 unfold icmp rcmp;simp only[Rat.lt_iff]
theorem qx5 (n:Nat):wv (false,qaa n)=(n:Int):=by simp [wv,q9q]
theorem qpf {p q:Rat} (n1:(qaa p.num.natAbs).length<1099511627776) (n2:(qaa q.den).length<1099511627776):qee (qaQ p.num) (false,qaa q.den)=some (qaQ (p.num*q.den)):=by
 have:=quB (a:=qaQ p.num) (b:=(false,qaa q.den)) (by show(qaa p.num.natAbs).length<_;omega) (by show(qaa q.den).length<_;omega)
 rwa [qcl,qx5] at this
theorem qil {p q:Rat} (n1:(qaa p.num.natAbs).length<1099511627776) (n2:(qaa q.den).length<1099511627776):(qaQ (p.num*q.den)).2.length<2199023255552:=by
 have:=qgg p.num.natAbs q.den;show(qaa (p.num*q.den).natAbs).length<_;rw[Int.natAbs_mul,Int.natAbs_natCast];omega
theorem ql9 {a b:RAT} (ha:Sm a) (hb:Sm b):qhz a b=some (rcmp (rv a) (rv b)):=by
 have sa:=ha.can;have sb:=hb.can;rw[qhz,qa3 ha,bS0,qa3 hb,bS0];generalize rv a=p at *;generalize rv b=q at *;have l1:=qil (p:=p) (q:=q) sa.num sb.den;have l2:=qil (p:=q) (q:=p) sb.num sa.den;have m3:=qyz (a:=qaQ (p.num*q.den)) (b:=qaQ (q.num*p.den)) (by omega) (by omega);rw[qcl,qcl,qs0] at m3;simp only[qek,bS0,canQ,qpf sa.num sb.den,qpf sb.num sa.den,m3]
theorem qdb {a b:RAT} (ha:Sm a) (hb:Sm b):qcC a b=some (canQ (rv a+rv b)):=by
 have sa:=ha.can;have sb:=hb.can;rw[qcC,qa3 ha,bS0,qa3 hb,bS0];generalize rv a=p at *;generalize rv b=q at *;have l1:=qil (p:=p) (q:=q) sa.num sb.den;have l2:=qil (p:=q) (q:=p) sb.num sa.den;have m3:=qyA (a:=qaQ (p.num*q.den)) (b:=qaQ (q.num*p.den)) (by omega) (by omega);rw[qcl,qcl] at m3;have n1:=sa.num;have n2:=sa.den;have n3:=sb.num;have n4:=sb.den;have m4:=qwv (a:=qaa p.den) (b:=qaa q.den) (by omega) (by omega);rw[q9q,q9q] at m4;have m5:=qnB (z:=p.num*q.den+q.num*p.den) (d:=p.den*q.den) (by
  have h1:=qpn (p.num*q.den).natAbs (q.num*p.den).natAbs;have h2:=qa4 (Int.natAbs_add_le (p.num*q.den) (q.num*p.den));simp only[qaQ] at l1 l2;omega) (by
  have:=qgg p.den q.den;omega) (Nat.mul_ne_zero p.den_nz q.den_nz)
 simp only[qek,bS0,canQ,qpf sa.num sb.den,qpf sb.num sa.den,m3,m4,m5];rw[Rat.add_def']
theorem qaF {a b:RAT} (ha:Sm a) (hb:Sm b):qap a b=some (canQ (rv a*rv b)):=by
 have sa:=ha.can;have sb:=hb.can;rw[qap,qa3 ha,bS0,qa3 hb,bS0];generalize rv a=p at *;generalize rv b=q at *;have n1:=sa.num;have n2:=sa.den;have n3:=sb.num;have n4:=sb.den;have m3:=quB (a:=qaQ p.num) (b:=qaQ q.num) (by show(qaa _).length<_;omega) (by show(qaa _).length<_;omega);rw[qcl,qcl] at m3;have m4:=qwv (a:=qaa p.den) (b:=qaa q.den) (by omega) (by omega);rw[q9q,q9q] at m4;have m5:=qnB (z:=p.num*q.num) (d:=p.den*q.den) (by
  have h1:=qgg p.num.natAbs q.num.natAbs;rw[Int.natAbs_mul];omega) (by
  have:=qgg p.den q.den;omega) (Nat.mul_ne_zero p.den_nz q.den_nz)
 simp only[bS0,canQ,m3,m4,m5];rw[Rat.mul_def']
theorem ql3 {a:RAT} (ha:Sm a):qgD a=some (canQ (-rv a)):=by
 have sa:=ha.can;rw[qgD,qa3 ha,bS0];generalize rv a=p at *;have n1:=sa.num;have m:=quA (a:=qaQ p.num) (by show(qaa _).length<_;omega);rw[qcl] at m;simp only[canQ,m,bS0];rfl
theorem Sm.neg {q:Rat} (h:Sm (canQ q)):Sm (canQ (-q)):=by
 refine⟨?_,h.2⟩;show(qaa (-q.num).natAbs).length<_;rw[Int.natAbs_neg];exact h.1
theorem qg1 {a b:RAT} (ha:Sm a) (hb:Sm b):qfC a b=some (canQ (rv a-rv b)):=by
 rw[qfC,ql3 hb,bS0,qdb ha hb.can.neg,bS0,qai,Rat.sub_eq_add_neg]
theorem qzh {y:Int} (h:y≠0):¬ isgn y=0:=by
 unfold isgn;(repeat' split)<;>omega
theorem qxo (q:Rat):isgn q.num=rcmp q 0:=by
 have h:∀ x:Int,isgn x=icmp x 0:=by
  intro x;unfold isgn icmp
  (repeat' split)<;>omega
 rw[<- qs0,h,Rat.zero_den,Rat.zero_num,Int.zero_mul];rw[show((1:Nat):Int)=1 from rfl,Int.mul_one]
theorem qh3 {a:RAT} (ha:Sm a):qfk a=some (rcmp (rv a) 0):=by
 have sa:=ha.can;rw[qfk,qa3 ha,bS0];generalize rv a=p at *;have n1:=sa.num;have m:=qsv (a:=qaQ p.num) (by show(qaa _).length<_;omega);rw[qcl,qxo] at m;simp only[canQ,m,bS0]
def rabs (q:Rat):Rat:=if q<0 then -q else q
theorem qrD {n:Int} (h:-9223372036854775808<=n) (h':n<9223372036854775808):qg2 n=some (canQ (n:Rat)):=by
 have:=qsp (n:=1) (by decide);rw[show((1:Nat):Int)=1 from rfl] at this;rw[qg2,quz h h',bS0,this,bS0];rfl
theorem qiS:qeX=some (canQ 1):=by
 rw[qeX,qrD (by decide) (by decide)];rfl
theorem qkE {a b:WH} (ha:a.2.length<1099511627776) (hb:b.2.length<1099511627776) :
   qgr a b=if wv b=0 then some (((false,[]),[]),2) else some (canQ ((wv a:Rat)/(wv b:Rat)),0):=by
 have la:=qau a.2;have lb:=qau b.2;rw[qgr,qdH (by omega),bS0,qdH (by omega),bS0];have hx:=qed a;have hy:=qed b;generalize wv a=x at *;generalize wv b=y at *;have m:=qsv (a:=qaQ y) (by show(qaa _).length<_;rw[hy];omega)
 rw[qcl] at m;rw[m,bS0];by_cases h0:y=0
 · subst h0;rfl
 · rw [if_neg h0, cnd' (qzh h0)];by_cases hneg:y<0
   · have e : (qaQ y).1 = true := decide_eq_true hneg;have mn:=quA (a:=qaQ x) (by show(qaa _).length<_;rw[hx];omega)
     rw[qcl] at mn;have mf:=qnB (z:=-x) (d:=y.natAbs) (by rw[Int.natAbs_neg,hx];omega) (by rw[hy];omega) (by omega);rw[e,cond_true,mn,bS0];rw[show(qaQ y).2=qaa y.natAbs from rfl,mf,bS0,<- Rat.divInt_eq_div,<- Rat.divInt_ofNat];rw[show((y.natAbs:Nat):Int)=-y by omega,Rat.neg_divInt_neg]
   · have e : (qaQ y).1 = false := decide_eq_false hneg;have mf:=qnB (z:=x) (d:=y.natAbs) (by rw[hx];omega) (by rw[hy];omega) (by omega);rw[e,cond_false];rw[show(qaQ y).2=qaa y.natAbs from rfl,mf,bS0,<- Rat.divInt_eq_div,<- Rat.divInt_ofNat];rw[show((y.natAbs:Nat):Int)=y by omega]
theorem qqh {q:Rat}:q.num=0 ↔ q=0:=Rat.num_eq_zero
theorem ql6 {a:RAT} (ha:Sm a):qhx a=if rv a=0 then some (((false,[]),[]),2) else some (canQ (rv a)⁻¹,0):=by
 have sa:=ha.can;rw[qhx,qa3 ha,bS0];generalize rv a=p at *;have n1:=sa.num;have n2:=sa.den;have m:=qkE (a:=(false,qaa p.den)) (b:=qaQ p.num) (by show(qaa _).length<_;omega) (by show(qaa _).length<_;omega);rw[qcl,qx5] at m;simp only[qek,bS0,canQ];simp only[canQ] at m;rw[m];simp only[qqh];by_cases h:p=0
 · simp [h]
 · simp only [if_neg h, bS0];rw[Rat.inv_def,Rat.divInt_eq_div]
theorem qqd {a b:RAT} (ha:Sm a) (hb:Sm b):qhy a b=if rv b=0 then some (((false,[]),[]),2) else some (canQ (rv a/rv b),0):=by
 rw[qhy,ql6 hb];by_cases h:rv b=0
 · simp [h]
 · have si : Sm (canQ (rv b)⁻¹) := by
    have h1:SzR b (max 1 (max b.1.2.length b.2.length)):=⟨by omega,by omega⟩;exact(h1.szQ (by omega)).inv.sm (by have:=hb.1;have:=hb.2;omega)
   rw[if_neg h,if_neg h,bS0];simp only[qaF ha si,qai,bS0,Rat.div_def];rfl
theorem qkG {n d:Int} (h:-9223372036854775808<=n) (h':n<9223372036854775808) (hd:-9223372036854775808<=d) (hd':d<9223372036854775808):qcg n d=some (canQ ((n:Rat)/(d:Rat))):=by
 have len:∀ z:Int,-9223372036854775808<=z->z<9223372036854775808->(qaQ z).2.length<=2:=by
   intro z h1 h2;exact qcf (by omega)
 have l1:=len n h h';have l2:=len d hd hd';rw[qcg,quz h h',bS0,quz hd hd',bS0,qkE (by omega) (by omega),qcl,qcl];by_cases h0:d=0
 · subst h0;rw[if_pos rfl,bS0,qa3 (a:=((false,[]),[])) ⟨by decide,by decide⟩];have:rv ((false,[]),[])=0:=by simp [rv]
   rw[this];have e:(n:Rat)/((0:Int):Rat)=0:=by rw[Rat.div_def];simp
   rw[e];rfl
 · rw [if_neg h0, bS0, qa3, bS0, qai];have a1:SzQ (n:Rat) 2:=⟨by rw[Rat.num_intCast];omega,by simp⟩;have a2:SzQ (d:Rat) 2:=⟨by rw[Rat.num_intCast];omega,by simp⟩;exact(a1.div a2).sm (by decide)
theorem qo4 {a b:RAT} (ha:Sm a) (hb:Sm b):qgq a b=some (decide (rv a=rv b)):=by
 rw[qgq,ql9 ha hb,bS0];congr 1;rw[decide_eq_decide];unfold rcmp;generalize rv a=p;generalize rv b=q;constructor
 · intro h;by_cases h1:p<q
   · simp [h1] at h
   · by_cases h2 : q < p
     · simp [h1,h2] at h
     · exact Rat.le_antisymm (Rat.not_lt.1 h2) (Rat.not_lt.1 h1)
 · rintro rfl;simp [Rat.lt_irrefl]
def cutR (k:Nat) (a:RAT):RAT:=((a.1.1,a.1.2.take k),a.2.take k)
theorem qnH (k:Nat) (a:RAT):SzR (cutR k a) k:=⟨by simp [cutR];omega,by simp [cutR];omega⟩
theorem qge {α J:Type} (f:α->J) {l:List α} {i:Nat} (h:i<l.length):(l.take (i+1)).map f=(l.take i).map f++[f l[i]]:=by
 rw[List.take_succ_eq_append_getElem h,List.map_append];rfl
theorem quZ {p q:Rat} (h:p<q) (h':q<p):False:=by grind
def pre (v:Nat->Rat) (i j:Nat):Prop:=v j<v i\/(v i=v j/\i<j)
def ints (o:List Nat):List Int:=o.map fun(i:Nat)=>(i:Int)
@[simp] theorem qxp (o:List Nat):(ints o).length=o.length:=by simp [ints]
def vals (l:List RAT) (i:Nat):Rat:=rv ((l[i]?).getD ((false,[]),[]))
theorem qwE {l:List RAT} {i:Nat} (h:i<l.length):vals l i=rv l[i]:=by simp [vals,h]
theorem qsK {p q:Rat}:rcmp p q>0 ↔ q<p:=by
 unfold rcmp;by_cases h:p<q
 · have : ¬ q < p := fun h' => quZ h h'
   simp [h,this]
 · by_cases h2:q<p<;>simp [h,h2]
theorem qsL {p q:Rat}:rcmp p q<0 ↔ p<q:=by
 unfold rcmp;by_cases h:p<q
 · simp [h]
 · by_cases h2:q<p<;>simp [h,h2]
def qei (n:Nat) (o:List Nat):List Bool:=(List.range n).map fun j=>decide (j∈o)
@[simp] theorem qoe (n:Nat) (o:List Nat):(qei n o).length=n:=by simp [qei]
theorem qhl {n:Nat} {o:List Nat} {j:Nat} (h:j<n):(qei n o)[j]?=some (decide (j∈o)):=by simp [qei,h]
theorem qto {n:Nat} {o:List Nat} {b:Nat} (h:b<n):(qei n o).set b true=qei n (o++[b]):=by
 apply List.ext_getElem?;intro j;rw[List.getElem?_set];by_cases hj:j<n
 · rw [qhl hj];by_cases hb:b=j
   · subst hb;simp [h,qei]
   · rw [if_neg hb, qhl hj];simp [show ¬ j=b from fun e=>hb e.symm]
 · rw [List.getElem?_eq_none (by simp; omega), List.getElem?_eq_none (by simp; omega)];split
   · rw[if_neg (by simp;omega)]
   · rfl
theorem qrH (a:RAT):qcq a=some (cutR 3 a):=by
 obtain⟨⟨s,x⟩,y⟩:=a;unfold qcq cutR;by_cases h1:3<x.length
 · have c1 : ((x.length : Nat) : Int) > 3 := by omega
   have c2:(3:Int)<=((x.length:Nat):Int):=by omega
   by_cases h2:3<y.length
   · have c3 : ((y.length : Nat) : Int) > 3 := by omega
     have c4:(3:Int)<=((y.length:Nat):Int):=by omega
     rw[cnd c1,cnd c2,cnd c3,cnd c4]
   · have c3 : ¬ ((y.length : Nat) : Int) > 3 := by omega
     rw[cnd c1,cnd c2,cnd' c3,List.take_of_length_le (l:=y) (by omega)]
 · have c1 : ¬ ((x.length : Nat) : Int) > 3 := by omega
   by_cases h2:3<y.length
   · have c3 : ((y.length : Nat) : Int) > 3 := by omega
     have c4:(3:Int)<=((y.length:Nat):Int):=by omega
     rw[cnd' c1,cnd c3,cnd c4,List.take_of_length_le (l:=x) (by omega)]
   · have c3 : ¬ ((y.length : Nat) : Int) > 3 := by omega
     rw[cnd' c1,cnd' c3,List.take_of_length_le (l:=x) (by omega),List.take_of_length_le (l:=y) (by omega)]
def qhe (c:CELL):CELL:=(c.1,cutR 3 c.2)
theorem qxZ (l:List CELL) (n:Nat) (hl:l.length<=9223372036854775807) (hn:n<1000000):qb9 l (n:Int)=some ((l.take n).map qhe):=by
 have hnn:min l.length n<=l.length:=Nat.min_le_left _ _;have key:=qfM (step:=qaM) (fun i=>((l,(n:Int),(l.take i).map qhe,(i:Int),()),())) (min l.length n) (r:=(((l.take n).map qhe,()),())) (by omega) (by
  intro g i hi;have h1:i<l.length:=by omega
  have c1:(i:Int)<((l.length:Nat):Int):=by omega
  have c2:(i:Int)<(n:Int):=by omega
  have c3:(0:Int)<=(i:Int):=by omega
  have c4:(Nat.ble ((((l.take i).map qhe).length+1)*64) 140737488355328&&!false)=true:=by
    have:(((l.take i).map qhe).length+1)*64<=140737488355328:=by simp;omega
    simp only[Nat.ble_eq,this,Bool.not_false,Bool.and_true]
  rw[qaM,cnd c1,cnd c2,cnd c3,tN0,gE0 h1,bS0,qrH,bS0,c4,cond_true,qbr (by omega),qge _ h1];rfl) (by
  intro g;by_cases h:l.length<=n
  · have c1 : ¬ ((min l.length n : Nat) : Int) < ((l.length : Nat) : Int) := by omega
    rw[qaM,cnd' c1,Nat.min_eq_left h,List.take_of_length_le (Nat.le_refl _),List.take_of_length_le h]
  · have c1 : ((min l.length n : Nat) : Int) < ((l.length : Nat) : Int) := by omega
    have c2:¬ ((min l.length n:Nat):Int)<(n:Int):=by omega
    rw[qaM,cnd c1,cnd' c2,Nat.min_eq_right (by omega)])
 rw[qb9];rw[show((l,(n:Int),([]:List CELL),(0:Int),()),())=(((l,(n:Int),(l.take 0).map qhe,((0:Nat):Int),()),()):(List CELL×Int×List CELL×Int×Unit)×Unit) from rfl,key];rfl
theorem qu3 {p q:Rat}:rcmp p q<=0 ↔ p<=q:=by
 rw[<- Rat.not_lt,<- qsK];omega
def dd:List Int->Nat
 | []=>0
 | x::r=>(x % 10000).toNat+10000*dd r
@[simp] theorem qAI:dd []=0:=rfl
theorem blt {n:Nat} {k:Nat} (h:n*k<=140737488355328):(Nat.ble (n*k) 140737488355328&&!false)=true:=by
 simp only[Nat.ble_eq,h,Bool.not_false,Bool.and_true]
def rsum (f:Nat->Rat):Nat->Rat
 | 0=>0
 | n+1=>rsum f n+f n
theorem qbh {f g:Nat->Rat} {n:Nat} (h:∀ i,i<n->f i=g i):rsum f n=rsum g n:=by
 induction n with
 | zero=>rfl
 | succ n ih=>simp only[rsum];rw[ih (fun i hi=>h i (by omega)),h n (by omega)]
theorem qjA (f:Nat->Rat) (c:Rat) (n:Nat):rsum (fun i=>f i*c) n=rsum f n*c:=by
 induction n with
 | zero=>simp [rsum]
 | succ n ih=>simp only[rsum,ih];rw[Rat.add_mul]
theorem qoW {f:Nat->Rat} {k n:Nat} (h:∀ i,i<n->SzQ (f i) k):SzQ (rsum f n) (1+n*(k+1)):=by
 induction n with
 | zero=>simpa [rsum] using SzQ.zero
 | succ n ih =>
  have:=(ih fun i hi=>h i (by omega)).add (h n (by omega));simp only[rsum];exact this.mono (by rw[Nat.add_mul];omega)
theorem qvD:SzQ (((1:Int):Rat)/((2:Int):Rat)) 2:=(SzQ.int (z:=1) (by decide)).div (SzQ.int (z:=2) (by decide))
def fac:Nat->Nat
 | 0=>1
 | n+1=>(n+1)*fac n
theorem qvR (n:Nat):0<fac n:=by
 induction n with
 | zero=>decide
 | succ n ih=>exact Nat.mul_pos (by omega) ih
theorem qAk {n:Nat} (h:n<=64):fac n<4294967296 ^ 10:=by
 have hm:∀ a b,a<=b->fac a<=fac b:=by
  intro a b hab
  induction hab with
  | refl=>exact Nat.le_refl _
  | step _ ih =>
   refine Nat.le_trans ih ?_;simp only[fac];exact Nat.le_mul_of_pos_left _ (by omega)
 have:=hm n 64 h;have h64:fac 64<4294967296 ^ 10:=by decide +kernel
 omega
theorem qvQ {n:Nat} (h:n<=64):SzQ ((fac n:Nat):Rat) 10:=by
 have:=qAk h;exact⟨by simpa using this,by simp⟩
def quo (a b c:Nat):Rat:=((fac a:Nat):Rat)*((fac b:Nat):Rat)/((fac c:Nat):Rat)
theorem qz0 {a b c:Nat} (ha:a<=64) (hb:b<=64) (hc:c<=64):SzQ (quo a b c) 30:=((qvQ ha).mul (qvQ hb)).div (qvQ hc)
def wq (s n:Nat):Rat:=quo s (n-s-1) n
theorem qzQ {s n:Nat} (hs:s<n) (hn:n<=64):SzQ (wq s n) 30:=qz0 (by omega) (by omega) (by omega)
def vabs (l:List RAT) (i:Nat):Rat:=rabs (vals l i)
def vsum (l:List RAT):Rat:=rsum (vabs l) l.length
def qzX (l:List RAT) (i:Nat):Rat:=vabs l i/vsum l
def qx9 (l:List RAT) (n:Nat):List RAT:=(List.range n).map fun i=>canQ (qzX l i)
@[simp] theorem qzN (l:List RAT) (n:Nat):(qx9 l n).length=n:=by simp [qx9]
section
variable {l:List RAT} (hsz:∀ x∈l,SzR x 2) (hlen:l.length<=33)
include hsz
end
theorem qp5 {l:List RAT} {k:Nat} (hs:∀ x∈l,Sm x) (hk:∀ i,i<l.length->SzQ (vals l i) k) (hl:1+l.length*(k+1)<1099511627776) (hlen:l.length<4398046511104):qhw l=some (canQ (rsum (vals l) l.length)):=by
 have hpart:∀ i,i<=l.length->Sm (canQ (rsum (vals l) i)):=by
  intro i hi;have h1:=qoW (f:=vals l) (k:=k) (n:=i) (fun j hj=>hk j (by omega));refine h1.sm (Nat.lt_of_le_of_lt ?_ hl);have:=Nat.mul_le_mul_right (k+1) hi;omega
 have key:=qfM (step:=qcB) (fun i=>((l,((l.length:Nat):Int),(i:Int),()),((false,[],[],()),((canQ (rsum (vals l) i)).1.1,(canQ (rsum (vals l) i)).1.2,(canQ (rsum (vals l) i)).2,()),()))) l.length
  (r:=((),((false,[],[],()),((canQ (rsum (vals l) l.length)).1.1,(canQ (rsum (vals l) l.length)).1.2,(canQ (rsum (vals l) l.length)).2,()),()))) (by omega) (by
  intro g i hi;have d0:(i:Int)<((l.length:Nat):Int):=by omega
  have d1:(0:Int)<=(i:Int):=by omega
  have hp:=qdb (hpart i (Nat.le_of_lt hi)) (hs _ (gM0 hi));rw[qai,<- qwE hi] at hp;have hp':qcC (((canQ (rsum (vals l) i)).1.1,(canQ (rsum (vals l) i)).1.2),(canQ (rsum (vals l) i)).2) l[i]=some (canQ (rsum (vals l) (i+1))):=hp;rw[qcB,cnd d0,cnd d1,tN0,gE0 hi,bS0,hp',bS0,qbr (by omega)];rfl) (by
  intro g;rw[qcB,cnd' (by omega)])
 have key':lp qcB K0 ((l,((l.length:Nat):Int),0,()),((false,[],[],()),((canQ 0).1.1,(canQ 0).1.2,(canQ 0).2,()),()))=_:=key;rw[qhw,qdZ,bS0,key'];rfl
theorem qy7 {V T:Type} {step:(V->Option T)->V->Option T} (f:Nat->V) (n:Nat) (ok:Nat->Prop) (bad:Nat->T) (fin:T)
  (hs:∀ i,i<n->(ok i/\∀ g,step g (f i)=g (f (i+1)))\/(¬ ok i/\∀ g,step g (f i)=some (bad i))) (he:∀ g,step g (f n)=some fin) :
  ∀ (d i m:Nat),i+d=n->d<m->(∀ j,j<i->ok j)->((∀ i,i<n->ok i)/\lp step m (f i)=some fin)\/∃ j,j<n/\¬ ok j/\lp step m (f i)=some (bad j):=by
 intro d
 induction d with
 | zero =>
  intro i m hi hm hok;obtain⟨m,rfl⟩:∃ k,m=k+1:=⟨m-1,by omega⟩;have:i=n:=by omega
  subst this;exact .inl ⟨hok,he _⟩
 | succ d ih =>
  intro i m hi hm hok;obtain⟨m,rfl⟩:∃ k,m=k+1:=⟨m-1,by omega⟩;rcases hs i (by omega) with ⟨h1,h2⟩ | ⟨h1,h2⟩
  · have := ih (i + 1) m (by omega) (by omega) (fun j hj => by
     by_cases e:j=i
     · subst e;exact h1
     · exact hok j (by omega))
    have e:lp step (m+1) (f i)=lp step m (f (i+1)):=h2 _;rw[e];exact this
  · exact .inr ⟨i,by omega,h1,h2 _⟩
theorem qmn {V T:Type} {step:(V->Option T)->V->Option T} (f:Nat->V) (n:Nat) (ok:Nat->Prop) (bad:Nat->T) (fin:T) (hn:n<18446744073709551616)
  (hs:∀ i,i<n->(ok i/\∀ g,step g (f i)=g (f (i+1)))\/(¬ ok i/\∀ g,step g (f i)=some (bad i))) (he:∀ g,step g (f n)=some fin) :
  ((∀ i,i<n->ok i)/\lp step K0 (f 0)=some fin)\/∃ i,i<n/\¬ ok i/\lp step K0 (f 0)=some (bad i) :=
 qy7 f n ok bad fin hs he n 0 K0 (by omega) hn (fun j h=>by omega)
abbrev qgN (n:NODE):Bool:=n.1
abbrev qb3 (n:NODE):Int:=n.2.1
abbrev nCut (n:NODE):RAT:=n.2.2.1
abbrev nL (n:NODE):Int:=n.2.2.2.1
abbrev nR (n:NODE):Int:=n.2.2.2.2.1
abbrev qAD (n:NODE):Bool:=n.2.2.2.2.2.1
abbrev nVal (n:NODE):RAT:=n.2.2.2.2.2.2.1
abbrev nCov (n:NODE):RAT:=n.2.2.2.2.2.2.2
def NSz (n:NODE) (k:Nat):Prop:=SzR (nCut n) k/\SzR (nVal n) k/\SzR (nCov n) k
def TSz (t:List NODE) (k:Nat):Prop:=∀ n∈t,NSz n k
def qf6 (t:List NODE) (f:Int):Prop:=∀ i (h:i<t.length),qgN t[i]=false->0<=qb3 t[i]/\qb3 t[i]<f/\1<=nL t[i]/\nL t[i]<t.length/\1<=nR t[i]/\nR t[i]<t.length
def qgX (t:List NODE):Prop:=∀ i (h:i<t.length),0<rv (nCov t[i])
def cov (t:List NODE) (i:Nat):Rat:=rv (nCov ((t[i]?).getD (false,0,((false,[]),[]),0,0,false,((false,[]),[]),((false,[]),[]))))
theorem qhf {t:List NODE} {i:Nat} (h:i<t.length):cov t i=rv (nCov t[i]):=by simp [cov,h]
def qAn (t:List NODE):Prop:=∀ i (h:i<t.length),qgN t[i]=false->rv (nCov t[i])=cov t (nL t[i]).toNat+cov t (nR t[i]).toNat
theorem qu4 {t:List NODE} {f:Int} (hl:t.length<4294967296):∃ a e,qeD t f=some (a,e)/\(e=0 ↔ qf6 t f):=by
 rcases qmn (step:=qa0) (fun i=>((t,f,t,((t.length:Nat):Int),(i:Int),()),())) t.length
   (fun i=>∀ h:i<t.length,qgN t[i]=false->0<=qb3 t[i]/\qb3 t[i]<f/\1<=nL t[i]/\nL t[i]<t.length/\1<=nR t[i]/\nR t[i]<t.length)
   (fun i => .inr (((i : Int), 8, ()), ())) (.inl ((), ())) (by omega) (by
    intro i hi;have d0:(i:Int)<((t.length:Nat):Int):=by omega
    have d1:(0:Int)<=(i:Int):=by omega
    have head:∀ g,qa0 g ((t,f,t,((t.length:Nat):Int),(i:Int),()),())=bif qgN t[i] then (g ((t,f,t,((t.length:Nat):Int),((i+1:Nat):Int),()),())) else (bif (decide (qb3 t[i]<0)) then (some (.inr (((i:Int),8,()),()))) else (bif (decide (qb3 t[i]>=f)) then (some (.inr (((i:Int),8,()),()))) else (bif (decide (nL t[i]<1)) then (some (.inr (((i:Int),8,()),()))) else (bif (decide (nL t[i]>=(t.length:Int))) then (some (.inr (((i:Int),8,()),()))) else (bif (decide (nR t[i]<1)) then (some (.inr (((i:Int),8,()),()))) else (bif (decide (nR t[i]>=(t.length:Int))) then (some (.inr (((i:Int),8,()),()))) else (g ((t,f,t,((t.length:Nat):Int),((i+1:Nat):Int),()),())))))))):=by
     intro g;rw[qa0,cnd d0,cnd d1,tN0,gE0 hi,bS0,qbr (by omega)];rfl
    cases hleaf:qgN t[i] with
    | true=>exact .inl ⟨fun h h2=>absurd h2 (by rw[hleaf];decide),fun g=>by rw[head,hleaf];rfl⟩
    | false =>
     by_cases h:0<=qb3 t[i]/\qb3 t[i]<f/\1<=nL t[i]/\nL t[i]<t.length/\1<=nR t[i]/\nR t[i]<t.length
     · refine .inl ⟨fun _ _ => h, fun g => ?_⟩;obtain⟨h1,h2,h3,h4,h5,h6⟩:=h;rw[head,hleaf,cond_false,cnd' (by omega),cnd' (by omega),cnd' (by omega),cnd' (by omega),cnd' (by omega),cnd' (by omega)]
     · refine .inr ⟨fun h' => h (h' hi hleaf), fun g => ?_⟩;rw[head,hleaf,cond_false];by_cases h1:qb3 t[i]<0
       · rw[cnd h1]
       by_cases h2:qb3 t[i]>=f
       · rw[cnd' h1,cnd h2]
       by_cases h3:nL t[i]<1
       · rw[cnd' h1,cnd' h2,cnd h3]
       by_cases h4:nL t[i]>=(t.length:Int)
       · rw[cnd' h1,cnd' h2,cnd' h3,cnd h4]
       by_cases h5:nR t[i]<1
       · rw[cnd' h1,cnd' h2,cnd' h3,cnd' h4,cnd h5]
       by_cases h6:nR t[i]>=(t.length:Int)
       · rw[cnd' h1,cnd' h2,cnd' h3,cnd' h4,cnd' h5,cnd h6]
       exfalso;apply h;omega) (by
    intro g;rw[qa0,cnd' (by omega)]) with ⟨h,hlp⟩ | ⟨i,hi,h,hlp⟩
 · have hlp : lp qa0 K0 ((t, f, t, ((t.length : Nat) : Int), 0, ()), ()) = some (.inl ((), ())) := hlp;refine⟨0,0,by rw[qeD,hlp];rfl,?_⟩;exact⟨fun _ i hi=>h i hi hi,fun _=>rfl⟩
 · have hlp : lp qa0 K0 ((t, f, t, ((t.length : Nat) : Int), 0, ()), ()) = some (.inr (((i : Int), 8, ()), ())) := hlp;refine⟨(i:Int),8,by rw[qeD,hlp];rfl,?_⟩;exact⟨fun e=>(by cases e),fun hp=>absurd (fun hh=>hp i hh) h⟩
theorem qv7 {t:List NODE} (hl:t.length<4294967296) {k:Nat} (hs:TSz t k) (hk:k<1099511627776):∃ a e,qeE t=some (a,e)/\(e=0 ↔ qgX t):=by
 rcases qmn (step:=qa1) (fun i=>((t,((t.length:Nat):Int),(i:Int),()),())) t.length (fun i=>∀ h:i<t.length,0<rv (nCov t[i]))
   (fun i => .inr (((i : Int), 12, ()), ())) (.inl ((), ())) (by omega) (by
    intro i hi;have d0:(i:Int)<((t.length:Nat):Int):=by omega
    have d1:(0:Int)<=(i:Int):=by omega
    have hsg:=qh3 ((hs _ (gM0 hi)).2.2.sm hk);have head:∀ g,qa1 g ((t,((t.length:Nat):Int),(i:Int),()),())=bif decide (rcmp (rv (nCov t[i])) 0<=0) then some (.inr (((i:Int),12,()),())) else g ((t,((t.length:Nat):Int),((i+1:Nat):Int),()),()):=by
      intro g;rw[qa1,cnd d0,cnd d1,tN0,gE0 hi,bS0,hsg,bS0,qbr (by omega)];rfl
    by_cases h:0<rv (nCov t[i])
    · exact .inl ⟨fun _=>h,fun g=>by rw[head,cnd' (fun h'=>Rat.not_le.2 h (qu3.1 h'))]⟩
    · exact .inr ⟨fun h'=>h (h' hi),fun g=>by rw[head,cnd (qu3.2 (Rat.not_lt.1 h))]⟩) (by
    intro g;rw[qa1,cnd' (by omega)]) with ⟨h,hlp⟩ | ⟨i,hi,h,hlp⟩
 · have hlp : lp qa1 K0 ((t, ((t.length : Nat) : Int), 0, ()), ()) = some (.inl ((), ())) := hlp;exact⟨0,0,by rw[qeE,hlp];rfl,fun _ i hi=>h i hi hi,fun _=>rfl⟩
 · have hlp : lp qa1 K0 ((t, ((t.length : Nat) : Int), 0, ()), ()) = some (.inr (((i : Int), 12, ()), ())) := hlp;exact⟨(i:Int),12,by rw[qeE,hlp];rfl,fun e=>(by cases e),fun hp=>absurd (fun hh=>hp i hh) h⟩
theorem qyG {t:List NODE} {f:Int} (hl:t.length<4294967296) {k:Nat} (hs:TSz t k) (hk:k<500000000000) (hr:qf6 t f):∃ a e,qgn t=some (a,e)/\(e=0 ↔ qAn t):=by
 rcases qmn (step:=qbl) (fun i=>((t,t,((t.length:Nat):Int),(i:Int),()),())) t.length (fun i=>∀ h:i<t.length,qgN t[i]=false->rv (nCov t[i])=cov t (nL t[i]).toNat+cov t (nR t[i]).toNat)
   (fun i => .inr (((i : Int), 13, ()), ())) (.inl ((), ())) (by omega) (by
    intro i hi;have d0:(i:Int)<((t.length:Nat):Int):=by omega
    have d1:(0:Int)<=(i:Int):=by omega
    cases hleaf:qgN t[i] with
    | true =>
     refine .inl ⟨fun h h2=>absurd h2 (by rw[hleaf];decide),fun g=>?_⟩;rw[qbl,cnd d0,cnd d1,tN0,gE0 hi,bS0,show t[i].1=true from hleaf,qbr (by omega)];rfl
    | false =>
     obtain⟨r1,r2,r3,r4,r5,r6⟩:=hr i hi hleaf;have l1:(nL t[i]).toNat<t.length:=by omega
     have l2:(nR t[i]).toNat<t.length:=by omega
     have c1:(0:Int)<=nL t[i]:=by omega
     have c2:(0:Int)<=nR t[i]:=by omega
     have z1:=(hs _ (gM0 l1)).2.2;have z2:=(hs _ (gM0 l2)).2.2;have z0:=(hs _ (gM0 hi)).2.2;have hadd:=qdb (z1.sm (by omega)) (z2.sm (by omega));rw[<- qhf l1,<- qhf l2] at hadd;have zz:SzQ (cov t (nL t[i]).toNat+cov t (nR t[i]).toNat) (max k 1+max k 1+1):=by
       rw[qhf l1,qhf l2];have y1:SzR (nCov t[(nL t[i]).toNat]) (max k 1):=⟨Nat.le_trans z1.1 (Nat.le_max_left _ _),Nat.le_trans z1.2 (Nat.le_max_left _ _)⟩;have y2:SzR (nCov t[(nR t[i]).toNat]) (max k 1):=⟨Nat.le_trans z2.1 (Nat.le_max_left _ _),Nat.le_trans z2.2 (Nat.le_max_left _ _)⟩;exact(y1.szQ (by omega)).add (y2.szQ (by omega))
     have hsame:=qo4 (z0.sm (by omega)) (zz.sm (by omega));rw[qai] at hsame;have head:∀ g,qbl g ((t,t,((t.length:Nat):Int),(i:Int),()),())=bif (!decide (rv (nCov t[i])=cov t (nL t[i]).toNat+cov t (nR t[i]).toNat)) then some (.inr (((i:Int),13,()),())) else g ((t,t,((t.length:Nat):Int),((i+1:Nat):Int),()),()):=by
       intro g;rw[qbl,cnd d0,cnd d1,tN0,gE0 hi,bS0,show t[i].1=false from hleaf,Bool.not_false,cond_true,cnd c1,gE0 l1,bS0,cnd c2,gE0 l2,bS0,hadd,bS0,hsame,bS0,qbr (by omega)];rfl
     by_cases h:rv (nCov t[i])=cov t (nL t[i]).toNat+cov t (nR t[i]).toNat
     · exact .inl ⟨fun _ _=>h,fun g=>by rw[head,decide_eq_true h];rfl⟩
     · exact .inr ⟨fun h'=>h (h' hi hleaf),fun g=>by rw[head,decide_eq_false h];rfl⟩) (by
    intro g;rw[qbl,cnd' (by omega)]) with ⟨h,hlp⟩ | ⟨i,hi,h,hlp⟩
 · have hlp : lp qbl K0 ((t, t, ((t.length : Nat) : Int), 0, ()), ()) = some (.inl ((), ())) := hlp;exact⟨0,0,by rw[qgn,hlp];rfl,fun _ i hi=>h i hi hi,fun _=>rfl⟩
 · have hlp : lp qbl K0 ((t, t, ((t.length : Nat) : Int), 0, ()), ()) = some (.inr (((i : Int), 13, ()), ())) := hlp;exact⟨(i:Int),13,by rw[qgn,hlp];rfl,fun e=>(by cases e),fun hp=>absurd (fun hh=>hp i hh) h⟩
def kids (t:List NODE) (i:Nat):List Nat :=
 match t[i]? with
 | some n=>if qgN n then [] else [(nL n).toNat,(nR n).toNat]
 | none=>[]
theorem qnz {t:List NODE} {i:Nat} (h:i<t.length) (hl:qgN t[i]=true):kids t i=[]:=by
 have hl':t[i].1=true:=hl;simp [kids,h,hl']
theorem qfu {t:List NODE} {i:Nat} (h:i<t.length) (hl:qgN t[i]=false):kids t i=[(nL t[i]).toNat,(nR t[i]).toNat]:=by
 have hl':t[i].1=false:=hl;simp [kids,h,hl']
def cnt (t:List NODE) (i j:Nat):Nat:=((List.range i).flatMap (kids t)).count j
theorem qtb (t:List NODE) (j:Nat):cnt t 0 j=0:=by simp [cnt]
theorem qk6 (t:List NODE) (i j:Nat):cnt t (i+1) j=cnt t i j+(kids t i).count j:=by
 simp [cnt,List.range_succ,List.flatMap_append]
theorem qyp (t:List NODE) (i j:Nat):cnt t i j<=2*i:=by
 induction i with
 | zero=>simp [qtb]
 | succ i ih =>
  rw[qk6];have h1:(kids t i).count j<=(kids t i).length:=List.count_le_length;have h2:(kids t i).length<=2:=by
   unfold kids;split
   · split<;>simp
   · simp
  omega
def qti (t:List NODE):Prop:=∃ rk:Nat->Nat,∀ i,i<t.length->rk i<=t.length/\∀ c∈kids t i,rk c<rk i
def qoD (t:List NODE):Prop:=(∀ j,0<j->j<t.length->cnt t t.length j=1)/\qti t
theorem qiZ:∀ {n:Nat} {V:List Nat},V.Nodup->(∀ x∈V,x<n)->V.length<=n
 | 0,V,_,h=>by
  cases V with
  | nil=>simp
  | cons x V=>have:=h x List.mem_cons_self;omega
 | n+1,V,hnd,h=>by
  by_cases hm:n∈V
  · have h1 : (V.erase n).Nodup := hnd.sublist List.erase_sublist;have h2:∀ x∈V.erase n,x<n:=by
     intro x hx;have:=(List.Nodup.mem_erase_iff hnd).1 hx;have:=h x this.2;omega
    have h3:=qiZ h1 h2;have h4:=List.length_erase_of_mem hm;omega
  · have := qiZ hnd (n := n) (fun x hx => by
     have:=h x hx;have:x≠n:=fun e=>hm (e ▸ hx)
     omega)
    omega
section
variable {t:List NODE} {f:Int}
theorem qpo (hr:qf6 t f) {i c:Nat} (hi:i<t.length) (hc:c∈kids t i):0<c/\c<t.length:=by
 cases hl:qgN t[i] with
 | true=>rw[qnz hi hl] at hc;cases hc
 | false =>
  obtain⟨_,_,h1,h2,h3,h4⟩:=hr i hi hl;rw[qfu hi hl] at hc;simp at hc;rcases hc with rfl | rfl<;>omega
theorem qrb (t:List NODE) (j:Nat) {a n:Nat} (ha:a<n):(kids t a).count j<=cnt t n j:=by
 induction n with
 | zero=>omega
 | succ n ih =>
  rw[qk6];by_cases e:a=n
  · subst e;omega
  · have:=ih (by omega);omega
theorem qv9 (t:List NODE) (j:Nat) {a b n:Nat} (hab:a<b) (hb:b<n):(kids t a).count j+(kids t b).count j<=cnt t n j:=by
 induction n with
 | zero=>omega
 | succ n ih =>
  rw[qk6];by_cases e:b=n
  · subst e;have:=qrb t j hab;omega
  · have:=ih (by omega);omega
theorem qtE (hc:∀ j,0<j->j<t.length->cnt t t.length j=1) (hr:qf6 t f) {a b j:Nat} (ha:a<t.length) (hb:b<t.length) (h1:j∈kids t a) (h2:j∈kids t b):a=b:=by
 obtain⟨j0,jl⟩:=qpo hr ha h1;have c1:=List.count_pos_iff.2 h1;have c2:=List.count_pos_iff.2 h2;have:=hc j j0 jl;rcases Nat.lt_trichotomy a b with h | h | h
 · have:=qv9 t j h hb;omega
 · exact h
 · have:=qv9 t j h ha;omega
theorem qua (hc:∀ j,0<j->j<t.length->cnt t t.length j=1) (hr:qf6 t f) {a:Nat} (ha:a<t.length):(kids t a).Nodup:=by
 rw[List.nodup_iff_count];intro j;by_cases hj:j∈kids t a
 · obtain ⟨j0, jl⟩ := qpo hr ha hj;have h1:=qrb t j ha;have h2:=hc j j0 jl;exact Nat.le_trans h1 (Nat.le_of_eq h2)
 · rw[List.count_eq_zero_of_not_mem hj];omega
theorem qhU (hc:∀ j,0<j->j<t.length->cnt t t.length j=1) {j:Nat} (h0:0<j) (hj:j<t.length):∃ p,p<t.length/\j∈kids t p:=by
 have h1:=hc j h0 hj;have h2:j∈(List.range t.length).flatMap (kids t):=List.count_pos_iff.1 (by rw[<- cnt,h1];omega);obtain⟨p,hp,hm⟩:=List.mem_flatMap.1 h2;exact⟨p,by simpa using hp,hm⟩
end
structure Srch (t:List NODE) (V S:List Nat):Prop where
 nd:(V++S).Nodup
 lt:∀ x∈V++S,x<t.length
 par:∀ c∈V++S,c≠0->∃ p∈V,c∈kids t p
 kid:∀ p∈V,∀ c∈kids t p,c∈V++S
 root:0∈V++S
 ord:V.Pairwise fun a b=>a ∉ kids t b
 self:∀ x∈V,x ∉ kids t x
theorem Srch.init {t:List NODE} (h:0<t.length):Srch t [] [0] where
 nd:=by simp
 lt:=by simpa using h
 par:=by simp
 kid:=by simp
 root:=by simp
 ord:=List.Pairwise.nil
 self:=by simp
theorem Srch.step {t:List NODE} {f:Int} (hc:∀ j,0<j->j<t.length->cnt t t.length j=1) (hr:qf6 t f) {V S:List Nat} {x:Nat} (h:Srch t V (S++[x])):Srch t (V++[x]) (S++kids t x):=by
 have hxlt:x<t.length:=h.lt x (by simp);have hnd:=h.nd;rw[<- List.append_assoc,List.nodup_append] at hnd;obtain⟨n1,n2,n3⟩:=hnd;have hxVS:x ∉ V++S:=fun hx=>n3 x hx x (by simp) rfl
 have hnew:∀ c∈kids t x,c ∉ V++(S++[x]):=by
   intro c hcx hmem;obtain⟨c0,cl⟩:=qpo hr hxlt hcx;obtain⟨p,hp,hcp⟩:=h.par c hmem (by omega);have:=qtE hc hr (h.lt p (List.mem_append_left _ hp)) hxlt hcp hcx;subst this;exact hxVS (List.mem_append_left _ hp)
 have hperm:((V++[x])++(S++kids t x)).Perm ((V++(S++[x]))++kids t x):=by
   have e1:(V++[x])++(S++kids t x)=V++([x]++S)++kids t x:=by simp
   have e2:(V++(S++[x]))++kids t x=V++(S++[x])++kids t x:=rfl;rw[e1,e2];exact List.Perm.append_right _ (List.Perm.append_left _ List.perm_append_comm)
 have hmem:∀ y,y∈(V++[x])++(S++kids t x) ↔ y∈V++(S++[x])\/y∈kids t x:=by
   intro y;rw[hperm.mem_iff,List.mem_append]
 refine⟨?_,?_,?_,?_,?_,?_,?_⟩
 · rw [hperm.nodup_iff, List.nodup_append];exact⟨h.nd,qua hc hr hxlt,fun a ha b hb e=>hnew b hb (e ▸ ha)⟩
 · intro y hy;rcases(hmem y).1 hy with hy | hy
   · exact h.lt y hy
   · exact(qpo hr hxlt hy).2
 · intro c hcm hc0;rcases(hmem c).1 hcm with hy | hy
   · obtain ⟨p, hp, hcp⟩ := h.par c hy hc0;exact⟨p,List.mem_append_left _ hp,hcp⟩
   · exact⟨x,by simp,hy⟩
 · intro p hp c hcp;rw[hmem];rcases List.mem_append.1 hp with hp | hp
   · exact .inl (h.kid p hp c hcp)
   · simp at hp;subst hp;exact .inr hcp
 · rw[hmem];exact .inl h.root
 · rw [List.pairwise_append];refine⟨h.ord,by simp,fun a ha b hb=>?_⟩;simp at hb;subst hb;intro hak;exact hnew a hak (List.mem_append_left _ ha)
 · intro y hy;rcases List.mem_append.1 hy with hy | hy
   · exact h.self y hy
   · simp at hy; subst hy;intro hk;exact hnew y hk (by simp)
theorem Srch.ranked {t:List NODE} {V:List Nat} (h:Srch t V []) (hall:∀ i,i<t.length->i∈V):qti t:=by
 have hnd:V.Nodup:=by simpa using h.nd
 have hlen:V.length<=t.length:=qiZ hnd (fun x hx=>h.lt x (by simpa using hx));refine⟨fun i=>V.length-V.idxOf i,fun i hi=>⟨by show V.length-V.idxOf i<=t.length;omega,fun c hc=>?_⟩⟩;have hiV:=hall i hi;have hcV:c∈V:=by simpa using h.kid i hiV c hc
 have h1:V.idxOf i<V.length:=List.idxOf_lt_length_iff.2 hiV;have h2:V.idxOf c<V.length:=List.idxOf_lt_length_iff.2 hcV;have g1:V[V.idxOf i]=i:=List.getElem_idxOf h1;have g2:V[V.idxOf c]=c:=List.getElem_idxOf h2;have hne:¬ V.idxOf c<=V.idxOf i:=by
  intro hle;by_cases e:V.idxOf c=V.idxOf i
  · have : c = i := by rw [<- g1, <- g2]; simp [e]
    subst this;exact h.self c hiV hc
  · have := List.pairwise_iff_getElem.1 h.ord _ _ h2 h1 (by omega);rw[g1,g2] at this;exact this hc
 show V.length-V.idxOf c<V.length-V.idxOf i;omega
theorem Srch.all {t:List NODE} {V:List Nat} (h:Srch t V []) (hc:∀ j,0<j->j<t.length->cnt t t.length j=1) (hrk:qti t):∀ i,i<t.length->i∈V:=by
 obtain⟨rk,hrk⟩:=hrk;have key:∀ (d i:Nat),i<t.length->t.length-rk i<=d->i∈V:=by
  intro d
  induction d with
  | zero =>
   intro i hi hd;by_cases h0:i=0
   · subst h0;simpa using h.root
   · obtain ⟨p, hp, hm⟩ := qhU hc (by omega) hi;have h1:=(hrk p hp).1;have h2:=(hrk p hp).2 i hm;omega
  | succ d ih =>
   intro i hi hd;by_cases h0:i=0
   · subst h0;simpa using h.root
   · obtain ⟨p, hp, hm⟩ := qhU hc (by omega) hi;have h1:=(hrk p hp).1;have h2:=(hrk p hp).2 i hm;have:=ih p hp (by omega);simpa using h.kid p this i hm
 exact fun i hi=>key _ i hi (Nat.le_refl _)
def cntL (t:List NODE) (i:Nat):List Int:=(List.range t.length).map fun j=>((cnt t i j:Nat):Int)
@[simp] theorem qmJ (t:List NODE) (i:Nat):(cntL t i).length=t.length:=by simp [cntL]
theorem qis {t:List NODE} {i j:Nat} (h:j<t.length):(cntL t i)[j]?=some ((cnt t i j:Nat):Int):=by simp [cntL,h]
theorem qwa {t:List NODE} {i a b:Nat} (ha:a<t.length) (hb:b<t.length) (hk:kids t i=[a,b]) :
   ((cntL t i).set a (((cnt t i a:Nat):Int)+1))[b]?=some ((cnt t i b+(if a=b then 1 else 0):Nat):Int) /\
   ((cntL t i).set a (((cnt t i a:Nat):Int)+1)).set b (((cnt t i b+(if a=b then 1 else 0):Nat):Int)+1)=cntL t (i+1):=by
 constructor
 · rw [List.getElem?_set];by_cases e:a=b
   · subst e;simp [ha]
   · rw[if_neg e,qis hb];simp [e]
 · apply List.ext_getElem?;intro j;by_cases hj:j<t.length
   · rw [qis hj, qk6, hk, List.getElem?_set, List.getElem?_set];by_cases e1:b=j
     · subst e1;by_cases e2:a=b
       · subst e2;simp [ha];omega
       · simp [hb,e2,List.count_cons]
     · by_cases e2 : a = j
       · subst e2;simp [ha,e1,List.count_cons]
       · rw[if_neg e1,if_neg e2,qis hj];simp [List.count_cons,e1,e2]
   · rw[List.getElem?_eq_none (by simp;omega),List.getElem?_eq_none (by simp;omega)]
theorem qrt {t:List NODE} {f:Int} (hl:t.length<4294967296) (hr:qf6 t f) :
  lp qbB K0 ((t,List.replicate t.length 0,t,((t.length:Nat):Int),0,()),())=some ((t,cntL t t.length,()),()):=by
 have e0:cntL t 0=List.replicate t.length 0:=by simp [cntL,qtb,List.map_const']
 have:=qfM (step:=qbB) (fun i=>((t,cntL t i,t,((t.length:Nat):Int),(i:Int),()),())) t.length (r:=((t,cntL t t.length,()),())) (by omega) (by
  intro g i hi;have d0:(i:Int)<((t.length:Nat):Int):=by omega
  have d1:(0:Int)<=(i:Int):=by omega
  cases hleaf:qgN t[i] with
  | true =>
   have:cntL t (i+1)=cntL t i:=by
    unfold cntL;congr 1;funext j;rw[qk6,qnz hi hleaf];simp
   rw[qbB,cnd d0,cnd d1,tN0,gE0 hi,bS0,show t[i].1=true from hleaf,qbr (by omega),this];rfl
  | false =>
   obtain⟨r1,r2,r3,r4,r5,r6⟩:=hr i hi hleaf;have hk:=qfu hi hleaf;have l1:(nL t[i]).toNat<t.length:=by omega
   have l2:(nR t[i]).toNat<t.length:=by omega
   have c1:(0:Int)<=nL t[i]:=by omega
   have c2:(0:Int)<=nR t[i]:=by omega
   have c3:nL t[i]<((cntL t i).length:Int):=by rw[qmJ];omega
   obtain⟨s1,s2⟩:=qwa l1 l2 hk;have b1:=qyp t i (nL t[i]).toNat;have b2:=qyp t i (nR t[i]).toNat;have e1:iadd .i64 ((cnt t i (nL t[i]).toNat:Nat):Int) 1=((cnt t i (nL t[i]).toNat:Nat):Int)+1:=qbr (by omega);have e2:iadd .i64 ((cnt t i (nR t[i]).toNat+(if (nL t[i]).toNat=(nR t[i]).toNat then 1 else 0):Nat):Int) 1=((cnt t i (nR t[i]).toNat+(if (nL t[i]).toNat=(nR t[i]).toNat then 1 else 0):Nat):Int)+1:=qbr (by split<;>omega);have c4:nR t[i]<(((cntL t i).set (nL t[i]).toNat (((cnt t i (nL t[i]).toNat:Nat):Int)+1)).length:Int):=by rw[List.length_set,qmJ];omega
   rw[qbB,cnd d0,cnd d1,tN0,gE0 hi,bS0,show t[i].1=false from hleaf,Bool.not_false,cond_true,cnd2 c1 c3,qis l1,bS0,cnd2 c1 c3,bS0,e1,cnd2 c2 c4,s1,bS0,cnd2 c2 c4,bS0,e2,s2,qbr (by omega)];rfl) (by
  intro g;rw[qbB,cnd' (by omega)])
 rw[<- e0];exact this
theorem qpW {t:List NODE} {f:Int} (hl:t.length<4294967296) (h0:0<t.length) (hr:qf6 t f) (hc:∀ j,0<j->j<t.length->cnt t t.length j=1) :
  ∃ V,Srch t V []/\lp qbC K0 ((t,List.replicate t.length false,[0],()),())=some ((qei t.length V,()),()):=by
 obtain⟨r,⟨V,hV,rfl⟩,hlp⟩:=qpm (step:=qbC) (fun s=>∃ V S:List Nat,Srch t V S/\s=((t,qei t.length V,ints S,()),())) (fun s=>t.length+1-(s.1.2.1.filter id).length)
  (fun r=>∃ V,Srch t V []/\r=((qei t.length V,()),())) (v:=((t,List.replicate t.length false,[0],()),()))
  ⟨[], [0], Srch.init h0, by simp [qei, ints, List.map_const']⟩ (by simp; omega) (by
   rintro s ⟨V,S,hS,rfl⟩;rcases List.eq_nil_or_concat S with rfl | ⟨S',x,hSx⟩
   · exact .inl ⟨_,⟨V,hS,rfl⟩,fun g=>by rw[qbC,cnd' (by simp [ints])]⟩
   · rw [List.concat_eq_append] at hSx;subst hSx;have hnd:=hS.nd;have hVl:(V++(S'++[x])).length<=t.length:=qiZ hnd hS.lt;have hSl:S'.length+1<=t.length:=by simp at hVl;omega
     have hxlt:x<t.length:=hS.lt x (by simp);have hst:=Srch.step hc hr hS;have hxV:x ∉ V:=by
       intro hx;rw[List.nodup_append] at hnd;exact hnd.2.2 x hx x (by simp) rfl
     have hcount:∀ U:List Nat,U.Nodup->(∀ y∈U,y<t.length)->((qei t.length U).filter id).length=U.length:=by
       intro U hU hlt;have e1:((qei t.length U).filter id).length=((List.range t.length).filter fun j=>decide (j∈U)).length:=by
         unfold qei;rw[List.filter_map,List.length_map];rfl
       rw[e1];refine List.Perm.length_eq ?_;rw[List.perm_iff_count];intro a;have n1:((List.range t.length).filter fun j=>decide (j∈U)).Nodup:=List.Nodup.sublist List.filter_sublist List.nodup_range;have m1:a∈((List.range t.length).filter fun j=>decide (j∈U)) ↔ a∈U:=by
         simp;exact hlt a
       by_cases ha:a∈U
       · rw[List.Nodup.count hU,if_pos ha,List.Nodup.count n1,if_pos (m1.2 ha)]
       · rw[List.count_eq_zero_of_not_mem ha,List.count_eq_zero_of_not_mem (fun h=>ha (m1.1 h))]
     have hVnd:V.Nodup:=(List.nodup_append.1 hnd).1;have hm1:=hcount V hVnd (fun y hy=>hS.lt y (List.mem_append_left _ hy));have hVx:(V++[x]).Nodup:=(List.nodup_append.1 hst.nd).1;have hm2:=hcount (V++[x]) hVx (fun y hy=>hst.lt y (List.mem_append_left _ hy));refine .inr ⟨_,⟨V++[x],S'++kids t x,hst,rfl⟩,?_,fun g=>?_⟩
     · show t.length + 1 - ((qei t.length (V ++ [x])).filter id).length < t.length + 1 - ((qei t.length V).filter id).length;rw[hm1,hm2];simp at hVl ⊢;omega
     · have hlen : (ints (S' ++ [x])).length = S'.length + 1 := by simp
       have e1:isub .i64 ((S'.length+1:Nat):Int) 1=((S'.length:Nat):Int):=by rw[qdF]<;>omega
       have c0:((S'.length+1:Nat):Int)>0:=by omega
       have c1:(0:Int)<=((S'.length:Nat):Int):=by omega
       have c2:((S'.length:Nat):Int)<((S'.length+1:Nat):Int):=by omega
       have g1:(ints (S'++[x]))[S'.length]?=some ((x:Nat):Int):=by simp [ints]
       have c3:(decide ((0:Int)<=((S'.length:Nat):Int))&&decide (((S'.length:Nat):Int)<=((S'.length:Nat):Int))&&decide (((S'.length:Nat):Int)<=((S'.length+1:Nat):Int)))=true:=by
         rw[decide_eq_true c1,decide_eq_true (Int.le_refl _),decide_eq_true (Int.le_of_lt c2)];rfl
       have c4:(0:Int)<=((x:Nat):Int):=by omega
       have c5:((x:Nat):Int)<((qei t.length V).length:Int):=by simp;omega
       have e2:(((S'.length:Nat):Int)-0).toNat=S'.length:=by omega
       have e3:(ints (S'++[x])).take S'.length=ints S':=by simp [ints]
       rw[qbC,hlen,cnd c0,e1,cnd2 c1 c2,tN0,g1,bS0,c3,cond_true,cnd2 c4 c5,tN0,qhl hxlt,bS0,cnd c4,gE0 hxlt,bS0,qto hxlt,e2,e3];cases hleaf:qgN t[x] with
       | true =>
         rw[show t[x].1=true from hleaf,qnz hxlt hleaf,List.append_nil];rfl
       | false =>
         obtain⟨r1,r2,r3,r4,r5,r6⟩:=hr x hxlt hleaf;have q1:(((nL t[x]).toNat:Nat):Int)=nL t[x]:=by omega
         have q2:(((nR t[x]).toNat:Nat):Int)=nR t[x]:=by omega
         have e4:ints (S'++kids t x)=ints S'++[nL t[x],nR t[x]]:=by
          rw[qfu hxlt hleaf];simp only[ints,List.map_append,List.map_cons,List.map_nil,q1,q2]
         have hb8:((ints S').length+2)*8<=140737488355328:=by rw[qxp];omega
         rw[show t[x].1=false from hleaf,blt hb8,cond_true,Bool.not_false,cond_true,e4])
 exact⟨V,hV,hlp⟩
theorem qwP {t:List NODE} {f:Int} (hl:t.length<4294967296) (h0:0<t.length) (hr:qf6 t f):∃ a e,qgy t=some (a,e)/\(e=0 ↔ qoD t):=by
 have hcount:=qrt hl hr;have gd:(decide ((t.length:Int)=(t.length:Int))&&decide (0<=(t.length:Int))&&decide (((8:Nat):Int)*(t.length:Int)<=281474976710656)&&decide ((t.length:Int)<=9223372036854775807))=true:=by
   have h1:(0:Int)<=(t.length:Int):=by omega
   have h2:((8:Nat):Int)*(t.length:Int)<=281474976710656:=by omega
   have h3:(t.length:Int)<=9223372036854775807:=by omega
   rw[decide_eq_true h1,decide_eq_true h2,decide_eq_true h3,decide_eq_true rfl];rfl
 have gd1:(decide ((t.length:Int)=(t.length:Int))&&decide (0<=(t.length:Int))&&decide (((1:Nat):Int)*(t.length:Int)<=281474976710656)&&decide ((t.length:Int)<=9223372036854775807))=true:=by
   have h1:(0:Int)<=(t.length:Int):=by omega
   have h2:((1:Nat):Int)*(t.length:Int)<=281474976710656:=by omega
   have h3:(t.length:Int)<=9223372036854775807:=by omega
   rw[decide_eq_true h1,decide_eq_true h2,decide_eq_true h3,decide_eq_true rfl];rfl
 rw[qgy,gd,cond_true,tN0,hcount,bS0,qmJ];rcases qmn (step:=qaN) (fun i=>((t,cntL t t.length,((t.length:Nat):Int),(i:Int),()),())) t.length (fun i=>i=0\/cnt t t.length i=1) (fun i=>.inr (((i:Int),11,()),())) (.inl ((t,()),())) (by omega) (by
     intro i hi;have d0:(i:Int)<((t.length:Nat):Int):=by omega
     have d1:(0:Int)<=(i:Int):=by omega
     have d2:(i:Int)<((cntL t t.length).length:Int):=by rw[qmJ];omega
     by_cases hi0:i=0
     · refine .inl ⟨.inl hi0, fun g => ?_⟩;rw[qaN,cnd d0,cnd2 d1 d2,tN0,qis hi,bS0,cnd' (by omega),qbr (by omega)];rfl
     · by_cases h1 : cnt t t.length i = 1
       · refine .inl ⟨.inr h1, fun g => ?_⟩;rw[qaN,cnd d0,cnd2 d1 d2,tN0,qis hi,bS0,cnd (by omega),decide_eq_true (by omega),qbr (by omega)];rfl
       · refine .inr ⟨fun h => by rcases h with h | h <;> contradiction, fun g => ?_⟩;rw[qaN,cnd d0,cnd2 d1 d2,tN0,qis hi,bS0,cnd (by omega),decide_eq_false (by omega)];rfl) (by
     intro g;rw[qaN,cnd' (by omega)]) with ⟨h,hlp⟩ | ⟨i,hi,h,hlp⟩
 · have hlp : lp qaN K0 ((t, cntL t t.length, ((t.length : Nat) : Int), 0, ()), ()) = some (.inl ((t, ()), ())) := hlp;have hc:∀ j,0<j->j<t.length->cnt t t.length j=1:=fun j h1 h2=>by
     rcases h j h2 with h3 | h3
     · omega
     · exact h3
   obtain⟨V,hV,hlp2⟩:=qpW hl h0 hr hc;rw[hlp,bS0];dsimp only;rw[gd1,cond_true,tN0,hlp2,bS0];dsimp only;rw[qoe];rcases qmn (step:=qaZ) (fun i=>((qei t.length V,((t.length:Nat):Int),(i:Int),()),())) t.length (fun i=>i∈V) (fun i=>.inr (((i:Int),11,()),())) (.inl ((),())) (by omega) (by
       intro i hi;have d0:(i:Int)<((t.length:Nat):Int):=by omega
       have d1:(0:Int)<=(i:Int):=by omega
       have d2:(i:Int)<((qei t.length V).length:Int):=by rw[qoe];omega
       by_cases hiV:i∈V
       · refine .inl ⟨hiV, fun g => ?_⟩;rw[qaZ,cnd d0,cnd2 d1 d2,tN0,qhl hi,bS0,decide_eq_true hiV,qbr (by omega)];rfl
       · refine .inr ⟨hiV, fun g => ?_⟩;rw[qaZ,cnd d0,cnd2 d1 d2,tN0,qhl hi,bS0,decide_eq_false hiV];rfl) (by
       intro g;rw[qaZ,cnd' (by omega)]) with ⟨h2,hlp3⟩ | ⟨i,hi,h2,hlp3⟩
   · have hlp3 : lp qaZ K0 ((qei t.length V, ((t.length : Nat) : Int), 0, ()), ()) = some (.inl ((), ())) := hlp3;rw[hlp3];exact⟨0,0,rfl,fun _=>⟨hc,hV.ranked h2⟩,fun _=>rfl⟩
   · have hlp3 : lp qaZ K0 ((qei t.length V, ((t.length : Nat) : Int), 0, ()), ()) = some (.inr (((i : Int), 11, ()), ())) := hlp3;rw[hlp3];exact⟨(i:Int),11,rfl,fun e=>(by cases e),fun hp=>absurd (hV.all hc hp.2 i hi) h2⟩
 · have hlp : lp qaN K0 ((t, cntL t t.length, ((t.length : Nat) : Int), 0, ()), ()) = some (.inr (((i : Int), 11, ()), ())) := hlp;rw[hlp];refine⟨(i:Int),11,rfl,fun e=>(by cases e),fun hp=>?_⟩;exfalso;apply h;by_cases hi0:i=0
   · exact .inl hi0
   · exact .inr (hp.1 i (by omega) hi)
theorem qxg {V T:Type} {step:(V->Option T)->V->Option T} (f:Nat->V) (n:Nat) (ok:Nat->Prop) (Q:T->Prop) (fin:T)
  (hs:∀ i,i<n->(∀ j,j<i->ok j)->(ok i/\∀ g,step g (f i)=g (f (i+1)))\/(¬ ok i/\∃ r,Q r/\∀ g,step g (f i)=some r)) (he:∀ g,step g (f n)=some fin) :
  ∀ (d i m:Nat),i+d=n->d<m->(∀ j,j<i->ok j)->((∀ i,i<n->ok i)/\lp step m (f i)=some fin)\/(¬ (∀ i,i<n->ok i)/\∃ r,Q r/\lp step m (f i)=some r):=by
 intro d
 induction d with
 | zero =>
  intro i m hi hm hok;obtain⟨m,rfl⟩:∃ k,m=k+1:=⟨m-1,by omega⟩;have:i=n:=by omega
  subst this;exact .inl ⟨hok,he _⟩
 | succ d ih =>
  intro i m hi hm hok;obtain⟨m,rfl⟩:∃ k,m=k+1:=⟨m-1,by omega⟩;rcases hs i (by omega) hok with ⟨h1,h2⟩ | ⟨h1,r,h2,h3⟩
  · have := ih (i + 1) m (by omega) (by omega) (fun j hj => by
     by_cases e:j=i
     · subst e;exact h1
     · exact hok j (by omega))
    have e:lp step (m+1) (f i)=lp step m (f (i+1)):=h2 _;rw[e];exact this
  · exact .inr ⟨fun h=>h1 (h i (by omega)),r,h2,h3 _⟩
theorem qy6 {V T:Type} {step:(V->Option T)->V->Option T} (f:Nat->V) (n:Nat) (ok:Nat->Prop) (Q:T->Prop) (fin:T) (hn:n<18446744073709551616)
  (hs:∀ i,i<n->(∀ j,j<i->ok j)->(ok i/\∀ g,step g (f i)=g (f (i+1)))\/(¬ ok i/\∃ r,Q r/\∀ g,step g (f i)=some r)) (he:∀ g,step g (f n)=some fin) :
  ((∀ i,i<n->ok i)/\lp step K0 (f 0)=some fin)\/(¬ (∀ i,i<n->ok i)/\∃ r,Q r/\lp step K0 (f 0)=some r) :=
 qxg f n ok Q fin hs he n 0 K0 (by omega) hn (fun j h=>by omega)
def qjH (n:NODE):Prop:=0<=qb3 n/\qb3 n<=64/\0<=nL n/\nL n<=255/\0<=nR n/\nR n<=255
def qth (t:List NODE):Prop:=1<=t.length/\t.length<=255/\∀ i (h:i<t.length),qjH t[i]
def qxY (m:qaq):Prop:=0<=m.1/\m.1<=64/\m.2.length<=64/\∀ i (h:i<m.2.length),qth m.2[i]
theorem que (a:List (List NODE)) (b c:Int) {t:List NODE} (hl:t.length<4294967296) :
   ((∀ i (h:i<t.length),qjH t[i])/\lp qbM K0 ((a,b,c,t,((t.length:Nat):Int),0,()),())=some (.inl ((a,b,c,()),()))) \/
   (¬ (∀ i (h:i<t.length),qjH t[i])/\lp qbM K0 ((a,b,c,t,((t.length:Nat):Int),0,()),())=some (.inr ((false,()),()))):=by
 rcases qmn (step:=qbM) (fun i=>((a,b,c,t,((t.length:Nat):Int),(i:Int),()),())) t.length (fun i=>∀ h:i<t.length,qjH t[i]) (fun i=>.inr ((false,()),())) (.inl ((a,b,c,()),())) (by omega) (by
    intro i hi;have d0:(i:Int)<((t.length:Nat):Int):=by omega
    have d1:(0:Int)<=(i:Int):=by omega
    have head:∀ g,qbM g ((a,b,c,t,((t.length:Nat):Int),(i:Int),()),())=bif (decide (qb3 t[i]<0)) then (some (.inr ((false,()),()))) else (bif (decide (qb3 t[i]>64)) then (some (.inr ((false,()),()))) else (bif (decide (nL t[i]<0)) then (some (.inr ((false,()),()))) else (bif (decide (nL t[i]>255)) then (some (.inr ((false,()),()))) else (bif (decide (nR t[i]<0)) then (some (.inr ((false,()),()))) else (bif (decide (nR t[i]>255)) then (some (.inr ((false,()),()))) else (g ((a,b,c,t,((t.length:Nat):Int),((i+1:Nat):Int),()),()))))))):=by
      intro g;rw[qbM,cnd d0,cnd d1,tN0,gE0 hi,bS0,qbr (by omega)];rfl
    by_cases h:qjH t[i]
    · refine .inl ⟨fun _ => h, fun g => ?_⟩;obtain⟨h1,h2,h3,h4,h5,h6⟩:=h;rw[head,cnd' (by omega),cnd' (by omega),cnd' (by omega),cnd' (by omega),cnd' (by omega),cnd' (by omega)]
    · refine .inr ⟨fun h' => h (h' hi), fun g => ?_⟩;rw[head];by_cases h1:qb3 t[i]<0
      · rw[cnd h1]
      by_cases h2:qb3 t[i]>64
      · rw[cnd' h1,cnd h2]
      by_cases h3:nL t[i]<0
      · rw[cnd' h1,cnd' h2,cnd h3]
      by_cases h4:nL t[i]>255
      · rw[cnd' h1,cnd' h2,cnd' h3,cnd h4]
      by_cases h5:nR t[i]<0
      · rw[cnd' h1,cnd' h2,cnd' h3,cnd' h4,cnd h5]
      by_cases h6:nR t[i]>255
      · rw[cnd' h1,cnd' h2,cnd' h3,cnd' h4,cnd' h5,cnd h6]
      exfalso;apply h;unfold qjH;omega) (by
    intro g;rw[qbM,cnd' (by omega)]) with ⟨h,hlp⟩ | ⟨i,hi,h,hlp⟩
 · exact .inl ⟨fun i hi=>h i hi hi,hlp⟩
 · exact .inr ⟨fun hh=>h (fun hi=>hh i hi),hlp⟩
theorem qzH {m:qaq} (hl:m.2.length<4294967296) (ht:∀ t∈m.2,t.length<4294967296):∃ b,qhT m=some b/\(b=true ↔ qxY m):=by
 unfold qhT;by_cases h1:m.1<0
 · exact⟨false,by rw[cnd h1],fun h=>(by cases h),fun h=>by have:=h.1;omega⟩
 by_cases h2:m.1>64
 · exact⟨false,by rw[cnd' h1,cnd h2],fun h=>(by cases h),fun h=>by have:=h.2.1;omega⟩
 by_cases h3:((m.2.length:Nat):Int)>64
 · exact⟨false,by rw[cnd' h1,cnd' h2,cnd h3],fun h=>(by cases h),fun h=>by have:=h.2.2.1;omega⟩
 rw[cnd' h1,cnd' h2,cnd' h3];rcases qmn (step:=qba) (fun i=>((m.2,((m.2.length:Nat):Int),(i:Int),()),())) m.2.length (fun i=>∀ h:i<m.2.length,qth m.2[i]) (fun i=>.inr ((false,()),())) (.inl ((),())) (by omega) (by
    intro i hi;have d0:(i:Int)<((m.2.length:Nat):Int):=by omega
    have d1:(0:Int)<=(i:Int):=by omega
    have hti:=ht _ (gM0 hi);by_cases g1:((m.2[i].length:Nat):Int)<1
    · refine .inr ⟨fun h => by have := (h hi).1; omega, fun g => ?_⟩;rw[qba,cnd d0,cnd d1,tN0,gE0 hi,bS0,cnd g1]
    by_cases g2:((m.2[i].length:Nat):Int)>255
    · refine .inr ⟨fun h => by have := (h hi).2.1; omega, fun g => ?_⟩;rw[qba,cnd d0,cnd d1,tN0,gE0 hi,bS0,cnd' g1,cnd g2]
    rcases que m.2 ((m.2.length:Nat):Int) (i:Int) hti with ⟨h,hlp⟩ | ⟨h,hlp⟩
    · refine .inl ⟨fun _ => ⟨by omega, by omega, h⟩, fun g => ?_⟩;rw[qba,cnd d0,cnd d1,tN0,gE0 hi,bS0,cnd' g1,cnd' g2,hlp,bS0];dsimp only;rw[qbr (by omega)];rfl
    · refine .inr ⟨fun hh => h (hh hi).2.2, fun g => ?_⟩;rw[qba,cnd d0,cnd d1,tN0,gE0 hi,bS0,cnd' g1,cnd' g2,hlp,bS0]) (by
    intro g;rw[qba,cnd' (by omega)]) with ⟨h,hlp⟩ | ⟨i,hi,h,hlp⟩
 · have hlp : lp qba K0 ((m.2, ((m.2.length : Nat) : Int), 0, ()), ()) = some (.inl ((), ())) := hlp;exact⟨true,by rw[hlp];rfl,fun _=>⟨by omega,by omega,by omega,fun i hi=>h i hi hi⟩,fun _=>rfl⟩
 · have hlp : lp qba K0 ((m.2, ((m.2.length : Nat) : Int), 0, ()), ()) = some (.inr ((false, ()), ())) := hlp;exact⟨false,by rw[hlp];rfl,fun h'=>(by cases h'),fun hp=>absurd (fun hh=>hp.2.2.2 i hh) h⟩
def qrj (f:Int):Nat->List NODE->Prop
 | 0,t=>qf6 t f
 | 1,t=>qoD t
 | 2,t=>qgX t
 | _,t=>qAn t
def Good (m:qaq):Prop:=qxY m/\∀ r,r<4->∀ i (h:i<m.2.length),qrj m.1 r m.2[i]
theorem Good.ranges {m:qaq} (h:Good m) {i:Nat} (hi:i<m.2.length):qf6 m.2[i] m.1:=h.2 0 (by decide) i hi
theorem Good.shape {m:qaq} (h:Good m) {i:Nat} (hi:i<m.2.length):qoD m.2[i]:=h.2 1 (by decide) i hi
theorem Good.covers {m:qaq} (h:Good m) {i:Nat} (hi:i<m.2.length):qgX m.2[i]:=h.2 2 (by decide) i hi
def MSz (m:qaq) (k:Nat):Prop:=∀ t∈m.2,TSz t k
theorem qsg {m:qaq} {k:Nat} (hf:qxY m) (hs:MSz m k) (hk:k<500000000000) {r:Nat} (hr:r<4) (hlow:∀ r',r'<r->∀ i (h:i<m.2.length),qrj m.1 r' m.2[i]) (z:Int×Int×Int×Int) :
   ((∀ i (h:i<m.2.length),qrj m.1 r m.2[i])/\lp qaA K0 (((r:Int),(r:Int),m.2,((m.2.length:Nat):Int),0,()),((m.1,m.2,()),(z.1,z.2.1,z.2.2.1,z.2.2.2,()),()))=some (.inl (((r:Int),()),((m.1,m.2,()),(z.1,z.2.1,z.2.2.1,z.2.2.2,()),())))) \/
   (¬ (∀ i (h:i<m.2.length),qrj m.1 r m.2[i])/\∃ e a b c,e≠0/\lp qaA K0 (((r:Int),(r:Int),m.2,((m.2.length:Nat):Int),0,()),((m.1,m.2,()),(z.1,z.2.1,z.2.2.1,z.2.2.2,()),()))=some (.inr ((),((e,a,b,c,()),())))):=by
 have hlen:=hf.2.2.1;have ans:∀ i (h:i<m.2.length),∃ a e,(e=0 ↔ qrj m.1 r m.2[i])/\∀ g,qaA g (((r:Int),(r:Int),m.2,((m.2.length:Nat):Int),(i:Int),()),((m.1,m.2,()),(z.1,z.2.1,z.2.2.1,z.2.2.2,()),())) =
     bif (!decide (e=0)) then some (.inr ((),((e,0,(i:Int),a,()),()))) else g (((r:Int),(r:Int),m.2,((m.2.length:Nat):Int),((i+1:Nat):Int),()),((m.1,m.2,()),(z.1,z.2.1,z.2.2.1,z.2.2.2,()),())):=by
   intro i hi;have d0:(i:Int)<((m.2.length:Nat):Int):=by omega
   have d1:(0:Int)<=(i:Int):=by omega
   have htf:=hf.2.2.2 i hi;have htl:m.2[i].length<4294967296:=by have:=htf.2.1;omega
   have ht0:0<m.2[i].length:=htf.1;have hts:=hs _ (gM0 hi)
   match r,hr with
   | 0, _ =>
     obtain⟨a,e,h1,h2⟩:=qu4 (f:=m.1) htl;refine⟨a,e,h2,fun g=>?_⟩;rw[qaA,cnd d0,cnd d1,tN0,gE0 hi,bS0,cnd (by rfl),h1,bS0,qbr (by omega)];rfl
   | 1, _ =>
     obtain⟨a,e,h1,h2⟩:=qwP htl ht0 (hlow 0 (by decide) i hi);refine⟨a,e,h2,fun g=>?_⟩;rw[qaA,cnd d0,cnd d1,tN0,gE0 hi,bS0,cnd' (by decide),cnd (by rfl),h1,bS0,qbr (by omega)];rfl
   | 2, _ =>
     obtain⟨a,e,h1,h2⟩:=qv7 htl hts (by omega);refine⟨a,e,h2,fun g=>?_⟩;rw[qaA,cnd d0,cnd d1,tN0,gE0 hi,bS0,cnd' (by decide),cnd' (by decide),cnd (by rfl),h1,bS0,qbr (by omega)];rfl
   | 3, _ =>
     obtain⟨a,e,h1,h2⟩:=qyG htl hts hk (hlow 0 (by decide) i hi);refine⟨a,e,h2,fun g=>?_⟩;rw[qaA,cnd d0,cnd d1,tN0,gE0 hi,bS0,cnd' (by decide),cnd' (by decide),cnd' (by decide),cnd (by rfl),h1,bS0,qbr (by omega)];rfl
 have ans2:∀ i,∃ a e,∀ h:i<m.2.length,(e=0 ↔ qrj m.1 r m.2[i])/\∀ g,qaA g (((r:Int),(r:Int),m.2,((m.2.length:Nat):Int),(i:Int),()),((m.1,m.2,()),(z.1,z.2.1,z.2.2.1,z.2.2.2,()),())) =
     bif (!decide (e=0)) then some (.inr ((),((e,0,(i:Int),a,()),()))) else g (((r:Int),(r:Int),m.2,((m.2.length:Nat):Int),((i+1:Nat):Int),()),((m.1,m.2,()),(z.1,z.2.1,z.2.2.1,z.2.2.2,()),())):=by
   intro i;by_cases h:i<m.2.length
   · obtain ⟨a, e, h1, h2⟩ := ans i h;exact⟨a,e,fun _=>⟨h1,h2⟩⟩
   · exact⟨0,0,fun h'=>absurd h' h⟩
 have A:=fun i=>(ans2 i).choose
 let E:Nat->Int:=fun i=>(ans2 i).choose_spec.choose
 have hE:∀ i (h:i<m.2.length),(E i=0 ↔ qrj m.1 r m.2[i])/\∀ g,qaA g (((r:Int),(r:Int),m.2,((m.2.length:Nat):Int),(i:Int),()),((m.1,m.2,()),(z.1,z.2.1,z.2.2.1,z.2.2.2,()),())) =
     bif (!decide (E i=0)) then some (.inr ((),((E i,0,(i:Int),(ans2 i).choose,()),()))) else g (((r:Int),(r:Int),m.2,((m.2.length:Nat):Int),((i+1:Nat):Int),()),((m.1,m.2,()),(z.1,z.2.1,z.2.2.1,z.2.2.2,()),())):=fun i h=>(ans2 i).choose_spec.choose_spec h
 rcases qmn (step:=qaA) (fun i=>(((r:Int),(r:Int),m.2,((m.2.length:Nat):Int),(i:Int),()),((m.1,m.2,()),(z.1,z.2.1,z.2.2.1,z.2.2.2,()),()))) m.2.length (fun i=>E i=0) (fun i=>.inr ((),((E i,0,(i:Int),(ans2 i).choose,()),()))) (.inl (((r:Int),()),((m.1,m.2,()),(z.1,z.2.1,z.2.2.1,z.2.2.2,()),()))) (by omega) (by
     intro i hi;obtain⟨h1,h2⟩:=hE i hi;by_cases h0:E i=0
     · exact .inl ⟨h0,fun g=>by rw[h2,decide_eq_true h0];rfl⟩
     · exact .inr ⟨h0,fun g=>by rw[h2,decide_eq_false h0];rfl⟩) (by
     intro g;rw[qaA,cnd' (by omega)]) with ⟨h,hlp⟩ | ⟨i,hi,h,hlp⟩
 · exact .inl ⟨fun i hi=>(hE i hi).1.1 (h i hi),hlp⟩
 · exact .inr ⟨fun hh=>h ((hE i hi).1.2 (hh i hi)),E i,0,(i:Int),_,h,hlp⟩
theorem qAo {m:qaq} {k:Nat} (hl:m.2.length<4294967296) (ht:∀ t∈m.2,t.length<4294967296) (hs:MSz m k) (hk:k<500000000000):∃ b,qcw m=some b/\(b=true ↔ Good m):=by
 obtain⟨b,hb,hbf⟩:=qzH hl ht;cases b with
 | false =>
  have hnf:¬ qxY m:=fun h=>by have:=hbf.2 h;cases this
  refine⟨false,?_,fun h=>(by cases h),fun h=>absurd h.1 hnf⟩;rw[qcw,qfh,hb,bS0];rfl
 | true =>
  have hf:=hbf.1 rfl;rcases qy6 (step:=qbj) (fun r=>(((r:Int),()),((m.1,m.2,()),(0,0,0,0,()),()))) 4 (fun r=>∀ i (h:i<m.2.length),qrj m.1 r m.2[i]) (fun r=>∃ e a b c,e≠0/\r=.inr ((),((e,a,b,c,()),()))) (.inl ((),((0,0,0,0,()),()))) (by omega) (by
     intro r hr hlow;have d0:(r:Int)<4:=by omega
     rcases qsg hf hs hk hr (fun r' hr'=>hlow r' hr') (0,0,0,0) with ⟨h1,h2⟩ | ⟨h1,e,a,b,c,h2,h3⟩
     · refine .inl ⟨h1, fun g => ?_⟩;rw[qbj,cnd d0,h2,bS0];dsimp only;rw[qbr (by omega)];rfl
     · refine .inr ⟨h1, _, ⟨e, a, b, c, h2, rfl⟩, fun g => ?_⟩;rw[qbj,cnd d0,h3,bS0]) (by
     intro g;rw[qbj,cnd' (by decide)]) with ⟨h,hlp⟩ | ⟨h,r,⟨e,a,b,c,he,rfl⟩,hlp⟩
  · have hlp : lp qbj K0 (((0 : Int), ()), ((m.1, m.2, ()), (0, 0, 0, 0, ()), ())) = _ := hlp;refine⟨true,?_,fun _=>⟨hf,h⟩,fun _=>rfl⟩;rw[qcw,qfh,hb,bS0,Bool.not_true,cond_false,hlp];rfl
  · have hlp : lp qbj K0 (((0 : Int), ()), ((m.1, m.2, ()), (0, 0, 0, 0, ()), ())) = _ := hlp;refine⟨false,?_,fun h'=>(by cases h'),fun hg=>absurd hg.2 h⟩;rw[qcw,qfh,hb,bS0,Bool.not_true,cond_false,hlp,bS0];dsimp only;rw[bS0,decide_eq_false he];rfl
end Go.Proofs.YtfoedjifcmfogaaDoor.X
