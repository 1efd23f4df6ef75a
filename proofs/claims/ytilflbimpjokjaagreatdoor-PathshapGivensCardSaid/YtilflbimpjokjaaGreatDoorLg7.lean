/- Own work: part of the proof; the first line of each part says what it tells. -/
import Derived.Test.YtilflbimpjokjaaGreatDoorLg6
import Derived.Test.YtilflbimpjokjaaGreatDoorLg5


namespace Go.Proofs.YtilflbimpjokjaaGreatDoor.X
open Go
set_option linter.unusedVariables false
set_option linter.unusedSimpArgs false
theorem isub1 {n:Nat} (h:n<4611686018427387904):isub .i64 ((n:Int)+1) 1=(n:Int):=by rw[isub_i]<;>omega
theorem iadd1 {n:Nat} (h:n<4611686018427387904):iadd .i64 (n:Int) 1=(n:Int)+1:=by rw[iadd_i]<;>omega
theorem nnt {a:List Int} {i:Nat} (h:i<a.length):nn (a.take (i+1))=nn (a.take i)+4294967296 ^ i*(a[i] % 4294967296).toNat:=nn_take_succ (gE0 h)
theorem Lim.at {a:List Int} (ha:Lim a) {i:Nat} (h:i<a.length):0≤a[i]∧a[i]<4294967296:=ha _ (gM0 h)
theorem trim_ok {a:List Int} (ha:Lim a) (hl:a.length<4611686018427387904):nat_trim a=some (limbs (nn a)):=by
 obtain⟨r,⟨n,hn,rfl,h1,h2⟩,hr⟩:=lp_wf (step:=nat_trim_s2) (fun v=>∃ n:Nat,n≤a.length∧v=((a,(n:Int),()),())∧nn (a.take n)=nn a) (fun v=>v.1.2.1.toNat)
   (fun r=>∃ n:Nat,n≤a.length∧r=((a,(n:Int),()),())∧nn (a.take n)=nn a∧∀ x,(a.take n).getLast?=some x→x≠0) (v:=((a,(a.length:Int),()),()))
   ⟨a.length, Nat.le_refl _, rfl, by simp⟩ (by simp; omega) (by
    rintro v ⟨n,hn,rfl,h1⟩
    cases n with
    | zero=>exact .inl ⟨_,⟨0,by omega,rfl,h1,by simp⟩,fun g=>by simp [nat_trim_s2]⟩
    | succ n =>
     have hl2:n<a.length:=by omega
     have e2:(0:Int)<(n:Int)+1:=by omega
     have e1:=isub1 (n:=n) (by omega)
     by_cases h0:a[n]=0
     · refine .inr ⟨((a, (n : Int), ()), ()), ⟨n, by omega, rfl, ?_⟩, by simp, fun g => ?_⟩
       · rw[← h1,nnt hl2,h0];simp
       · simp [nat_trim_s2,e1,e2,h0,hl2]
     · refine .inl ⟨_, ⟨n + 1, hn, rfl, h1, ?_⟩, fun g => ?_⟩
       · intro y hy
         rw[List.take_add_one,gE0 hl2] at hy
         simp only[Option.toList_some,List.getLast?_append,List.getLast?_singleton,Option.some_or,Option.some.injEq] at hy
         subst hy;exact h0
       · simp [nat_trim_s2,e1,e2,h0,hl2])
 have e:a.take n=limbs (nn a):=by rw[← h1];exact canon_eq ⟨ha.take n,h2⟩
 simp only[nat_trim,hr,bS0]
 rw[← e]
 by_cases h0:n=0
 · subst h0;simp
 · simp [h0,hn]
theorem Of_ok {n:Nat} (h:n<18446744073709551616):nat_Of n=some (limbs n):=by
 have e:nn [((n:Int) % 4294967296),(n:Int)/4294967296]=n:=by simp only[nn];omega
 have hl:Lim [((n:Int) % 4294967296),(n:Int)/4294967296]:=Lim.cons (by omega) (Lim.cons (by omega) Lim.nil)
 simp only[nat_Of,iand_low,shr32]
 rw[trim_ok hl (by simp)]
 simp [e]
def cut (a:List Int):List Int:=a.map (· % 4294967296)
theorem nn_cut (a:List Int):nn (cut a)=nn a:=by
 induction a with
 | nil=>rfl
 | cons x a ih=>simp only[cut,List.map_cons,nn];rw[show nn (a.map (· % 4294967296))=nn (cut a) from rfl,ih];omega
theorem cut_lim (a:List Int):Lim (cut a):=by
 intro x hx;obtain⟨y,_,rfl⟩:=List.mem_map.1 hx;omega
@[simp] theorem cut_len (a:List Int):(cut a).length=a.length:=by simp [cut]
def fill {α:Type} (X:List α) (z:α) (i:Nat):List α:=X.take i++List.replicate (X.length-i) z
theorem fill_zero {α:Type} (X:List α) (z:α):fill X z 0=List.replicate X.length z:=by simp [fill]
theorem fill_all {α:Type} (X:List α) (z:α):fill X z X.length=X:=by simp [fill]
@[simp] theorem fill_len {α:Type} (X:List α) (z:α) (i:Nat) (h:i≤X.length):(fill X z i).length=X.length:=by simp [fill];omega
theorem fill_set {α:Type} {X:List α} {z:α} {i:Nat} (h:i<X.length):(fill X z i).set i X[i]=fill X z (i+1):=by
 have e:X.length-i=(X.length-(i+1))+1:=by omega
 have e2:(X.take i).length=i:=by simp;omega
 unfold fill
 rw[e,List.replicate_succ,List.set_append_right _ _ (by omega),e2,Nat.sub_self,List.set_cons_zero,List.take_succ_eq_append_getElem h,List.append_assoc]
 rfl
theorem Clean_ok {a:List Int} (hl:a.length<35184372088832):nat_Clean a=some (limbs (nn a)):=by
 have key:lp nat_Clean_s3 K0 ((List.replicate a.length (0:Int),a,(a.length:Int),0,()),())=some ((cut a,()),()):=by
  have:=lp_up (step:=nat_Clean_s3) (fun i=>((fill (cut a) 0 i,a,(a.length:Int),(i:Int),()),())) a.length (r:=((cut a,()),())) (by omega) (by
   intro g i hi
   have e3:=fill_set (z:=0) (show i<(cut a).length by simpa using hi)
   have e4:(fill (cut a) 0 i).length=a.length:=by rw[fill_len _ _ _ (by simp;omega),cut_len]
   simp [nat_Clean_s3,hi,iadd1 (n:=i) (by omega),iand_low,e4,← e3]
   simp [cut]) (by
   intro g
   have:=fill_all (cut a) (0:Int)
   rw[cut_len] at this
   simp [nat_Clean_s3,this])
  simpa [fill_zero] using this
 have h1:(8:Int)*(a.length:Int)≤281474976710656:=by omega
 have h2:(a.length:Int)≤9223372036854775807:=by omega
 simp [nat_Clean,h1,h2,key,trim_ok (cut_lim a) (by simp;omega),nn_cut]
theorem nn_split {a:List Int} {i:Nat} (h:i<a.length):nn a=nn (a.take i)+4294967296 ^ i*((a[i] % 4294967296).toNat+4294967296*nn (a.drop (i+1))):=by
 have e:a=a.take i++(a[i]::a.drop (i+1)):=by simp
 conv=>lhs;rw[e]
 rw[nn_append]
 simp [nn,Nat.min_eq_left (Nat.le_of_lt h)]
def ncmp (n m:Nat):Int:=if n<m then -1 else if m<n then 1 else 0
theorem nn_lt_of {a b:List Int} (ha:Lim a) (hb:Lim b) {i:Nat} (h:i<a.length) (h':i<b.length) (hd:a.drop (i+1)=b.drop (i+1)) (hlt:a[i]<b[i]):nn a<nn b:=by
 rw[nn_split h,nn_split h',hd]
 have h1:=nn_lt (a.take i)
 rw[List.length_take,Nat.min_eq_left (Nat.le_of_lt h)] at h1
 have ha:=ha.at h
 have hb:=hb.at h'
 have h2:(a[i] % 4294967296).toNat+1≤(b[i] % 4294967296).toNat:=by omega
 have h3:4294967296 ^ i*((a[i] % 4294967296).toNat+1+4294967296*nn (b.drop (i+1)))≤4294967296 ^ i*((b[i] % 4294967296).toNat+4294967296*nn (b.drop (i+1))):=Nat.mul_le_mul_left _ (by omega)
 have h4:4294967296 ^ i*((a[i] % 4294967296).toNat+1+4294967296*nn (b.drop (i+1)))=4294967296 ^ i+4294967296 ^ i*((a[i] % 4294967296).toNat+4294967296*nn (b.drop (i+1))):=by grind
 omega
theorem len_lt_nn {n m:Nat} (h:(limbs n).length<(limbs m).length):n<m:=by
 have h1:=nn_lt (limbs n)
 rw[q9q] at h1
 rcases Nat.lt_or_ge m (4294967296 ^ (limbs n).length) with h2 | h2
 · have:=limbs_len_le h2;omega
 · omega
theorem order_ok {n m:Nat} (hn:(limbs n).length<4611686018427387904):nat_order (limbs n) (limbs m)=some (ncmp n m):=by
 unfold nat_order
 by_cases h1:(limbs n).length<(limbs m).length
 · have := len_lt_nn h1
   simp [h1,ncmp,this]
 by_cases h2:(limbs m).length<(limbs n).length
 · have := len_lt_nn h2
   simp [h1,h2,ncmp,this,Nat.not_lt.2 (Nat.le_of_lt this)]
 have hl:(limbs m).length=(limbs n).length:=by omega
 have ha:=limbs_lim n
 have hb:=limbs_lim m
 have e1:=q9q n
 have e2:=q9q m
 generalize limbs n=a at *
 generalize limbs m=b at *
 obtain⟨r,hr,hlp⟩:=lp_wf (step:=nat_order_s6) (fun v=>∃ j:Nat,j≤a.length∧v=((a,b,(j:Int)-1,()),())∧a.drop j=b.drop j) (fun v=>(v.1.2.2.1+1).toNat)
   (fun r=>(r=.inl ((),())∧a=b)∨(r=.inr ((-1,()),())∧nn a<nn b)∨(r=.inr ((1,()),())∧nn b<nn a)) (v:=((a,b,(a.length:Int)-1,()),()))
   ⟨a.length, Nat.le_refl _, rfl, by rw [List.drop_length, ← hl, List.drop_length]⟩ (by simp; omega) (by
    rintro v ⟨j,hj,rfl,hd⟩
    cases j with
    | zero=>exact .inl ⟨_,.inl ⟨rfl,by simpa using hd⟩,fun g=>by simp [nat_order_s6]⟩
    | succ j =>
     have hja:j<a.length:=by omega
     have hjb:j<b.length:=by omega
     have e3:((j+1:Nat):Int)-1=(j:Int):=by omega
     rw[e3]
     by_cases c1:a[j]<b[j]
     · exact .inl ⟨_,.inr (.inl ⟨rfl,nn_lt_of ha hb hja hjb hd c1⟩),fun g=>by simp [nat_order_s6,hja,hjb,c1]⟩
     by_cases c2:b[j]<a[j]
     · exact .inl ⟨_,.inr (.inr ⟨rfl,nn_lt_of hb ha hjb hja hd.symm c2⟩),fun g=>by simp [nat_order_s6,hja,hjb,c1,c2]⟩
     refine .inr ⟨((a,b,(j:Int)-1,()),()),⟨j,by omega,rfl,?_⟩,by simp,fun g=>?_⟩
     · rw[List.drop_eq_getElem_cons hja,List.drop_eq_getElem_cons hjb,hd,show a[j]=b[j] by omega]
     · have : isub .i64 (j : Int) 1 = (j : Int) - 1 := by rw [isub_i] <;> omega
       simp [nat_order_s6,hja,hjb,c1,c2,this])
 have e3:isub .i64 (a.length:Int) 1=(a.length:Int)-1:=by rw[isub_i]<;>omega
 rw[e3,hlp]
 rcases hr with ⟨rfl,h⟩ | ⟨rfl,h⟩ | ⟨rfl,h⟩
 · subst h
   have:n=m:=by omega
   subst this
   simp [ncmp]
 · rw [e1, e2] at h
   simp [h1,hl,ncmp,h]
 · rw [e1, e2] at h
   simp [h1,hl,ncmp,h,Nat.not_lt.2 (Nat.le_of_lt h)]
theorem Cmp_ok {a b:List Int} (ha:a.length<35184372088832) (hb:b.length<35184372088832):nat_Cmp a b=some (ncmp (nn a) (nn b)):=by
 simp [nat_Cmp,Clean_ok ha,Clean_ok hb,order_ok (Nat.lt_of_le_of_lt (nn_len_limbs a) (Nat.lt_trans ha (by decide)))]
def lget (a:List Int) (i:Nat):Int:=(a[i]?).getD 0
theorem limb_ok (a:List Int) (i:Nat):nat_limb a (i:Int)=some (lget a i):=by
 by_cases h:i<a.length<;>simp [nat_limb,lget,h]
theorem lget_lim {a:List Int} (ha:Lim a) (i:Nat):0≤lget a i∧lget a i<4294967296:=by
 unfold lget
 cases h:a[i]? with
 | none=>simp
 | some x=>exact ha.get h
theorem nn_take_lget (a:List Int) (i:Nat):nn (a.take (i+1))=nn (a.take i)+4294967296 ^ i*(lget a i % 4294967296).toNat:=by
 by_cases h:i<a.length
 · rw[nnt h];simp [lget,h]
 · rw [List.take_of_length_le (by omega), List.take_of_length_le (by omega)]
   simp [lget,h]
theorem lget_of_lt {a:List Int} {i:Nat} (h:i<a.length):lget a i=a[i]:=by simp [lget,h]
theorem set_mid {α:Type} {p:List α} {i n:Nat} {z:α} (x:α) (hp:p.length=i) (hi:i<n):(p++List.replicate (n-i) z).set i x=(p++[x])++List.replicate (n-(i+1)) z:=by
 have e:n-i=(n-(i+1))+1:=by omega
 subst hp
 rw[e,List.replicate_succ,List.set_append_right _ _ (by omega)]
 simp
theorem Add_ok {a b:List Int} (ha:a.length<17592186044416) (hb:b.length<17592186044416):nat_Add a b=some (limbs (nn a+nn b)):=by
 have h1:=nn_len_limbs a
 have h2:=nn_len_limbs b
 have e1:=q9q (nn a)
 have e2:=q9q (nn b)
 have l1:=limbs_lim (nn a)
 have l2:=limbs_lim (nn b)
 simp only[nat_Add,Clean_ok (show a.length<35184372088832 by omega),Clean_ok (show b.length<35184372088832 by omega),bS0]
 generalize limbs (nn a)=x at *
 generalize limbs (nn b)=y at *
 rw[← e1,← e2]
 clear e1 e2
 obtain⟨N,hN,hx,hy,hN2⟩:∃ N:Nat,iadd .i64 (mx (x.length:Int) (y.length:Int)) 1=(N:Int)∧x.length<N∧y.length<N∧N≤17592186044417:=by
  have:mx (x.length:Int) (y.length:Int)=((max x.length y.length:Nat):Int):=by unfold mx;split<;>omega
  refine⟨max x.length y.length+1,?_,by omega,by omega,by omega⟩
  rw[this,iadd1]<;>omega
 rw[hN]
 obtain⟨r,⟨p,rfl,hp,hpl,hpn⟩,hlp⟩:=lp_inv (step:=nat_Add_s5) (fun i v=>∃ (p:List Int) (c:Nat),v=((x,y,p++List.replicate (N-i) 0,(c:Int),(N:Int),(i:Int),()),())∧p.length=i∧Lim p∧c≤1∧nn p+4294967296 ^ i*c=nn (x.take i)+nn (y.take i))
  (fun r=>∃ p,r=((p,()),())∧p.length=N∧Lim p∧nn p=nn x+nn y) N (v:=((x,y,List.replicate N 0,0,(N:Int),0,()),()))
  ⟨[], 0, by simp, rfl, Lim.nil, by omega, by simp⟩ (by omega) (by
   rintro i v hi ⟨p,c,rfl,hp,hpl,hc,hs⟩
   have b1:=lget_lim l1 i
   have b2:=lget_lim l2 i
   have hadd1:iadd .u64 (lget x i) (lget y i)=lget x i+lget y i:=iadd_u (by omega) (by omega)
   have hadd2:iadd .u64 (c:Int) (lget x i+lget y i)=c+(lget x i+lget y i):=iadd_u (by omega) (by omega)
   refine⟨((x,y,(p++[((c:Int)+(lget x i+lget y i)) % 4294967296])++List.replicate (N-(i+1)) 0,((((c:Int)+(lget x i+lget y i))/4294967296).toNat:Int),(N:Int),((i+1:Nat):Int),()),()),⟨_,_,rfl,by simp [hp],Lim.append hpl (Lim.cons (by omega) Lim.nil),by omega,?_⟩,fun g=>?_⟩
   · rw [nn_append, hp, nn_take_lget, nn_take_lget, nn_one _ (by omega), Nat.pow_succ]
     have k1:(((c:Int)+(lget x i+lget y i)) % 4294967296).toNat+4294967296*(((c:Int)+(lget x i+lget y i))/4294967296).toNat=c+(lget x i % 4294967296).toNat+(lget y i % 4294967296).toNat:=by omega
     have k2:4294967296 ^ i*((((c:Int)+(lget x i+lget y i)) % 4294967296).toNat+4294967296*(((c:Int)+(lget x i+lget y i))/4294967296).toNat)=4294967296 ^ i*(c+(lget x i % 4294967296).toNat+(lget y i % 4294967296).toNat):=by rw[k1]
     grind
   · have e4 : ((((c : Int) + (lget x i + lget y i)) / 4294967296).toNat : Int) = ((c : Int) + (lget x i + lget y i)) / 4294967296 := by omega
     have e5:(p++List.replicate (N-i) 0).length=N:=by simp [hp];omega
     simp only[nat_Add_s5,limb_ok,bS0,hadd1,hadd2,iand_low,shr32,e4,iadd1 (n:=i) (by omega),tN0,set_mid _ hp hi,e5]
     simp [hi,e5,hp]) (by
   rintro v ⟨p,c,rfl,hp,hpl,hc,hs⟩
   refine⟨_,⟨p,rfl,hp,hpl,?_⟩,fun g=>by simp [nat_Add_s5]⟩
   rw[List.take_of_length_le (by omega),List.take_of_length_le (by omega)] at hs
   have k1:=nn_lt x
   have k2:=nn_lt y
   have k3:=Nat.pow_le_pow_right (n:=4294967296) (by decide) hx
   have k4:=Nat.pow_le_pow_right (n:=4294967296) (by decide) hy
   have k5:4294967296 ^ (x.length+1)=4294967296*4294967296 ^ x.length:=by rw[Nat.pow_succ,Nat.mul_comm]
   have k6:4294967296 ^ (y.length+1)=4294967296*4294967296 ^ y.length:=by rw[Nat.pow_succ,Nat.mul_comm]
   have:c=0:=by
     rcases Nat.eq_zero_or_pos c with h | h
     · exact h
     · have : c = 1 := by omega
       subst this
       simp only[Nat.succ_eq_add_one] at k3 k4
       omega
   subst this
   simpa using hs)
 have g1:(8:Int)*(N:Int)≤281474976710656:=by omega
 have g2:(N:Int)≤9223372036854775807:=by omega
 simp [hlp,trim_ok hpl (by omega),hpn,g1,g2]
theorem nn_take_of_lt {b:List Int} {k:Nat} (h:nn b<4294967296 ^ k):nn (b.take k)=nn b:=by
 by_cases hk:b.length≤k
 · rw[List.take_of_length_le hk]
 have e:nn b=nn (b.take k)+4294967296 ^ k*nn (b.drop k):=by
   conv=>lhs;rw[← List.take_append_drop k b]
   rw[nn_append,List.length_take,Nat.min_eq_left (by omega)]
 rcases Nat.eq_zero_or_pos (nn (b.drop k)) with h0 | h0
 · rw[h0] at e;omega
 · have : 4294967296 ^ k * 1 ≤ 4294967296 ^ k * nn (b.drop k) := Nat.mul_le_mul_left _ h0
   omega
theorem minus_ok {a b:List Int} (ha:Lim a) (hb:Lim b) (hl:a.length<35184372088832) (hle:nn b≤nn a):nat_minus a b=some (limbs (nn a-nn b)):=by
 obtain⟨r,⟨p,rfl,hp,hpl,hpn⟩,hlp⟩:=lp_inv (step:=nat_minus_s4) (fun i v=>∃ (p:List Int) (d:Nat),v=((a,b,p++List.replicate (a.length-i) 0,(d:Int),(a.length:Int),(i:Int),()),())∧p.length=i∧Lim p∧d≤1∧nn p+nn (b.take i)=nn (a.take i)+4294967296 ^ i*d)
  (fun r=>∃ p,r=((p,()),())∧p.length=a.length∧Lim p∧nn p=nn a-nn b) a.length (v:=((a,b,List.replicate a.length 0,0,(a.length:Int),0,()),()))
  ⟨[], 0, by simp, rfl, Lim.nil, by omega, by simp⟩ (by omega) (by
   rintro i v hi ⟨p,d,rfl,hp,hpl,hd,hs⟩
   have b1:=ha.at hi
   have b2:=lget_lim hb i
   have q1:iadd .u64 4294967296 a[i]=4294967296+a[i]:=iadd_u (by omega) (by omega)
   have q2:isub .u64 (4294967296+a[i]) (lget b i)=4294967296+a[i]-lget b i:=isub_u (by omega) (by omega)
   have q3:isub .u64 (4294967296+a[i]-lget b i) (d:Int)=4294967296+a[i]-lget b i-d:=isub_u (by omega) (by omega)
   have q4:isub .u64 1 ((4294967296+a[i]-lget b i-d)/4294967296)=1-(4294967296+a[i]-lget b i-d)/4294967296:=isub_u (by omega) (by omega)
   have e4:((1-(4294967296+a[i]-lget b i-d)/4294967296).toNat:Int)=1-(4294967296+a[i]-lget b i-d)/4294967296:=by omega
   refine⟨((a,b,(p++[(4294967296+a[i]-lget b i-d) % 4294967296])++List.replicate (a.length-(i+1)) 0,((1-(4294967296+a[i]-lget b i-d)/4294967296).toNat:Int),(a.length:Int),((i+1:Nat):Int),()),()),⟨_,_,rfl,by simp [hp],Lim.append hpl (Lim.cons (by omega) Lim.nil),by omega,?_⟩,fun g=>?_⟩
   · rw [nn_append, hp, nn_take_lget, nnt hi, nn_one _ (by omega), Nat.pow_succ]
     have k1:((4294967296+a[i]-lget b i-d) % 4294967296).toNat+(lget b i % 4294967296).toNat+d=(a[i] % 4294967296).toNat+4294967296*(1-(4294967296+a[i]-lget b i-d)/4294967296).toNat:=by omega
     have k2:4294967296 ^ i*(((4294967296+a[i]-lget b i-d) % 4294967296).toNat+(lget b i % 4294967296).toNat+d)=4294967296 ^ i*((a[i] % 4294967296).toNat+4294967296*(1-(4294967296+a[i]-lget b i-d)/4294967296).toNat):=by rw[k1]
     grind
   · have e5 : (p ++ List.replicate (a.length - i) 0).length = a.length := by simp [hp]; omega
     have e6:i<(p++List.replicate (a.length-i) (0:Int)).length:=by omega
     simp only[nat_minus_s4,limb_ok,bS0,tN0,gE0 hi,gE0 e6,q1,q2,q3,q4,iand_low,shr32,e4,iadd1 (n:=i) (by omega),set_mid _ hp hi,e5]
     simp [hi,hp]) (by
   rintro v ⟨p,d,rfl,hp,hpl,hd,hs⟩
   refine⟨_,⟨p,rfl,hp,hpl,?_⟩,fun g=>by simp [nat_minus_s4]⟩
   rw[nn_take_of_lt (Nat.lt_of_le_of_lt hle (nn_lt a)),List.take_length] at hs
   have k1:=nn_lt p
   rw[hp] at k1
   have:d=0:=by
     rcases Nat.eq_zero_or_pos d with h | h
     · exact h
     · have : d = 1 := by omega
       subst this
       omega
   subst this
   omega)
 have g1:(8:Int)*(a.length:Int)≤281474976710656:=by omega
 have g2:(a.length:Int)≤9223372036854775807:=by omega
 simp [nat_minus,hlp,trim_ok hpl (by omega),hpn,g1,g2]
theorem Sub_ok {a b:List Int} (ha:a.length<35184372088832) (hb:b.length<35184372088832):nat_Sub a b=if nn a<nn b then some ([],3) else some (limbs (nn a-nn b),0):=by
 have h1:=nn_len_limbs a
 simp only[nat_Sub,Clean_ok ha,Clean_ok hb,bS0,order_ok (show(limbs (nn a)).length<4611686018427387904 by omega)]
 by_cases h:nn a<nn b
 · simp [ncmp,h]
 · have := minus_ok (limbs_lim (nn a)) (limbs_lim (nn b)) (by omega) (by rw [q9q, q9q]; omega)
   rw[q9q,q9q] at this
   have e:¬ ncmp (nn a) (nn b)<0:=by unfold ncmp;rw[if_neg h];split<;>omega
   simp [h,e,this]
theorem nn_set {u:List Int} (hu:Lim u) {j:Nat} (hj:j<u.length) {y:Int} (hy:0≤y∧y<4294967296):nn (u.set j y)+4294967296 ^ j*u[j].toNat=nn u+4294967296 ^ j*y.toNat:=by
 have e1:u=u.take j++(u[j]::u.drop (j+1)):=by simp
 have e2:u.set j y=u.take j++(y::u.drop (j+1)):=List.set_eq_take_append_cons_drop.trans (by simp [hj])
 have b:=hu.at hj
 rw[e2]
 have:nn u=nn (u.take j++(u[j]::u.drop (j+1))):=by rw[← e1]
 rw[this,nn_append,nn_append]
 simp only[List.length_take,Nat.min_eq_left (Nat.le_of_lt hj),nn]
 have k1:(y % 4294967296).toNat=y.toNat:=by omega
 have k2:(u[j] % 4294967296).toNat=u[j].toNat:=by omega
 rw[k1,k2]
 grind
theorem mul_lt_sq {x y c u:Int} (hx:0≤x∧x<4294967296) (hy:0≤y∧y<4294967296) (hc:0≤c∧c<4294967296) (hu:0≤u∧u<4294967296) :
  0≤x*y∧x*y<18446744073709551616∧u+x*y<18446744073709551616∧c+(u+x*y)<18446744073709551616:=by
 have h0:0≤x*y:=Int.mul_nonneg hx.1 hy.1
 have h1:x*y≤4294967295*4294967295:=Int.mul_le_mul (by omega) (by omega) hy.1 (by decide)
 omega
theorem Mul_inner {b a:List Int} {n i:Nat} {x:Int} {u:List Int} {Z:Nat} (hb:Lim b) (hx:0≤x∧x<4294967296) (hu:Lim u) (hul:u.length=i+b.length) (hsz:i+b.length<4611686018427387904) :
  ∃ (w:List Int) (c:Nat),lp nat_Mul_s8 K0 ((b,u++List.replicate Z 0,(i:Int),x,0,a,(n:Int),(i:Int),b,(b.length:Int),0,()),())=some ((b,w++List.replicate Z 0,(i:Int),(c:Int),a,(n:Int),(i:Int),()),()) ∧
   w.length=i+b.length∧Lim w∧c<4294967296∧nn w+4294967296 ^ (i+b.length)*c=nn u+4294967296 ^ i*(x.toNat*nn b):=by
 obtain⟨r,⟨w,c,rfl,h1,h2,h3,h4⟩,hlp⟩:=lp_inv (step:=nat_Mul_s8)
  (fun k v=>∃ (w:List Int) (c:Nat),v=((b,w++List.replicate Z 0,(i:Int),x,(c:Int),a,(n:Int),(i:Int),b,(b.length:Int),(k:Int),()),())∧w.length=i+b.length∧Lim w∧c<4294967296∧nn w+4294967296 ^ (i+k)*c=nn u+4294967296 ^ i*(x.toNat*nn (b.take k)))
  (fun r=>∃ (w:List Int) (c:Nat),r=((b,w++List.replicate Z 0,(i:Int),(c:Int),a,(n:Int),(i:Int),()),())∧w.length=i+b.length∧Lim w∧c<4294967296∧nn w+4294967296 ^ (i+b.length)*c=nn u+4294967296 ^ i*(x.toNat*nn b))
  b.length (v:=((b,u++List.replicate Z 0,(i:Int),x,0,a,(n:Int),(i:Int),b,(b.length:Int),0,()),())) ⟨u,0,rfl,hul,hu,by omega,by simp⟩ (by omega) (by
   rintro k v hk ⟨w,c,rfl,hw,hwl,hc,hs⟩
   have b1:=hb.at hk
   have hik:i+k<w.length:=by omega
   have b2:=hwl.at hik
   have b3:(0:Int)≤c∧(c:Int)<4294967296:=by omega
   obtain⟨m0,m1,m2,m3⟩:=mul_lt_sq hx b1 b3 b2
   have e4:((((c:Int)+(w[i+k]+x*b[k]))/4294967296).toNat:Int)=((c:Int)+(w[i+k]+x*b[k]))/4294967296:=by omega
   have q1:imul .u64 x b[k]=x*b[k]:=imul_u m0 m1
   have q2:iadd .u64 w[i+k] (x*b[k])=w[i+k]+x*b[k]:=iadd_u (by omega) m2
   have q3:iadd .u64 (c:Int) (w[i+k]+x*b[k])=c+(w[i+k]+x*b[k]):=iadd_u (by omega) m3
   have q4:iadd .i64 (i:Int) (k:Int)=((i+k:Nat):Int):=by rw[iadd_i]<;>omega
   refine⟨((b,w.set (i+k) (((c:Int)+(w[i+k]+x*b[k])) % 4294967296)++List.replicate Z 0,(i:Int),x,((((c:Int)+(w[i+k]+x*b[k]))/4294967296).toNat:Int),a,(n:Int),(i:Int),b,(b.length:Int),((k+1:Nat):Int),()),()),⟨_,_,rfl,by simpa using hw,hwl.set (by omega),by omega,?_⟩,fun g=>?_⟩
   · have hset := nn_set hwl hik (y := ((c : Int) + (w[i + k] + x * b[k])) % 4294967296) (by omega)
     rw[nnt hk,show i+(k+1)=i+k+1 from rfl,Nat.pow_succ]
     have k1:(((c:Int)+(w[i+k]+x*b[k])) % 4294967296).toNat+4294967296*(((c:Int)+(w[i+k]+x*b[k]))/4294967296).toNat=c+(w[i+k].toNat+(x*b[k]).toNat):=by omega
     have k2:4294967296 ^ (i+k)*((((c:Int)+(w[i+k]+x*b[k])) % 4294967296).toNat+4294967296*(((c:Int)+(w[i+k]+x*b[k]))/4294967296).toNat)=4294967296 ^ (i+k)*(c+(w[i+k].toNat+(x*b[k]).toNat)):=by rw[k1]
     have k3:(x*b[k]).toNat=x.toNat*(b[k] % 4294967296).toNat:=by
      rw[Int.toNat_mul hx.1 b1.1];congr 2;omega
     rw[k3] at k2
     have k4:4294967296 ^ (i+k)=4294967296 ^ i*4294967296 ^ k:=Nat.pow_add ..
     grind
   · have e5 : (w ++ List.replicate Z (0 : Int))[i + k]? = some w[i + k] := by rw [List.getElem?_append_left hik]; exact gE0 hik
     have e6:((i+k:Nat):Int)<(((w++List.replicate Z (0:Int)).length:Nat):Int):=by simp;omega
     have e7:(0:Int)≤((i+k:Nat):Int):=by omega
     simp only[nat_Mul_s8,tN0,gE0 hk,bS0,q4,e5,q1,q2,q3,iand_low,shr32,e4,iadd1 (n:=k) (by omega),List.set_append_left _ _ hik,cnd2 e7 e6]
     simp [hk]) (by
   rintro v ⟨w,c,rfl,hw,hwl,hc,hs⟩
   rw[List.take_length] at hs
   exact⟨_,⟨w,c,rfl,hw,hwl,hc,hs⟩,fun g=>by simp [nat_Mul_s8]⟩)
 exact⟨w,c,hlp,h1,h2,h3,h4⟩
theorem Mul_ok {a b:List Int} (ha:a.length<17592186044416) (hb:b.length<17592186044416):nat_Mul a b=some (limbs (nn a*nn b)):=by
 have h1:=nn_len_limbs a
 have h2:=nn_len_limbs b
 have e1:=q9q (nn a)
 have e2:=q9q (nn b)
 have l1:=limbs_lim (nn a)
 have l2:=limbs_lim (nn b)
 simp only[nat_Mul,Clean_ok (show a.length<35184372088832 by omega),Clean_ok (show b.length<35184372088832 by omega),bS0]
 generalize limbs (nn a)=x at *
 generalize limbs (nn b)=y at *
 rw[← e1,← e2]
 clear e1 e2
 have hN:iadd .i64 (x.length:Int) (y.length:Int)=((x.length+y.length:Nat):Int):=by rw[iadd_i]<;>omega
 rw[hN]
 obtain⟨r,⟨p,rfl,hp,hpl,hpn⟩,hlp⟩:=lp_inv (step:=nat_Mul_s4) (fun i v=>∃ p:List Int,v=((y,p++List.replicate (x.length-i) 0,x,(x.length:Int),(i:Int),()),())∧p.length=i+y.length∧Lim p∧nn p=nn (x.take i)*nn y)
  (fun r=>∃ p,r=((p,()),())∧p.length=x.length+y.length∧Lim p∧nn p=nn x*nn y) x.length (v:=((y,List.replicate (x.length+y.length) 0,x,(x.length:Int),0,()),()))
  ⟨List.replicate y.length 0, by rw [List.replicate_append_replicate, Nat.sub_zero, Nat.add_comm]; rfl, by simp, Lim.zeros _, by simp [nn_zeros]⟩ (by omega) (by
   rintro i v hi ⟨p,rfl,hp,hpl,hs⟩
   obtain⟨w,c,hin,hw,hwl,hc,hwn⟩:=Mul_inner (a:=x) (n:=x.length) (i:=i) (x:=x[i]) (u:=p) (Z:=x.length-i) l2 (l1.at hi) hpl hp (by omega)
   have b1:=l1.at hi
   refine⟨((y,(w++[(c:Int)])++List.replicate (x.length-(i+1)) 0,x,(x.length:Int),((i+1:Nat):Int),()),()),⟨_,rfl,by simp [hw];omega,Lim.append hwl (Lim.cons (by omega) Lim.nil),?_⟩,fun g=>?_⟩
   · rw [nn_append, hw, nn_one _ (by omega), nnt hi, tN0, hwn, hs]
     have:(x[i] % 4294967296).toNat=x[i].toNat:=by omega
     rw[this]
     grind
   · have q4 : iadd .i64 (i : Int) (y.length : Int) = ((i + y.length : Nat) : Int) := by rw [iadd_i] <;> omega
     have e6:((i+y.length:Nat):Int)<(((w++List.replicate (x.length-i) (0:Int)).length:Nat):Int):=by simp;omega
     have e7:(0:Int)≤((i+y.length:Nat):Int):=by omega
     have e8:i+y.length<(w++List.replicate (x.length-i) (0:Int)).length:=by omega
     have e9:(w++List.replicate (x.length-i) (0:Int)).set (i+y.length) (c:Int)=(w++[(c:Int)])++List.replicate (x.length-(i+1)) 0:=by
      have:=set_mid (p:=w) (i:=i+y.length) (n:=x.length+y.length) (z:=0) (c:Int) hw (by omega)
      rw[show x.length+y.length-(i+y.length)=x.length-i by omega,show x.length+y.length-(i+y.length+1)=x.length-(i+1) by omega] at this
      exact this
     simp only[nat_Mul_s4,tN0,gE0 hi,bS0,hin,q4,iadd1 (n:=i) (by omega),cnd2 e7 e6,gE0 e8,e9]
     simp [hi]) (by
   rintro v ⟨p,rfl,hp,hpl,hs⟩
   rw[List.take_length] at hs
   exact⟨((p,()),()),⟨p,rfl,hp,hpl,hs⟩,fun g=>by simp [nat_Mul_s4]⟩)
 have g1:(8:Int)*((x.length+y.length:Nat):Int)≤281474976710656:=by omega
 have g2:((x.length+y.length:Nat):Int)≤9223372036854775807:=by omega
 have g3:(0:Int)≤((x.length+y.length:Nat):Int):=by omega
 have g4:((8:Nat):Int)*((x.length+y.length:Nat):Int)≤281474976710656:=g1
 simp only[tN0,hlp,bS0,trim_ok hpl (by omega),hpn,decide_eq_true g2,decide_eq_true g3,decide_eq_true g4,Bool.and_true,decide_true,cond_true]
theorem nn_drop (a:List Int) {i:Nat} (h:i<a.length):nn (a.drop i)=(a[i] % 4294967296).toNat+4294967296*nn (a.drop (i+1)):=by
 rw[List.drop_eq_getElem_cons h,nn]
theorem small_ok {a:List Int} {d:Nat} (ha:Lim a) (hl:a.length<35184372088832) (hd:0<d) (hd':d<4294967296):nat_small a (d:Int)=some (limbs (nn a/d),((nn a % d:Nat):Int)):=by
 obtain⟨r,⟨s,c,rfl,hs,hsl,hc,hsn⟩,hlp⟩:=lp_wf (step:=nat_small_s4)
  (fun v=>∃ (j:Nat) (s:List Int) (c:Nat),j≤a.length∧v=((a,(d:Int),List.replicate j 0++s,(c:Int),(j:Int)-1,()),())∧j+s.length=a.length∧Lim s∧c<d∧nn (a.drop j)=d*nn s+c)
  (fun v=>(v.1.2.2.2.2.1+1).toNat)
  (fun r=>∃ (s:List Int) (c:Nat),r=((s,(c:Int),()),())∧s.length=a.length∧Lim s∧c<d∧nn a=d*nn s+c) (v:=((a,(d:Int),List.replicate a.length 0,0,(a.length:Int)-1,()),()))
  ⟨a.length, [], 0, Nat.le_refl _, by simp, by simp, Lim.nil, hd, by simp⟩ (by simp; omega) (by
   rintro v ⟨j,s,c,hj,rfl,hjl,hsl,hc,hn⟩
   cases j with
   | zero =>
    refine .inl ⟨((s,(c:Int),()),()),⟨s,c,rfl,by omega,hsl,hc,by simpa using hn⟩,fun g=>by simp [nat_small_s4]⟩
   | succ j =>
    have hja:j<a.length:=by omega
    have b:=ha.at hja
    have e3:((j+1:Nat):Int)-1=(j:Int):=by omega
    rw[e3]
    obtain⟨x,hx⟩:=Int.eq_ofNat_of_zero_le b.1
    have hx':x<4294967296:=by omega
    have hq:(c*4294967296+x)/d<4294967296:=by
      rw[Nat.div_lt_iff_lt_mul hd]
      have:(c+1)*4294967296≤d*4294967296:=Nat.mul_le_mul_right _ hc
      rw[Nat.mul_comm 4294967296 d]
      omega
    have k1:=Nat.div_add_mod (c*4294967296+x) d
    have k5:=Nat.mod_lt (c*4294967296+x) hd
    have q3:iquo .u64 ((c*4294967296+x:Nat):Int) (d:Int)=(((c*4294967296+x)/d:Nat):Int):=by rw[iquo_u (by omega) (by omega) (by omega)];exact(Int.natCast_ediv _ _).symm
    have q4:irem ((c*4294967296+x:Nat):Int) (d:Int)=(((c*4294967296+x) % d:Nat):Int):=by rw[irem_n (by omega)];exact(Int.natCast_emod _ _).symm
    generalize (c*4294967296+x)/d=q at *
    generalize (c*4294967296+x) % d=rr at *
    refine .inr ⟨((a,(d:Int),List.replicate j 0++(q:Int)::s,(rr:Int),(j:Int)-1,()),()),⟨j,_,_,by omega,rfl,by simp;omega,Lim.cons (by omega) hsl,k5,?_⟩,by simp,fun g=>?_⟩
    · rw [nn_drop a hja, hn, nn]
      have k2:((q:Int) % 4294967296).toNat=q:=by omega
      have k3:(a[j] % 4294967296).toNat=x:=by omega
      rw[k2,k3]
      grind
    · have c1 : (c : Int) < 4294967296 := by omega
      have q1:shlV .u64 (c:Int) 32=(c:Int)*4294967296:=shl32 (by omega) c1
      have q2:ior .u64 ((c:Int)*4294967296) a[j]=((c*4294967296+x:Nat):Int):=by rw[ior32 (by omega) c1 b.1 b.2,hx];omega
      have q5:isub .i64 (j:Int) 1=(j:Int)-1:=by rw[isub_i]<;>omega
      have e5:(List.replicate (j+1) (0:Int)++s).set j (q:Int)=List.replicate j 0++(q:Int)::s:=by
       rw[List.replicate_succ',List.append_assoc,List.set_append_right _ _ (by simp)]
       simp
      have e6:j<(List.replicate (j+1) (0:Int)++s).length:=by simp;omega
      have e7:((j:Nat):Int)<((List.replicate (j+1) (0:Int)++s).length:Int):=by omega
      have e8:(0:Int)≤((j:Nat):Int):=by omega
      have e9:¬ ((d:Int)=0):=by omega
      simp only[nat_small_s4,tN0,gE0 hja,gE0 e6,bS0,q1,q2,q3,q4,q5,e5,cnd2 e8 e7,cnd e8,cnd' e9,ge_iff_le])
 have g1:(8:Int)*(a.length:Int)≤281474976710656:=by omega
 have g2:(a.length:Int)≤9223372036854775807:=by omega
 have g3:isub .i64 (a.length:Int) 1=(a.length:Int)-1:=by rw[isub_i]<;>omega
 have k1:nn a/d=nn s:=by rw[hsn,Nat.mul_add_div hd,Nat.div_eq_of_lt hc];simp
 have k2:nn a % d=c:=by rw[hsn,Nat.mul_add_mod,Nat.mod_eq_of_lt hc]
 rw[k1,k2]
 simp [nat_small,g1,g2,g3,hlp,trim_ok hsl (by omega)]
theorem To_ok {a:List Int} (hl:a.length<35184372088832):nat_To a=if nn a<18446744073709551616 then some (((nn a:Nat):Int),true) else some (0,false):=by
 simp only[nat_To,Clean_ok hl,bS0]
 generalize nn a=n
 by_cases h0:n=0
 · subst h0;simp [limbs_zero]
 by_cases h1:n<4294967296
 · rw[limbs_small h0 h1];simp;omega
 by_cases h2:n<18446744073709551616
 · have e : limbs n = [((n % 4294967296 : Nat) : Int), ((n / 4294967296 : Nat) : Int)] := by rw [limbs_pos h0, limbs_small (n := n / 4294967296) (by omega) (by omega)]
   have q1:shlV .u64 ((n/4294967296:Nat):Int) 32=((n/4294967296:Nat):Int)*4294967296:=shl32 (by omega) (by omega)
   have q2:ior .u64 (((n/4294967296:Nat):Int)*4294967296) ((n % 4294967296:Nat):Int)=(n:Int):=by rw[ior32]<;>omega
   rw[e]
   simp only[List.length_cons,List.length_nil,List.getElem?_cons_succ,List.getElem?_cons_zero,bS0,q1,q2]
   simp [h2]
 · have hlen : 2 < (limbs n).length := limbs_len_lt (by omega)
   have a1:¬ ((limbs n).length:Int)=0:=by omega
   have a2:¬ ((limbs n).length:Int)=1:=by omega
   have a3:¬ ((limbs n).length:Int)=2:=by omega
   rw[cnd' a1,cnd' a2,cnd' a3,if_neg h2]
theorem euclid_ok {a b:List Int} (hla:a.length<35184372088832) (hlb:b.length<35184372088832) (ha:nn a<18446744073709551616) (hb:nn b<18446744073709551616):nat_euclid a b=some (limbs (Nat.gcd (nn a) (nn b))):=by
 obtain⟨r,rfl,hlp⟩:=lp_wf (step:=nat_euclid_s3) (fun v=>∃ x y:Nat,v=(((x:Int),(y:Int),()),())∧x<18446744073709551616∧y<18446744073709551616∧Nat.gcd x y=Nat.gcd (nn a) (nn b)) (fun v=>v.1.2.1.toNat)
  (fun r=>r=((((Nat.gcd (nn a) (nn b):Nat):Int),()),())) (v:=((((nn a:Nat):Int),((nn b:Nat):Int),()),())) ⟨nn a,nn b,rfl,ha,hb,rfl⟩ (by simp;omega) (by
    rintro v ⟨x,y,rfl,hx,hy,hg⟩
    by_cases h0:y=0
    · subst h0
      refine .inl ⟨_,rfl,fun g=>?_⟩
      rw[Nat.gcd_zero_right] at hg
      simp [nat_euclid_s3,hg]
    · have hlt := Nat.mod_lt x (Nat.pos_of_ne_zero h0)
      refine .inr ⟨(((y:Int),((x % y:Nat):Int),()),()),⟨y,x % y,rfl,hy,by omega,?_⟩,by show(((x % y:Nat):Int)).toNat<((y:Nat):Int).toNat;omega,fun g=>?_⟩
      · rw[← hg,Nat.gcd_comm y,← Nat.gcd_rec,Nat.gcd_comm]
      · have : irem (x : Int) (y : Int) = ((x % y : Nat) : Int) := by rw [irem_n (by omega)]; exact (Int.natCast_emod _ _).symm
        have h1:¬ (y:Int)=0:=by omega
        simp [nat_euclid_s3,this,h0])
 have hgl:Nat.gcd (nn a) (nn b)<18446744073709551616:=by
  by_cases h0:nn b=0
  · rw[h0,Nat.gcd_zero_right];exact ha
  · exact Nat.lt_of_le_of_lt (Nat.gcd_le_right _ (Nat.pos_of_ne_zero h0)) hb
 simp [nat_euclid,To_ok hla,To_ok hlb,ha,hb,hlp,Of_ok hgl]
theorem pow2_cast (s:Nat):(2:Int) ^ s=((2 ^ s:Nat):Int):=by rw[Int.natCast_pow];rfl
theorem div2_cast (x s:Nat):(x:Int)/2 ^ s=((x/2 ^ s:Nat):Int):=by rw[pow2_cast,← Int.natCast_ediv]
theorem two32 (k:Nat):4294967296 ^ k=2 ^ (32*k):=by rw[Nat.pow_mul]
theorem zeros_ok {a:List Int} (ha:Lim a) (hl:a.length<35184372088832) (h0:nn a≠0):∃ z m:Nat,nat_zeros a=some (z:Int)∧nn a=2 ^ z*m∧m % 2=1∧z<32*a.length:=by
 obtain⟨r,⟨z,m,rfl,h1,h2,h3⟩,hlp⟩:=lp_wf (step:=nat_zeros_s3) (fun v=>∃ k:Nat,k≤a.length∧v=((((32*k:Nat):Int),a,(a.length:Int),(k:Int),()),())∧nn (a.take k)=0) (fun v=>(a.length-v.1.2.2.2.1).toNat)
  (fun r => ∃ z m : Nat, r = .inr (((z : Int), ()), ()) ∧ nn a = 2 ^ z * m ∧ m % 2 = 1 ∧ z < 32 * a.length) (v := ((0, a, (a.length : Int), 0, ()), ())) ⟨0, by omega, rfl, rfl⟩ (by simp; omega) (by
   rintro v ⟨k,hk,rfl,hz⟩
   by_cases hka:k<a.length
   · have b := ha.at hka
     by_cases hx:a[k]=0
     · refine .inr ⟨((((32 * (k + 1) : Nat) : Int), a, (a.length : Int), ((k + 1 : Nat) : Int), ()), ()), ⟨k + 1, by omega, rfl, ?_⟩, by simp; omega, fun g => ?_⟩
       · rw[nnt hka,hz,hx];simp
       · have q1 : iadd .i64 ((32 * k : Nat) : Int) 32 = ((32 * (k + 1) : Nat) : Int) := by rw [iadd_i] <;> omega
         have e1:(k:Int)<(a.length:Int):=by omega
         have e2:(0:Int)≤(k:Int):=by omega
         simp only[nat_zeros_s3,cnd e1,cnd e2,tN0,gE0 hka,bS0,hx,q1,iadd1 (n:=k) (by omega)]
         simp
     · obtain ⟨x, hx2⟩ := Int.eq_ofNat_of_zero_le b.1
       obtain⟨m,h1,h2,h3⟩:=tzN_spec 64 x (by omega) (by omega)
       have h4:tzN 64 x<32:=by
         rcases Nat.lt_or_ge (tzN 64 x) 32 with h | h
         · exact h
         · have : 2 ^ 32 ≤ 2 ^ tzN 64 x := Nat.pow_le_pow_right (by decide) h
           have hm:0<m:=by omega
           have:2 ^ tzN 64 x*1≤2 ^ tzN 64 x*m:=Nat.mul_le_mul_left _ hm
           omega
       refine .inl ⟨_,⟨32*k+tzN 64 x,m+2 ^ (32-tzN 64 x)*nn (a.drop (k+1)),rfl,?_,?_,by omega⟩,fun g=>?_⟩
       · rw [nn_split hka, hz, two32]
         have k3:(a[k] % 4294967296).toNat=x:=by omega
         rw[k3,Nat.pow_add]
         have k4:2 ^ tzN 64 x*2 ^ (32-tzN 64 x)=4294967296:=by rw[← Nat.pow_add,show tzN 64 x+(32-tzN 64 x)=32 by omega]
         generalize tzN 64 x=t at *
         have k5:2 ^ t*(m+2 ^ (32-t)*nn (a.drop (k+1)))=x+4294967296*nn (a.drop (k+1)):=by
           rw[Nat.mul_add,← h1,← Nat.mul_assoc,k4]
         rw[Nat.mul_assoc,k5];omega
       · have : 2 ^ (32 - tzN 64 x) = 2 * 2 ^ (31 - tzN 64 x) := by rw [show 32 - tzN 64 x = (31 - tzN 64 x) + 1 by omega, Nat.pow_succ, Nat.mul_comm]
         rw[this,Nat.mul_assoc];omega
       · have e1 : (k : Int) < (a.length : Int) := by omega
         have e2:(0:Int)≤(k:Int):=by omega
         have q1:imul .i64 32 (k:Int)=((32*k:Nat):Int):=by rw[imul_i]<;>omega
         have q2:iadd .i64 ((32*k:Nat):Int) ((tzN 64 x:Nat):Int)=((32*k+tzN 64 x:Nat):Int):=by rw[iadd_i]<;>omega
         have q3:tz64 a[k]=some ((tzN 64 x:Nat):Int):=by
           rw[hx2,tz64,cnd2 (by omega) (by omega)];rfl
         simp only[nat_zeros_s3,cnd e1,cnd e2,tN0,gE0 hka,bS0,q1,q2,q3]
         simp [hx]
   · exfalso
     rw[List.take_of_length_le (by omega)] at hz
     exact h0 hz)
 exact⟨z,m,by simp [nat_zeros,hlp],h1,h2,h3⟩
def shrL (s:Nat):List Int→List Int
 | []=>[]
 | x::r=>((((((r[0]?).getD 0)*4294967296+x)/2 ^ s) % 4294967296:Int))::shrL s r
theorem shrL_len (s:Nat):∀ l:List Int,(shrL s l).length=l.length
 | []=>rfl
 | _::r=>by simp [shrL,shrL_len s r]
theorem shrL_get (s:Nat):∀ (l:List Int) (i:Nat) (h:i<(shrL s l).length),(shrL s l)[i]=((lget l (i+1))*4294967296+lget l i)/2 ^ s % 4294967296
 | [],i,h=>by simp [shrL] at h
 | x::r,0,h=>by simp [shrL,lget]
 | x::r,i+1,h=>by
  simp only[shrL,List.getElem_cons_succ]
  rw[shrL_get s r i]
  simp [lget]
theorem shrL_lim (s:Nat):∀ l:List Int,Lim (shrL s l)
 | []=>Lim.nil
 | x::r=>Lim.cons (by omega) (shrL_lim s r)
theorem nn_head {r:List Int} (hr:Lim r):nn r % 4294967296=((r[0]?).getD 0).toNat:=by
 cases r with
 | nil=>rfl
 | cons x r=>have:=hr x List.mem_cons_self;simp only[nn,List.getElem?_cons_zero,Option.getD_some];omega
theorem shr_key {X M P C B:Nat} (hB:P*C=B) (hP:0<P) (hX:X<B):(X+B*M)/P=(M % B*B+X)/P % B+B*(M/P):=by
 have hB0:0<B:=by omega
 have f1:(X+B*M)/P % B=(M % B*B+X)/P % B:=by
  have h1:B*M=B*(M % B)+B*(B*(M/B)):=by rw[← Nat.mul_add,Nat.mod_add_div]
  have h2:B*(B*(M/B))=P*(B*(C*(M/B))):=by
   have:B*(B*(M/B))=(P*C)*(B*(M/B)):=by rw[hB]
   rw[this];grind
  have:X+B*M=(M % B*B+X)+P*(B*(C*(M/B))):=by rw[h1,h2,Nat.mul_comm B (M % B)];omega
  rw[this,Nat.add_mul_div_left _ _ hP,Nat.add_mul_mod_self_left]
 have f2:(X+B*M)/P/B=M/P:=by
  rw[Nat.div_div_eq_div_mul,Nat.mul_comm P B,← Nat.div_div_eq_div_mul,Nat.add_mul_div_left _ _ hB0,Nat.div_eq_of_lt hX,Nat.zero_add]
 have:=Nat.div_add_mod ((X+B*M)/P) B
 rw[f1,f2] at this
 omega
theorem nn_shrL (s:Nat) (hs:s≤32):∀ l:List Int,Lim l→nn (shrL s l)=nn l/2 ^ s
 | [],_=>by simp [shrL]
 | x::r,h=>by
  have hx:=h x List.mem_cons_self
  have hr:Lim r:=fun y hy=>h y (List.mem_cons_of_mem _ hy)
  have hh:=nn_head hr
  have hr0:=lget_lim hr 0
  unfold lget at hr0
  obtain⟨X,rfl⟩:=Int.eq_ofNat_of_zero_le hx.1
  obtain⟨Y,hY⟩:=Int.eq_ofNat_of_zero_le hr0.1
  have ih:=nn_shrL s hs r hr
  simp only[shrL,nn,ih,hY]
  rw[hY] at hh
  simp only[tN0] at hh
  have e1:(((Y:Int)*4294967296+(X:Int))/2 ^ s % 4294967296 % 4294967296).toNat=(Y*4294967296+X)/2 ^ s % 4294967296:=by
   have h1:((Y:Int)*4294967296+(X:Int))=((Y*4294967296+X:Nat):Int):=by omega
   rw[h1,div2_cast]
   generalize (Y*4294967296+X)/2 ^ s=Q
   omega
  have e2:((X:Int) % 4294967296).toNat=X:=by omega
  rw[e1,e2]
  have p2:(2:Nat) ^ s*2 ^ (32-s)=4294967296:=by rw[← Nat.pow_add,show s+(32-s)=32 by omega]
  have key:=shr_key (X:=X) (M:=nn r) p2 (Nat.pow_pos (by decide)) (by omega)
  rw[key,hh]
theorem shr_ok {a:List Int} {n:Nat} (ha:Lim a) (hl:a.length<35184372088832) (hn:n<4611686018427387904):nat_shr a (n:Int)=some (limbs (nn a/2 ^ n)):=by
 have q1:iquo .i64 (n:Int) 32=((n/32:Nat):Int):=by rw[iquo_i (by omega) (by omega) (by omega)];omega
 have q2:irem (n:Int) 32=((n % 32:Nat):Int):=by rw[irem_n (by omega)];omega
 unfold nat_shr
 rw[q1,q2]
 have hpow:2 ^ n=4294967296 ^ (n/32)*2 ^ (n % 32):=by rw[two32,← Nat.pow_add];congr 1;omega
 by_cases hw:a.length≤n/32
 · have c1 : ((n / 32 : Nat) : Int) ≥ (a.length : Int) := by omega
   rw[cnd c1]
   have:=nn_lt a
   have h2:=Nat.pow_le_pow_right (n:=4294967296) (by decide) hw
   have h3:4294967296 ^ (n/32)*1≤4294967296 ^ (n/32)*2 ^ (n % 32):=Nat.mul_le_mul_left _ (Nat.pow_pos (by decide))
   rw[hpow,Nat.div_eq_of_lt (by omega),limbs_zero]
 · have c1 : ¬ ((n / 32 : Nat) : Int) ≥ (a.length : Int) := by omega
   rw[cnd' c1]
   have q3:isub .i64 (a.length:Int) ((n/32:Nat):Int)=((a.length-n/32:Nat):Int):=by rw[isub_i]<;>omega
   rw[q3]
   have hs:n % 32≤32:=by omega
   have hX:(shrL (n % 32) (a.drop (n/32))).length=a.length-n/32:=by rw[shrL_len];simp
   have key:=lp_up (step:=nat_shr_s6) (fun i=>((a,((n/32:Nat):Int),((n % 32:Nat):Int),fill (shrL (n % 32) (a.drop (n/32))) 0 i,((a.length-n/32:Nat):Int),(i:Int),()),())) (a.length-n/32) (r:=((shrL (n % 32) (a.drop (n/32)),()),())) (by omega) (by
    intro g i hi
    have hi2:i<(shrL (n % 32) (a.drop (n/32))).length:=by omega
    have e3:=fill_set (z:=0) hi2
    have e4:(fill (shrL (n % 32) (a.drop (n/32))) 0 i).length=a.length-n/32:=by rw[fill_len _ _ _ (by omega),hX]
    have hi3:i+n/32<a.length:=by omega
    have r1:iadd .i64 (i:Int) ((n/32:Nat):Int)=((i+n/32:Nat):Int):=by rw[iadd_i]<;>omega
    have r2:iadd .i64 ((i+n/32:Nat):Int) 1=((i+n/32+1:Nat):Int):=by rw[iadd_i]<;>omega
    have b1:=ha.at hi3
    have b2:=lget_lim ha (i+n/32+1)
    obtain⟨X,hX1⟩:=Int.eq_ofNat_of_zero_le b1.1
    obtain⟨Y,hY1⟩:=Int.eq_ofNat_of_zero_le b2.1
    have r3:shlV .u64 (lget a (i+n/32+1)) 32=lget a (i+n/32+1)*4294967296:=shl32 b2.1 b2.2
    have r4:ior .u64 (lget a (i+n/32+1)*4294967296) a[i+n/32]=((Y*4294967296+X:Nat):Int):=by rw[ior32 b2.1 b2.2 b1.1 b1.2,hX1,hY1];omega
    have r5:shrV .u64 ((Y*4294967296+X:Nat):Int) ((n % 32:Nat):Int)=(((Y*4294967296+X)/2 ^ (n % 32):Nat):Int):=shr_nat _ _ (by omega)
    have r6:(shrL (n % 32) (a.drop (n/32)))[i]=(((Y*4294967296+X)/2 ^ (n % 32):Nat):Int) % 4294967296:=by
     rw[shrL_get]
     have g1:lget (a.drop (n/32)) (i+1)=(Y:Int):=by rw[← hY1];simp only[lget,List.getElem?_drop];congr 2;omega
     have g2:lget (a.drop (n/32)) i=(X:Int):=by rw[← hX1,← lget_of_lt hi3];simp only[lget,List.getElem?_drop];congr 2;omega
     have h1:((Y:Int)*4294967296+(X:Int))=((Y*4294967296+X:Nat):Int):=by omega
     rw[g1,g2,h1,div2_cast]
    rw[r6] at e3
    have c2:(i:Int)<((a.length-n/32:Nat):Int):=by omega
    have c3:(0:Int)≤((i+n/32:Nat):Int):=by omega
    have c4:¬ ((n % 32:Nat):Int)<0:=by omega
    have c5:(0:Int)≤(i:Int):=by omega
    have c6:(i:Int)<((fill (shrL (n % 32) (a.drop (n/32))) 0 i).length:Int):=by omega
    have c7:i<(fill (shrL (n % 32) (a.drop (n/32))) 0 i).length:=by omega
    simp only[nat_shr_s6,cnd c2,r1,r2,limb_ok,bS0,cnd c3,tN0,gE0 hi3,cnd' c4,cnd2 c5 c6,gE0 c7,r3,r4,r5,iand_low,e3,iadd1 (n:=i) (by omega)]
    simp) (by
    intro g
    have:=fill_all (shrL (n % 32) (a.drop (n/32))) (0:Int)
    rw[hX] at this
    simp [nat_shr_s6,this])
   rw[fill_zero,hX] at key
   have hv:nn (shrL (n % 32) (a.drop (n/32)))=nn a/2 ^ n:=by
    rw[nn_shrL _ hs _ (ha.drop _),hpow,← Nat.div_div_eq_div_mul]
    congr 1
    have e:nn a=nn (a.take (n/32))+4294967296 ^ (n/32)*nn (a.drop (n/32)):=by
     conv=>lhs;rw[← List.take_append_drop (n/32) a]
     rw[nn_append,List.length_take,Nat.min_eq_left (by omega)]
    have h1:=nn_lt (a.take (n/32))
    rw[List.length_take,Nat.min_eq_left (by omega)] at h1
    rw[e,Nat.add_mul_div_left _ _ (Nat.pow_pos (by decide)),Nat.div_eq_of_lt h1,Nat.zero_add]
   have g2:((a.length-n/32:Nat):Int)≤9223372036854775807:=by omega
   have g3:(0:Int)≤((a.length-n/32:Nat):Int):=by omega
   have g4:((8:Nat):Int)*((a.length-n/32:Nat):Int)≤281474976710656:=by omega
   have key':lp nat_shr_s6 K0 ((a,((n/32:Nat):Int),((n % 32:Nat):Int),List.replicate (a.length-n/32) 0,((List.replicate (a.length-n/32) (0:Int)).length:Int),0,()),())=some ((shrL (n % 32) (a.drop (n/32)),()),()):=by simpa using key
   simp only[tN0,key',bS0,trim_ok (shrL_lim _ _) (show(shrL (n % 32) (a.drop (n/32))).length<4611686018427387904 by omega),hv,decide_eq_true g2,decide_eq_true g3,decide_eq_true g4,Bool.and_true,decide_true,cond_true]
theorem ior_lo {x y s:Nat} (hy:y<2 ^ s) (h:x*2 ^ s+y<18446744073709551616):ior .u64 (y:Int) ((x*2 ^ s:Nat):Int)=((x*2 ^ s+y:Nat):Int):=by
 rw[← ior_hi hy h,ior_nat (by omega) (by omega),ior_nat (by omega) (by omega),Nat.or_comm]
theorem shl_step {x c P C B:Nat} (hB:C*P=B) (hc:c<P) (hx:x<B) (hB64:B*P<18446744073709551616) (hP:0<P) (hC:0<C) :
   x*P % B=(x % C)*P∧(x % C)*P+c<B∧x*P/B<P∧x*P<18446744073709551616:=by
 refine⟨?_,?_,?_,?_⟩
 · rw[← hB,Nat.mul_mod_mul_right]
 · have : x % C + 1 ≤ C := Nat.mod_lt _ hC
   have:=Nat.mul_le_mul_right P this
   rw[hB,Nat.add_mul] at this
   omega
 · rw [Nat.div_lt_iff_lt_mul (by omega), Nat.mul_comm P B]
   exact Nat.mul_lt_mul_of_pos_right hx hP
 · exact Nat.lt_trans (Nat.mul_lt_mul_of_pos_right hx hP) hB64
theorem shl_ok {a:List Int} {n:Nat} (ha:Lim a) (hl:a.length<8796093022208) (hn:n<281474976710656):nat_shl a (n:Int)=some (limbs (nn a*2 ^ n)):=by
 have q1:iquo .i64 (n:Int) 32=((n/32:Nat):Int):=by rw[iquo_i (by omega) (by omega) (by omega)];omega
 have q2:irem (n:Int) 32=((n % 32:Nat):Int):=by rw[irem_n (by omega)];omega
 unfold nat_shl
 rw[q1,q2]
 have hpow:2 ^ n=4294967296 ^ (n/32)*2 ^ (n % 32):=by rw[two32,← Nat.pow_add];congr 1;omega
 have hw:n/32<8796093022208:=by omega
 have hs:n % 32<32:=by omega
 rw[hpow]
 generalize n/32=w at *
 generalize n % 32=s at *
 clear hpow q1 q2 hn
 have q3:iadd .i64 (iadd .i64 (a.length:Int) (w:Int)) 1=((a.length+w+1:Nat):Int):=by
  have:iadd .i64 (a.length:Int) (w:Int)=((a.length+w:Nat):Int):=by rw[iadd_i]<;>omega
  rw[this,iadd1 (by omega)];omega
 rw[q3]
 have hB:2 ^ (32-s)*2 ^ s=4294967296:=by rw[← Nat.pow_add,show 32-s+s=32 by omega]
 have hP:0<2 ^ s:=Nat.pow_pos (by decide)
 have hC:0<2 ^ (32-s):=Nat.pow_pos (by decide)
 have hB64:4294967296*2 ^ s<18446744073709551616:=by
  have:2 ^ s≤2 ^ 31:=Nat.pow_le_pow_right (by decide) (by omega)
  generalize 2 ^ s=P at *
  omega
 have hs64:s≤64:=by omega
 have key0:∀ P,P=2 ^ s→∃ r,(∃ (q:List Int) (c:Nat),r=(((List.replicate w 0++q)++[(c:Int)],()),())∧q.length=a.length∧Lim q∧c<P∧nn q+4294967296 ^ a.length*c=nn a*P) ∧
    lp nat_shl_s4 K0 (((w:Int),(s:Int),List.replicate (a.length+w+1) 0,a,(a.length:Int),0,()),())=some r:=by
  intro P hPe
  refine lp_inv (step:=nat_shl_s4) (fun i v=>∃ (q:List Int) (c:Nat),v=(((w:Int),(s:Int),(List.replicate w 0++q)++((c:Int)::List.replicate (a.length-i) 0),a,(a.length:Int),(i:Int),()),())∧q.length=i∧Lim q∧c<P∧nn q+4294967296 ^ i*c=nn (a.take i)*P)
    (fun r=>∃ (q:List Int) (c:Nat),r=(((List.replicate w 0++q)++[(c:Int)],()),())∧q.length=a.length∧Lim q∧c<P∧nn q+4294967296 ^ a.length*c=nn a*P) a.length
    ⟨[],0,?_,rfl,Lim.nil,by omega,by simp⟩ (by omega) ?_ ?_
  · have : List.replicate (a.length + w + 1) (0 : Int) = (List.replicate w 0 ++ []) ++ ((0 : Nat) : Int) :: List.replicate (a.length - 0) 0 := by
      rw[List.append_nil,show a.length+w+1=w+(a.length+1) by omega,← List.replicate_append_replicate,List.replicate_succ];rfl
    rw[this];rfl
  · rintro i v hi ⟨q, c, rfl, hq, hql, hc, hn⟩
    have b:=ha.at hi
    obtain⟨x,hx⟩:=Int.eq_ofNat_of_zero_le b.1
    have hx':x<4294967296:=by omega
    subst hPe
    obtain⟨s1,s2,s3,s4⟩:=shl_step hB hc hx' hB64 hP hC
    have r1:shlV .u64 a[i] (s:Int)=((x*2 ^ s:Nat):Int):=by rw[hx];exact shl_nat hs64 s4
    have r2:iand .u64 ((x*2 ^ s:Nat):Int) 4294967295=((x % 2 ^ (32-s)*2 ^ s:Nat):Int):=by rw[iand_low,← s1];exact(Int.natCast_emod _ 4294967296).symm
    have r3:ior .u64 (c:Int) ((x % 2 ^ (32-s)*2 ^ s:Nat):Int)=((x % 2 ^ (32-s)*2 ^ s+c:Nat):Int):=ior_lo hc (Nat.lt_trans s2 (by decide))
    have r4:shrV .u64 ((x*2 ^ s:Nat):Int) 32=((x*2 ^ s/4294967296:Nat):Int):=by rw[shr32];exact(Int.natCast_ediv _ 4294967296).symm
    have r5:iadd .i64 (i:Int) (w:Int)=((i+w:Nat):Int):=by rw[iadd_i]<;>omega
    have r6:iadd .i64 ((i+w:Nat):Int) 1=((i+w+1:Nat):Int):=by rw[iadd_i]<;>omega
    have k3:(a[i] % 4294967296).toNat=x:=by omega
    have hnt:=nnt hi
    rw[k3] at hnt
    have hk2:nn q+4294967296 ^ i*(x % 2 ^ (32-s)*2 ^ s+c)+4294967296 ^ (i+1)*(x*2 ^ s/4294967296)=nn (a.take (i+1))*2 ^ s:=by
      rw[hnt,Nat.pow_succ,← s1,Nat.add_mul,← hn]
      have:=Nat.div_add_mod (x*2 ^ s) 4294967296
      generalize x*2 ^ s/4294967296=Q at *
      generalize x*2 ^ s % 4294967296=R at *
      rw[Nat.mul_assoc _ x,← this]
      grind
    generalize hv:x % 2 ^ (32-s)*2 ^ s+c=vv at *
    generalize hcc:x*2 ^ s/4294967296=cc at *
    have l1:(List.replicate w (0:Int)++q).length=i+w:=by simp [hq];omega
    have l2:(List.replicate w (0:Int)++q++[(vv:Int)]).length=i+w+1:=by simp [hq];omega
    have z:List.replicate (a.length-i) (0:Int)=0::List.replicate (a.length-(i+1)) 0:=by rw[← List.replicate_succ];congr 1;omega
    have t0:((List.replicate w (0:Int)++q)++((c:Int)::List.replicate (a.length-i) 0))[i+w]?=some (c:Int):=by rw[List.getElem?_append_right (by omega),l1];simp
    have t1:((List.replicate w (0:Int)++q)++((c:Int)::List.replicate (a.length-i) 0)).set (i+w) (vv:Int)=((List.replicate w (0:Int)++q)++[(vv:Int)])++(0::List.replicate (a.length-(i+1)) 0):=by
      rw[List.set_append_right _ _ (by omega),l1,z];simp
    have t2:(((List.replicate w (0:Int)++q)++[(vv:Int)])++(0::List.replicate (a.length-(i+1)) 0)).set (i+w+1) (cc:Int)=(List.replicate w (0:Int)++(q++[(vv:Int)]))++((cc:Int)::List.replicate (a.length-(i+1)) 0):=by
      rw[List.set_append_right _ _ (by omega),l2];simp
    have t3:(((List.replicate w (0:Int)++q)++[(vv:Int)])++(0::List.replicate (a.length-(i+1)) 0))[i+w+1]?=some 0:=by rw[List.getElem?_append_right (by omega),l2];simp
    have c1:(i:Int)<(a.length:Int):=by omega
    have c2:(0:Int)≤(i:Int):=by omega
    have c3:¬ (s:Int)<0:=by omega
    have c4:(0:Int)≤((i+w:Nat):Int):=by omega
    have c5:((i+w:Nat):Int)<(((List.replicate w (0:Int)++q)++((c:Int)::List.replicate (a.length-i) 0)).length:Int):=by rw[List.length_append,l1,List.length_cons];omega
    have c6:(0:Int)≤((i+w+1:Nat):Int):=by omega
    have c7:((i+w+1:Nat):Int)<((((List.replicate w (0:Int)++q)++[(vv:Int)])++(0::List.replicate (a.length-(i+1)) 0)).length:Int):=by rw[List.length_append,l2,List.length_cons];omega
    refine⟨(((w:Int),(s:Int),(List.replicate w 0++(q++[(vv:Int)]))++((cc:Int)::List.replicate (a.length-(i+1)) 0),a,(a.length:Int),((i+1:Nat):Int),()),()),⟨_,cc,rfl,by simp [hq],Lim.append hql (Lim.cons (by omega) Lim.nil),s3,?_⟩,fun g=>?_⟩
    · rw [nn_append, hq, nn_one _ (by omega), tN0]
      exact hk2
    · simp only [nat_shl_s4, cnd c1, cnd c2, tN0, gE0 hi, bS0, cnd' c3, r5, cnd2 c4 c5, t0, r6, r1, r2, r3, r4, t1, cnd2 c6 c7, t3, t2, iadd1 (n := i) (by omega)]
      rfl
  · rintro v ⟨q, c, rfl, hq, hql, hc, hn⟩
    rw[List.take_length] at hn
    exact⟨_,⟨q,c,rfl,hq,hql,hc,hn⟩,fun g=>by simp [nat_shl_s4]⟩
 obtain⟨r,⟨q,c,rfl,hq,hql,hc,hnq⟩,hlp⟩:=key0 _ rfl
 have hc32:c<4294967296:=by
  have:2 ^ s≤2 ^ 32:=Nat.pow_le_pow_right (by decide) (by omega)
  generalize 2 ^ s=P at *
  omega
 have hval:nn ((List.replicate w (0:Int)++q)++[(c:Int)])=nn a*(4294967296 ^ w*2 ^ s):=by
  rw[List.append_assoc,nn_append,nn_append,nn_zeros,List.length_replicate,hq,nn_one _ (by omega),tN0,hnq]
  generalize 2 ^ s=P at *
  grind
 have g2:((a.length+w+1:Nat):Int)≤9223372036854775807:=by omega
 have g3:(0:Int)≤((a.length+w+1:Nat):Int):=by omega
 have g4:((8:Nat):Int)*((a.length+w+1:Nat):Int)≤281474976710656:=by omega
 have hlim:Lim ((List.replicate w (0:Int)++q)++[(c:Int)]):=Lim.append (Lim.append (Lim.zeros _) hql) (Lim.cons (by omega) Lim.nil)
 simp only[tN0,hlp,bS0,trim_ok hlim (show((List.replicate w (0:Int)++q)++[(c:Int)]).length<4611686018427387904 by simp [hq];omega),hval,decide_eq_true g2,decide_eq_true g3,decide_eq_true g4,Bool.and_true,decide_true,cond_true]
theorem over_all {α:Type} {a b:List α} (h:b.length=a.length):over a 0 b=b:=by simp [over,h]
theorem set_at {α:Type} {p u:List α} {i:Nat} (x:α) (hp:p.length=i) (hi:i<u.length):(p++u.drop i).set i x=(p++[x])++u.drop (i+1):=by
 subst hp
 rw[List.set_append_right _ _ (by omega),Nat.sub_self,List.drop_eq_getElem_cons hi,List.set_cons_zero,List.append_assoc]
 rfl
theorem take_ok {u v:List Int} {t:Nat} (hu:Lim u) (hv:Lim v) (hl:u.length<35184372088832) (hlv:v.length<u.length) (ht:t<4294967296) :
  ∃ (w:List Int) (d:Nat),nat_take u v (t:Int)=some (w,decide (d=1))∧w.length=u.length∧Lim w∧d≤1∧nn w+t*nn v=nn u+4294967296 ^ u.length*d:=by
 obtain⟨r,⟨p,d,rfl,hp,hpl,hd,hpn⟩,hlp⟩:=lp_inv (step:=nat_take_s3) (fun i s=>∃ (p:List Int) (c d:Nat),s=((p++u.drop i,v,(t:Int),(c:Int),(d:Int),(u.length:Int),(i:Int),()),())∧p.length=i∧Lim p∧c<4294967296∧d≤1∧nn p+t*nn (v.take i)=nn (u.take i)+4294967296 ^ i*(d+c)∧(v.length<i→c=0))
  (fun r=>∃ (p:List Int) (d:Nat),r=((p,(d:Int),()),())∧p.length=u.length∧Lim p∧d≤1∧nn p+t*nn v=nn u+4294967296 ^ u.length*d) u.length (v:=((u,v,(t:Int),0,0,(u.length:Int),0,()),()))
  ⟨[], 0, 0, by simp, rfl, Lim.nil, by omega, by omega, by simp, by omega⟩ (by omega) (by
   rintro i s hi ⟨p,c,d,rfl,hp,hpl,hc,hd,hs,h0⟩
   have b1:=hu.at hi
   have b2:=lget_lim hv i
   obtain⟨y,hy⟩:=Int.eq_ofNat_of_zero_le b2.1
   obtain⟨x,hx⟩:=Int.eq_ofNat_of_zero_le b1.1
   have bt:(0:Int)≤(t:Int)∧(t:Int)<4294967296:=by omega
   obtain⟨m0,m1,m2,m3⟩:=mul_lt_sq bt b2 (show(0:Int)≤(c:Int)∧(c:Int)<4294967296 by omega) (show(0:Int)≤0∧(0:Int)<4294967296 by omega)
   have hm:(t:Int)*lget v i=((t*y:Nat):Int):=by rw[hy,Int.natCast_mul]
   have q1:imul .u64 (t:Int) (lget v i)=((t*y:Nat):Int):=by rw[imul_u m0 m1,hm]
   rw[hm] at m0 m1 m2 m3
   have hty:t*y≤4294967295*4294967295:=Nat.mul_le_mul (by omega) (by omega)
   have q2:iadd .u64 (c:Int) ((t*y:Nat):Int)=((c+t*y:Nat):Int):=by rw[iadd_u (by omega) (by omega)];omega
   have q3:iadd .u64 4294967296 u[i]=4294967296+u[i]:=iadd_u (by omega) (by omega)
   have hlow:iand .u64 ((c+t*y:Nat):Int) 4294967295=(((c+t*y) % 4294967296:Nat):Int):=by rw[iand_low];exact(Int.natCast_emod _ 4294967296).symm
   have hhi:shrV .u64 ((c+t*y:Nat):Int) 32=(((c+t*y)/4294967296:Nat):Int):=by rw[shr32];exact(Int.natCast_ediv _ 4294967296).symm
   have hnt:=nn_take_lget v i
   have hdm:=Nat.div_add_mod (c+t*y) 4294967296
   have hlt:=Nat.mod_lt (c+t*y) (show 0<4294967296 by decide)
   have hcc:(c+t*y)/4294967296<4294967296:=by omega
   have hc0:v.length<i+1→(c+t*y)/4294967296=0:=by
     intro h
     have:y=0:=by
      have:lget v i=0:=by simp only[lget];rw[List.getElem?_eq_none (by omega)];rfl
      omega
     subst this
     omega
   generalize hL:(c+t*y) % 4294967296=lo at *
   generalize hH:(c+t*y)/4294967296=hg at *
   have q4:isub .u64 (4294967296+u[i]) (lo:Int)=4294967296+u[i]-lo:=isub_u (by omega) (by omega)
   have q5:isub .u64 (4294967296+u[i]-(lo:Int)) (d:Int)=((4294967296+x-lo-d:Nat):Int):=by rw[isub_u (by omega) (by omega)];omega
   have q6:iand .u64 ((4294967296+x-lo-d:Nat):Int) 4294967295=(((4294967296+x-lo-d) % 4294967296:Nat):Int):=by rw[iand_low];exact(Int.natCast_emod _ 4294967296).symm
   have q7:isub .u64 1 (shrV .u64 ((4294967296+x-lo-d:Nat):Int) 32)=((1-(4294967296+x-lo-d)/4294967296:Nat):Int):=by
     rw[shr32,isub_u (by omega) (by omega)];omega
   have hdd:(4294967296+x-lo-d) % 4294967296+lo+d=x+4294967296*(1-(4294967296+x-lo-d)/4294967296):=by omega
   have hd1:1-(4294967296+x-lo-d)/4294967296≤1:=by omega
   have ho:(4294967296+x-lo-d) % 4294967296<4294967296:=by omega
   generalize (4294967296+x-lo-d) % 4294967296=o at *
   generalize 1-(4294967296+x-lo-d)/4294967296=d' at *
   refine⟨(((p++[(o:Int)])++u.drop (i+1),v,(t:Int),(hg:Int),(d':Int),(u.length:Int),((i+1:Nat):Int),()),()),⟨_,_,_,rfl,by simp [hp],Lim.append hpl (Lim.cons (by omega) Lim.nil),hcc,hd1,?_,hc0⟩,fun g=>?_⟩
   · rw [nn_append, hp, nn_one _ (by omega), nn_take_lget v i, nnt hi, Nat.pow_succ, tN0]
     have k1:(lget v i % 4294967296).toNat=y:=by omega
     have k2:(u[i] % 4294967296).toNat=x:=by omega
     rw[k1,k2]
     have k3:4294967296 ^ i*(o+lo+d)=4294967296 ^ i*(x+4294967296*d'):=by rw[hdd]
     have k4:4294967296 ^ i*(4294967296*hg+lo)=4294967296 ^ i*(c+t*y):=by rw[hdm]
     grind
   · have e5 : (p ++ u.drop i).length = u.length := by simp [hp]; omega
     have e6:(p++u.drop i)[i]?=some u[i]:=by rw[List.getElem?_append_right (by omega),hp,Nat.sub_self,List.getElem?_drop,Nat.add_zero];exact gE0 hi
     have c1:(i:Int)<(u.length:Int):=by omega
     have c2:(0:Int)≤(i:Int):=by omega
     have c3:(i:Int)<((p++u.drop i).length:Int):=by omega
     simp only[nat_take_s3,cnd c1,limb_ok,bS0,cnd2 c2 c3,tN0,e6,q1,q2,hlow,q3,q4,q5,q6,q7,hhi,set_at _ hp hi,iadd1 (n:=i) (by omega)]
     rfl) (by
   rintro s ⟨p,c,d,rfl,hp,hpl,hc,hd,hs,h0⟩
   have:=h0 hlv
   subst this
   rw[List.take_of_length_le (Nat.le_of_lt hlv),List.take_length] at hs
   exact⟨((p,(d:Int),()),()),⟨p,d,rfl,hp,hpl,hd,by simpa using hs⟩,fun g=>by simp [nat_take_s3]⟩)
 refine⟨p,d,?_,hp,hpl,hd,hpn⟩
 have:decide ((d:Int)=1)=decide (d=1):=by by_cases h:d=1<;>simp [h];omega
 simp [nat_take,hlp,hp,this]
theorem give_ok {u v:List Int} (hu:Lim u) (hv:Lim v) (hl:u.length<35184372088832) (hlv:v.length≤u.length) :
  ∃ (w:List Int) (c:Nat),nat_give u v=some w∧w.length=u.length∧Lim w∧c≤1∧nn w+4294967296 ^ u.length*c=nn u+nn v:=by
 obtain⟨r,⟨p,c,rfl,hp,hpl,hc,hpn⟩,hlp⟩:=lp_inv (step:=nat_give_s2) (fun i s=>∃ (p:List Int) (c:Nat),s=((p++u.drop i,v,(c:Int),(u.length:Int),(i:Int),()),())∧p.length=i∧Lim p∧c≤1∧nn p+4294967296 ^ i*c=nn (u.take i)+nn (v.take i))
  (fun r=>∃ (p:List Int) (c:Nat),r=((p,()),())∧p.length=u.length∧Lim p∧c≤1∧nn p+4294967296 ^ u.length*c=nn u+nn v) u.length (v:=((u,v,0,(u.length:Int),0,()),()))
  ⟨[], 0, by simp, rfl, Lim.nil, by omega, by simp⟩ (by omega) (by
   rintro i s hi ⟨p,c,rfl,hp,hpl,hc,hs⟩
   have b1:=hu.at hi
   have b2:=lget_lim hv i
   have q1:iadd .u64 u[i] (lget v i)=u[i]+lget v i:=iadd_u (by omega) (by omega)
   have q2:iadd .u64 (c:Int) (u[i]+lget v i)=c+(u[i]+lget v i):=iadd_u (by omega) (by omega)
   have e4:((((c:Int)+(u[i]+lget v i))/4294967296).toNat:Int)=((c:Int)+(u[i]+lget v i))/4294967296:=by omega
   refine⟨(((p++[((c:Int)+(u[i]+lget v i)) % 4294967296])++u.drop (i+1),v,((((c:Int)+(u[i]+lget v i))/4294967296).toNat:Int),(u.length:Int),((i+1:Nat):Int),()),()),⟨_,_,rfl,by simp [hp],Lim.append hpl (Lim.cons (by omega) Lim.nil),by omega,?_⟩,fun g=>?_⟩
   · rw [nn_append, hp, nn_one _ (by omega), nn_take_lget v i, nnt hi, Nat.pow_succ]
     have k1:(((c:Int)+(u[i]+lget v i)) % 4294967296).toNat+4294967296*(((c:Int)+(u[i]+lget v i))/4294967296).toNat=c+(u[i] % 4294967296).toNat+(lget v i % 4294967296).toNat:=by omega
     have k2:4294967296 ^ i*((((c:Int)+(u[i]+lget v i)) % 4294967296).toNat+4294967296*(((c:Int)+(u[i]+lget v i))/4294967296).toNat)=4294967296 ^ i*(c+(u[i] % 4294967296).toNat+(lget v i % 4294967296).toNat):=by rw[k1]
     grind
   · have e5 : (p ++ u.drop i).length = u.length := by simp [hp]; omega
     have e6:(p++u.drop i)[i]?=some u[i]:=by rw[List.getElem?_append_right (by omega),hp,Nat.sub_self,List.getElem?_drop,Nat.add_zero];exact gE0 hi
     have c1:(i:Int)<(u.length:Int):=by omega
     have c2:(0:Int)≤(i:Int):=by omega
     have c3:(i:Int)<((p++u.drop i).length:Int):=by omega
     simp only[nat_give_s2,cnd c1,limb_ok,bS0,cnd2 c2 c3,tN0,e6,q1,q2,iand_low,shr32,e4,set_at _ hp hi,iadd1 (n:=i) (by omega)]
     rfl) (by
   rintro s ⟨p,c,rfl,hp,hpl,hc,hs⟩
   rw[List.take_of_length_le hlv,List.take_length] at hs
   exact⟨((p,()),()),⟨p,c,rfl,hp,hpl,hc,hs⟩,fun g=>by simp [nat_give_s2]⟩)
 refine⟨p,c,?_,hp,hpl,hc,hpn⟩
 simp [nat_give,hlp,hp]
section
variable {U V D B u2 ul two v1 v2 vl g r:Nat}
theorem knuth_low (hU:U=ul+D*(u2+B*two)) (hV:V=vl+D*(v2+B*v1)) (hvl:vl<D) (hv1:0<v1) (ht:g*v1+r=two) (hg:g<B) (hle:g*v2≤r*B+u2):g*V<U+V:=by
 have h1:U=ul+D*(u2+r*B)+D*B*(g*v1):=by rw[hU,← ht];grind
 have h2:g*V=g*vl+D*(g*v2)+D*B*(g*v1):=by rw[hV];grind
 have h3:D*(g*v2)≤D*(u2+r*B):=Nat.mul_le_mul_left _ (by omega)
 have h4:g*vl<B*D:=Nat.mul_lt_mul'' hg hvl
 have h5:D*(B*1)≤D*(v2+B*v1):=Nat.mul_le_mul_left _ (by have:=Nat.mul_le_mul_left B hv1;omega)
 have h6:D*(B*1)=B*D:=by rw[Nat.mul_one,Nat.mul_comm]
 omega
theorem knuth_high (hU:U=ul+D*(u2+B*two)) (hV:V=vl+D*(v2+B*v1)) (hul:ul<D) (ht:g*v1+r=two) (hgt:r*B+u2<g*v2):U<g*V:=by
 have h1:U=ul+D*(u2+r*B)+D*B*(g*v1):=by rw[hU,← ht];grind
 have h2:g*V=g*vl+D*(g*v2)+D*B*(g*v1):=by rw[hV];grind
 have h3:D*(u2+r*B+1)≤D*(g*v2):=Nat.mul_le_mul_left _ (by omega)
 have h4:D*(u2+r*B+1)=D*(u2+r*B)+D:=by rw[Nat.mul_add,Nat.mul_one]
 omega
theorem knuth_first (hU:U=ul+D*(u2+B*two)) (hV:V=vl+D*(v2+B*v1)) (hul:ul<D) (hu2:u2<B) (ht:g*v1+r=two) (hr:r<v1):U<(g+1)*V:=by
 have h1:two+1≤(g+1)*v1:=by rw[Nat.add_mul];omega
 have h2:D*(u2+B*two+1)≤D*(B*(two+1)):=Nat.mul_le_mul_left _ (by rw[Nat.mul_add,Nat.mul_one];omega)
 have h3:D*(B*(two+1))≤D*(B*((g+1)*v1)):=Nat.mul_le_mul_left _ (Nat.mul_le_mul_left _ h1)
 have h4:(g+1)*V=(g+1)*vl+(g+1)*(D*v2)+D*(B*((g+1)*v1)):=by rw[hV];grind
 have h5:D*(u2+B*two+1)=D*(u2+B*two)+D:=by rw[Nat.mul_add,Nat.mul_one]
 omega
theorem knuth_stop (h2:two≤v1*B+(B-1)) (hB:0<B) (ht:g*v1+r=two) (hr:B≤r):g<B:=by
 rcases Nat.lt_or_ge g B with h | h
 · exact h
 · have := Nat.mul_le_mul_right v1 h
   rw[Nat.mul_comm B] at this
   omega
theorem knuth_wide (hg:g<B) (hv2:v2<B) (hr:B≤r):g*v2≤r*B+u2:=by
 have h1:g*v2≤B*B:=Nat.mul_le_mul (Nat.le_of_lt hg) (Nat.le_of_lt hv2)
 have h2:B*B≤r*B:=Nat.mul_le_mul_right _ hr
 omega
theorem knuth_ok {w:Nat} (hV:0<V) (hw:w+g*V=U) (h:U<(g+1)*V):U/V=g∧U % V=w:=by
 rw[Nat.add_mul,Nat.one_mul] at h
 have h1:U/V=g:=by
  rw[Nat.div_eq_iff hV];omega
 have:=Nat.div_add_mod U V
 rw[h1,Nat.mul_comm] at this
 exact⟨h1,by omega⟩
theorem knuth_back {w w' P c:Nat} (hV:0<V) (hw:w+g*V=U+P) (hwP:w<P) (h:g*V<U+V) (hc:c≤1) (hw':w'+P*c=w+V) (hwP':w'<P):0<g∧U/V=g-1∧U % V=w':=by
 have hg0:0<g:=by
  rcases Nat.eq_zero_or_pos g with h | h
  · subst h;omega
  · exact h
 have hgv2:g*V=(g-1)*V+V:=by
  conv=>lhs;rw[show g=(g-1)+1 by omega,Nat.add_mul,Nat.one_mul]
 have hc1:c=1:=by
  rcases Nat.eq_zero_or_pos c with h | h
  · subst h;omega
  · omega
 subst hc1
 have h1:U/V=g-1:=by
  rw[Nat.div_eq_iff hV];omega
 have:=Nat.div_add_mod U V
 rw[h1,Nat.mul_comm] at this
 exact⟨hg0,h1,by omega⟩
end
theorem nn_last3 {u:List Int} {m:Nat} (hu:Lim u) (h:u.length=m+3) {x y z:Nat} (hx:u[m]?=some (x:Int)) (hy:u[m+1]?=some (y:Int)) (hz:u[m+2]?=some (z:Int)):nn u=nn (u.take m)+4294967296 ^ m*(x+4294967296*(z*4294967296+y)):=by
 have e1:=nn_take_succ hx
 have e2:=nn_take_succ hy
 have e3:=nn_take_succ hz
 rw[List.take_of_length_le (by omega)] at e3
 have bx:=hu.get hx
 have by_:=hu.get hy
 have bz:=hu.get hz
 have k1:((x:Int) % 4294967296).toNat=x:=by omega
 have k2:((y:Int) % 4294967296).toNat=y:=by omega
 have k3:((z:Int) % 4294967296).toNat=z:=by omega
 rw[k1] at e1
 rw[k2] at e2
 rw[k3] at e3
 rw[e3,e2,e1,Nat.pow_succ,Nat.pow_succ]
 grind
theorem nn_last2 {u:List Int} {m:Nat} (hu:Lim u) (h:u.length=m+2) {x y:Nat} (hx:u[m]?=some (x:Int)) (hy:u[m+1]?=some (y:Int)):nn u=nn (u.take m)+4294967296 ^ m*(x+4294967296*y):=by
 have e1:=nn_take_succ hx
 have e2:=nn_take_succ hy
 rw[List.take_of_length_le (by omega)] at e2
 have bx:=hu.get hx
 have by_:=hu.get hy
 have k1:((x:Int) % 4294967296).toNat=x:=by omega
 have k2:((y:Int) % 4294967296).toNat=y:=by omega
 rw[k1] at e1
 rw[k2] at e2
 rw[e2,e1,Nat.pow_succ]
 grind
theorem getNat {u:List Int} (hu:Lim u) {i:Nat} (h:i<u.length):∃ x:Nat,u[i]?=some (x:Int)∧x<4294967296:=by
 have b:=hu.at h
 obtain⟨x,hx⟩:=Int.eq_ofNat_of_zero_le b.1
 exact⟨x,by rw[gE0 h,hx],by omega⟩
theorem digit_loop {u v:List Int} {m:Nat} (hu:Lim u) (hv:Lim v) (hul:u.length=m+3) (hvl:v.length=m+2) (hm:m<35184372088832)
  {x y z p q:Nat} (hx:u[m]?=some (x:Int)) (hy:u[m+1]?=some (y:Int)) (hz:u[m+2]?=some (z:Int)) (hp:v[m]?=some (p:Int)) (hq:v[m+1]?=some (q:Int))
  (hx':x<4294967296) (hy':y<4294967296) (hz':z<4294967296) (hp':p<4294967296) (hq':q<4294967296)
  (hn:4294967296≤2*q) (hlt:nn u<4294967296*nn v) :
  ∃ g:Nat,g<4294967296∧nn u<(g+1)*nn v∧g*nn v<nn u+nn v ∧
    lp nat_digit_s4 K0 ((u,v,((m+2:Nat):Int),(((z*4294967296+y)/q:Nat):Int),(((z*4294967296+y) % q:Nat):Int),()),())=some ((u,v,(g:Int),()),()):=by
 have hU:=nn_last3 hu hul hx hy hz
 have hV:=nn_last2 hv hvl hp hq
 have hul':=nn_lt (u.take m)
 have hvl':=nn_lt (v.take m)
 rw[List.length_take,Nat.min_eq_left (by omega)] at hul' hvl'
 have hq0:0<q:=by omega
 have hzq:z≤q:=by
  rcases Nat.lt_or_ge q z with h | h
  · exfalso
    have h1:4294967296 ^ m*(4294967296*((q+1)*4294967296))≤4294967296 ^ m*(x+4294967296*(z*4294967296+y)):=Nat.mul_le_mul_left _ (by omega)
    have h2:4294967296 ^ m*(p+4294967296*q+1)≤4294967296 ^ m*(4294967296*(q+1)):=Nat.mul_le_mul_left _ (by omega)
    have h3:4294967296 ^ m*(p+4294967296*q+1)=4294967296 ^ m*(p+4294967296*q)+4294967296 ^ m:=by rw[Nat.mul_add,Nat.mul_one]
    have h4:4294967296 ^ m*(4294967296*((q+1)*4294967296))=4294967296*(4294967296 ^ m*(4294967296*(q+1))):=by grind
    omega
  · exact h
 have htwo:z*4294967296+y≤q*4294967296+(4294967296-1):=by omega
 have hg0:(z*4294967296+y)/q≤4294967297:=by
  rw[Nat.div_le_iff_le_mul hq0];omega
 have hdm:=Nat.div_add_mod (z*4294967296+y) q
 have hml:=Nat.mod_lt (z*4294967296+y) hq0
 rw[Nat.mul_comm] at hdm
 obtain⟨g0,hG0⟩:∃ t,t=(z*4294967296+y)/q:=⟨_,rfl⟩
 obtain⟨r0,hR0⟩:∃ t,t=(z*4294967296+y) % q:=⟨_,rfl⟩
 rw[← hG0] at hg0 hdm ⊢
 rw[← hR0] at hml hdm ⊢
 clear hG0 hR0
 obtain⟨two,hTW⟩:∃ t,t=z*4294967296+y:=⟨_,rfl⟩
 rw[← hTW] at hU htwo hdm
 have hfirst:nn u<(g0+1)*nn v:=knuth_first hU hV hul' hx' hdm hml
 obtain⟨r,⟨g,rfl,h1,h2,h3⟩,hlp⟩:=lp_wf (step:=nat_digit_s4)
  (fun s=>∃ g r:Nat,s=((u,v,((m+2:Nat):Int),(g:Int),(r:Int),()),())∧g*q+r=two∧r<4294967296∧g≤4294967297∧nn u<(g+1)*nn v) (fun s=>s.1.2.2.2.1.toNat)
  (fun t=>∃ g:Nat,t=((u,v,(g:Int),()),())∧g<4294967296∧nn u<(g+1)*nn v∧g*nn v<nn u+nn v) (v:=((u,v,((m+2:Nat):Int),(g0:Int),(r0:Int),()),()))
  ⟨g0,r0,rfl,hdm,by omega,hg0,hfirst⟩ (by simp;omega) (by
    rintro s ⟨g,r,rfl,ht,hr,hg,hgu⟩
    have i1:isub .i64 ((m+2:Nat):Int) 1=((m+1:Nat):Int):=by rw[isub_i]<;>omega
    have i2:isub .i64 ((m+2:Nat):Int) 2=((m:Nat):Int):=by rw[isub_i]<;>omega
    have i3:iadd .u64 (r:Int) (q:Int)=((r+q:Nat):Int):=by rw[iadd_u]<;>omega
    have c1:(0:Int)≤((m+1:Nat):Int):=by omega
    have c2:(0:Int)≤((m:Nat):Int):=by omega
    have c3:((m:Nat):Int)<(u.length:Int):=by omega
    have back:0<g→nn u<g*nn v→(∀ k,nat_digit_s4 k ((u,v,((m+2:Nat):Int),(g:Int),(r:Int),()),())=bif decide (((r+q:Nat):Int)≥4294967296) then some ((u,v,(((g-1:Nat)):Int),()),()) else k ((u,v,((m+2:Nat):Int),((g-1:Nat):Int),((r+q:Nat):Int),()),())) →
        (∃ t,(∃ g:Nat,t=((u,v,(g:Int),()),())∧g<4294967296∧nn u<(g+1)*nn v∧g*nn v<nn u+nn v)∧∀ k,nat_digit_s4 k ((u,v,((m+2:Nat):Int),(g:Int),(r:Int),()),())=some t) ∨
        ∃ s',(∃ g r:Nat,s'=((u,v,((m+2:Nat):Int),(g:Int),(r:Int),()),())∧g*q+r=two∧r<4294967296∧g≤4294967297∧nn u<(g+1)*nn v)∧s'.1.2.2.2.1.toNat<(g:Int).toNat∧∀ k,nat_digit_s4 k ((u,v,((m+2:Nat):Int),(g:Int),(r:Int),()),())=k s':=by
      intro hg1 hgu' hk
      have ht':(g-1)*q+(r+q)=two:=by
        have:g*q=(g-1)*q+q:=by
          conv=>lhs;rw[show g=(g-1)+1 by omega,Nat.add_mul,Nat.one_mul]
        omega
      have hgg:nn u<(g-1+1)*nn v:=by rw[show g-1+1=g by omega];exact hgu'
      by_cases hb:4294967296≤r+q
      · refine .inl ⟨_, ⟨g - 1, rfl, ?_, hgg, ?_⟩, fun k => by rw [hk]; exact cnd (by omega)⟩
        · exact knuth_stop htwo (by decide) ht' hb
        · exact knuth_low hU hV hvl' hq0 ht' (knuth_stop htwo (by decide) ht' hb) (knuth_wide (knuth_stop htwo (by decide) ht' hb) hp' hb)
      · exact .inr ⟨_,⟨g-1,r+q,rfl,ht',by omega,by omega,hgg⟩,by show(((g-1:Nat)):Int).toNat<(g:Int).toNat;omega,fun k=>by rw[hk];exact cnd' (by omega)⟩
    by_cases hB:4294967296≤g
    · have i4 : isub .u64 (g : Int) 1 = ((g - 1 : Nat) : Int) := by rw [isub_u] <;> omega
      refine back (by omega) ?_ ?_
      · exact Nat.lt_of_lt_of_le hlt (Nat.mul_le_mul_right _ hB)
      · intro k
        have c4:(g:Int)≥4294967296:=by omega
        simp only[nat_digit_s4,cnd c4,i1,cnd c1,tN0,hq,bS0,i3,i4]
    · have hgp : g * p ≤ 4294967295 * 4294967295 := Nat.mul_le_mul (by omega) (by omega)
      have i5:imul .u64 (g:Int) (p:Int)=((g*p:Nat):Int):=by rw[imul_u]<;>rw[← Int.natCast_mul]<;>omega
      have i6:ior .u64 (shlV .u64 (r:Int) 32) (x:Int)=((r*4294967296+x:Nat):Int):=by rw[shl32 (by omega) (by omega),ior32 (by omega) (by omega) (by omega) (by omega)];omega
      have c4:¬ (g:Int)≥4294967296:=by omega
      by_cases hgt:r*4294967296+x<g*p
      · have hg1 : 0 < g := by
          rcases Nat.eq_zero_or_pos g with h | h
          · subst h;omega
          · exact h
        have i4:isub .u64 (g:Int) 1=((g-1:Nat):Int):=by rw[isub_u]<;>omega
        refine back hg1 (knuth_high hU hV hul' ht hgt) ?_
        intro k
        have c5:((g*p:Nat):Int)>((r*4294967296+x:Nat):Int):=by omega
        rw[nat_digit_s4,cnd' c4,i2,cnd c2,tN0,hp,bS0,cnd2 c2 c3,hx,bS0,i5,i6,cnd c5,i1,cnd c1,tN0,hq,bS0,i3,i4]
      · have c5 : ¬ ((g * p : Nat) : Int) > ((r * 4294967296 + x : Nat) : Int) := by omega
        refine .inl ⟨_,⟨g,rfl,by omega,hgu,knuth_low hU hV hvl' hq0 ht (by omega) (by omega)⟩,fun k=>?_⟩
        rw[nat_digit_s4,cnd' c4,i2,cnd c2,tN0,hp,bS0,cnd2 c2 c3,hx,bS0,i5,i6,cnd' c5])
 exact⟨g,h1,h2,h3,hlp⟩
theorem digit_ok {u v:List Int} {m:Nat} (hu:Lim u) (hv:Lim v) (hul:u.length=m+3) (hvl:v.length=m+2) (hm:m<17592186044416)
   {q:Nat} (hq:v[m+1]?=some (q:Int)) (hn:4294967296≤2*q) (hlt:nn u<4294967296*nn v) :
   ∃ w:List Int,nat_digit u v=some (w,((nn u/nn v:Nat):Int))∧w.length=u.length∧Lim w∧nn w=nn u % nn v:=by
 obtain⟨x,hx,hx'⟩:=getNat hu (i:=m) (by omega)
 obtain⟨y,hy,hy'⟩:=getNat hu (i:=m+1) (by omega)
 obtain⟨z,hz,hz'⟩:=getNat hu (i:=m+2) (by omega)
 obtain⟨p,hp,hp'⟩:=getNat hv (i:=m) (by omega)
 have hq':q<4294967296:=by have:=hv.get hq;omega
 obtain⟨g,hg,hg1,hg2,hlp⟩:=digit_loop hu hv hul hvl (by omega) hx hy hz hp hq hx' hy' hz' hp' hq' hn hlt
 obtain⟨w,d,htk,hw,hwl,hd,hwn⟩:=take_ok hu hv (by omega) (by omega) hg
 have hV0:0<nn v:=by
   rcases Nat.eq_zero_or_pos (nn v) with h | h
   · rw[h] at hlt;omega
   · exact h
 have hwlt:=nn_lt w
 rw[hw] at hwlt
 have e0:((v.length:Nat):Int)=((m+2:Nat):Int):=by omega
 have e1:isub .i64 ((m+2:Nat):Int) 1=((m+1:Nat):Int):=by rw[isub_i]<;>omega
 have c1:(0:Int)≤((m+2:Nat):Int):=by omega
 have c2:((m+2:Nat):Int)<((u.length:Nat):Int):=by omega
 have c3:(0:Int)≤((m+1:Nat):Int):=by omega
 have c4:((m+1:Nat):Int)<((u.length:Nat):Int):=by omega
 have c5:¬ (q:Int)=0:=by omega
 have i6:ior .u64 (shlV .u64 (z:Int) 32) (y:Int)=((z*4294967296+y:Nat):Int):=by rw[shl32 (by omega) (by omega),ior32 (by omega) (by omega) (by omega) (by omega)];omega
 have i7:iquo .u64 ((z*4294967296+y:Nat):Int) (q:Int)=(((z*4294967296+y)/q:Nat):Int):=by rw[iquo_u (by omega) (by omega) (by omega)];exact(Int.natCast_ediv _ _).symm
 have i8:irem ((z*4294967296+y:Nat):Int) (q:Int)=(((z*4294967296+y) % q:Nat):Int):=by rw[irem_n (by omega)];exact(Int.natCast_emod _ _).symm
 have ov:over u 0 w=w:=over_all hw
 by_cases hd0:d=0
 · subst hd0
   obtain⟨hq2,hr2⟩:=knuth_ok hV0 (by simpa using hwn) hg1
   refine⟨w,?_,hw,hwl,hr2.symm⟩
   rw[nat_digit,e0,e1,cnd2 c1 c2,tN0,hz,bS0,cnd2 c3 c4,tN0,hy,bS0,cnd c3,hq,bS0,cnd' c5,cnd c3,bS0,cnd' c5,i6,i7,i8,hlp,bS0,htk,bS0,hq2]
   simp [hw,ov]
 · have hd1 : d = 1 := by omega
   subst hd1
   obtain⟨w',c,hgv,hw',hwl',hc,hwn'⟩:=give_ok hwl hv (by omega) (by omega)
   rw[hw] at hwn' hw'
   have hw'lt:=nn_lt w'
   rw[hw'] at hw'lt
   obtain⟨hg0,hq2,hr2⟩:=knuth_back hV0 (by simpa using hwn) hwlt hg2 hc hwn' hw'lt
   refine⟨w',?_,hw',hwl',hr2.symm⟩
   have i9:isub .u64 (g:Int) 1=((g-1:Nat):Int):=by rw[isub_u]<;>omega
   have ov2:over w 0 w'=w':=over_all (by omega)
   rw[nat_digit,e0,e1,cnd2 c1 c2,tN0,hz,bS0,cnd2 c3 c4,tN0,hy,bS0,cnd c3,hq,bS0,cnd' c5,cnd c3,bS0,cnd' c5,i6,i7,i8,hlp,bS0,htk,bS0,hq2,ov]
   simp [hgv,ov2,hw',i9]
theorem limbs_len_mono {n m:Nat} (h:n≤m):(limbs n).length≤(limbs m).length:=by
 rcases Nat.lt_or_ge (limbs m).length (limbs n).length with h1 | h1
 · have:=len_lt_nn h1;omega
 · exact h1
theorem nn_append_zeros (a:List Int):nn (a++[0,0])=nn a:=by rw[nn_append];simp [nn]
theorem top_limb {n s x D:Nat} {t:Nat} (hn:n=t+D*x) (ht:t<D) (hx:x*2 ^ s<4294967296) (hx1:(x+1)*2 ^ s≤4294967296) (hx2:2147483648≤x*2 ^ s):n*2 ^ s<D*4294967296∧D*2147483648≤n*2 ^ s:=by
 generalize 2 ^ s=P at *
 subst hn
 constructor
 · have h1 : (t + D * x) + 1 ≤ D * (x + 1) := by rw [Nat.mul_add, Nat.mul_one]; omega
   have hP:0<P:=by
    rcases Nat.eq_zero_or_pos P with h | h
    · subst h;omega
    · exact h
   have h2:=Nat.mul_le_mul_right P h1
   have h3:D*((x+1)*P)≤D*4294967296:=Nat.mul_le_mul_left _ hx1
   rw[Nat.mul_assoc] at h2
   rw[Nat.add_mul,Nat.one_mul] at h2
   omega
 · have h1 : D * 2147483648 ≤ D * (x * P) := Nat.mul_le_mul_left _ hx2
   have h2:(t+D*x)*P=t*P+D*(x*P):=by rw[Nat.add_mul,Nat.mul_assoc]
   omega
theorem lenN_spec {x:Nat} (h:x≠0) (hx:x<4294967296):∃ k,lenN x=k∧0<k∧k≤32∧x*2 ^ (32-k)<4294967296∧(x+1)*2 ^ (32-k)≤4294967296∧2147483648≤x*2 ^ (32-k):=by
 have h1:=Nat.log2_self_le h
 have h2:x<2 ^ (x.log2+1):=Nat.lt_log2_self
 have h3:x.log2<32:=(Nat.log2_lt h).2 hx
 refine⟨x.log2+1,by simp [lenN,h],by omega,by omega,?_⟩
 generalize x.log2=l at *
 have p1:2 ^ (l+1)*2 ^ (32-(l+1))=4294967296:=by rw[← Nat.pow_add,show l+1+(32-(l+1))=32 by omega]
 have p2:2 ^ l*2 ^ (32-(l+1))=2147483648:=by rw[← Nat.pow_add,show l+(32-(l+1))=31 by omega]
 have hP:0<2 ^ (32-(l+1)):=Nat.pow_pos (by decide)
 generalize 2 ^ (32-(l+1))=P at *
 generalize 2 ^ (l+1)=Q at *
 generalize 2 ^ l=R at *
 have a1:(x+1)*P≤Q*P:=Nat.mul_le_mul_right _ h2
 have a2:R*P≤x*P:=Nat.mul_le_mul_right _ h1
 rw[Nat.add_mul,Nat.one_mul] at a1
 refine⟨by omega,?_,by omega⟩
 rw[Nat.add_mul,Nat.one_mul];omega
theorem LeadingZeros32_ok {x:Nat} (h:x≠0) (hx:x<4294967296):∃ s:Nat,bits_LeadingZeros32 (x:Int)=some (s:Int)∧s<32∧x*2 ^ s<4294967296∧(x+1)*2 ^ s≤4294967296∧2147483648≤x*2 ^ s:=by
 obtain⟨k,h1,h2,h3,h4⟩:=lenN_spec h hx
 refine⟨32-k,?_,by omega,h4⟩
 have e:len32 (x:Int)=some (k:Int):=by
  rw[len32,cnd2 (by omega) (by omega),tN0,h1]
 have e2:isub .i64 32 (k:Int)=((32-k:Nat):Int):=by rw[isub_i]<;>omega
 rw[bits_LeadingZeros32,e,bS0,e2]
theorem long_step {A' U U' V q w T E Q:Nat} (hA:A'=U+V*(E*4294967296*Q)) (hU:U=T+E*(V*q+w)) (hU':U'=T+E*w):A'=U'+V*(E*(q+4294967296*Q)):=by
 subst hU hU';rw[hA];grind
theorem drop_lt {u:List Int} {j V:Nat} (hu:Lim u) (hj:j<u.length) (h:nn (u.drop (j+1))<V):nn (u.drop j)<4294967296*V:=by
 rw[nn_drop u hj]
 have h1:4294967296*(nn (u.drop (j+1))+1)≤4294967296*V:=Nat.mul_le_mul_left _ h
 omega
theorem nn_take_drop (u:List Int) {j:Nat} (hj:j≤u.length):nn u=nn (u.take j)+4294967296 ^ j*nn (u.drop j):=by
 conv=>lhs;rw[← List.take_append_drop j u]
 rw[nn_append,List.length_take,Nat.min_eq_left hj]
theorem long_loop {v u0:List Int} {s:Int} {m k:Nat} (hv:Lim v) (hvl:v.length=m+2) (hm:m<17592186044416) (hk:k+m+2<17592186044416) {q:Nat} (hq:v[m+1]?=some (q:Int)) (hn:4294967296≤2*q)
  (hu:Lim u0) (hul:u0.length=k+(m+2)) (hlt:nn (u0.drop k)<nn v) :
  ∃ (u qs:List Int),lp nat_long_s7 K0 ((s,v,u0,((m+2:Nat):Int),List.replicate k 0,(k:Int)-1,()),())=some ((s,u,qs,()),())∧Lim u∧Lim qs∧u.length=u0.length∧qs.length=k∧nn u<nn v∧nn u0=nn u+nn v*nn qs:=by
 have hVB:=nn_lt v
 obtain⟨r,⟨u,qs,rfl,h1,h2,h3,h4,h5,h6⟩,hlp⟩:=lp_wf (step:=nat_long_s7)
  (fun t=>∃ (j:Nat) (u qs:List Int),t=((s,v,u,((m+2:Nat):Int),List.replicate j 0++qs,(j:Int)-1,()),())∧Lim u∧Lim qs∧u.length=u0.length∧j+qs.length=k∧nn (u.drop j)<nn v∧nn u0=nn u+nn v*(4294967296 ^ j*nn qs))
  (fun t=>(t.1.2.2.2.2.2.1+1).toNat)
  (fun r=>∃ (u qs:List Int),r=((s,u,qs,()),())∧Lim u∧Lim qs∧u.length=u0.length∧qs.length=k∧nn u<nn v∧nn u0=nn u+nn v*nn qs) (v:=((s,v,u0,((m+2:Nat):Int),List.replicate k 0,(k:Int)-1,()),()))
  ⟨k, u0, [], by simp, hu, Lim.nil, rfl, by simp, hlt, by simp⟩ (by simp; omega) (by
   rintro t ⟨j,u,qs,rfl,hul',hqs,hll,hjk,hdl,hval⟩
   cases j with
   | zero =>
    refine .inl ⟨((s,u,qs,()),()),⟨u,qs,rfl,hul',hqs,hll,by omega,by simpa using hdl,by simpa using hval⟩,fun g=>by simp [nat_long_s7]⟩
   | succ j =>
    have hju:j<u.length:=by omega
    have hd1:=drop_lt hul' hju hdl
    have hsl:((u.drop j).take (m+3)).length=m+3:=by simp;omega
    have hB:4294967296*nn v<4294967296 ^ (m+3):=by
      rw[hvl] at hVB
      rw[show m+3=(m+2)+1 from rfl,Nat.pow_succ,Nat.mul_comm (4294967296 ^ (m+2))]
      exact Nat.mul_lt_mul_of_pos_left hVB (by decide)
    have hns:nn ((u.drop j).take (m+3))=nn (u.drop j):=nn_take_of_lt (Nat.lt_trans hd1 hB)
    have hz:nn ((u.drop j).drop (m+3))=0:=by
      have:=nn_take_drop (u.drop j) (j:=m+3) (by simp;omega)
      rw[hns] at this
      have h0:4294967296 ^ (m+3)*nn ((u.drop j).drop (m+3))=0:=by omega
      rcases Nat.mul_eq_zero.1 h0 with h | h
      · have:=Nat.pow_pos (n:=m+3) (show 0<4294967296 by decide);omega
      · exact h
    obtain⟨w,hdg,hwl,hwlim,hwv⟩:=digit_ok (u:=(u.drop j).take (m+3)) ((hul'.drop j).take _) hv hsl hvl hm hq hn (by rw[hns];exact hd1)
    rw[hns] at hdg hwv
    rw[hsl] at hwl
    have hV0:0<nn v:=by omega
    have hqd:nn (u.drop j)/nn v<4294967296:=by rw[Nat.div_lt_iff_lt_mul hV0];exact hd1
    have hov:over u j w=u.take j++(w++(u.drop j).drop (m+3)):=by simp [over,hwl,List.drop_drop]
    have htl:(u.take j).length=j:=by simp;omega
    have hv':nn (over u j w)=nn (u.take j)+4294967296 ^ j*nn w:=by rw[hov,nn_append,nn_append,hz,htl];simp
    have hdm:=Nat.div_add_mod (nn (u.drop j)) (nn v)
    have hml:=Nat.mod_lt (nn (u.drop j)) hV0
    have hstep:=nn_take_drop u (j:=j) (by omega)
    rw[← hwv] at hdm hml
    rw[← hdm] at hstep
    have hlim':Lim (over u j w):=by rw[hov];exact(hul'.take j).append (hwlim.append ((hul'.drop j).drop _))
    have hlen':(over u j w).length=u0.length:=by rw[hov];simp [hwl];omega
    have hdrop':nn ((over u j w).drop j)<nn v:=by
      rw[hov,List.drop_append,htl,Nat.sub_self,List.drop_zero,List.drop_eq_nil_of_le (by omega),List.nil_append,nn_append,hz]
      simpa using hml
    generalize nn (u.drop j)/nn v=qd at *
    refine .inr ⟨((s,v,over u j w,((m+2:Nat):Int),List.replicate j 0++(qd:Int)::qs,(j:Int)-1,()),()),⟨j,_,_,rfl,hlim',Lim.cons (by omega) hqs,hlen',by simp;omega,hdrop',?_⟩,by simp,fun g=>?_⟩
    · rw [nn]
      have:((qd:Int) % 4294967296).toNat=qd:=by omega
      rw[this]
      rw[Nat.pow_succ] at hval
      exact long_step hval hstep hv'
    · have e0 : ((j + 1 : Nat) : Int) - 1 = (j : Int) := by omega
      have e1:iadd .i64 (iadd .i64 (j:Int) ((m+2:Nat):Int)) 1=((j+m+3:Nat):Int):=by
        have:iadd .i64 (j:Int) ((m+2:Nat):Int)=((j+m+2:Nat):Int):=by rw[iadd_i]<;>omega
        rw[this,iadd1 (by omega)];omega
      have e2:((((j+m+3:Nat):Int)-(j:Int)).toNat)=m+3:=by omega
      have e3:isub .i64 (j:Int) 1=(j:Int)-1:=by rw[isub_i]<;>omega
      have e5:(List.replicate (j+1) (0:Int)++qs).set j (qd:Int)=List.replicate j 0++(qd:Int)::qs:=by
        rw[List.replicate_succ',List.append_assoc,List.set_append_right _ _ (by simp)]
        simp
      have e6:j<(List.replicate (j+1) (0:Int)++qs).length:=by simp;omega
      have c1:(j:Int)≥0:=by omega
      have c2:(0:Int)≤(j:Int)∧(j:Int)≤((j+m+3:Nat):Int)∧((j+m+3:Nat):Int)≤((u.length:Nat):Int):=by omega
      have c3:(j:Int)<((List.replicate (j+1) (0:Int)++qs).length:Int):=by omega
      have c4:(decide ((0:Int)≤(j:Int))&&decide ((j:Int)≤((j+m+3:Nat):Int))&&decide (((j+m+3:Nat):Int)≤((j+m+3:Nat):Int))&&decide (((j+m+3:Nat):Int)≤((u.length:Nat):Int)))=true:=by
        rw[decide_eq_true c2.1,decide_eq_true c2.2.1,decide_eq_true c2.2.2,decide_eq_true (Int.le_refl _)];rfl
      rw[e0,nat_long_s7,cnd c1,e1,c4,e2,tN0,hdg,cond_true,bS0,cnd2 c2.1 c3,gE0 e6,bS0,e5,e3])
 exact⟨u,qs,hlp,h1,h2,h3,h4,h5,h6⟩
theorem long_ok {A D:Nat} (hla:(limbs A).length<4398046511104) (hD:2≤(limbs D).length) (hDA:D≤A):nat_long (limbs A) (limbs D)=some (limbs (A/D),limbs (A % D)):=by
 have hlb:=limbs_len_mono hDA
 have la:=limbs_lim A
 have lb:=limbs_lim D
 have ea:=q9q A
 have eb:=q9q D
 have cb:=limbs_canon D
 obtain⟨m,hm⟩:∃ m,(limbs D).length=m+2:=⟨(limbs D).length-2,by omega⟩
 obtain⟨x,hx,hx32⟩:=getNat lb (i:=m+1) (by omega)
 have hx0:x≠0:=by
  have:=cb.2 (x:Int) (by rw[List.getLast?_eq_getElem?,hm];exact hx)
  omega
 obtain⟨s,hs,hs32,t1,t2,t3⟩:=LeadingZeros32_ok hx0 hx32
 have hsplit:=nn_take_succ hx
 rw[List.take_of_length_le (by omega),eb] at hsplit
 have hxx:((x:Int) % 4294967296).toNat=x:=by omega
 rw[hxx] at hsplit
 have htk:=nn_lt ((limbs D).take (m+1))
 rw[List.length_take,Nat.min_eq_left (by omega)] at htk
 obtain⟨u1,u2⟩:=top_limb hsplit htk t1 t2 t3
 have u1':D*2 ^ s<4294967296 ^ (m+2):=by rw[Nat.pow_succ];exact u1
 have hshl1:=shl_ok (n:=s) lb (by omega) (by omega)
 have hshl2:=shl_ok (n:=s) la (by omega) (by omega)
 rw[eb] at hshl1
 rw[ea] at hshl2
 have hp0:0<2 ^ s:=Nat.pow_pos (by decide)
 have hvl:(limbs (D*2 ^ s)).length=m+2:=by
  have h1:=limbs_len_le u1'
  have h2:(limbs D).length≤(limbs (D*2 ^ s)).length:=limbs_len_mono (Nat.le_mul_of_pos_right _ hp0)
  omega
 have hv:=limbs_lim (D*2 ^ s)
 have hnv:=q9q (D*2 ^ s)
 obtain⟨q,hq,hq32⟩:=getNat hv (i:=m+1) (by omega)
 have hqn:4294967296≤2*q:=by
  have h1:=nn_take_succ hq
  rw[List.take_of_length_le (by omega),hnv] at h1
  have hqq:((q:Int) % 4294967296).toNat=q:=by omega
  rw[hqq] at h1
  have h2:=nn_lt ((limbs (D*2 ^ s)).take (m+1))
  rw[List.length_take,Nat.min_eq_left (by omega)] at h2
  rcases Nat.lt_or_ge (2*q) 4294967296 with h | h
  · exfalso
    have h3:4294967296 ^ (m+1)*(q+1)≤4294967296 ^ (m+1)*2147483648:=Nat.mul_le_mul_left _ (by omega)
    rw[Nat.mul_add,Nat.mul_one] at h3
    omega
  · exact h
 have hr4:(limbs A).length≤(limbs (A*2 ^ s)).length:=limbs_len_mono (Nat.le_mul_of_pos_right _ hp0)
 have hAlt:A*2 ^ s<4294967296 ^ ((limbs A).length)*2 ^ s:=by
  have:=nn_lt (limbs A);rw[ea] at this
  exact Nat.mul_lt_mul_of_pos_right this hp0
 have hs2:2 ^ s≤4294967296:=by
  have:2 ^ s≤2 ^ 32:=Nat.pow_le_pow_right (by decide) (by omega)
  exact this
 have hA1:A*2 ^ s<4294967296 ^ ((limbs A).length+1):=by
  rw[Nat.pow_succ]
  exact Nat.lt_of_lt_of_le hAlt (Nat.mul_le_mul_left _ hs2)
 have hr4':(limbs (A*2 ^ s)).length≤(limbs A).length+1:=limbs_len_le hA1
 have hnu:nn ((limbs (A*2 ^ s)++[0,0]).take ((limbs A).length+1))=A*2 ^ s:=by
  rw[nn_take_of_lt (by rw[nn_append_zeros,q9q];exact hA1),nn_append_zeros,q9q]
 have hul:((limbs (A*2 ^ s)++[0,0]).take ((limbs A).length+1)).length=(limbs A).length+1:=by simp;omega
 have hulim:Lim ((limbs (A*2 ^ s)++[0,0]).take ((limbs A).length+1)):=Lim.take (Lim.append (limbs_lim _) (Lim.cons (by omega) (Lim.cons (by omega) Lim.nil))) _
 obtain⟨k,hk⟩:∃ k,(limbs A).length+1=k+(m+2):=⟨(limbs A).length+1-(m+2),by omega⟩
 have hdrop:nn (((limbs (A*2 ^ s)++[0,0]).take ((limbs A).length+1)).drop k)<nn (limbs (D*2 ^ s)):=by
  have h1:=nn_take_drop ((limbs (A*2 ^ s)++[0,0]).take ((limbs A).length+1)) (j:=k) (by omega)
  rw[hnu] at h1
  rw[hnv]
  have h2:D*2 ^ s≥4294967296 ^ (m+1)*2 ^ s:=by
    have:4294967296 ^ (m+1)≤D:=by
     rw[hsplit]
     have:4294967296 ^ (m+1)*1≤4294967296 ^ (m+1)*x:=Nat.mul_le_mul_left _ (by omega)
     omega
    exact Nat.mul_le_mul_right _ this
  have h3:4294967296 ^ (limbs A).length=4294967296 ^ k*4294967296 ^ (m+1):=by rw[← Nat.pow_add,show(limbs A).length=k+(m+1) by omega]
  rw[h3,Nat.mul_assoc] at hAlt
  generalize nn (((limbs (A*2 ^ s)++[0,0]).take ((limbs A).length+1)).drop k)=Y at *
  have h4:4294967296 ^ k*Y<4294967296 ^ k*(4294967296 ^ (m+1)*2 ^ s):=by
    have:4294967296 ^ k*Y≤A*2 ^ s:=by rw[h1];exact Nat.le_add_left _ _
    exact Nat.lt_of_le_of_lt this hAlt
  exact Nat.lt_of_lt_of_le (Nat.lt_of_mul_lt_mul_left h4) h2
 obtain⟨u,qs,hlp,r1,r2,r3,r4,r5,r6⟩:=long_loop (s:=(s:Int)) (k:=k) hv hvl (by omega) (by omega) hq hqn hulim (by rw[hul,hk]) hdrop
 rw[hnu,hnv] at r6
 rw[hnv] at r5
 have hV0:0<D*2 ^ s:=Nat.lt_of_le_of_lt (Nat.zero_le _) r5
 have d1:A/D=nn qs:=by
  have:A*2 ^ s/(D*2 ^ s)=nn qs:=by rw[r6,Nat.add_mul_div_left _ _ hV0,Nat.div_eq_of_lt r5,Nat.zero_add]
  rwa [Nat.mul_div_mul_right _ _ hp0] at this
 have d2:A % D*2 ^ s=nn u:=by
  have:A*2 ^ s % (D*2 ^ s)=nn u:=by rw[r6,Nat.add_mul_mod_self_left,Nat.mod_eq_of_lt r5]
  rwa [Nat.mul_mod_mul_right] at this
 have i1:isub .i64 ((limbs D).length:Int) 1=((m+1:Nat):Int):=by rw[isub_i]<;>omega
 have i2:IntKind.wrap .u32 (x:Int)=(x:Int):=by rw[wrap_u32];omega
 have i3:iadd .i64 ((limbs A).length:Int) 1=(((limbs A).length+1:Nat):Int):=by rw[iadd_i]<;>omega
 have i4:(((((limbs A).length+1:Nat):Int)-0).toNat:Nat)=(limbs A).length+1:=by omega
 have i5:isub .i64 (((limbs A).length+1:Nat):Int) ((limbs (D*2 ^ s)).length:Int)=(k:Int):=by rw[isub_i]<;>omega
 have i6:isub .i64 ((k:Nat):Int) 1=(k:Int)-1:=by rw[isub_i]<;>omega
 have i7:((limbs (D*2 ^ s)).length:Int)=((m+2:Nat):Int):=by omega
 have c1:(0:Int)≤((m+1:Nat):Int):=by omega
 have c2:(Nat.ble (((limbs (A*2 ^ s)).length+2)*8) 140737488355328&&!false)=true:=by
  have:((limbs (A*2 ^ s)).length+2)*8≤140737488355328:=by omega
  simp [this]
 have c3:(decide ((0:Int)≤(((limbs A).length+1:Nat):Int))&&decide ((((limbs A).length+1:Nat):Int)≤(((limbs A).length+1:Nat):Int))&&decide ((((limbs A).length+1:Nat):Int)≤((limbs (A*2 ^ s)++([0,0]:List Int)).length:Int)))=true:=by
  have h1:(0:Int)≤(((limbs A).length+1:Nat):Int):=by omega
  have h2:(((limbs A).length+1:Nat):Int)≤((limbs (A*2 ^ s)++([0,0]:List Int)).length:Int):=by simp only[List.length_append,List.length_cons,List.length_nil];omega
  rw[decide_eq_true h1,decide_eq_true h2,decide_eq_true (Int.le_refl _)];rfl
 have c4:(decide ((k:Int)=(k:Int))&&decide (0≤(k:Int))&&decide (((8:Nat):Int)*(k:Int)≤281474976710656)&&decide ((k:Int)≤9223372036854775807))=true:=by
  have h1:(0:Int)≤(k:Int):=by omega
  have h2:((8:Nat):Int)*(k:Int)≤281474976710656:=by omega
  have h3:(k:Int)≤9223372036854775807:=by omega
  rw[decide_eq_true h1,decide_eq_true h2,decide_eq_true h3,decide_eq_true rfl];rfl
 have hshr:=shr_ok (n:=s) (limbs_lim (nn u)) (by have:=nn_len_limbs u;omega) (by omega)
 rw[q9q,← d2,Nat.mul_div_cancel _ hp0] at hshr
 have hlen:(List.replicate k (0:Int)).length=k:=by simp
 rw[nat_long,i1,cnd c1,tN0,hx,bS0,i2,hs,bS0,hshl1,bS0,hshl2,bS0,c2,cond_true,i3,c3,cond_true,i4,i5,c4,cond_true,tN0,hlen,i6,i7,hlp,bS0,trim_ok r2 (by omega),bS0,trim_ok r1 (by omega),bS0,← d2,hshr,bS0,d1]
theorem DivMod_ok {a b:List Int} (ha:a.length<4398046511104) (hb:b.length<4398046511104) (h0:nn b≠0):nat_DivMod a b=some (limbs (nn a/nn b),limbs (nn a % nn b),0):=by
 have h1:=nn_len_limbs a
 have h2:=nn_len_limbs b
 have hne:limbs (nn b)≠[]:=fun h=>h0 (limbs_eq_nil.1 h)
 have hlen:¬ ((limbs (nn b)).length:Int)=0:=by
   intro h;apply hne;apply List.eq_nil_of_length_eq_zero;omega
 rw[nat_DivMod,Clean_ok (by omega),bS0,Clean_ok (by omega),bS0,cnd' hlen,order_ok (by omega),bS0]
 by_cases hlt:nn a<nn b
 · have c1 : ncmp (nn a) (nn b) < 0 := by simp [ncmp, hlt]
   rw[cnd c1,Nat.div_eq_of_lt hlt,Nat.mod_eq_of_lt hlt,limbs_zero]
 · have c1 : ¬ ncmp (nn a) (nn b) < 0 := by unfold ncmp; rw [if_neg hlt]; split <;> omega
   rw[cnd' c1]
   by_cases h3:(limbs (nn b)).length=1
   · have hb32 : nn b < 4294967296 := by
      have:=nn_lt (limbs (nn b));rw[q9q,h3] at this;simpa using this
     have hsm:=small_ok (limbs_lim (nn a)) (by omega) (Nat.pos_of_ne_zero h0) hb32
     rw[q9q] at hsm
     have hml:=Nat.mod_lt (nn a) (Nat.pos_of_ne_zero h0)
     rw[limbs_small h0 hb32]
     rw[← limbs_small h0 hb32,h3,cnd (by omega),cnd (by omega),limbs_small h0 hb32,List.getElem?_cons_zero,bS0,hsm,bS0,Of_ok (show nn a % nn b<18446744073709551616 by omega)]
     rfl
   · have c2 : ¬ ((limbs (nn b)).length : Int) = 1 := by omega
     have hlen2:2≤(limbs (nn b)).length:=by omega
     rw[cnd' c2,long_ok (by omega) hlen2 (by omega)]
     rfl
theorem rest_ok {a b:List Int} (ha:a.length<4398046511104) (hb:b.length<4398046511104) (h0:nn b≠0):nat_rest a b=some (limbs (nn a/nn b),limbs (nn a % nn b)):=by
 rw[nat_rest,DivMod_ok ha hb h0];rfl
theorem odd_coprime {z s:Nat} (h:s % 2=1):Nat.Coprime (2 ^ z) s:=by
 apply Nat.Coprime.pow_left
 show Nat.gcd 2 s=1
 rw[Nat.gcd_rec,h];decide
theorem gcd_drop {z m s:Nat} (h:s % 2=1):Nat.gcd (2 ^ z*m) s=Nat.gcd m s:=Nat.Coprime.gcd_mul_left_cancel m (odd_coprime h)
theorem gcd_drop' {z m s:Nat} (h:s % 2=1):Nat.gcd s (2 ^ z*m)=Nat.gcd s m:=by rw[Nat.gcd_comm,gcd_drop h,Nat.gcd_comm]
theorem gcd_pow {x y p q:Nat} (hp:p % 2=1) (hq:q % 2=1):Nat.gcd (2 ^ x*p) (2 ^ y*q)=Nat.gcd p q*2 ^ min x y:=by
 rcases Nat.le_total x y with h | h
 · have e : 2 ^ y * q = 2 ^ x * (2 ^ (y - x) * q) := by rw [← Nat.mul_assoc, ← Nat.pow_add]; congr 2; omega
   rw[e,Nat.gcd_mul_left,gcd_drop' hp,Nat.min_eq_left h,Nat.mul_comm]
 · have e : 2 ^ x * p = 2 ^ y * (2 ^ (x - y) * p) := by rw [← Nat.mul_assoc, ← Nat.pow_add]; congr 2; omega
   rw[e,Nat.gcd_mul_left,gcd_drop hq,Nat.min_eq_right h,Nat.mul_comm]
theorem log2_half {m n:Nat} (hm:m≠0) (h:2*m≤n):m.log2<n.log2:=by
 have h1:=Nat.log2_self_le hm
 have h2:2 ^ (m.log2+1)≤n:=by rw[Nat.pow_succ];omega
 exact(Nat.le_log2 (by omega)).2 h2
theorem gcd_round {b s t z m:Nat} (hb:b % 2=1) (hs:s % 2=1) (hlt:s<b) (ht:t=b-s∨(t=b % s∧2*s≤b)) (ht0:t≠0) (hz:t=2 ^ z*m) (hm:m % 2=1) :
   Nat.gcd m s=Nat.gcd b s∧2*m≤b∧m≠0:=by
 have hm0:m≠0:=by omega
 have e:=gcd_drop (z:=z) (m:=m) hs
 rw[← hz] at e
 have hp:2 ^ z*m≥1*m:=Nat.mul_le_mul_right _ (Nat.pow_pos (by decide))
 rcases ht with h | ⟨h,h2⟩
 · refine ⟨?_, ?_, hm0⟩
   · rw[← e,h,Nat.gcd_sub_self_left (by omega)]
   · cases z with
     | zero=>simp at hz;omega
     | succ z =>
      have:2 ^ (z+1)*m=2*(2 ^ z*m):=by rw[Nat.pow_succ,Nat.mul_comm (2 ^ z),Nat.mul_assoc]
      have hp:2 ^ z*m≥1*m:=Nat.mul_le_mul_right _ (Nat.pow_pos (by decide))
      omega
 · have := Nat.mod_lt b (show 0 < s by omega)
   refine⟨?_,by omega,hm0⟩
   rw[← e,h,← Nat.gcd_rec,Nat.gcd_comm]
theorem len_gap {s b:Nat} (h:(limbs s).length+1<(limbs b).length):2*s≤b:=by
 have h1:=nn_lt (limbs s)
 rw[q9q] at h1
 rcases Nat.lt_or_ge b (4294967296 ^ ((limbs s).length+1)) with h2 | h2
 · have:=limbs_len_le h2;omega
 · rw [Nat.pow_succ] at h2
   omega
theorem Gcd_turn {R:Type} {p q:Nat} {L:Nat} (hp:p % 2=1) (hq:q % 2=1) (hlt:q<p) (hL:(limbs p).length≤L) (hL2:L<4398046511104) (x y:Nat) (hx:x<32*L) (hy:y<32*L) :
   (∀ k1 k2:List Int→Option R,(bif (decide (((limbs p).length:Int)>(iadd .i64 ((limbs q).length:Int) 1))) then ((nat_rest (limbs p) (limbs q)).bind fun r10=>bif (decide ((r10.2.length:Int)=0)) then ((nat_shl (limbs q) (mn (x:Int) (y:Int))).bind fun r11=>k1 r11) else ((nat_zeros r10.2).bind fun r12=>(nat_shr r10.2 r12).bind fun r13=>k2 r13)) else ((nat_minus (limbs p) (limbs q)).bind fun r14=>(nat_zeros r14).bind fun r15=>(nat_shr r14 r15).bind fun r16=>k2 r16))=k1 (limbs (Nat.gcd p q*2 ^ min x y))) ∨
   (∃ m:Nat,m % 2=1∧Nat.gcd m q=Nat.gcd p q∧m.log2<p.log2∧m≤p∧∀ k1 k2:List Int→Option R,(bif (decide (((limbs p).length:Int)>(iadd .i64 ((limbs q).length:Int) 1))) then ((nat_rest (limbs p) (limbs q)).bind fun r10=>bif (decide ((r10.2.length:Int)=0)) then ((nat_shl (limbs q) (mn (x:Int) (y:Int))).bind fun r11=>k1 r11) else ((nat_zeros r10.2).bind fun r12=>(nat_shr r10.2 r12).bind fun r13=>k2 r13)) else ((nat_minus (limbs p) (limbs q)).bind fun r14=>(nat_zeros r14).bind fun r15=>(nat_shr r14 r15).bind fun r16=>k2 r16))=k2 (limbs m)):=by
 have hlq:=limbs_len_mono (Nat.le_of_lt hlt)
 have i1:iadd .i64 ((limbs q).length:Int) 1=(((limbs q).length+1:Nat):Int):=by rw[iadd_i]<;>omega
 rw[i1]
 by_cases hg:(limbs q).length+1<(limbs p).length
 · have c1 : ((limbs p).length : Int) > (((limbs q).length + 1 : Nat) : Int) := by omega
   have hr:=rest_ok (a:=limbs p) (b:=limbs q) (by omega) (by omega) (by rw[q9q];omega)
   rw[q9q,q9q] at hr
   simp only[cnd c1,hr,bS0]
   by_cases h0:p % q=0
   · left
     have hs:=shl_ok (n:=min x y) (limbs_lim q) (by omega) (by omega)
     rw[q9q] at hs
     have em:mn (x:Int) (y:Int)=((min x y:Nat):Int):=by unfold mn;split<;>omega
     have eg:Nat.gcd p q=q:=by rw[Nat.gcd_comm,Nat.gcd_rec,h0,Nat.gcd_zero_left]
     intro k1 k2
     rw[cnd (by rw[h0,limbs_zero];rfl),em,hs,bS0,eg]
   · right
     have hne:limbs (p % q)≠[]:=fun h=>h0 (limbs_eq_nil.1 h)
     have c2:¬ ((limbs (p % q)).length:Int)=0:=by
      intro h;apply hne;apply List.eq_nil_of_length_eq_zero;omega
     have hml:p % q≤p:=Nat.mod_le _ _
     have hlm:=limbs_len_mono hml
     obtain⟨z,m,hz,h1,h2,h3⟩:=zeros_ok (limbs_lim (p % q)) (by omega) (by rw[q9q];exact h0)
     rw[q9q] at h1
     obtain⟨g1,g2,g3⟩:=gcd_round hp hq hlt (.inr ⟨rfl,len_gap hg⟩) h0 h1 h2
     have hs:=shr_ok (n:=z) (limbs_lim (p % q)) (by omega) (by omega)
     rw[q9q,h1,Nat.mul_div_cancel_left _ (Nat.pow_pos (by decide)),← h1] at hs
     refine⟨m,h2,g1,log2_half g3 g2,by omega,fun k1 k2=>?_⟩
     rw[cnd' c2,hz,bS0,hs,bS0]
 · right
   have c1:¬ ((limbs p).length:Int)>(((limbs q).length+1:Nat):Int):=by omega
   have hmi:=minus_ok (limbs_lim p) (limbs_lim q) (by omega) (by rw[q9q,q9q];omega)
   rw[q9q,q9q] at hmi
   have hlm:=limbs_len_mono (Nat.sub_le p q)
   have h0:p-q≠0:=by omega
   obtain⟨z,m,hz,h1,h2,h3⟩:=zeros_ok (limbs_lim (p-q)) (by omega) (by rw[q9q];exact h0)
   rw[q9q] at h1
   obtain⟨g1,g2,g3⟩:=gcd_round hp hq hlt (.inl rfl) h0 h1 h2
   have hs:=shr_ok (n:=z) (limbs_lim (p-q)) (by omega) (by omega)
   rw[q9q,h1,Nat.mul_div_cancel_left _ (Nat.pow_pos (by decide)),← h1] at hs
   refine⟨m,h2,g1,log2_half g3 g2,by omega,fun k1 k2=>?_⟩
   rw[cnd' c1,hmi,bS0,hz,bS0,hs,bS0]
theorem Gcd_loop {p q x y L:Nat} (hp:p % 2=1) (hq:q % 2=1) (hpL:(limbs p).length≤L) (hqL:(limbs q).length≤L) (hL:L<4398046511104) (hx:x<32*L) (hy:y<32*L) :
  lp nat_Gcd_s10 K0 ((limbs p,limbs q,(x:Int),(y:Int),()),())=some ((limbs (Nat.gcd p q*2 ^ min x y),()),()):=by
 have hlog:∀ n,(limbs n).length≤L→n.log2<32*L+1:=by
  intro n hn
  by_cases h0:n=0
  · subst h0;rw[Nat.log2_zero];omega
  · have h1 := nn_lt (limbs n)
    rw[q9q,two32] at h1
    have:=(Nat.log2_lt h0).2 h1
    omega
 obtain⟨r,rfl,hlp⟩:=lp_wf (step:=nat_Gcd_s10) (fun v=>∃ p' q':Nat,v=((limbs p',limbs q',(x:Int),(y:Int),()),())∧p' % 2=1∧q' % 2=1∧(limbs p').length≤L∧(limbs q').length≤L∧Nat.gcd p' q'=Nat.gcd p q)
  (fun v=>(nn v.1.1).log2+(nn v.1.2.1).log2) (fun r=>r=((limbs (Nat.gcd p q*2 ^ min x y),()),())) (v:=((limbs p,limbs q,(x:Int),(y:Int),()),()))
  ⟨p,q,rfl,hp,hq,hpL,hqL,rfl⟩ (by
    have h1:=hlog p hpL
    have h2:=hlog q hqL
    simp only[q9q];omega) (by
    rintro v ⟨p',q',rfl,hp',hq',hpl,hql,hg⟩
    have ho:=order_ok (n:=p') (m:=q') (by omega)
    have em:mn (x:Int) (y:Int)=((min x y:Nat):Int):=by unfold mn;split<;>omega
    rcases Nat.lt_trichotomy p' q' with hlt | heq | hgt
    · have e : ncmp p' q' = -1 := by simp [ncmp, hlt]
      rw[e] at ho
      have hpq:Nat.gcd q' p'=Nat.gcd p q:=by rw[Nat.gcd_comm,hg]
      rcases Gcd_turn (R:=((List Int×Unit)×Unit)) hq' hp' hlt hql hL x y hx hy with h | ⟨m,h1,h2,h3,h4,h⟩
      · refine .inl ⟨_, rfl, fun g => ?_⟩
        rw[← hpq,nat_Gcd_s10,ho,bS0,cnd' (by decide),cnd (by decide)]
        exact h (fun r=>some ((r,()),())) (fun r=>g ((r,limbs p',(x:Int),(y:Int),()),()))
      · refine .inr ⟨((limbs m, limbs p', (x : Int), (y : Int), ()), ()), ⟨m, p', rfl, h1, hp', Nat.le_trans (limbs_len_mono h4) hql, hpl, by rw [h2, hpq]⟩, by simp only [q9q]; omega, fun g => ?_⟩
        rw[nat_Gcd_s10,ho,bS0,cnd' (by decide),cnd (by decide)]
        exact h (fun r=>some ((r,()),())) (fun r=>g ((r,limbs p',(x:Int),(y:Int),()),()))
    · subst heq
      have e:ncmp p' p'=0:=by simp [ncmp]
      rw[e] at ho
      refine .inl ⟨_,rfl,fun g=>?_⟩
      have hs:=shl_ok (n:=min x y) (limbs_lim p') (by omega) (by omega)
      rw[q9q] at hs
      rw[nat_Gcd_s10,ho,bS0,cnd (by decide),em,hs,bS0,← hg,Nat.gcd_self]
    · have e : ncmp p' q' = 1 := by simp [ncmp, hgt, Nat.not_lt.2 (Nat.le_of_lt hgt)]
      rw[e] at ho
      rcases Gcd_turn (R:=((List Int×Unit)×Unit)) hp' hq' hgt hpl hL x y hx hy with h | ⟨m,h1,h2,h3,h4,h⟩
      · refine .inl ⟨_, rfl, fun g => ?_⟩
        rw[← hg,nat_Gcd_s10,ho,bS0,cnd' (by decide),cnd' (by decide)]
        exact h (fun r=>some ((r,()),())) (fun r=>g ((r,limbs q',(x:Int),(y:Int),()),()))
      · refine .inr ⟨((limbs m, limbs q', (x : Int), (y : Int), ()), ()), ⟨m, q', rfl, h1, hq', Nat.le_trans (limbs_len_mono h4) hpl, hql, by rw [h2, hg]⟩, by simp only [q9q]; omega, fun g => ?_⟩
        rw[nat_Gcd_s10,ho,bS0,cnd' (by decide),cnd' (by decide)]
        exact h (fun r=>some ((r,()),())) (fun r=>g ((r,limbs q',(x:Int),(y:Int),()),())))
 exact hlp
theorem Gcd_ok {a b:List Int} (ha:a.length<4398046511104) (hb:b.length<4398046511104):nat_Gcd a b=some (limbs (Nat.gcd (nn a) (nn b))):=by
 have h1:=nn_len_limbs a
 have h2:=nn_len_limbs b
 have ea:=q9q (nn a)
 have eb:=q9q (nn b)
 have la:=limbs_lim (nn a)
 have lb:=limbs_lim (nn b)
 rw[nat_Gcd,Clean_ok (by omega),bS0,Clean_ok (by omega),bS0]
 by_cases ha0:nn a=0
 · rw[ha0,limbs_zero,cnd (by rfl),Nat.gcd_zero_left]
 have hne:¬ ((limbs (nn a)).length:Int)=0:=by
   intro h;exact ha0 (limbs_eq_nil.1 (List.eq_nil_of_length_eq_zero (by omega)))
 rw[cnd' hne]
 by_cases hb0:nn b=0
 · rw[hb0,limbs_zero,cnd (by rfl),Nat.gcd_zero_right]
 have hne':¬ ((limbs (nn b)).length:Int)=0:=by
   intro h;exact hb0 (limbs_eq_nil.1 (List.eq_nil_of_length_eq_zero (by omega)))
 rw[cnd' hne']
 have sm:∀ n,(limbs n).length≤2→n<18446744073709551616:=by
   intro n hn
   have h3:=nn_lt (limbs n)
   rw[q9q] at h3
   have h4:4294967296 ^ (limbs n).length≤4294967296 ^ 2:=Nat.pow_le_pow_right (by decide) hn
   exact Nat.lt_of_lt_of_le h3 h4
 have big:((nat_zeros (limbs (nn a))).bind fun r4=>(nat_zeros (limbs (nn b))).bind fun r5=>(nat_shr (limbs (nn a)) r4).bind fun r6=>(nat_shr (limbs (nn b)) r5).bind fun r7=>(lp nat_Gcd_s10 K0 ((r6,r7,r4,r5,()),())).bind fun t24=>some t24.1.1)=some (limbs (Nat.gcd (nn a) (nn b))):=by
   obtain⟨x,p,hx,hp1,hp2,hp3⟩:=zeros_ok la (by omega) (by rw[ea];exact ha0)
   obtain⟨y,q,hy,hq1,hq2,hq3⟩:=zeros_ok lb (by omega) (by rw[eb];exact hb0)
   have s1:=shr_ok (n:=x) la (by omega) (by omega)
   have s2:=shr_ok (n:=y) lb (by omega) (by omega)
   rw[hp1,Nat.mul_div_cancel_left _ (Nat.pow_pos (by decide))] at s1
   rw[hq1,Nat.mul_div_cancel_left _ (Nat.pow_pos (by decide))] at s2
   rw[ea] at hp1
   rw[eb] at hq1
   have lp1:(limbs p).length≤max (limbs (nn a)).length (limbs (nn b)).length:=by
     have:p≤nn a:=by rw[hp1];exact Nat.le_mul_of_pos_left _ (Nat.pow_pos (by decide))
     have:=limbs_len_mono this
     omega
   have lq1:(limbs q).length≤max (limbs (nn a)).length (limbs (nn b)).length:=by
     have:q≤nn b:=by rw[hq1];exact Nat.le_mul_of_pos_left _ (Nat.pow_pos (by decide))
     have:=limbs_len_mono this
     omega
   rw[hx,bS0,hy,bS0,s1,bS0,s2,bS0,Gcd_loop hp2 hq2 lp1 lq1 (by omega) (by omega) (by omega),bS0]
   congr 2
   conv=>rhs;rw[hp1,hq1]
   rw[gcd_pow hp2 hq2]
 by_cases hA:(limbs (nn a)).length≤2
 · rw [cnd (by omega)]
   by_cases hB:(limbs (nn b)).length≤2
   · rw [cnd (by omega), euclid_ok (by omega) (by omega) (by rw [ea]; exact sm _ hA) (by rw [eb]; exact sm _ hB), ea, eb]
     rfl
   · rw [cnd' (by omega)]
     exact big
 · rw [cnd' (by omega)]
   exact big
def limbsI (z:Int):WH:=(decide (z<0),limbs z.natAbs)
def wv (a:WH):Int:=if a.1 then -((nn a.2:Nat):Int) else ((nn a.2:Nat):Int)
theorem wv_limbsI (z:Int):wv (limbsI z)=z:=by
 unfold wv limbsI
 by_cases h:z<0
 · simp [h,q9q];omega
 · simp [h,q9q];omega
theorem wv_natAbs (a:WH):(wv a).natAbs=nn a.2:=by unfold wv;split<;>omega
theorem limbsI_zero:limbsI 0=(false,[]):=by simp [limbsI,limbs_zero]
theorem limbsI_len (z:Int):(limbsI z).2=limbs z.natAbs:=rfl
theorem limbsI_nat (n:Nat):limbsI (n:Int)=(false,limbs n):=by
 unfold limbsI
 rw[decide_eq_false (by omega),Int.natAbs_natCast]
theorem limbs_pos_len {n:Nat}:((limbs n).length:Int)>0 ↔ n≠0:=by
 constructor
 · intro h h0;subst h0;rw[limbs_zero] at h;simp at h
 · intro h
   have:limbs n≠[]:=fun e=>h (limbs_eq_nil.1 e)
   have:=List.length_pos_iff.2 this
   omega
theorem limbs_len0 {n:Nat}:((limbs n).length:Int)=0 ↔ n=0:=by
 have:=@limbs_pos_len n
 omega
theorem sign_ok (b:Bool) (n:Nat):whole_sign b (limbs n)=some (limbsI (if b then -(n:Int) else n)):=by
 cases b with
 | false =>
  show some (false,limbs n)=some (limbsI (n:Int))
  rw[limbsI_nat]
 | true =>
  show some (decide (((limbs n).length:Int)>0),limbs n)=some (limbsI (-(n:Int)))
  unfold limbsI
  rw[Int.natAbs_neg,Int.natAbs_natCast]
  congr 2
  rw[decide_eq_decide,limbs_pos_len]
  omega
theorem wClean_ok {a:WH} (h:a.2.length<35184372088832):whole_Clean a=some (limbsI (wv a)):=by
 rw[whole_Clean,Clean_ok h,bS0,sign_ok];rfl
def icmp (x y:Int):Int:=if x<y then -1 else if y<x then 1 else 0
theorem wCmp_ok {a b:WH} (ha:a.2.length<35184372088832) (hb:b.2.length<35184372088832):whole_Cmp a b=some (icmp (wv a) (wv b)):=by
 rw[whole_Cmp,wClean_ok ha,bS0,wClean_ok hb,bS0]
 have la:=nn_len_limbs a.2
 have lb:=nn_len_limbs b.2
 have e1:∀ x y:Int,x.natAbs=nn a.2→y.natAbs=nn b.2→nat_Cmp (limbs x.natAbs) (limbs y.natAbs)=some (ncmp x.natAbs y.natAbs):=by
  intro x y hx hy
  rw[Cmp_ok (by rw[hx];omega) (by rw[hy];omega),q9q,q9q]
 have e2:∀ x y:Int,x.natAbs=nn a.2→y.natAbs=nn b.2→nat_Cmp (limbs y.natAbs) (limbs x.natAbs)=some (ncmp y.natAbs x.natAbs):=by
  intro x y hx hy
  rw[Cmp_ok (by rw[hy];omega) (by rw[hx];omega),q9q,q9q]
 have hx:=wv_natAbs a
 have hy:=wv_natAbs b
 generalize wv a=x at *
 generalize wv b=y at *
 have e1:=e1 x y hx hy
 have e2:=e2 x y hx hy
 simp only[limbsI,e1,e2]
 by_cases h1:x<0<;>by_cases h2:y<0<;>simp [h1,h2,icmp,ncmp]<;>(repeat' split)<;>omega
theorem wMul_ok {a b:WH} (ha:a.2.length<17592186044416) (hb:b.2.length<17592186044416):whole_Mul a b=some (limbsI (wv a*wv b)):=by
 have la:=nn_len_limbs a.2
 have lb:=nn_len_limbs b.2
 have hx:=wv_natAbs a
 have hy:=wv_natAbs b
 rw[whole_Mul,wClean_ok (by omega),bS0,wClean_ok (by omega),bS0]
 generalize wv a=x at *
 generalize wv b=y at *
 have hm:nat_Mul (limbs x.natAbs) (limbs y.natAbs)=some (limbs (x.natAbs*y.natAbs)):=by
  have:=Mul_ok (a:=limbs x.natAbs) (b:=limbs y.natAbs) (by rw[hx];omega) (by rw[hy];omega)
  rwa [q9q,q9q] at this
 simp only[limbsI,hm,bS0,sign_ok]
 have e:(x*y).natAbs=x.natAbs*y.natAbs:=Int.natAbs_mul x y
 congr 1
 have key:(if (!decide (x<0) == decide (y<0))=true then -(((x.natAbs*y.natAbs:Nat)):Int) else ((x.natAbs*y.natAbs:Nat):Int))=x*y:=by
  rw[Int.natCast_mul]
  by_cases h1:x<0<;>by_cases h2:y<0
  · rw[show((x.natAbs:Nat):Int)=-x by omega,show((y.natAbs:Nat):Int)=-y by omega];simp [h1,h2,Int.neg_mul_neg]
  · rw[show((x.natAbs:Nat):Int)=-x by omega,show((y.natAbs:Nat):Int)=y by omega];simp [h1,h2,Int.neg_mul]
  · rw[show((x.natAbs:Nat):Int)=x by omega,show((y.natAbs:Nat):Int)=-y by omega];simp [h1,h2,Int.mul_neg]
  · rw[show((x.natAbs:Nat):Int)=x by omega,show((y.natAbs:Nat):Int)=y by omega];simp [h1,h2]
 exact congrArg limbsI key
theorem wAdd_ok {a b:WH} (ha:a.2.length<17592186044416) (hb:b.2.length<17592186044416):whole_Add a b=some (limbsI (wv a+wv b)):=by
 have la:=nn_len_limbs a.2
 have lb:=nn_len_limbs b.2
 have hx:=wv_natAbs a
 have hy:=wv_natAbs b
 rw[whole_Add,wClean_ok (by omega),bS0,wClean_ok (by omega),bS0]
 generalize wv a=x at *
 generalize wv b=y at *
 have e1:nat_Add (limbs x.natAbs) (limbs y.natAbs)=some (limbs (x.natAbs+y.natAbs)):=by
   have:=Add_ok (a:=limbs x.natAbs) (b:=limbs y.natAbs) (by rw[hx];omega) (by rw[hy];omega)
   rwa [q9q,q9q] at this
 have e2:nat_Cmp (limbs x.natAbs) (limbs y.natAbs)=some (ncmp x.natAbs y.natAbs):=by
   have:=Cmp_ok (a:=limbs x.natAbs) (b:=limbs y.natAbs) (by rw[hx];omega) (by rw[hy];omega)
   rwa [q9q,q9q] at this
 have e3:nat_Sub (limbs x.natAbs) (limbs y.natAbs)=if x.natAbs<y.natAbs then some ([],3) else some (limbs (x.natAbs-y.natAbs),0):=by
   have:=Sub_ok (a:=limbs x.natAbs) (b:=limbs y.natAbs) (by rw[hx];omega) (by rw[hy];omega)
   rwa [q9q,q9q] at this
 have e4:nat_Sub (limbs y.natAbs) (limbs x.natAbs)=if y.natAbs<x.natAbs then some ([],3) else some (limbs (y.natAbs-x.natAbs),0):=by
   have:=Sub_ok (a:=limbs y.natAbs) (b:=limbs x.natAbs) (by rw[hy];omega) (by rw[hx];omega)
   rwa [q9q,q9q] at this
 simp only[limbsI,e1,e2,bS0,sign_ok]
 by_cases hs:decide (x<0)=decide (y<0)
 · have c : (decide (x < 0) == decide (y < 0)) = true := by simp [hs]
   rw[c,cond_true]
   congr 1
   have key:(if decide (x<0)=true then -((x.natAbs+y.natAbs:Nat):Int) else ((x.natAbs+y.natAbs:Nat):Int))=x+y:=by
     rw[decide_eq_decide] at hs
     simp only[decide_eq_true_eq]
     split<;>omega
   exact congrArg limbsI key
 · have c : (decide (x < 0) == decide (y < 0)) = false := by simpa using hs
   rw[c,cond_false]
   rw[decide_eq_decide] at hs
   by_cases hlt:x.natAbs<y.natAbs
   · rw [e4, if_neg (by omega), show ncmp x.natAbs y.natAbs = -1 by simp [ncmp, hlt], cnd (by decide), bS0, sign_ok, bS0]
     have key:(if decide (y<0)=true then -((y.natAbs-x.natAbs:Nat):Int) else ((y.natAbs-x.natAbs:Nat):Int))=x+y:=by
      simp only[decide_eq_true_eq]
      split<;>omega
     exact congrArg (fun z=>some (limbsI z)) key
   · have c2 : ¬ ncmp x.natAbs y.natAbs < 0 := by unfold ncmp; rw [if_neg hlt]; split <;> omega
     rw[e3,if_neg hlt,cnd' c2,bS0,sign_ok,bS0]
     have key:(if decide (x<0)=true then -((x.natAbs-y.natAbs:Nat):Int) else ((x.natAbs-y.natAbs:Nat):Int))=x+y:=by
      simp only[decide_eq_true_eq]
      split<;>omega
     exact congrArg (fun z=>some (limbsI z)) key
theorem wNeg_ok {a:WH} (h:a.2.length<35184372088832):whole_Neg a=some (limbsI (-wv a)):=by
 rw[whole_Neg,wClean_ok h,bS0]
 simp only[limbsI,sign_ok,bS0]
 congr 1
 have key:(if (!decide (wv a<0))=true then -(((wv a).natAbs:Nat):Int) else (((wv a).natAbs:Nat):Int))=-wv a:=by
  by_cases h:wv a<0
  · simp [h];omega
  · simp [h];omega
 exact congrArg limbsI key
def isgn (x:Int):Int:=if x<0 then -1 else if x=0 then 0 else 1
theorem wSign_ok {a:WH} (h:a.2.length<35184372088832):whole_Sign a=some (isgn (wv a)):=by
 rw[whole_Sign,wClean_ok h,bS0]
 simp only[limbsI]
 generalize wv a=x
 by_cases h1:x<0
 · simp [h1,isgn]
 · by_cases h2 : x = 0
   · subst h2;simp [isgn,limbs_zero]
   · have : ¬ ((limbs x.natAbs).length : Int) = 0 := by rw [limbs_len0]; omega
     simp only[decide_eq_false h1,cond_false,isgn,if_neg h1,if_neg h2]
     exact cnd' this
theorem wOf_ok {n:Int} (h:-9223372036854775808≤n) (h':n<9223372036854775808):whole_Of n=some (limbsI n):=by
 by_cases h1:n<0
 · have e : ineg .u64 (IntKind.wrap .u64 n) = ((n.natAbs : Nat) : Int) := by
    show IntKind.wrap .u64 (0-IntKind.wrap .u64 n)=_
    rw[wrap_u_mod,wrap_u_mod];omega
   rw[whole_Of,cnd h1,e,Of_ok (by omega),bS0,sign_ok,bS0]
   simp;congr 1;omega
 · have e : IntKind.wrap .u64 n = ((n.natAbs : Nat) : Int) := by rw [wrap_u_mod]; omega
   rw[whole_Of,cnd' h1,e,Of_ok (by omega),bS0,sign_ok,bS0]
   simp;congr 1;omega
def canQ (q:Rat):RAT:=(limbsI q.num,limbs q.den)
def rv (a:RAT):Rat:=mkRat (wv a.1) (nn a.2)
theorem rv_canQ (q:Rat):rv (canQ q)=q:=by
 rw[rv,canQ,wv_limbsI,q9q,Rat.mkRat_self]
def SzR (a:RAT) (n:Nat):Prop:=a.1.2.length≤n∧a.2.length≤n
def Sm (a:RAT):Prop:=a.1.2.length<1099511627776∧a.2.length<1099511627776
def SzQ (q:Rat) (n:Nat):Prop:=q.num.natAbs<4294967296 ^ n∧q.den<4294967296 ^ n
theorem SzR.sm {a:RAT} {n:Nat} (h:SzR a n) (hn:n<1099511627776):Sm a:=⟨by have:=h.1;omega,by have:=h.2;omega⟩
theorem SzQ.szR {q:Rat} {n:Nat} (h:SzQ q n):SzR (canQ q) n:=⟨limbs_len_le h.1,limbs_len_le h.2⟩
theorem SzQ.sm {q:Rat} {n:Nat} (h:SzQ q n) (hn:n<1099511627776):Sm (canQ q):=h.szR.sm hn
theorem SzQ.mono {q:Rat} {n m:Nat} (h:SzQ q n) (hm:n≤m):SzQ q m:=by
 have:=Nat.pow_le_pow_right (n:=4294967296) (by decide) hm
 exact⟨Nat.lt_of_lt_of_le h.1 this,Nat.lt_of_lt_of_le h.2 this⟩
theorem mkRat_sz {z:Int} {d n:Nat} (hz:z.natAbs<4294967296 ^ n) (hd:d<4294967296 ^ n) (hn:0<n):SzQ (mkRat z d) n:=by
 have hp:1<4294967296 ^ n:=by
   have:=Nat.pow_le_pow_right (n:=4294967296) (by decide) hn
   omega
 by_cases h0:d=0
 · subst h0;rw[Rat.mkRat_zero];exact⟨by simpa using Nat.lt_of_le_of_lt (Nat.zero_le _) hp,by simpa using hp⟩
 · have h1 := Rat.num_mkRat z d
   have h2:=Rat.den_mkRat z d
   rw[if_neg h0] at h1 h2
   constructor
   · rw [h1, Int.natAbs_ediv_of_dvd (Int.ofNat_dvd_left.2 (Nat.gcd_dvd_right _ _))]
     exact Nat.lt_of_le_of_lt (Nat.div_le_self _ _) hz
   · rw[h2];exact Nat.lt_of_le_of_lt (Nat.div_le_self _ _) hd
theorem SzR.szQ {a:RAT} {n:Nat} (h:SzR a n) (hn:0<n):SzQ (rv a) n:=by
 refine mkRat_sz ?_ ?_ hn
 · rw[wv_natAbs];exact Nat.lt_of_lt_of_le (nn_lt _) (Nat.pow_le_pow_right (by decide) h.1)
 · exact Nat.lt_of_lt_of_le (nn_lt _) (Nat.pow_le_pow_right (by decide) h.2)
theorem SzQ.pos {q:Rat} {n:Nat} (h:SzQ q n):0<n:=by
 rcases Nat.eq_zero_or_pos n with h0 | h0
 · subst h0
   have:=h.2
   have:=q.den_pos
   simp at *
   omega
 · exact h0
theorem SzQ.mul {p q:Rat} {n m:Nat} (hp:SzQ p n) (hq:SzQ q m):SzQ (p*q) (n+m):=by
 have h0:=hp.pos
 rw[Rat.mul_def']
 refine mkRat_sz ?_ ?_ (by omega)
 · rw[Int.natAbs_mul,Nat.pow_add];exact Nat.mul_lt_mul'' hp.1 hq.1
 · rw[Nat.pow_add];exact Nat.mul_lt_mul'' hp.2 hq.2
theorem SzQ.add {p q:Rat} {n m:Nat} (hp:SzQ p n) (hq:SzQ q m):SzQ (p+q) (n+m+1):=by
 have h0:=hp.pos
 rw[Rat.add_def']
 have h1:(p.num*q.den).natAbs<4294967296 ^ (n+m):=by rw[Int.natAbs_mul,Nat.pow_add,Int.natAbs_natCast];exact Nat.mul_lt_mul'' hp.1 hq.2
 have h2:(q.num*p.den).natAbs<4294967296 ^ (n+m):=by rw[Int.natAbs_mul,Nat.add_comm,Nat.pow_add,Int.natAbs_natCast];exact Nat.mul_lt_mul'' hq.1 hp.2
 have h3:p.den*q.den<4294967296 ^ (n+m):=by rw[Nat.pow_add];exact Nat.mul_lt_mul'' hp.2 hq.2
 have h4:4294967296 ^ (n+m+1)=4294967296 ^ (n+m)*4294967296:=Nat.pow_succ ..
 refine mkRat_sz ?_ (by omega) (by omega)
 have:=Int.natAbs_add_le (p.num*q.den) (q.num*p.den)
 omega
theorem SzQ.neg {p:Rat} {n:Nat} (hp:SzQ p n):SzQ (-p) n:=by
 refine⟨?_,hp.2⟩
 rw[Rat.neg_num,Int.natAbs_neg];exact hp.1
theorem SzQ.sub {p q:Rat} {n m:Nat} (hp:SzQ p n) (hq:SzQ q m):SzQ (p-q) (n+m+1):=by
 rw[Rat.sub_eq_add_neg];exact hp.add hq.neg
theorem SzQ.inv {p:Rat} {n:Nat} (hp:SzQ p n):SzQ p⁻¹ n:=by
 have h0:=hp.pos
 have:1<4294967296 ^ n:=by
   have:=Nat.pow_le_pow_right (n:=4294967296) (by decide) h0
   omega
 constructor
 · rw [Rat.num_inv, Int.natAbs_mul, Int.natAbs_natCast]
   have h1:p.num.sign.natAbs≤1:=by
     rcases Int.lt_trichotomy p.num 0 with h | h | h
     · rw[Int.sign_eq_neg_one_of_neg h];decide
     · rw[h];decide
     · rw[Int.sign_eq_one_of_pos h];decide
   have h2:=Nat.mul_le_mul_right p.den h1
   have:=hp.2
   omega
 · rw [Rat.den_inv]; split
   · exact this
   · exact hp.1
theorem SzQ.div {p q:Rat} {n m:Nat} (hp:SzQ p n) (hq:SzQ q m):SzQ (p/q) (n+m):=by
 rw[Rat.div_def];exact hp.mul hq.inv
theorem SzQ.int {z:Int} (h:z.natAbs<4294967296):SzQ (z:Rat) 1:=⟨by simpa using h,by simp⟩
theorem SzQ.zero:SzQ 0 1:=⟨by simp,by simp⟩
theorem SzQ.one:SzQ 1 1:=⟨by simp,by simp⟩
theorem form_ok {z:Int} {d:Nat} (hz:(limbs z.natAbs).length<4398046511104) (hd:(limbs d).length<4398046511104) (h0:d≠0):ratio_form (limbsI z) (limbs d)=some (canQ (mkRat z d)):=by
 by_cases hz0:z=0
 · subst hz0
   have:=Of_ok (n:=1) (by decide)
   rw[ratio_form,limbsI_zero]
   simp only[List.length_nil]
   rw[cnd (by rfl)]
   rw[show((1:Nat):Int)=1 from rfl] at this
   rw[this,Rat.zero_mkRat,canQ]
   simp [limbsI_zero]
 · have hne : ¬ ((limbs z.natAbs).length : Int) = 0 := by rw [limbs_len0]; omega
   have hg:=Gcd_ok hz hd
   rw[q9q,q9q] at hg
   have hgpos:0<Nat.gcd z.natAbs d:=Nat.gcd_pos_of_pos_right _ (Nat.pos_of_ne_zero h0)
   have hgle:Nat.gcd z.natAbs d≤d:=Nat.gcd_le_right _ (Nat.pos_of_ne_zero h0)
   have hglen:=limbs_len_mono hgle
   have hgne:nn (limbs (Nat.gcd z.natAbs d))≠0:=by rw[q9q];omega
   have d1:=DivMod_ok hz (show(limbs (Nat.gcd z.natAbs d)).length<4398046511104 by omega) hgne
   have d2:=DivMod_ok hd (show(limbs (Nat.gcd z.natAbs d)).length<4398046511104 by omega) hgne
   rw[q9q,q9q] at d1 d2
   have hres:((decide (z<0),limbs (z.natAbs/Nat.gcd z.natAbs d)),limbs (d/Nat.gcd z.natAbs d))=canQ (mkRat z d):=by
     have h1:=Rat.num_mkRat z d
     have h2:=Rat.den_mkRat z d
     rw[if_neg h0,Nat.gcd_comm] at h1 h2
     have hdv:((Nat.gcd z.natAbs d:Nat):Int) ∣ z:=Int.ofNat_dvd_left.2 (Nat.gcd_dvd_left _ _)
     unfold canQ limbsI
     rw[h1,h2,Int.natAbs_ediv_of_dvd hdv,Int.natAbs_natCast]
     congr 2
     rw[decide_eq_decide]
     obtain⟨c,hc⟩:=hdv
     generalize ((Nat.gcd z.natAbs d:Nat))=G at *
     have hG:(0:Int)<(G:Int):=by omega
     have : z / (G : Int) = c := by conv => lhs; rw [hc]
                                    exact Int.mul_ediv_cancel_left _ (by omega)
     rw[this]
     constructor
     · intro h
       by_cases h3:c<0
       · exact h3
       · have:=Int.mul_nonneg (Int.le_of_lt hG) (Int.not_lt.1 h3);omega
     · intro h
       have:=Int.mul_neg_of_pos_of_neg hG h;omega
   rw[limbsI,ratio_form]
   rw[cnd' hne,hg,bS0]
   by_cases h1:Nat.gcd z.natAbs d=1
   · have e1 : limbs 1 = [1] := by rw [limbs_small (by decide) (by decide)]; rfl
     rw[← hres,h1,e1]
     simp
   · by_cases hl : (limbs (Nat.gcd z.natAbs d)).length = 1
     · have hg32 : Nat.gcd z.natAbs d < 4294967296 := by
         have:=nn_lt (limbs (Nat.gcd z.natAbs d));rw[q9q,hl] at this;simpa using this
       have hls:=limbs_small (Nat.ne_of_gt hgpos) hg32
       rw[cnd (by omega),cnd (by omega),d1,d2]
       rw[hls,List.getElem?_cons_zero,bS0,cnd' (by omega)]
       simp only[bS0]
       rw[hres]
     · rw [cnd' (by omega), d1, d2]
       simp only[bS0]
       rw[hres]
theorem ratio_Zero_ok:ratio_Zero=some (canQ 0):=by
 have:=Of_ok (n:=1) (by decide)
 rw[ratio_Zero]
 rw[show((1:Nat):Int)=1 from rfl] at this
 rw[this,canQ]
 simp [limbsI_zero]
theorem ratio_Clean_ok {a:RAT} (h:Sm a):ratio_Clean a=some (canQ (rv a)):=by
 have h1:=h.1
 have h2:=h.2
 have l1:=nn_len_limbs a.1.2
 have l2:=nn_len_limbs a.2
 rw[ratio_Clean,Clean_ok (by omega),bS0]
 by_cases h0:nn a.2=0
 · rw[h0,limbs_zero,cnd (by rfl),ratio_Zero_ok,bS0,rv,h0,Rat.mkRat_zero]
 · rw [cnd' (by rw [limbs_len0]; exact h0), wClean_ok (by omega), bS0, form_ok (by rw [wv_natAbs]; omega) (by omega) h0]
   rfl
theorem limbs_mul_len (x y:Nat):(limbs (x*y)).length≤(limbs x).length+(limbs y).length:=by
 apply limbs_len_le
 have a1:=nn_lt (limbs x)
 have a2:=nn_lt (limbs y)
 rw[q9q] at a1 a2
 rw[Nat.pow_add]
 exact Nat.mul_lt_mul'' a1 a2
theorem limbs_add_len (x y:Nat):(limbs (x+y)).length≤max (limbs x).length (limbs y).length+1:=by
 apply limbs_len_le
 have a1:=nn_lt (limbs x)
 have a2:=nn_lt (limbs y)
 rw[q9q] at a1 a2
 have h1:=Nat.pow_le_pow_right (n:=4294967296) (by decide) (Nat.le_max_left (limbs x).length (limbs y).length)
 have h2:=Nat.pow_le_pow_right (n:=4294967296) (by decide) (Nat.le_max_right (limbs x).length (limbs y).length)
 rw[Nat.pow_succ]
 omega
theorem Sm.can {a:RAT} (h:Sm a):Sm (canQ (rv a)):=by
 have h1:SzR a (max 1 (max a.1.2.length a.2.length)):=⟨by omega,by omega⟩
 exact(h1.szQ (by omega)).sm (by have:=h.1;have:=h.2;omega)
theorem Sm.num {q:Rat} (h:Sm (canQ q)):(limbs q.num.natAbs).length<1099511627776:=h.1
theorem Sm.den {q:Rat} (h:Sm (canQ q)):(limbs q.den).length<1099511627776:=h.2
def rcmp (p q:Rat):Int:=if p<q then -1 else if q<p then 1 else 0
theorem icmp_rat (p q:Rat):icmp (p.num*q.den) (q.num*p.den)=rcmp p q:=by
 unfold icmp rcmp
 simp only[Rat.lt_iff]
theorem wv_den (n:Nat):wv (false,limbs n)=(n:Int):=by simp [wv,q9q]
theorem mul_den {p q:Rat} (n1:(limbs p.num.natAbs).length<1099511627776) (n2:(limbs q.den).length<1099511627776):whole_Mul (limbsI p.num) (false,limbs q.den)=some (limbsI (p.num*q.den)):=by
 have:=wMul_ok (a:=limbsI p.num) (b:=(false,limbs q.den)) (by show(limbs p.num.natAbs).length<_;omega) (by show(limbs q.den).length<_;omega)
 rwa [wv_limbsI,wv_den] at this
theorem mul_den_len {p q:Rat} (n1:(limbs p.num.natAbs).length<1099511627776) (n2:(limbs q.den).length<1099511627776):(limbsI (p.num*q.den)).2.length<2199023255552:=by
 have:=limbs_mul_len p.num.natAbs q.den
 show(limbs (p.num*q.den).natAbs).length<_
 rw[Int.natAbs_mul,Int.natAbs_natCast]
 omega
theorem ratio_Cmp_ok {a b:RAT} (ha:Sm a) (hb:Sm b):ratio_Cmp a b=some (rcmp (rv a) (rv b)):=by
 have sa:=ha.can
 have sb:=hb.can
 rw[ratio_Cmp,ratio_Clean_ok ha,bS0,ratio_Clean_ok hb,bS0]
 generalize rv a=p at *
 generalize rv b=q at *
 have l1:=mul_den_len (p:=p) (q:=q) sa.num sb.den
 have l2:=mul_den_len (p:=q) (q:=p) sb.num sa.den
 have m3:=wCmp_ok (a:=limbsI (p.num*q.den)) (b:=limbsI (q.num*p.den)) (by omega) (by omega)
 rw[wv_limbsI,wv_limbsI,icmp_rat] at m3
 simp only[ratio_den,bS0,canQ,mul_den sa.num sb.den,mul_den sb.num sa.den,m3]
theorem ratio_Add_ok {a b:RAT} (ha:Sm a) (hb:Sm b):ratio_Add a b=some (canQ (rv a+rv b)):=by
 have sa:=ha.can
 have sb:=hb.can
 rw[ratio_Add,ratio_Clean_ok ha,bS0,ratio_Clean_ok hb,bS0]
 generalize rv a=p at *
 generalize rv b=q at *
 have l1:=mul_den_len (p:=p) (q:=q) sa.num sb.den
 have l2:=mul_den_len (p:=q) (q:=p) sb.num sa.den
 have m3:=wAdd_ok (a:=limbsI (p.num*q.den)) (b:=limbsI (q.num*p.den)) (by omega) (by omega)
 rw[wv_limbsI,wv_limbsI] at m3
 have n1:=sa.num
 have n2:=sa.den
 have n3:=sb.num
 have n4:=sb.den
 have m4:=Mul_ok (a:=limbs p.den) (b:=limbs q.den) (by omega) (by omega)
 rw[q9q,q9q] at m4
 have m5:=form_ok (z:=p.num*q.den+q.num*p.den) (d:=p.den*q.den) (by
  have h1:=limbs_add_len (p.num*q.den).natAbs (q.num*p.den).natAbs
  have h2:=limbs_len_mono (Int.natAbs_add_le (p.num*q.den) (q.num*p.den))
  simp only[limbsI] at l1 l2
  omega) (by
  have:=limbs_mul_len p.den q.den
  omega) (Nat.mul_ne_zero p.den_nz q.den_nz)
 simp only[ratio_den,bS0,canQ,mul_den sa.num sb.den,mul_den sb.num sa.den,m3,m4,m5]
 rw[Rat.add_def']
theorem ratio_Mul_ok {a b:RAT} (ha:Sm a) (hb:Sm b):ratio_Mul a b=some (canQ (rv a*rv b)):=by
 have sa:=ha.can
 have sb:=hb.can
 rw[ratio_Mul,ratio_Clean_ok ha,bS0,ratio_Clean_ok hb,bS0]
 generalize rv a=p at *
 generalize rv b=q at *
 have n1:=sa.num
 have n2:=sa.den
 have n3:=sb.num
 have n4:=sb.den
 have m3:=wMul_ok (a:=limbsI p.num) (b:=limbsI q.num) (by show(limbs _).length<_;omega) (by show(limbs _).length<_;omega)
 rw[wv_limbsI,wv_limbsI] at m3
 have m4:=Mul_ok (a:=limbs p.den) (b:=limbs q.den) (by omega) (by omega)
 rw[q9q,q9q] at m4
 have m5:=form_ok (z:=p.num*q.num) (d:=p.den*q.den) (by
  have h1:=limbs_mul_len p.num.natAbs q.num.natAbs
  rw[Int.natAbs_mul]
  omega) (by
  have:=limbs_mul_len p.den q.den
  omega) (Nat.mul_ne_zero p.den_nz q.den_nz)
 simp only[bS0,canQ,m3,m4,m5]
 rw[Rat.mul_def']
theorem ratio_Neg_ok {a:RAT} (ha:Sm a):ratio_Neg a=some (canQ (-rv a)):=by
 have sa:=ha.can
 rw[ratio_Neg,ratio_Clean_ok ha,bS0]
 generalize rv a=p at *
 have n1:=sa.num
 have m:=wNeg_ok (a:=limbsI p.num) (by show(limbs _).length<_;omega)
 rw[wv_limbsI] at m
 simp only[canQ,m,bS0]
 rfl
theorem Sm.neg {q:Rat} (h:Sm (canQ q)):Sm (canQ (-q)):=by
 refine⟨?_,h.2⟩
 show(limbs (-q.num).natAbs).length<_
 rw[Int.natAbs_neg];exact h.1
theorem ratio_Sub_ok {a b:RAT} (ha:Sm a) (hb:Sm b):ratio_Sub a b=some (canQ (rv a-rv b)):=by
 rw[ratio_Sub,ratio_Neg_ok hb,bS0,ratio_Add_ok ha hb.can.neg,bS0,rv_canQ,Rat.sub_eq_add_neg]
theorem isgn_ne {y:Int} (h:y≠0):¬ isgn y=0:=by
 unfold isgn;(repeat' split)<;>omega
theorem isgn_rat (q:Rat):isgn q.num=rcmp q 0:=by
 have h:∀ x:Int,isgn x=icmp x 0:=by
  intro x;unfold isgn icmp
  (repeat' split)<;>omega
 rw[← icmp_rat,h,Rat.zero_den,Rat.zero_num,Int.zero_mul]
 rw[show((1:Nat):Int)=1 from rfl,Int.mul_one]
theorem ratio_Sign_ok {a:RAT} (ha:Sm a):ratio_Sign a=some (rcmp (rv a) 0):=by
 have sa:=ha.can
 rw[ratio_Sign,ratio_Clean_ok ha,bS0]
 generalize rv a=p at *
 have n1:=sa.num
 have m:=wSign_ok (a:=limbsI p.num) (by show(limbs _).length<_;omega)
 rw[wv_limbsI,isgn_rat] at m
 simp only[canQ,m,bS0]
def rabs (q:Rat):Rat:=if q<0 then -q else q
theorem ratio_Of_ok {n:Int} (h:-9223372036854775808≤n) (h':n<9223372036854775808):ratio_Of n=some (canQ (n:Rat)):=by
 have:=Of_ok (n:=1) (by decide)
 rw[show((1:Nat):Int)=1 from rfl] at this
 rw[ratio_Of,wOf_ok h h',bS0,this,bS0]
 rfl
theorem ratio_One_ok:ratio_One=some (canQ 1):=by
 rw[ratio_One,ratio_Of_ok (by decide) (by decide)]
 rfl
theorem ratio_Make_ok {a b:WH} (ha:a.2.length<1099511627776) (hb:b.2.length<1099511627776) :
   ratio_Make a b=if wv b=0 then some (((false,[]),[]),2) else some (canQ ((wv a:Rat)/(wv b:Rat)),0):=by
 have la:=nn_len_limbs a.2
 have lb:=nn_len_limbs b.2
 rw[ratio_Make,wClean_ok (by omega),bS0,wClean_ok (by omega),bS0]
 have hx:=wv_natAbs a
 have hy:=wv_natAbs b
 generalize wv a=x at *
 generalize wv b=y at *
 have m:=wSign_ok (a:=limbsI y) (by show(limbs _).length<_;rw[hy];omega)
 rw[wv_limbsI] at m
 rw[m,bS0]
 by_cases h0:y=0
 · subst h0
   rfl
 · rw [if_neg h0, cnd' (isgn_ne h0)]
   by_cases hneg:y<0
   · have e : (limbsI y).1 = true := decide_eq_true hneg
     have mn:=wNeg_ok (a:=limbsI x) (by show(limbs _).length<_;rw[hx];omega)
     rw[wv_limbsI] at mn
     have mf:=form_ok (z:=-x) (d:=y.natAbs) (by rw[Int.natAbs_neg,hx];omega) (by rw[hy];omega) (by omega)
     rw[e,cond_true,mn,bS0]
     rw[show(limbsI y).2=limbs y.natAbs from rfl,mf,bS0,← Rat.divInt_eq_div,← Rat.divInt_ofNat]
     rw[show((y.natAbs:Nat):Int)=-y by omega,Rat.neg_divInt_neg]
   · have e : (limbsI y).1 = false := decide_eq_false hneg
     have mf:=form_ok (z:=x) (d:=y.natAbs) (by rw[hx];omega) (by rw[hy];omega) (by omega)
     rw[e,cond_false]
     rw[show(limbsI y).2=limbs y.natAbs from rfl,mf,bS0,← Rat.divInt_eq_div,← Rat.divInt_ofNat]
     rw[show((y.natAbs:Nat):Int)=y by omega]
theorem rat_zero_num {q:Rat}:q.num=0 ↔ q=0:=Rat.num_eq_zero
theorem ratio_Inv_ok {a:RAT} (ha:Sm a):ratio_Inv a=if rv a=0 then some (((false,[]),[]),2) else some (canQ (rv a)⁻¹,0):=by
 have sa:=ha.can
 rw[ratio_Inv,ratio_Clean_ok ha,bS0]
 generalize rv a=p at *
 have n1:=sa.num
 have n2:=sa.den
 have m:=ratio_Make_ok (a:=(false,limbs p.den)) (b:=limbsI p.num) (by show(limbs _).length<_;omega) (by show(limbs _).length<_;omega)
 rw[wv_limbsI,wv_den] at m
 simp only[ratio_den,bS0,canQ]
 simp only[canQ] at m
 rw[m]
 simp only[rat_zero_num]
 by_cases h:p=0
 · simp [h]
 · simp only [if_neg h, bS0]
   rw[Rat.inv_def,Rat.divInt_eq_div]
theorem ratio_Div_ok {a b:RAT} (ha:Sm a) (hb:Sm b):ratio_Div a b=if rv b=0 then some (((false,[]),[]),2) else some (canQ (rv a/rv b),0):=by
 rw[ratio_Div,ratio_Inv_ok hb]
 by_cases h:rv b=0
 · simp [h]
 · have si : Sm (canQ (rv b)⁻¹) := by
    have h1:SzR b (max 1 (max b.1.2.length b.2.length)):=⟨by omega,by omega⟩
    exact(h1.szQ (by omega)).inv.sm (by have:=hb.1;have:=hb.2;omega)
   rw[if_neg h,if_neg h,bS0]
   simp only[ratio_Mul_ok ha si,rv_canQ,bS0,Rat.div_def]
   rfl
theorem ratio_Frac_ok {n d:Int} (h:-9223372036854775808≤n) (h':n<9223372036854775808) (hd:-9223372036854775808≤d) (hd':d<9223372036854775808):ratio_Frac n d=some (canQ ((n:Rat)/(d:Rat))):=by
 have len:∀ z:Int,-9223372036854775808≤z→z<9223372036854775808→(limbsI z).2.length≤2:=by
   intro z h1 h2
   exact limbs_len_le (by omega)
 have l1:=len n h h'
 have l2:=len d hd hd'
 rw[ratio_Frac,wOf_ok h h',bS0,wOf_ok hd hd',bS0,ratio_Make_ok (by omega) (by omega),wv_limbsI,wv_limbsI]
 by_cases h0:d=0
 · subst h0
   rw[if_pos rfl,bS0,ratio_Clean_ok (a:=((false,[]),[])) ⟨by decide,by decide⟩]
   have:rv ((false,[]),[])=0:=by simp [rv]
   rw[this]
   have e:(n:Rat)/((0:Int):Rat)=0:=by rw[Rat.div_def];simp
   rw[e];rfl
 · rw [if_neg h0, bS0, ratio_Clean_ok, bS0, rv_canQ]
   have a1:SzQ (n:Rat) 2:=⟨by rw[Rat.num_intCast];omega,by simp⟩
   have a2:SzQ (d:Rat) 2:=⟨by rw[Rat.num_intCast];omega,by simp⟩
   exact(a1.div a2).sm (by decide)
theorem ratio_Same_ok {a b:RAT} (ha:Sm a) (hb:Sm b):ratio_Same a b=some (decide (rv a=rv b)):=by
 rw[ratio_Same,ratio_Cmp_ok ha hb,bS0]
 congr 1
 rw[decide_eq_decide]
 unfold rcmp
 generalize rv a=p
 generalize rv b=q
 constructor
 · intro h
   by_cases h1:p<q
   · simp [h1] at h
   · by_cases h2 : q < p
     · simp [h1,h2] at h
     · exact Rat.le_antisymm (Rat.not_lt.1 h2) (Rat.not_lt.1 h1)
 · rintro rfl
   simp [Rat.lt_irrefl]
def cutR (k:Nat) (a:RAT):RAT:=((a.1.1,a.1.2.take k),a.2.take k)
theorem cutR_sz (k:Nat) (a:RAT):SzR (cutR k a) k:=⟨by simp [cutR];omega,by simp [cutR];omega⟩
theorem map_take_succ {α β:Type} (f:α→β) {l:List α} {i:Nat} (h:i<l.length):(l.take (i+1)).map f=(l.take i).map f++[f l[i]]:=by
 rw[List.take_succ_eq_append_getElem h,List.map_append];rfl
theorem rlt_asymm {p q:Rat} (h:p<q) (h':q<p):False:=by grind
def pre (v:Nat→Rat) (i j:Nat):Prop:=v j<v i∨(v i=v j∧i<j)
def ints (o:List Nat):List Int:=o.map fun(i:Nat)=>(i:Int)
@[simp] theorem ints_len (o:List Nat):(ints o).length=o.length:=by simp [ints]
def vals (l:List RAT) (i:Nat):Rat:=rv ((l[i]?).getD ((false,[]),[]))
theorem vals_get {l:List RAT} {i:Nat} (h:i<l.length):vals l i=rv l[i]:=by simp [vals,h]
theorem rcmp_pos {p q:Rat}:rcmp p q>0 ↔ q<p:=by
 unfold rcmp
 by_cases h:p<q
 · have : ¬ q < p := fun h' => rlt_asymm h h'
   simp [h,this]
 · by_cases h2:q<p<;>simp [h,h2]
theorem rcmp_neg {p q:Rat}:rcmp p q<0 ↔ p<q:=by
 unfold rcmp
 by_cases h:p<q
 · simp [h]
 · by_cases h2:q<p<;>simp [h,h2]
def usedOf (n:Nat) (o:List Nat):List Bool:=(List.range n).map fun j=>decide (j∈o)
@[simp] theorem usedOf_len (n:Nat) (o:List Nat):(usedOf n o).length=n:=by simp [usedOf]
theorem usedOf_get {n:Nat} {o:List Nat} {j:Nat} (h:j<n):(usedOf n o)[j]?=some (decide (j∈o)):=by simp [usedOf,h]
theorem usedOf_set {n:Nat} {o:List Nat} {b:Nat} (h:b<n):(usedOf n o).set b true=usedOf n (o++[b]):=by
 apply List.ext_getElem?
 intro j
 rw[List.getElem?_set]
 by_cases hj:j<n
 · rw [usedOf_get hj]
   by_cases hb:b=j
   · subst hb;simp [h,usedOf]
   · rw [if_neg hb, usedOf_get hj]
     simp [show ¬ j=b from fun e=>hb e.symm]
 · rw [List.getElem?_eq_none (by simp; omega), List.getElem?_eq_none (by simp; omega)]
   split
   · rw[if_neg (by simp;omega)]
   · rfl
theorem number09_ok (a:RAT):dendronlaw09_number a=some (cutR 3 a):=by
 obtain⟨⟨s,x⟩,y⟩:=a
 unfold dendronlaw09_number cutR
 by_cases h1:3<x.length
 · have c1 : ((x.length : Nat) : Int) > 3 := by omega
   have c2:(3:Int)≤((x.length:Nat):Int):=by omega
   by_cases h2:3<y.length
   · have c3 : ((y.length : Nat) : Int) > 3 := by omega
     have c4:(3:Int)≤((y.length:Nat):Int):=by omega
     rw[cnd c1,cnd c2,cnd c3,cnd c4]
   · have c3 : ¬ ((y.length : Nat) : Int) > 3 := by omega
     rw[cnd c1,cnd c2,cnd' c3,List.take_of_length_le (l:=y) (by omega)]
 · have c1 : ¬ ((x.length : Nat) : Int) > 3 := by omega
   by_cases h2:3<y.length
   · have c3 : ((y.length : Nat) : Int) > 3 := by omega
     have c4:(3:Int)≤((y.length:Nat):Int):=by omega
     rw[cnd' c1,cnd c3,cnd c4,List.take_of_length_le (l:=x) (by omega)]
   · have c3 : ¬ ((y.length : Nat) : Int) > 3 := by omega
     rw[cnd' c1,cnd' c3,List.take_of_length_le (l:=x) (by omega),List.take_of_length_le (l:=y) (by omega)]
def cutCell (c:CELL):CELL:=(c.1,cutR 3 c.2)
theorem Few09_ok (l:List CELL) (n:Nat) (hl:l.length≤9223372036854775807) (hn:n<1000000):dendronlaw09_Few l (n:Int)=some ((l.take n).map cutCell):=by
 have hnn:min l.length n≤l.length:=Nat.min_le_left _ _
 have key:=lp_up (step:=dendronlaw09_Few_s3) (fun i=>((l,(n:Int),(l.take i).map cutCell,(i:Int),()),())) (min l.length n) (r:=(((l.take n).map cutCell,()),())) (by omega) (by
  intro g i hi
  have h1:i<l.length:=by omega
  have c1:(i:Int)<((l.length:Nat):Int):=by omega
  have c2:(i:Int)<(n:Int):=by omega
  have c3:(0:Int)≤(i:Int):=by omega
  have c4:(Nat.ble ((((l.take i).map cutCell).length+1)*64) 140737488355328&&!false)=true:=by
    have:(((l.take i).map cutCell).length+1)*64≤140737488355328:=by simp;omega
    simp only[Nat.ble_eq,this,Bool.not_false,Bool.and_true]
  rw[dendronlaw09_Few_s3,cnd c1,cnd c2,cnd c3,tN0,gE0 h1,bS0,number09_ok,bS0,c4,cond_true,iadd1 (by omega),map_take_succ _ h1]
  rfl) (by
  intro g
  by_cases h:l.length≤n
  · have c1 : ¬ ((min l.length n : Nat) : Int) < ((l.length : Nat) : Int) := by omega
    rw[dendronlaw09_Few_s3,cnd' c1,Nat.min_eq_left h,List.take_of_length_le (Nat.le_refl _),List.take_of_length_le h]
  · have c1 : ((min l.length n : Nat) : Int) < ((l.length : Nat) : Int) := by omega
    have c2:¬ ((min l.length n:Nat):Int)<(n:Int):=by omega
    rw[dendronlaw09_Few_s3,cnd c1,cnd' c2,Nat.min_eq_right (by omega)])
 rw[dendronlaw09_Few]
 rw[show((l,(n:Int),([]:List CELL),(0:Int),()),())=(((l,(n:Int),(l.take 0).map cutCell,((0:Nat):Int),()),()):(List CELL×Int×List CELL×Int×Unit)×Unit) from rfl,key]
 rfl
theorem rcmp_le {p q:Rat}:rcmp p q≤0 ↔ p≤q:=by
 rw[← Rat.not_lt,← rcmp_pos];omega
def dd:List Int→Nat
 | []=>0
 | x::r=>(x % 10000).toNat+10000*dd r
@[simp] theorem dd_nil:dd []=0:=rfl
def Dig (a:List Int):Prop:=∀ x∈a,0≤x∧x<10000
theorem Dig.nil:Dig []:=by intro x h;cases h
theorem Dig.cons {x:Int} {a:List Int} (h:0≤x∧x<10000) (ha:Dig a):Dig (x::a):=by
 intro y hy;rcases List.mem_cons.1 hy with rfl | hy
 · exact h
 · exact ha y hy
theorem Dig.append {a b:List Int} (ha:Dig a) (hb:Dig b):Dig (a++b):=by
 intro y hy;rcases List.mem_append.1 hy with hy | hy
 · exact ha y hy
 · exact hb y hy
theorem Dig.take {a:List Int} (ha:Dig a) (n:Nat):Dig (a.take n):=fun x h=>ha x (List.mem_of_mem_take h)
theorem Dig.get {a:List Int} (ha:Dig a) {i:Nat} {x:Int} (h:a[i]?=some x):0≤x∧x<10000:=ha x (List.mem_of_getElem? h)
theorem Dig.zeros (n:Nat):Dig (List.replicate n 0):=by
 intro x h;have:=(List.mem_replicate.1 h).2;omega
theorem Dig.set {a:List Int} (ha:Dig a) {i:Nat} {x:Int} (h:0≤x∧x<10000):Dig (a.set i x):=by
 intro y hy;rcases List.mem_or_eq_of_mem_set hy with hy | rfl
 · exact ha y hy
 · exact h
theorem dd_append (a b:List Int):dd (a++b)=dd a+10000 ^ a.length*dd b:=by
 induction a with
 | nil=>simp
 | cons x a ih=>simp only[List.cons_append,dd,ih,List.length_cons,Nat.pow_succ];grind
theorem dd_zeros (n:Nat):dd (List.replicate n 0)=0:=by
 induction n with
 | zero=>rfl
 | succ n ih=>simp [List.replicate_succ,dd,ih]
theorem dd_lt (a:List Int):dd a<10000 ^ a.length:=by
 induction a with
 | nil=>simp
 | cons x a ih =>
  simp only[dd,List.length_cons,Nat.pow_succ]
  have:(x % 10000).toNat<10000:=by omega
  have h2:10000*(dd a+1)≤10000*10000 ^ a.length:=Nat.mul_le_mul_left _ ih
  rw[Nat.mul_comm (10000 ^ a.length)]
  omega
theorem dd_one (x:Int) (h:0≤x∧x<10000):dd [x]=x.toNat:=by
 simp only[dd];omega
theorem dd_take_succ {a:List Int} {i:Nat} {x:Int} (h:a[i]?=some x):dd (a.take (i+1))=dd (a.take i)+10000 ^ i*(x % 10000).toNat:=by
 have hi:=(List.getElem?_eq_some_iff.1 h).1
 have e:a.take (i+1)=a.take i++[x]:=by rw[List.take_add_one,h];rfl
 rw[e,dd_append,List.length_take,Nat.min_eq_left (by omega)]
 simp [dd]
theorem dd_take_all {a:List Int} {i:Nat} (h:a.length≤i):dd (a.take i)=dd a:=by rw[List.take_of_length_le h]
def digs (n:Nat):List Int:=if h:n=0 then [] else ((n % 10000:Nat):Int)::digs (n/10000)
termination_by n
decreasing_by omega
theorem digs_zero:digs 0=[]:=by rw[digs];rfl
theorem digs_pos {n:Nat} (h:n≠0):digs n=((n % 10000:Nat):Int)::digs (n/10000):=by
 rw[digs];simp [h]
theorem dd_digs (n:Nat):dd (digs n)=n:=by
 induction n using Nat.strongRecOn with
 | _ n ih =>
  by_cases h:n=0
  · subst h;rw[digs_zero];rfl
  · rw[digs_pos h];simp only[dd];rw[ih _ (by omega)];omega
theorem digs_dig (n:Nat):Dig (digs n):=by
 induction n using Nat.strongRecOn with
 | _ n ih =>
  by_cases h:n=0
  · subst h;rw[digs_zero];exact Dig.nil
  · rw[digs_pos h];exact Dig.cons (by omega) (ih _ (by omega))
theorem digs_eq_nil {n:Nat}:digs n=[] ↔ n=0:=by
 constructor
 · intro h;have:=dd_digs n;rw[h] at this;exact this.symm
 · rintro rfl;exact digs_zero
def DCan (a:List Int):Prop:=Dig a∧∀ x,a.getLast?=some x→x≠0
theorem dcan_eq:∀ {a:List Int},DCan a→a=digs (dd a)
 | [],_=>by rw[dd_nil,digs_zero]
 | x::r,h=>by
  have hx:=h.1 x List.mem_cons_self
  have hr:DCan r:=⟨fun y hy=>h.1 y (List.mem_cons_of_mem _ hy),fun y hy=>h.2 y (by rw[List.getLast?_cons,hy];rfl)⟩
  have ih:=dcan_eq hr
  have hne:dd (x::r)≠0:=by
   simp only[dd]
   cases r with
   | nil=>have:=h.2 x rfl;simp;omega
   | cons y r' =>
    have:dd (y::r')≠0:=fun e=>by rw[e,digs_zero] at ih;cases ih
    omega
  rw[digs_pos hne]
  simp only[dd]
  have e1:((x % 10000).toNat+10000*dd r)/10000=dd r:=by omega
  have e2:((((x % 10000).toNat+10000*dd r) % 10000:Nat):Int)=x:=by omega
  rw[e1,e2,← ih]
theorem digs_len_le {n k:Nat} (h:n<10000 ^ k):(digs n).length≤k:=by
 induction k generalizing n with
 | zero => have : n = 0 := by simpa using h
           subst this;rw[digs_zero];simp
 | succ k ih =>
  by_cases h0:n=0
  · subst h0;rw[digs_zero];simp
  · rw [digs_pos h0, List.length_cons]
    have:=ih (n:=n/10000) (by rw[Nat.div_lt_iff_lt_mul (by decide)];rw[Nat.pow_succ] at h;exact h)
    omega
theorem digs_len_lt {n k:Nat} (h:10000 ^ k≤n):k<(digs n).length:=by
 have:=dd_lt (digs n)
 rw[dd_digs] at this
 rcases Nat.lt_or_ge k (digs n).length with h1 | h1
 · exact h1
 · have := Nat.pow_le_pow_right (n := 10000) (by decide) h1
   omega
theorem dd_len_digs (a:List Int):(digs (dd a)).length≤a.length:=digs_len_le (dd_lt a)
theorem dnnt {a:List Int} {i:Nat} (h:i<a.length):dd (a.take (i+1))=dd (a.take i)+10000 ^ i*(a[i] % 10000).toNat:=dd_take_succ (gE0 h)
theorem Dig.at {a:List Int} (ha:Dig a) {i:Nat} (h:i<a.length):0≤a[i]∧a[i]<10000:=ha _ (gM0 h)
theorem dd_split {a:List Int} {i:Nat} (h:i<a.length):dd a=dd (a.take i)+10000 ^ i*((a[i] % 10000).toNat+10000*dd (a.drop (i+1))):=by
 have e:a=a.take i++(a[i]::a.drop (i+1)):=by simp
 conv=>lhs;rw[e]
 rw[dd_append]
 simp [dd,Nat.min_eq_left (Nat.le_of_lt h)]
theorem dd_lt_of {a b:List Int} (ha:Dig a) (hb:Dig b) {i:Nat} (h:i<a.length) (h':i<b.length) (hd:a.drop (i+1)=b.drop (i+1)) (hlt:a[i]<b[i]):dd a<dd b:=by
 rw[dd_split h,dd_split h',hd]
 have h1:=dd_lt (a.take i)
 rw[List.length_take,Nat.min_eq_left (Nat.le_of_lt h)] at h1
 have ha:=ha.at h
 have hb:=hb.at h'
 have h2:(a[i] % 10000).toNat+1≤(b[i] % 10000).toNat:=by omega
 have h3:10000 ^ i*((a[i] % 10000).toNat+1+10000*dd (b.drop (i+1)))≤10000 ^ i*((b[i] % 10000).toNat+10000*dd (b.drop (i+1))):=Nat.mul_le_mul_left _ (by omega)
 have h4:10000 ^ i*((a[i] % 10000).toNat+1+10000*dd (b.drop (i+1)))=10000 ^ i+10000 ^ i*((a[i] % 10000).toNat+10000*dd (b.drop (i+1))):=by grind
 omega
theorem len_lt_dd {n m:Nat} (h:(digs n).length<(digs m).length):n<m:=by
 have h1:=dd_lt (digs n)
 rw[dd_digs] at h1
 rcases Nat.lt_or_ge m (10000 ^ (digs n).length) with h2 | h2
 · have:=digs_len_le h2;omega
 · omega
theorem lget_dig {a:List Int} (ha:Dig a) (i:Nat):0≤lget a i∧lget a i<10000:=by
 unfold lget
 cases h:a[i]? with
 | none=>simp
 | some x=>exact ha.get h
theorem dd_take_lget (a:List Int) (i:Nat):dd (a.take (i+1))=dd (a.take i)+10000 ^ i*(lget a i % 10000).toNat:=by
 by_cases h:i<a.length
 · rw[dnnt h];simp [lget,h]
 · rw [List.take_of_length_le (by omega), List.take_of_length_le (by omega)]
   simp [lget,h]
theorem dd_take_of_lt {b:List Int} {k:Nat} (h:dd b<10000 ^ k):dd (b.take k)=dd b:=by
 by_cases hk:b.length≤k
 · rw[List.take_of_length_le hk]
 have e:dd b=dd (b.take k)+10000 ^ k*dd (b.drop k):=by
   conv=>lhs;rw[← List.take_append_drop k b]
   rw[dd_append,List.length_take,Nat.min_eq_left (by omega)]
 rcases Nat.eq_zero_or_pos (dd (b.drop k)) with h0 | h0
 · rw[h0] at e;omega
 · have : 10000 ^ k * 1 ≤ 10000 ^ k * dd (b.drop k) := Nat.mul_le_mul_left _ h0
   omega
theorem dd_set {u:List Int} (hu:Dig u) {j:Nat} (hj:j<u.length) {y:Int} (hy:0≤y∧y<10000):dd (u.set j y)+10000 ^ j*u[j].toNat=dd u+10000 ^ j*y.toNat:=by
 have e1:u=u.take j++(u[j]::u.drop (j+1)):=by simp
 have e2:u.set j y=u.take j++(y::u.drop (j+1)):=List.set_eq_take_append_cons_drop.trans (by simp [hj])
 have b:=hu.at hj
 rw[e2]
 have:dd u=dd (u.take j++(u[j]::u.drop (j+1))):=by rw[← e1]
 rw[this,dd_append,dd_append]
 simp only[List.length_take,Nat.min_eq_left (Nat.le_of_lt hj),dd]
 have k1:(y % 10000).toNat=y.toNat:=by omega
 have k2:(u[j] % 10000).toNat=u[j].toNat:=by omega
 rw[k1,k2]
 grind
theorem dd_drop (a:List Int) {i:Nat} (h:i<a.length):dd (a.drop i)=(a[i] % 10000).toNat+10000*dd (a.drop (i+1)):=by
 rw[List.drop_eq_getElem_cons h,dd]
theorem digs_len_mono {n m:Nat} (h:n≤m):(digs n).length≤(digs m).length:=by
 rcases Nat.lt_or_ge (digs m).length (digs n).length with h1 | h1
 · have:=len_lt_dd h1;omega
 · exact h1
theorem dd_take_drop (u:List Int) {j:Nat} (hj:j≤u.length):dd u=dd (u.take j)+10000 ^ j*dd (u.drop j):=by
 conv=>lhs;rw[← List.take_append_drop j u]
 rw[dd_append,List.length_take,Nat.min_eq_left hj]
theorem digs_mul_len (x y:Nat):(digs (x*y)).length≤(digs x).length+(digs y).length:=by
 apply digs_len_le
 have a1:=dd_lt (digs x)
 have a2:=dd_lt (digs y)
 rw[dd_digs] at a1 a2
 rw[Nat.pow_add]
 exact Nat.mul_lt_mul'' a1 a2
theorem digs_pos_len {n:Nat}:((digs n).length:Int)>0 ↔ n≠0:=by
 constructor
 · intro h h0;subst h0;rw[digs_zero] at h;simp at h
 · intro h
   have:digs n≠[]:=fun e=>h (digs_eq_nil.1 e)
   have:=List.length_pos_iff.2 this
   omega
theorem digs_len0 {n:Nat}:((digs n).length:Int)=0 ↔ n=0:=by
 have:=@digs_pos_len n
 omega
theorem rTrim_ok {a:List Int} (ha:Dig a) (hl:a.length<4611686018427387904):dendronref01_Trim a=some (digs (dd a)):=by
 obtain⟨r,⟨n,hn,rfl,h1,h2⟩,hr⟩:=lp_wf (step:=dendronref01_Trim_s2) (fun v=>∃ n:Nat,n≤a.length∧v=((a,(n:Int),()),())∧dd (a.take n)=dd a) (fun v=>v.1.2.1.toNat)
  (fun r=>∃ n:Nat,n≤a.length∧r=((a,(n:Int),()),())∧dd (a.take n)=dd a∧∀ x,(a.take n).getLast?=some x→x≠0) (v:=((a,(a.length:Int),()),()))
  ⟨a.length, Nat.le_refl _, rfl, by simp⟩ (by simp; omega) (by
   rintro v ⟨n,hn,rfl,h1⟩
   cases n with
   | zero=>exact .inl ⟨_,⟨0,by omega,rfl,h1,by simp⟩,fun g=>by simp [dendronref01_Trim_s2]⟩
   | succ n =>
    have hl2:n<a.length:=by omega
    have e2:(0:Int)<(n:Int)+1:=by omega
    have e1:=isub1 (n:=n) (by omega)
    by_cases h0:a[n]=0
    · refine .inr ⟨((a, (n : Int), ()), ()), ⟨n, by omega, rfl, ?_⟩, by simp, fun g => ?_⟩
      · rw[← h1,dnnt hl2,h0];simp
      · simp [dendronref01_Trim_s2,e1,e2,h0,hl2]
    · refine .inl ⟨_, ⟨n + 1, hn, rfl, h1, ?_⟩, fun g => ?_⟩
      · intro y hy
        rw[List.take_add_one,gE0 hl2] at hy
        simp only[Option.toList_some,List.getLast?_append,List.getLast?_singleton,Option.some_or,Option.some.injEq] at hy
        subst hy;exact h0
      · simp [dendronref01_Trim_s2,e1,e2,h0,hl2])
 have e:a.take n=digs (dd a):=by rw[← h1];exact dcan_eq ⟨ha.take n,h2⟩
 simp only[dendronref01_Trim,hr,bS0]
 rw[← e]
 simp [hn]
theorem dcan_of_len {o:List Int} (ho:Dig o) (hl:o.length≤(digs (dd o)).length):o=digs (dd o):=by
 refine dcan_eq ⟨ho,fun x hx h0=>?_⟩
 subst h0
 have hne:o≠[]:=by rintro rfl;cases hx
 have hlen:o.length-1+1=o.length:=by have:=List.length_pos_iff.2 hne;omega
 have e1:=dd_take_drop o (j:=o.length-1) (by omega)
 have e2:o.drop (o.length-1)=[0]:=by
  rw[List.getLast?_eq_getElem?] at hx
  have hlt:o.length-1<o.length:=by omega
  rw[List.drop_eq_getElem_cons hlt,List.drop_eq_nil_of_le (by omega)]
  rw[gE0 hlt] at hx
  injection hx with hx
  rw[hx]
 rw[e2] at e1
 have e3:dd [0]=0:=by simp [dd]
 rw[e3,Nat.mul_zero,Nat.add_zero] at e1
 have:=dd_len_digs (o.take (o.length-1))
 rw[← e1,List.length_take] at this
 omega
theorem blt {n:Nat} {k:Nat} (h:n*k≤140737488355328):(Nat.ble (n*k) 140737488355328&&!false)=true:=by
 simp only[Nat.ble_eq,h,Bool.not_false,Bool.and_true]
theorem rSmall_ok {n:Nat} (hn:n<9223372036854775808):dendronref01_Small (n:Int)=some (digs n):=by
 obtain⟨r,rfl,hlp⟩:=lp_wf (step:=dendronref01_Small_s2) (fun s=>∃ (m:Nat) (o:List Int),s=(((m:Int),o,()),())∧m≤n∧o.length≤n-m∧o.length<100∧m*10000 ^ o.length≤n∧o++digs m=digs n) (fun s=>s.1.1.toNat)
  (fun r => r = ((digs n, ()), ())) (v := (((n : Int), [], ()), ())) ⟨n, [], rfl, Nat.le_refl _, by simp, by simp, by simp, by simp⟩ (by simp; omega) (by
   rintro s ⟨m,o,rfl,hm,hol,ho2,hpw,ho⟩
   by_cases h0:m=0
   · subst h0
     refine .inl ⟨_,rfl,fun g=>?_⟩
     rw[digs_zero,List.append_nil] at ho
     rw[dendronref01_Small_s2,cnd' (by decide),ho]
   · have e1 : iquo .i64 (m : Int) 10000 = ((m / 10000 : Nat) : Int) := by rw [iquo_i (by omega) (by omega) (by omega)]; omega
     have e2:irem (m:Int) 10000=((m % 10000:Nat):Int):=by rw[irem_n (by omega)];omega
     have hlen:o.length<5:=by
       rcases Nat.lt_or_ge o.length 5 with h | h
       · exact h
       · exfalso
         have h1:=Nat.pow_le_pow_right (n:=10000) (by decide) h
         have h2:1*10000 ^ o.length≤m*10000 ^ o.length:=Nat.mul_le_mul_right _ (by omega)
         omega
     refine .inr ⟨((((m/10000:Nat):Int),o++[((m % 10000:Nat):Int)],()),()),⟨m/10000,_,rfl,by omega,by simp;omega,by simp;omega,?_,?_⟩,by simp;omega,fun g=>?_⟩
     · rw [List.length_append, List.length_singleton, Nat.pow_succ, Nat.mul_comm (10000 ^ o.length), ← Nat.mul_assoc]
       have:m/10000*10000≤m:=Nat.div_mul_le_self _ _
       exact Nat.le_trans (Nat.mul_le_mul_right _ this) hpw
     · rw[← ho,digs_pos h0,List.append_assoc];rfl
     · have c0 : (m : Int) > 0 := by omega
       rw[dendronref01_Small_s2,cnd c0,blt (by omega),cond_true,e1,e2])
 rw[dendronref01_Small,hlp];rfl
theorem rdigit_ok (a:List Int) (i:Nat):dendronref01_digit a (i:Int)=some (lget a i):=by
 by_cases h:i<a.length<;>simp [dendronref01_digit,lget,h]
theorem rOrder_ok {n m:Nat} (hn:(digs n).length<4611686018427387904):dendronref01_Order (digs n) (digs m)=some (ncmp n m):=by
 unfold dendronref01_Order
 by_cases h1:(digs n).length<(digs m).length
 · have := len_lt_dd h1
   have c1:¬ (((digs n).length:Nat):Int)=(((digs m).length:Nat):Int):=by omega
   have c2:(((digs n).length:Nat):Int)<(((digs m).length:Nat):Int):=by omega
   rw[decide_eq_false c1,decide_eq_true c2]
   simp [ncmp,this]
 by_cases h2:(digs m).length<(digs n).length
 · have := len_lt_dd h2
   have c1:¬ (((digs n).length:Nat):Int)=(((digs m).length:Nat):Int):=by omega
   have c2:¬ (((digs n).length:Nat):Int)<(((digs m).length:Nat):Int):=by omega
   rw[decide_eq_false c1,decide_eq_false c2]
   simp [ncmp,this,Nat.not_lt.2 (Nat.le_of_lt this)]
 have hl:(digs m).length=(digs n).length:=by omega
 have c1:(((digs n).length:Nat):Int)=(((digs m).length:Nat):Int):=by omega
 rw[decide_eq_true c1]
 have ha:=digs_dig n
 have hb:=digs_dig m
 have e1:=dd_digs n
 have e2:=dd_digs m
 generalize digs n=a at *
 generalize digs m=b at *
 obtain⟨r,hr,hlp⟩:=lp_wf (step:=dendronref01_Order_s6) (fun v=>∃ j:Nat,j≤a.length∧v=((a,b,(j:Int)-1,()),())∧a.drop j=b.drop j) (fun v=>(v.1.2.2.1+1).toNat)
   (fun r=>(r=.inl ((),())∧a=b)∨(r=.inr ((-1,()),())∧dd a<dd b)∨(r=.inr ((1,()),())∧dd b<dd a)) (v:=((a,b,(a.length:Int)-1,()),()))
   ⟨a.length, Nat.le_refl _, rfl, by rw [List.drop_length, ← hl, List.drop_length]⟩ (by simp; omega) (by
    rintro v ⟨j,hj,rfl,hd⟩
    cases j with
    | zero=>exact .inl ⟨_,.inl ⟨rfl,by simpa using hd⟩,fun g=>by simp [dendronref01_Order_s6]⟩
    | succ j =>
     have hja:j<a.length:=by omega
     have hjb:j<b.length:=by omega
     have e3:((j+1:Nat):Int)-1=(j:Int):=by omega
     rw[e3]
     by_cases c1:a[j]<b[j]
     · exact .inl ⟨_,.inr (.inl ⟨rfl,dd_lt_of ha hb hja hjb hd c1⟩),fun g=>by simp [dendronref01_Order_s6,hja,hjb,c1]⟩
     by_cases c2:b[j]<a[j]
     · exact .inl ⟨_,.inr (.inr ⟨rfl,dd_lt_of hb ha hjb hja hd.symm c2⟩),fun g=>by simp [dendronref01_Order_s6,hja,hjb,c1,c2]⟩
     refine .inr ⟨((a,b,(j:Int)-1,()),()),⟨j,by omega,rfl,?_⟩,by simp,fun g=>?_⟩
     · rw[List.drop_eq_getElem_cons hja,List.drop_eq_getElem_cons hjb,hd,show a[j]=b[j] by omega]
     · have : isub .i64 (j : Int) 1 = (j : Int) - 1 := by rw [isub_i] <;> omega
       simp [dendronref01_Order_s6,hja,hjb,c1,c2,this])
 have e3:isub .i64 (a.length:Int) 1=(a.length:Int)-1:=by rw[isub_i]<;>omega
 rw[e3,hlp]
 rcases hr with ⟨rfl,h⟩ | ⟨rfl,h⟩ | ⟨rfl,h⟩
 · subst h
   have:n=m:=by omega
   subst this
   simp [ncmp]
 · rw [e1, e2] at h
   simp [h1,hl,ncmp,h]
 · rw [e1, e2] at h
   simp [h1,hl,ncmp,h,Nat.not_lt.2 (Nat.le_of_lt h)]
theorem rPlus_ok {x y:Nat} (hx:(digs x).length<1099511627776) (hy:(digs y).length<1099511627776):dendronref01_Plus (digs x) (digs y)=some (digs (x+y)):=by
 have la:=digs_dig x
 have lb:=digs_dig y
 have ea:=dd_digs x
 have eb:=dd_digs y
 have m1:=digs_len_mono (Nat.le_add_right x y)
 have m2:=digs_len_mono (Nat.le_add_left y x)
 generalize digs x=a at *
 generalize digs y=b at *
 obtain⟨r,rfl,hlp⟩:=lp_wf (step:=dendronref01_Plus_s4)
  (fun s=>∃ (i:Nat) (c:Nat) (o:List Int),s=((a,b,o,(c:Int),(i:Int),()),())∧o.length=i∧Dig o∧c≤1∧dd o+10000 ^ i*c=dd (a.take i)+dd (b.take i)∧(i≤max a.length b.length∨(c=0∧i=max a.length b.length+1∧i≤(digs (x+y)).length)))
  (fun s=>(max a.length b.length+2-s.1.2.2.2.2.1).toNat) (fun r=>r=((digs (x+y),()),())) (v:=((a,b,[],0,0,()),()))
  ⟨0, 0, [], rfl, rfl, Dig.nil, by omega, by simp, .inl (by omega)⟩ (by simp; omega) (by
   rintro s ⟨i,c,o,rfl,hol,hod,hc,hs,hi⟩
   have b1:=lget_dig la i
   have b2:=lget_dig lb i
   have q1:iadd .i64 (iadd .i64 (c:Int) (lget a i)) (lget b i)=(c:Int)+lget a i+lget b i:=by
     have:iadd .i64 (c:Int) (lget a i)=(c:Int)+lget a i:=by rw[iadd_i]<;>omega
     rw[this,iadd_i]<;>omega
   have q2:irem ((c:Int)+lget a i+lget b i) 10000=((c:Int)+lget a i+lget b i) % 10000:=irem_n (by omega)
   have q3:iquo .i64 ((c:Int)+lget a i+lget b i) 10000=((((c:Int)+lget a i+lget b i)/10000).toNat:Int):=by rw[iquo_i (by omega) (by omega) (by omega)];omega
   have hnext:dd (o++[((c:Int)+lget a i+lget b i) % 10000])+10000 ^ (i+1)*(((c:Int)+lget a i+lget b i)/10000).toNat=dd (a.take (i+1))+dd (b.take (i+1)):=by
     rw[dd_append,hol,dd_take_lget,dd_take_lget,dd_one _ (by omega),Nat.pow_succ]
     have k1:(((c:Int)+lget a i+lget b i) % 10000).toNat+10000*(((c:Int)+lget a i+lget b i)/10000).toNat=c+(lget a i % 10000).toNat+(lget b i % 10000).toNat:=by omega
     have k2:10000 ^ i*((((c:Int)+lget a i+lget b i) % 10000).toNat+10000*(((c:Int)+lget a i+lget b i)/10000).toNat)=10000 ^ i*(c+(lget a i % 10000).toNat+(lget b i % 10000).toNat):=by rw[k1]
     grind
   have hod':Dig (o++[((c:Int)+lget a i+lget b i) % 10000]):=Dig.append hod (Dig.cons (by omega) Dig.nil)
   by_cases him:i<max a.length b.length
   · refine .inr ⟨((a, b, o ++ [((c : Int) + lget a i + lget b i) % 10000], ((((c : Int) + lget a i + lget b i) / 10000).toNat : Int), ((i + 1 : Nat) : Int), ()), ()), ⟨i + 1, _, _, rfl, by simp [hol], hod', by omega, hnext, .inl (by omega)⟩, by simp; omega, fun g => ?_⟩
     by_cases h1:i<a.length
     · have c1 : (i : Int) < ((a.length : Nat) : Int) := by omega
       rw[dendronref01_Plus_s4,cnd c1,rdigit_ok,bS0,rdigit_ok,bS0,blt (by omega),cond_true,q1,q2,q3,iadd1 (by omega)]
       rfl
     · have c1 : ¬ (i : Int) < ((a.length : Nat) : Int) := by omega
       have c2:(i:Int)<((b.length:Nat):Int):=by omega
       rw[dendronref01_Plus_s4,cnd' c1,cnd c2,rdigit_ok,bS0,rdigit_ok,bS0,blt (by omega),cond_true,q1,q2,q3,iadd1 (by omega)]
       rfl
   · have c1 : ¬ (i : Int) < ((a.length : Nat) : Int) := by omega
     have c2:¬ (i:Int)<((b.length:Nat):Int):=by omega
     have t1:dd (a.take i)=x:=by rw[dd_take_all (by omega),ea]
     have t2:dd (b.take i)=y:=by rw[dd_take_all (by omega),eb]
     by_cases hc0:c=0
     · subst hc0
       refine .inl ⟨_,rfl,fun g=>?_⟩
       have hval:dd o=x+y:=by rw[t1,t2] at hs;simpa using hs
       have:o=digs (x+y):=by
         have:=dcan_of_len hod (by rw[hval,hol];rcases hi with h | ⟨_,_,h⟩<;>omega)
         rw[hval] at this;exact this
       rw[dendronref01_Plus_s4,cnd' c1,cnd' c2,cnd' (by decide),this]
     · have hc1 : c = 1 := by omega
       have hieq:i=max a.length b.length:=by rcases hi with h | ⟨h,_⟩<;>omega
       have l1:lget a i=0:=by simp only[lget];rw[List.getElem?_eq_none (by omega)];rfl
       have l2:lget b i=0:=by simp only[lget];rw[List.getElem?_eq_none (by omega)];rfl
       refine .inr ⟨((a,b,o++[((c:Int)+lget a i+lget b i) % 10000],((((c:Int)+lget a i+lget b i)/10000).toNat:Int),((i+1:Nat):Int),()),()),⟨i+1,_,_,rfl,by simp [hol],hod',by omega,hnext,.inr ⟨by omega,by omega,?_⟩⟩,by simp;omega,fun g=>?_⟩
       · have : 10000 ^ i ≤ x + y := by rw [← t1, ← t2, ← hs, hc1]; omega
         exact digs_len_lt this
       · have c3 : (c : Int) > 0 := by omega
         rw[dendronref01_Plus_s4,cnd' c1,cnd' c2,cnd c3,rdigit_ok,bS0,rdigit_ok,bS0,blt (by omega),cond_true,q1,q2,q3,iadd1 (by omega)]
         rfl)
 rw[dendronref01_Plus,hlp];rfl
theorem rMinus_ok {a b:List Int} (ha:Dig a) (hb:Dig b) (hl:a.length<4398046511104) (hle:dd b≤dd a):dendronref01_Minus a b=some (digs (dd a-dd b)):=by
 obtain⟨r,⟨p,rfl,hp,hpl,hpn⟩,hlp⟩:=lp_inv (step:=dendronref01_Minus_s4) (fun i v=>∃ (p:List Int) (d:Nat),v=((a,b,p,(d:Int),(i:Int),()),())∧p.length=i∧Dig p∧d≤1∧dd p+dd (b.take i)=dd (a.take i)+10000 ^ i*d)
  (fun r=>∃ p,r=((p,()),())∧p.length=a.length∧Dig p∧dd p=dd a-dd b) a.length (v:=((a,b,[],0,0,()),()))
  ⟨[], 0, rfl, rfl, Dig.nil, by omega, by simp⟩ (by omega) (by
   rintro i v hi ⟨p,d,rfl,hp,hpl,hd,hs⟩
   have b1:=ha.at hi
   have b2:=lget_dig hb i
   have q1:isub .i64 (isub .i64 a[i] (lget b i)) (d:Int)=a[i]-lget b i-d:=by
     have:isub .i64 a[i] (lget b i)=a[i]-lget b i:=by rw[isub_i]<;>omega
     rw[this,isub_i]<;>omega
   have c0:(i:Int)<((a.length:Nat):Int):=by omega
   have c1:(0:Int)≤(i:Int):=by omega
   by_cases hneg:a[i]-lget b i-d<0
   · have q2 : iadd .i64 (a[i] - lget b i - d) 10000 = a[i] - lget b i - d + 10000 := by rw [iadd_i] <;> omega
     refine⟨((a,b,p++[a[i]-lget b i-d+10000],((1:Nat):Int),((i+1:Nat):Int),()),()),⟨_,1,rfl,by simp [hp],Dig.append hpl (Dig.cons (by omega) Dig.nil),by omega,?_⟩,fun g=>?_⟩
     · rw [dd_append, hp, dd_take_lget, dnnt hi, dd_one _ (by omega), Nat.pow_succ]
       have k1:(a[i]-lget b i-d+10000).toNat+(lget b i % 10000).toNat+d=(a[i] % 10000).toNat+10000*1:=by omega
       have k2:10000 ^ i*((a[i]-lget b i-d+10000).toNat+(lget b i % 10000).toNat+d)=10000 ^ i*((a[i] % 10000).toNat+10000*1):=by rw[k1]
       grind
     · rw [dendronref01_Minus_s4, cnd c0, cnd c1, tN0, gE0 hi, bS0, rdigit_ok, bS0, q1, cnd hneg, blt (by omega), cond_true, q2, iadd1 (by omega)]
       rfl
   · refine ⟨((a, b, p ++ [a[i] - lget b i - d], ((0 : Nat) : Int), ((i + 1 : Nat) : Int), ()), ()), ⟨_, 0, rfl, by simp [hp], Dig.append hpl (Dig.cons (by omega) Dig.nil), by omega, ?_⟩, fun g => ?_⟩
     · rw [dd_append, hp, dd_take_lget, dnnt hi, dd_one _ (by omega), Nat.pow_succ]
       have k1:(a[i]-lget b i-d).toNat+(lget b i % 10000).toNat+d=(a[i] % 10000).toNat:=by omega
       have k2:10000 ^ i*((a[i]-lget b i-d).toNat+(lget b i % 10000).toNat+d)=10000 ^ i*((a[i] % 10000).toNat):=by rw[k1]
       grind
     · rw [dendronref01_Minus_s4, cnd c0, cnd c1, tN0, gE0 hi, bS0, rdigit_ok, bS0, q1, cnd' hneg, blt (by omega), cond_true, iadd1 (by omega)]
       rfl) (by
   rintro v ⟨p,d,rfl,hp,hpl,hd,hs⟩
   refine⟨((p,()),()),⟨p,rfl,hp,hpl,?_⟩,fun g=>by simp [dendronref01_Minus_s4]⟩
   rw[dd_take_of_lt (Nat.lt_of_le_of_lt hle (dd_lt a)),List.take_length] at hs
   have k1:=dd_lt p
   rw[hp] at k1
   have:d=0:=by
     rcases Nat.eq_zero_or_pos d with h | h
     · exact h
     · have : d = 1 := by omega
       subst this
       omega
   subst this
   omega)
 rw[dendronref01_Minus,hlp,bS0,rTrim_ok hpl (by omega),hpn]
 rfl
theorem dmul_lt_sq {x y c u:Int} (hx:0≤x∧x<10000) (hy:0≤y∧y<10000) (hc:0≤c∧c<10000) (hu:0≤u∧u<10000) :
  0≤x*y∧x*y<100000000∧u+x*y<100000000∧c+u+x*y<100000000:=by
 have h0:0≤x*y:=Int.mul_nonneg hx.1 hy.1
 have h1:x*y≤9999*9999:=Int.mul_le_mul (by omega) (by omega) hy.1 (by decide)
 omega
theorem rTimes_inner {b a:List Int} {i:Nat} {u:List Int} {Z:Nat} (hb:Dig b) (ha:Dig a) (hi:i<a.length) (hu:Dig u) (hul:u.length=i+b.length) (hsz:i+b.length<4611686018427387904) :
  ∃ (w:List Int) (c:Nat),lp dendronref01_Times_s7 K0 ((a,b,u++List.replicate Z 0,(i:Int),0,0,()),())=some ((a,b,w++List.replicate Z 0,(i:Int),(c:Int),()),()) ∧
   w.length=i+b.length∧Dig w∧c<10000∧dd w+10000 ^ (i+b.length)*c=dd u+10000 ^ i*(a[i].toNat*dd b):=by
 have hx:=ha.at hi
 generalize hxx:a[i]=x at *
 obtain⟨r,⟨w,c,rfl,h1,h2,h3,h4⟩,hlp⟩:=lp_inv (step:=dendronref01_Times_s7)
  (fun k v=>∃ (w:List Int) (c:Nat),v=((a,b,w++List.replicate Z 0,(i:Int),(c:Int),(k:Int),()),())∧w.length=i+b.length∧Dig w∧c<10000∧dd w+10000 ^ (i+k)*c=dd u+10000 ^ i*(x.toNat*dd (b.take k)))
  (fun r=>∃ (w:List Int) (c:Nat),r=((a,b,w++List.replicate Z 0,(i:Int),(c:Int),()),())∧w.length=i+b.length∧Dig w∧c<10000∧dd w+10000 ^ (i+b.length)*c=dd u+10000 ^ i*(x.toNat*dd b))
  b.length (v:=((a,b,u++List.replicate Z 0,(i:Int),0,0,()),())) ⟨u,0,rfl,hul,hu,by omega,by simp⟩ (by omega) (by
   rintro k v hk ⟨w,c,rfl,hw,hwl,hc,hs⟩
   have b1:=hb.at hk
   have hik:i+k<w.length:=by omega
   have b2:=hwl.at hik
   have b3:(0:Int)≤c∧(c:Int)<10000:=by omega
   obtain⟨m0,m1,m2,m3⟩:=dmul_lt_sq hx b1 b3 b2
   have q1:imul .i64 x b[k]=x*b[k]:=by rw[imul_i]<;>omega
   have q2:iadd .i64 (c:Int) w[i+k]=c+w[i+k]:=by rw[iadd_i]<;>omega
   have q3:iadd .i64 ((c:Int)+w[i+k]) (x*b[k])=(c:Int)+w[i+k]+x*b[k]:=by rw[iadd_i]<;>omega
   have q4:iadd .i64 (i:Int) (k:Int)=((i+k:Nat):Int):=by rw[iadd_i]<;>omega
   have q5:irem ((c:Int)+w[i+k]+x*b[k]) 10000=((c:Int)+w[i+k]+x*b[k]) % 10000:=irem_n (by omega)
   have q6:iquo .i64 ((c:Int)+w[i+k]+x*b[k]) 10000=(((((c:Int)+w[i+k]+x*b[k])/10000).toNat:Nat):Int):=by rw[iquo_i (by omega) (by omega) (by omega)];omega
   refine⟨((a,b,w.set (i+k) (((c:Int)+w[i+k]+x*b[k]) % 10000)++List.replicate Z 0,(i:Int),(((((c:Int)+w[i+k]+x*b[k])/10000).toNat:Nat):Int),((k+1:Nat):Int),()),()),⟨_,_,rfl,by simpa using hw,hwl.set (by omega),by omega,?_⟩,fun g=>?_⟩
   · have hset := dd_set hwl hik (y := ((c : Int) + w[i + k] + x * b[k]) % 10000) (by omega)
     rw[dnnt hk,show i+(k+1)=i+k+1 from rfl,Nat.pow_succ]
     have k1:(((c:Int)+w[i+k]+x*b[k]) % 10000).toNat+10000*(((c:Int)+w[i+k]+x*b[k])/10000).toNat=c+(w[i+k].toNat+(x*b[k]).toNat):=by omega
     have k2:10000 ^ (i+k)*((((c:Int)+w[i+k]+x*b[k]) % 10000).toNat+10000*(((c:Int)+w[i+k]+x*b[k])/10000).toNat)=10000 ^ (i+k)*(c+(w[i+k].toNat+(x*b[k]).toNat)):=by rw[k1]
     have k3:(x*b[k]).toNat=x.toNat*(b[k] % 10000).toNat:=by
      rw[Int.toNat_mul hx.1 b1.1];congr 2;omega
     rw[k3] at k2
     have k4:10000 ^ (i+k)=10000 ^ i*10000 ^ k:=Nat.pow_add ..
     grind
   · have e5 : (w ++ List.replicate Z (0 : Int))[i + k]? = some w[i + k] := by rw [List.getElem?_append_left hik]; exact gE0 hik
     have c0:(k:Int)<((b.length:Nat):Int):=by omega
     have c2:(0:Int)≤(k:Int):=by omega
     have c3:(0:Int)≤(i:Int):=by omega
     have e6:((i+k:Nat):Int)<(((w++List.replicate Z (0:Int)).length:Nat):Int):=by rw[List.length_append];omega
     have e7:(0:Int)≤((i+k:Nat):Int):=by omega
     rw[dendronref01_Times_s7,cnd c0,q4,cnd2 e7 e6,tN0,e5,bS0,cnd c3,tN0,gE0 hi,bS0,hxx,cnd c2,tN0,gE0 hk,bS0,cnd2 e7 e6,bS0,q1,q2,q3,q5,q6,List.set_append_left _ _ hik,iadd1 (by omega)]
     rfl) (by
   rintro v ⟨w,c,rfl,hw,hwl,hc,hs⟩
   rw[List.take_length] at hs
   exact⟨((a,b,w++List.replicate Z 0,(i:Int),(c:Int),()),()),⟨w,c,rfl,hw,hwl,hc,hs⟩,fun g=>by simp [dendronref01_Times_s7]⟩)
 exact⟨w,c,hlp,h1,h2,h3,h4⟩
theorem rTimes_ok {x y:List Int} (l1:Dig x) (l2:Dig y) (ha:x.length<4398046511104) (hb:y.length<4398046511104):dendronref01_Times x y=some (digs (dd x*dd y)):=by
 have hN:iadd .i64 (x.length:Int) (y.length:Int)=((x.length+y.length:Nat):Int):=by rw[iadd_i]<;>omega
 rw[dendronref01_Times,hN]
 obtain⟨r,⟨p,rfl,hp,hpl,hpn⟩,hlp⟩:=lp_inv (step:=dendronref01_Times_s3) (fun i v=>∃ p:List Int,v=((x,y,p++List.replicate (x.length-i) 0,(i:Int),()),())∧p.length=i+y.length∧Dig p∧dd p=dd (x.take i)*dd y)
  (fun r=>∃ p,r=((p,()),())∧p.length=x.length+y.length∧Dig p∧dd p=dd x*dd y) x.length (v:=((x,y,List.replicate (x.length+y.length) 0,0,()),()))
  ⟨List.replicate y.length 0, by rw [List.replicate_append_replicate, Nat.sub_zero, Nat.add_comm]; rfl, by simp, Dig.zeros _, by simp [dd_zeros]⟩ (by omega) (by
   rintro i v hi ⟨p,rfl,hp,hpl,hs⟩
   obtain⟨w,c,hin,hw,hwl,hc,hwn⟩:=rTimes_inner (Z:=x.length-i) l2 l1 hi hpl hp (by omega)
   have b1:=l1.at hi
   refine⟨((x,y,(w++[(c:Int)])++List.replicate (x.length-(i+1)) 0,((i+1:Nat):Int),()),()),⟨_,rfl,by simp [hw];omega,Dig.append hwl (Dig.cons (by omega) Dig.nil),?_⟩,fun g=>?_⟩
   · rw [dd_append, hw, dd_one _ (by omega), dnnt hi, tN0, hwn, hs]
     have:(x[i] % 10000).toNat=x[i].toNat:=by omega
     rw[this]
     grind
   · have q4 : iadd .i64 (i : Int) (y.length : Int) = ((i + y.length : Nat) : Int) := by rw [iadd_i] <;> omega
     have c0:(i:Int)<((x.length:Nat):Int):=by omega
     have e6:((i+y.length:Nat):Int)<(((w++List.replicate (x.length-i) (0:Int)).length:Nat):Int):=by rw[List.length_append,List.length_replicate];omega
     have e7:(0:Int)≤((i+y.length:Nat):Int):=by omega
     have e8:i+y.length<(w++List.replicate (x.length-i) (0:Int)).length:=by omega
     have e9:(w++List.replicate (x.length-i) (0:Int)).set (i+y.length) (c:Int)=(w++[(c:Int)])++List.replicate (x.length-(i+1)) 0:=by
      have:=set_mid (p:=w) (i:=i+y.length) (n:=x.length+y.length) (z:=0) (c:Int) hw (by omega)
      rw[show x.length+y.length-(i+y.length)=x.length-i by omega,show x.length+y.length-(i+y.length+1)=x.length-(i+1) by omega] at this
      exact this
     rw[dendronref01_Times_s3,cnd c0,hin,bS0,q4,cnd2 e7 e6,tN0,gE0 e8,bS0,e9,iadd1 (by omega)]
     rfl) (by
   rintro v ⟨p,rfl,hp,hpl,hs⟩
   rw[List.take_length] at hs
   exact⟨((p,()),()),⟨p,rfl,hp,hpl,hs⟩,fun g=>by simp [dendronref01_Times_s3]⟩)
 have g2:((x.length+y.length:Nat):Int)≤9223372036854775807:=by omega
 have g3:(0:Int)≤((x.length+y.length:Nat):Int):=by omega
 have g4:((8:Nat):Int)*((x.length+y.length:Nat):Int)≤281474976710656:=by omega
 rw[decide_eq_true g2,decide_eq_true g3,decide_eq_true g4,decide_eq_true rfl,tN0,hlp,bS0,rTrim_ok hpl (by omega),hpn]
 rfl
end Go.Proofs.YtilflbimpjokjaaGreatDoor.X
