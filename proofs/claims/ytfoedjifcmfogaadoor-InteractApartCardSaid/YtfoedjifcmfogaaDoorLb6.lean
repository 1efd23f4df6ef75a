/- Own work: part of the proof; the first line of each part says what it tells. -/
import Derived.Test.YtfoedjifcmfogaaDoorLb5


namespace Go.Proofs.YtfoedjifcmfogaaDoor.X
open Go
theorem bS0 {α J:Type} (a:α) (f:α->Option J):(some a).bind f=f a:=rfl
theorem tN0 (n:Nat):((n:Nat):Int).toNat=n:=Int.toNat_natCast n
theorem gE0 {α:Type} {l:List α} {i:Nat} (h:i<l.length):l[i]?=some l[i]:=List.getElem?_eq_getElem h
theorem gM0 {α:Type} {l:List α} {i:Nat} (h:i<l.length):l[i]∈l:=List.getElem_mem h
set_option linter.unusedVariables false
set_option linter.unusedSimpArgs false
theorem qy5 {V T:Type} {step:(V->Option T)->V->Option T} (P:Nat->V->Prop) (Q:T->Prop) (n:Nat)
  (hs:∀ i v,i<n->P i v->∃ v',P (i+1) v'/\∀ g,step g v=g v') (he:∀ v,P n v->∃ r,Q r/\∀ g,step g v=some r) :
  ∀ (j i:Nat) (v:V) (m:Nat),i+j=n->P i v->j<m->∃ r,Q r/\lp step m v=some r:=by
 intro j
 induction j with
 | zero =>
  intro i v m hi hp hm;obtain⟨m,rfl⟩:∃ k,m=k+1:=⟨m-1,by omega⟩;have:i=n:=by omega
  subst this;obtain⟨r,hr,e⟩:=he v hp;exact⟨r,hr,e _⟩
 | succ j ih =>
  intro i v m hi hp hm;obtain⟨m,rfl⟩:∃ k,m=k+1:=⟨m-1,by omega⟩;obtain⟨v',hv',e⟩:=hs i v (by omega) hp;obtain⟨r,hr,e'⟩:=ih (i+1) v' m (by omega) hv' (by omega);exact⟨r,hr,by rw[<- e'];exact e _⟩
theorem qkS {V T:Type} {step:(V->Option T)->V->Option T} (P:Nat->V->Prop) (Q:T->Prop) (n:Nat) {v:V} (h0:P 0 v) (hn:n<18446744073709551616)
  (hs:∀ i v,i<n->P i v->∃ v',P (i+1) v'/\∀ g,step g v=g v') (he:∀ v,P n v->∃ r,Q r/\∀ g,step g v=some r):∃ r,Q r/\lp step K0 v=some r :=
 qy5 P Q n hs he n 0 v K0 (by omega) h0 hn
theorem qfM {V T:Type} {step:(V->Option T)->V->Option T} (f:Nat->V) (n:Nat) {r:T} (hn:n<18446744073709551616)
  (hs:∀ g i,i<n->step g (f i)=g (f (i+1))) (he:∀ g,step g (f n)=some r):lp step K0 (f 0)=some r:=by
 obtain⟨r',rfl,h⟩:=qkS (step:=step) (fun i v=>v=f i) (·=r) n (v:=f 0) rfl hn (fun i v hi e=>⟨f (i+1),rfl,fun g=>by rw[e];exact hs g i hi⟩) (fun v e=>⟨r,rfl,fun g=>by rw[e];exact he g⟩);exact h
theorem qAc {V T:Type} {step:(V->Option T)->V->Option T} (I:V->Prop) (μ:V->Nat) (Q:T->Prop)
  (h:∀ v,I v->(∃ r,Q r/\∀ g,step g v=some r)\/∃ v',I v'/\μ v'<μ v/\∀ g,step g v=g v'):∀ (m:Nat) (v:V),I v->μ v<m->∃ r,Q r/\lp step m v=some r:=by
 intro m
 induction m with
 | zero=>intro v _ hm;omega
 | succ m ih =>
  intro v hI hm;rcases h v hI with ⟨r,hr,e⟩ | ⟨v',hv',hlt,e⟩
  · exact⟨r,hr,e _⟩
  · obtain ⟨r, hr, e'⟩ := ih v' hv' (by omega);exact⟨r,hr,by rw[<- e'];exact e _⟩
theorem qpm {V T:Type} {step:(V->Option T)->V->Option T} (I:V->Prop) (μ:V->Nat) (Q:T->Prop) {v:V} (hI:I v) (hμ:μ v<18446744073709551616)
  (h:∀ v,I v->(∃ r,Q r/\∀ g,step g v=some r)\/∃ v',I v'/\μ v'<μ v/\∀ g,step g v=g v'):∃ r,Q r/\lp step K0 v=some r :=
 qAc I μ Q h K0 v hI hμ
theorem qsu {x:Int} (h:-9223372036854775808<=x) (h':x<9223372036854775808):IntKind.wrap .i64 x=x:=by
 have e1:((2:Int) ^ IntKind.bits .i64)=18446744073709551616:=by decide
 have e2:((2:Int) ^ (IntKind.bits .i64-1))=9223372036854775808:=by decide
 simp only[IntKind.wrap,e1,e2,IntKind.signed,Bool.true_and,decide_eq_true_eq];split<;>omega
theorem qko {x:Int} (h:0<=x) (h':x<18446744073709551616):IntKind.wrap .u64 x=x:=by
 have e1:((2:Int) ^ IntKind.bits .u64)=18446744073709551616:=by decide
 simp only[IntKind.wrap,e1,IntKind.signed,Bool.false_and,Bool.false_eq_true,if_false];omega
theorem qhg (x:Int):IntKind.wrap .u64 x=x % 18446744073709551616:=by
 have e1:((2:Int) ^ IntKind.bits .u64)=18446744073709551616:=by decide
 simp only[IntKind.wrap,e1,IntKind.signed,Bool.false_and,Bool.false_eq_true,if_false]
theorem qwD (x:Int):IntKind.wrap .u32 x=x % 4294967296:=by
 have e1:((2:Int) ^ IntKind.bits .u32)=4294967296:=by decide
 simp only[IntKind.wrap,e1,IntKind.signed,Bool.false_and,Bool.false_eq_true,if_false]
theorem qg6 {x y:Int} (h:-9223372036854775808<=x+y) (h':x+y<9223372036854775808):iadd .i64 x y=x+y:=qsu h h'
theorem qdF {x y:Int} (h:-9223372036854775808<=x-y) (h':x-y<9223372036854775808):isub .i64 x y=x-y:=qsu h h'
theorem qAf {x y:Int} (h:-9223372036854775808<=x*y) (h':x*y<9223372036854775808):imul .i64 x y=x*y:=qsu h h'
theorem qjW {x y:Int} (h:0<=x+y) (h':x+y<18446744073709551616):iadd .u64 x y=x+y:=qko h h'
theorem qkW {x y:Int} (h:0<=x-y) (h':x-y<18446744073709551616):isub .u64 x y=x-y:=qko h h'
theorem qvB {x y:Int} (h:0<=x*y) (h':x*y<18446744073709551616):imul .u64 x y=x*y:=qko h h'
theorem qyh {x y:Int} (h:0<=x) (h':x<9223372036854775808) (hy:0<=y):iquo .i64 x y=x/y:=by
 have:x/y<=x:=Int.ediv_le_self _ h;have h0:0<=x/y:=Int.ediv_nonneg h hy;rw[iquo,Int.tdiv_eq_ediv_of_nonneg h];exact qsu (by omega) (by omega)
theorem qyg {x y:Int} (h:0<=x) (h':x<18446744073709551616) (hy:0<=y):iquo .u64 x y=x/y:=by
 have:x/y<=x:=Int.ediv_le_self _ h;have h0:0<=x/y:=Int.ediv_nonneg h hy;rw[iquo,Int.tdiv_eq_ediv_of_nonneg h];exact qko (by omega) (by omega)
theorem qqP {x y:Int} (h:0<=x):irem x y=x % y:=by
 rw[irem,Int.tmod_eq_emod_of_nonneg h]
theorem qe0 (x:Int):(BitVec.ofInt 64 x).toNat=(x % 18446744073709551616).toNat:=by
 rw[BitVec.toNat_ofInt];rfl
theorem qxr {x y:Nat} (hx:x<18446744073709551616) (hy:y<18446744073709551616):iand .u64 (x:Int) (y:Int)=((x &&& y:Nat):Int):=by
 have h1:(BitVec.ofInt 64 (x:Int)).toNat=x:=by rw[qe0];omega
 have h2:(BitVec.ofInt 64 (y:Int)).toNat=y:=by rw[qe0];omega
 show IntKind.wrap .u64 ((BitVec.ofInt 64 (x:Int) &&& BitVec.ofInt 64 (y:Int)).toNat:Int)=_;rw[BitVec.toNat_and,h1,h2];have:x &&& y<=x:=Nat.and_le_left;exact qko (by omega) (by omega)
theorem qr4 {x y:Nat} (hx:x<18446744073709551616) (hy:y<18446744073709551616):ior .u64 (x:Int) (y:Int)=((x ||| y:Nat):Int):=by
 have h1:(BitVec.ofInt 64 (x:Int)).toNat=x:=by rw[qe0];omega
 have h2:(BitVec.ofInt 64 (y:Int)).toNat=y:=by rw[qe0];omega
 show IntKind.wrap .u64 ((BitVec.ofInt 64 (x:Int) ||| BitVec.ofInt 64 (y:Int)).toNat:Int)=_;rw[BitVec.toNat_or,h1,h2];have:x ||| y<2 ^ 64:=Nat.or_lt_two_pow (by omega) (by omega)
 exact qko (by omega) (by omega)
theorem qfz (x:Int):iand .u64 x 4294967295=x % 4294967296:=by
 show IntKind.wrap .u64 ((BitVec.ofInt 64 x &&& BitVec.ofInt 64 4294967295).toNat:Int)=_;rw[BitVec.toNat_and,qe0];have h2:(BitVec.ofInt 64 4294967295).toNat=2 ^ 32-1:=by decide
 rw[h2,Nat.and_two_pow_sub_one_eq_mod];have:((x % 18446744073709551616).toNat % 2 ^ 32:Nat)=x % 4294967296:=by omega
 rw[qko]<;>omega
theorem qpU (x:Int):shrV .u64 x 32=x/4294967296:=by
 show x.fdiv (2 ^ min (32:Int).toNat 64)=_;rw[Int.fdiv_eq_ediv_of_nonneg _ (by decide)];rfl
theorem quU {x:Int} (h:0<=x) (h':x<4294967296):shlV .u64 x 32=x*4294967296:=by
 show IntKind.wrap .u64 (x*2 ^ min (32:Int).toNat 64)=_;have:(2:Int) ^ min (32:Int).toNat 64=4294967296:=by decide
 rw[this];exact qko (by omega) (by omega)
theorem qyI (x s:Nat) (hs:s<=64):shrV .u64 (x:Int) (s:Int)=((x/2 ^ s:Nat):Int):=by
 show(x:Int).fdiv (2 ^ min (s:Int).toNat 64)=_;rw[Int.fdiv_eq_ediv_of_nonneg _ (Int.le_of_lt (Int.pow_pos (by decide)))];have:min (s:Int).toNat 64=s:=by omega
 rw[this,Int.natCast_ediv,Int.natCast_pow];rfl
theorem qyK {x s:Nat} (hs:s<=64) (h:x*2 ^ s<18446744073709551616):shlV .u64 (x:Int) (s:Int)=((x*2 ^ s:Nat):Int):=by
 show IntKind.wrap .u64 ((x:Int)*2 ^ min (s:Int).toNat 64)=_;have:min (s:Int).toNat 64=s:=by omega
 rw[this];have:((x:Int)*2 ^ s)=((x*2 ^ s:Nat):Int):=by rw[Int.natCast_mul,Int.natCast_pow];rfl
 rw[this];exact qko (by omega) (by omega)
theorem qyi {x y s:Nat} (hy:y<2 ^ s) (h:x*2 ^ s+y<18446744073709551616):ior .u64 ((x*2 ^ s:Nat):Int) (y:Int)=((x*2 ^ s+y:Nat):Int):=by
 rw[qr4 (by omega) (by omega),<- Nat.shiftLeft_eq,<- Nat.shiftLeft_add_eq_or_of_lt hy]
theorem qvy {x y:Int} (hx:0<=x) (hx':x<4294967296) (hy:0<=y) (hy':y<4294967296):ior .u64 (x*4294967296) y=x*4294967296+y:=by
 obtain⟨x,rfl⟩:=Int.eq_ofNat_of_zero_le hx;obtain⟨y,rfl⟩:=Int.eq_ofNat_of_zero_le hy;have:=qyi (x:=x) (y:=y) (s:=32) (by omega) (by omega);simpa using this
theorem cnd {α:Type} {p:Prop} [Decidable p] {a b:α} (h:p):(bif decide p then a else b)=a:=by simp [h]
theorem cnd' {α:Type} {p:Prop} [Decidable p] {a b:α} (h:¬p):(bif decide p then a else b)=b:=by simp [h]
theorem cnd2 {α:Type} {p q:Prop} [Decidable p] [Decidable q] {a b:α} (h:p) (h':q):(bif decide p&&decide q then a else b)=a:=by simp [h,h']
def nn:List Int->Nat
 | []=>0
 | x::r=>(x % 4294967296).toNat+4294967296*nn r
@[simp] theorem qz7:nn []=0:=rfl
def Lim (a:List Int):Prop:=∀ x∈a,0<=x/\x<4294967296
theorem Lim.nil:Lim []:=by intro x h;cases h
theorem Lim.cons {x:Int} {a:List Int} (h:0<=x/\x<4294967296) (ha:Lim a):Lim (x::a):=by
 intro y hy;rcases List.mem_cons.1 hy with rfl | hy
 · exact h
 · exact ha y hy
theorem Lim.append {a b:List Int} (ha:Lim a) (hb:Lim b):Lim (a++b):=by
 intro y hy;rcases List.mem_append.1 hy with hy | hy
 · exact ha y hy
 · exact hb y hy
theorem Lim.take {a:List Int} (ha:Lim a) (n:Nat):Lim (a.take n):=fun x h=>ha x (List.mem_of_mem_take h)
theorem Lim.drop {a:List Int} (ha:Lim a) (n:Nat):Lim (a.drop n):=fun x h=>ha x (List.mem_of_mem_drop h)
theorem Lim.get {a:List Int} (ha:Lim a) {i:Nat} {x:Int} (h:a[i]?=some x):0<=x/\x<4294967296:=ha x (List.mem_of_getElem? h)
theorem Lim.zeros (n:Nat):Lim (List.replicate n 0):=by
 intro x h;have:=(List.mem_replicate.1 h).2;omega
theorem Lim.set {a:List Int} (ha:Lim a) {i:Nat} {x:Int} (h:0<=x/\x<4294967296):Lim (a.set i x):=by
 intro y hy;rcases List.mem_or_eq_of_mem_set hy with hy | rfl
 · exact ha y hy
 · exact h
theorem qbJ (a b:List Int):nn (a++b)=nn a+4294967296 ^ a.length*nn b:=by
 induction a with
 | nil=>simp
 | cons x a ih=>simp only[List.cons_append,nn,ih,List.length_cons,Nat.pow_succ];grind
theorem qsP (n:Nat):nn (List.replicate n 0)=0:=by
 induction n with
 | zero=>rfl
 | succ n ih=>simp [List.replicate_succ,nn,ih]
theorem qe1 (a:List Int):nn a<4294967296 ^ a.length:=by
 induction a with
 | nil=>simp
 | cons x a ih =>
  simp only[nn,List.length_cons,Nat.pow_succ];have:(x % 4294967296).toNat<4294967296:=by omega
  have h2:4294967296*(nn a+1)<=4294967296*4294967296 ^ a.length:=Nat.mul_le_mul_left _ ih;rw[Nat.mul_comm (4294967296 ^ a.length)];omega
theorem qnq (x:Int) (h:0<=x/\x<4294967296):nn [x]=x.toNat:=by
 simp only[nn];omega
theorem qdc {a:List Int} {i:Nat} {x:Int} (h:a[i]?=some x):nn (a.take (i+1))=nn (a.take i)+4294967296 ^ i*(x % 4294967296).toNat:=by
 have hi:=(List.getElem?_eq_some_iff.1 h).1;have e:a.take (i+1)=a.take i++[x]:=by rw[List.take_add_one,h];rfl
 rw[e,qbJ,List.length_take,Nat.min_eq_left (by omega)];simp [nn]
def qaa (n:Nat):List Int:=if h:n=0 then [] else ((n % 4294967296:Nat):Int)::qaa (n/4294967296)
termination_by n
decreasing_by omega
theorem qaX:qaa 0=[]:=by rw[qaa];rfl
theorem qgO {n:Nat} (h:n≠0):qaa n=((n % 4294967296:Nat):Int)::qaa (n/4294967296):=by
 rw[qaa];simp [h]
theorem qeA {n:Nat} (h:n≠0) (h':n<4294967296):qaa n=[(n:Int)]:=by
 rw[qgO h,Nat.div_eq_of_lt h',Nat.mod_eq_of_lt h',qaX]
theorem q9q (n:Nat):nn (qaa n)=n:=by
 induction n using Nat.strongRecOn with
 | _ n ih =>
  by_cases h:n=0
  · subst h;rw[qaX];rfl
  · rw[qgO h];simp only[nn];rw[ih _ (by omega)];omega
theorem qaO (n:Nat):Lim (qaa n):=by
 induction n using Nat.strongRecOn with
 | _ n ih =>
  by_cases h:n=0
  · subst h;rw[qaX];exact Lim.nil
  · rw[qgO h];exact Lim.cons (by omega) (ih _ (by omega))
theorem qeT {n:Nat}:qaa n=[] ↔ n=0:=by
 constructor
 · intro h;have:=q9q n;rw[h] at this;exact this.symm
 · rintro rfl;exact qaX
def qzL (a:List Int):Prop:=Lim a/\∀ x,a.getLast?=some x->x≠0
theorem qtd:∀ {a:List Int},qzL a->a=qaa (nn a)
 | [],_=>by rw[qz7,qaX]
 | x::r,h=>by
  have hx:=h.1 x List.mem_cons_self;have hr:qzL r:=⟨fun y hy=>h.1 y (List.mem_cons_of_mem _ hy),fun y hy=>h.2 y (by rw[List.getLast?_cons,hy];rfl)⟩;have ih:=qtd hr;have hne:nn (x::r)≠0:=by
   simp only[nn];cases r with
   | nil=>have:=h.2 x rfl;simp;omega
   | cons y r' =>
    have:nn (y::r')≠0:=fun e=>by rw[e,qaX] at ih;cases ih
    omega
  rw[qgO hne];simp only[nn];have e1:((x % 4294967296).toNat+4294967296*nn r)/4294967296=nn r:=by omega
  have e2:((((x % 4294967296).toNat+4294967296*nn r) % 4294967296:Nat):Int)=x:=by omega
  rw[e1,e2,<- ih]
theorem qr1 (n:Nat):qzL (qaa n):=by
 refine⟨qaO n,?_⟩
 induction n using Nat.strongRecOn with
 | _ n ih =>
  intro x hx;by_cases h:n=0
  · subst h;rw[qaX] at hx;cases hx
  · rw [qgO h] at hx;by_cases h2:n/4294967296=0
    · rw[h2,qaX] at hx;simp only[List.getLast?_singleton,Option.some.injEq] at hx;omega
    · rw [List.getLast?_cons] at hx;cases h3:(qaa (n/4294967296)).getLast? with
      | none=>rw[List.getLast?_eq_none_iff] at h3;exact absurd (qeT.1 h3) h2
      | some y=>rw[h3] at hx;injection hx with hx;subst hx;exact ih _ (by omega) _ h3
theorem qcf {n k:Nat} (h:n<4294967296 ^ k):(qaa n).length<=k:=by
 induction k generalizing n with
 | zero => have : n = 0 := by simpa using h
           subst this;rw[qaX];simp
 | succ k ih =>
  by_cases h0:n=0
  · subst h0;rw[qaX];simp
  · rw [qgO h0, List.length_cons];have:=ih (n:=n/4294967296) (by rw[Nat.div_lt_iff_lt_mul (by decide)];rw[Nat.pow_succ] at h;exact h)
    omega
theorem qqN {n k:Nat} (h:4294967296 ^ k<=n):k<(qaa n).length:=by
 have:=qe1 (qaa n);rw[q9q] at this;rcases Nat.lt_or_ge k (qaa n).length with h1 | h1
 · exact h1
 · have := Nat.pow_le_pow_right (n := 4294967296) (by decide) h1;omega
theorem qau (a:List Int):(qaa (nn a)).length<=a.length:=qcf (qe1 a)
end Go.Proofs.YtfoedjifcmfogaaDoor.X
