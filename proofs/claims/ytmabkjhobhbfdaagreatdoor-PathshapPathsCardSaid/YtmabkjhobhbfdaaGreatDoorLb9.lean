/- Own work: part of the proof; the first line of each part says what it tells. -/
import Derived.Test.YtmabkjhobhbfdaaGreatDoorLb8


namespace Go.Proofs.YtmabkjhobhbfdaaGreatDoor.X
open Go
set_option linter.unusedVariables false
set_option linter.unusedSimpArgs false
def fac:Nat->Nat
 | 0=>1
 | n+1=>(n+1)*fac n
theorem qwI (n:Nat):0<fac n:=by
 induction n with
 | zero=>decide
 | succ n ih=>exact Nat.mul_pos (by omega) ih
def qq3:List WH:=(List.range 65).map fun n=>qaD (fac n:Nat)
theorem qs5:qd4=some qq3:=by decide +kernel
def Tab (d st sm:Int) (f:List WH):Prop:=(d=0/\st=0)\/(d=1/\st=0/\f=qq3)
theorem qAs:∃ d st sm f,qmd=some (d,st,sm,f)/\Tab d st sm f:=⟨0,0,0,[],rfl,.inl ⟨rfl,rfl⟩⟩
theorem qwG {n:Nat} (h:n<65):qq3[n]?=some (qaD (fac n:Nat)):=by
 simp [qq3,h]
theorem qzP {d st sm:Int} {f:List WH} (h:Tab d st sm f) {n:Nat} (hn:n<=64):qht (n:Int) d st sm f=some (qaD (fac n:Nat),1,0,sm,qq3):=by
 have h0:(0:Int)<=(n:Int):=by omega
 have hg:=qwG (n:=n) (by omega);rcases h with ⟨rfl,rfl⟩ | ⟨rfl,rfl,rfl⟩
 · rw[qht,cnd h0,cnd rfl,cnd rfl,qs5,bS0,tN0,hg,bS0]
 · rw[qht,cnd h0,cnd' (by decide),tN0,hg,bS0]
theorem tab1 (sm:Int):Tab 1 0 sm qq3:=.inr ⟨rfl,rfl,rfl⟩
theorem quv {n:Nat} (h:n<=64):fac n<4294967296 ^ 10:=by
 have hm:∀ a b,a<=b->fac a<=fac b:=by
  intro a b hab
  induction hab with
  | refl=>exact Nat.le_refl _
  | step _ ih =>
   refine Nat.le_trans ih ?_;simp only[fac];exact Nat.le_mul_of_pos_left _ (by omega)
 have:=hm n 64 h;have h64:fac 64<4294967296 ^ 10:=by decide +kernel
 omega
theorem qwH {n:Nat} (h:n<=64):SzQ ((fac n:Nat):Rat) 10:=by
 have:=quv h;exact⟨by simpa using this,by simp⟩
def quo (a b c:Nat):Rat:=((fac a:Nat):Rat)*((fac b:Nat):Rat)/((fac c:Nat):Rat)
theorem qAb {a b c:Nat} (ha:a<=64) (hb:b<=64) (hc:c<=64):SzQ (quo a b c) 30:=((qwH ha).mul (qwH hb)).div (qwH hc)
theorem qo7 {n k:Nat} (h:n<4294967296 ^ k):(qaD (n:Nat)).2.length<=k:=by
 rw[qvl];exact qcf (by simpa using h)
theorem qtU (n:Nat):wv (qaD (n:Nat))=(n:Int):=by
 simp [qcU]
theorem qs4 {d st sm:Int} {f:List WH} (h:Tab d st sm f) {a b c:Nat} (ha:a<=64) (hb:b<=64) (hc:c<=64) :
  qcA (a:Int) (b:Int) (c:Int) d st sm f=some (canQ (quo a b c),1,0,sm,qq3):=by
 have hl:∀ {n:Nat},n<=64->(qaD (fac n:Nat)).2.length<1099511627776:=fun h=>Nat.lt_of_le_of_lt (qo7 (quv h)) (by decide)
 have hm:qds (qaD (fac a:Nat)) (qaD (fac b:Nat))=some (qaD ((fac a*fac b:Nat):Int)):=by
  have:=qsS (a:=qaD (fac a:Nat)) (b:=qaD (fac b:Nat)) (Nat.lt_of_lt_of_le (hl ha) (by decide)) (Nat.lt_of_lt_of_le (hl hb) (by decide));rw[this,qtU,qtU];simp
 have hlen:(qaD ((fac a*fac b:Nat):Int)).2.length<1099511627776:=by
  have h1:=quv ha;have h2:=quv hb;have:fac a*fac b<4294967296 ^ 20:=by
   have:=Nat.mul_lt_mul'' h1 h2;rw[<- Nat.pow_add] at this;exact this
  exact Nat.lt_of_le_of_lt (qo7 this) (by decide)
 have hmk:=qi1 hlen (hl hc);rw[qtU,qtU,if_neg (by have:=qwI c;omega)] at hmk;have hq:(((fac a*fac b:Nat):Int):Rat)/(((fac c:Nat):Int):Rat)=quo a b c:=by
  simp [quo];rfl
 rw[hq] at hmk;rw[qcA,qzP h ha,bS0,qzP (tab1 sm) hb,bS0,hm,bS0,qzP (tab1 sm) hc,bS0,hmk,bS0]
def wq (s n:Nat):Rat:=quo s (n-s-1) n
theorem qxg {s n:Nat} (hs:s<n) (hn:n<=64):SzQ (wq s n) 30:=qAb (by omega) (by omega) (by omega)
theorem qw6 {d st sm:Int} {f:List WH} (h:Tab d st sm f) {s n:Nat} (hs:s<n) (hn:n<=64) :
  qc7 (s:Int) (n:Int) d st sm f=some (canQ (wq s n),0,1,0,sm,qq3):=by
 have e1:isub .i64 (isub .i64 (n:Int) (s:Int)) 1=((n-s-1:Nat):Int):=by
  rw[qcg (x:=(n:Int)) (y:=(s:Int)) (by omega) (by omega),qcg (by omega) (by omega)];omega
 rw[qc7,cnd' (by omega),cnd' (by omega),cnd' (by omega),cnd' (by omega),e1,qs4 h (by omega) (by omega) (by omega),bS0];rfl
def vabs (l:List RAT) (i:Nat):Rat:=rabs (vals l i)
def vsum (l:List RAT):Rat:=rsum (vabs l) l.length
def qz5 (l:List RAT) (i:Nat):Rat:=vabs l i/vsum l
def qyC (l:List RAT) (n:Nat):List RAT:=(List.range n).map fun i=>canQ (qz5 l i)
@[simp] theorem qzW (l:List RAT) (n:Nat):(qyC l n).length=n:=by simp [qyC]
section
variable {l:List RAT} (hsz:∀ x∈l,SzR x 2) (hlen:l.length<=33)
include hsz
end
theorem qyu {a b:List RAT} {n m:Nat} (hn:n<91625968980) (hm:m<91625968980) (hb:∀ x∈b,SzR x m) (hlen:a.length=b.length) (hl:a.length<4398046511104)
  (h:∀ i (hi:i<a.length) (hi':i<b.length),∃ q,SzQ q n/\a[i]=canQ q/\rv b[i]=q):qc5 a b=some true:=by
 have c0:((a.length:Nat):Int)=((b.length:Nat):Int):=by omega
 have key:=qji (step:=qaU) (fun i=>((a,b,(i:Int),()),())) a.length (r:=.inl ((),())) (by omega) (by
  intro g i hi;have hi':i<b.length:=by omega
  obtain⟨q,hq,e,e2⟩:=h i hi hi';have d0:(i:Int)<((a.length:Nat):Int):=by omega
  have d1:(0:Int)<=(i:Int):=by omega
  have his:=qAu hq hn (hb _ (gM0 hi')) hm;rw[e2,decide_eq_true rfl] at his;rw[qaU,cnd d0,cnd d1,tN0,gE0 hi,bS0,cnd d1,gE0 hi',bS0,e,his,bS0,qcr (by omega)];rfl) (by
  intro g;rw[qaU,cnd' (by omega)])
 have key':lp qaU K0 ((a,b,0,()),())=some (.inl ((),())):=key;rw[qc5,decide_eq_true c0,key'];rfl
abbrev qA2 (n:NODE):Bool:=n.1
abbrev nL (n:NODE):Int:=n.2.2.2.1
abbrev nR (n:NODE):Int:=n.2.2.2.2.1
def kids (t:List NODE) (i:Nat):List Nat :=
 match t[i]? with
 | some n=>if qA2 n then [] else [(nL n).toNat,(nR n).toNat]
 | none=>[]
def cnt (t:List NODE) (i j:Nat):Nat:=((List.range i).flatMap (kids t)).count j
section
variable {t:List NODE} {f:Int}
end
def cntL (t:List NODE) (i:Nat):List Int:=(List.range t.length).map fun j=>((cnt t i j:Nat):Int)
@[simp] theorem qAB (t:List NODE) (i:Nat):(cntL t i).length=t.length:=by simp [cntL]
abbrev zR:RAT:=((false,[]),[])
theorem qsW (n k:Nat):(n/2 ^ k) % 2=1 ↔ n.testBit k=true:=by
 rw[Nat.testBit_eq_decide_div_mod_eq,decide_eq_true_iff]
def qjT (f:Nat->Rat):Nat->Rat
 | 0=>1
 | n+1=>qjT f n*f n
def qcan (qs:List Rat):List RAT:=qs.map canQ
@[simp] theorem qAz (qs:List Rat):(qcan qs).length=qs.length:=by simp [qcan]
abbrev AP:=Nat×Rat×Bool
def encP (p:AP):PART:=((p.1:Int),canQ p.2.1,p.2.2)
def encW (w:List AP):List PART:=w.map encP
theorem qx5 (w:List AP):(encW w).length=w.length:=by simp [encW]
def ASz (w:List AP) (k:Nat):Prop:=∀ p∈w,SzQ p.2.1 k
def flo (n:Nat) (o:Nat->Rat):List RAT:=(List.range n).map fun f=>canQ (o f)
theorem qq1 (n:Nat) (o:Nat->Rat):(flo n o).length=n:=by simp [flo]
theorem qwE {n f:Nat} (o:Nat->Rat) (h:f<n):(flo n o)[f]?=some (canQ (o f)):=by simp [flo,h]
theorem qzN {S f:Nat} (h:S.testBit f=false):∀ j,(S+2 ^ f).testBit j=(decide (j=f) || S.testBit j):=by
 induction f generalizing S with
 | zero =>
  intro j;have h0:S % 2=0:=by rw[Nat.testBit_zero] at h;simpa using h
  cases j with
  | zero=>rw[Nat.testBit_zero];simp;omega
  | succ j =>
   rw[Nat.testBit_succ,Nat.testBit_succ,show(S+2 ^ 0)/2=S/2 by omega];simp
 | succ f ih =>
  intro j;rw[Nat.testBit_succ] at h;have e1:(S+2 ^ (f+1))/2=S/2+2 ^ f:=by rw[Nat.pow_succ];omega
  have e2:(S+2 ^ (f+1)) % 2=S % 2:=by rw[Nat.pow_succ];omega
  cases j with
  | zero=>rw[Nat.testBit_zero,Nat.testBit_zero,e2];simp
  | succ j =>
   rw[Nat.testBit_succ,Nat.testBit_succ,e1,ih h];simp
def popc:Nat->Nat->Nat
 | 0,_=>0
 | n+1,S=>popc n S+(if S.testBit n then 1 else 0)
theorem qs6 (n S:Nat):popc n S<=n:=by
 induction n with
 | zero=>exact Nat.le_refl _
 | succ n ih=>rw[popc];split<;>omega
theorem quZ {n S S':Nat} (h:∀ j,j<n->S.testBit j=S'.testBit j):popc n S=popc n S':=by
 induction n with
 | zero=>rfl
 | succ n ih=>rw[popc,popc,ih fun j hj=>h j (by omega),h n (by omega)]
theorem quU (f:Nat->Rat) (a b:Nat):rsum f (a+b)=rsum f a+rsum (fun i=>f (i+a)) b:=by
 induction b with
 | zero=>simp [rsum,Rat.add_zero]
 | succ b ih=>rw[<- Nat.add_assoc,rsum,ih,rsum,Rat.add_assoc,Nat.add_comm a b]
theorem qsZ {f g:Nat->Rat} {n:Nat} (h:∀ i,i<n->f i=g i):qjT f n=qjT g n:=by
 induction n with
 | zero=>rfl
 | succ n ih=>rw[qjT,qjT,ih fun i hi=>h i (by omega),h n (by omega)]
abbrev BA:=Rat×Rat
def pick (x:BA) (b:Bool):Rat:=if b then x.2 else x.1
def EE:List BA->(Nat->Rat)->Rat
 | [],c=>c 0
 | x::L,c=>x.1*EE L c+x.2*EE L fun k=>c (k+1)
theorem quJ {L:List BA}:∀ {c d:Nat->Rat},(∀ k,k<=L.length->c k=d k)->EE L c=EE L d:=by
 induction L with
 | nil=>intro c d h;exact h 0 (Nat.le_refl _)
 | cons x L ih =>
  intro c d h;rw[EE,EE,ih fun k hk=>h k (by simp only[List.length_cons];omega),ih fun k hk=>h (k+1) (by simp only[List.length_cons];omega)]
theorem qyP {L:List BA}:∀ {c:Nat->Rat} {q:Rat},EE L (fun k=>q*c k)=q*EE L c:=by
 induction L with
 | nil=>intro c q;rfl
 | cons x L ih=>intro c q;rw[EE,EE,ih,ih];grind
theorem qxe {L M:List BA} (h:L.Perm M):∀ c,EE L c=EE M c:=by
 induction h with
 | nil=>intro c;rfl
 | cons x _ ih=>intro c;rw[EE,EE,ih,ih]
 | swap x y L=>intro c;simp only[EE];grind
 | trans _ _ ih1 ih2=>intro c;rw[ih1,ih2]
theorem qAw {L:List BA} {x:BA}:∀ c,EE (x::L) c=EE (L++[x]) c:=fun c=>qxe (by
 have:=(List.perm_append_comm (l₁:=[x]) (l₂:=L));simpa using this) c
theorem qxp (g:Nat->BA) (n:Nat):∀ c:Nat->Rat,rsum (fun S=>c (popc n S)*qjT (fun j=>pick (g j) (S.testBit j)) n) (2 ^ n)=EE ((List.range n).map g) c:=by
 induction n with
 | zero=>intro c;simp [rsum,popc,qjT,EE,Rat.mul_one,Rat.zero_add]
 | succ n ih =>
  intro c;have hb:∀ S,S<2 ^ n->S.testBit n=false:=fun S hS=>Nat.testBit_lt_two_pow hS
  have e1:rsum (fun S=>c (popc (n+1) S)*qjT (fun j=>pick (g j) (S.testBit j)) (n+1)) (2 ^ n)=(g n).1*rsum (fun S=>c (popc n S)*qjT (fun j=>pick (g j) (S.testBit j)) n) (2 ^ n):=by
   rw[Rat.mul_comm (g n).1,<- qt7];refine qpR fun S hS=>?_
   rw[popc,qjT,hb S hS,if_neg (by decide),Nat.add_zero,pick,if_neg (by decide)];grind
  have e2:rsum (fun S=>c (popc (n+1) (S+2 ^ n))*qjT (fun j=>pick (g j) ((S+2 ^ n).testBit j)) (n+1)) (2 ^ n)=(g n).2*rsum (fun S=>c (popc n S+1)*qjT (fun j=>pick (g j) (S.testBit j)) n) (2 ^ n):=by
   rw[Rat.mul_comm (g n).2,<- qt7];refine qpR fun S hS=>?_
   have hj:=qzN (hb S hS);have hp:popc n (S+2 ^ n)=popc n S:=quZ fun j hj'=>by rw[hj j,decide_eq_false (by omega),Bool.false_or]
   have hr:qjT (fun j=>pick (g j) ((S+2 ^ n).testBit j)) n=qjT (fun j=>pick (g j) (S.testBit j)) n:=qsZ fun j hj'=>by rw[hj j,decide_eq_false (by omega),Bool.false_or]
   rw[popc,qjT,hp,hr,hj n,decide_eq_true rfl,Bool.true_or,if_pos rfl,pick,if_pos rfl];grind
  rw[Nat.pow_succ,Nat.mul_two,quU,e1,e2,ih c,ih fun k=>c (k+1),List.range_succ,List.map_append];show _=EE (_++[g n]) c;rw[<- qAw,EE]
theorem qyA {n:Nat} (h:n<=30):qd2 (n:Int)=some ((2 ^ n:Nat):Int):=by
 have key:=qji (step:=qaV) (fun i=>(((n:Int),((2 ^ i:Nat):Int),(i:Int),()),())) n (r:=((((2 ^ n:Nat):Int),()),())) (by omega) (by
  intro g i hi;have d0:(i:Int)<(n:Int):=by omega
  have hpi:2 ^ i<=2 ^ 30:=Nat.pow_le_pow_right (by decide) (by omega);have em:imul .i64 2 ((2 ^ i:Nat):Int)=((2 ^ (i+1):Nat):Int):=by
   obtain⟨x,hx⟩:∃ x,x=2 ^ i:=⟨_,rfl⟩;have:2 ^ (i+1)=2*x:=by rw[hx,Nat.pow_succ];omega
   rw[<- hx] at hpi;rw[this,<- hx,qww]<;>omega
  rw[qaV,cnd d0,em,qcr (by omega)];rfl) (by
  intro g;rw[qaV,cnd' (by omega)])
 have key:lp qaV K0 (((n:Int),1,0,()),())=_:=key;rw[qd2,key];rfl
theorem qwu {S f:Nat} (hS:S<9223372036854775808) (hf:f<=1000000):qdL (S:Int) (f:Int)=some (S.testBit f):=by
 have key:=qji (step:=qa0) (fun i=>((((S/2 ^ i:Nat):Int),(f:Int),(i:Int),()),())) f (r:=((((S/2 ^ f:Nat):Int),()),())) (by omega) (by
  intro g i hi;have d0:(i:Int)<(f:Int):=by omega
  have hd:(S/2 ^ i:Nat)<9223372036854775808:=Nat.lt_of_le_of_lt (Nat.div_le_self _ _) hS;have hq:iquo .i64 ((S/2 ^ i:Nat):Int) 2=((S/2 ^ (i+1):Nat):Int):=by
   obtain⟨x,hx⟩:∃ x,x=S/2 ^ i:=⟨_,rfl⟩;rw[Nat.pow_succ,<- Nat.div_div_eq_div_mul,<- hx];rw[<- hx] at hd;rw[qpc (by omega) (by omega) (by omega)];omega
  rw[qa0,cnd d0,hq,qcr (by omega)];rfl) (by
  intro g;rw[qa0,cnd' (by omega)])
 have e0:((S/2 ^ 0:Nat):Int)=(S:Int):=by simp
 rw[e0] at key;have key:lp qa0 K0 (((S:Int),(f:Int),0,()),())=_:=key;rw[qdL,key,bS0];dsimp only;congr 1;have:=qsW S f;obtain⟨x,hx⟩:∃ x,x=S/2 ^ f:=⟨_,rfl⟩;rw[<- hx] at this ⊢;rw[qmJ (by omega)];cases hb:S.testBit f with
 | true=>rw[hb] at this;have:=this.2 rfl;exact decide_eq_true (by omega)
 | false=>rw[hb] at this;exact decide_eq_false (fun e=>by have:=this.1 (by omega);exact absurd this (by decide))
theorem qvU {S n:Nat} (hS:S<9223372036854775808) (hn:n<=1000000):qcS (S:Int) (n:Int)=some ((popc n S:Nat):Int):=by
 have key:=qji (step:=qaO) (fun i=>(((S:Int),(n:Int),((popc i S:Nat):Int),(i:Int),()),())) n (r:=((((popc n S:Nat):Int),()),())) (by omega) (by
  intro g i hi;have d0:(i:Int)<(n:Int):=by omega
  have hp:=qs6 i S;have i1:iadd .i64 (i:Int) 1=(i:Int)+1:=qcr (by omega);have i2:iadd .i64 ((popc i S:Nat):Int) 1=((popc i S:Nat):Int)+1:=qcr (by omega);rw[qaO,cnd d0,qwu hS (by omega),bS0,i1,i2,popc];cases hb:S.testBit i with
  | true=>rw[cond_true,if_pos rfl];rfl
  | false=>rw[cond_false,if_neg (by decide)];rfl) (by
  intro g;rw[qaO,cnd' (by omega)])
 have key:lp qaO K0 (((S:Int),(n:Int),0,0,()),())=_:=key;rw[qcS,key];rfl
def one0 (b:Bool):Rat:=if b then 1 else 0
def mulF (x:BA) (P:Nat->Rat) (k:Nat):Rat:=x.1*P k+(if k=0 then 0 else x.2*P (k-1))
def polF:List BA->Nat->Rat
 | []=>fun k=>if k=0 then 1 else 0
 | x::L=>mulF x (polF L)
theorem qs7 (L:List BA):∀ k,polF L k=EE L fun j=>if j=k then 1 else 0:=by
 induction L with
 | nil => intro k; show (if k = 0 then (1 : Rat) else 0) = if 0 = k then 1 else 0
          by_cases h:k=0
          · subst h;rfl
          · rw[if_neg h,if_neg (fun e=>h e.symm)]
 | cons x L ih =>
  intro k;show mulF x (polF L) k=_;rw[mulF,EE,ih];congr 1;by_cases h:k=0
  · subst h;rw[if_pos rfl];have:EE L (fun j=>if j+1=0 then (1:Rat) else 0)=EE L fun j=>0*0:=quJ fun j _=>by rw[if_neg (by omega),Rat.mul_zero]
    rw[this,qyP,Rat.zero_mul,Rat.mul_zero]
  · rw [if_neg h, ih];congr 1;refine quJ fun j _=>?_
    by_cases e:j=k-1
    · rw[if_pos e,if_pos (by omega)]
    · rw[if_neg e,if_neg (by omega)]
theorem qxC (L:List BA):∀ k,L.length+1<=k->polF L k=0:=by
 induction L with
 | nil=>intro k h;exact if_neg (by simp at h;omega)
 | cons x L ih =>
  intro k h;simp only[List.length_cons] at h;show mulF x (polF L) k=0;rw[mulF,ih k (by omega),if_neg (by omega),ih (k-1) (by omega),Rat.mul_zero,Rat.mul_zero,Rat.add_zero]
theorem qv6 {L M:List BA} (h:L.Perm M):polF L=polF M:=by
 funext k;rw[qs7,qs7];exact qxe h _
theorem qnl {n:Nat} (h:0<n):((n:Nat):Rat)≠0:=by
 intro e;have:(n:Nat)=0:=by exact_mod_cast e
 omega
theorem qqi {i n:Nat} (h:i<n):wq i (n+1)=wq i n*(((n-i:Nat):Rat)/((n+1:Nat):Rat)):=by
 obtain⟨j,rfl⟩:∃ j,n=i+j+1:=⟨n-i-1,by omega⟩;have e1:i+j+1+1-i-1=j+1:=by omega
 have e2:i+j+1-i-1=j:=by omega
 have e3:i+j+1-i=j+1:=by omega
 have a1:((fac (j+1):Nat):Rat)=((j+1:Nat):Rat)*((fac j:Nat):Rat):=by rw[fac];push_cast;rfl
 have a2:((fac (i+j+1+1):Nat):Rat)=((i+j+1+1:Nat):Rat)*((fac (i+j+1):Nat):Rat):=by rw[fac];push_cast;rfl
 have n1:=qnl (qwI (i+j+1));have n2:=qnl (show 0<i+j+1+1 by omega);simp only[wq,quo];rw[e1,e2,e3,a1,a2];generalize ((fac i:Nat):Rat)=x;generalize ((fac j:Nat):Rat)=y;generalize ((fac (i+j+1):Nat):Rat)=z at *;generalize ((j+1:Nat):Rat)=u;generalize ((i+j+1+1:Nat):Rat)=v at *;rw[Rat.div_def,Rat.div_def,Rat.div_def,Rat.inv_mul_rev]
 grind
theorem qvD {i n:Nat} (h:i<n):wq (i+1) (n+1)=wq i n*(((i+1:Nat):Rat)/((n+1:Nat):Rat)):=by
 obtain⟨j,rfl⟩:∃ j,n=i+j+1:=⟨n-i-1,by omega⟩;have e1:i+j+1+1-(i+1)-1=j:=by omega
 have e2:i+j+1-i-1=j:=by omega
 have a1:((fac (i+1):Nat):Rat)=((i+1:Nat):Rat)*((fac i:Nat):Rat):=by rw[fac];push_cast;rfl
 have a2:((fac (i+j+1+1):Nat):Rat)=((i+j+1+1:Nat):Rat)*((fac (i+j+1):Nat):Rat):=by rw[fac];push_cast;rfl
 simp only[wq,quo];rw[e1,e2,a1,a2];generalize ((fac i:Nat):Rat)=x;generalize ((fac j:Nat):Rat)=y;generalize ((fac (i+j+1):Nat):Rat)=z at *;generalize ((i+1:Nat):Rat)=u;generalize ((i+j+1+1:Nat):Rat)=v at *;rw[Rat.div_def,Rat.div_def,Rat.div_def,Rat.inv_mul_rev]
 grind
def fcP (p:AP):BA:=(p.2.1,one0 p.2.2)
def ekP (P:List AP):Nat->Rat:=polF (P.map fcP)
def wtP (P:List AP) (k:Nat):Rat:=wq k (P.length+1)*ekP P k
theorem quy {P Q:List AP} (h:P.Perm Q):ekP P=ekP Q:=qv6 (h.map fcP)
theorem qx7 (P:List AP) (p:AP):ekP (P++[p])=mulF (fcP p) (ekP P):=by
 have:(P++[p]).Perm (p::P):=List.perm_append_comm.trans (List.Perm.refl _);rw[quy this];rfl
theorem qwM (P:List AP) {k:Nat} (h:P.length<k):ekP P k=0:=qxC _ k (by simp;omega)
theorem qyT:wtP [] 0=1:=by
 show wq 0 1*1=1;rw[Rat.mul_one];decide +kernel
abbrev LK:=Int×RAT×CELL
def lkF (P:List AP) (w:Nat->Rat) (i:Nat):LK :=
 if i=0 then (-1,canQ 1,true,canQ (w 0)) else
  let p:=(P[i-1]?).getD (0,0,false)
  ((p.1:Int),canQ p.2.1,p.2.2,canQ (w i))
def encK (P:List AP) (w:Nat->Rat):List LK:=(List.range (P.length+1)).map (lkF P w)
theorem qcc (P:List AP) (w:Nat->Rat):(encK P w).length=P.length+1:=by simp [encK]
theorem qcL {P:List AP} {w:Nat->Rat} {i:Nat} (h:i<P.length+1):(encK P w)[i]?=some (lkF P w i):=by simp [encK,h]
theorem qgR {P:List AP} {w w':Nat->Rat} (h:∀ i,i<=P.length->w i=w' i):encK P w=encK P w':=by
 refine List.map_congr_left fun i hi=>?_
 have hi:=List.mem_range.1 hi;unfold lkF;split
 · rename_i e;subst e;rw[h 0 (by omega)]
 · rw[h i (by omega)]
theorem qvj (P:List AP) (w:Nat->Rat) (i:Nat):(lkF P w i).2.2.2=canQ (w i):=by
 unfold lkF;split
 · rename_i e;subst e;rfl
 · rfl
theorem qzt (P:List AP) (w:Nat->Rat) (i:Nat) (q:Rat):((lkF P w i).1,(lkF P w i).2.1,(lkF P w i).2.2.1,canQ q)=lkF P (fun j=>if j=i then q else w j) i:=by
 unfold lkF;split
 · rename_i e;subst e;simp
 · simp
theorem qoj {P:List AP} {w:Nat->Rat} {i:Nat} (q:Rat):(encK P w).set i ((lkF P w i).1,(lkF P w i).2.1,(lkF P w i).2.2.1,canQ q)=encK P fun j=>if j=i then q else w j:=by
 rw[qzt];refine List.ext_getElem? fun j=>?_
 rw[List.getElem?_set];by_cases e:i=j
 · subst e;rw[if_pos rfl];by_cases hi:i<P.length+1
   · rw[if_pos (by rw[qcc];exact hi),qcL hi]
   · rw[if_neg (by rw[qcc];exact hi),List.getElem?_eq_none (by rw[qcc];omega)]
 · rw [if_neg e];by_cases hj:j<P.length+1
   · rw [qcL hj, qcL hj];have:(if j=i then q else w j)=w j:=if_neg fun h=>e h.symm
     unfold lkF;split
     · rename_i e0;subst e0;simp only[this]
     · simp only[this]
   · rw[List.getElem?_eq_none (by rw[qcc];omega),List.getElem?_eq_none (by rw[qcc];omega)]
theorem qmF {P:List AP} {w:Nat->Rat} {i:Nat} (h:i<P.length):lkF P w (i+1)=((P[i].1:Int),canQ P[i].2.1,P[i].2.2,canQ (w (i+1))):=by
 simp [lkF,gE0 h]
theorem qwL (P:List AP) (w:Nat->Rat) (p:AP) (q:Rat):encK P w++[((p.1:Int),canQ p.2.1,p.2.2,canQ q)]=encK (P++[p]) fun j=>if j=P.length+1 then q else w j:=by
 have e:encK (P++[p]) (fun j=>if j=P.length+1 then q else w j)=(List.range (P.length+1)).map (lkF (P++[p]) fun j=>if j=P.length+1 then q else w j)++[lkF (P++[p]) (fun j=>if j=P.length+1 then q else w j) (P.length+1)]:=by
   unfold encK;rw[List.length_append,List.length_singleton,List.range_succ,List.map_append];rfl
 rw[e];congr 1
 · refine List.map_congr_left fun i hi => ?_
   have hi:=List.mem_range.1 hi;unfold lkF;split
   · rename_i e;subst e;simp
   · have : ¬ i = P.length + 1 := by omega
     rw[List.getElem?_append_left (by omega)];simp only[if_neg this]
 · simp [lkF]
structure qnB (P:List AP) (k g:Nat):Prop where
 nd:(P.map (·.1)).Nodup
 sz:ASz P k
 len:P.length<=20
 lt:∀ p∈P,p.1<g
 pos:∀ p∈P,0<p.2.1
theorem qyo:qfH=some (encK [] (wtP [])):=by
 rw[qfH,qjX,bS0,bS0];show some [_]=some [lkF [] (wtP []) 0];simp only[lkF,if_true,qyT]
theorem qtS {P:List AP} {w:Nat->Rat} {f i:Nat} (hi:i<P.length) (he:P[i].1=f) (hn:∀ j (hj:j<P.length),j<i->P[j].1≠f) (hl:P.length<=1000000):qaP (f:Int) (encK P w)=some (((i+1:Nat):Int),encK P w):=by
 have el:=qcc P w;have key:=qji (step:=qak) (fun k=>(((f:Int),((P.length+1:Nat):Int),(k:Int),()),((encK P w,()),()))) (i+1) (r:=.inr ((((i+1:Nat):Int),()),((encK P w,()),()))) (by omega) (by
  intro g k hk;have d0:(k:Int)<((P.length+1:Nat):Int):=by omega
  have d1:(0:Int)<=(k:Int):=by omega
  have d2:(k:Int)<((encK P w).length:Int):=by omega
  rw[qak,cnd d0,cnd2 d1 d2,tN0,qcL (by omega),bS0];cases k with
  | zero=>rw[cnd' (by omega),qcr (by omega)];rfl
  | succ k =>
   have hne:¬ (lkF P w (k+1)).1=(f:Int):=by
    rw[qmF (by omega)];have:=hn k (by omega) (by omega);show ¬ ((P[k].1:Nat):Int)=_;omega
   rw[cnd (by omega),cnd' hne,qcr (by omega)];rfl) (by
  intro g;have d0:((i+1:Nat):Int)<((P.length+1:Nat):Int):=by omega
  have d1:(0:Int)<=((i+1:Nat):Int):=by omega
  have d2:((i+1:Nat):Int)<((encK P w).length:Int):=by omega
  have he':(lkF P w (i+1)).1=(f:Int):=by rw[qmF hi];show((P[i].1:Nat):Int)=_;omega
  rw[qak,cnd d0,cnd2 d1 d2,tN0,qcL (by omega),bS0,cnd (by omega),cnd he'])
 have key:lp qak K0 (((f:Int),((P.length+1:Nat):Int),0,()),((encK P w,()),()))=_:=key;rw[qaP,el,key];rfl
theorem quH {P:List AP} {w:Nat->Rat} {f:Nat} (hn:∀ p∈P,p.1≠f) (hl:P.length<=1000000):qaP (f:Int) (encK P w)=some (0,encK P w):=by
 have el:=qcc P w;have key:=qji (step:=qak) (fun k=>(((f:Int),((P.length+1:Nat):Int),(k:Int),()),((encK P w,()),()))) (P.length+1) (r:=.inl ((),((encK P w,()),()))) (by omega) (by
  intro g k hk;have d0:(k:Int)<((P.length+1:Nat):Int):=by omega
  have d1:(0:Int)<=(k:Int):=by omega
  have d2:(k:Int)<((encK P w).length:Int):=by omega
  rw[qak,cnd d0,cnd2 d1 d2,tN0,qcL (by omega),bS0];cases k with
  | zero=>rw[cnd' (by omega),qcr (by omega)];rfl
  | succ k =>
   have hne:¬ (lkF P w (k+1)).1=(f:Int):=by
    rw[qmF (by omega)];have:=hn P[k] (gM0 (by omega));show ¬ ((P[k].1:Nat):Int)=_;omega
   rw[cnd (by omega),cnd' hne,qcr (by omega)];rfl) (by
  intro g;rw[qak,cnd' (by omega)])
 have key:lp qak K0 (((f:Int),((P.length+1:Nat):Int),0,()),((encK P w,()),()))=_:=key;rw[qaP,el,key];rfl
theorem qvC {P:List AP} {w:Nat->Rat} (hl:P.length<=1000000):qbo (encK P w)=some (encW P,encK P w):=by
 have el:=qcc P w;have key:=qji (step:=qaz) (fun k=>((encW (P.take (k-1)),((P.length+1:Nat):Int),(k:Int),()),((encK P w,()),()))) (P.length+1) (r:=((encW P,()),((encK P w,()),()))) (by omega) (by
  intro g k hk;have d0:(k:Int)<((P.length+1:Nat):Int):=by omega
  have d1:(0:Int)<=(k:Int):=by omega
  have d2:(k:Int)<((encK P w).length:Int):=by omega
  rw[qaz,cnd d0,cnd2 d1 d2,tN0,qcL (by omega),bS0];cases k with
  | zero=>rw[cnd' (by omega),qcr (by omega)];rfl
  | succ k =>
   have hk':k<P.length:=by omega
   have e:encW (P.take (k+1))=encW (P.take k)++[((lkF P w (k+1)).1,(lkF P w (k+1)).2.1,(lkF P w (k+1)).2.2.1)]:=by
    rw[qmF hk'];exact qmD encP hk'
   rw[cnd (by omega),blt (by rw[qx5,List.length_take];omega),cond_true,qcr (by omega)];show g ((encW (P.take k)++_,_,_,_),_)=g ((encW (P.take (k+1)),_,_,_),_);rw[e];rfl) (by
  intro g;rw[qaz,cnd' (by omega),Nat.add_sub_cancel,List.take_of_length_le (Nat.le_refl _)])
 have key:lp qaz K0 (([],((P.length+1:Nat):Int),0,()),((encK P w,()),()))=_:=key;rw[qbo,el,key];rfl
theorem qpd {a b:Nat} (ha:a<1000000) (hb:b<1000000):qc4 (a:Int) (b:Int)=some (canQ ((a:Rat)/(b:Rat))):=by
 have:=qqI (n:=(a:Int)) (d:=(b:Int)) (by omega) (by omega) (by omega) (by omega);rw[this];rfl
theorem qns {a b:Nat} (ha:a<1000000) (hb:b<1000000):SzQ ((a:Rat)/(b:Rat)) 2:=by
 have h:∀ {n:Nat},n<1000000->SzQ (n:Rat) 1:=fun {n} hn=>by
  have:=SzQ.int (z:=(n:Int)) (by omega);exact this
 exact(h ha).div (h hb)
theorem qwe (b:Bool):SzQ (one0 b) 1:=by cases b;exact SzQ.zero;exact SzQ.one
def ekS (k:Nat):Nat->Nat
 | 0=>1
 | n+1=>2*ekS k n+k+2
theorem quw (k:Nat) {n m:Nat} (h:n<=m):ekS k n<=ekS k m:=by
 induction h with
 | refl=>exact Nat.le_refl _
 | step _ ih=>simp only[ekS];omega
theorem qux {k n:Nat} (hk:k<=70) (hn:n<=20):ekS k n<=76546048:=by
 have h1:=quw k hn;have h2:ekS k 20<=ekS 70 20:=by
  have:∀ n,ekS k n<=ekS 70 n:=by
   intro n
   induction n with
   | zero=>exact Nat.le_refl _
   | succ n ih=>simp only[ekS];omega
  exact this 20
 have h3:ekS 70 20<=76546048:=by decide +kernel
 omega
theorem qyM {P:List AP} {k:Nat} (h:ASz P k):∀ i,SzQ (ekP P i) (ekS k P.length):=by
 induction P with
 | nil =>
  intro i;show SzQ (if i=0 then (1:Rat) else 0) 1;split
  · exact SzQ.one
  · exact SzQ.zero
 | cons p P ih =>
  intro i;have h1:SzQ p.2.1 k:=h p List.mem_cons_self;have ih:=ih fun x hx=>h x (List.mem_cons_of_mem _ hx)
  show SzQ (mulF (fcP p) (ekP P) i) _;unfold mulF;have a:SzQ ((fcP p).1*ekP P i) (k+ekS k P.length):=h1.mul (ih i);have b:SzQ (if i=0 then 0 else (fcP p).2*ekP P (i-1)) (1+ekS k P.length):=by
    split
    · exact SzQ.zero.mono (by omega)
    · exact(qwe p.2.2).mul (ih _)
  exact(a.add b).mono (by simp only[List.length_cons,ekS];omega)
theorem qtV {P:List AP} {k:Nat} (h:ASz P k) (hl:P.length<=20) {i:Nat} (hi:i<=P.length):SzQ (wtP P i) (30+ekS k P.length) :=
 (qxg (by omega) (by omega)).mul (qyM h i)
def extW (P:List AP) (p:AP) (i:Nat) (j:Nat):Rat :=
 if j<i then wtP P j else if j=i then (if j=P.length+1 then 0 else (p.2.1*wtP P j)*(((P.length+1-j:Nat):Rat)/((P.length+1+1:Nat):Rat))) else wtP (P++[p]) j
theorem qqh {P:List AP} {p:AP} {j:Nat} (hj:j<=P.length+1):wtP (P++[p]) j =
  (if j=P.length+1 then 0 else (p.2.1*wtP P j)*(((P.length+1-j:Nat):Rat)/((P.length+1+1:Nat):Rat))) +
  (if j=0 then 0 else one0 p.2.2*(wtP P (j-1)*(((j-1+1:Nat):Rat)/((P.length+1+1:Nat):Rat)))):=by
 unfold wtP;rw[qx7,mulF,List.length_append,List.length_singleton];show wq j (P.length+1+1)*(p.2.1*ekP P j+_)=_;have a:(if j=P.length+1 then (0:Rat) else (p.2.1*(wq j (P.length+1)*ekP P j))*(((P.length+1-j:Nat):Rat)/((P.length+1+1:Nat):Rat)))=wq j (P.length+1+1)*(p.2.1*ekP P j):=by
  split
  · rw[qwM P (by omega),Rat.mul_zero,Rat.mul_zero]
  · rw[qqi (i:=j) (n:=P.length+1) (by omega)];grind
 have b:(if j=0 then (0:Rat) else one0 p.2.2*(wq (j-1) (P.length+1)*ekP P (j-1)*(((j-1+1:Nat):Rat)/((P.length+1+1:Nat):Rat))))=wq j (P.length+1+1)*(if j=0 then 0 else (fcP p).2*ekP P (j-1)):=by
  split
  · rw[Rat.mul_zero]
  · have := qvD (i := j - 1) (n := P.length + 1) (by omega);rw[show j-1+1=j by omega] at this;rw[this,show j-1+1=j by omega];show one0 p.2.2*_=_*(one0 p.2.2*_)
    grind
 rw[a,b];grind
def qcq (P:List AP) (a:Nat):List AP:=P.take a++P.drop (a+1)
theorem qfk {P:List AP} {a:Nat} (h:a<P.length):(qcq P a).length+1=P.length:=by simp [qcq];omega
theorem qpV {P:List AP} {a:Nat} (h:a<P.length):P.Perm (P[a]::qcq P a):=by
 have e:P=P.take a++P[a]::P.drop (a+1):=by rw[<- List.drop_eq_getElem_cons h,List.take_append_drop]
 have:(P.take a++P[a]::P.drop (a+1)).Perm (P[a]::(P.take a++P.drop (a+1))):=List.perm_middle;exact(List.Perm.of_eq e).trans this
theorem qoW {P:List AP} {a:Nat}:∀ p∈qcq P a,p∈P:=fun p hp=>by
 rcases List.mem_append.1 hp with h | h
 · exact List.mem_of_mem_take h
 · exact List.mem_of_mem_drop h
theorem qq5 {P:List AP} {a:Nat} (h:a<P.length) (k:Nat):ekP P k=P[a].2.1*ekP (qcq P a) k+(if k=0 then 0 else one0 P[a].2.2*ekP (qcq P a) (k-1)):=by
 rw[quy (qpV h)];rfl
theorem qnB.out {P:List AP} {k g:Nat} (h:qnB P k g) {a:Nat} (ha:a<P.length):qnB (qcq P a) k g:=by
 have hp:=(qpV ha).map (·.1);have hn:=hp.nodup_iff.1 h.nd;exact⟨(List.nodup_cons.1 hn).2,fun p hp=>h.sz p (qoW p hp),by have:=qfk ha;have:=h.len;omega,fun p hp=>h.lt p (qoW p hp),fun p hp=>h.pos p (qoW p hp)⟩
theorem qzY {P:List AP} {a i:Nat} (ha:a<P.length) (hi:i<P.length) (hz:P[a].2.1≠0) (hok:P[a].2.2=false) :
  wtP P i*(((P.length+1:Nat):Rat)/((P.length-i:Nat):Rat))*P[a].2.1⁻¹=wtP (qcq P a) i:=by
 have hl:=qfk ha;unfold wtP;rw[qq5 ha,hok,qqi (i:=i) (n:=P.length) hi,show(qcq P a).length+1=P.length by omega];have n1:=qnl (show 0<P.length-i by omega);have n2:=qnl (show 0<P.length+1 by omega);generalize wq i P.length=x;generalize ekP (qcq P a) i=y;generalize ekP (qcq P a) (i-1)=y2;generalize ((P.length-i:Nat):Rat)=u at *;generalize ((P.length+1:Nat):Rat)=v at *;generalize P[a].2.1=z at *;simp only[one0,Bool.false_eq_true,if_false,Rat.zero_mul,ite_self,Rat.add_zero]
 grind
def nxP (P:List AP) (a i:Nat):Rat:=wq (i+1) (P.length+1)*ekP (qcq P a) i
theorem qzn {P:List AP} {a i:Nat} (ha:a<P.length) (hi:i<P.length):nxP P a i*(((P.length+1:Nat):Rat)/((i+1:Nat):Rat))=wtP (qcq P a) i:=by
 have hl:=qfk ha;unfold wtP nxP;rw[qvD (i:=i) (n:=P.length) hi,show(qcq P a).length+1=P.length by omega];have n1:=qnl (show 0<i+1 by omega);have n2:=qnl (show 0<P.length+1 by omega);generalize wq i P.length=x;generalize ekP (qcq P a) i=y;generalize ((i+1:Nat):Rat)=u at *;generalize ((P.length+1:Nat):Rat)=v at *
 grind
theorem qxK {P:List AP} {a i:Nat} (ha:a<P.length) (hi:i<P.length) (hok:P[a].2.2=true) :
  wtP P i-wtP (qcq P a) i*P[a].2.1*(((P.length-i:Nat):Rat)/((P.length+1:Nat):Rat))=if i=0 then 0 else nxP P a (i-1):=by
 have hl:=qfk ha;unfold wtP nxP;rw[qq5 ha,hok,qqi (i:=i) (n:=P.length) hi,show(qcq P a).length+1=P.length by omega];cases i with
 | zero =>
  simp only[if_true];generalize wq 0 P.length=x;generalize ekP (qcq P a) 0=y;generalize P[a].2.1=z at *
  grind
 | succ i =>
  rw[if_neg (by omega),if_neg (by omega),Nat.add_sub_cancel,qqi (i:=i+1) (n:=P.length) hi];generalize wq (i+1) P.length=x;generalize ekP (qcq P a) (i+1)=y;generalize ekP (qcq P a) i=y2;generalize P[a].2.1=z at *;simp only[one0,if_true]
  grind
theorem qzm {P:List AP} {a:Nat} (ha:a<P.length) (hok:P[a].2.2=true):wtP P P.length=nxP P a (P.length-1):=by
 have hl:=qfk ha;unfold wtP nxP;rw[qq5 ha,hok,qwM (qcq P a) (by omega),if_neg (by omega),show P.length-1+1=P.length by omega];simp only[one0,if_true]
 grind
theorem qAg {P:List AP} {k g a:Nat} (h:qnB P k g) (ha:a<P.length) (hk:k<=70) {i:Nat} (hi:i<P.length):SzQ (nxP P a i) 100000000:=by
 have hl:=qfk ha;have h2:=h.out ha;have hS:=qux (k:=k) (n:=(qcq P a).length) hk h2.len;have:=h.len;exact((qxg (s:=i+1) (n:=P.length+1) (by omega) (by omega)).mul (qyM h2.sz i)).mono (by omega)
def bkL (n i:Nat) (w:Nat->Rat):List RAT:=(List.range n).map fun j=>if i<=j then canQ (w j) else zR
theorem qk2 (n i:Nat) (w:Nat->Rat):(bkL n i w).length=n:=by simp [bkL]
theorem qpo {n i j:Nat} (w:Nat->Rat) (h:j<n):(bkL n i w)[j]?=some (if i<=j then canQ (w j) else zR):=by simp [bkL,h]
theorem qzK {n i:Nat} (w:Nat->Rat):(bkL n (i+1) w).set i (canQ (w i))=bkL n i w:=by
 refine List.ext_getElem? fun j=>?_
 rw[List.getElem?_set];by_cases e:i=j
 · subst e;by_cases hi:i<n
   · rw[if_pos rfl,if_pos (by rw[qk2];exact hi),qpo w hi,if_pos (Nat.le_refl _)]
   · rw[if_pos rfl,if_neg (by rw[qk2];exact hi),List.getElem?_eq_none (by rw[qk2];omega)]
 · rw [if_neg e];by_cases hj:j<n
   · rw [qpo w hj, qpo w hj];by_cases h:i<=j
     · rw[if_pos (by omega),if_pos h]
     · rw[if_neg (by omega),if_neg h]
   · rw[List.getElem?_eq_none (by rw[qk2];omega),List.getElem?_eq_none (by rw[qk2];omega)]
theorem qyk (n:Nat) (w:Nat->Rat):bkL n n w=List.replicate n zR:=by
 rw[List.eq_replicate_iff];refine⟨qk2 _ _ _,fun x hx=>?_⟩;obtain⟨j,hj,rfl⟩:=List.mem_map.1 hx;have:=List.mem_range.1 hj;exact if_neg (by omega)
theorem qzL (n:Nat) (w:Nat->Rat):bkL n 0 w=flo n w:=List.map_congr_left fun j _=>if_pos (Nat.zero_le _)
theorem quK {P:List AP} {k g:Nat} (h:qnB P k g) (hk:k<=70) {a:Nat} (ha:a<P.length) :
  qbr ((a+1:Nat):Int) (encK P (wtP P))=some (flo P.length (wtP (qcq P a)),encK P (wtP P)):=by
 have hl:=qfk ha;have hl2:=h.len;have el:=qcc P (wtP P);obtain⟨n,en⟩:∃ n,n=P.length:=⟨_,rfl⟩;have hS:=qux (k:=k) (n:=P.length) hk (by omega);have wsz:∀ i,i<=P.length->SzQ (wtP P i) 100000000:=fun i hi=>(qtV h.sz hl2 hi).mono (by omega)
 have hQ:=h.out ha;have hS2:=qux (k:=k) (n:=(qcq P a).length) hk hQ.len;have qsz:∀ i,i<P.length->SzQ (wtP (qcq P a) i) 100000000:=fun i hi=>(qtV hQ.sz hQ.len (by omega)).mono (by omega)
 have hz:SzQ P[a].2.1 k:=h.sz _ (gM0 ha);have hpos:=h.pos _ (gM0 ha);have hz0:P[a].2.1≠0:=by intro e;rw[e] at hpos;exact absurd hpos (by decide)
 obtain⟨L,eL⟩:∃ L,L=lkF P (wtP P) (a+1):=⟨_,rfl⟩;have eL':=eL;rw[qmF ha] at eL';have L1:L.2.1=canQ P[a].2.1:=by rw[eL']
 have L2:L.2.2.1=P[a].2.2:=by rw[eL']
 obtain⟨nx,hnx⟩:∃ nx:Nat->Rat,nx=fun m=>if P[a].2.2 then (if m<n then nxP P a (n-1-m) else 0) else wtP P n:=⟨_,rfl⟩
 obtain⟨ov,hov⟩:∃ ov:Rat,ov=P[a].2.1⁻¹:=⟨_,rfl⟩;have pn1:iadd .i64 ((n:Nat):Int) 1=((n+1:Nat):Int):=qcr (by omega);have key:=qji (step:=qan) (fun m=>(((n:Int),bkL n (n-m) (wtP (qcq P a)),((n:Nat):Int)-1-(m:Int),()),((L.1,L.2.1.1.1,L.2.1.1.2,L.2.1.2,L.2.2.1,L.2.2.2.1.1,L.2.2.2.1.2,L.2.2.2.2,()),((canQ ov).1.1,(canQ ov).1.2,(canQ ov).2,()),((canQ (nx m)).1.1,(canQ (nx m)).1.2,(canQ (nx m)).2,()),(encK P (wtP P),()),()))) n
  (r:=((bkL n 0 (wtP (qcq P a)),()),((encK P (wtP P),()),()))) (by omega) (by
  intro g m hm;obtain⟨i,hi⟩:∃ i,n=i+m+1:=⟨n-m-1,by omega⟩;have ei:((n:Nat):Int)-1-(m:Int)=(i:Int):=by omega
  have ei2:((n:Nat):Int)-1-((m+1:Nat):Int)=(i:Int)-1:=by omega
  have en1:n-m=i+1:=by omega
  have en2:n-(m+1)=i:=by omega
  have d0:((i:Nat):Int)>=0:=by omega
  have d1:(0:Int)<=(i:Int):=by omega
  have d2:(i:Int)<((encK P (wtP P)).length:Int):=by rw[el];omega
  have d3:(i:Int)<((bkL n (i+1) (wtP (qcq P a))).length:Int):=by rw[qk2];omega
  have g1:=qcL (P:=P) (w:=wtP P) (i:=i) (by omega);have g2:=qpo (n:=n) (i:=i+1) (j:=i) (wtP (qcq P a)) (by omega);have q2:isub .i64 (n:Int) (i:Int)=((n-i:Nat):Int):=by rw[qcg (by omega) (by omega)];omega
  have q3:isub .i64 (i:Int) 1=(i:Int)-1:=by rw[qcg (by omega) (by omega)]
  have q1:iadd .i64 (i:Int) 1=((i+1:Nat):Int):=qcr (by omega);have hset:=qzK (n:=n) (i:=i) (wtP (qcq P a));show qan g (((n:Int),bkL n (n-m) (wtP (qcq P a)),((n:Nat):Int)-1-(m:Int),()),((L.1,L.2.1.1.1,L.2.1.1.2,L.2.1.2,L.2.2.1,L.2.2.2.1.1,L.2.2.2.1.2,L.2.2.2.2,()),((canQ ov).1.1,(canQ ov).1.2,(canQ ov).2,()),((canQ (nx m)).1.1,(canQ (nx m)).1.2,(canQ (nx m)).2,()),(encK P (wtP P),()),()))=g (((n:Int),bkL n (n-(m+1)) (wtP (qcq P a)),((n:Nat):Int)-1-((m+1:Nat):Int),()),((L.1,L.2.1.1.1,L.2.1.1.2,L.2.1.2,L.2.2.1,L.2.2.2.1.1,L.2.2.2.1.2,L.2.2.2.2,()),((canQ ov).1.1,(canQ ov).1.2,(canQ ov).2,()),((canQ (nx (m+1))).1.1,(canQ (nx (m+1))).1.2,(canQ (nx (m+1))).2,()),(encK P (wtP P),()),()));rw[ei,ei2,en1,en2,qan,cnd d0,L2];cases hok:P[a].2.2 with
  | false =>
   have f1:=qpd (a:=n+1) (b:=n-i) (by omega) (by omega);have s1:=qns (a:=n+1) (b:=n-i) (by omega) (by omega);have hw:=wsz i (by omega);have m1:=qcN (hw.sm (by decide)) (s1.sm (by decide));rw[qbJ,qbJ] at m1;have z1:SzQ (wtP P i*(((n+1:Nat):Rat)/((n-i:Nat):Rat))) 200000000:=(hw.mul s1).mono (by omega);have hi2:SzQ ov k:=by rw[hov];exact hz.inv
   have m2:=qcN (z1.sm (by decide)) (hi2.sm (by omega));rw[qbJ,qbJ] at m2;have m2:qay (canQ (wtP P i*(((n+1:Nat):Rat)/((n-i:Nat):Rat)))) (((canQ ov).1.1,(canQ ov).1.2),(canQ ov).2)=_:=m2;have e1:=qzY ha (i:=i) (by omega) hz0 hok;rw[<- en,<- hov] at e1;have e2:nx (m+1)=nx m:=by rw[hnx];simp only[hok,Bool.false_eq_true,if_false]
   rw[Bool.not_false,cond_true,cnd2 d1 d2,tN0,g1,bS0,pn1,q2,f1,bS0,qvj,m1,bS0,m2,bS0,cnd2 d1 d3,g2,bS0,e1,hset,q3,e2]
  | true =>
   have f1:=qpd (a:=n+1) (b:=i+1) (by omega) (by omega);have s1:=qns (a:=n+1) (b:=i+1) (by omega) (by omega);have enx:nx m=nxP P a i:=by rw[hnx];simp only[hok,if_true];rw[if_pos hm,show n-1-m=i by omega]
   have nsz:=qAg h ha hk (i:=i) (by omega);have m1:=qcN (nsz.sm (by decide)) (s1.sm (by decide));rw[qbJ,qbJ] at m1;have e1:=qzn ha (i:=i) (by omega);rw[<- en] at e1;rw[e1] at m1;have m1:qay (((canQ (nxP P a i)).1.1,(canQ (nxP P a i)).1.2),(canQ (nxP P a i)).2) (canQ (((n+1:Nat):Rat)/((i+1:Nat):Rat)))=some (canQ (wtP (qcq P a) i)):=m1;have d4:(i:Int)<((bkL n i (wtP (qcq P a))).length:Int):=by rw[qk2];omega
   have g3:=qpo (n:=n) (i:=i) (j:=i) (wtP (qcq P a)) (by omega);rw[if_pos (Nat.le_refl _)] at g3;have hq:=qsz i (by omega);have m2:=qcN (hq.sm (by decide)) (hz.sm (by omega));rw[qbJ,qbJ] at m2;have m2:qay (canQ (wtP (qcq P a) i)) ((L.2.1.1.1,L.2.1.1.2),L.2.1.2)=some (canQ (wtP (qcq P a) i*P[a].2.1)):=by
    show qay _ L.2.1=_;rw[L1];exact m2
   have f2:=qpd (a:=n-i) (b:=n+1) (by omega) (by omega);have s2:=qns (a:=n-i) (b:=n+1) (by omega) (by omega);have z2:SzQ (wtP (qcq P a) i*P[a].2.1) 200000000:=(hq.mul hz).mono (by omega);have m3:=qcN (z2.sm (by decide)) (s2.sm (by decide));rw[qbJ,qbJ] at m3;have z3:SzQ (wtP (qcq P a) i*P[a].2.1*(((n-i:Nat):Rat)/((n+1:Nat):Rat))) 300000000:=(z2.mul s2).mono (by omega);have hw:=wsz i (by omega);have m4:=qrD (hw.sm (by decide)) (z3.sm (by decide));rw[qbJ,qbJ] at m4;have e2:=qxK ha (i:=i) (by omega) hok;rw[<- en] at e2;rw[e2] at m4;have e3:nx (m+1)=if i=0 then 0 else nxP P a (i-1):=by
    rw[hnx];simp only[hok,if_true];by_cases h0:i=0
    · rw[if_neg (by omega),if_pos h0]
    · rw[if_pos (by omega),if_neg h0,show n-1-(m+1)=i-1 by omega]
   rw[Bool.not_true,cond_false,pn1,q1,f1,bS0,enx,m1,bS0,cnd2 d1 d3,tN0,g2,bS0,cnd2 d1 d2,g1,bS0,hset,cnd2 d1 d4,g3,bS0,m2,bS0,q2,f2,bS0,m3,bS0,qvj,m4,bS0,q3,e3]) (by
  intro g;rw[Nat.sub_self,qan,cnd' (by omega)])
 have i1:isub .i64 ((P.length+1:Nat):Int) 1=(n:Int):=by rw[qcg (by omega) (by omega)];omega
 have i2:isub .i64 (n:Int) 1=((n:Nat):Int)-1-((0:Nat):Int):=by rw[qcg (by omega) (by omega)];omega
 have c0:(0:Int)<=((a+1:Nat):Int):=by omega
 have c1:((a+1:Nat):Int)<((P.length+1:Nat):Int):=by omega
 have hinv:=qrJ (hz.sm (by omega));rw[qbJ,if_neg hz0,<- hov] at hinv;have c2:(decide ((n:Int)=(n:Int))&&decide ((0:Int)<=(n:Int))&&decide ((((56:Nat):Int)*(n:Int))<=281474976710656)&&decide ((n:Int)<=9223372036854775807))=true:=by
  simp only[Bool.and_eq_true,decide_eq_true_eq];refine⟨⟨⟨trivial,by omega⟩,?_⟩,by omega⟩;show(56:Int)*(n:Int)<=281474976710656;omega
 have ev:nx 0=wtP P n:=by
  rw[hnx];cases hok:P[a].2.2 with
  | false=>simp
  | true=>simp only[if_true];rw[if_pos (by omega),en,qzm ha hok,Nat.sub_zero]
 have gn:=qcL (P:=P) (w:=wtP P) (i:=n) (by omega);rw[qbr,el,cnd2 c0 c1,tN0,qcL (by omega),bS0,i1,c2,cond_true,<- eL,L1,hinv,bS0,cnd2 (by omega) (by omega),tN0,gn,bS0,i2];dsimp only;rw[qvj,<- ev];have key:lp qan K0 (((n:Int),List.replicate n (((false,[]),[]):RAT),((n:Nat):Int)-1-((0:Nat):Int),()),((L.1,(canQ P[a].2.1).1.1,(canQ P[a].2.1).1.2,(canQ P[a].2.1).2,L.2.2.1,L.2.2.2.1.1,L.2.2.2.1.2,L.2.2.2.2,()),((canQ ov).1.1,(canQ ov).1.2,(canQ ov).2,()),((canQ (nx 0)).1.1,(canQ (nx 0)).1.2,(canQ (nx 0)).2,()),(encK P (wtP P),()),()))=some ((bkL n 0 (wtP (qcq P a)),()),((encK P (wtP P),()),())):=by
  have k2:=key;rw[Nat.sub_zero,qyk,L1] at k2;exact k2
 rw[key,qzL,en];rfl
theorem qx6 {P:List AP} {w:Nat->Rat} {a:Nat} (ha:a<P.length):(encK P w).take (a+1)++(encK P w).drop (a+2)=encK (qcq P a) fun j=>if j<=a then w j else w (j+1):=by
 have el:=qcc P w;have hl:=qfk ha;have ho:∀ j,(qcq P a)[j]?=if j<a then P[j]? else P[j+1]?:=fun j=>by
   unfold qcq;by_cases hj:j<a
   · rw[if_pos hj,List.getElem?_append_left (by rw[List.length_take];omega),List.getElem?_take,if_pos hj]
   · rw [if_neg hj, List.getElem?_append_right (by rw [List.length_take]; omega), List.length_take, Nat.min_eq_left (by omega), List.getElem?_drop];congr 1;omega
 refine List.ext_getElem? fun j=>?_
 by_cases hj:j<a+1
 · rw [List.getElem?_append_left (by rw [List.length_take]; omega), List.getElem?_take, if_pos hj, qcL (by omega), qcL (by omega)];unfold lkF;split
   · rename_i e;subst e;simp
   · have e1 : (qcq P a)[j - 1]? = P[j - 1]? := by rw [ho, if_pos (by omega)]
     have e2:(if j<=a then w j else w (j+1))=w j:=if_pos (by omega);simp only[e1,e2]
 · rw [List.getElem?_append_right (by rw [List.length_take]; omega), List.length_take, Nat.min_eq_left (by omega), List.getElem?_drop, show a + 2 + (j - (a + 1)) = j + 1 by omega];by_cases hj2:j+1<P.length+1
   · rw [qcL hj2, qcL (by omega)];unfold lkF;have e1:(qcq P a)[j-1]?=P[j]?:=by rw[ho,if_neg (by omega)];congr 1;omega
     have e2:(if j<=a then w j else w (j+1))=w (j+1):=if_neg (by omega);rw[if_neg (by omega),if_neg (by omega)];simp only[e1,e2,Nat.add_sub_cancel]
   · rw[List.getElem?_eq_none (by omega),List.getElem?_eq_none (by rw[qcc];omega)]
theorem qw7 {P:List AP} {k g:Nat} (h:qnB P k g) (hk:k<=70) {a:Nat} (ha:a<P.length) :
  qar ((a+1:Nat):Int) (encK P (wtP P))=some (0,encK (qcq P a) (wtP (qcq P a))):=by
 have el:=qcc P (wtP P);have hl2:=h.len;have hl:=qfk ha;obtain⟨Q,eQ⟩:∃ Q,Q=qcq P a:=⟨_,rfl⟩;have eo:=qx6 (w:=wtP P) ha;rw[<- eQ] at eo hl;obtain⟨w0,hw0⟩:∃ w0:Nat->Rat,w0=fun j=>if j<=a then wtP P j else wtP P (j+1):=⟨_,rfl⟩
 rw[<- hw0] at eo;obtain⟨F,eF⟩:∃ F,F=flo P.length (wtP Q):=⟨_,rfl⟩;have lF:F.length=P.length:=by rw[eF,qq1]
 have lQ:∀ w,(encK Q w).length=P.length:=fun w=>by rw[qcc];exact hl
 have key:=qji (step:=qat) (fun i=>((F,encK Q (fun j=>if j<i then wtP Q j else w0 j),((P.length:Nat):Int),(i:Int),()),((encK P (wtP P),()),()))) P.length
  (r:=((encK Q (fun j=>if j<P.length then wtP Q j else w0 j),()),((encK P (wtP P),()),()))) (by omega) (by
  intro gg i hi;have d0:(i:Int)<((P.length:Nat):Int):=by omega
  have d1:(0:Int)<=(i:Int):=by omega
  have d2:(i:Int)<(F.length:Int):=by rw[lF];exact d0
  have d3:(i:Int)<((encK Q (fun j=>if j<i then wtP Q j else w0 j)).length:Int):=by rw[lQ];exact d0
  have g1:F[i]?=some (canQ (wtP Q i)):=by rw[eF];exact qwE _ hi
  have g2:=qcL (P:=Q) (w:=fun j=>if j<i then wtP Q j else w0 j) (i:=i) (by omega);have u:=qoj (P:=Q) (w:=fun j=>if j<i then wtP Q j else w0 j) (i:=i) (wtP Q i);have e:encK Q (fun j=>if j=i then wtP Q i else if j<i then wtP Q j else w0 j)=encK Q (fun j=>if j<i+1 then wtP Q j else w0 j):=by
   refine qgR fun j _=>?_
   by_cases e1:j=i
   · rw[if_pos e1,if_pos (by omega),e1]
   · rw [if_neg e1];by_cases e2:j<i
     · rw[if_pos e2,if_pos (by omega)]
     · rw[if_neg e2,if_neg (by omega)]
  rw[qat,cnd d0,cnd2 d1 d2,tN0,g1,bS0,cnd2 d1 d3,g2,bS0,u,e,qcr (by omega)];rfl) (by
  intro gg;rw[qat,cnd' (by omega)])
 have e0:encK Q (fun j=>if j<0 then wtP Q j else w0 j)=encK Q w0:=qgR fun j _=>if_neg (by omega)
 have e1:encK Q (fun j=>if j<P.length then wtP Q j else w0 j)=encK Q (wtP Q):=qgR fun j hj=>if_pos (by omega)
 rw[e0,e1] at key;have key:lp qat K0 ((F,encK Q w0,((P.length:Nat):Int),0,()),((encK P (wtP P),()),()))=some ((encK Q (wtP Q),()),((encK P (wtP P),()),())):=key;have i1:iadd .i64 ((a+1:Nat):Int) 1=((a+2:Nat):Int):=qcr (by omega);have hw:=quK h hk ha;rw[<- eQ,<- eF] at hw;have t1:(((a+1:Nat):Int)-0).toNat=a+1:=by omega
 have t2:(((a+2:Nat):Int)).toNat=a+2:=by omega
 have c1:(decide ((0:Int)<=((a+1:Nat):Int))&&decide ((((a+1:Nat):Int):Int)<=((a+1:Nat):Int))&&decide ((((a+1:Nat):Int):Int)<=((P.length+1:Nat):Int)))=true:=by
  simp only[Bool.and_eq_true,decide_eq_true_eq];omega
 rw[qar,el,cnd' (by omega),cnd' (by omega),cnd' (by omega),hw,bS0];dsimp only;rw[el,c1,cond_true,t1,blt (by rw[List.length_take,el];simp;omega),cond_true,i1,cnd2 (by omega) (by omega),t2,List.nil_append,blt (by rw[List.length_take,List.length_drop,el];omega),cond_true,eo,lQ,key,eQ];rfl
theorem qwF {P:List AP} {f:Nat}:(∀ p∈P,p.1≠f)\/∃ a,∃ ha:a<P.length,P[a].1=f/\∀ j (hj:j<P.length),j<a->P[j].1≠f:=by
 induction P with
 | nil=>exact .inl (by simp)
 | cons p P ih =>
  by_cases e:p.1=f
  · exact .inr ⟨0,by simp,e,fun j _ hj=>by omega⟩
  · rcases ih with h | ⟨a, ha, h1, h2⟩
    · exact .inl fun x hx=>by rcases List.mem_cons.1 hx with rfl | hx;exact e;exact h x hx
    · refine .inr ⟨a + 1, by simpa using ha, by simpa using h1, fun j hj hja => ?_⟩;cases j with
      | zero=>exact e
      | succ j=>simpa using h2 j (by simpa using hj) (by omega)
theorem qnB.snoc {P:List AP} {k g:Nat} (h:qnB P k g) {f:Nat} {q:Rat} {ok:Bool} (hf:∀ p∈P,p.1≠f) (hq:SzQ q k) (hq0:0<q) (hl:P.length<20) (hfg:f<g):qnB (P++[(f,q,ok)]) k g:=by
 have hp:(P++[((f,q,ok):AP)]).Perm ((f,q,ok)::P):=List.perm_append_comm.trans (List.Perm.refl _);have hmem:∀ p∈P++[((f,q,ok):AP)],p=(f,q,ok)\/p∈P:=fun p hp=>by
   rcases List.mem_append.1 hp with h | h
   · exact .inr h
   · exact .inl (List.mem_singleton.1 h)
 refine⟨?_,fun p hp=>?_,by rw[List.length_append];simp;omega,fun p hp=>?_,fun p hp=>?_⟩
 · rw [(hp.map (·.1)).nodup_iff];refine List.nodup_cons.2 ⟨fun hm=>?_,h.nd⟩;obtain⟨p,hp,e⟩:=List.mem_map.1 hm;exact hf p hp e
 · rcases hmem p hp with rfl | h'
   · exact hq
   · exact h.sz p h'
 · rcases hmem p hp with rfl | h'
   · exact hfg
   · exact h.lt p h'
 · rcases hmem p hp with rfl | h'
   · exact hq0
   · exact h.pos p h'
theorem ekS8 {k n:Nat} (hk:k<=70) (hn:n<=8):ekS k n<=20000:=by
 have h1:=quw k hn;have h2:ekS k 8<=ekS 70 8:=by
  have:∀ n,ekS k n<=ekS 70 n:=by
   intro n
   induction n with
   | zero=>exact Nat.le_refl _
   | succ n ih=>simp only[ekS];omega
  exact this 8
 have h3:ekS 70 8<=20000:=by decide +kernel
 omega
theorem qxv {f:Nat->Rat} {k:Nat}:∀ n,(∀ i,i<n->SzQ (f i) k)->SzQ (rsum f n) (1+n*(k+1)):=by
 intro n
 induction n with
 | zero=>intro _;exact SzQ.zero.mono (by omega)
 | succ n ih =>
  intro h;have h1:=ih fun i hi=>h i (by omega)
  have e:(n+1)*(k+1)=n*(k+1)+(k+1):=Nat.succ_mul _ _;exact(h1.add (h n (by omega))).mono (by omega)
theorem qpF:qcw=some true:=by decide +kernel
theorem qx2 {n k:Nat} {o:Nat->Rat} (ho:∀ f,f<n->SzQ (o f) k) (hk:k<91625968980) (hn:n<=1000000):qc5 (flo n o) (flo n o)=some true:=by
 refine qyu (n:=k) (m:=k) hk hk (fun x hx=>?_) rfl (by rw[qq1];omega) (fun i hi hi'=>?_)
 · obtain ⟨f, hf, rfl⟩ := List.mem_map.1 hx;exact(ho f (List.mem_range.1 hf)).szR
 · rw [qq1] at hi;have:=qwE o hi;rw[gE0 hi'] at this;have e:=Option.some.inj this;exact⟨_,ho i hi,e,by rw[e,qbJ]⟩
theorem qqf {P:List AP} {k g:Nat} (h:qnB P k g) {f:Nat} {q:Rat} {ok:Bool} {y:RAT} (hy:Sm y) (ey:rv y=q) (hf:∀ p∈P,p.1≠f) (hq:SzQ q k) (hq0:0<q) (hk:k<=70) (hl:P.length<20) :
  qae (f:Int) y ok (encK P (wtP P))=some (0,encK (P++[(f,q,ok)]) (wtP (P++[(f,q,ok)]))):=by
 obtain⟨p,ep⟩:∃ p:AP,p=(f,q,ok):=⟨_,rfl⟩;have hl2:=h.len;have el:=qcc P (wtP P);have hS:=qux (k:=k) (n:=P.length) hk (by omega);have wsz:∀ i,i<=P.length->SzQ (wtP P i) 100000000:=fun i hi=>(qtV h.sz hl2 hi).mono (by omega)
 obtain⟨N,eN⟩:∃ N,N=P.length+1:=⟨_,rfl⟩;have hsnoc:=qwL P (wtP P) p 0;have e0:encK (P++[p]) (fun j=>if j=P.length+1 then 0 else wtP P j)=encK (P++[p]) (extW P p N):=by
  refine qgR fun j hj=>?_
  simp only[List.length_append,List.length_singleton] at hj;show(if j=P.length+1 then 0 else wtP P j)=extW P p N j;unfold extW;by_cases e:j=P.length+1
  · rw[if_pos e,if_neg (by omega),if_pos (by omega),if_pos e]
  · rw[if_neg e,if_pos (by omega)]
 have ell:∀ w,(encK (P++[p]) w).length=N+1:=fun w=>by rw[qcc,List.length_append];simp [eN]
 have pn1:iadd .i64 ((N:Nat):Int) 1=((N+1:Nat):Int):=qcr (by omega);have key:=qji (step:=qao) (fun m=>((ok,(N:Int),((N:Nat):Int)-1-(m:Int),()),((y.1.1,y.1.2,y.2,()),(encK (P++[p]) (extW P p (N-m)),()),()))) N
  (r:=((),((encK (P++[p]) (extW P p 0),()),()))) (by omega) (by
  intro g m hm;obtain⟨i,hi⟩:∃ i,N=i+m+1:=⟨N-m-1,by omega⟩;have ei:((N:Nat):Int)-1-(m:Int)=(i:Int):=by omega
  have ei2:((N:Nat):Int)-1-((m+1:Nat):Int)=(i:Int)-1:=by omega
  have en1:N-m=i+1:=by omega
  have en2:N-(m+1)=i:=by omega
  have hiN:i<N:=by omega
  have d0:((i:Nat):Int)>=0:=by omega
  have d1:(0:Int)<=(i:Int):=by omega
  have d2:(i:Int)<((encK (P++[p]) (extW P p (i+1))).length:Int):=by rw[ell];omega
  have g1:=qcL (P:=P++[p]) (w:=extW P p (i+1)) (i:=i) (by rw[List.length_append];simp;omega);have wi:(lkF (P++[p]) (extW P p (i+1)) i).2.2.2=canQ (wtP P i):=by rw[qvj,extW,if_pos (by omega)]
  have hw:=wsz i (by omega);have q1:iadd .i64 (i:Int) 1=((i+1:Nat):Int):=qcr (by omega);have q2:isub .i64 (N:Int) (i:Int)=((N-i:Nat):Int):=by rw[qcg (by omega) (by omega)];omega
  have q3:isub .i64 (i:Int) 1=(i:Int)-1:=by rw[qcg (by omega) (by omega)]
  have f1:=qpd (a:=i+1) (b:=N+1) (by omega) (by omega);have f2:=qpd (a:=N-i) (b:=N+1) (by omega) (by omega);have s1:=qns (a:=i+1) (b:=N+1) (by omega) (by omega);have s2:=qns (a:=N-i) (b:=N+1) (by omega) (by omega);have m1:=qcN hy (hw.sm (by decide));rw[ey,qbJ] at m1;have m1:qay ((y.1.1,y.1.2),y.2) (canQ (wtP P i))=some (canQ (q*wtP P i)):=m1;have z1:SzQ (q*wtP P i) 200000000:=(hq.mul hw).mono (by omega);have m2:=qcN (z1.sm (by decide)) (s2.sm (by decide));rw[qbJ,qbJ] at m2;have fin0:extW P p i i=q*wtP P i*(((N-i:Nat):Rat)/((N+1:Nat):Rat)):=by
    rw[extW,if_neg (by omega),if_pos rfl,if_neg (by omega),ep,eN]
  show qao g ((ok,(N:Int),((N:Nat):Int)-1-(m:Int),()),((y.1.1,y.1.2,y.2,()),(encK (P++[p]) (extW P p (N-m)),()),()))=g ((ok,(N:Int),((N:Nat):Int)-1-((m+1:Nat):Int),()),((y.1.1,y.1.2,y.2,()),(encK (P++[p]) (extW P p (N-(m+1))),()),()));rw[ei,ei2,en1,en2,qao,cnd d0,cnd2 d1 d2,tN0,g1,bS0,wi];cases hok:ok with
  | true =>
    have a1:(0:Int)<=((i+1:Nat):Int):=by omega
    have a2:((i+1:Nat):Int)<((encK (P++[p]) (extW P p (i+1))).length:Int):=by rw[ell];omega
    have g2:=qcL (P:=P++[p]) (w:=extW P p (i+1)) (i:=i+1) (by rw[List.length_append];simp;omega);have m3:=qcN (hw.sm (by decide)) (s1.sm (by decide));rw[qbJ,qbJ] at m3;have z3:SzQ (wtP P i*(((i+1:Nat):Rat)/((N+1:Nat):Rat))) 200000000:=(hw.mul s1).mono (by omega);have z4:SzQ (extW P p (i+1) (i+1)) 400000000:=by
     rw[extW,if_neg (by omega),if_pos rfl];split
     · exact SzQ.zero.mono (by decide)
     · have hw' := wsz (i + 1) (by omega);have s3:=qns (a:=P.length+1-(i+1)) (b:=P.length+1+1) (by omega) (by omega);rw[ep];exact((hq.mul hw').mul s3).mono (by omega)
    have m4:=qjY (z4.sm (by decide)) (z3.sm (by decide));rw[qbJ,qbJ] at m4;have fin1:extW P p (i+1) (i+1)+wtP P i*(((i+1:Nat):Rat)/((N+1:Nat):Rat))=extW P p i (i+1):=by
     have hs:=qqh (P:=P) (p:=p) (j:=i+1) (by omega);rw[if_neg (show ¬ i+1=0 by omega),Nat.add_sub_cancel,show one0 p.2.2=1 by rw[ep,hok];rfl,Rat.one_mul] at hs;have e1:extW P p i (i+1)=wtP (P++[p]) (i+1):=by rw[extW,if_neg (by omega),if_neg (by omega)]
     have e2:extW P p (i+1) (i+1)=if i+1=P.length+1 then 0 else (p.2.1*wtP P (i+1))*(((P.length+1-(i+1):Nat):Rat)/((P.length+1+1:Nat):Rat)):=by rw[extW,if_neg (by omega),if_pos rfl]
     rw[e1,e2,hs,eN]
    have u1:=qoj (P:=P++[p]) (w:=extW P p (i+1)) (i:=i+1) (extW P p i (i+1));have d3:(i:Int)<(((encK (P++[p]) (fun j=>if j=i+1 then extW P p i (i+1) else extW P p (i+1) j))).length:Int):=by rw[ell];omega
    have g3:=qcL (P:=P++[p]) (w:=fun j=>if j=i+1 then extW P p i (i+1) else extW P p (i+1) j) (i:=i) (by rw[List.length_append];simp;omega);have u2:=qoj (P:=P++[p]) (w:=fun j=>if j=i+1 then extW P p i (i+1) else extW P p (i+1) j) (i:=i) (extW P p i i);rw[cond_true,q1,cnd2 a1 a2,tN0,g2,bS0,pn1,f1,bS0,m3,bS0,qvj,m4,bS0,fin1,cnd2 a1 a2,bS0,m1,bS0,q2,f2,bS0,m2,bS0,u1,cnd2 d1 d3,g3,bS0,<- fin0,u2,q3];have:encK (P++[p]) (fun j=>if j=i then extW P p i i else if j=i+1 then extW P p i (i+1) else extW P p (i+1) j)=encK (P++[p]) (extW P p i):=by
     refine qgR fun j hj=>?_
     by_cases e1:j=i
     · rw[if_pos e1,e1]
     · rw [if_neg e1];by_cases e2:j=i+1
       · rw[if_pos e2,e2]
       · rw [if_neg e2];unfold extW;by_cases e3:j<i
         · rw[if_pos (by omega),if_pos e3]
         · rw[if_neg (by omega),if_neg (by omega),if_neg (by omega),if_neg (by omega)]
    rw[this]
  | false =>
    have u2:=qoj (P:=P++[p]) (w:=extW P p (i+1)) (i:=i) (extW P p i i);rw[cond_false,m1,bS0,q2,pn1,f2,bS0,m2,bS0,cnd2 d1 d2,bS0,<- fin0,u2,q3];have:encK (P++[p]) (fun j=>if j=i then extW P p i i else extW P p (i+1) j)=encK (P++[p]) (extW P p i):=by
     refine qgR fun j hj=>?_
     simp only[List.length_append,List.length_singleton] at hj;by_cases e1:j=i
     · rw[if_pos e1,e1]
     · rw [if_neg e1];unfold extW;by_cases e3:j<i
       · rw[if_pos (by omega),if_pos e3]
       · by_cases e2 : j = i + 1
         · subst e2;have hs:=qqh (P:=P) (p:=p) (j:=i+1) (by omega);rw[show one0 p.2.2=0 by rw[ep,hok];rfl,Rat.zero_mul,if_neg (show ¬ i+1=0 by omega),Rat.add_zero] at hs
           rw[if_neg (show ¬ i+1<i+1 by omega),if_pos rfl,if_neg (show ¬ i+1<i by omega),if_neg (show ¬ i+1=i by omega),hs]
         · rw[if_neg (by omega),if_neg e2,if_neg (by omega),if_neg (by omega)]
    rw[this]) (by
  intro g;rw[Nat.sub_self,qao,cnd' (by omega)])
 have efin:encK (P++[p]) (extW P p 0)=encK (P++[p]) (wtP (P++[p])):=by
  refine qgR fun j hj=>?_
  unfold extW;rw[if_neg (by omega)];by_cases e:j=0
  · subst e;have hs:=qqh (P:=P) (p:=p) (j:=0) (by omega);rw[if_pos rfl,Rat.add_zero] at hs;rw[if_pos rfl,hs]
  · rw[if_neg e]
 rw[efin] at key;have qn:isub .i64 ((P.length+1:Nat):Int) 1=((N:Nat):Int)-1-((0:Nat):Int):=by rw[qcg (by omega) (by omega)];omega
 have c0:¬ ((P.length+1:Nat):Int)=0:=by omega
 have hsg:rcmp q 0>0:=qua.2 hq0;have hsign:=qml hy;rw[ey] at hsign;have hcl:=qbH hy;rw[ey] at hcl;rw[qae,el,cnd' c0,cnd' (by omega),quH hf (by omega),bS0];dsimp only;rw[cnd' (by omega),hsign,bS0,cnd' (by omega),hcl,bS0,qiZ,bS0,blt (by rw[el];omega),cond_true];have e1:encK P (wtP P)++[((f:Int),(canQ q,(ok,canQ 0)))]=encK (P++[p]) (extW P p N):=by
  rw[<- e0,<- hsnoc,ep]
 rw[e1,el,qn];have key:lp qao K0 ((ok,((P.length+1:Nat):Int),((N:Nat):Int)-1-((0:Nat):Int),()),((y.1.1,y.1.2,y.2,()),(encK (P++[p]) (extW P p N),()),()))=some ((),(encK (P++[p]) (wtP (P++[p])),()),()):=by
  rw[<- eN];exact key
 rw[key,ep];rfl
structure Sp (l:List PART) (P:List AP):Prop where
 len:l.length=P.length
 get:∀ i (h:i<l.length) (h':i<P.length),l[i].1=(P[i].1:Int)/\rv l[i].2.1=P[i].2.1/\SzR l[i].2.1 3/\l[i].2.2=P[i].2.2
theorem Sp.nil:Sp [] []:=⟨rfl,fun i h=>by cases h⟩
theorem Sp.snoc {l:List PART} {P:List AP} (h:Sp l P) {f:Nat} {y:RAT} {ok:Bool} (hy:SzR y 3):Sp (l++[((f:Int),y,ok)]) (P++[(f,rv y,ok)]):=by
 have hl:=h.len;refine⟨by simp [hl],fun i h1 h2=>?_⟩;by_cases hi:i<l.length
 · rw [List.getElem_append_left hi, List.getElem_append_left (by omega)];exact h.get i hi (by omega)
 · have e : i = l.length := by simp at h1; omega
   subst e;rw[List.getElem_append_right (by omega),List.getElem_append_right (by omega)];simp only[hl,Nat.sub_self,List.getElem_singleton];exact⟨trivial,trivial,hy,trivial⟩
theorem Sp.out {l:List PART} {P:List AP} (h:Sp l P) {a:Nat} (ha:a<P.length):Sp (l.take a++l.drop (a+1)) (qcq P a):=by
 have hl:=h.len;refine⟨by simp [qcq,hl],fun i h1 h2=>?_⟩;unfold qcq at h2 ⊢;by_cases hi:i<a
 · rw [List.getElem_append_left (by simp; omega), List.getElem_append_left (by simp; omega), List.getElem_take, List.getElem_take];exact h.get i (by omega) (by omega)
 · simp only [List.length_append, List.length_take, List.length_drop] at h1 h2;rw[List.getElem_append_right (by simp;omega),List.getElem_append_right (by simp;omega)];simp only[List.getElem_drop,List.length_take];have e1:a+1+(i-min a l.length)=i+1:=by omega
   have e2:a+1+(i-min a P.length)=i+1:=by omega
   simp only[e1,e2];exact h.get (i+1) (by omega) (by omega)
theorem qxD {l:List PART} {f:Int} (h:∀ i (hi:i<l.length),l[i].1≠f) (hl:l.length<=1000000):qaQ l f=some 0:=by
 have key:=qji (step:=qal) (fun i=>((l,f,(i:Int),()),())) l.length (r:=.inl ((),())) (by omega) (by
  intro g i hi;have d0:(i:Int)<(l.length:Int):=by omega
  have d1:(0:Int)<=(i:Int):=by omega
  rw[qal,cnd d0,cnd d1,tN0,gE0 hi,bS0,cnd' (h i hi),qcr (by omega)];rfl) (by
  intro g;rw[qal,cnd' (by omega)])
 have key:lp qal K0 ((l,f,0,()),())=_:=key;rw[qaQ,key];rfl
theorem qv8 {l:List PART} {f:Int} {a:Nat} (ha:a<l.length) (he:l[a].1=f) (h:∀ i (hi:i<l.length),i<a->l[i].1≠f) (hl:l.length<=1000000):qaQ l f=some ((a+1:Nat):Int):=by
 have key:=qji (step:=qal) (fun i=>((l,f,(i:Int),()),())) a (r:=.inr ((((a+1:Nat):Int),()),())) (by omega) (by
  intro g i hi;have d0:(i:Int)<(l.length:Int):=by omega
  have d1:(0:Int)<=(i:Int):=by omega
  rw[qal,cnd d0,cnd d1,tN0,gE0 (by omega),bS0,cnd' (h i (by omega) hi),qcr (by omega)];rfl) (by
  intro g;have d0:(a:Int)<(l.length:Int):=by omega
  have d1:(0:Int)<=(a:Int):=by omega
  rw[qal,cnd d0,cnd d1,tN0,gE0 ha,bS0,cnd he,qcr (by omega)];rfl)
 have key:lp qal K0 ((l,f,0,()),())=_:=key;rw[qaQ,key];rfl
structure Pst (l:List PART) (P:List AP):Prop where
 sp:Sp l P
 path:qnB P 4 9223372036854775808
 six:P.length<=6
theorem Pst.nil:Pst [] []:=by
 refine⟨Sp.nil,⟨List.nodup_nil,?_,by decide,?_,?_⟩,by decide⟩
 · intro p hp;cases hp
 · intro p hp;cases hp
 · intro p hp;cases hp
theorem qvR {l:List PART} {P:List AP} (h:Pst l P) (f:Int) (hf:f<9223372036854775808) (a:Int) (y:RAT) (ok:Bool):∃ l' P',qbg l (0,f,a,(y,ok)) (encK P (wtP P))=some (l',true,encK P' (wtP P'))/\Pst l' P':=by
 have hl:=h.sp.len;have h6:=h.six;have el:=qcc P (wtP P);have c0:¬ ((P.length+1:Nat):Int)=0:=by omega
 obtain⟨z,ez⟩:∃ z,z=cutR 3 y:=⟨_,rfl⟩;have zz:SzR z 3:=by rw[ez];exact qzI 3 y
 have hz:Sm z:=zz.sm (by decide);have hfw:=qyr [((false,y):CELL)] 1 (by simp) (by decide);have hfw:qc6 [((false,y):CELL)] 1=some [((false,z):CELL)]:=by rw[ez];exact hfw
 rw[qbg];dsimp only;rw[cnd' (by decide),show(!decide ((0:Int)=0))=false by decide,cond_false];by_cases hsix:(l.length:Int)>=6
 · rw [cnd hsix];exact⟨_,_,rfl,h⟩
 rw[cnd' hsix,hfw,bS0,cnd (show(0:Int)<(([((false,z):CELL)].length:Nat):Int) by simp)];show ∃ l' P',((qae f z ok (encK P (wtP P))).bind fun r5=>bif (decide (f<0)) then (some (l,(decide (r5.1=1)),r5.2)) else ((qaQ l f).bind fun r6=>bif (decide (r6>0)) then (some (l,(decide (r5.1=1)),r5.2)) else ((qfD z).bind fun r7=>bif (decide (r7<=0)) then (some (l,(decide (r5.1=8)),r5.2)) else (bif Nat.ble ((([]:List PART).length+l.length)*72) 140737488355328&&!false then bif Nat.ble (((([]:List PART)++l).length+1)*72) 140737488355328&&!false then some (((([]:List PART)++l)++([(f,(z,ok))]:List PART)),(decide (r5.1=0)),r5.2) else none else none))))=some (l',true,encK P' (wtP P'))/\Pst l' P';by_cases hneg:f<0
 · have e : qae f z ok (encK P (wtP P)) = some (1, encK P (wtP P)) := by rw [qae, el, cnd' c0, cnd hneg]
   rw[e,bS0,cnd hneg];exact⟨_,_,rfl,h⟩
 obtain⟨n,rfl⟩:=Int.eq_ofNat_of_zero_le (show 0<=f by omega);rcases qwF (P:=P) (f:=n) with hno | ⟨a,ha,e1,e2⟩
 · have hF := quH (P := P) (w := wtP P) hno (by omega);have hp:qaQ l (n:Int)=some 0:=qxD (fun i hi=>by
     rw[(h.sp.get i hi (by omega)).1];have:=hno _ (gM0 (show i<P.length by omega));omega) (by omega)
   have hsg:=qml hz;by_cases hs:rcmp (rv z) 0<=0
   · have e : qae (n : Int) z ok (encK P (wtP P)) = some (8, encK P (wtP P)) := by
      rw[qae,el,cnd' c0,cnd' hneg,hF,bS0];dsimp only;rw[cnd' (by decide),hsg,bS0,cnd hs]
     rw[e,bS0,cnd' hneg,hp,bS0,cnd' (by decide),hsg,bS0,cnd hs];exact⟨_,_,rfl,h⟩
   · have hpos : 0 < rv z := Rat.not_le.1 fun hh => hs ((qzd (p := rv z) (q := 0)).2 hh)
     have qz:SzQ (rv z) 4:=(zz.szQ (by decide)).mono (by decide);have e:=qqf h.path (f:=n) (q:=rv z) (ok:=ok) (y:=z) hz rfl hno qz hpos (by decide) (by omega);rw[e,bS0,cnd' hneg,hp,bS0,cnd' (by decide),hsg,bS0,cnd' hs,blt (by simp;omega),cond_true,blt (by simp;omega),cond_true];exact⟨_,_,rfl,h.sp.snoc zz,h.path.snoc hno qz hpos (by omega) (by omega),by simp;omega⟩
 · have hF := qtS (P := P) (w := wtP P) ha e1 e2 (by omega);have hp:qaQ l (n:Int)=some ((a+1:Nat):Int):=qv8 (a:=a) (by omega) (by rw[(h.sp.get a (by omega) ha).1,e1]) (fun i hi hia=>by
     rw[(h.sp.get i hi (by omega)).1];have:=e2 i (by omega) hia;omega) (by omega)
   have e:qae (n:Int) z ok (encK P (wtP P))=some (1,encK P (wtP P)):=by
     rw[qae,el,cnd' c0,cnd' hneg,hF,bS0];dsimp only;rw[cnd (by omega)]
   rw[e,bS0,cnd' hneg,hp,bS0,cnd (by omega)];exact⟨_,_,rfl,h⟩
def atP (P:List AP) (j:Nat):BA:=fcP ((P[j]?).getD (0,0,false))
def qf4 (P:List AP) (S j:Nat):Rat:=qjT (fun j=>pick (atP P j) (S.testBit j)) j
theorem qqL {P:List AP} {k:Nat} (h:ASz P k) (hk:1<=k) (S:Nat):∀ j,j<=P.length->SzQ (qf4 P S j) (1+k*j):=by
 intro j
 induction j with
 | zero=>intro _;exact SzQ.one.mono (by omega)
 | succ j ih =>
  intro hj;have e:qf4 P S (j+1)=qf4 P S j*pick (atP P j) (S.testBit j):=rfl;rw[e];have hp:SzQ (pick (atP P j) (S.testBit j)) k:=by
   unfold pick atP;rw[gE0 (by omega)];split
   · exact(qwe _).mono hk
   · exact h _ (gM0 _)
  exact((ih (by omega)).mul hp).mono (by rw[Nat.mul_succ];omega)
theorem qqm {l:List PART} {P:List AP} (h:Pst l P) {S:Nat} (hS:S<9223372036854775808) (o:List RAT) (b0 b1 b2:Int) (b3:List WH) :
  lp qau K0 ((l,(l.length:Int),o,(S:Int),0,()),(((canQ 1).1.1,(canQ 1).1.2,(canQ 1).2,()),(b0,b1,b2,b3,()),()))=some ((l,(l.length:Int),o,(S:Int),()),(((canQ (qf4 P S P.length)).1.1,(canQ (qf4 P S P.length)).1.2,(canQ (qf4 P S P.length)).2,()),(b0,b1,b2,b3,()),())):=by
 have hl:=h.sp.len;have h6:=h.six;have key:=qji (step:=qau) (fun j=>((l,(l.length:Int),o,(S:Int),(j:Int),()),(((canQ (qf4 P S j)).1.1,(canQ (qf4 P S j)).1.2,(canQ (qf4 P S j)).2,()),(b0,b1,b2,b3,()),()))) P.length (r:=((l,(l.length:Int),o,(S:Int),()),(((canQ (qf4 P S P.length)).1.1,(canQ (qf4 P S P.length)).1.2,(canQ (qf4 P S P.length)).2,()),(b0,b1,b2,b3,()),()))) (by omega) (by
  intro g j hj;have d0:(j:Int)<(l.length:Int):=by omega
  have d1:(0:Int)<=(j:Int):=by omega
  have hj':j<l.length:=by omega
  obtain⟨g1,g2,g3,g4⟩:=h.sp.get j hj' hj;have hin:=qwu (S:=S) (f:=j) hS (by omega);have ea:atP P j=(P[j].2.1,one0 P[j].2.2):=by unfold atP fcP;rw[gE0 hj];rfl
  have e:qf4 P S (j+1)=qf4 P S j*pick (atP P j) (S.testBit j):=rfl;rw[qau,cnd d0,hin,bS0];cases hb:S.testBit j with
  | false =>
   have z:=qqL h.path.sz (by decide) S j (by omega);have m:=qcN (z.sm (by omega)) (g3.sm (by decide));rw[qbJ,g2] at m;have m:qay (((canQ (qf4 P S j)).1.1,(canQ (qf4 P S j)).1.2),(canQ (qf4 P S j)).2) l[j].2.1=_:=m;rw[hb,ea] at e;have e:qf4 P S (j+1)=qf4 P S j*P[j].2.1:=e;rw[Bool.not_false,cond_true,cnd d1,tN0,gE0 hj',bS0,m,bS0,qcr (by omega),e];rfl
  | true =>
   rw[hb,ea] at e;have e:qf4 P S (j+1)=qf4 P S j*one0 P[j].2.2:=e;rw[Bool.not_true,cond_false,cnd d1,tN0,gE0 hj',bS0,g4,qcr (by omega)];cases ho:P[j].2.2 with
   | false =>
    rw[ho] at e;have e:qf4 P S (j+1)=0:=by rw[e];exact Rat.mul_zero _
    rw[Bool.not_false,cond_true,qiZ,bS0,e];rfl
   | true =>
    rw[ho] at e;have e:qf4 P S (j+1)=qf4 P S j:=by rw[e];exact Rat.mul_one _
    rw[Bool.not_true,cond_false,e];rfl) (by
  intro g;rw[qau,cnd' (by omega)])
 exact key
def setW (P:List AP) (k S:Nat):Rat:=(if popc P.length S=k then wq k (P.length+1) else 0)*qf4 P S P.length
theorem qxq (P:List AP) {k:Nat}:rsum (setW P k) (2 ^ P.length)=wtP P k:=by
 have h:=qxp (atP P) P.length (fun s=>if s=k then wq k (P.length+1) else 0);have e1:rsum (setW P k) (2 ^ P.length)=rsum (fun S=>(fun s=>if s=k then wq k (P.length+1) else 0) (popc P.length S)*qjT (fun j=>pick (atP P j) (S.testBit j)) P.length) (2 ^ P.length):=rfl;have e2:(List.range P.length).map (atP P)=P.map fcP:=by
  refine List.ext_getElem (by simp) fun i h1 h2=>?_
  simp only[List.length_map] at h2;simp only[List.getElem_map,List.getElem_range,atP,gE0 h2,Option.getD_some]
 have e3:(fun s=>if s=k then wq k (P.length+1) else 0)=fun s=>wq k (P.length+1)*(if s=k then 1 else 0):=by
  funext s;split
  · rw[Rat.mul_one]
  · rw[Rat.mul_zero]
 rw[e1,h,e2,e3,qyP,wtP,ekP,qs7]
theorem qvW {P:List AP} (h:ASz P 4) (hl:P.length<=6) (k S:Nat) (hk:k<=P.length):SzQ (setW P k S) 60:=by
 have z:=qqL h (by decide) S P.length (Nat.le_refl _);unfold setW;split
 · exact((qxg (s:=k) (n:=P.length+1) (by omega) (by omega)).mul z).mono (by omega)
 · exact(SzQ.zero.mul z).mono (by omega)
theorem qxr {P:List AP} (h:ASz P 4) (hl:P.length<=6) (k S:Nat) (hk:k<=P.length):SzQ (rsum (setW P k) S) (1+S*61):=qxv S fun i _=>qvW h hl k i hk
def vis (n k:Nat):Nat->Bool
 | 0=>false
 | S+1=>vis n k S || decide (popc n S=k)
theorem qyX:∀ n,n<7->∀ k,k<n+1->vis n k (2 ^ n)=true:=by decide +kernel
theorem qz2 (P:List AP) {k:Nat}:∀ S,vis P.length k S=false->rsum (setW P k) S=0:=by
 intro S
 induction S with
 | zero=>intro _;rfl
 | succ S ih =>
  intro h;rw[vis,Bool.or_eq_false_iff] at h;show rsum (setW P k) S+setW P k S=0;rw[ih h.1,setW,if_neg (of_decide_eq_false h.2),Rat.zero_mul,Rat.add_zero]
def wlF (P:List AP) (S k:Nat):RAT:=if vis P.length k S then canQ (rsum (setW P k) S) else zR
def wlL (P:List AP) (S:Nat):List RAT:=(List.range (P.length+1)).map (wlF P S)
theorem qon (P:List AP) (S:Nat):(wlL P S).length=P.length+1:=by simp [wlL]
theorem qqj {P:List AP} {S k:Nat} (h:k<P.length+1):(wlL P S)[k]?=some (wlF P S k):=by simp [wlL,h]
theorem qz0 (P:List AP) (S k:Nat):rv (wlF P S k)=rsum (setW P k) S:=by
 unfold wlF;cases h:vis P.length k S with
 | true=>rw[if_pos rfl,qbJ]
 | false=>rw[if_neg (by decide),qz2 P S h];decide +kernel
theorem qzZ {P:List AP} (h:ASz P 4) (hl:P.length<=6) {S k:Nat} (hS:S<=64) (hk:k<=P.length):Sm (wlF P S k):=by
 unfold wlF;split
 · exact(qxr h hl k S hk).sm (by omega)
 · exact⟨by decide,by decide⟩
theorem qyU {P:List AP} {S:Nat}:(wlL P S).set (popc P.length S) (canQ (rsum (setW P (popc P.length S)) (S+1)))=wlL P (S+1):=by
 refine List.ext_getElem? fun k=>?_
 rw[List.getElem?_set];by_cases e:popc P.length S=k
 · have hk : k < P.length + 1 := by have := qs6 P.length S; omega
   rw[if_pos e,if_pos (by rw[qon,e];exact hk),qqj hk,wlF,vis,e,decide_eq_true rfl,Bool.or_true,if_pos rfl]
 · rw [if_neg e];by_cases hk:k<P.length+1
   · have z : setW P k S = 0 := by rw [setW, if_neg e, Rat.zero_mul]
     rw[qqj hk,qqj hk,wlF,wlF,vis,decide_eq_false e,Bool.or_false];show _=some (if vis P.length k S=true then canQ (rsum (setW P k) S+setW P k S) else zR);rw[z,Rat.add_zero]
   · rw[List.getElem?_eq_none (by rw[qon];omega),List.getElem?_eq_none (by rw[qon];omega)]
theorem qyV {P:List AP} (hl:P.length<=6):wlL P (2 ^ P.length)=flo (P.length+1) (wtP P):=by
 refine List.map_congr_left fun k hk=>?_
 have hk:=List.mem_range.1 hk;rw[wlF,qyX _ (by omega) k hk,if_pos rfl,qxq]
theorem qxh (P:List AP):wlL P 0=List.replicate (P.length+1) (((false,[]),[]):RAT):=by
 refine List.ext_getElem (by rw[qon,List.length_replicate]) fun i h1 h2=>?_
 rw[List.getElem_replicate];simp [wlL,wlF,vis]
theorem qrl {l:List PART} {P:List AP} (h:Pst l P):qcH l=some (flo (P.length+1) (wtP P)):=by
 obtain⟨d,st,sm,f,hN,hT⟩:=qAs;have hl:=h.sp.len;have h6:=h.six;have hp6:2 ^ P.length<=2 ^ 6:=Nat.pow_le_pow_right (by decide) h6;have hp6:2 ^ P.length<=64:=hp6;obtain⟨r,hr,e⟩:=qiR (step:=qaL)
  (fun S w=>∃ d st sm f,w=((l,(l.length:Int),wlL P S,(S:Int),()),((d,st,sm,f,()),()))/\Tab d st sm f)
  (fun r=>r=((flo (P.length+1) (wtP P),()),())) (2 ^ P.length)
  (v:=((l,(l.length:Int),wlL P 0,0,()),((d,st,sm,f,()),())))
  ⟨d,st,sm,f,rfl,hT⟩ (by omega) (by
  rintro S w hS ⟨d,st,sm,f,rfl,hT⟩;have c0:(S:Int)<((2 ^ l.length:Nat):Int):=by rw[hl];omega
  have hpc:=qs6 P.length S;have hin:=qqm h (S:=S) (by omega) (wlL P S) d st sm f;have hsz:qcS (S:Int) (l.length:Int)=some ((popc P.length S:Nat):Int):=by
   rw[hl];exact qvU (by omega) (by omega)
  have hW:=qw6 hT (s:=popc P.length S) (n:=P.length+1) (by omega) (by omega);have q1:iadd .i64 (l.length:Int) 1=((P.length+1:Nat):Int):=by rw[hl];exact qcr (by omega)
  have d1:(0:Int)<=((popc P.length S:Nat):Int):=by omega
  have d2:((popc P.length S:Nat):Int)<((wlL P S).length:Int):=by rw[qon];omega
  have hg:=qqj (P:=P) (S:=S) (k:=popc P.length S) (by omega);have z:=qqL h.path.sz (by decide) S P.length (Nat.le_refl _);have zw:=qxg (s:=popc P.length S) (n:=P.length+1) (by omega) (by omega);have m:=qcN (zw.sm (by decide)) (z.sm (by omega));rw[qbJ,qbJ] at m;have m:qay (canQ (wq (popc P.length S) (P.length+1))) (((canQ (qf4 P S P.length)).1.1,(canQ (qf4 P S P.length)).1.2),(canQ (qf4 P S P.length)).2)=_:=m;have es:wq (popc P.length S) (P.length+1)*qf4 P S P.length=setW P (popc P.length S) S:=by rw[setW,if_pos rfl]
  rw[es] at m;have zs:=qvW h.path.sz h6 (popc P.length S) S hpc;have a:=qjY (qzZ h.path.sz h6 (S:=S) (k:=popc P.length S) (by omega) hpc) (zs.sm (by decide));rw[qbJ,qz0] at a;have a:qdC (wlF P S (popc P.length S)) (canQ (setW P (popc P.length S) S))=some (canQ (rsum (setW P (popc P.length S)) (S+1))):=a;have hset:=qyU (P:=P) (S:=S);refine⟨_,⟨1,0,sm,qq3,rfl,tab1 sm⟩,fun g=>?_⟩;rw[qaL,qyA (by omega),bS0,cnd c0,qjX,bS0,hin,bS0];dsimp only;rw[hsz,bS0,q1,hW,bS0,cnd2 d1 d2,tN0,hg,bS0];dsimp only;rw[m,bS0,a,bS0,cnd2 d1 d2,bS0,hset,qcr (by omega)];rfl) (by
  rintro w ⟨d,st,sm,f,rfl,hT⟩;have c0:¬ ((2 ^ P.length:Nat):Int)<((2 ^ l.length:Nat):Int):=by rw[hl];omega
  have e:=qyV h6;refine⟨_,rfl,fun g=>?_⟩;rw[qaL,qyA (by omega),bS0,cnd' c0,e])
 have q1:iadd .i64 (l.length:Int) 1=((P.length+1:Nat):Int):=by rw[hl];exact qcr (by omega)
 have c1:(decide (((P.length+1:Nat):Int)=((P.length+1:Nat):Int))&&decide (0<=((P.length+1:Nat):Int))&&decide (((56:Nat):Int)*((P.length+1:Nat):Int)<=281474976710656)&&decide (((P.length+1:Nat):Int)<=9223372036854775807))=true:=by
  rw[decide_eq_true rfl,decide_eq_true (by omega),decide_eq_true (by omega),decide_eq_true (by omega)];rfl
 rw[qcH,hN,bS0,q1,c1,cond_true,tN0,<- qxh,e,bS0,hr]
theorem qsO {P:List AP} {w:Nat->Rat} (hl:P.length<=1000000):qcd (encK P w)=some (flo (P.length+1) w,encK P w):=by
 have el:=qcc P w;have key:=qji (step:=qap) (fun k=>((flo k w,((P.length+1:Nat):Int),(k:Int),()),((encK P w,()),()))) (P.length+1) (r:=((flo (P.length+1) w,()),((encK P w,()),()))) (by omega) (by
  intro g k hk;have d0:(k:Int)<((P.length+1:Nat):Int):=by omega
  have d1:(0:Int)<=(k:Int):=by omega
  have d2:(k:Int)<((encK P w).length:Int):=by omega
  have e:flo (k+1) w=flo k w++[canQ (w k)]:=by simp [flo,List.range_succ]
  rw[qap,cnd d0,cnd2 d1 d2,tN0,qcL hk,bS0,blt (by rw[qq1];omega),cond_true,qcr (by omega),qvj,e];rfl) (by
  intro g;rw[qap,cnd' (by omega)])
 have key:lp qap K0 (([],((P.length+1:Nat):Int),0,()),((encK P w,()),()))=_:=key;rw[qcd,el,key];rfl
theorem qnB.ne {P:List AP} {k g:Nat} (h:qnB P k g) {i j:Nat} (hi:i<P.length) (hj:j<P.length) (hij:i<j):P[i].1≠P[j].1:=by
 have:=List.pairwise_iff_getElem.1 h.nd i j (by simpa using hi) (by simpa using hj) hij;simpa using this
theorem qvS {l:List PART} {P:List AP} (h:Pst l P):qc0 l (encK P (wtP P))=some (true,encK P (wtP P)):=by
 have hl:=h.sp.len;have h6:=h.six;have el:=qcc P (wtP P);have eW:(encW P).length=P.length:=by simp [encW]
 have hlen:qdI (encK P (wtP P))=some ((P.length:Int),encK P (wtP P)):=by
  rw[qdI,el,cnd' (by omega),qcg (by omega) (by omega)];congr 2;omega
 have hS:=ekS8 (k:=4) (n:=P.length) (by decide) (by omega);have hall:=qx2 (n:=P.length+1) (k:=20030) (o:=wtP P) (fun i hi=>(qtV h.path.sz (by omega) (by omega)).mono (by omega)) (by decide) (by omega);have key:=qji (step:=qaA) (fun i=>((l,encW P,(i:Int),()),((encK P (wtP P),()),()))) P.length (r:=.inl ((),((encK P (wtP P),()),()))) (by omega) (by
  intro g i hi;have d0:(i:Int)<((encW P).length:Int):=by omega
  have d1:(0:Int)<=(i:Int):=by omega
  have hi':i<l.length:=by omega
  obtain⟨g1,g2,g3,g4⟩:=h.sp.get i hi' hi;have hg:(encW P)[i]?=some (encP P[i]):=by simp [encW,hi]
  have hF:=qtS (P:=P) (w:=wtP P) (f:=P[i].1) (i:=i) hi rfl (fun j hj hji=>h.path.ne hj hi hji) (by omega);have hIs:=qAu (h.path.sz _ (gM0 hi)) (by decide) g3 (by decide);rw[g2,decide_eq_true rfl] at hIs;have bb:(!((encP P[i]).2.2 == l[i].2.2))=false:=by rw[g4];show(!(P[i].2.2 == P[i].2.2))=false;cases P[i].2.2<;>rfl
  rw[qaA,cnd d0,cnd2 d1 d0,tN0,hg,bS0,cnd d1,gE0 hi',bS0,decide_eq_true (show(encP P[i]).1=l[i].1 from g1.symm),Bool.not_true,cond_false,cnd2 d1 d0,bS0,cnd d1,bS0,bb,cond_false,cnd2 d1 d0,bS0,cnd d1,bS0,show qcW (encP P[i]).2.1 l[i].2.1=some true from hIs,bS0,Bool.not_true,cond_false,cnd d1,bS0,g1,hF,bS0];dsimp only;rw[qcr (by omega),decide_eq_true (by omega),Bool.not_true,cond_false];rfl) (by
  intro g;rw[qaA,cnd' (by omega)])
 have key:lp qaA K0 ((l,encW P,0,()),((encK P (wtP P),()),()))=_:=key;rw[qc0,qvC (by omega),bS0];dsimp only;rw[hlen,bS0];dsimp only;rw[decide_eq_true (show(P.length:Int)=(l.length:Int) by omega),Bool.not_true,cond_false,decide_eq_true (show((encW P).length:Int)=(l.length:Int) by omega),Bool.not_true,cond_false,qsO (by omega),bS0];dsimp only;rw[qrl h,bS0,hall,bS0,Bool.not_true,cond_false,key];rfl
theorem Pst.out {l:List PART} {P:List AP} (h:Pst l P) {a:Nat} (ha:a<P.length):Pst (l.take a++l.drop (a+1)) (qcq P a) :=
 ⟨h.sp.out ha,h.path.out ha,by have:=qfk ha;have:=h.six;omega⟩
theorem quL {l:List PART} {a:Nat} (hal:a<l.length) (hl:l.length<=1000):qcG l (a:Int)=some (l.take a++l.drop (a+1)):=by
 rw[qcG,cnd2 (by omega) (by omega),blt (by simp;omega),cond_true,qcr (by omega),cnd2 (by omega) (by omega),blt (by simp;omega),cond_true];simp
theorem qxm {l:List PART} {P:List AP} (h:Pst l P) (op:Int×Int×PART) (hf:op.2.1<9223372036854775808):∃ l' P',qbg l op (encK P (wtP P))=some (l',true,encK P' (wtP P'))/\Pst l' P':=by
 obtain⟨kind,f,a,y,ok⟩:=op;by_cases k0:kind=0
 · subst k0;exact qvR h f hf a y ok
 have hl:=h.sp.len;have h6:=h.six;have el:=qcc P (wtP P);have c0:¬ ((P.length+1:Nat):Int)=0:=by omega
 by_cases k1:kind=1
 · subst k1;rw[qbg];dsimp only;rw[cnd rfl];by_cases h1:a<1
   · have hU : qar a (encK P (wtP P)) = some (8, encK P (wtP P)) := by rw [qar, el, cnd' c0, cnd h1]
     rw[hU,bS0,cnd h1];exact⟨_,_,rfl,h⟩
   by_cases h2:a>(l.length:Int)
   · have hU : qar a (encK P (wtP P)) = some (8, encK P (wtP P)) := by rw [qar, el, cnd' c0, cnd' h1, cnd (by omega)]
     rw[hU,bS0,cnd' h1,cnd h2];exact⟨_,_,rfl,h⟩
   obtain⟨i,rfl⟩:∃ i:Nat,a=((i+1:Nat):Int):=⟨(a-1).toNat,by omega⟩;have hi:i<P.length:=by omega
   have hU:=qw7 h.path (by decide) hi;have q1:isub .i64 ((i+1:Nat):Int) 1=(i:Int):=by rw[qcg (by omega) (by omega)];omega
   rw[hU,bS0,cnd' h1,cnd' h2,q1,quL (by omega) (by omega),bS0];exact⟨_,_,rfl,h.out hi⟩
 · rw [qbg];dsimp only;rw[cnd' k1,decide_eq_false k0,Bool.not_false,cond_true];exact⟨_,_,rfl,h⟩
theorem qtT {l:List PART} {P:List AP} (h:Pst l P):∃ r,qae 999 (canQ 1) true (encK P (wtP P))=some r:=by
 have h6:=h.six;have el:=qcc P (wtP P);have c0:¬ ((P.length+1:Nat):Int)=0:=by omega
 rcases qwF (P:=P) (f:=999) with hno | ⟨a,ha,e1,e2⟩
 · have q1 : SzQ 1 4 := SzQ.one.mono (by decide);exact⟨_,qqf h.path (f:=999) (q:=1) (ok:=true) (y:=canQ 1) (SzQ.one.sm (by decide)) (qbJ 1) hno q1 (by decide) (by decide) (by omega)⟩
 · have hF := qtS (P := P) (w := wtP P) ha e1 e2 (by omega);have hF:qaP 999 (encK P (wtP P))=_:=hF;refine⟨(1,encK P (wtP P)),?_⟩;rw[qae,el,cnd' c0,cnd' (by omega),hF,bS0];dsimp only;rw[cnd (by omega)]
theorem qmX (sc:List (Int×Int×PART)) (hl:sc.length<=9223372036854775807) (hf:∀ o∈sc,o.2.1<9223372036854775808):qb3 sc=some true:=by
 have hnn:min sc.length 16<=sc.length:=Nat.min_le_left _ _;obtain⟨r,⟨l,P,hP,hr⟩,e⟩:=qiR (step:=qai)
  (fun i w=>∃ l P,w=((sc,l,(i:Int),()),((encK P (wtP P),()),()))/\Pst l P)
  (fun r=>∃ l P,Pst l P/\r=.inl ((l,()),((encK P (wtP P),()),()))) (min sc.length 16)
  (v:=((sc,[],0,()),((encK [] (wtP []),()),())))
  ⟨[],[],rfl,Pst.nil⟩ (by omega) (by
  rintro i w hi ⟨l,P,rfl,hP⟩;have hi':i<sc.length:=by omega
  have d0:(i:Int)<(sc.length:Int):=by omega
  have d1:(0:Int)<=(i:Int):=by omega
  obtain⟨l',P',hs,hP'⟩:=qxm hP sc[i] (hf _ (gM0 hi'));have hc:qcs (encK P (wtP P))=some (encK P (wtP P),encK P (wtP P)):=by
    have:=hP.six;rw[qcs,blt (by rw[qcc];simp;omega),cond_true,List.nil_append]
  obtain⟨x,hx⟩:=qtT hP;refine⟨_,⟨l',P',rfl,hP'⟩,fun g=>?_⟩;rw[qai,cnd d0,cnd (by omega),cnd d1,tN0,gE0 hi',bS0];by_cases k2:sc[i].1=2
  · rw [cnd k2, hc, bS0, qjX, bS0];dsimp only;rw[hx,bS0,cnd d1,bS0,hs,bS0];dsimp only;rw[Bool.not_true,cond_false,qcr (by omega)];rfl
  · rw [cnd' k2, cnd d1, bS0, hs, bS0];dsimp only;rw[Bool.not_true,cond_false,qcr (by omega)];rfl) (by
  rintro w ⟨l,P,rfl,hP⟩;refine⟨_,⟨l,P,hP,rfl⟩,fun g=>?_⟩;by_cases h16:sc.length<=16
  · rw[qai,cnd' (by omega)]
  · rw[qai,cnd (by omega),cnd' (by omega)])
 subst hr;rw[qb3,qyo,bS0,e,bS0];dsimp only;rw[qvS hP,bS0,cond_true,qpF];rfl
end Go.Proofs.YtmabkjhobhbfdaaGreatDoor.X
