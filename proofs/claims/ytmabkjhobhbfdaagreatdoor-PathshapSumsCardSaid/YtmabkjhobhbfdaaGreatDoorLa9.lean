/- Own work: part of the proof; the first line of each part says what it tells. -/
import Derived.Test.YtmabkjhobhbfdaaGreatDoorLa8


namespace Go.Proofs.YtmabkjhobhbfdaaGreatDoor.X
open Go
set_option linter.unusedVariables false
set_option linter.unusedSimpArgs false
def fac:Nat->Nat
 | 0=>1
 | n+1=>(n+1)*fac n
theorem qwF (n:Nat):0<fac n:=by
 induction n with
 | zero=>decide
 | succ n ih=>exact Nat.mul_pos (by omega) ih
def qq7:List WH:=(List.range 65).map fun n=>qaC (fac n:Nat)
theorem qtb:qea=some qq7:=by decide +kernel
def Tab (d st sm:Int) (f:List WH):Prop:=(d=0/\st=0)\/(d=1/\st=0/\f=qq7)
theorem qAs:∃ d st sm f,qml=some (d,st,sm,f)/\Tab d st sm f:=⟨0,0,0,[],rfl,.inl ⟨rfl,rfl⟩⟩
theorem qwD {n:Nat} (h:n<65):qq7[n]?=some (qaC (fac n:Nat)):=by
 simp [qq7,h]
theorem qzO {d st sm:Int} {f:List WH} (h:Tab d st sm f) {n:Nat} (hn:n<=64):qhx (n:Int) d st sm f=some (qaC (fac n:Nat),1,0,sm,qq7):=by
 have h0:(0:Int)<=(n:Int):=by omega
 have hg:=qwD (n:=n) (by omega);rcases h with ⟨rfl,rfl⟩ | ⟨rfl,rfl,rfl⟩
 · rw[qhx,cnd h0,cnd rfl,cnd rfl,qtb,bS0,tN0,hg,bS0]
 · rw[qhx,cnd h0,cnd' (by decide),tN0,hg,bS0]
theorem tab1 (sm:Int):Tab 1 0 sm qq7:=.inr ⟨rfl,rfl,rfl⟩
theorem quw {n:Nat} (h:n<=64):fac n<4294967296 ^ 10:=by
 have hm:∀ a b,a<=b->fac a<=fac b:=by
  intro a b hab
  induction hab with
  | refl=>exact Nat.le_refl _
  | step _ ih =>
   refine Nat.le_trans ih ?_;simp only[fac];exact Nat.le_mul_of_pos_left _ (by omega)
 have:=hm n 64 h;have h64:fac 64<4294967296 ^ 10:=by decide +kernel
 omega
theorem qwE {n:Nat} (h:n<=64):SzQ ((fac n:Nat):Rat) 10:=by
 have:=quw h;exact⟨by simpa using this,by simp⟩
def quo (a b c:Nat):Rat:=((fac a:Nat):Rat)*((fac b:Nat):Rat)/((fac c:Nat):Rat)
theorem qAb {a b c:Nat} (ha:a<=64) (hb:b<=64) (hc:c<=64):SzQ (quo a b c) 30:=((qwE ha).mul (qwE hb)).div (qwE hc)
theorem qpf {n k:Nat} (h:n<4294967296 ^ k):(qaC (n:Nat)).2.length<=k:=by
 rw[qvk];exact qck (by simpa using h)
theorem qtX (n:Nat):wv (qaC (n:Nat))=(n:Int):=by
 simp [qcV]
theorem qta {d st sm:Int} {f:List WH} (h:Tab d st sm f) {a b c:Nat} (ha:a<=64) (hb:b<=64) (hc:c<=64) :
  qcA (a:Int) (b:Int) (c:Int) d st sm f=some (canQ (quo a b c),1,0,sm,qq7):=by
 have hl:∀ {n:Nat},n<=64->(qaC (fac n:Nat)).2.length<1099511627776:=fun h=>Nat.lt_of_le_of_lt (qpf (quw h)) (by decide)
 have hm:qdu (qaC (fac a:Nat)) (qaC (fac b:Nat))=some (qaC ((fac a*fac b:Nat):Int)):=by
  have:=qsY (a:=qaC (fac a:Nat)) (b:=qaC (fac b:Nat)) (Nat.lt_of_lt_of_le (hl ha) (by decide)) (Nat.lt_of_lt_of_le (hl hb) (by decide));rw[this,qtX,qtX];simp
 have hlen:(qaC ((fac a*fac b:Nat):Int)).2.length<1099511627776:=by
  have h1:=quw ha;have h2:=quw hb;have:fac a*fac b<4294967296 ^ 20:=by
   have:=Nat.mul_lt_mul'' h1 h2;rw[<- Nat.pow_add] at this;exact this
  exact Nat.lt_of_le_of_lt (qpf this) (by decide)
 have hmk:=qja hlen (hl hc);rw[qtX,qtX,if_neg (by have:=qwF c;omega)] at hmk;have hq:(((fac a*fac b:Nat):Int):Rat)/(((fac c:Nat):Int):Rat)=quo a b c:=by
  simp [quo];rfl
 rw[hq] at hmk;rw[qcA,qzO h ha,bS0,qzO (tab1 sm) hb,bS0,hm,bS0,qzO (tab1 sm) hc,bS0,hmk,bS0]
def wq (s n:Nat):Rat:=quo s (n-s-1) n
theorem qxb {s n:Nat} (hs:s<n) (hn:n<=64):SzQ (wq s n) 30:=qAb (by omega) (by omega) (by omega)
theorem qw1 {d st sm:Int} {f:List WH} (h:Tab d st sm f) {s n:Nat} (hs:s<n) (hn:n<=64) :
  qc7 (s:Int) (n:Int) d st sm f=some (canQ (wq s n),0,1,0,sm,qq7):=by
 have e1:isub .i64 (isub .i64 (n:Int) (s:Int)) 1=((n-s-1:Nat):Int):=by
  rw[qcl (x:=(n:Int)) (y:=(s:Int)) (by omega) (by omega),qcl (by omega) (by omega)];omega
 rw[qc7,cnd' (by omega),cnd' (by omega),cnd' (by omega),cnd' (by omega),e1,qta h (by omega) (by omega) (by omega),bS0];rfl
def vabs (l:List RAT) (i:Nat):Rat:=rabs (vals l i)
def vsum (l:List RAT):Rat:=rsum (vabs l) l.length
def qz5 (l:List RAT) (i:Nat):Rat:=vabs l i/vsum l
def qyw (l:List RAT) (n:Nat):List RAT:=(List.range n).map fun i=>canQ (qz5 l i)
@[simp] theorem qzW (l:List RAT) (n:Nat):(qyw l n).length=n:=by simp [qyw]
section
variable {l:List RAT} (hsz:∀ x∈l,SzR x 2) (hlen:l.length<=33)
include hsz
end
theorem qyo {a b:List RAT} {n m:Nat} (hn:n<91625968980) (hm:m<91625968980) (hb:∀ x∈b,SzR x m) (hlen:a.length=b.length) (hl:a.length<4398046511104)
  (h:∀ i (hi:i<a.length) (hi':i<b.length),∃ q,SzQ q n/\a[i]=canQ q/\rv b[i]=q):qc5 a b=some true:=by
 have c0:((a.length:Nat):Int)=((b.length:Nat):Int):=by omega
 have key:=qi0 (step:=qaT) (fun i=>((a,b,(i:Int),()),())) a.length (r:=.inl ((),())) (by omega) (by
  intro g i hi;have hi':i<b.length:=by omega
  obtain⟨q,hq,e,e2⟩:=h i hi hi';have d0:(i:Int)<((a.length:Nat):Int):=by omega
  have d1:(0:Int)<=(i:Int):=by omega
  have his:=qzS hq hn (hb _ (gM0 hi')) hm;rw[e2,decide_eq_true rfl] at his;rw[qaT,cnd d0,cnd d1,tN0,gE0 hi,bS0,cnd d1,gE0 hi',bS0,e,his,bS0,qcE (by omega)];rfl) (by
  intro g;rw[qaT,cnd' (by omega)])
 have key':lp qaT K0 ((a,b,0,()),())=some (.inl ((),())):=key;rw[qc5,decide_eq_true c0,key'];rfl
theorem qrF {l:List RAT} {k:Nat} (hs:∀ x∈l,Sm x) (hk:∀ i,i<l.length->SzQ (vals l i) k) (hl:1+l.length*(k+1)<1099511627776) (hlen:l.length<4398046511104):qiE l=some (canQ (rsum (vals l) l.length)):=by
 have hpart:∀ i,i<=l.length->Sm (canQ (rsum (vals l) i)):=by
  intro i hi;have h1:=qy4 (f:=vals l) (k:=k) (n:=i) (fun j hj=>hk j (by omega));refine h1.sm (Nat.lt_of_le_of_lt ?_ hl);have:=Nat.mul_le_mul_right (k+1) hi;omega
 have key:=qi0 (step:=qdb) (fun i=>((l,((l.length:Nat):Int),(i:Int),()),((false,[],[],()),((canQ (rsum (vals l) i)).1.1,(canQ (rsum (vals l) i)).1.2,(canQ (rsum (vals l) i)).2,()),()))) l.length
  (r:=((),((false,[],[],()),((canQ (rsum (vals l) l.length)).1.1,(canQ (rsum (vals l) l.length)).1.2,(canQ (rsum (vals l) l.length)).2,()),()))) (by omega) (by
  intro g i hi;have d0:(i:Int)<((l.length:Nat):Int):=by omega
  have d1:(0:Int)<=(i:Int):=by omega
  have hp:=qg7 (hpart i (Nat.le_of_lt hi)) (hs _ (gM0 hi));rw[qbj,<- qxd hi] at hp;have hp':qcB (((canQ (rsum (vals l) i)).1.1,(canQ (rsum (vals l) i)).1.2),(canQ (rsum (vals l) i)).2) l[i]=some (canQ (rsum (vals l) (i+1))):=hp;rw[qdb,cnd d0,cnd d1,tN0,gE0 hi,bS0,hp',bS0,qcE (by omega)];rfl) (by
  intro g;rw[qdb,cnd' (by omega)])
 have key':lp qdb K0 ((l,((l.length:Nat):Int),0,()),((false,[],[],()),((canQ 0).1.1,(canQ 0).1.2,(canQ 0).2,()),()))=_:=key;rw[qiE,qga,bS0,key'];rfl
abbrev qA1 (n:NODE):Bool:=n.1
abbrev nL (n:NODE):Int:=n.2.2.2.1
abbrev nR (n:NODE):Int:=n.2.2.2.2.1
def kids (t:List NODE) (i:Nat):List Nat :=
 match t[i]? with
 | some n=>if qA1 n then [] else [(nL n).toNat,(nR n).toNat]
 | none=>[]
def cnt (t:List NODE) (i j:Nat):Nat:=((List.range i).flatMap (kids t)).count j
section
variable {t:List NODE} {f:Int}
end
def cntL (t:List NODE) (i:Nat):List Int:=(List.range t.length).map fun j=>((cnt t i j:Nat):Int)
@[simp] theorem qAA (t:List NODE) (i:Nat):(cntL t i).length=t.length:=by simp [cntL]
abbrev zR:RAT:=((false,[]),[])
theorem qzw {q r:Rat} {n m:Nat} (hq:SzQ q n) (hn:n<91625968980) (hr:SzQ r m) (hm:m<91625968980) (e:q=r):qbq (canQ q) (canQ r)=some true:=by
 rw[qzS hq hn hr.szR hm,qbj,decide_eq_true e]
theorem qs2 (n k:Nat):(n/2 ^ k) % 2=1 ↔ n.testBit k=true:=by
 rw[Nat.testBit_eq_decide_div_mod_eq,decide_eq_true_iff]
def qj2 (f:Nat->Rat):Nat->Rat
 | 0=>1
 | n+1=>qj2 f n*f n
def qcan (qs:List Rat):List RAT:=qs.map canQ
@[simp] theorem qAy (qs:List Rat):(qcan qs).length=qs.length:=by simp [qcan]
abbrev AP:=Nat×Rat×Bool
def encP (p:AP):PART:=((p.1:Int),canQ p.2.1,p.2.2)
def encW (w:List AP):List PART:=w.map encP
theorem qxZ (w:List AP):(encW w).length=w.length:=by simp [encW]
def ASz (w:List AP) (k:Nat):Prop:=∀ p∈w,SzQ p.2.1 k
def flo (n:Nat) (o:Nat->Rat):List RAT:=(List.range n).map fun f=>canQ (o f)
theorem qjt (n:Nat) (o:Nat->Rat):(flo n o).length=n:=by simp [flo]
theorem qtC {n f:Nat} (o:Nat->Rat) (h:f<n):(flo n o)[f]?=some (canQ (o f)):=by simp [flo,h]
theorem qzM {S f:Nat} (h:S.testBit f=false):∀ j,(S+2 ^ f).testBit j=(decide (j=f) || S.testBit j):=by
 induction f generalizing S with
 | zero =>
  intro j;have h0:S % 2=0:=by rw[Nat.testBit_zero] at h;simpa using h
  cases j with
  | zero=>rw[Nat.testBit_zero];simp;omega
  | succ j =>
   rw[Nat.testBit_succ,Nat.testBit_succ,show(S+2 ^ 0)/2=S/2 by omega];simp
 | succ f ih =>
  intro j;rw[Nat.testBit_succ] at h;have e1:(S+2 ^ (f+1))/2=S/2+2 ^ f:=by rw[Nat.pow_succ];omega
  have e2:(S+2 ^ (f+1)) % 2=S % 2:=by rw[Nat.pow_succ];omega
  cases j with
  | zero=>rw[Nat.testBit_zero,Nat.testBit_zero,e2];simp
  | succ j =>
   rw[Nat.testBit_succ,Nat.testBit_succ,e1,ih h];simp
def popc:Nat->Nat->Nat
 | 0,_=>0
 | n+1,S=>popc n S+(if S.testBit n then 1 else 0)
theorem qtc (n S:Nat):popc n S<=n:=by
 induction n with
 | zero=>exact Nat.le_refl _
 | succ n ih=>rw[popc];split<;>omega
theorem quY {n S S':Nat} (h:∀ j,j<n->S.testBit j=S'.testBit j):popc n S=popc n S':=by
 induction n with
 | zero=>rfl
 | succ n ih=>rw[popc,popc,ih fun j hj=>h j (by omega),h n (by omega)]
theorem quT (f:Nat->Rat) (a b:Nat):rsum f (a+b)=rsum f a+rsum (fun i=>f (i+a)) b:=by
 induction b with
 | zero=>simp [rsum,Rat.add_zero]
 | succ b ih=>rw[<- Nat.add_assoc,rsum,ih,rsum,Rat.add_assoc,Nat.add_comm a b]
theorem qs5 {f g:Nat->Rat} {n:Nat} (h:∀ i,i<n->f i=g i):qj2 f n=qj2 g n:=by
 induction n with
 | zero=>rfl
 | succ n ih=>rw[qj2,qj2,ih fun i hi=>h i (by omega),h n (by omega)]
abbrev BA:=Rat×Rat
def pick (x:BA) (b:Bool):Rat:=if b then x.2 else x.1
def EE:List BA->(Nat->Rat)->Rat
 | [],c=>c 0
 | x::L,c=>x.1*EE L c+x.2*EE L fun k=>c (k+1)
theorem quJ {L:List BA}:∀ {c d:Nat->Rat},(∀ k,k<=L.length->c k=d k)->EE L c=EE L d:=by
 induction L with
 | nil=>intro c d h;exact h 0 (Nat.le_refl _)
 | cons x L ih =>
  intro c d h;rw[EE,EE,ih fun k hk=>h k (by simp only[List.length_cons];omega),ih fun k hk=>h (k+1) (by simp only[List.length_cons];omega)]
theorem qyK {L:List BA}:∀ {c:Nat->Rat} {q:Rat},EE L (fun k=>q*c k)=q*EE L c:=by
 induction L with
 | nil=>intro c q;rfl
 | cons x L ih=>intro c q;rw[EE,EE,ih,ih];grind
theorem qw9 {L M:List BA} (h:L.Perm M):∀ c,EE L c=EE M c:=by
 induction h with
 | nil=>intro c;rfl
 | cons x _ ih=>intro c;rw[EE,EE,ih,ih]
 | swap x y L=>intro c;simp only[EE];grind
 | trans _ _ ih1 ih2=>intro c;rw[ih1,ih2]
theorem qAv {L:List BA} {x:BA}:∀ c,EE (x::L) c=EE (L++[x]) c:=fun c=>qw9 (by
 have:=(List.perm_append_comm (l₁:=[x]) (l₂:=L));simpa using this) c
theorem qxk (g:Nat->BA) (n:Nat):∀ c:Nat->Rat,rsum (fun S=>c (popc n S)*qj2 (fun j=>pick (g j) (S.testBit j)) n) (2 ^ n)=EE ((List.range n).map g) c:=by
 induction n with
 | zero=>intro c;simp [rsum,popc,qj2,EE,Rat.mul_one,Rat.zero_add]
 | succ n ih =>
  intro c;have hb:∀ S,S<2 ^ n->S.testBit n=false:=fun S hS=>Nat.testBit_lt_two_pow hS
  have e1:rsum (fun S=>c (popc (n+1) S)*qj2 (fun j=>pick (g j) (S.testBit j)) (n+1)) (2 ^ n)=(g n).1*rsum (fun S=>c (popc n S)*qj2 (fun j=>pick (g j) (S.testBit j)) n) (2 ^ n):=by
   rw[Rat.mul_comm (g n).1,<- qt9];refine qnf fun S hS=>?_
   rw[popc,qj2,hb S hS,if_neg (by decide),Nat.add_zero,pick,if_neg (by decide)];grind
  have e2:rsum (fun S=>c (popc (n+1) (S+2 ^ n))*qj2 (fun j=>pick (g j) ((S+2 ^ n).testBit j)) (n+1)) (2 ^ n)=(g n).2*rsum (fun S=>c (popc n S+1)*qj2 (fun j=>pick (g j) (S.testBit j)) n) (2 ^ n):=by
   rw[Rat.mul_comm (g n).2,<- qt9];refine qnf fun S hS=>?_
   have hj:=qzM (hb S hS);have hp:popc n (S+2 ^ n)=popc n S:=quY fun j hj'=>by rw[hj j,decide_eq_false (by omega),Bool.false_or]
   have hr:qj2 (fun j=>pick (g j) ((S+2 ^ n).testBit j)) n=qj2 (fun j=>pick (g j) (S.testBit j)) n:=qs5 fun j hj'=>by rw[hj j,decide_eq_false (by omega),Bool.false_or]
   rw[popc,qj2,hp,hr,hj n,decide_eq_true rfl,Bool.true_or,if_pos rfl,pick,if_pos rfl];grind
  rw[Nat.pow_succ,Nat.mul_two,quT,e1,e2,ih c,ih fun k=>c (k+1),List.range_succ,List.map_append];show _=EE (_++[g n]) c;rw[<- qAv,EE]
theorem qyu {n:Nat} (h:n<=30):qd8 (n:Int)=some ((2 ^ n:Nat):Int):=by
 have key:=qi0 (step:=qaU) (fun i=>(((n:Int),((2 ^ i:Nat):Int),(i:Int),()),())) n (r:=((((2 ^ n:Nat):Int),()),())) (by omega) (by
  intro g i hi;have d0:(i:Int)<(n:Int):=by omega
  have hpi:2 ^ i<=2 ^ 30:=Nat.pow_le_pow_right (by decide) (by omega);have em:imul .i64 2 ((2 ^ i:Nat):Int)=((2 ^ (i+1):Nat):Int):=by
   obtain⟨x,hx⟩:∃ x,x=2 ^ i:=⟨_,rfl⟩;have:2 ^ (i+1)=2*x:=by rw[hx,Nat.pow_succ];omega
   rw[<- hx] at hpi;rw[this,<- hx,qww]<;>omega
  rw[qaU,cnd d0,em,qcE (by omega)];rfl) (by
  intro g;rw[qaU,cnd' (by omega)])
 have key:lp qaU K0 (((n:Int),1,0,()),())=_:=key;rw[qd8,key];rfl
theorem qwu {S f:Nat} (hS:S<9223372036854775808) (hf:f<=1000000):qdM (S:Int) (f:Int)=some (S.testBit f):=by
 have key:=qi0 (step:=qa1) (fun i=>((((S/2 ^ i:Nat):Int),(f:Int),(i:Int),()),())) f (r:=((((S/2 ^ f:Nat):Int),()),())) (by omega) (by
  intro g i hi;have d0:(i:Int)<(f:Int):=by omega
  have hd:(S/2 ^ i:Nat)<9223372036854775808:=Nat.lt_of_le_of_lt (Nat.div_le_self _ _) hS;have hq:iquo .i64 ((S/2 ^ i:Nat):Int) 2=((S/2 ^ (i+1):Nat):Int):=by
   obtain⟨x,hx⟩:∃ x,x=S/2 ^ i:=⟨_,rfl⟩;rw[Nat.pow_succ,<- Nat.div_div_eq_div_mul,<- hx];rw[<- hx] at hd;rw[qpk (by omega) (by omega) (by omega)];omega
  rw[qa1,cnd d0,hq,qcE (by omega)];rfl) (by
  intro g;rw[qa1,cnd' (by omega)])
 have e0:((S/2 ^ 0:Nat):Int)=(S:Int):=by simp
 rw[e0] at key;have key:lp qa1 K0 (((S:Int),(f:Int),0,()),())=_:=key;rw[qdM,key,bS0];dsimp only;congr 1;have:=qs2 S f;obtain⟨x,hx⟩:∃ x,x=S/2 ^ f:=⟨_,rfl⟩;rw[<- hx] at this ⊢;rw[qmR (by omega)];cases hb:S.testBit f with
 | true=>rw[hb] at this;have:=this.2 rfl;exact decide_eq_true (by omega)
 | false=>rw[hb] at this;exact decide_eq_false (fun e=>by have:=this.1 (by omega);exact absurd this (by decide))
theorem qvU {S n:Nat} (hS:S<9223372036854775808) (hn:n<=1000000):qcT (S:Int) (n:Int)=some ((popc n S:Nat):Int):=by
 have key:=qi0 (step:=qaO) (fun i=>(((S:Int),(n:Int),((popc i S:Nat):Int),(i:Int),()),())) n (r:=((((popc n S:Nat):Int),()),())) (by omega) (by
  intro g i hi;have d0:(i:Int)<(n:Int):=by omega
  have hp:=qtc i S;have i1:iadd .i64 (i:Int) 1=(i:Int)+1:=qcE (by omega);have i2:iadd .i64 ((popc i S:Nat):Int) 1=((popc i S:Nat):Int)+1:=qcE (by omega);rw[qaO,cnd d0,qwu hS (by omega),bS0,i1,i2,popc];cases hb:S.testBit i with
  | true=>rw[cond_true,if_pos rfl];rfl
  | false=>rw[cond_false,if_neg (by decide)];rfl) (by
  intro g;rw[qaO,cnd' (by omega)])
 have key:lp qaO K0 (((S:Int),(n:Int),0,0,()),())=_:=key;rw[qcT,key];rfl
def one0 (b:Bool):Rat:=if b then 1 else 0
def mulF (x:BA) (P:Nat->Rat) (k:Nat):Rat:=x.1*P k+(if k=0 then 0 else x.2*P (k-1))
def polF:List BA->Nat->Rat
 | []=>fun k=>if k=0 then 1 else 0
 | x::L=>mulF x (polF L)
theorem qtd (L:List BA):∀ k,polF L k=EE L fun j=>if j=k then 1 else 0:=by
 induction L with
 | nil => intro k; show (if k = 0 then (1 : Rat) else 0) = if 0 = k then 1 else 0
          by_cases h:k=0
          · subst h;rfl
          · rw[if_neg h,if_neg (fun e=>h e.symm)]
 | cons x L ih =>
  intro k;show mulF x (polF L) k=_;rw[mulF,EE,ih];congr 1;by_cases h:k=0
  · subst h;rw[if_pos rfl];have:EE L (fun j=>if j+1=0 then (1:Rat) else 0)=EE L fun j=>0*0:=quJ fun j _=>by rw[if_neg (by omega),Rat.mul_zero]
    rw[this,qyK,Rat.zero_mul,Rat.mul_zero]
  · rw [if_neg h, ih];congr 1;refine quJ fun j _=>?_
    by_cases e:j=k-1
    · rw[if_pos e,if_pos (by omega)]
    · rw[if_neg e,if_neg (by omega)]
theorem qxw (L:List BA):∀ k,L.length+1<=k->polF L k=0:=by
 induction L with
 | nil=>intro k h;exact if_neg (by simp at h;omega)
 | cons x L ih =>
  intro k h;simp only[List.length_cons] at h;show mulF x (polF L) k=0;rw[mulF,ih k (by omega),if_neg (by omega),ih (k-1) (by omega),Rat.mul_zero,Rat.mul_zero,Rat.add_zero]
theorem qv6 {L M:List BA} (h:L.Perm M):polF L=polF M:=by
 funext k;rw[qtd,qtd];exact qw9 h _
theorem qnt {n:Nat} (h:0<n):((n:Nat):Rat)≠0:=by
 intro e;have:(n:Nat)=0:=by exact_mod_cast e
 omega
theorem qqm {i n:Nat} (h:i<n):wq i (n+1)=wq i n*(((n-i:Nat):Rat)/((n+1:Nat):Rat)):=by
 obtain⟨j,rfl⟩:∃ j,n=i+j+1:=⟨n-i-1,by omega⟩;have e1:i+j+1+1-i-1=j+1:=by omega
 have e2:i+j+1-i-1=j:=by omega
 have e3:i+j+1-i=j+1:=by omega
 have a1:((fac (j+1):Nat):Rat)=((j+1:Nat):Rat)*((fac j:Nat):Rat):=by rw[fac];push_cast;rfl
 have a2:((fac (i+j+1+1):Nat):Rat)=((i+j+1+1:Nat):Rat)*((fac (i+j+1):Nat):Rat):=by rw[fac];push_cast;rfl
 have n1:=qnt (qwF (i+j+1));have n2:=qnt (show 0<i+j+1+1 by omega);simp only[wq,quo];rw[e1,e2,e3,a1,a2];generalize ((fac i:Nat):Rat)=x;generalize ((fac j:Nat):Rat)=y;generalize ((fac (i+j+1):Nat):Rat)=z at *;generalize ((j+1:Nat):Rat)=u;generalize ((i+j+1+1:Nat):Rat)=v at *;rw[Rat.div_def,Rat.div_def,Rat.div_def,Rat.inv_mul_rev]
 grind
theorem qvD {i n:Nat} (h:i<n):wq (i+1) (n+1)=wq i n*(((i+1:Nat):Rat)/((n+1:Nat):Rat)):=by
 obtain⟨j,rfl⟩:∃ j,n=i+j+1:=⟨n-i-1,by omega⟩;have e1:i+j+1+1-(i+1)-1=j:=by omega
 have e2:i+j+1-i-1=j:=by omega
 have a1:((fac (i+1):Nat):Rat)=((i+1:Nat):Rat)*((fac i:Nat):Rat):=by rw[fac];push_cast;rfl
 have a2:((fac (i+j+1+1):Nat):Rat)=((i+j+1+1:Nat):Rat)*((fac (i+j+1):Nat):Rat):=by rw[fac];push_cast;rfl
 simp only[wq,quo];rw[e1,e2,a1,a2];generalize ((fac i:Nat):Rat)=x;generalize ((fac j:Nat):Rat)=y;generalize ((fac (i+j+1):Nat):Rat)=z at *;generalize ((i+1:Nat):Rat)=u;generalize ((i+j+1+1:Nat):Rat)=v at *;rw[Rat.div_def,Rat.div_def,Rat.div_def,Rat.inv_mul_rev]
 grind
def fcP (p:AP):BA:=(p.2.1,one0 p.2.2)
def ekP (P:List AP):Nat->Rat:=polF (P.map fcP)
def wtP (P:List AP) (k:Nat):Rat:=wq k (P.length+1)*ekP P k
theorem quy {P Q:List AP} (h:P.Perm Q):ekP P=ekP Q:=qv6 (h.map fcP)
theorem qx0 (P:List AP) (p:AP):ekP (P++[p])=mulF (fcP p) (ekP P):=by
 have:(P++[p]).Perm (p::P):=List.perm_append_comm.trans (List.Perm.refl _);rw[quy this];rfl
theorem qwJ (P:List AP) {k:Nat} (h:P.length<k):ekP P k=0:=qxw _ k (by simp;omega)
theorem qyO:wtP [] 0=1:=by
 show wq 0 1*1=1;rw[Rat.mul_one];decide +kernel
abbrev LK:=Int×RAT×CELL
def lkF (P:List AP) (w:Nat->Rat) (i:Nat):LK :=
 if i=0 then (-1,canQ 1,true,canQ (w 0)) else
  let p:=(P[i-1]?).getD (0,0,false)
  ((p.1:Int),canQ p.2.1,p.2.2,canQ (w i))
def encK (P:List AP) (w:Nat->Rat):List LK:=(List.range (P.length+1)).map (lkF P w)
theorem qdq (P:List AP) (w:Nat->Rat):(encK P w).length=P.length+1:=by simp [encK]
theorem qel {P:List AP} {w:Nat->Rat} {i:Nat} (h:i<P.length+1):(encK P w)[i]?=some (lkF P w i):=by simp [encK,h]
theorem qlh {P:List AP} {w w':Nat->Rat} (h:∀ i,i<=P.length->w i=w' i):encK P w=encK P w':=by
 refine List.map_congr_left fun i hi=>?_
 have hi:=List.mem_range.1 hi;unfold lkF;split
 · rename_i e;subst e;rw[h 0 (by omega)]
 · rw[h i (by omega)]
theorem qvi (P:List AP) (w:Nat->Rat) (i:Nat):(lkF P w i).2.2.2=canQ (w i):=by
 unfold lkF;split
 · rename_i e;subst e;rfl
 · rfl
theorem qzq (P:List AP) (w:Nat->Rat) (i:Nat) (q:Rat):((lkF P w i).1,(lkF P w i).2.1,(lkF P w i).2.2.1,canQ q)=lkF P (fun j=>if j=i then q else w j) i:=by
 unfold lkF;split
 · rename_i e;subst e;simp
 · simp
theorem qq9 {P:List AP} {w:Nat->Rat} {i:Nat} (q:Rat):(encK P w).set i ((lkF P w i).1,(lkF P w i).2.1,(lkF P w i).2.2.1,canQ q)=encK P fun j=>if j=i then q else w j:=by
 rw[qzq];refine List.ext_getElem? fun j=>?_
 rw[List.getElem?_set];by_cases e:i=j
 · subst e;rw[if_pos rfl];by_cases hi:i<P.length+1
   · rw[if_pos (by rw[qdq];exact hi),qel hi]
   · rw[if_neg (by rw[qdq];exact hi),List.getElem?_eq_none (by rw[qdq];omega)]
 · rw [if_neg e];by_cases hj:j<P.length+1
   · rw [qel hj, qel hj];have:(if j=i then q else w j)=w j:=if_neg fun h=>e h.symm
     unfold lkF;split
     · rename_i e0;subst e0;simp only[this]
     · simp only[this]
   · rw[List.getElem?_eq_none (by rw[qdq];omega),List.getElem?_eq_none (by rw[qdq];omega)]
theorem qmN {P:List AP} {w:Nat->Rat} {i:Nat} (h:i<P.length):lkF P w (i+1)=((P[i].1:Int),canQ P[i].2.1,P[i].2.2,canQ (w (i+1))):=by
 simp [lkF,gE0 h]
theorem qwI (P:List AP) (w:Nat->Rat) (p:AP) (q:Rat):encK P w++[((p.1:Int),canQ p.2.1,p.2.2,canQ q)]=encK (P++[p]) fun j=>if j=P.length+1 then q else w j:=by
 have e:encK (P++[p]) (fun j=>if j=P.length+1 then q else w j)=(List.range (P.length+1)).map (lkF (P++[p]) fun j=>if j=P.length+1 then q else w j)++[lkF (P++[p]) (fun j=>if j=P.length+1 then q else w j) (P.length+1)]:=by
   unfold encK;rw[List.length_append,List.length_singleton,List.range_succ,List.map_append];rfl
 rw[e];congr 1
 · refine List.map_congr_left fun i hi => ?_
   have hi:=List.mem_range.1 hi;unfold lkF;split
   · rename_i e;subst e;simp
   · have : ¬ i = P.length + 1 := by omega
     rw[List.getElem?_append_left (by omega)];simp only[if_neg this]
 · simp [lkF]
structure qmh (P:List AP) (k g:Nat):Prop where
 nd:(P.map (·.1)).Nodup
 sz:ASz P k
 len:P.length<=20
 lt:∀ p∈P,p.1<g
 pos:∀ p∈P,0<p.2.1
theorem qyi:qfN=some (encK [] (wtP [])):=by
 rw[qfN,qnY,bS0,bS0];show some [_]=some [lkF [] (wtP []) 0];simp only[lkF,if_true,qyO]
theorem qw7 {P:List AP} {w:Nat->Rat} {f i:Nat} (hi:i<P.length) (he:P[i].1=f) (hn:∀ j (hj:j<P.length),j<i->P[j].1≠f) (hl:P.length<=1000000):qa0 (f:Int) (encK P w)=some (((i+1:Nat):Int),encK P w):=by
 have el:=qdq P w;have key:=qi0 (step:=qak) (fun k=>(((f:Int),((P.length+1:Nat):Int),(k:Int),()),((encK P w,()),()))) (i+1) (r:=.inr ((((i+1:Nat):Int),()),((encK P w,()),()))) (by omega) (by
  intro g k hk;have d0:(k:Int)<((P.length+1:Nat):Int):=by omega
  have d1:(0:Int)<=(k:Int):=by omega
  have d2:(k:Int)<((encK P w).length:Int):=by omega
  rw[qak,cnd d0,cnd2 d1 d2,tN0,qel (by omega),bS0];cases k with
  | zero=>rw[cnd' (by omega),qcE (by omega)];rfl
  | succ k =>
   have hne:¬ (lkF P w (k+1)).1=(f:Int):=by
    rw[qmN (by omega)];have:=hn k (by omega) (by omega);show ¬ ((P[k].1:Nat):Int)=_;omega
   rw[cnd (by omega),cnd' hne,qcE (by omega)];rfl) (by
  intro g;have d0:((i+1:Nat):Int)<((P.length+1:Nat):Int):=by omega
  have d1:(0:Int)<=((i+1:Nat):Int):=by omega
  have d2:((i+1:Nat):Int)<((encK P w).length:Int):=by omega
  have he':(lkF P w (i+1)).1=(f:Int):=by rw[qmN hi];show((P[i].1:Nat):Int)=_;omega
  rw[qak,cnd d0,cnd2 d1 d2,tN0,qel (by omega),bS0,cnd (by omega),cnd he'])
 have key:lp qak K0 (((f:Int),((P.length+1:Nat):Int),0,()),((encK P w,()),()))=_:=key;rw[qa0,el,key];rfl
theorem quH {P:List AP} {w:Nat->Rat} {f:Nat} (hn:∀ p∈P,p.1≠f) (hl:P.length<=1000000):qa0 (f:Int) (encK P w)=some (0,encK P w):=by
 have el:=qdq P w;have key:=qi0 (step:=qak) (fun k=>(((f:Int),((P.length+1:Nat):Int),(k:Int),()),((encK P w,()),()))) (P.length+1) (r:=.inl ((),((encK P w,()),()))) (by omega) (by
  intro g k hk;have d0:(k:Int)<((P.length+1:Nat):Int):=by omega
  have d1:(0:Int)<=(k:Int):=by omega
  have d2:(k:Int)<((encK P w).length:Int):=by omega
  rw[qak,cnd d0,cnd2 d1 d2,tN0,qel (by omega),bS0];cases k with
  | zero=>rw[cnd' (by omega),qcE (by omega)];rfl
  | succ k =>
   have hne:¬ (lkF P w (k+1)).1=(f:Int):=by
    rw[qmN (by omega)];have:=hn P[k] (gM0 (by omega));show ¬ ((P[k].1:Nat):Int)=_;omega
   rw[cnd (by omega),cnd' hne,qcE (by omega)];rfl) (by
  intro g;rw[qak,cnd' (by omega)])
 have key:lp qak K0 (((f:Int),((P.length+1:Nat):Int),0,()),((encK P w,()),()))=_:=key;rw[qa0,el,key];rfl
theorem qvB {P:List AP} {w:Nat->Rat} (hl:P.length<=1000000):qbt (encK P w)=some (encW P,encK P w):=by
 have el:=qdq P w;have key:=qi0 (step:=qay) (fun k=>((encW (P.take (k-1)),((P.length+1:Nat):Int),(k:Int),()),((encK P w,()),()))) (P.length+1) (r:=((encW P,()),((encK P w,()),()))) (by omega) (by
  intro g k hk;have d0:(k:Int)<((P.length+1:Nat):Int):=by omega
  have d1:(0:Int)<=(k:Int):=by omega
  have d2:(k:Int)<((encK P w).length:Int):=by omega
  rw[qay,cnd d0,cnd2 d1 d2,tN0,qel (by omega),bS0];cases k with
  | zero=>rw[cnd' (by omega),qcE (by omega)];rfl
  | succ k =>
   have hk':k<P.length:=by omega
   have e:encW (P.take (k+1))=encW (P.take k)++[((lkF P w (k+1)).1,(lkF P w (k+1)).2.1,(lkF P w (k+1)).2.2.1)]:=by
    rw[qmN hk'];exact qmL encP hk'
   rw[cnd (by omega),blt (by rw[qxZ,List.length_take];omega),cond_true,qcE (by omega)];show g ((encW (P.take k)++_,_,_,_),_)=g ((encW (P.take (k+1)),_,_,_),_);rw[e];rfl) (by
  intro g;rw[qay,cnd' (by omega),Nat.add_sub_cancel,List.take_of_length_le (Nat.le_refl _)])
 have key:lp qay K0 (([],((P.length+1:Nat):Int),0,()),((encK P w,()),()))=_:=key;rw[qbt,el,key];rfl
theorem qpl {a b:Nat} (ha:a<1000000) (hb:b<1000000):qc4 (a:Int) (b:Int)=some (canQ ((a:Rat)/(b:Rat))):=by
 have:=qqN (n:=(a:Int)) (d:=(b:Int)) (by omega) (by omega) (by omega) (by omega);rw[this];rfl
theorem qnA {a b:Nat} (ha:a<1000000) (hb:b<1000000):SzQ ((a:Rat)/(b:Rat)) 2:=by
 have h:∀ {n:Nat},n<1000000->SzQ (n:Rat) 1:=fun {n} hn=>by
  have:=SzQ.int (z:=(n:Int)) (by omega);exact this
 exact(h ha).div (h hb)
theorem qwf (b:Bool):SzQ (one0 b) 1:=by cases b;exact SzQ.zero;exact SzQ.one
def ekS (k:Nat):Nat->Nat
 | 0=>1
 | n+1=>2*ekS k n+k+2
theorem qux (k:Nat) {n m:Nat} (h:n<=m):ekS k n<=ekS k m:=by
 induction h with
 | refl=>exact Nat.le_refl _
 | step _ ih=>simp only[ekS];omega
theorem qsC {k n:Nat} (hk:k<=70) (hn:n<=20):ekS k n<=76546048:=by
 have h1:=qux k hn;have h2:ekS k 20<=ekS 70 20:=by
  have:∀ n,ekS k n<=ekS 70 n:=by
   intro n
   induction n with
   | zero=>exact Nat.le_refl _
   | succ n ih=>simp only[ekS];omega
  exact this 20
 have h3:ekS 70 20<=76546048:=by decide +kernel
 omega
theorem qyH {P:List AP} {k:Nat} (h:ASz P k):∀ i,SzQ (ekP P i) (ekS k P.length):=by
 induction P with
 | nil =>
  intro i;show SzQ (if i=0 then (1:Rat) else 0) 1;split
  · exact SzQ.one
  · exact SzQ.zero
 | cons p P ih =>
  intro i;have h1:SzQ p.2.1 k:=h p List.mem_cons_self;have ih:=ih fun x hx=>h x (List.mem_cons_of_mem _ hx)
  show SzQ (mulF (fcP p) (ekP P) i) _;unfold mulF;have a:SzQ ((fcP p).1*ekP P i) (k+ekS k P.length):=h1.mul (ih i);have b:SzQ (if i=0 then 0 else (fcP p).2*ekP P (i-1)) (1+ekS k P.length):=by
    split
    · exact SzQ.zero.mono (by omega)
    · exact(qwf p.2.2).mul (ih _)
  exact(a.add b).mono (by simp only[List.length_cons,ekS];omega)
theorem qpX {P:List AP} {k:Nat} (h:ASz P k) (hl:P.length<=20) {i:Nat} (hi:i<=P.length):SzQ (wtP P i) (30+ekS k P.length) :=
 (qxb (by omega) (by omega)).mul (qyH h i)
def extW (P:List AP) (p:AP) (i:Nat) (j:Nat):Rat :=
 if j<i then wtP P j else if j=i then (if j=P.length+1 then 0 else (p.2.1*wtP P j)*(((P.length+1-j:Nat):Rat)/((P.length+1+1:Nat):Rat))) else wtP (P++[p]) j
theorem qql {P:List AP} {p:AP} {j:Nat} (hj:j<=P.length+1):wtP (P++[p]) j =
  (if j=P.length+1 then 0 else (p.2.1*wtP P j)*(((P.length+1-j:Nat):Rat)/((P.length+1+1:Nat):Rat))) +
  (if j=0 then 0 else one0 p.2.2*(wtP P (j-1)*(((j-1+1:Nat):Rat)/((P.length+1+1:Nat):Rat)))):=by
 unfold wtP;rw[qx0,mulF,List.length_append,List.length_singleton];show wq j (P.length+1+1)*(p.2.1*ekP P j+_)=_;have a:(if j=P.length+1 then (0:Rat) else (p.2.1*(wq j (P.length+1)*ekP P j))*(((P.length+1-j:Nat):Rat)/((P.length+1+1:Nat):Rat)))=wq j (P.length+1+1)*(p.2.1*ekP P j):=by
  split
  · rw[qwJ P (by omega),Rat.mul_zero,Rat.mul_zero]
  · rw[qqm (i:=j) (n:=P.length+1) (by omega)];grind
 have b:(if j=0 then (0:Rat) else one0 p.2.2*(wq (j-1) (P.length+1)*ekP P (j-1)*(((j-1+1:Nat):Rat)/((P.length+1+1:Nat):Rat))))=wq j (P.length+1+1)*(if j=0 then 0 else (fcP p).2*ekP P (j-1)):=by
  split
  · rw[Rat.mul_zero]
  · have := qvD (i := j - 1) (n := P.length + 1) (by omega);rw[show j-1+1=j by omega] at this;rw[this,show j-1+1=j by omega];show one0 p.2.2*_=_*(one0 p.2.2*_)
    grind
 rw[a,b];grind
def qbc (P:List AP) (a:Nat):List AP:=P.take a++P.drop (a+1)
theorem qeE {P:List AP} {a:Nat} (h:a<P.length):(qbc P a).length+1=P.length:=by simp [qbc];omega
theorem qp2 {P:List AP} {a:Nat} (h:a<P.length):P.Perm (P[a]::qbc P a):=by
 have e:P=P.take a++P[a]::P.drop (a+1):=by rw[<- List.drop_eq_getElem_cons h,List.take_append_drop]
 have:(P.take a++P[a]::P.drop (a+1)).Perm (P[a]::(P.take a++P.drop (a+1))):=List.perm_middle;exact(List.Perm.of_eq e).trans this
theorem qo4 {P:List AP} {a:Nat}:∀ p∈qbc P a,p∈P:=fun p hp=>by
 rcases List.mem_append.1 hp with h | h
 · exact List.mem_of_mem_take h
 · exact List.mem_of_mem_drop h
theorem qra {P:List AP} {a:Nat} (h:a<P.length) (k:Nat):ekP P k=P[a].2.1*ekP (qbc P a) k+(if k=0 then 0 else one0 P[a].2.2*ekP (qbc P a) (k-1)):=by
 rw[quy (qp2 h)];rfl
theorem qmh.out {P:List AP} {k g:Nat} (h:qmh P k g) {a:Nat} (ha:a<P.length):qmh (qbc P a) k g:=by
 have hp:=(qp2 ha).map (·.1);have hn:=hp.nodup_iff.1 h.nd;exact⟨(List.nodup_cons.1 hn).2,fun p hp=>h.sz p (qo4 p hp),by have:=qeE ha;have:=h.len;omega,fun p hp=>h.lt p (qo4 p hp),fun p hp=>h.pos p (qo4 p hp)⟩
theorem qzY {P:List AP} {a i:Nat} (ha:a<P.length) (hi:i<P.length) (hz:P[a].2.1≠0) (hok:P[a].2.2=false) :
  wtP P i*(((P.length+1:Nat):Rat)/((P.length-i:Nat):Rat))*P[a].2.1⁻¹=wtP (qbc P a) i:=by
 have hl:=qeE ha;unfold wtP;rw[qra ha,hok,qqm (i:=i) (n:=P.length) hi,show(qbc P a).length+1=P.length by omega];have n1:=qnt (show 0<P.length-i by omega);have n2:=qnt (show 0<P.length+1 by omega);generalize wq i P.length=x;generalize ekP (qbc P a) i=y;generalize ekP (qbc P a) (i-1)=y2;generalize ((P.length-i:Nat):Rat)=u at *;generalize ((P.length+1:Nat):Rat)=v at *;generalize P[a].2.1=z at *;simp only[one0,Bool.false_eq_true,if_false,Rat.zero_mul,ite_self,Rat.add_zero]
 grind
def nxP (P:List AP) (a i:Nat):Rat:=wq (i+1) (P.length+1)*ekP (qbc P a) i
theorem qzk {P:List AP} {a i:Nat} (ha:a<P.length) (hi:i<P.length):nxP P a i*(((P.length+1:Nat):Rat)/((i+1:Nat):Rat))=wtP (qbc P a) i:=by
 have hl:=qeE ha;unfold wtP nxP;rw[qvD (i:=i) (n:=P.length) hi,show(qbc P a).length+1=P.length by omega];have n1:=qnt (show 0<i+1 by omega);have n2:=qnt (show 0<P.length+1 by omega);generalize wq i P.length=x;generalize ekP (qbc P a) i=y;generalize ((i+1:Nat):Rat)=u at *;generalize ((P.length+1:Nat):Rat)=v at *
 grind
theorem qxE {P:List AP} {a i:Nat} (ha:a<P.length) (hi:i<P.length) (hok:P[a].2.2=true) :
  wtP P i-wtP (qbc P a) i*P[a].2.1*(((P.length-i:Nat):Rat)/((P.length+1:Nat):Rat))=if i=0 then 0 else nxP P a (i-1):=by
 have hl:=qeE ha;unfold wtP nxP;rw[qra ha,hok,qqm (i:=i) (n:=P.length) hi,show(qbc P a).length+1=P.length by omega];cases i with
 | zero =>
  simp only[if_true];generalize wq 0 P.length=x;generalize ekP (qbc P a) 0=y;generalize P[a].2.1=z at *
  grind
 | succ i =>
  rw[if_neg (by omega),if_neg (by omega),Nat.add_sub_cancel,qqm (i:=i+1) (n:=P.length) hi];generalize wq (i+1) P.length=x;generalize ekP (qbc P a) (i+1)=y;generalize ekP (qbc P a) i=y2;generalize P[a].2.1=z at *;simp only[one0,if_true]
  grind
theorem qzj {P:List AP} {a:Nat} (ha:a<P.length) (hok:P[a].2.2=true):wtP P P.length=nxP P a (P.length-1):=by
 have hl:=qeE ha;unfold wtP nxP;rw[qra ha,hok,qwJ (qbc P a) (by omega),if_neg (by omega),show P.length-1+1=P.length by omega];simp only[one0,if_true]
 grind
theorem qAg {P:List AP} {k g a:Nat} (h:qmh P k g) (ha:a<P.length) (hk:k<=70) {i:Nat} (hi:i<P.length):SzQ (nxP P a i) 100000000:=by
 have hl:=qeE ha;have h2:=h.out ha;have hS:=qsC (k:=k) (n:=(qbc P a).length) hk h2.len;have:=h.len;exact((qxb (s:=i+1) (n:=P.length+1) (by omega) (by omega)).mul (qyH h2.sz i)).mono (by omega)
def bkL (n i:Nat) (w:Nat->Rat):List RAT:=(List.range n).map fun j=>if i<=j then canQ (w j) else zR
theorem qk9 (n i:Nat) (w:Nat->Rat):(bkL n i w).length=n:=by simp [bkL]
theorem qpw {n i j:Nat} (w:Nat->Rat) (h:j<n):(bkL n i w)[j]?=some (if i<=j then canQ (w j) else zR):=by simp [bkL,h]
theorem qzJ {n i:Nat} (w:Nat->Rat):(bkL n (i+1) w).set i (canQ (w i))=bkL n i w:=by
 refine List.ext_getElem? fun j=>?_
 rw[List.getElem?_set];by_cases e:i=j
 · subst e;by_cases hi:i<n
   · rw[if_pos rfl,if_pos (by rw[qk9];exact hi),qpw w hi,if_pos (Nat.le_refl _)]
   · rw[if_pos rfl,if_neg (by rw[qk9];exact hi),List.getElem?_eq_none (by rw[qk9];omega)]
 · rw [if_neg e];by_cases hj:j<n
   · rw [qpw w hj, qpw w hj];by_cases h:i<=j
     · rw[if_pos (by omega),if_pos h]
     · rw[if_neg (by omega),if_neg h]
   · rw[List.getElem?_eq_none (by rw[qk9];omega),List.getElem?_eq_none (by rw[qk9];omega)]
theorem qyd (n:Nat) (w:Nat->Rat):bkL n n w=List.replicate n zR:=by
 rw[List.eq_replicate_iff];refine⟨qk9 _ _ _,fun x hx=>?_⟩;obtain⟨j,hj,rfl⟩:=List.mem_map.1 hx;have:=List.mem_range.1 hj;exact if_neg (by omega)
theorem qzK (n:Nat) (w:Nat->Rat):bkL n 0 w=flo n w:=List.map_congr_left fun j _=>if_pos (Nat.zero_le _)
theorem quK {P:List AP} {k g:Nat} (h:qmh P k g) (hk:k<=70) {a:Nat} (ha:a<P.length) :
  qbw ((a+1:Nat):Int) (encK P (wtP P))=some (flo P.length (wtP (qbc P a)),encK P (wtP P)):=by
 have hl:=qeE ha;have hl2:=h.len;have el:=qdq P (wtP P);obtain⟨n,en⟩:∃ n,n=P.length:=⟨_,rfl⟩;have hS:=qsC (k:=k) (n:=P.length) hk (by omega);have wsz:∀ i,i<=P.length->SzQ (wtP P i) 100000000:=fun i hi=>(qpX h.sz hl2 hi).mono (by omega)
 have hQ:=h.out ha;have hS2:=qsC (k:=k) (n:=(qbc P a).length) hk hQ.len;have qsz:∀ i,i<P.length->SzQ (wtP (qbc P a) i) 100000000:=fun i hi=>(qpX hQ.sz hQ.len (by omega)).mono (by omega)
 have hz:SzQ P[a].2.1 k:=h.sz _ (gM0 ha);have hpos:=h.pos _ (gM0 ha);have hz0:P[a].2.1≠0:=by intro e;rw[e] at hpos;exact absurd hpos (by decide)
 obtain⟨L,eL⟩:∃ L,L=lkF P (wtP P) (a+1):=⟨_,rfl⟩;have eL':=eL;rw[qmN ha] at eL';have L1:L.2.1=canQ P[a].2.1:=by rw[eL']
 have L2:L.2.2.1=P[a].2.2:=by rw[eL']
 obtain⟨nx,hnx⟩:∃ nx:Nat->Rat,nx=fun m=>if P[a].2.2 then (if m<n then nxP P a (n-1-m) else 0) else wtP P n:=⟨_,rfl⟩
 obtain⟨ov,hov⟩:∃ ov:Rat,ov=P[a].2.1⁻¹:=⟨_,rfl⟩;have pn1:iadd .i64 ((n:Nat):Int) 1=((n+1:Nat):Int):=qcE (by omega);have key:=qi0 (step:=qan) (fun m=>(((n:Int),bkL n (n-m) (wtP (qbc P a)),((n:Nat):Int)-1-(m:Int),()),((L.1,L.2.1.1.1,L.2.1.1.2,L.2.1.2,L.2.2.1,L.2.2.2.1.1,L.2.2.2.1.2,L.2.2.2.2,()),((canQ ov).1.1,(canQ ov).1.2,(canQ ov).2,()),((canQ (nx m)).1.1,(canQ (nx m)).1.2,(canQ (nx m)).2,()),(encK P (wtP P),()),()))) n
  (r:=((bkL n 0 (wtP (qbc P a)),()),((encK P (wtP P),()),()))) (by omega) (by
  intro g m hm;obtain⟨i,hi⟩:∃ i,n=i+m+1:=⟨n-m-1,by omega⟩;have ei:((n:Nat):Int)-1-(m:Int)=(i:Int):=by omega
  have ei2:((n:Nat):Int)-1-((m+1:Nat):Int)=(i:Int)-1:=by omega
  have en1:n-m=i+1:=by omega
  have en2:n-(m+1)=i:=by omega
  have d0:((i:Nat):Int)>=0:=by omega
  have d1:(0:Int)<=(i:Int):=by omega
  have d2:(i:Int)<((encK P (wtP P)).length:Int):=by rw[el];omega
  have d3:(i:Int)<((bkL n (i+1) (wtP (qbc P a))).length:Int):=by rw[qk9];omega
  have g1:=qel (P:=P) (w:=wtP P) (i:=i) (by omega);have g2:=qpw (n:=n) (i:=i+1) (j:=i) (wtP (qbc P a)) (by omega);have q2:isub .i64 (n:Int) (i:Int)=((n-i:Nat):Int):=by rw[qcl (by omega) (by omega)];omega
  have q3:isub .i64 (i:Int) 1=(i:Int)-1:=by rw[qcl (by omega) (by omega)]
  have q1:iadd .i64 (i:Int) 1=((i+1:Nat):Int):=qcE (by omega);have hset:=qzJ (n:=n) (i:=i) (wtP (qbc P a));show qan g (((n:Int),bkL n (n-m) (wtP (qbc P a)),((n:Nat):Int)-1-(m:Int),()),((L.1,L.2.1.1.1,L.2.1.1.2,L.2.1.2,L.2.2.1,L.2.2.2.1.1,L.2.2.2.1.2,L.2.2.2.2,()),((canQ ov).1.1,(canQ ov).1.2,(canQ ov).2,()),((canQ (nx m)).1.1,(canQ (nx m)).1.2,(canQ (nx m)).2,()),(encK P (wtP P),()),()))=g (((n:Int),bkL n (n-(m+1)) (wtP (qbc P a)),((n:Nat):Int)-1-((m+1:Nat):Int),()),((L.1,L.2.1.1.1,L.2.1.1.2,L.2.1.2,L.2.2.1,L.2.2.2.1.1,L.2.2.2.1.2,L.2.2.2.2,()),((canQ ov).1.1,(canQ ov).1.2,(canQ ov).2,()),((canQ (nx (m+1))).1.1,(canQ (nx (m+1))).1.2,(canQ (nx (m+1))).2,()),(encK P (wtP P),()),()));rw[ei,ei2,en1,en2,qan,cnd d0,L2];cases hok:P[a].2.2 with
  | false =>
   have f1:=qpl (a:=n+1) (b:=n-i) (by omega) (by omega);have s1:=qnA (a:=n+1) (b:=n-i) (by omega) (by omega);have hw:=wsz i (by omega);have m1:=qcN (hw.sm (by decide)) (s1.sm (by decide));rw[qbj,qbj] at m1;have z1:SzQ (wtP P i*(((n+1:Nat):Rat)/((n-i:Nat):Rat))) 200000000:=(hw.mul s1).mono (by omega);have hi2:SzQ ov k:=by rw[hov];exact hz.inv
   have m2:=qcN (z1.sm (by decide)) (hi2.sm (by omega));rw[qbj,qbj] at m2;have m2:qax (canQ (wtP P i*(((n+1:Nat):Rat)/((n-i:Nat):Rat)))) (((canQ ov).1.1,(canQ ov).1.2),(canQ ov).2)=_:=m2;have e1:=qzY ha (i:=i) (by omega) hz0 hok;rw[<- en,<- hov] at e1;have e2:nx (m+1)=nx m:=by rw[hnx];simp only[hok,Bool.false_eq_true,if_false]
   rw[Bool.not_false,cond_true,cnd2 d1 d2,tN0,g1,bS0,pn1,q2,f1,bS0,qvi,m1,bS0,m2,bS0,cnd2 d1 d3,g2,bS0,e1,hset,q3,e2]
  | true =>
   have f1:=qpl (a:=n+1) (b:=i+1) (by omega) (by omega);have s1:=qnA (a:=n+1) (b:=i+1) (by omega) (by omega);have enx:nx m=nxP P a i:=by rw[hnx];simp only[hok,if_true];rw[if_pos hm,show n-1-m=i by omega]
   have nsz:=qAg h ha hk (i:=i) (by omega);have m1:=qcN (nsz.sm (by decide)) (s1.sm (by decide));rw[qbj,qbj] at m1;have e1:=qzk ha (i:=i) (by omega);rw[<- en] at e1;rw[e1] at m1;have m1:qax (((canQ (nxP P a i)).1.1,(canQ (nxP P a i)).1.2),(canQ (nxP P a i)).2) (canQ (((n+1:Nat):Rat)/((i+1:Nat):Rat)))=some (canQ (wtP (qbc P a) i)):=m1;have d4:(i:Int)<((bkL n i (wtP (qbc P a))).length:Int):=by rw[qk9];omega
   have g3:=qpw (n:=n) (i:=i) (j:=i) (wtP (qbc P a)) (by omega);rw[if_pos (Nat.le_refl _)] at g3;have hq:=qsz i (by omega);have m2:=qcN (hq.sm (by decide)) (hz.sm (by omega));rw[qbj,qbj] at m2;have m2:qax (canQ (wtP (qbc P a) i)) ((L.2.1.1.1,L.2.1.1.2),L.2.1.2)=some (canQ (wtP (qbc P a) i*P[a].2.1)):=by
    show qax _ L.2.1=_;rw[L1];exact m2
   have f2:=qpl (a:=n-i) (b:=n+1) (by omega) (by omega);have s2:=qnA (a:=n-i) (b:=n+1) (by omega) (by omega);have z2:SzQ (wtP (qbc P a) i*P[a].2.1) 200000000:=(hq.mul hz).mono (by omega);have m3:=qcN (z2.sm (by decide)) (s2.sm (by decide));rw[qbj,qbj] at m3;have z3:SzQ (wtP (qbc P a) i*P[a].2.1*(((n-i:Nat):Rat)/((n+1:Nat):Rat))) 300000000:=(z2.mul s2).mono (by omega);have hw:=wsz i (by omega);have m4:=qrI (hw.sm (by decide)) (z3.sm (by decide));rw[qbj,qbj] at m4;have e2:=qxE ha (i:=i) (by omega) hok;rw[<- en] at e2;rw[e2] at m4;have e3:nx (m+1)=if i=0 then 0 else nxP P a (i-1):=by
    rw[hnx];simp only[hok,if_true];by_cases h0:i=0
    · rw[if_neg (by omega),if_pos h0]
    · rw[if_pos (by omega),if_neg h0,show n-1-(m+1)=i-1 by omega]
   rw[Bool.not_true,cond_false,pn1,q1,f1,bS0,enx,m1,bS0,cnd2 d1 d3,tN0,g2,bS0,cnd2 d1 d2,g1,bS0,hset,cnd2 d1 d4,g3,bS0,m2,bS0,q2,f2,bS0,m3,bS0,qvi,m4,bS0,q3,e3]) (by
  intro g;rw[Nat.sub_self,qan,cnd' (by omega)])
 have i1:isub .i64 ((P.length+1:Nat):Int) 1=(n:Int):=by rw[qcl (by omega) (by omega)];omega
 have i2:isub .i64 (n:Int) 1=((n:Nat):Int)-1-((0:Nat):Int):=by rw[qcl (by omega) (by omega)];omega
 have c0:(0:Int)<=((a+1:Nat):Int):=by omega
 have c1:((a+1:Nat):Int)<((P.length+1:Nat):Int):=by omega
 have hinv:=qrO (hz.sm (by omega));rw[qbj,if_neg hz0,<- hov] at hinv;have c2:(decide ((n:Int)=(n:Int))&&decide ((0:Int)<=(n:Int))&&decide ((((56:Nat):Int)*(n:Int))<=281474976710656)&&decide ((n:Int)<=9223372036854775807))=true:=by
  simp only[Bool.and_eq_true,decide_eq_true_eq];refine⟨⟨⟨trivial,by omega⟩,?_⟩,by omega⟩;show(56:Int)*(n:Int)<=281474976710656;omega
 have ev:nx 0=wtP P n:=by
  rw[hnx];cases hok:P[a].2.2 with
  | false=>simp
  | true=>simp only[if_true];rw[if_pos (by omega),en,qzj ha hok,Nat.sub_zero]
 have gn:=qel (P:=P) (w:=wtP P) (i:=n) (by omega);rw[qbw,el,cnd2 c0 c1,tN0,qel (by omega),bS0,i1,c2,cond_true,<- eL,L1,hinv,bS0,cnd2 (by omega) (by omega),tN0,gn,bS0,i2];dsimp only;rw[qvi,<- ev];have key:lp qan K0 (((n:Int),List.replicate n (((false,[]),[]):RAT),((n:Nat):Int)-1-((0:Nat):Int),()),((L.1,(canQ P[a].2.1).1.1,(canQ P[a].2.1).1.2,(canQ P[a].2.1).2,L.2.2.1,L.2.2.2.1.1,L.2.2.2.1.2,L.2.2.2.2,()),((canQ ov).1.1,(canQ ov).1.2,(canQ ov).2,()),((canQ (nx 0)).1.1,(canQ (nx 0)).1.2,(canQ (nx 0)).2,()),(encK P (wtP P),()),()))=some ((bkL n 0 (wtP (qbc P a)),()),((encK P (wtP P),()),())):=by
  have k2:=key;rw[Nat.sub_zero,qyd,L1] at k2;exact k2
 rw[key,qzK,en];rfl
theorem qwC {n k:Nat} {w:Nat->Rat} (hw:∀ i,i<n->SzQ (w i) k) (hk:1+n*(k+1)<1099511627776) (hn:n<1000000):qiE (flo n w)=some (canQ (rsum w n)):=by
 have hv:∀ i,i<n->vals (flo n w) i=w i:=fun i hi=>by
  rw[vals,qtC w hi];show rv (canQ (w i))=w i;exact qbj _
 have h:=qrF (l:=flo n w) (k:=k) (fun x hx=>by
  obtain⟨i,hi,rfl⟩:=List.mem_map.1 hx;have hi:=List.mem_range.1 hi;refine(hw i hi).sm ?_;have:1*(k+1)<=n*(k+1):=Nat.mul_le_mul_right _ (by omega);omega) (fun i hi=>by rw[qjt] at hi;rw[hv i hi];exact hw i hi) (by rw[qjt];exact hk) (by rw[qjt];omega)
 rw[h,qjt];congr 2;exact qnf fun i hi=>hv i hi
def sumP (P:List AP) (a:Nat):Rat:=rsum (wtP (qbc P a)) P.length
theorem qv9 {P:List AP} {k g:Nat} (h:qmh P k g) (hk:k<=70) {a:Nat} (ha:a<P.length):∀ i,i<P.length->SzQ (wtP (qbc P a) i) (30+ekS k (qbc P a).length):=fun i hi=>by
 have:=qeE ha;exact qpX (h.out ha).sz (h.out ha).len (by omega)
theorem qyg {P:List AP} {k g:Nat} (h:qmh P k g) (hk:k<=70) {a:Nat} (ha:a<P.length) :
  qaX ((a+1:Nat):Int) (encK P (wtP P))=some (canQ (sumP P a),0,encK P (wtP P)):=by
 have el:=qdq P (wtP P);have hl2:=h.len;have hS2:=qsC (k:=k) (n:=(qbc P a).length) hk (h.out ha).len;have hs:=qwC (n:=P.length) (w:=wtP (qbc P a)) (k:=100000000) (fun i hi=>(qv9 h hk ha i hi).mono (by omega)) (by omega) (by omega);rw[qaX,el,cnd' (by omega),cnd' (by omega),cnd' (by omega),quK h hk ha,bS0];dsimp only;rw[hs];rfl
theorem qzz {P:List AP} {f:Nat}:(∀ p∈P,p.1≠f)\/∃ a,∃ ha:a<P.length,P[a].1=f/\∀ j (hj:j<P.length),j<a->P[j].1≠f:=by
 induction P with
 | nil=>exact .inl (by simp)
 | cons p P ih =>
  by_cases e:p.1=f
  · exact .inr ⟨0,by simp,e,fun j _ hj=>by omega⟩
  · rcases ih with h | ⟨a, ha, h1, h2⟩
    · exact .inl fun x hx=>by rcases List.mem_cons.1 hx with rfl | hx;exact e;exact h x hx
    · refine .inr ⟨a + 1, by simpa using ha, by simpa using h1, fun j hj hja => ?_⟩;cases j with
      | zero=>exact e
      | succ j=>simpa using h2 j (by simpa using hj) (by omega)
theorem qmh.snoc {P:List AP} {k g:Nat} (h:qmh P k g) {f:Nat} {q:Rat} {ok:Bool} (hf:∀ p∈P,p.1≠f) (hq:SzQ q k) (hq0:0<q) (hl:P.length<20) (hfg:f<g):qmh (P++[(f,q,ok)]) k g:=by
 have hp:(P++[((f,q,ok):AP)]).Perm ((f,q,ok)::P):=List.perm_append_comm.trans (List.Perm.refl _);have hmem:∀ p∈P++[((f,q,ok):AP)],p=(f,q,ok)\/p∈P:=fun p hp=>by
   rcases List.mem_append.1 hp with h | h
   · exact .inr h
   · exact .inl (List.mem_singleton.1 h)
 refine⟨?_,fun p hp=>?_,by rw[List.length_append];simp;omega,fun p hp=>?_,fun p hp=>?_⟩
 · rw [(hp.map (·.1)).nodup_iff];refine List.nodup_cons.2 ⟨fun hm=>?_,h.nd⟩;obtain⟨p,hp,e⟩:=List.mem_map.1 hm;exact hf p hp e
 · rcases hmem p hp with rfl | h'
   · exact hq
   · exact h.sz p h'
 · rcases hmem p hp with rfl | h'
   · exact hfg
   · exact h.lt p h'
 · rcases hmem p hp with rfl | h'
   · exact hq0
   · exact h.pos p h'
theorem ekS8 {k n:Nat} (hk:k<=70) (hn:n<=8):ekS k n<=20000:=by
 have h1:=qux k hn;have h2:ekS k 8<=ekS 70 8:=by
  have:∀ n,ekS k n<=ekS 70 n:=by
   intro n
   induction n with
   | zero=>exact Nat.le_refl _
   | succ n ih=>simp only[ekS];omega
  exact this 8
 have h3:ekS 70 8<=20000:=by decide +kernel
 omega
theorem qqD {f:Nat->Rat} {k:Nat}:∀ n,(∀ i,i<n->SzQ (f i) k)->SzQ (rsum f n) (1+n*(k+1)):=by
 intro n
 induction n with
 | zero=>intro _;exact SzQ.zero.mono (by omega)
 | succ n ih =>
  intro h;have h1:=ih fun i hi=>h i (by omega)
  have e:(n+1)*(k+1)=n*(k+1)+(k+1):=Nat.succ_mul _ _;exact(h1.add (h n (by omega))).mono (by omega)
theorem qyX {P:List AP} {k g a:Nat} (h:qmh P k g) (hk:k<=70) (hl:P.length<=8) (ha:a<P.length):SzQ (sumP P a) 170000:=by
 have hS:=ekS8 (k:=k) (n:=(qbc P a).length) hk (by have:=qeE ha;omega);have:=qqD (k:=20030) P.length (fun i hi=>(qv9 h hk ha i hi).mono (by omega));refine this.mono ?_;have:P.length*(20030+1)<=8*(20030+1):=Nat.mul_le_mul_right _ hl;omega
theorem qip:qbl=some true:=by decide +kernel
theorem qxW {n k:Nat} {o:Nat->Rat} (ho:∀ f,f<n->SzQ (o f) k) (hk:k<91625968980) (hn:n<=1000000):qc5 (flo n o) (flo n o)=some true:=by
 refine qyo (n:=k) (m:=k) hk hk (fun x hx=>?_) rfl (by rw[qjt];omega) (fun i hi hi'=>?_)
 · obtain ⟨f, hf, rfl⟩ := List.mem_map.1 hx;exact(ho f (List.mem_range.1 hf)).szR
 · rw [qjt] at hi;have:=qtC o hi;rw[gE0 hi'] at this;have e:=Option.some.inj this;exact⟨_,ho i hi,e,by rw[e,qbj]⟩
theorem qvC {P:List AP} {k g:Nat} (h:qmh P k g) {f:Nat} {q:Rat} {ok:Bool} {y:RAT} (hy:Sm y) (ey:rv y=q) (hf:∀ p∈P,p.1≠f) (hq:SzQ q k) (hq0:0<q) (hk:k<=70) (hl:P.length<20) :
  qaf (f:Int) y ok (encK P (wtP P))=some (0,encK (P++[(f,q,ok)]) (wtP (P++[(f,q,ok)]))):=by
 obtain⟨p,ep⟩:∃ p:AP,p=(f,q,ok):=⟨_,rfl⟩;have hl2:=h.len;have el:=qdq P (wtP P);have hS:=qsC (k:=k) (n:=P.length) hk (by omega);have wsz:∀ i,i<=P.length->SzQ (wtP P i) 100000000:=fun i hi=>(qpX h.sz hl2 hi).mono (by omega)
 obtain⟨N,eN⟩:∃ N,N=P.length+1:=⟨_,rfl⟩;have hsnoc:=qwI P (wtP P) p 0;have e0:encK (P++[p]) (fun j=>if j=P.length+1 then 0 else wtP P j)=encK (P++[p]) (extW P p N):=by
  refine qlh fun j hj=>?_
  simp only[List.length_append,List.length_singleton] at hj;show(if j=P.length+1 then 0 else wtP P j)=extW P p N j;unfold extW;by_cases e:j=P.length+1
  · rw[if_pos e,if_neg (by omega),if_pos (by omega),if_pos e]
  · rw[if_neg e,if_pos (by omega)]
 have ell:∀ w,(encK (P++[p]) w).length=N+1:=fun w=>by rw[qdq,List.length_append];simp [eN]
 have pn1:iadd .i64 ((N:Nat):Int) 1=((N+1:Nat):Int):=qcE (by omega);have key:=qi0 (step:=qao) (fun m=>((ok,(N:Int),((N:Nat):Int)-1-(m:Int),()),((y.1.1,y.1.2,y.2,()),(encK (P++[p]) (extW P p (N-m)),()),()))) N
  (r:=((),((encK (P++[p]) (extW P p 0),()),()))) (by omega) (by
  intro g m hm;obtain⟨i,hi⟩:∃ i,N=i+m+1:=⟨N-m-1,by omega⟩;have ei:((N:Nat):Int)-1-(m:Int)=(i:Int):=by omega
  have ei2:((N:Nat):Int)-1-((m+1:Nat):Int)=(i:Int)-1:=by omega
  have en1:N-m=i+1:=by omega
  have en2:N-(m+1)=i:=by omega
  have hiN:i<N:=by omega
  have d0:((i:Nat):Int)>=0:=by omega
  have d1:(0:Int)<=(i:Int):=by omega
  have d2:(i:Int)<((encK (P++[p]) (extW P p (i+1))).length:Int):=by rw[ell];omega
  have g1:=qel (P:=P++[p]) (w:=extW P p (i+1)) (i:=i) (by rw[List.length_append];simp;omega);have wi:(lkF (P++[p]) (extW P p (i+1)) i).2.2.2=canQ (wtP P i):=by rw[qvi,extW,if_pos (by omega)]
  have hw:=wsz i (by omega);have q1:iadd .i64 (i:Int) 1=((i+1:Nat):Int):=qcE (by omega);have q2:isub .i64 (N:Int) (i:Int)=((N-i:Nat):Int):=by rw[qcl (by omega) (by omega)];omega
  have q3:isub .i64 (i:Int) 1=(i:Int)-1:=by rw[qcl (by omega) (by omega)]
  have f1:=qpl (a:=i+1) (b:=N+1) (by omega) (by omega);have f2:=qpl (a:=N-i) (b:=N+1) (by omega) (by omega);have s1:=qnA (a:=i+1) (b:=N+1) (by omega) (by omega);have s2:=qnA (a:=N-i) (b:=N+1) (by omega) (by omega);have m1:=qcN hy (hw.sm (by decide));rw[ey,qbj] at m1;have m1:qax ((y.1.1,y.1.2),y.2) (canQ (wtP P i))=some (canQ (q*wtP P i)):=m1;have z1:SzQ (q*wtP P i) 200000000:=(hq.mul hw).mono (by omega);have m2:=qcN (z1.sm (by decide)) (s2.sm (by decide));rw[qbj,qbj] at m2;have fin0:extW P p i i=q*wtP P i*(((N-i:Nat):Rat)/((N+1:Nat):Rat)):=by
    rw[extW,if_neg (by omega),if_pos rfl,if_neg (by omega),ep,eN]
  show qao g ((ok,(N:Int),((N:Nat):Int)-1-(m:Int),()),((y.1.1,y.1.2,y.2,()),(encK (P++[p]) (extW P p (N-m)),()),()))=g ((ok,(N:Int),((N:Nat):Int)-1-((m+1:Nat):Int),()),((y.1.1,y.1.2,y.2,()),(encK (P++[p]) (extW P p (N-(m+1))),()),()));rw[ei,ei2,en1,en2,qao,cnd d0,cnd2 d1 d2,tN0,g1,bS0,wi];cases hok:ok with
  | true =>
    have a1:(0:Int)<=((i+1:Nat):Int):=by omega
    have a2:((i+1:Nat):Int)<((encK (P++[p]) (extW P p (i+1))).length:Int):=by rw[ell];omega
    have g2:=qel (P:=P++[p]) (w:=extW P p (i+1)) (i:=i+1) (by rw[List.length_append];simp;omega);have m3:=qcN (hw.sm (by decide)) (s1.sm (by decide));rw[qbj,qbj] at m3;have z3:SzQ (wtP P i*(((i+1:Nat):Rat)/((N+1:Nat):Rat))) 200000000:=(hw.mul s1).mono (by omega);have z4:SzQ (extW P p (i+1) (i+1)) 400000000:=by
     rw[extW,if_neg (by omega),if_pos rfl];split
     · exact SzQ.zero.mono (by decide)
     · have hw' := wsz (i + 1) (by omega);have s3:=qnA (a:=P.length+1-(i+1)) (b:=P.length+1+1) (by omega) (by omega);rw[ep];exact((hq.mul hw').mul s3).mono (by omega)
    have m4:=qg7 (z4.sm (by decide)) (z3.sm (by decide));rw[qbj,qbj] at m4;have fin1:extW P p (i+1) (i+1)+wtP P i*(((i+1:Nat):Rat)/((N+1:Nat):Rat))=extW P p i (i+1):=by
     have hs:=qql (P:=P) (p:=p) (j:=i+1) (by omega);rw[if_neg (show ¬ i+1=0 by omega),Nat.add_sub_cancel,show one0 p.2.2=1 by rw[ep,hok];rfl,Rat.one_mul] at hs;have e1:extW P p i (i+1)=wtP (P++[p]) (i+1):=by rw[extW,if_neg (by omega),if_neg (by omega)]
     have e2:extW P p (i+1) (i+1)=if i+1=P.length+1 then 0 else (p.2.1*wtP P (i+1))*(((P.length+1-(i+1):Nat):Rat)/((P.length+1+1:Nat):Rat)):=by rw[extW,if_neg (by omega),if_pos rfl]
     rw[e1,e2,hs,eN]
    have u1:=qq9 (P:=P++[p]) (w:=extW P p (i+1)) (i:=i+1) (extW P p i (i+1));have d3:(i:Int)<(((encK (P++[p]) (fun j=>if j=i+1 then extW P p i (i+1) else extW P p (i+1) j))).length:Int):=by rw[ell];omega
    have g3:=qel (P:=P++[p]) (w:=fun j=>if j=i+1 then extW P p i (i+1) else extW P p (i+1) j) (i:=i) (by rw[List.length_append];simp;omega);have u2:=qq9 (P:=P++[p]) (w:=fun j=>if j=i+1 then extW P p i (i+1) else extW P p (i+1) j) (i:=i) (extW P p i i);rw[cond_true,q1,cnd2 a1 a2,tN0,g2,bS0,pn1,f1,bS0,m3,bS0,qvi,m4,bS0,fin1,cnd2 a1 a2,bS0,m1,bS0,q2,f2,bS0,m2,bS0,u1,cnd2 d1 d3,g3,bS0,<- fin0,u2,q3];have:encK (P++[p]) (fun j=>if j=i then extW P p i i else if j=i+1 then extW P p i (i+1) else extW P p (i+1) j)=encK (P++[p]) (extW P p i):=by
     refine qlh fun j hj=>?_
     by_cases e1:j=i
     · rw[if_pos e1,e1]
     · rw [if_neg e1];by_cases e2:j=i+1
       · rw[if_pos e2,e2]
       · rw [if_neg e2];unfold extW;by_cases e3:j<i
         · rw[if_pos (by omega),if_pos e3]
         · rw[if_neg (by omega),if_neg (by omega),if_neg (by omega),if_neg (by omega)]
    rw[this]
  | false =>
    have u2:=qq9 (P:=P++[p]) (w:=extW P p (i+1)) (i:=i) (extW P p i i);rw[cond_false,m1,bS0,q2,pn1,f2,bS0,m2,bS0,cnd2 d1 d2,bS0,<- fin0,u2,q3];have:encK (P++[p]) (fun j=>if j=i then extW P p i i else extW P p (i+1) j)=encK (P++[p]) (extW P p i):=by
     refine qlh fun j hj=>?_
     simp only[List.length_append,List.length_singleton] at hj;by_cases e1:j=i
     · rw[if_pos e1,e1]
     · rw [if_neg e1];unfold extW;by_cases e3:j<i
       · rw[if_pos (by omega),if_pos e3]
       · by_cases e2 : j = i + 1
         · subst e2;have hs:=qql (P:=P) (p:=p) (j:=i+1) (by omega);rw[show one0 p.2.2=0 by rw[ep,hok];rfl,Rat.zero_mul,if_neg (show ¬ i+1=0 by omega),Rat.add_zero] at hs
           rw[if_neg (show ¬ i+1<i+1 by omega),if_pos rfl,if_neg (show ¬ i+1<i by omega),if_neg (show ¬ i+1=i by omega),hs]
         · rw[if_neg (by omega),if_neg e2,if_neg (by omega),if_neg (by omega)]
    rw[this]) (by
  intro g;rw[Nat.sub_self,qao,cnd' (by omega)])
 have efin:encK (P++[p]) (extW P p 0)=encK (P++[p]) (wtP (P++[p])):=by
  refine qlh fun j hj=>?_
  unfold extW;rw[if_neg (by omega)];by_cases e:j=0
  · subst e;have hs:=qql (P:=P) (p:=p) (j:=0) (by omega);rw[if_pos rfl,Rat.add_zero] at hs;rw[if_pos rfl,hs]
  · rw[if_neg e]
 rw[efin] at key;have qn:isub .i64 ((P.length+1:Nat):Int) 1=((N:Nat):Int)-1-((0:Nat):Int):=by rw[qcl (by omega) (by omega)];omega
 have c0:¬ ((P.length+1:Nat):Int)=0:=by omega
 have hsg:rcmp q 0>0:=quc.2 hq0;have hsign:=qmt hy;rw[ey] at hsign;have hcl:=qbN hy;rw[ey] at hcl;rw[qaf,el,cnd' c0,cnd' (by omega),quH hf (by omega),bS0];dsimp only;rw[cnd' (by omega),hsign,bS0,cnd' (by omega),hcl,bS0,qga,bS0,blt (by rw[el];omega),cond_true];have e1:encK P (wtP P)++[((f:Int),(canQ q,(ok,canQ 0)))]=encK (P++[p]) (extW P p N):=by
  rw[<- e0,<- hsnoc,ep]
 rw[e1,el,qn];have key:lp qao K0 ((ok,((P.length+1:Nat):Int),((N:Nat):Int)-1-((0:Nat):Int),()),((y.1.1,y.1.2,y.2,()),(encK (P++[p]) (extW P p N),()),()))=some ((),(encK (P++[p]) (wtP (P++[p])),()),()):=by
  rw[<- eN];exact key
 rw[key,ep];rfl
structure Sp (l:List PART) (P:List AP):Prop where
 len:l.length=P.length
 get:∀ i (h:i<l.length) (h':i<P.length),l[i].1=(P[i].1:Int)/\rv l[i].2.1=P[i].2.1/\SzR l[i].2.1 3/\l[i].2.2=P[i].2.2
theorem Sp.nil:Sp [] []:=⟨rfl,fun i h=>by cases h⟩
theorem Sp.snoc {l:List PART} {P:List AP} (h:Sp l P) {f:Nat} {y:RAT} {ok:Bool} (hy:SzR y 3):Sp (l++[((f:Int),y,ok)]) (P++[(f,rv y,ok)]):=by
 have hl:=h.len;refine⟨by simp [hl],fun i h1 h2=>?_⟩;by_cases hi:i<l.length
 · rw [List.getElem_append_left hi, List.getElem_append_left (by omega)];exact h.get i hi (by omega)
 · have e : i = l.length := by simp at h1; omega
   subst e;rw[List.getElem_append_right (by omega),List.getElem_append_right (by omega)];simp only[hl,Nat.sub_self,List.getElem_singleton];exact⟨trivial,trivial,hy,trivial⟩
theorem Sp.out {l:List PART} {P:List AP} (h:Sp l P) {a:Nat} (ha:a<P.length):Sp (l.take a++l.drop (a+1)) (qbc P a):=by
 have hl:=h.len;refine⟨by simp [qbc,hl],fun i h1 h2=>?_⟩;unfold qbc at h2 ⊢;by_cases hi:i<a
 · rw [List.getElem_append_left (by simp; omega), List.getElem_append_left (by simp; omega), List.getElem_take, List.getElem_take];exact h.get i (by omega) (by omega)
 · simp only [List.length_append, List.length_take, List.length_drop] at h1 h2;rw[List.getElem_append_right (by simp;omega),List.getElem_append_right (by simp;omega)];simp only[List.getElem_drop,List.length_take];have e1:a+1+(i-min a l.length)=i+1:=by omega
   have e2:a+1+(i-min a P.length)=i+1:=by omega
   simp only[e1,e2];exact h.get (i+1) (by omega) (by omega)
theorem qxx {l:List PART} {f:Int} (h:∀ i (hi:i<l.length),l[i].1≠f) (hl:l.length<=1000000):qaP l f=some 0:=by
 have key:=qi0 (step:=qal) (fun i=>((l,f,(i:Int),()),())) l.length (r:=.inl ((),())) (by omega) (by
  intro g i hi;have d0:(i:Int)<(l.length:Int):=by omega
  have d1:(0:Int)<=(i:Int):=by omega
  rw[qal,cnd d0,cnd d1,tN0,gE0 hi,bS0,cnd' (h i hi),qcE (by omega)];rfl) (by
  intro g;rw[qal,cnd' (by omega)])
 have key:lp qal K0 ((l,f,0,()),())=_:=key;rw[qaP,key];rfl
theorem qv8 {l:List PART} {f:Int} {a:Nat} (ha:a<l.length) (he:l[a].1=f) (h:∀ i (hi:i<l.length),i<a->l[i].1≠f) (hl:l.length<=1000000):qaP l f=some ((a+1:Nat):Int):=by
 have key:=qi0 (step:=qal) (fun i=>((l,f,(i:Int),()),())) a (r:=.inr ((((a+1:Nat):Int),()),())) (by omega) (by
  intro g i hi;have d0:(i:Int)<(l.length:Int):=by omega
  have d1:(0:Int)<=(i:Int):=by omega
  rw[qal,cnd d0,cnd d1,tN0,gE0 (by omega),bS0,cnd' (h i (by omega) hi),qcE (by omega)];rfl) (by
  intro g;have d0:(a:Int)<(l.length:Int):=by omega
  have d1:(0:Int)<=(a:Int):=by omega
  rw[qal,cnd d0,cnd d1,tN0,gE0 ha,bS0,cnd he,qcE (by omega)];rfl)
 have key:lp qal K0 ((l,f,0,()),())=_:=key;rw[qaP,key];rfl
structure Pst (l:List PART) (P:List AP):Prop where
 sp:Sp l P
 path:qmh P 4 9223372036854775808
 six:P.length<=6
theorem Pst.nil:Pst [] []:=by
 refine⟨Sp.nil,⟨List.nodup_nil,?_,by decide,?_,?_⟩,by decide⟩
 · intro p hp;cases hp
 · intro p hp;cases hp
 · intro p hp;cases hp
theorem qvR {l:List PART} {P:List AP} (h:Pst l P) (f:Int) (hf:f<9223372036854775808) (a:Int) (y:RAT) (ok:Bool):∃ l' P',qdL l (0,f,a,(y,ok)) (encK P (wtP P))=some (l',true,encK P' (wtP P'))/\Pst l' P':=by
 have hl:=h.sp.len;have h6:=h.six;have el:=qdq P (wtP P);have c0:¬ ((P.length+1:Nat):Int)=0:=by omega
 obtain⟨z,ez⟩:∃ z,z=cutR 3 y:=⟨_,rfl⟩;have zz:SzR z 3:=by rw[ez];exact qzH 3 y
 have hz:Sm z:=zz.sm (by decide);have hfw:=qyl [((false,y):CELL)] 1 (by simp) (by decide);have hfw:qc6 [((false,y):CELL)] 1=some [((false,z):CELL)]:=by rw[ez];exact hfw
 rw[qdL];dsimp only;rw[cnd' (by decide),show(!decide ((0:Int)=0))=false by decide,cond_false];by_cases hsix:(l.length:Int)>=6
 · rw [cnd hsix];exact⟨_,_,rfl,h⟩
 rw[cnd' hsix,hfw,bS0,cnd (show(0:Int)<(([((false,z):CELL)].length:Nat):Int) by simp)];show ∃ l' P',((qaf f z ok (encK P (wtP P))).bind fun r5=>bif (decide (f<0)) then (some (l,(decide (r5.1=1)),r5.2)) else ((qaP l f).bind fun r6=>bif (decide (r6>0)) then (some (l,(decide (r5.1=1)),r5.2)) else ((qfJ z).bind fun r7=>bif (decide (r7<=0)) then (some (l,(decide (r5.1=8)),r5.2)) else (bif Nat.ble ((([]:List PART).length+l.length)*72) 140737488355328&&!false then bif Nat.ble (((([]:List PART)++l).length+1)*72) 140737488355328&&!false then some (((([]:List PART)++l)++([(f,(z,ok))]:List PART)),(decide (r5.1=0)),r5.2) else none else none))))=some (l',true,encK P' (wtP P'))/\Pst l' P';by_cases hneg:f<0
 · have e : qaf f z ok (encK P (wtP P)) = some (1, encK P (wtP P)) := by rw [qaf, el, cnd' c0, cnd hneg]
   rw[e,bS0,cnd hneg];exact⟨_,_,rfl,h⟩
 obtain⟨n,rfl⟩:=Int.eq_ofNat_of_zero_le (show 0<=f by omega);rcases qzz (P:=P) (f:=n) with hno | ⟨a,ha,e1,e2⟩
 · have hF := quH (P := P) (w := wtP P) hno (by omega);have hp:qaP l (n:Int)=some 0:=qxx (fun i hi=>by
     rw[(h.sp.get i hi (by omega)).1];have:=hno _ (gM0 (show i<P.length by omega));omega) (by omega)
   have hsg:=qmt hz;by_cases hs:rcmp (rv z) 0<=0
   · have e : qaf (n : Int) z ok (encK P (wtP P)) = some (8, encK P (wtP P)) := by
      rw[qaf,el,cnd' c0,cnd' hneg,hF,bS0];dsimp only;rw[cnd' (by decide),hsg,bS0,cnd hs]
     rw[e,bS0,cnd' hneg,hp,bS0,cnd' (by decide),hsg,bS0,cnd hs];exact⟨_,_,rfl,h⟩
   · have hpos : 0 < rv z := Rat.not_le.1 fun hh => hs ((qza (p := rv z) (q := 0)).2 hh)
     have qz:SzQ (rv z) 4:=(zz.szQ (by decide)).mono (by decide);have e:=qvC h.path (f:=n) (q:=rv z) (ok:=ok) (y:=z) hz rfl hno qz hpos (by decide) (by omega);rw[e,bS0,cnd' hneg,hp,bS0,cnd' (by decide),hsg,bS0,cnd' hs,blt (by simp;omega),cond_true,blt (by simp;omega),cond_true];exact⟨_,_,rfl,h.sp.snoc zz,h.path.snoc hno qz hpos (by omega) (by omega),by simp;omega⟩
 · have hF := qw7 (P := P) (w := wtP P) ha e1 e2 (by omega);have hp:qaP l (n:Int)=some ((a+1:Nat):Int):=qv8 (a:=a) (by omega) (by rw[(h.sp.get a (by omega) ha).1,e1]) (fun i hi hia=>by
     rw[(h.sp.get i hi (by omega)).1];have:=e2 i (by omega) hia;omega) (by omega)
   have e:qaf (n:Int) z ok (encK P (wtP P))=some (1,encK P (wtP P)):=by
     rw[qaf,el,cnd' c0,cnd' hneg,hF,bS0];dsimp only;rw[cnd (by omega)]
   rw[e,bS0,cnd' hneg,hp,bS0,cnd (by omega)];exact⟨_,_,rfl,h⟩
def atP (P:List AP) (j:Nat):BA:=fcP ((P[j]?).getD (0,0,false))
def qgb (P:List AP) (S j:Nat):Rat:=qj2 (fun j=>pick (atP P j) (S.testBit j)) j
theorem qqQ {P:List AP} {k:Nat} (h:ASz P k) (hk:1<=k) (S:Nat):∀ j,j<=P.length->SzQ (qgb P S j) (1+k*j):=by
 intro j
 induction j with
 | zero=>intro _;exact SzQ.one.mono (by omega)
 | succ j ih =>
  intro hj;have e:qgb P S (j+1)=qgb P S j*pick (atP P j) (S.testBit j):=rfl;rw[e];have hp:SzQ (pick (atP P j) (S.testBit j)) k:=by
   unfold pick atP;rw[gE0 (by omega)];split
   · exact(qwf _).mono hk
   · exact h _ (gM0 _)
  exact((ih (by omega)).mul hp).mono (by rw[Nat.mul_succ];omega)
theorem qqq {l:List PART} {P:List AP} (h:Pst l P) {S:Nat} (hS:S<9223372036854775808) (o:List RAT) (b0 b1 b2:Int) (b3:List WH) :
  lp qau K0 ((l,(l.length:Int),o,(S:Int),0,()),(((canQ 1).1.1,(canQ 1).1.2,(canQ 1).2,()),(b0,b1,b2,b3,()),()))=some ((l,(l.length:Int),o,(S:Int),()),(((canQ (qgb P S P.length)).1.1,(canQ (qgb P S P.length)).1.2,(canQ (qgb P S P.length)).2,()),(b0,b1,b2,b3,()),())):=by
 have hl:=h.sp.len;have h6:=h.six;have key:=qi0 (step:=qau) (fun j=>((l,(l.length:Int),o,(S:Int),(j:Int),()),(((canQ (qgb P S j)).1.1,(canQ (qgb P S j)).1.2,(canQ (qgb P S j)).2,()),(b0,b1,b2,b3,()),()))) P.length (r:=((l,(l.length:Int),o,(S:Int),()),(((canQ (qgb P S P.length)).1.1,(canQ (qgb P S P.length)).1.2,(canQ (qgb P S P.length)).2,()),(b0,b1,b2,b3,()),()))) (by omega) (by
  intro g j hj;have d0:(j:Int)<(l.length:Int):=by omega
  have d1:(0:Int)<=(j:Int):=by omega
  have hj':j<l.length:=by omega
  obtain⟨g1,g2,g3,g4⟩:=h.sp.get j hj' hj;have hin:=qwu (S:=S) (f:=j) hS (by omega);have ea:atP P j=(P[j].2.1,one0 P[j].2.2):=by unfold atP fcP;rw[gE0 hj];rfl
  have e:qgb P S (j+1)=qgb P S j*pick (atP P j) (S.testBit j):=rfl;rw[qau,cnd d0,hin,bS0];cases hb:S.testBit j with
  | false =>
   have z:=qqQ h.path.sz (by decide) S j (by omega);have m:=qcN (z.sm (by omega)) (g3.sm (by decide));rw[qbj,g2] at m;have m:qax (((canQ (qgb P S j)).1.1,(canQ (qgb P S j)).1.2),(canQ (qgb P S j)).2) l[j].2.1=_:=m;rw[hb,ea] at e;have e:qgb P S (j+1)=qgb P S j*P[j].2.1:=e;rw[Bool.not_false,cond_true,cnd d1,tN0,gE0 hj',bS0,m,bS0,qcE (by omega),e];rfl
  | true =>
   rw[hb,ea] at e;have e:qgb P S (j+1)=qgb P S j*one0 P[j].2.2:=e;rw[Bool.not_true,cond_false,cnd d1,tN0,gE0 hj',bS0,g4,qcE (by omega)];cases ho:P[j].2.2 with
   | false =>
    rw[ho] at e;have e:qgb P S (j+1)=0:=by rw[e];exact Rat.mul_zero _
    rw[Bool.not_false,cond_true,qga,bS0,e];rfl
   | true =>
    rw[ho] at e;have e:qgb P S (j+1)=qgb P S j:=by rw[e];exact Rat.mul_one _
    rw[Bool.not_true,cond_false,e];rfl) (by
  intro g;rw[qau,cnd' (by omega)])
 exact key
def setW (P:List AP) (k S:Nat):Rat:=(if popc P.length S=k then wq k (P.length+1) else 0)*qgb P S P.length
theorem qxl (P:List AP) {k:Nat}:rsum (setW P k) (2 ^ P.length)=wtP P k:=by
 have h:=qxk (atP P) P.length (fun s=>if s=k then wq k (P.length+1) else 0);have e1:rsum (setW P k) (2 ^ P.length)=rsum (fun S=>(fun s=>if s=k then wq k (P.length+1) else 0) (popc P.length S)*qj2 (fun j=>pick (atP P j) (S.testBit j)) P.length) (2 ^ P.length):=rfl;have e2:(List.range P.length).map (atP P)=P.map fcP:=by
  refine List.ext_getElem (by simp) fun i h1 h2=>?_
  simp only[List.length_map] at h2;simp only[List.getElem_map,List.getElem_range,atP,gE0 h2,Option.getD_some]
 have e3:(fun s=>if s=k then wq k (P.length+1) else 0)=fun s=>wq k (P.length+1)*(if s=k then 1 else 0):=by
  funext s;split
  · rw[Rat.mul_one]
  · rw[Rat.mul_zero]
 rw[e1,h,e2,e3,qyK,wtP,ekP,qtd]
theorem qvW {P:List AP} (h:ASz P 4) (hl:P.length<=6) (k S:Nat) (hk:k<=P.length):SzQ (setW P k S) 60:=by
 have z:=qqQ h (by decide) S P.length (Nat.le_refl _);unfold setW;split
 · exact((qxb (s:=k) (n:=P.length+1) (by omega) (by omega)).mul z).mono (by omega)
 · exact(SzQ.zero.mul z).mono (by omega)
theorem qxm {P:List AP} (h:ASz P 4) (hl:P.length<=6) (k S:Nat) (hk:k<=P.length):SzQ (rsum (setW P k) S) (1+S*61):=qqD S fun i _=>qvW h hl k i hk
def vis (n k:Nat):Nat->Bool
 | 0=>false
 | S+1=>vis n k S || decide (popc n S=k)
theorem qyS:∀ n,n<7->∀ k,k<n+1->vis n k (2 ^ n)=true:=by decide +kernel
theorem qz2 (P:List AP) {k:Nat}:∀ S,vis P.length k S=false->rsum (setW P k) S=0:=by
 intro S
 induction S with
 | zero=>intro _;rfl
 | succ S ih =>
  intro h;rw[vis,Bool.or_eq_false_iff] at h;show rsum (setW P k) S+setW P k S=0;rw[ih h.1,setW,if_neg (of_decide_eq_false h.2),Rat.zero_mul,Rat.add_zero]
def wlF (P:List AP) (S k:Nat):RAT:=if vis P.length k S then canQ (rsum (setW P k) S) else zR
def wlL (P:List AP) (S:Nat):List RAT:=(List.range (P.length+1)).map (wlF P S)
theorem qow (P:List AP) (S:Nat):(wlL P S).length=P.length+1:=by simp [wlL]
theorem qqn {P:List AP} {S k:Nat} (h:k<P.length+1):(wlL P S)[k]?=some (wlF P S k):=by simp [wlL,h]
theorem qz0 (P:List AP) (S k:Nat):rv (wlF P S k)=rsum (setW P k) S:=by
 unfold wlF;cases h:vis P.length k S with
 | true=>rw[if_pos rfl,qbj]
 | false=>rw[if_neg (by decide),qz2 P S h];decide +kernel
theorem qzZ {P:List AP} (h:ASz P 4) (hl:P.length<=6) {S k:Nat} (hS:S<=64) (hk:k<=P.length):Sm (wlF P S k):=by
 unfold wlF;split
 · exact(qxm h hl k S hk).sm (by omega)
 · exact⟨by decide,by decide⟩
theorem qyP {P:List AP} {S:Nat}:(wlL P S).set (popc P.length S) (canQ (rsum (setW P (popc P.length S)) (S+1)))=wlL P (S+1):=by
 refine List.ext_getElem? fun k=>?_
 rw[List.getElem?_set];by_cases e:popc P.length S=k
 · have hk : k < P.length + 1 := by have := qtc P.length S; omega
   rw[if_pos e,if_pos (by rw[qow,e];exact hk),qqn hk,wlF,vis,e,decide_eq_true rfl,Bool.or_true,if_pos rfl]
 · rw [if_neg e];by_cases hk:k<P.length+1
   · have z : setW P k S = 0 := by rw [setW, if_neg e, Rat.zero_mul]
     rw[qqn hk,qqn hk,wlF,wlF,vis,decide_eq_false e,Bool.or_false];show _=some (if vis P.length k S=true then canQ (rsum (setW P k) S+setW P k S) else zR);rw[z,Rat.add_zero]
   · rw[List.getElem?_eq_none (by rw[qow];omega),List.getElem?_eq_none (by rw[qow];omega)]
theorem qyQ {P:List AP} (hl:P.length<=6):wlL P (2 ^ P.length)=flo (P.length+1) (wtP P):=by
 refine List.map_congr_left fun k hk=>?_
 have hk:=List.mem_range.1 hk;rw[wlF,qyS _ (by omega) k hk,if_pos rfl,qxl]
theorem qxc (P:List AP):wlL P 0=List.replicate (P.length+1) (((false,[]),[]):RAT):=by
 refine List.ext_getElem (by rw[qow,List.length_replicate]) fun i h1 h2=>?_
 rw[List.getElem_replicate];simp [wlL,wlF,vis]
theorem qnP {l:List PART} {P:List AP} (h:Pst l P):qb8 l=some (flo (P.length+1) (wtP P)):=by
 obtain⟨d,st,sm,f,hN,hT⟩:=qAs;have hl:=h.sp.len;have h6:=h.six;have hp6:2 ^ P.length<=2 ^ 6:=Nat.pow_le_pow_right (by decide) h6;have hp6:2 ^ P.length<=64:=hp6;obtain⟨r,hr,e⟩:=qi1 (step:=qaK)
  (fun S w=>∃ d st sm f,w=((l,(l.length:Int),wlL P S,(S:Int),()),((d,st,sm,f,()),()))/\Tab d st sm f)
  (fun r=>r=((flo (P.length+1) (wtP P),()),())) (2 ^ P.length)
  (v:=((l,(l.length:Int),wlL P 0,0,()),((d,st,sm,f,()),())))
  ⟨d,st,sm,f,rfl,hT⟩ (by omega) (by
  rintro S w hS ⟨d,st,sm,f,rfl,hT⟩;have c0:(S:Int)<((2 ^ l.length:Nat):Int):=by rw[hl];omega
  have hpc:=qtc P.length S;have hin:=qqq h (S:=S) (by omega) (wlL P S) d st sm f;have hsz:qcT (S:Int) (l.length:Int)=some ((popc P.length S:Nat):Int):=by
   rw[hl];exact qvU (by omega) (by omega)
  have hW:=qw1 hT (s:=popc P.length S) (n:=P.length+1) (by omega) (by omega);have q1:iadd .i64 (l.length:Int) 1=((P.length+1:Nat):Int):=by rw[hl];exact qcE (by omega)
  have d1:(0:Int)<=((popc P.length S:Nat):Int):=by omega
  have d2:((popc P.length S:Nat):Int)<((wlL P S).length:Int):=by rw[qow];omega
  have hg:=qqn (P:=P) (S:=S) (k:=popc P.length S) (by omega);have z:=qqQ h.path.sz (by decide) S P.length (Nat.le_refl _);have zw:=qxb (s:=popc P.length S) (n:=P.length+1) (by omega) (by omega);have m:=qcN (zw.sm (by decide)) (z.sm (by omega));rw[qbj,qbj] at m;have m:qax (canQ (wq (popc P.length S) (P.length+1))) (((canQ (qgb P S P.length)).1.1,(canQ (qgb P S P.length)).1.2),(canQ (qgb P S P.length)).2)=_:=m;have es:wq (popc P.length S) (P.length+1)*qgb P S P.length=setW P (popc P.length S) S:=by rw[setW,if_pos rfl]
  rw[es] at m;have zs:=qvW h.path.sz h6 (popc P.length S) S hpc;have a:=qg7 (qzZ h.path.sz h6 (S:=S) (k:=popc P.length S) (by omega) hpc) (zs.sm (by decide));rw[qbj,qz0] at a;have a:qcB (wlF P S (popc P.length S)) (canQ (setW P (popc P.length S) S))=some (canQ (rsum (setW P (popc P.length S)) (S+1))):=a;have hset:=qyP (P:=P) (S:=S);refine⟨_,⟨1,0,sm,qq7,rfl,tab1 sm⟩,fun g=>?_⟩;rw[qaK,qyu (by omega),bS0,cnd c0,qnY,bS0,hin,bS0];dsimp only;rw[hsz,bS0,q1,hW,bS0,cnd2 d1 d2,tN0,hg,bS0];dsimp only;rw[m,bS0,a,bS0,cnd2 d1 d2,bS0,hset,qcE (by omega)];rfl) (by
  rintro w ⟨d,st,sm,f,rfl,hT⟩;have c0:¬ ((2 ^ P.length:Nat):Int)<((2 ^ l.length:Nat):Int):=by rw[hl];omega
  have e:=qyQ h6;refine⟨_,rfl,fun g=>?_⟩;rw[qaK,qyu (by omega),bS0,cnd' c0,e])
 have q1:iadd .i64 (l.length:Int) 1=((P.length+1:Nat):Int):=by rw[hl];exact qcE (by omega)
 have c1:(decide (((P.length+1:Nat):Int)=((P.length+1:Nat):Int))&&decide (0<=((P.length+1:Nat):Int))&&decide (((56:Nat):Int)*((P.length+1:Nat):Int)<=281474976710656)&&decide (((P.length+1:Nat):Int)<=9223372036854775807))=true:=by
  rw[decide_eq_true rfl,decide_eq_true (by omega),decide_eq_true (by omega),decide_eq_true (by omega)];rfl
 rw[qb8,hN,bS0,q1,c1,cond_true,tN0,<- qxc,e,bS0,hr]
theorem qsU {P:List AP} {w:Nat->Rat} (hl:P.length<=1000000):qci (encK P w)=some (flo (P.length+1) w,encK P w):=by
 have el:=qdq P w;have key:=qi0 (step:=qaq) (fun k=>((flo k w,((P.length+1:Nat):Int),(k:Int),()),((encK P w,()),()))) (P.length+1) (r:=((flo (P.length+1) w,()),((encK P w,()),()))) (by omega) (by
  intro g k hk;have d0:(k:Int)<((P.length+1:Nat):Int):=by omega
  have d1:(0:Int)<=(k:Int):=by omega
  have d2:(k:Int)<((encK P w).length:Int):=by omega
  have e:flo (k+1) w=flo k w++[canQ (w k)]:=by simp [flo,List.range_succ]
  rw[qaq,cnd d0,cnd2 d1 d2,tN0,qel hk,bS0,blt (by rw[qjt];omega),cond_true,qcE (by omega),qvi,e];rfl) (by
  intro g;rw[qaq,cnd' (by omega)])
 have key:lp qaq K0 (([],((P.length+1:Nat):Int),0,()),((encK P w,()),()))=_:=key;rw[qci,el,key];rfl
theorem qmh.ne {P:List AP} {k g:Nat} (h:qmh P k g) {i j:Nat} (hi:i<P.length) (hj:j<P.length) (hij:i<j):P[i].1≠P[j].1:=by
 have:=List.pairwise_iff_getElem.1 h.nd i j (by simpa using hi) (by simpa using hj) hij;simpa using this
theorem qvS {l:List PART} {P:List AP} (h:Pst l P):qc0 l (encK P (wtP P))=some (true,encK P (wtP P)):=by
 have hl:=h.sp.len;have h6:=h.six;have el:=qdq P (wtP P);have eW:(encW P).length=P.length:=by simp [encW]
 have hlen:qdI (encK P (wtP P))=some ((P.length:Int),encK P (wtP P)):=by
  rw[qdI,el,cnd' (by omega),qcl (by omega) (by omega)];congr 2;omega
 have hS:=ekS8 (k:=4) (n:=P.length) (by decide) (by omega);have hall:=qxW (n:=P.length+1) (k:=20030) (o:=wtP P) (fun i hi=>(qpX h.path.sz (by omega) (by omega)).mono (by omega)) (by decide) (by omega);have key:=qi0 (step:=qaz) (fun i=>((l,encW P,(i:Int),()),((encK P (wtP P),()),()))) P.length (r:=.inl ((),((encK P (wtP P),()),()))) (by omega) (by
  intro g i hi;have d0:(i:Int)<((encW P).length:Int):=by omega
  have d1:(0:Int)<=(i:Int):=by omega
  have hi':i<l.length:=by omega
  obtain⟨g1,g2,g3,g4⟩:=h.sp.get i hi' hi;have hg:(encW P)[i]?=some (encP P[i]):=by simp [encW,hi]
  have hF:=qw7 (P:=P) (w:=wtP P) (f:=P[i].1) (i:=i) hi rfl (fun j hj hji=>h.path.ne hj hi hji) (by omega);have hIs:=qzS (h.path.sz _ (gM0 hi)) (by decide) g3 (by decide);rw[g2,decide_eq_true rfl] at hIs;have bb:(!((encP P[i]).2.2 == l[i].2.2))=false:=by rw[g4];show(!(P[i].2.2 == P[i].2.2))=false;cases P[i].2.2<;>rfl
  rw[qaz,cnd d0,cnd2 d1 d0,tN0,hg,bS0,cnd d1,gE0 hi',bS0,decide_eq_true (show(encP P[i]).1=l[i].1 from g1.symm),Bool.not_true,cond_false,cnd2 d1 d0,bS0,cnd d1,bS0,bb,cond_false,cnd2 d1 d0,bS0,cnd d1,bS0,show qbq (encP P[i]).2.1 l[i].2.1=some true from hIs,bS0,Bool.not_true,cond_false,cnd d1,bS0,g1,hF,bS0];dsimp only;rw[qcE (by omega),decide_eq_true (by omega),Bool.not_true,cond_false];rfl) (by
  intro g;rw[qaz,cnd' (by omega)])
 have key:lp qaz K0 ((l,encW P,0,()),((encK P (wtP P),()),()))=_:=key;rw[qc0,qvB (by omega),bS0];dsimp only;rw[hlen,bS0];dsimp only;rw[decide_eq_true (show(P.length:Int)=(l.length:Int) by omega),Bool.not_true,cond_false,decide_eq_true (show((encW P).length:Int)=(l.length:Int) by omega),Bool.not_true,cond_false,qsU (by omega),bS0];dsimp only;rw[qnP h,bS0,hall,bS0,Bool.not_true,cond_false,key];rfl
theorem Pst.out {l:List PART} {P:List AP} (h:Pst l P) {a:Nat} (ha:a<P.length):Pst (l.take a++l.drop (a+1)) (qbc P a) :=
 ⟨h.sp.out ha,h.path.out ha,by have:=qeE ha;have:=h.six;omega⟩
theorem qnJ (l0:List PART) (at0:Int) (hl:l0.length<=9223372036854775807) (hf:∀ p∈l0,p.1<9223372036854775808) (ha:at0<9223372036854775808) (ha':-9223372036854775808<=at0):qch l0 at0=some true:=by
 obtain⟨r,⟨l,P,hP,hr⟩,e⟩:=qi1 (step:=qap)
   (fun i w=>∃ l P,w=((l0,at0,l,(i:Int),()),((encK P (wtP P),()),()))/\Pst l P)
   (fun r=>∃ l P,Pst l P/\r=.inl ((at0,l,()),((encK P (wtP P),()),()))) l0.length
   (v:=((l0,at0,[],0,()),((encK [] (wtP []),()),())))
   ⟨[],[],rfl,Pst.nil⟩ (by omega) (by
   rintro i w hi ⟨l,P,rfl,hP⟩;have d0:(i:Int)<(l0.length:Int):=by omega
   have d1:(0:Int)<=(i:Int):=by omega
   obtain⟨l',P',hs,hP'⟩:=qvR hP l0[i].1 (hf _ (gM0 hi)) 0 l0[i].2.1 l0[i].2.2;refine⟨_,⟨l',P',rfl,hP'⟩,fun g=>?_⟩;rw[qap,cnd d0,cnd d1,tN0,gE0 hi,bS0,cnd d1,bS0,cnd d1,bS0,hs,bS0];dsimp only;rw[Bool.not_true,cond_false,show iadd .i64 (i:Int) 1=((i+1:Nat):Int) by rw[qek (by omega) (by omega)];omega]) (by
   rintro w ⟨l,P,rfl,hP⟩;refine⟨_,⟨l,P,hP,rfl⟩,fun g=>?_⟩;rw[qap,cnd' (by omega)])
 subst hr;have hlen:=hP.sp.len;have h6:=hP.six;have el:=qdq P (wtP P);rw[qch,qyi,bS0,e,bS0];dsimp only;have c0:¬ ((P.length+1:Nat):Int)=0:=by omega
 by_cases h1:at0<1
 · have hS : qaX at0 (encK P (wtP P)) = some (((false, []), []), 8, encK P (wtP P)) := by rw [qaX, el, cnd' c0, cnd h1]
   rw[hS,bS0,cnd h1,qip];rfl
 by_cases h2:at0>(l.length:Int)
 · have hS : qaX at0 (encK P (wtP P)) = some (((false, []), []), 8, encK P (wtP P)) := by rw [qaX, el, cnd' c0, cnd' h1, cnd (by omega)]
   rw[hS,bS0,cnd' h1,cnd h2,qip];rfl
 obtain⟨a,rfl⟩:∃ a:Nat,at0=((a+1:Nat):Int):=⟨(at0-1).toNat,by omega⟩;have hal:a<P.length:=by omega
 have hS:=qyg hP.path (by decide) hal;have eo:(qbc P a).length+1=P.length:=qeE hal;have q1:isub .i64 ((a+1:Nat):Int) 1=(a:Int):=by rw[qcl (by omega) (by omega)];omega
 have hW:qb7 l (a:Int)=some (l.take a++l.drop (a+1)):=by
   rw[qb7,cnd2 (by omega) (by omega),blt (by simp;omega),cond_true,qcE (by omega),cnd2 (by omega) (by omega),blt (by simp;omega),cond_true];simp
 have hw:=qnP (hP.out hal);rw[eo] at hw;have wsz:∀ i,i<P.length->SzQ (wtP (qbc P a) i) 20030:=fun i hi=>(qpX (hP.path.out hal).sz (by omega) (by omega)).mono (by
   have:=ekS8 (k:=4) (n:=(qbc P a).length) (by decide) (by omega);omega)
 have rsz:∀ i,i<=P.length->SzQ (rsum (wtP (qbc P a)) i) 200000:=fun i hi=>(qqD i fun j hj=>wsz j (by omega)).mono (by omega)
 have key:=qi0 (step:=qai) (fun i=>((l,0,flo P.length (wtP (qbc P a)),(i:Int),()),(((canQ (sumP P a)).1.1,(canQ (sumP P a)).1.2,(canQ (sumP P a)).2,()),((canQ (rsum (wtP (qbc P a)) i)).1.1,(canQ (rsum (wtP (qbc P a)) i)).1.2,(canQ (rsum (wtP (qbc P a)) i)).2,()),(encK P (wtP P),()),()))) P.length (by omega) (by
   intro g i hi;have d1:(0:Int)<=(i:Int):=by omega
   have d0:(i:Int)<((flo P.length (wtP (qbc P a))).length:Int):=by rw[qjt];omega
   have m:=qg7 ((rsz i (by omega)).sm (by decide)) ((wsz i hi).sm (by decide));rw[qbj,qbj] at m;have m:qcB (((canQ (rsum (wtP (qbc P a)) i)).1.1,(canQ (rsum (wtP (qbc P a)) i)).1.2),(canQ (rsum (wtP (qbc P a)) i)).2) (canQ (wtP (qbc P a) i))=some (canQ (rsum (wtP (qbc P a)) (i+1))):=m;rw[qai,cnd d0,cnd2 d1 d0,tN0,qtC _ hi,bS0,m,bS0,qcE (by omega)];rfl) (by
   intro g;have d0:¬ ((P.length:Nat):Int)<((flo P.length (wtP (qbc P a))).length:Int):=by rw[qjt];omega
   rw[qai,cnd' d0])
 have key:lp qai K0 ((l,0,flo P.length (wtP (qbc P a)),0,()),(((canQ (sumP P a)).1.1,(canQ (sumP P a)).1.2,(canQ (sumP P a)).2,()),((canQ 0).1.1,(canQ 0).1.2,(canQ 0).2,()),(encK P (wtP P),()),()))=_:=key;have hIs:=qzw (q:=sumP P a) (r:=rsum (wtP (qbc P a)) P.length) (n:=170000) (m:=200000) (qyX hP.path (by decide) (by omega) hal) (by decide) (rsz _ (Nat.le_refl _)) (by decide) rfl;have hIs:qbq (((canQ (sumP P a)).1.1,(canQ (sumP P a)).1.2),(canQ (sumP P a)).2) (((canQ (rsum (wtP (qbc P a)) P.length)).1.1,(canQ (rsum (wtP (qbc P a)) P.length)).1.2),(canQ (rsum (wtP (qbc P a)) P.length)).2)=some true:=hIs;rw[hS,bS0,cnd' h1,cnd' h2,q1,hW,bS0,hw,bS0,qga,bS0];dsimp only;rw[key,bS0];dsimp only;rw[cnd rfl,hIs,bS0,cond_true,qvS hP,bS0,cond_true,qip];rfl
end Go.Proofs.YtmabkjhobhbfdaaGreatDoor.X
