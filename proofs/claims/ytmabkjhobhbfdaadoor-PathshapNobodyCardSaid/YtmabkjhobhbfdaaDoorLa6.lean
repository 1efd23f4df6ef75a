/- Own work: part of the proof; the first line of each part says what it tells. -/
import Derived.Test.YtmabkjhobhbfdaaDoorLa5


namespace Go.Proofs.YtmabkjhobhbfdaaDoor.X
open Go
theorem bS0 {α Z:Type} (a:α) (f:α->Option Z):(some a).bind f=f a:=rfl
theorem tN0 (n:Nat):((n:Nat):Int).toNat=n:=Int.toNat_natCast n
theorem gE0 {α:Type} {l:List α} {i:Nat} (h:i<l.length):l[i]?=some l[i]:=List.getElem?_eq_getElem h
theorem gM0 {α:Type} {l:List α} {i:Nat} (h:i<l.length):l[i]∈l:=List.getElem_mem h
set_option linter.unusedVariables false
set_option linter.unusedSimpArgs false
theorem qqn {V T:Type} {step:(V->Option T)->V->Option T} (P:Nat->V->Prop) (Q:T->Prop) (n:Nat)
  (hs:∀ i v,i<n->P i v->∃ v',P (i+1) v'/\∀ g,step g v=g v') (he:∀ v,P n v->∃ r,Q r/\∀ g,step g v=some r) :
  ∀ (j i:Nat) (v:V) (m:Nat),i+j=n->P i v->j<m->∃ r,Q r/\lp step m v=some r:=by
 intro j
 induction j with
 | zero =>
  intro i v m hi hp hm;obtain⟨m,rfl⟩:∃ k,m=k+1:=⟨m-1,by omega⟩;have:i=n:=by omega
  subst this;obtain⟨r,hr,e⟩:=he v hp;exact⟨r,hr,e _⟩
 | succ j ih =>
  intro i v m hi hp hm;obtain⟨m,rfl⟩:∃ k,m=k+1:=⟨m-1,by omega⟩;obtain⟨v',hv',e⟩:=hs i v (by omega) hp;obtain⟨r,hr,e'⟩:=ih (i+1) v' m (by omega) hv' (by omega);exact⟨r,hr,by rw[<- e'];exact e _⟩
theorem qqS {V T:Type} {step:(V->Option T)->V->Option T} (P:Nat->V->Prop) (Q:T->Prop) (n:Nat) {v:V} (h0:P 0 v) (hn:n<18446744073709551616)
  (hs:∀ i v,i<n->P i v->∃ v',P (i+1) v'/\∀ g,step g v=g v') (he:∀ v,P n v->∃ r,Q r/\∀ g,step g v=some r):∃ r,Q r/\lp step K0 v=some r :=
 qqn P Q n hs he n 0 v K0 (by omega) h0 hn
theorem qqm {V T:Type} {step:(V->Option T)->V->Option T} (f:Nat->V) (n:Nat) {r:T} (hn:n<18446744073709551616)
  (hs:∀ g i,i<n->step g (f i)=g (f (i+1))) (he:∀ g,step g (f n)=some r):lp step K0 (f 0)=some r:=by
 obtain⟨r',rfl,h⟩:=qqS (step:=step) (fun i v=>v=f i) (·=r) n (v:=f 0) rfl hn (fun i v hi e=>⟨f (i+1),rfl,fun g=>by rw[e];exact hs g i hi⟩) (fun v e=>⟨r,rfl,fun g=>by rw[e];exact he g⟩);exact h
theorem qqF {x:Int} (h:0<=x) (h':x<18446744073709551616):IntKind.wrap .u64 x=x:=by
 have e1:((2:Int) ^ IntKind.bits .u64)=18446744073709551616:=by decide
 simp only[IntKind.wrap,e1,IntKind.signed,Bool.false_and,Bool.false_eq_true,if_false];omega
theorem qkf (x:Int):IntKind.wrap .u64 x=x % 18446744073709551616:=by
 have e1:((2:Int) ^ IntKind.bits .u64)=18446744073709551616:=by decide
 simp only[IntKind.wrap,e1,IntKind.signed,Bool.false_and,Bool.false_eq_true,if_false]
theorem qhz (x:Int):(BitVec.ofInt 64 x).toNat=(x % 18446744073709551616).toNat:=by
 rw[BitVec.toNat_ofInt];rfl
theorem qpv {x y:Nat} (hx:x<18446744073709551616) (hy:y<18446744073709551616):iand .u64 (x:Int) (y:Int)=((x &&& y:Nat):Int):=by
 have h1:(BitVec.ofInt 64 (x:Int)).toNat=x:=by rw[qhz];omega
 have h2:(BitVec.ofInt 64 (y:Int)).toNat=y:=by rw[qhz];omega
 show IntKind.wrap .u64 ((BitVec.ofInt 64 (x:Int) &&& BitVec.ofInt 64 (y:Int)).toNat:Int)=_;rw[BitVec.toNat_and,h1,h2];have:x &&& y<=x:=Nat.and_le_left;exact qqF (by omega) (by omega)
theorem cnd {α:Type} {p:Prop} [Decidable p] {a b:α} (h:p):(bif decide p then a else b)=a:=by simp [h]
theorem cnd' {α:Type} {p:Prop} [Decidable p] {a b:α} (h:¬p):(bif decide p then a else b)=b:=by simp [h]
def nn:List Int->Nat
 | []=>0
 | x::r=>(x % 4294967296).toNat+4294967296*nn r
@[simp] theorem qrk:nn []=0:=rfl
def qqo (n:Nat):List Int:=if h:n=0 then [] else ((n % 4294967296:Nat):Int)::qqo (n/4294967296)
termination_by n
decreasing_by omega
end Go.Proofs.YtmabkjhobhbfdaaDoor.X
