/- Own work: part of the proof; the first line of each part says what it tells. -/
import Derived.Test.YtaeiamdjpkgjpaaGreatDoorLu9


namespace Go.Proofs.YtaeiamdjpkgjpaaGreatDoor.X
open Go
set_option linter.unusedVariables false
set_option linter.unusedSimpArgs false
def on01 (on:Bool):Nat:=if on then 1 else 0
def qk8 (v:Nat->Rat) (n fx:Nat) (on:Bool) (f S:Nat):Rat :=
 if S.testBit f then 0 else if S.testBit fx=on then wq (popc n S-on01 on) (n-1)*(v (S+2 ^ f)-v S) else 0
def qfG (v:Nat->Rat) (n fx:Nat) (on:Bool) (f:Nat):Rat:=if f=fx then 0 else rsum (qk8 v n fx on f) (2 ^ n)
theorem qqZ (F:Nat->Rat) (a:Nat):∀ b,rsum F (a+b)=rsum F a+rsum (fun i=>F (a+i)) b:=by
 intro b
 induction b with
 | zero=>show _=_+0;rw[Rat.add_zero];rfl
 | succ b ih=>rw[show a+(b+1)=a+b+1 by omega,rsum,ih,rsum,Rat.add_assoc]
theorem qlb (fx:Nat):∀ (n:Nat) (F:Nat->Rat),fx<n->rsum F (2 ^ n)=rsum (fun S=>if S.testBit fx then 0 else F S+F (S+2 ^ fx)) (2 ^ n):=by
 intro n
 induction n with
 | zero=>intro F h;omega
 | succ n ih =>
  intro F h;rw[Nat.pow_succ,Nat.mul_two,qqZ,qqZ];by_cases e:fx=n
  · subst e;have h1:rsum (fun S=>if S.testBit fx then 0 else F S+F (S+2 ^ fx)) (2 ^ fx)=rsum (fun S=>F S+F (S+2 ^ fx)) (2 ^ fx):=qaB fun S hS=>by
     rw[Nat.testBit_lt_two_pow hS,if_neg (by decide)]
    have h2:rsum (fun i=>if (2 ^ fx+i).testBit fx then 0 else F (2 ^ fx+i)+F (2 ^ fx+i+2 ^ fx)) (2 ^ fx)=0:=qfI fun S hS=>by
     rw[Nat.testBit_two_pow_add_eq,Nat.testBit_lt_two_pow hS,Bool.not_false,if_pos rfl]
    rw[h1,h2,qfh,Rat.add_zero];congr 1;exact qaB fun i _=>by rw[Nat.add_comm]
  · have hf : fx < n := by omega
    rw[ih F hf,ih (fun i=>F (2 ^ n+i)) hf];congr 1;refine qaB fun S _=>?_
    rw[Nat.testBit_two_pow_add_gt hf,show 2 ^ n+S+2 ^ fx=2 ^ n+(S+2 ^ fx) by omega]
theorem qnl {S fx:Nat} (h:S.testBit fx=false):∀ n,popc n (S+2 ^ fx)=popc n S+(if fx<n then 1 else 0):=by
 intro n
 induction n with
 | zero=>rfl
 | succ n ih =>
  rw[popc,popc,ih,qfy h];by_cases e:n=fx
  · subst e;have a1:¬ n<n:=by omega
    have a2:n<n+1:=by omega
    simp [h,a1,a2]
  · by_cases h1 : fx < n
    · have a2 : fx < n + 1 := by omega
      rw[decide_eq_false e,Bool.false_or,if_pos h1,if_pos a2];omega
    · have a2 : ¬ fx < n + 1 := by omega
      rw[decide_eq_false e,Bool.false_or,if_neg h1,if_neg a2];omega
theorem qx9 {n f fx S:Nat} (hf:f<n) (hx:fx<n) (hne:f≠fx) (h1:S.testBit f=false) (h2:S.testBit fx=false):popc n S+2<=n:=by
 have a:=qnl h1 n;have b:(S+2 ^ f).testBit fx=false:=by rw[qfy h1,decide_eq_false (fun e=>hne e.symm),Bool.false_or,h2]
 have c:=qnl b n;rw[if_pos hf] at a;rw[if_pos hx] at c;have:=qzX n (S+2 ^ f+2 ^ fx);omega
theorem qlZ {v:Nat->Rat} {n f fx:Nat} (on:Bool) (hf:f<n) (hx:fx<n) (hne:f≠fx) (hv:∀ S,S.testBit fx=false->v (S+2 ^ fx)=v S):qju v n f=qfG v n fx on f:=by
 rw[qfG,if_neg hne,qju,qlb fx n _ hx,qlb fx n (qk8 v n fx on f) hx];refine qaB fun S _=>?_
 cases h2:S.testBit fx with
 | true=>rfl
 | false =>
  rw[if_neg (by decide),if_neg (by decide)];have hfx:(S+2 ^ fx).testBit fx=true:=by rw[qfy h2,decide_eq_true rfl,Bool.true_or]
  have hff:(S+2 ^ fx).testBit f=S.testBit f:=by rw[qfy h2,decide_eq_false hne,Bool.false_or]
  unfold qsq qk8;rw[hff,hfx,h2];cases h1:S.testBit f with
  | true=>rfl
  | false =>
   have hp:=qx9 hf hx hne h1 h2;have ha:=qnl h2 n;rw[if_pos hx] at ha;have hb:(S+2 ^ f).testBit fx=false:=by rw[qfy h1,decide_eq_false (fun e=>hne e.symm),Bool.false_or,h2]
   have e1:v (S+2 ^ fx+2 ^ f)=v (S+2 ^ f):=by rw[show S+2 ^ fx+2 ^ f=S+2 ^ f+2 ^ fx by omega,hv _ hb]
   have e2:=hv S h2;have hw:=qze (k:=popc n S) (n:=n-1) (by omega);rw[show n-1+1=n by omega] at hw;rw[ha,e1,e2];have o1:popc n S+1-on01 true=popc n S:=rfl;have o2:popc n S-on01 false=popc n S:=rfl;cases on with
   | true =>
    simp only[Bool.false_eq_true,if_false,if_true,o1];rw[<- hw];grind
   | false =>
    simp only[Bool.false_eq_true,if_false,if_true,o2];rw[<- hw];simp;grind
theorem qss {v w:Nat->Rat} {n fx:Nat} {on:Bool} {f:Nat} (hne:f≠fx->f<n) (h:∀ S,S.testBit fx=on->v S=w S):qfG v n fx on f=qfG w n fx on f:=by
 unfold qfG;split
 · rfl
 · rename_i hf;refine qaB fun S _=>?_
   unfold qk8;cases h1:S.testBit f with
   | true=>rfl
   | false =>
    by_cases h2:S.testBit fx=on
    · simp only [Bool.false_eq_true, if_false, if_pos h2];rw[h S h2,h (S+2 ^ f) (by rw[qfy h1,decide_eq_false (fun e=>hf e.symm),Bool.false_or];exact h2)]
    · simp only[Bool.false_eq_true,if_false,if_neg h2]
theorem qqU (v w:Nat->Rat) (n fx:Nat) (on:Bool) (f:Nat):qfG (fun S=>v S+w S) n fx on f=qfG v n fx on f+qfG w n fx on f:=by
 unfold qfG;split
 · rw[Rat.add_zero]
 · rw [<- qfh];refine qaB fun S _=>?_
   unfold qk8;split
   · rw[Rat.add_zero]
   · split
     · grind
     · rw[Rat.add_zero]
theorem qpd (n fx:Nat) (on:Bool) (f:Nat):qfG (fun _=>0) n fx on f=0:=by
 unfold qfG;split
 · rfl
 · refine qfI fun S _ => ?_
   unfold qk8;split
   · rfl
   · split
     · grind
     · rfl
theorem quq {α:Type} (v:α->Nat->Rat) (n fx:Nat) (on:Bool) (f:Nat):∀ l:List α,qfG (fun S=>lsum (l.map fun x=>v x S)) n fx on f=lsum (l.map fun x=>qfG (v x) n fx on f):=by
 intro l
 induction l with
 | nil=>exact qpd n fx on f
 | cons x l ih=>rw[List.map_cons,lsum,<- ih,<- qqU];rfl
theorem qup (v:Nat->Nat->Rat) (n fx:Nat) (on:Bool) (f:Nat):∀ k,qfG (fun S=>rsum (fun i=>v i S) k) n fx on f=rsum (fun i=>qfG (v i) n fx on f) k:=by
 intro k
 induction k with
 | zero=>exact qpd n fx on f
 | succ k ih=>rw[rsum,<- ih,<- qqU];rfl
theorem qwD {t:List NODE} {row:List CELL} {fx n S:Nat} {on:Bool} (hc:∀ i,i<t.length->cov t i≠0) (hS:S.testBit fx=on) {T:TR} (h:Is t (n:Int) T) :
  ∀ (w:List AP) (g:Rat),lsum ((qiY t row (fx:Int) on T w g).map fun y=>qbZ S y.2*y.1)=qbZ S w*g*expT t row S T:=by
 induction T with
 | leaf i=>intro w g;simp only[qiY,List.map_cons,List.map_nil,lsum,expT,Rat.add_zero];grind
 | split i l r ihl ihr =>
  intro w g;obtain⟨h1,h2,f0,f1,h3,h4,h5,h6⟩:=h;have ihl:=ihl h5;have ihr:=ihr h6;have hci:=hc i h1;simp only[qiY,List.map_append,qeP,expT];by_cases hf:qbY (qcd t i)=(fx:Int)
  · have hbit : S.testBit (qbY (qcd t i)).toNat = on := by rw [hf, tN0]; exact hS
    rw[hbit];cases on with
    | true =>
     have k1:kOn t row (fx:Int) true i true=goL t row i:=by rw[kOn,if_pos hf];cases goL t row i<;>rfl
     have k2:kOn t row (fx:Int) true i false=!goL t row i:=by rw[kOn,if_pos hf];cases goL t row i<;>rfl
     rw[k1,k2,kW,if_pos hf,kW,if_pos hf,kG,if_pos hf,kG,if_pos hf];simp only[if_true];cases goL t row i with
     | true=>simp only[if_true,Bool.not_true,Bool.false_eq_true,if_false,List.map_nil,lsum,Rat.add_zero];exact ihl w g
     | false=>simp only[Bool.not_false,if_true,Bool.false_eq_true,if_false,List.map_nil,lsum,Rat.zero_add];exact ihr w g
    | false =>
     have k1:∀ s,kOn t row (fx:Int) false i s=true:=fun s=>by rw[kOn,if_pos hf];rfl
     rw[k1,k1,kW,if_pos hf,kW,if_pos hf,kG,if_pos hf,kG,if_pos hf];simp only[if_true,Bool.false_eq_true,if_false];rw[ihl,ihr];simp only[Rat.div_def]
     grind
  · have k1 : ∀ s, kOn t row (fx : Int) on i s = true := fun s => if_neg hf
    rw[k1,k1,kW,if_neg hf,kW,if_neg hf,kG,if_neg hf,kG,if_neg hf];simp only[if_true];rw[ihl,ihr,qjw,qjw];unfold facP;have ef:qnc t i=(qbY (qcd t i)).toNat:=rfl;rw[ef];cases S.testBit (qbY (qcd t i)).toNat with
    | true =>
     cases goL t row i with
     | true=>simp;grind
     | false=>simp;grind
    | false =>
     simp only[Bool.false_eq_true,if_false,Rat.div_def]
     grind
theorem qwE {t:List NODE} {row:List CELL} {fx:Nat} {on:Bool} {n:Nat} {T:TR} (h:Is t (n:Int) T):∀ (w:List AP) (g:Rat),(∀ p∈w,p.1≠fx)->∀ y∈qiY t row (fx:Int) on T w g,∀ p∈y.2,p.1≠fx:=by
 induction T with
 | leaf i=>intro w g hw y hy;simp only[qiY,List.mem_singleton] at hy;subst hy;exact hw
 | split i l r ihl ihr =>
  intro w g hw y hy;obtain⟨h1,h2,f0,f1,h3,h4,h5,h6⟩:=h;have hk:∀ c s,∀ p∈kW t row (fx:Int) i c s w,p.1≠fx:=fun c s=>by
    unfold kW;split
    · exact hw
    · rename_i hf;intro p hp;rcases qoF p hp with e | ⟨p',q1,q2⟩
      · rw [e, qnc];rw[qbX h1] at hf ⊢;omega
      · have:=hw p' q1;omega
  simp only[qiY,List.mem_append] at hy;rcases hy with hy | hy
  · split at hy
    · exact ihl h5 _ _ (hk _ _) y hy
    · cases hy
  · split at hy
    · exact ihr h6 _ _ (hk _ _) y hy
    · cases hy
theorem qv6 {w:List AP} {fx S:Nat} (hw:∀ p∈w,p.1≠fx) (hS:S.testBit fx=false):qbZ (S+2 ^ fx) w=qbZ S w:=by
 unfold qbZ;congr 1;refine List.map_congr_left fun p hp=>?_
 unfold facP;rw[qfy hS,decide_eq_false (hw p hp),Bool.false_or]
theorem qvN {t:List NODE} {row:List CELL} {fx:Nat} {on:Bool} (hc:qeb t) (h:Is t (row.length:Int) (treeOf t)) (hx:fx<row.length) {f:Nat} (hf:f<row.length) :
   trV t row (fx:Int) on f=qfG (fun S=>expT t row S (treeOf t)) row.length fx on f:=by
 have hoff:=qwE (row:=row) (fx:=fx) (on:=on) h [] 1 (by simp);have e1:qfG (fun S=>expT t row S (treeOf t)) row.length fx on f=qfG (fun S=>lsum ((qiY t row (fx:Int) on (treeOf t) [] 1).map fun y=>qbZ S y.2*y.1)) row.length fx on f:=by
   refine qss (fun _=>hf) fun S hS=>?_
   rw[qwD hc.ne hS h];show _=qel []*1*_;rw[qel,Rat.one_mul,Rat.one_mul]
 rw[e1,quq (fun(y:PL) S=>qbZ S y.2*y.1)];unfold trV totL;congr 1;refine List.map_congr_left fun y hy=>?_
 have hv:∀ S,S.testBit fx=false->(fun S=>qbZ S y.2*y.1) (S+2 ^ fx)=(fun S=>qbZ S y.2*y.1) S:=fun S hS=>by
   show qbZ (S+2 ^ fx) y.2*y.1=_;rw[qv6 (hoff y hy) hS]
 by_cases e:f=fx
 · subst e;rw[qfG,if_pos rfl];refine qfI fun S _=>?_
   unfold qsq;cases hb:S.testBit f with
   | true=>rfl
   | false =>
    rw[if_neg (by decide),hv S hb];grind
 · exact qlZ on hf hx e hv
theorem qiE {m:qam} {row:List CELL} (h:Askd m row) {fx:Nat} (on:Bool) (hx:fx<row.length) {f:Nat} (hf:f<row.length):qfJ m row (fx:Int) on f=qfG (sayM m row) row.length fx on f:=by
 have e:=qup (fun j S=>expT (qaA m j) row S (treeOf (qaA m j))) row.length fx on f m.2.length;have e:qfG (sayM m row) row.length fx on f=_:=e;rw[e];refine qaB fun j hj=>?_
 obtain⟨t1,t2,t3,t4,t5⟩:=h.tree hj;rw[t5] at t2 ⊢;exact qvN (h.cov hj) t2 hx hf
theorem qpE {m:qam} {row:List CELL} {fx:Nat} {on:Bool} (h:qcc m row=some 0) (ha:Askd m row) (hx:(fx:Int)<m.1):qdM m row (fx:Int) on=some (flo row.length (qfJ m row (fx:Int) on),0):=by
 rw[qdM,h,bS0,show(!decide ((0:Int)=0))=false by decide,cond_false,cnd' (by omega),cnd' (by omega),qub ha];rfl
theorem bnd2 {α:Type} {a b:α} {p q:Prop} [Decidable p] [Decidable q] (hp:p) (hq:q):(bif decide p&&decide q then a else b)=a:=by simp [hp,hq]
def qBq:Rat:=((1:Int):Rat)/((2:Int):Rat)
def qfb (m:qam) (row:List CELL) (i k:Nat):Rat:=(qfJ m row (k:Int) true i-qfJ m row (k:Int) false i)*qBq
theorem qwI {m:qam} {row:List CELL} (h:Askd m row) {i:Nat} (k:Nat) (hi:i<row.length):SzQ (qfb m row i k) 3000000010 :=
 (((qiD h (k:Int) true hi).sub (qiD h (k:Int) false hi)).mul qwL).mono (by decide)
theorem qxi {m:qam} {row:List CELL} (h:Askd m row) (hf:qcc m row=some 0) {k:Nat} (hk:k<row.length):qdc m row (k:Int)=some (flo row.length fun i=>qfb m row i k):=by
 have hl:=h.len;have h64:=h.f64;have hkm:(k:Int)<m.1:=by omega
 have key:=qft (step:=qaZ) (fun i=>((flo row.length (qfJ m row (k:Int) true),flo row.length (qfJ m row (k:Int) false),flo i (fun i=>qfb m row i k),(row.length:Int),(i:Int),()),())) row.length (r:=((flo row.length (fun i=>qfb m row i k),()),())) (by omega) (by
  intro g i hi;have d0:(i:Int)<(row.length:Int):=by omega
  have s1:=qiD h (k:Int) true hi;have s2:=qiD h (k:Int) false hi;rw[qaZ,cnd d0,bnd2 (by omega) (by rw[qaY];exact d0),tN0,qeR _ hi,bS0,bnd2 (by omega) (by rw[qaY];exact d0),qeR _ hi,bS0,
   qf1 (s1.sm (by decide)) (s2.sm (by decide)),bS0,qae,qae,qlo (by decide) (by decide) (by decide) (by decide),bS0,
   qaF ((s1.sub s2).sm (by decide)) (qwL.sm (by decide)),bS0,qae,qae,blt (by rw[qaY];omega),cond_true,qbv (by omega)]
  simp only[flo,List.range_succ,List.map_append];rfl) (by
  intro g;rw[qaZ,cnd' (by omega)])
 have key:lp qaZ K0 ((flo row.length (qfJ m row (k:Int) true),flo row.length (qfJ m row (k:Int) false),[],(row.length:Int),0,()),())=_:=key;rw[qdc,qpE hf h hkm,bS0,qpE hf h hkm,bS0]
 try dsimp only
 rw[qaY,key];rfl
def grd (r n:Nat) (g:Nat->Nat->Rat):List (Option (List RAT)):=(List.range r).map fun i=>some (flo n (g i))
theorem qcV (r n:Nat) (g:Nat->Nat->Rat):(grd r n g).length=r:=by simp [grd]
theorem qkS {r n i:Nat} (g:Nat->Nat->Rat) (h:i<r):(grd r n g)[i]?=some (some (flo n (g i))):=by simp [grd,h]
theorem qgf {r n:Nat} {g g':Nat->Nat->Rat} (h:∀ i,i<r->∀ j,j<n->g i j=g' i j):grd r n g=grd r n g':=by
 unfold grd;exact List.map_congr_left fun i hi=>by rw[qlL (h i (List.mem_range.1 hi))]
theorem qAo {r n i:Nat} {g g':Nat->Nat->Rat} (h1:∀ j,j<n->g' i j=g' i j) (h2:∀ a,a<r->a≠i->∀ j,j<n->g' a j=g a j):(grd r n g).set i (some (flo n (g' i)))=grd r n g':=by
 apply List.ext_getElem?;intro a;rw[List.getElem?_set];by_cases ha:a<r
 · rw [qkS _ ha, qkS _ ha, qcV];by_cases e:i=a
   · subst e;rw[if_pos rfl,if_pos ha]
   · rw[if_neg e,qlL (fun j hj=>h2 a ha (fun e'=>e e'.symm) j hj)]
 · have q1 : (grd r n g)[a]? = none := List.getElem?_eq_none (by rw [qcV]; omega);have q2:(grd r n g')[a]?=none:=List.getElem?_eq_none (by rw[qcV];omega);rw[q1,q2];split
   · rw[if_neg (by rw[qcV];omega)]
   · rfl
theorem qwO {r n i k:Nat} {g g':Nat->Nat->Rat} {x:Rat} (h1:g' i k=x) (h2:∀ j,j≠k->g' i j=g i j) (h3:∀ a,a<r->a≠i->∀ j,j<n->g' a j=g a j):(grd r n g).set i (some ((flo n (g i)).set k (canQ x)))=grd r n g':=by
 rw[qwV (o:=g i) (p:=g' i) h1 h2];exact qAo (fun _ _=>rfl) h3
theorem qxX {n:Nat} (h:n<=1000000):qeJ (n:Int)=some (grd n n fun _ _=>0):=by
 have inner:∀ (out:List (Option (List RAT))) (v5 v6:Int),lp qbj K0 (((n:Int),out,[],v5,v6,(n:Int),0,()),())=some (((n:Int),out,flo n (fun _=>0),v5,v6,()),()):=fun out v5 v6 =>
  qft (step:=qbj) (fun j=>(((n:Int),out,flo j (fun _=>0),v5,v6,(n:Int),(j:Int),()),())) n (r:=(((n:Int),out,flo n (fun _=>0),v5,v6,()),())) (by omega) (by
   intro g j hj;have d0:(j:Int)<(n:Int):=by omega
   rw[qbj,cnd d0,qcl,bS0,blt (by rw[qaY];omega),cond_true,qbv (by omega)];simp only[flo,List.range_succ,List.map_append];rfl) (by
   intro g;rw[qbj,cnd' (by omega)])
 have key:=qft (step:=qbk) (fun i=>(((n:Int),grd i n (fun _ _=>0),(n:Int),(i:Int),()),())) n (r:=((grd n n (fun _ _=>0),()),())) (by omega) (by
  intro g i hi;have d0:(i:Int)<(n:Int):=by omega
  rw[qbk,cnd d0,inner,bS0]
  try dsimp only
  rw[blt (by rw[qcV];simp only[List.length_cons,List.length_nil];omega),cond_true,qbv (by omega)]
  simp only[grd,List.range_succ,List.map_append];rfl) (by
  intro g;rw[qbk,cnd' (by omega)])
 have key:lp qbk K0 (((n:Int),[],(n:Int),0,()),())=_:=key;rw[qeJ,key];rfl
theorem qxB {n k:Nat} {w:Nat->Rat} (hw:∀ i,i<n->SzQ (w i) k) (hk:1+n*(k+1)<1099511627776) (hn:n<1000000):qdn (flo n w)=some (flo n w,canQ (rsum w n)):=by
 have hsz:∀ i,i<=n->SzQ (rsum w i) (1+i*(k+1)):=fun i hi=>qkE (n:=i) (fun j hj=>hw j (by omega))
 have hpart:∀ i,i<=n->Sm (canQ (rsum w i)):=fun i hi=>by
  refine(hsz i hi).sm (Nat.lt_of_le_of_lt ?_ hk);have:=Nat.mul_le_mul_right (k+1) hi;omega
 have key:=qft (step:=qbJ) (fun i=>((flo n w,(n:Int),(i:Int),()),((false,[],[],()),((canQ (rsum w i)).1.1,(canQ (rsum w i)).1.2,(canQ (rsum w i)).2,()),()))) n
  (r:=((flo n w,()),((false,[],[],()),((canQ (rsum w n)).1.1,(canQ (rsum w n)).1.2,(canQ (rsum w n)).2,()),()))) (by omega) (by
  intro g i hi;have d0:(i:Int)<(n:Int):=by omega
  have hk1:k<1099511627776:=by have:1*(k+1)<=n*(k+1):=Nat.mul_le_mul_right _ (by omega);omega
  have hp:=qb9 (hpart i (by omega)) ((hw i hi).sm hk1);rw[qae,qae] at hp;have hp':qbz (((canQ (rsum w i)).1.1,(canQ (rsum w i)).1.2),(canQ (rsum w i)).2) (canQ (w i))=some (canQ (rsum w (i+1))):=hp;rw[qbJ,cnd d0,bnd2 (by omega) (by rw[qaY];exact d0),tN0,qeR _ hi,bS0,hp',bS0,qbv (by omega)];rfl) (by
  intro g;rw[qbJ,cnd' (by omega)])
 have key':lp qbJ K0 ((flo n w,(n:Int),0,()),((false,[],[],()),((canQ 0).1.1,(canQ 0).1.2,(canQ 0).2,()),()))=_:=key;rw[qdn,qcl,bS0,qaY,key',bS0]
 try dsimp only
 rw[qaY,Nat.beq_refl];rfl
def offQ (m:qam) (row:List CELL) (a b:Nat):Rat:=if a=b then 0 else if qqI m b then qfb m row a b else 0
def qhD (m:qam) (row:List CELL) (a b:Nat):Rat:=if a=b then qfJ m row (-1) false a-rsum (offQ m row a) row.length else offQ m row a b
theorem qn8 {m:qam} {row:List CELL} (h:Askd m row) {a:Nat} (b:Nat) (ha:a<row.length):SzQ (offQ m row a b) 3000000010:=by
 unfold offQ;split
 · exact SzQ.zero.mono (by decide)
 · split
   · exact qwI h b ha
   · exact SzQ.zero.mono (by decide)
theorem qtj {m:qam} {row:List CELL} (h:Askd m row) (hf:qcc m row=some 0) (hv:qds m=some true) (h8:row.length<=70):qdd m row=some (grd row.length row.length (qhD m row),0):=by
 have hl:=h.len;have h64:=h.f64;have hml:(qnI m).length=row.length:=by rw[qvC];omega
 obtain⟨n,hn⟩:∃ n,n=row.length:=⟨_,rfl⟩;have hm1:m.1=(n:Int):=by omega
 have inner:∀ (G:Nat->Nat->Rat) (k:Nat),k<n->lp qaP K0 ((row,flo n (qfJ m row (-1) false),grd n n G,qnI m,(k:Int),(n:Int),(k:Int),flo n (fun i=>qfb m row i k),(n:Int),0,()),((m.1,m.2,()),())) =
   some ((row,flo n (qfJ m row (-1) false),grd n n (fun a b=>if b=k/\a<n/\a≠k then qfb m row a k else G a b),qnI m,(n:Int),(k:Int),()),((m.1,m.2,()),())):=by
  intro G k hk;have e0:grd n n G=grd n n (fun a b=>if b=k/\a<0/\a≠k then qfb m row a k else G a b):=qgf fun a _ b _=>by rw[if_neg (fun h=>absurd h.2.1 (Nat.not_lt_zero a))]
  rw[e0];refine qft (step:=qaP) (fun i=>((row,flo n (qfJ m row (-1) false),grd n n (fun a b=>if b=k/\a<i/\a≠k then qfb m row a k else G a b),qnI m,(k:Int),(n:Int),(k:Int),flo n (fun i=>qfb m row i k),(n:Int),(i:Int),()),((m.1,m.2,()),()))) n (by omega) (by
   intro g i hi;have d0:(i:Int)<(n:Int):=by omega
   rw[qaP,cnd d0,bnd2 (by omega) (by rw[qaY];exact d0),tN0,qeR _ hi,bS0];by_cases e:i=k
   · subst e;rw[decide_eq_true rfl,Bool.not_true,cond_false,qbv (by omega)];rw[qgf (g':=fun a b=>if b=i/\a<i+1/\a≠i then qfb m row a i else G a b) (fun a _ b _=>by
       by_cases e1:b=i/\a<i/\a≠i
       · rw[if_pos e1,if_pos ⟨e1.1,by omega,e1.2.2⟩]
       · rw[if_neg e1,if_neg (fun h=>e1 ⟨h.1,by omega,h.2.2⟩)])]
     rfl
   · rw [decide_eq_false (show ¬ (i : Int) = (k : Int) by omega), Bool.not_false, cond_true, bnd2 (by omega) (by rw [qcV]; exact d0), qkS _ hi, bS0, bS0];rw[bS0,bnd2 (by omega) (by rw[qaY];omega),tN0,bS0,bS0,qeR _ hk,bS0,qbv (by omega)];rw [qwO (g := fun a b => if b = k /\ a < i /\ a ≠ k then qfb m row a k else G a b) (g' := fun a b => if b = k /\ a < i + 1 /\ a ≠ k then qfb m row a k else G a b) (by (try dsimp only); rw [if_pos ⟨rfl, by omega, e⟩]) (fun j hj => by
         (try dsimp only);rw[if_neg (fun h=>hj h.1),if_neg (fun h=>hj h.1)]) (fun a _ ha j _=>by
         try dsimp only
         by_cases e1:j=k/\a<i/\a≠k
         · rw[if_pos e1,if_pos ⟨e1.1,by omega,e1.2.2⟩]
         · rw[if_neg e1,if_neg (fun h=>e1 ⟨h.1,by omega,h.2.2⟩)])]
     rfl) (by
   intro g;rw[qaP,cnd' (by omega)])
 have outer:=qft (step:=qa0) (fun k=>((row,flo n (qfJ m row (-1) false),grd n n (fun a b=>if b<k then offQ m row a b else 0),qnI m,(n:Int),(k:Int),()),((m.1,m.2,()),()))) n
  (r:=((flo n (qfJ m row (-1) false),grd n n (offQ m row),()),())) (by omega) (by
  intro g k hk;have d0:(k:Int)<(n:Int):=by omega
  rw[qa0,cnd d0,cnd (by omega),tN0,qvD (by omega),bS0];cases hu:qqI m k with
  | false =>
   rw[Bool.not_false,cond_true,qbv (by omega)];rw[qgf (g':=fun a b=>if b<k+1 then offQ m row a b else 0) (fun a _ b _=>by
     by_cases e1:b<k
     · rw[if_pos e1,if_pos (by omega)]
     · rw [if_neg e1];by_cases e2:b=k
       · rw[if_pos (by omega),offQ,e2,hu];simp
       · rw[if_neg (by omega)])]
   rfl
  | true =>
   rw[Bool.not_true,cond_false,show((m.1,m.2):qam)=m from rfl,qxi h hf (by omega),bS0,qaY,<- hn,inner _ k hk,bS0]
   try dsimp only
   rw[qbv (by omega)];rw[qgf (g':=fun a b=>if b<k+1 then offQ m row a b else 0) (fun a ha b _=>by
     by_cases e1:b=k
     · subst e1;rw[if_pos (show b<b+1 by omega)];by_cases e2:a=b
       · rw[if_neg (fun h=>h.2.2 e2),if_neg (Nat.lt_irrefl b),offQ,if_pos e2]
       · rw[if_pos ⟨rfl,ha,e2⟩,offQ,if_neg e2,if_pos hu]
     · rw [if_neg (fun h => e1 h.1)];by_cases e2:b<k
       · rw[if_pos e2,if_pos (by omega)]
       · rw[if_neg e2,if_neg (by omega)])]
   rfl) (by
  intro g;rw[qa0,cnd' (by omega)];rw[qgf (g':=offQ m row) (fun a _ b hb=>by rw[if_pos hb])])
 have osz:∀ i,i<n->SzQ (rsum (offQ m row i) n) 300000002000:=fun i hi=>by
  have h1:=qkE (f:=offQ m row i) (k:=3000000010) (n:=n) (fun j _=>qn8 h j (by omega));have:n*(3000000010+1)<=70*(3000000010+1):=Nat.mul_le_mul_right _ (by omega);exact h1.mono (by omega)
 have last:=qft (step:=qaO) (fun i=>((flo n (qfJ m row (-1) false),grd n n (fun a b=>if a<i then qhD m row a b else offQ m row a b),(n:Int),(i:Int),()),())) n
  (r:=((grd n n (qhD m row),()),())) (by omega) (by
  intro g i hi;have d0:(i:Int)<(n:Int):=by omega
  have hsum:=qxB (n:=n) (w:=offQ m row i) (k:=3000000010) (fun j _=>qn8 h j (by omega)) (by
   have:n*(3000000010+1)<=70*(3000000010+1):=Nat.mul_le_mul_right _ (by omega);omega) (by omega)
  have hrow:(fun b=>if i<i then qhD m row i b else offQ m row i b)=offQ m row i:=by
   funext b;rw[if_neg (by omega)]
  have s0:SzQ (offQ m row i i) 3000000010:=qn8 h i (by omega);have s1:=osz i hi;have e0:offQ m row i i=0:=by rw[offQ,if_pos rfl]
  rw[qaO,cnd d0,bnd2 (by omega) (by rw[qcV];exact d0),tN0,qkS _ hi,hrow,bS0,bnd2 (by omega) (by rw[qaY];exact d0),qeR _ hi,bS0,bnd2 (by omega) (by rw[qcV];exact d0),bS0,bS0,bS0,hsum,bS0]
  try dsimp only
  rw[qhA rfl,qmo,cond_true,bnd2 (by omega) (by rw[qcV];exact d0),bS0,bS0,bS0,bnd2 (by omega) (by rw[qaY];exact d0),bS0,bS0,qeR _ hi,bS0,
   qf1 (s1.sm (by decide)) (s0.sm (by decide)),bS0,qae,qae,qf1 ((qiD h (-1) false (show i<row.length by omega)).sm (by decide)) ((s1.sub s0).sm (by decide)),bS0,qae,qae,
   bS0,bS0,bnd2 (by omega) (by rw[qaY];exact d0),bS0,bS0,qeR _ hi,bS0,qbv (by omega)]
  have hset:=qwO (r:=n) (n:=n) (i:=i) (k:=i) (g:=fun a b=>if a<i then qhD m row a b else offQ m row a b) (g':=fun a b=>if a<i+1 then qhD m row a b else offQ m row a b) (x:=qfJ m row (-1) false i-(rsum (offQ m row i) n-offQ m row i i)) (by
     try dsimp only
     rw[if_pos (by omega),qhD,if_pos rfl,e0,hn];grind) (fun j hj=>by
     try dsimp only
     rw[if_pos (by omega),if_neg (by omega),qhD,if_neg (fun h=>hj h.symm)]) (fun a _ ha j _=>by
     try dsimp only
     by_cases e1:a<i
     · rw[if_pos e1,if_pos (by omega)]
     · rw[if_neg e1,if_neg (by omega)])
  try dsimp only at hset
  rw[hrow] at hset;rw[hset];rfl) (by
  intro g;rw[qaO,cnd' (by omega)];rw[qgf (g':=qhD m row) (fun a ha b _=>by rw[if_pos ha])])
 have outer:lp qa0 K0 ((row,flo n (qfJ m row (-1) false),grd n n (fun a b=>if b<0 then offQ m row a b else 0),qnI m,(n:Int),0,()),((m.1,m.2,()),()))=_:=outer;have last:lp qaO K0 ((flo n (qfJ m row (-1) false),grd n n (fun a b=>if a<0 then qhD m row a b else offQ m row a b),(n:Int),0,()),())=_:=last;rw[qdd,qoG h,bS0]
 try dsimp only
 rw[decide_eq_true rfl,Bool.not_true,cond_false,hm1,qxX (by omega),bS0,qAD hv h.good,bS0,<- hn,qgf (g':=fun a b=>if b<0 then offQ m row a b else 0) (fun a _ b _=>by rw[if_neg (by omega)]),<- hm1,show(m.1:Int)=(n:Int) from hm1];rw[show((n:Int),m.2,())=(m.1,m.2,()) by rw[hm1],outer,bS0]
 try dsimp only
 rw[qcV,qgf (g:=offQ m row) (g':=fun a b=>if a<0 then qhD m row a b else offQ m row a b) (fun a _ b _=>by rw[if_neg (by omega)]),last];rfl
theorem qhJ:qbn=some true:=by decide +kernel
theorem qqn {m:qam} {row:List CELL} (h:Askd m row) {i k:Nat} (hi:i<row.length) (hk:k<row.length) (hne:i≠k) (hu:qqI m k=false):qfb m row i k=0:=by
 have hv:∀ S,S.testBit k=false->sayM m row (S+2 ^ k)=sayM m row S:=fun S hS=>by
  unfold sayM;refine qaB fun j hj=>?_
  obtain⟨t1,t2,t3,t4,t5⟩:=h.tree hj;rw[t5] at t2 ⊢;exact qqW t2 (qsn hu (gM0 hj)) hS
 unfold qfb;rw[qiE h true hk hi,qiE h false hk hi,<- qlZ true hi hk hne hv,<- qlZ false hi hk hne hv]
 grind
theorem qwo {m:qam} {row:List CELL} (h:Askd m row) {a b:Nat} (ha:a<row.length) (hb:b<row.length):offQ m row a b=if a=b then 0 else qfb m row a b:=by
 unfold offQ;by_cases e:a=b
 · rw[if_pos e,if_pos e]
 · rw [if_neg e, if_neg e];cases hu:qqI m b with
   | true=>rw[if_pos rfl]
   | false=>rw[if_neg (by decide),qqn h ha hb e hu]
theorem qtY {J:Type} {n a b:Nat} (g:Nat->Nat->Rat) (ha:a<n) (hb:b<n) (K:RAT->Option J) :
  (bif decide (0<=(a:Int))&&decide ((a:Int)<((grd n n g).length:Int)) then ((grd n n g)[(a:Int).toNat]?).bind fun _=>((grd n n g)[(a:Int).toNat]?).bind fun x=>x.bind fun y=>bif decide (0<=(b:Int))&&decide ((b:Int)<(y.length:Int)) then ((grd n n g)[(a:Int).toNat]?).bind fun x=>x.bind fun y=>(y[(b:Int).toNat]?).bind fun z=>K z else none else none)=K (canQ (g a b)):=by
 rw[bnd2 (by omega) (by rw[qcV];omega),tN0,tN0,qkS _ ha,bS0,bS0,bS0,bnd2 (by omega) (by rw[qaY];omega),bS0,bS0,qeR _ hb,bS0]
theorem qvb {J:Type} {n a:Nat} (g:Nat->Nat->Rat) (ha:a<n) (K:List RAT->Option J) :
  (bif decide (0<=(a:Int))&&decide ((a:Int)<((grd n n g).length:Int)) then ((grd n n g)[(a:Int).toNat]?).bind fun _=>((grd n n g)[(a:Int).toNat]?).bind fun x=>x.bind fun y=>K y else none)=K (flo n (g a)):=by
 rw[bnd2 (by omega) (by rw[qcV];omega),tN0,qkS _ ha,bS0,bS0,bS0]
def twoT (v:Nat->Rat) (n i k S:Nat):Rat :=
 if S.testBit k then 0 else if S.testBit i then 0 else wq (popc n S) (n-1)*(v (S+2 ^ i+2 ^ k)-v (S+2 ^ k)-(v (S+2 ^ i)-v S))
theorem qvZ (v:Nat->Rat) {n i k:Nat} (hi:i<n) (hk:k<n) (hne:i≠k):qfG v n k true i-qfG v n k false i=rsum (twoT v n i k) (2 ^ n):=by
 have key:qfG v n k true i=qfG v n k false i+rsum (twoT v n i k) (2 ^ n):=by
  rw[qfG,if_neg hne,qfG,if_neg hne,qlb k n (qk8 v n k true i) hk,qlb k n (qk8 v n k false i) hk,<- qfh];refine qaB fun S _=>?_
  unfold twoT;cases h2:S.testBit k with
  | true=>simp only[if_true];rw[Rat.add_zero]
  | false =>
   simp only[Bool.false_eq_true,if_false];have hfx:(S+2 ^ k).testBit k=true:=by rw[qfy h2,decide_eq_true rfl,Bool.true_or]
   have hff:(S+2 ^ k).testBit i=S.testBit i:=by rw[qfy h2,decide_eq_false hne,Bool.false_or]
   unfold qk8;rw[hff,hfx,h2];cases h1:S.testBit i with
   | true=>simp only[if_true];rw[Rat.add_zero,Rat.add_zero]
   | false =>
    have ha:=qnl h2 n;rw[if_pos hk] at ha;rw[ha];have o1:popc n S+1-on01 true=popc n S:=rfl;have o2:popc n S-on01 false=popc n S:=rfl;simp only[Bool.false_eq_true,if_false,if_true,o1,o2];rw[show S+2 ^ k+2 ^ i=S+2 ^ i+2 ^ k by omega];simp
    grind
 rw[key];grind
theorem qvH (v:Nat->Rat) (n i k S:Nat):twoT v n i k S=twoT v n k i S:=by
 unfold twoT;cases h1:S.testBit i<;>cases h2:S.testBit k<;>simp only[Bool.false_eq_true,if_false,if_true];rw[show S+2 ^ k+2 ^ i=S+2 ^ i+2 ^ k by omega]
 grind
theorem qpq {m:qam} {row:List CELL} (h:Askd m row) {i k:Nat} (hi:i<row.length) (hk:k<row.length) (hne:i≠k):qfb m row i k=rsum (twoT (sayM m row) row.length i k) (2 ^ row.length)*qBq:=by
 rw[qfb,qiE h true hk hi,qiE h false hk hi,qvZ _ hi hk hne]
theorem qsZ {m:qam} {row:List CELL} (h:Askd m row) {i k:Nat} (hi:i<row.length) (hk:k<row.length) (hne:i≠k):qfb m row i k=qfb m row k i:=by
 rw[qpq h hi hk hne,qpq h hk hi (fun e=>hne e.symm)];congr 1;exact qaB fun S _=>qvH _ _ _ _ _
theorem quk {m:qam} {row:List CELL} (h:Askd m row) {a b:Nat} (ha:a<row.length) (hb:b<row.length):qhD m row a b=qhD m row b a:=by
 by_cases e:a=b
 · rw[e]
 · rw[qhD,if_neg e,qhD,if_neg (fun e'=>e e'.symm),qwo h ha hb,if_neg e,qwo h hb ha,if_neg (fun e'=>e e'.symm),qsZ h ha hb e]
theorem qvz {m:qam} {row:List CELL} {a:Nat} (ha:a<row.length):rsum (qhD m row a) row.length=qfJ m row (-1) false a:=by
 have e:rsum (qhD m row a) row.length=rsum (fun j=>(if a=j then qfJ m row (-1) false a-rsum (offQ m row a) row.length else 0)+offQ m row a j) row.length:=qaB fun j _=>by
  unfold qhD;by_cases e:a=j
  · rw [if_pos e, if_pos e];have:offQ m row a j=0:=by rw[offQ,if_pos e]
    rw[this,Rat.add_zero]
  · rw[if_neg e,if_neg e,Rat.zero_add]
 rw[e,qfh,qv3,if_pos ha]
 grind
theorem qxQ {m:qam} {row:List CELL} (h:Askd m row) (h8:row.length<=8) {a:Nat} (b:Nat) (ha:a<row.length):SzQ (qhD m row a b) 26000000000:=by
 unfold qhD;split
 · have h1 := qkE (f := offQ m row a) (k := 3000000010) (n := row.length) (fun j _ => qn8 h j ha);have:row.length*(3000000010+1)<=8*(3000000010+1):=Nat.mul_le_mul_right _ h8;exact((qiD h (-1) false ha).sub h1).mono (by omega)
 · exact(qn8 h b ha).mono (by decide)
theorem qmx (m0:qam) (row0:List CELL) (hl:m0.2.length<=9223372036854775807) (ht:∀ t∈m0.2,t.length<=9223372036854775807) (hr:row0.length<=9223372036854775807):qb8 m0 row0=some true:=by
 obtain⟨m,row,hs,ms,ml,mt,cs⟩:=qy2 m0 row0 hl ht hr;obtain⟨b,hv,hb⟩:=qAF (m:=m) (by omega) (fun t h=>by have:=mt t h;omega) ms (by decide);obtain⟨r1,r2⟩:=qzF hv row;rw[qb8,hs,bS0];dsimp only;by_cases h8:m.1>8
 · rw[cnd h8,qhJ];rfl
 rw[cnd' h8];by_cases he:whyR b m row=0
 · have hbt : b = true := by cases b with
    | true=>rfl
    | false=>exact absurd he (by rw[whyR,if_neg (by decide)];decide)
   subst hbt;have hlen:(row.length:Int)=m.1:=by
    apply Classical.byContradiction;intro hn;rw[whyR,if_pos rfl,if_neg hn] at he;exact absurd he (by decide)
   have ha:Askd m row:=⟨hb.1 rfl,hlen,ms,by omega,mt,cs⟩;rw[he] at r1;obtain⟨n,hn⟩:∃ n,n=row.length:=⟨_,rfl⟩;obtain⟨V,eV⟩:∃ V,V=qfJ m row (-1) false:=⟨_,rfl⟩;obtain⟨g,eg⟩:∃ g,g=qhD m row:=⟨_,rfl⟩;have hVals:=qtj ha r1 hv (by omega);have hV:=qoG ha;rw[<- eg,<- hn] at hVals;rw[<- eV,<- hn] at hV;have fz:∀ f,f<n->SzQ (V f) 1500000000:=fun f hf=>by rw[eV];exact qiD ha (-1) false (by omega)
   have gz:∀ a b,a<n->SzQ (g a b) 26000000000:=fun a b h=>by rw[eg];exact qxQ ha (by omega) b (by omega)
   have gs:∀ a,a<n->rsum (g a) n=V a:=fun a h=>by rw[eg,eV,hn];exact qvz (by omega)
   have gsy:∀ a b,a<n->b<n->g a b=g b a:=fun a b h h'=>by rw[eg];exact quk ha (by omega) (by omega)
   have hn8:n<=8:=by omega
   have hsum:∀ a,a<n->qdn (flo n (g a))=some (flo n (g a),canQ (V a)):=fun a h=>by
    have:=qxB (n:=n) (w:=g a) (k:=26000000000) (fun j _=>gz a j h) (by
     have:=Nat.mul_le_mul_right (26000000000+1) hn8;omega) (by omega)
    rw[gs a h] at this;exact this
   have psz:∀ i,i<=n->SzQ (rsum V i) 12000000100:=fun i hi=>by
    have h1:=qkE (f:=V) (k:=1500000000) (n:=i) (fun j hj=>fz j (by omega));have:=Nat.mul_le_mul_right (1500000000+1) (show i<=8 by omega);exact h1.mono (by omega)
   have k1:=qft (step:=qai) (fun i=>((row,grd n n g,flo n V,(i:Int),()),((m.1,m.2,()),((canQ (rsum V i)).1.1,(canQ (rsum V i)).1.2,(canQ (rsum V i)).2,()),()))) n
    (r:=.inl ((row,grd n n g,()),((m.1,m.2,()),((canQ (rsum V n)).1.1,(canQ (rsum V n)).1.2,(canQ (rsum V n)).2,()),()))) (by omega) (by
    intro K i hi;have d0:(i:Int)<((grd n n g).length:Int):=by rw[qcV];omega
    have hsa:qcG (canQ (V i)) (canQ (V i))=some true:=by
     rw[qgC ((fz i hi).sm (by decide)) ((fz i hi).sm (by decide)),decide_eq_true rfl]
    have had:qbz (((canQ (rsum V i)).1.1,(canQ (rsum V i)).1.2),(canQ (rsum V i)).2) (canQ (V i))=some (canQ (rsum V (i+1))):=by
     have:=qb9 ((psz i (by omega)).sm (by decide)) ((fz i hi).sm (by decide));rw[qae,qae] at this;exact this
    rw[qai,cnd d0,qvb _ hi,qaY,qcV,decide_eq_true rfl,Bool.not_true,cond_false];have l1:((grd n n g).length:Int)=(n:Int):=by rw[qcV]
    rw[bnd2 (by omega) (by omega),tN0,qkS _ hi,bS0,bS0,bS0,hsum i hi,bS0];dsimp only;rw[qhA rfl,qmo,cond_true,bnd2 (by omega) (by rw[qaY];omega),qeR _ hi,bS0,hsa,bS0,Bool.not_true,cond_false,bnd2 (by omega) (by omega),bS0,bS0,bS0,hsum i hi,bS0];dsimp only;rw[qhA rfl,qmo,cond_true,had,bS0,qbv (by omega)];rfl) (by
    intro K;rw[qai,cnd' (by rw[qcV];omega)])
   have k1:lp qai K0 ((row,grd n n g,flo n V,0,()),((m.1,m.2,()),((canQ 0).1.1,(canQ 0).1.2,(canQ 0).2,()),()))=_:=k1;have k2:∀ (B:Bool×List Int×List Int×Unit) (i:Nat),i<n->lp qag K0 ((row,grd n n g,(i:Int),0,()),((m.1,m.2,()),B,()))=some (.inl ((row,grd n n g,(i:Int),()),((m.1,m.2,()),B,()))):=by
    rintro⟨b0,b1,b2,_⟩ i hi;refine qft (step:=qag) (fun j=>((row,grd n n g,(i:Int),(j:Int),()),((m.1,m.2,()),(b0,b1,b2,()),()))) n (by omega) (by
     intro K j hj;have hsa:qcG (canQ (g i j)) (canQ (g j i))=some true:=by
      rw[gsy i j hi hj,qgC ((gz j i hj).sm (by decide)) ((gz j i hj).sm (by decide)),decide_eq_true rfl]
     rw[qag,cnd (by rw[qcV];omega),qtY _ hi hj,qtY _ hj hi,hsa,bS0,Bool.not_true,cond_false,qbv (by omega)];rfl) (by
     intro K;rw[qag,cnd' (by rw[qcV];omega)])
   have k3:∀ (B:Bool×List Int×List Int×Unit),lp qah K0 ((row,grd n n g,0,()),((m.1,m.2,()),B,()))=some (.inl ((row,()),((m.1,m.2,()),B,()))):=by
    rintro⟨b0,b1,b2,_⟩;refine qft (step:=qah) (fun i=>((row,grd n n g,(i:Int),()),((m.1,m.2,()),(b0,b1,b2,()),()))) n (by omega) (by
     intro K i hi;rw[qah,cnd (by rw[qcV];omega),k2 _ i hi,bS0];dsimp only;rw[qbv (by omega)];rfl) (by
     intro K;rw[qah,cnd' (by rw[qcV];omega)])
   have pz:SzQ (quC m row) 31:=(qtG (row:=row) ha.good ms (n:=m.2.length) (Nat.le_refl _)).mono (by omega);have sz:SzQ (sayM m row 0) 4000000:=(qv0 ha.good ms mt (Nat.le_refl _)).mono (by
    have:=Nat.mul_le_mul_right 1048577 (show m.2.length<=3 by omega);omega)
   have hall:rsum V n=quC m row-sayM m row 0:=by rw[eV,hn];exact qwa ha
   have hfin:qcG (((canQ (rsum V n)).1.1,(canQ (rsum V n)).1.2),(canQ (rsum V n)).2) (canQ (quC m row-sayM m row 0))=some true:=by
    have:=qgC ((psz n (Nat.le_refl _)).sm (by decide)) ((pz.sub sz).sm (by decide));rw[qae,qae,decide_eq_true hall] at this;exact this
   rw[hVals,bS0,hV,bS0];dsimp only;rw[decide_eq_true rfl,Bool.not_true,cond_false,qcV,qaY,decide_eq_true rfl,Bool.not_true,cond_false,qcl,bS0,cond_false,k1,bS0];dsimp only;rw[k3,bS0];dsimp only;rw[show((m.1,m.2):qam)=m from rfl];rw[qvq ha,bS0,qAL ha.good ms (by omega) mt row,bS0];dsimp only;rw[cnd rfl,cnd rfl,qf1 (pz.sm (by decide)) (sz.sm (by decide)),bS0,qae,qae,hfin,bS0,cond_true,qhJ];rfl
 · rw [qdd, qse r1 he, bS0];dsimp only;rw[decide_eq_false he,Bool.not_false,cond_true,bS0,bS0];dsimp only;have hz:decide (((([]:List (Option (List RAT))).length:Nat):Int)=((([]:List RAT).length:Nat):Int))=true:=rfl;rw[decide_eq_true rfl,Bool.not_true,cond_false,hz,Bool.not_true,cond_false,decide_eq_false he,Bool.not_false,cond_true,r2,bS0,decide_eq_true rfl,cond_true,qhJ];rfl
end Go.Proofs.YtaeiamdjpkgjpaaGreatDoor.X
