/- Own work: part of the proof; the first line of each part says what it tells. -/
import Derived.Test.YtfoedjifcmfogaaDoorLb4
import Derived.Lib.Strings
import Derived.Lib.Slices
import Derived.Lib.Small
import Derived.Lib.Walk
import Derived.Lib.BitFns


namespace Go.Proofs.YtfoedjifcmfogaaDoor.X
open Go
set_option linter.unusedVariables false
set_option linter.unusedSimpArgs false
def iadd (k:IntKind) (x y:Int):Int:=k.wrap (x+y)
def isub (k:IntKind) (x y:Int):Int:=k.wrap (x-y)
def imul (k:IntKind) (x y:Int):Int:=k.wrap (x*y)
def iquo (k:IntKind) (x y:Int):Int:=k.wrap (x.tdiv y)
def irem (x y:Int):Int:=x.tmod y
def ineg (k:IntKind) (x:Int):Int:=k.wrap (0-x)
def iand (k:IntKind) (x y:Int):Int:=k.wrap (BitVec.ofInt k.bits x &&& BitVec.ofInt k.bits y).toNat
def ior (k:IntKind) (x y:Int):Int:=k.wrap (BitVec.ofInt k.bits x ||| BitVec.ofInt k.bits y).toNat
def K0:Nat:=18446744073709551616
def q4q (f:Func):Code:=f.body.getD .skip
def q3q (key:Nat):Code->Code->Code
 | .seq a b,d=>q3q key a (q3q key b d)
 | .cond _ a b,d=>q3q key a (q3q key b d)
 | .block _ b,d=>q3q key b d
 | .loop b,d=>bif Nat.beq (qew b) key then b else q3q key b d
 | _,d=>d
def qjS (lh:LH):Code->List (Code×LC)
 | .seq a b=>qjS lh a++qjS lh b
 | .cond c a b=>match lh (qiB (.cond c a b)) with
  | some lc=>[(.cond c a b,lc)]
  | none=>qjS lh a++qjS lh b
 | .block id b=>match lh (qiB (.block id b)) with
  | some lc=>[(.block id b,lc)]
  | none=>qjS lh b
 | .loop b=>match lh (qiB (.loop b)) with
  | some lc=>[(.loop b,lc)]
  | none=>[]
 | _=>[]
def AllP (p:Code->LC->Prop):List (Code×LC)->Prop
 | []=>True
 | x::r=>p x.1 x.2/\AllP p r
theorem AllP.append {p:Code->LC->Prop} {a b:List (Code×LC)} (h:AllP p (a++b)):AllP p a/\AllP p b:=by
 induction a with
 | nil=>exact⟨trivial,h⟩
 | cons x a ih=>exact⟨⟨h.1,(ih h.2).1⟩,(ih h.2).2⟩
theorem qxW {T:Told} {P:Program} {nt:Nat} {lh:LH}:∀ {c:Code},AllP (q12q T P nt) (qjS lh c)->LHok T P nt lh c:=by
 intro c
 induction c with
 | seq a b iha ihb=>intro h;obtain⟨h1,h2⟩:=AllP.append h;exact⟨iha h1,ihb h2⟩
 | cond c a b iha ihb =>
  intro h;simp only[qjS] at h;simp only[LHok];split at h
  · rename_i lc hl;rw[hl];exact h.1
  · rename_i hl;rw[hl];obtain⟨h1,h2⟩:=AllP.append h;exact⟨iha h1,ihb h2⟩
 | block id b ih =>
  intro h;simp only[qjS] at h;simp only[LHok];split at h
  · rename_i lc hl;rw[hl];exact h.1
  · rename_i hl;rw[hl];exact ih h
 | loop b ih =>
  intro h;simp only[qjS] at h;simp only[LHok];split at h
  · rename_i lc hl;rw[hl];exact h.1
  · rename_i hl;rw[hl];trivial
 | _=>intro _;trivial
theorem q1q {T:Told} {P:Program} {nt:Nat} {lh:LH} {c:Code} {l:List (Code×LC)} (h:qjS lh c=l) (hl:AllP (q12q T P nt) l):LHok T P nt lh c:=qxW (by rw[h];exact hl)
def envL:List (Nat×Ctr)->Env
 | [],_=>none
 | (m,c)::r,f=>bif Nat.beq m f then some c else envL r f
def AllC (T:Told) (P:Program):List (Nat×Ctr)->Prop
 | []=>True
 | x::r=>qam T P (x.1 % 1048576) x.2/\AllC T P r
theorem q5q {T:Told} {P:Program}:∀ {l:List (Nat×Ctr)},AllC T P l->qas T P (envL l)
 | [],_,f,c,hf=>by cases hf
 | (m,c0)::r,h,f,c,hf=>by
  simp only[envL] at hf;cases hb:Nat.beq m f with
  | true =>
   rw[hb] at hf;have:=Nat.eq_of_beq_eq_true hb;subst this;injection hf with hf
   subst hf;exact h.1
  | false =>
   rw[hb] at hf;exact q5q h.2 f c hf
def zB:Value->Value->Bool
 | .int k n,.int k' n'=>decide (k=k')&&decide (n=n')
 | .bool b,.bool b'=>b == b'
 | .string s,.string s'=>Nat.beq s.size 0&&Nat.beq s'.size 0
 | .slice none 0 0,.slice none 0 0=>true
 | .pointer none,.pointer none=>true
 | _,_=>false
theorem qAA {a b:Value} (h:zB a b=true):a=b:=by
 unfold zB at h;split at h
 · simp only[Bool.and_eq_true,decide_eq_true_eq] at h;rw[h.1,h.2]
 · simp only[beq_iff_eq] at h;rw[h]
 · simp only [Bool.and_eq_true] at h;rename_i s s';have h1:=Nat.eq_of_beq_eq_true h.1;have h2:=Nat.eq_of_beq_eq_true h.2;obtain⟨d⟩:=s;obtain⟨d'⟩:=s';have e1:d=#[]:=Array.eq_empty_of_size_eq_zero h1;have e2:d'=#[]:=Array.eq_empty_of_size_eq_zero h2;rw[e1,e2]
 · rfl
 · rfl
 · cases h
def zsB:List Value->List Value->Bool
 | [],[]=>true
 | a::l,b::r=>zB a b&&zsB l r
 | _,_=>false
theorem qx4:∀ {l r:List Value},zsB l r=true->l=r
 | [],[],_=>rfl
 | a::l,b::r,h=>by
  simp only[zsB,Bool.and_eq_true] at h;rw[qAA h.1,qx4 h.2]
def tyB (P:Program) (T:TypeId) (t:Ty):Bool :=
 match P.info? T,P.underlying T with
 | some i,some d=>Nat.beq i.size t.size&&(match i.zero with | some z=>zsB z.cells.toList (qlf t) | none=>false)&&(d.isRow == t.isAgg)
 | _,_=>false
theorem qmZ {P:Program} {T:TypeId} {t:Ty} (h:tyB P T t=true):TyOk P T t:=by
 unfold tyB at h;split at h
 · rename_i i d hi hd;simp only[Bool.and_eq_true,beq_iff_eq] at h;obtain⟨⟨h1,h2⟩,h3⟩:=h;split at h2
   · rename_i z hz;exact⟨⟨i,z,hi,Nat.eq_of_beq_eq_true h1,hz,qx4 h2⟩,⟨d,hd,h3⟩⟩
   · cases h2
 · cases h
def undB (P:Program) (T:TypeId):Ty->Bool
 | .int k=>(match P.underlying T with | some (.int k')=>decide (k=k') | _=>false)
 | .bool=>(match P.underlying T with | some .bool=>true | _=>false)
 | _=>true
def fsB:List Field->List (Nat×TypeId)->Bool
 | [],[]=>true
 | f::l,(o,T')::r=>Nat.beq f.offset o&&Nat.beq f.type T'&&fsB l r
 | _,_=>false
theorem qyl:∀ {l:List Field} {r:List (Nat×TypeId)},fsB l r=true->l.map (fun f=>(f.offset,f.type))=r
 | [],[],_=>rfl
 | f::l,(o,T')::r,h=>by
  simp only[fsB,Bool.and_eq_true] at h;rw[List.map_cons,qyl h.2,Nat.eq_of_beq_eq_true h.1.1];have:f.type=T':=Nat.eq_of_beq_eq_true h.1.2;rw[this]
def posB (tb:Tb):List (Nat×TypeId)->Bool
 | []=>true
 | (_,T')::r=>(match tb.ty T' with | some _=>true | none=>false)&&posB tb r
theorem qu7 {tb:Tb}:∀ {r:List (Nat×TypeId)},posB tb r=true->∀ off T',(off,T')∈r->∃ t',tb.ty T'=some t'
 | (o,T1)::r,h,off,T',hm=>by
  simp only[posB,Bool.and_eq_true] at h;rcases List.mem_cons.1 hm with e | hm
  · injection e with _ e
    subst e;have h1:=h.1;split at h1
    · rename_i t ht;exact⟨t,ht⟩
    · cases h1
  · exact qu7 h.2 off T' hm
def qxq (P:Program):Nat->List Field->Bool
 | _,[]=>true
 | n, f :: r => !(f.name == "_") && Nat.beq f.offset n && (match P.underlying f.type with | some (.int _) => true | _ => false) && qxq P (n + 1) r
theorem qsX {P : Program} : ∀ {l : List Field} {n : Nat}, qxq P n l = true → ∀ (i : Nat) (f : Field), l[i]? = some f → f.name ≠ "_" ∧ f.offset = n + i ∧ ∃ k, P.underlying f.type = some (.int k)
 | f0::r,n,h,i,f,hi=>by
  simp only[qxq,Bool.and_eq_true,Bool.not_eq_true',beq_eq_false_iff_ne] at h;obtain⟨⟨⟨h1,h2⟩,h3⟩,h4⟩:=h;cases i with
  | zero =>
   simp at hi;subst hi;refine⟨h1,Nat.eq_of_beq_eq_true h2,?_⟩;split at h3
   · rename_i k hk;exact⟨k,hk⟩
   · cases h3
  | succ i =>
   obtain⟨a1,a2,a3⟩:=qsX h4 i f (by simpa using hi);exact⟨a1,by omega,a3⟩
def teB (P:Program) (tb:Tb) (T:TypeId):TE->Bool
 | .sc t=>tyB P T t&&!t.isAgg&&undB P T t
 | .slc e t by_=>tyB P T (.sl t)&&(match P.underlying T with | some (.slice e')=>Nat.beq e' e | _=>false)&&tyB P e t&&(match P.info? e with | some i=>Nat.beq i.bytes by_ | none=>false)&&Nat.blt 0 by_&&Nat.blt 0 t.size
 | .stc t fs q=>tyB P T t&&t.isAgg&&(match P.underlying T with
  | some (.struct fields)=>fsB fields.toList fs&&posB tb fs&&(!q || (!(P.stoodInHeld T)&&!(P.eqGuardType P.depth T)&&qxq P 0 fields.toList))
  | _=>false)
 | .pt e l=>tyB P T (.op l)&&(match P.underlying T with | some (.pointer e')=>Nat.beq e' e | _=>false)
 | .arr e t=>tyB P T (.pair t (.pair t .unit))&&(match P.underlying T with | some (.array n e')=>Nat.beq n 2&&Nat.beq e' e | _=>false)&&tyB P e t&&Nat.beq t.size 1&&!t.isAgg
def tbB (P:Program) (tb:Tb):List (TypeId×TE)->Bool
 | []=>true
 | (T,te)::r=>teB P tb T te&&tbB P tb r
theorem qzV {P:Program} {tb:Tb} {T:TypeId} {te:TE} (h:teB P tb T te=true):TEOk P tb T te:=by
 cases te with
 | sc t =>
  simp only[teB,Bool.and_eq_true,Bool.not_eq_true'] at h;refine⟨qmZ h.1.1,h.1.2,fun k e=>?_,fun e=>?_⟩
  · have h2 := h.2;subst e;simp only[undB] at h2;split at h2
    · rename_i k' hk;simp only[decide_eq_true_eq] at h2;rw[hk,h2]
    · cases h2
  · have h2 := h.2;subst e;simp only[undB] at h2;split at h2
    · rename_i hk;exact hk
    · cases h2
 | slc e t by_ =>
  simp only[teB,Bool.and_eq_true] at h;obtain⟨⟨⟨⟨⟨h1,h2⟩,h3⟩,h4⟩,h5⟩,h6⟩:=h;refine⟨qmZ h1,?_,qmZ h3,?_,Nat.le_of_ble_eq_true h5,Nat.le_of_ble_eq_true h6⟩
  · split at h2
    · rename_i e' he;rw[he,Nat.eq_of_beq_eq_true h2]
    · cases h2
  · split at h4
    · rename_i i hi;exact⟨i,hi,Nat.eq_of_beq_eq_true h4⟩
    · cases h4
 | stc t fs q =>
  simp only[teB,Bool.and_eq_true] at h;obtain⟨⟨h1,h2⟩,h3⟩:=h;split at h3
  · rename_i fields hf;simp only[Bool.and_eq_true] at h3;obtain⟨⟨h4,h5⟩,h6⟩:=h3;refine⟨qmZ h1,h2,fields,hf,qyl h4,qu7 h5,fun hq=>?_⟩;subst hq;simp only[Bool.not_true,Bool.false_or,Bool.and_eq_true,Bool.not_eq_true'] at h6;obtain⟨⟨h7,h8⟩,h9⟩:=h6;refine⟨h7,h8,fun i f hi=>?_⟩;have:=qsX h9 i f (by rw[Array.getElem?_toList];exact hi);rw[Nat.zero_add] at this;exact this
  · cases h3
 | pt e l =>
  simp only[teB,Bool.and_eq_true] at h;obtain⟨h1,h⟩:=h;refine⟨qmZ h1,?_⟩;split at h
  · rename_i e' he;rw[he,Nat.eq_of_beq_eq_true h]
  · cases h
 | arr e t =>
  simp only[teB,Bool.and_eq_true,Bool.not_eq_true'] at h;obtain⟨⟨⟨⟨h1,h2⟩,h3⟩,h4⟩,h5⟩:=h;refine⟨qmZ h1,?_,qmZ h3,Nat.eq_of_beq_eq_true h4,h5⟩;split at h2
  · rename_i n e' he;simp only[Bool.and_eq_true] at h2;rw[he,Nat.eq_of_beq_eq_true h2.1,Nat.eq_of_beq_eq_true h2.2]
  · cases h2
theorem qx8 {P:Program} {tb:Tb}:∀ {l:List (TypeId×TE)},tbB P tb l=true->∀ T te,(T,te)∈l->TEOk P tb T te
 | (T1,te1)::r,h,T,te,hm=>by
  simp only[tbB,Bool.and_eq_true] at h;rcases List.mem_cons.1 hm with e | hm
  · injection e with e1 e2;subst e1;subst e2;exact qzV h.1
  · exact qx8 h.2 T te hm
theorem quQ {P:Program} {tb:Tb} (h:tbB P tb tb=true):TbOk P tb:=fun T te hg=>qx8 h T te (qaT hg)
theorem qam.scalar {T : Told} {P : Program} {f : FuncId} {k k' : IntKind} {F : Int → Option Int} {fn : Func} (hfn : P.funcs[f]? = some fn) (hn : (fn.name == "runtime.NumGoroutine") = false) (hb : fn.body.isNone = false)
  (h:∀ (x r:Int),F x=some r->∀ w:World,T.G w->Calls P f #[.int k x] w fun e w'=>e=.returned (.int k' r)/\w'=w) :
  qam T P f ⟨[(.int k,.imm)],[(.int k',false)],Int,fun x=>F x.1,fun r=>((),(r,())),none⟩:=by
 refine⟨⟨fn,hfn,hn,hb⟩,?_,rfl⟩;rintro⟨x,u⟩ r hF w S J vs E;have ha:=E.args
 match vs,ha with
 | [v],ha =>
  have hv:[v]=[Value.int k x]:=ha.1;injection hv with hv
  subst hv;refine Calls.mono (h x r hF w E.told) fun e w' he=>?_
  obtain⟨rfl,rfl⟩:=he;refine⟨S,fun _=>none,⟨fun b hb=>hb,fun b hb=>.inl hb,E.Slt,fun _ _ _=>rfl,Nat.le_refl _,E.told,Calm.refl _,trivial,⟨[.int k' r],rfl,⟨rfl,trivial⟩⟩,fun k k' b o o' h=>(by cases h),fun j b o h=>(by cases h),fun h=>(by cases h)⟩⟩
 | _::_::_,ha=>exact ha.2.elim
 | [],ha=>exact ha.elim
def R0:Nat:=100000
def tabG (tab:List Nat):Told:=⟨[0],fun w=>∀ (i n:Nat),tab[i]?=some n->w.cell? ⟨0,i,none⟩=some (.int .u8 (n:Int)),fun w w' h hG i n hi=>by
 rw[World.cell?_of_block (w:=w) (h 0 (by simp))];exact hG i n hi⟩
abbrev WH:=Bool×List Int
abbrev RAT:=WH×List Int
abbrev CELL:=Bool×RAT
abbrev NODE:=Bool×Int×RAT×Int×Int×Bool×RAT×RAT
abbrev qaq:=Int×List (List NODE)
abbrev PART:=Int×RAT×Bool
abbrev tWH:Ty:=.pair .bool (.sl (.int .u64))
abbrev tRAT:Ty:=.pair tWH (.sl (.int .u64))
abbrev qav:Ty:=.pair .bool tRAT
abbrev qaY:Ty:=.pair .bool (.pair (.int .i64) (.pair tRAT (.pair (.int .i64) (.pair (.int .i64) (.pair .bool (.pair tRAT tRAT))))))
abbrev qdC:Ty:=.pair (.int .i64) (.sl (.sl qaY))
abbrev qiO:Ty:=.pair (.int .i64) (.pair tRAT .bool)
def tzN:Nat->Nat->Nat
 | 0,_=>0
 | f+1,n=>bif Nat.beq (n % 2) 1 then 0 else tzN f (n/2)+1
def lenN (n:Nat):Nat:=if n=0 then 0 else n.log2+1
theorem qoP:∀ (f n:Nat),0<n->n<2 ^ f->∃ m,n=2 ^ tzN f n*m/\m % 2=1/\tzN f n<f
 | 0,n,h,h'=>by simp at h';omega
 | f+1,n,h,h'=>by
  by_cases h1:n % 2=1
  · exact⟨n,by simp [tzN,h1],h1,by simp [tzN,h1]⟩
  · have e : Nat.beq (n % 2) 1 = false := by cases h2 : Nat.beq (n % 2) 1 with
     | false=>rfl
     | true=>exact absurd (Nat.eq_of_beq_eq_true h2) h1
    obtain⟨m,h2,h3,h4⟩:=qoP f (n/2) (by omega) (by rw[Nat.pow_succ] at h';omega);refine⟨m,?_,h3,by simp only[tzN,e,cond_false];omega⟩;simp only[tzN,e,cond_false,Nat.pow_succ];have:n=2*(n/2):=by omega
    rw[this]
    conv=>lhs;rw[h2]
    rw[show 2*(n/2)/2=n/2 by omega]
    grind
theorem qla:∀ (f n:Nat),n<2 ^ f->Lib.bitLenAux f n=lenN n
 | 0,n,h=>by
  have:n=0:=by simpa using h
  subst this;rfl
 | f+1,n,h=>by
  by_cases h0:n=0
  · subst h0;rfl
  · have ih := qla f (n / 2) (by rw [Nat.pow_succ] at h; omega);simp only[Lib.bitLenAux,if_neg h0,ih,lenN];by_cases h1:n/2=0
    · rw[if_pos h1,Nat.log2_def,if_neg (by omega)]
    · rw [if_neg h1]
      conv=>rhs;rw[Nat.log2_def]
      rw[if_pos (by omega)];omega
theorem qur {n:Nat} (h:n<18446744073709551616):Lib.bitLen n=lenN n:=qla 64 n h
theorem qzB {t m:Nat} (hm:m % 2=1) (h:2 ^ t*m<2 ^ 64):(2 ^ t*m) &&& (2 ^ 64-2 ^ t*m)=2 ^ t:=by
 obtain⟨q,rfl⟩:∃ q,m=2*q+1:=⟨m/2,by omega⟩;have hp:0<2 ^ t:=Nat.pow_pos (by decide);have ht:t<64:=by
   rcases Nat.lt_or_ge t 64 with h1 | h1
   · exact h1
   · have := Nat.pow_le_pow_right (n := 2) (by decide) h1;have h2:2 ^ t*1<=2 ^ t*(2*q+1):=Nat.mul_le_mul_left _ (by omega);omega
 have e1:2 ^ t*(2*q+1)=(2 ^ t*(2*q)+(2 ^ t-1))+1:=by rw[Nat.mul_add,Nat.mul_one];omega
 have hlt:2 ^ t*(2*q)+(2 ^ t-1)<2 ^ 64:=by omega
 apply Nat.eq_of_testBit_eq;intro i;rw[Nat.testBit_and]
 conv=>lhs;rhs;rw[e1,Nat.testBit_two_pow_sub_succ hlt,Nat.testBit_two_pow_mul_add _ (by omega:2 ^ t-1<2 ^ t)]
 rw[Nat.testBit_two_pow_mul,Nat.testBit_two_pow,Nat.testBit_two_pow_sub_one];by_cases h1:i<t
 · have : ¬ i >= t := by omega
   have h2:¬ t=i:=by omega
   simp [this,h2]
 · by_cases h2 : i = t
   · subst h2;simp [ht]
   · have h3 : i >= t := by omega
     have h4:¬ t=i:=by omega
     obtain⟨j,hj⟩:∃ j,i-t=j+1:=⟨i-t-1,by omega⟩;simp only[h1,if_false,hj,Nat.testBit_succ,h4];have:(2*q+1)/2=2*q/2:=by omega
     rw[this];cases (2*q/2).testBit j<;>simp
def tabN:List Nat:=[0,1,56,2,57,49,28,3,61,58,42,50,38,29,17,4,62,47,59,36,45,43,51,22,53,39,33,30,24,18,12,5,63,55,48,27,60,41,37,16,46,35,44,21,52,32,23,11,54,26,40,15,34,20,31,10,25,14,19,9,13,8,7,6]
theorem deB:∀ t:Fin 64,tabN[(2 ^ t.val*285870213051353865 % 18446744073709551616)/288230376151711744]?=some t.val:=by decide +kernel
variable {T:Told} {P:Program} {tb:Tb} {env:Env}
def mkC (K:Nat):List CK->List PV->Nat->Option (List PV×List PV×Nat)
 | [],r,j=>some ([],r,j)
 | .x::cs,v::r,j=>(match mkC K cs r j with | some (l,r',j')=>some (v::l,r',j') | none=>none)
 | .b::cs,r,j=>(match mkC K cs r (j+1) with | some (l,r',j')=>some (.ptr (K+j) 0 0::l,r',j') | none=>none)
 | .x::_,[],_=>none
 | .h::cs,r,j=>(match mkC K cs r j with | some (l,r',j')=>some (.junk::l,r',j') | none=>none)
 | .l::cs,.osl k 0 none::r,j=>(match mkC K cs r j with | some (l,r',j')=>some (.fx k::l,r',j') | none=>none)
 | .l::_,_,_=>none
def qi2:List PV->Bool
 | []=>true
 | .agg _::_=>false
 | .tup _::_=>false
 | .clo _ _::_=>false
 | _::r=>qi2 r
def mkBx (K:Nat):List (List CK)->List PV->Nat->Nat->Option (List (Nat×Ob)×Nat)
 | [],[],_,j=>some ([],j)
 | cs::bx,r,i,j =>
  (match mkC K cs r j with
  | some (l,r',j')=>bif qi2 l then (match mkBx K bx r' (i+1) j' with | some (h,n)=>some ((K+i,.box l)::h,n) | none=>none) else none
  | none=>none)
 | [],_::_,_,_=>none
def qr9:Nat->List PV->List (Nat×PV)
 | _,[]=>[]
 | i,v::r=>(i,v)::qr9 (i+1) r
def qvA (nt:Nat) (wi:Wir) (ps:List (Ty×PM)) (x:HL (fsts ps)):Option St :=
 match mkC (nt*8) wi.args ((qcS ps x 0).1.map (·.2)) 0 with
 | some (l,r,j) =>
  (match mkBx (nt*8) wi.boxes r 0 j with
  | some (hb,n)=>bif Nat.beq n wi.boxes.length&&(Nat.ble ps.length nt&&Nat.ble wi.args.length nt)&&Nat.ble wi.boxes.length 4 then (match grp wi.ga l with | some l'=>bif Nat.ble l'.length nt then some ⟨qr9 0 l',hb++(qcS ps x 0).2⟩ else none | none=>none) else none
  | none=>none)
 | none=>none
theorem qyd {K:Nat} {R:PV->Value->Prop}:∀ {cs:List CK} {pvs:List PV} {j:Nat} {l r:List PV} {j':Nat} {as u us:List Value} {q:List Nat},mkC K cs pvs j=some (l,r,j')->WC cs as u q->All2 R pvs (u++us) ->
  (∀ m b,q[m]?=some b->R (.ptr (K+(j+m)) 0 0) (.pointer (some ⟨b,0,none⟩)))->(∀ v,R .junk v)->(∀ k v,R (.osl k 0 none) v->R (.fx k) v)->All2 R l as/\All2 R r us/\j'=j+q.length/\as.length=cs.length:=by
 intro cs
 induction cs with
 | nil =>
  intro pvs j l r j' as u us q h1 h2 h3 h4 hjk hfx
  match as,u,q,h2 with
  | [],[],[],_ =>
   simp only[mkC,Option.some.injEq,Prod.mk.injEq] at h1;obtain⟨rfl,rfl,rfl⟩:=h1;exact⟨trivial,h3,rfl,rfl⟩
 | cons ck cs ih =>
  intro pvs j l r j' as u us q h1 h2 h3 h4 hjk hfx;cases ck with
  | x =>
   match as,u,h2 with
   | a::as,v::u,h2 =>
    obtain⟨rfl,h2⟩:=h2;cases pvs with
    | nil=>exact h3.elim
    | cons p pvs =>
      obtain⟨h3,h3'⟩:=h3;simp only[mkC] at h1;split at h1
      · rename_i l2 r2 j2 hm;simp only[Option.some.injEq,Prod.mk.injEq] at h1;obtain⟨rfl,rfl,rfl⟩:=h1;obtain⟨a1,a2,a3,a4⟩:=ih hm h2 h3' h4 hjk hfx;exact⟨⟨h3,a1⟩,a2,a3,by simp [a4]⟩
      · cases h1
  | b =>
   match as,q,h2 with
   | a::as,b::q,h2 =>
    obtain⟨rfl,h2⟩:=h2;simp only[mkC] at h1;split at h1
    · rename_i l2 r2 j2 hm;simp only[Option.some.injEq,Prod.mk.injEq] at h1;obtain⟨rfl,rfl,rfl⟩:=h1;obtain⟨a1,a2,a3,a4⟩:=ih hm h2 h3 (fun m b' hb'=>by
        have:=h4 (m+1) b' (by simpa using hb')
        rwa [show j+(m+1)=j+1+m by omega] at this) hjk hfx
      exact⟨⟨h4 0 b rfl,a1⟩,a2,by rw[a3,List.length_cons];omega,by simp [a4]⟩
    · cases h1
  | h =>
   match as,h2 with
   | a::as,h2 =>
    simp only[mkC] at h1;split at h1
    · rename_i l2 r2 j2 hm;simp only[Option.some.injEq,Prod.mk.injEq] at h1;obtain⟨rfl,rfl,rfl⟩:=h1;obtain⟨a1,a2,a3,a4⟩:=ih hm h2 h3 h4 hjk hfx;exact⟨⟨hjk a,a1⟩,a2,a3,by simp [a4]⟩
    · cases h1
  | l =>
   match as,u,h2 with
   | a::as,v::u,h2 =>
    obtain⟨rfl,h2⟩:=h2;cases pvs with
    | nil=>exact h3.elim
    | cons p pvs =>
      obtain⟨h3,h3'⟩:=h3;cases p with
      | osl k off len =>
        cases off with
        | succ off=>simp [mkC] at h1
        | zero =>
         cases len with
         | some n=>simp [mkC] at h1
         | none =>
          simp only[mkC] at h1;split at h1
          · rename_i l2 r2 j2 hm;simp only[Option.some.injEq,Prod.mk.injEq] at h1;obtain⟨rfl,rfl,rfl⟩:=h1;obtain⟨a1,a2,a3,a4⟩:=ih hm h2 h3' h4 hjk hfx;exact⟨⟨hfx k a h3,a1⟩,a2,a3,by simp [a4]⟩
          · cases h1
      | _=>simp [mkC] at h1
theorem qy4 {K:Nat} {w:World} {R:PV->Value->Prop}:∀ {bx:List (List CK)} {r:List PV} {i j:Nat} {hb:List (Nat×Ob)} {n:Nat} {bs:List Nat} {u:List Value} {st:List Nat},mkBx K bx r i j=some (hb,n)->WB w bx bs u st->All2 R r u ->
  (∀ m b, st[m]? = some b->R (.ptr (K + (j + m)) 0 0) (.pointer (some ⟨b, 0, none⟩)))->(∀ v, R .junk v)->(∀ k v, R (.osl k 0 none) v->R (.fx k) v)->n = j + st.length /\ bs.length = bx.length /\
   ∀ k ob,get hb k=some ob->∃ m b l c,k=K+(i+m)/\bs[m]?=some b/\ob=.box l/\qi2 l=true/\Blk w b c/\All2 R l c.toList:=by
 intro bx
 induction bx with
 | nil =>
  intro r i j hb n bs u st h1 h2 h3 h4 hjk hfx
  match bs,u,st,h2 with
  | [],[],[],_ =>
   cases r with
   | nil =>
     simp only[mkBx,Option.some.injEq,Prod.mk.injEq] at h1;obtain⟨rfl,rfl⟩:=h1;exact⟨rfl,rfl,fun k ob h=>by simp [get] at h⟩
   | cons _ _=>exact h3.elim
 | cons cs bx ih =>
  intro r i j hb n bs u st h1 h2 h3 h4 hjk hfx
  match bs,h2 with
  | b::bs,h2 =>
   obtain⟨c,v1,v2,q1,q2,hc,rfl,rfl,hw,h2⟩:=h2;simp only[mkBx] at h1;split at h1
   · rename_i l r2 j2 hm;obtain⟨hna,h1⟩:=q8q h1;split at h1
     · rename_i h n2 hm2;simp only[Option.some.injEq,Prod.mk.injEq] at h1;obtain⟨rfl,rfl⟩:=h1;obtain⟨a1,a2,a3,_⟩:=qyd hm hw h3 (fun m b' hb'=>h4 m b' (by rw[List.getElem?_append_left (List.getElem?_eq_some_iff.1 hb').1];exact hb')) hjk hfx;obtain⟨b1,b2,b3⟩:=ih hm2 h2 a2 (fun m b' hb'=>by
         have:=h4 (q1.length+m) b' (by rw[List.getElem?_append_right (by omega),Nat.add_sub_cancel_left];exact hb')
         rwa [show j+(q1.length+m)=j2+m by omega] at this) hjk hfx
       refine⟨by rw[b1,a3,List.length_append];omega,by simp [b2],fun k ob hk=>?_⟩
       rw[q6q] at hk;split at hk
       · rename_i e;injection hk with hk
         exact⟨0,b,l,c,e.symm,rfl,hk.symm,hna,hc,a1⟩
       · obtain ⟨m, b', l', c', e1, e2, e3⟩ := b3 k ob hk;exact⟨m+1,b',l',c',by rw[e1];omega,by simpa using e2,e3⟩
     · cases h1
   · cases h1
theorem qw9 {K:Nat}:∀ {bx:List (List CK)} {r:List PV} {i j:Nat} {hb:List (Nat×Ob)} {n:Nat},mkBx K bx r i j=some (hb,n)->∀ m,m<bx.length->∃ l,get hb (K+(i+m))=some (.box l):=by
 intro bx
 induction bx with
 | nil=>intro r i j hb n h m hm;simp at hm
 | cons cs bx ih =>
  intro r i j hb n h1 m hm;simp only[mkBx] at h1;split at h1
  · rename_i l r2 j2 _;obtain⟨_,h1⟩:=q8q h1;split at h1
    · rename_i h n2 hm2;simp only[Option.some.injEq,Prod.mk.injEq] at h1;obtain⟨rfl,rfl⟩:=h1;cases m with
      | zero=>exact⟨l,by simp [q6q]⟩
      | succ m =>
       obtain⟨l',hl'⟩:=ih hm2 m (by simpa using hm);exact⟨l',by rw[q6q,if_neg (by omega),show K+(i+(m+1))=K+(i+1+m) by omega];exact hl'⟩
    · cases h1
  · cases h1
theorem qqZ:∀ (l:List PV) (i n:Nat),get (qr9 i l) n=if i<=n then l[n-i]? else none:=by
 intro l
 induction l with
 | nil=>intro i n;simp [qr9,get]
 | cons v l ih =>
  intro i n;rw[qr9,q6q,ih];by_cases h:i=n
  · subst h;simp
  · rw [if_neg h];by_cases h2:i<=n
    · rw[if_pos h2,if_pos (by omega),show n-i=(n-(i+1))+1 by omega,List.getElem?_cons_succ]
    · rw[if_neg h2,if_neg (by omega)]
theorem qud:∀ (ps:List (Ty×PM)) (x:HL (fsts ps)) (i:Nat),(qcS ps x i).1=qr9 i ((qcS ps x i).1.map (·.2)):=by
 intro ps
 induction ps with
 | nil=>intro x i;rfl
 | cons p ps ih =>
  intro x i;obtain⟨t,m⟩:=p;obtain⟨x,r⟩:=x;cases t<;>cases m<;>simp only[qcS,List.map_cons,qr9]<;>rw[<- ih]
theorem qor:∀ (ps:List (Ty×PM)) (x:HL (fsts ps)) (i:Nat),(qcS ps x i).1.length=ps.length:=by
 intro ps
 induction ps with
 | nil=>intro x i;rfl
 | cons p ps ih =>
  intro x i;obtain⟨t,m⟩:=p;obtain⟨x,r⟩:=x;cases t<;>cases m<;>simp only[qcS,List.length_cons]<;>rw[ih]
theorem All2.of_get {α J:Type} {R:α->J->Prop}:∀ {l:List α} {r:List J},l.length=r.length->(∀ (n:Nat) (a:α),l[n]?=some a->∃ b:J,r[n]?=some b/\R a b)->All2 R l r
 | [],[],_,_=>trivial
 | a::l,b::r,h,H=>by
  obtain⟨b',h1,h2⟩:=H 0 a rfl;simp only[List.getElem?_cons_zero,Option.some.injEq] at h1;subst h1;exact⟨h2,All2.of_get (by simpa using h) fun n a ha=>by simpa using H (n+1) a (by simpa using ha)⟩
 | [],_::_,h,_=>by simp at h
 | _::_,[],h,_=>by simp at h
theorem qyW:∀ {ps:List (Ty×PM)} {i n:Nat},n∈ownK ps i\/n∈qdo ps i->n<(i+ps.length)*8:=by
 intro ps
 induction ps with
 | nil=>intro i n h;simp [ownK,qdo] at h
 | cons p ps ih =>
  intro i n h;obtain⟨t,m⟩:=p;have tl:n∈ownK ps (i+1)\/n∈qdo ps (i+1)->n<(i+(ps.length+1))*8:=fun h=>by have:=ih h;omega
  simp only[List.length_cons];cases m with
  | imm=>exact tl h
  | own =>
   rcases h with h | h
   · rcases List.mem_cons.1 h with rfl | h
     · omega
     · exact tl (.inl h)
   · exact tl (.inr h)
  | lent =>
   rcases h with h | h
   · exact tl (.inl h)
   · rcases List.mem_cons.1 h with rfl | h
     · omega
     · exact tl (.inr h)
def conB (nt:Nat) (J:Con) (bs:List Nat):Con:=fun k=>if nt*8<=k then (bs[k-nt*8]?).map fun b=>(b,0) else J k
def qsk (nt:Nat) (w:World) (S:Foot) (J:Con) (ps:List (Ty×PM)) (x:HL (fsts ps)) (bs:List Nat):Base:=⟨nt,w,S,fun b=>b∈bs\/∃ k o,J k=some (b,o),ltOf J ps 0 x,bs⟩
theorem TRel.cell1 {w:World} {S:Foot} {J:Con} {g:Hp} {pv:PV} {v:Value} (h:TRel w S J g pv v) (hn:qca [pv]=true):qac w S J g pv v:=by
 cases pv with
 | agg l=>simp [qca] at hn
 | tup l=>simp [qca] at hn
 | clo f l=>simp [qca] at hn
 | junk=>simp [qca] at hn
 | val t x=>exact h
 | nil=>exact h
 | nilp=>exact h
 | vw _ _=>exact h
 | vp _ _ _ _=>exact h
 | fx k=>exact h
 | iptr t x off=>exact h
 | osl k off len=>exact h
 | ptr k i off=>exact h
theorem qrK {v:PV} {r:List PV} (h:qi2 (v::r)=true):qi2 [v]=true/\qi2 r=true:=by
 cases v<;>first | exact⟨rfl,h⟩ | cases h
theorem TRel.cell1J {w:World} {S:Foot} {J:Con} {g:Hp} {pv:PV} {v:Value} (h:TRel w S J g pv v) (hn:qi2 [pv]=true):qac w S J g pv v:=by
 cases pv with
 | agg l=>simp [qi2] at hn
 | tup l=>simp [qi2] at hn
 | clo f l=>simp [qi2] at hn
 | junk=>trivial
 | val t x=>exact h
 | nil=>exact h
 | nilp=>exact h
 | vw _ _=>exact h
 | vp _ _ _ _=>exact h
 | fx k=>exact h
 | iptr t x off=>exact h
 | osl k off len=>exact h
 | ptr k i off=>exact h
theorem All2.cells1J {w:World} {S:Foot} {J:Con} {g:Hp}:∀ {l:List PV} {us:List Value},All2 (TRel w S J g) l us->qi2 l=true->All2 (qac w S J g) l us
 | [],[],_,_=>trivial
 | v::l,u::us,h,hn=>by
  obtain⟨n1,n2⟩:=qrK hn;exact⟨TRel.cell1J h.1 n1,All2.cells1J h.2 n2⟩
theorem qu0 {w:World} {S:Foot} {J:Con} {wi:Wir} {ps:List (Ty×PM)} {x:HL (fsts ps)} {as us:List Value} {q st:List Nat} (E:qwA T w S J wi ps x as us q st) {nt:Nat} {s:St} (hs:qvA nt wi ps x=some s) (hfl:qlJ ps=true) :
   Rel T (qsk nt w S J ps x (q++st)) w S (conB nt J (q++st)) s { tmps:=as.toArray++Array.replicate (nt-as.toArray.size) undef,defers:=[] }/\(q++st).length=wi.boxes.length/\ps.length<=nt:=by
 unfold qvA at hs;split at hs
 · rename_i l r j hC;split at hs
   · rename_i hb n hB;have hss:=q8q hs;clear hs;obtain⟨hn,hs⟩:=hss;simp only[Bool.and_eq_true] at hn;obtain⟨⟨hn,hps,hargs⟩,hb4⟩:=hn;have hb4:=Nat.le_of_ble_eq_true hb4;have hn:=Nat.eq_of_beq_eq_true hn;have hps:=Nat.le_of_ble_eq_true hps;have hargs:=Nat.le_of_ble_eq_true hargs;split at hs
     rotate_left
     · cases hs
     rename_i l' hgrp;have hss:=q8q hs;clear hs;obtain⟨hlen',hs⟩:=hss;have hlen':=Nat.le_of_ble_eq_true hlen';injection hs with hs
     subst hs;obtain⟨fas,u1,u2,hgv,rfl,hWC,hWB⟩:=E.a;have R0:=qsJ E.enter (nt:=nt) hps hfl;obtain⟨i1,i2,i3⟩:=qsY E.enter.args;have hlow:∀ k ob,get (qcS ps x 0).2 k=some ob->k<nt*8:=by
       intro k ob hk;obtain⟨_,h⟩:=i3 k ob hk;have:k∈ownK ps 0\/k∈qdo ps 0:=by
         rcases h with ⟨_,_,_,_,_,h⟩ | ⟨_,_,_,_,_,h,_⟩
         · exact .inl h
         · exact .inr h
       have:=qyW this;omega
     obtain⟨bs,ebs⟩:∃ bs,bs=q++st:=⟨_,rfl⟩;have hhas:=qw9 hB;obtain⟨g,eg⟩:∃ g,g=get (hb++(qcS ps x 0).2):=⟨_,rfl⟩;have hg1:∀ k ob,get hb k=some ob->g k=some ob:=fun k ob h=>by rw[eg,q2q,h];rfl
     have hlen:bs.length=wi.boxes.length/\True:=by
       have:∀ {bx:List (List CK)} {bs:List Nat} {u:List Value} {st:List Nat},WB w bx bs u st->bs.length=bx.length:=by
         intro bx
         induction bx with
         | nil=>intro bs u st h;match bs,u,st,h with | [],[],[],_=>rfl
         | cons cs bx ih =>
           intro bs u st h
           match bs,h with
           | b :: bs, h =>
             obtain⟨_,_,_,_,_,_,_,_,_,h⟩:=h;simp [ih h]
       exact⟨by rw[ebs];exact this hWB,trivial⟩
     have hpt:∀ m b,bs[m]?=some b->TRel w S (conB nt J bs) g (.ptr (nt*8+m) 0 0) (.pointer (some ⟨b,0,none⟩)):=by
       intro m b hb';have hm:=(List.getElem?_eq_some_iff.1 hb').1;obtain⟨l',hl'⟩:=hhas m (by omega);rw[Nat.zero_add] at hl';have:qac w S (conB nt J bs) g (.ptr (nt*8+m) 0 0) (.pointer (some ⟨b,0,none⟩)):=by
         simp only[qac,hg1 _ _ hl'];exact⟨b,0,by simp [conB,hb'],by simp⟩
       exact this.up
     have hbk:∀ k ob,get hb k=some ob->nt*8<=k:=by
       have:∀ {bx:List (List CK)} {r:List PV} {i j:Nat} {hb:List (Nat×Ob)} {n:Nat},mkBx (nt*8) bx r i j=some (hb,n)->∀ k ob,get hb k=some ob->nt*8<=k:=by
         intro bx
         induction bx with
         | nil =>
           intro r i j hb n h k ob hk;cases r with
           | nil=>simp only[mkBx,Option.some.injEq,Prod.mk.injEq] at h;obtain⟨rfl,_⟩:=h;simp [get] at hk
           | cons _ _=>simp [mkBx] at h
         | cons cs bx ih =>
           intro r i j hb n h1 k ob hk;simp only[mkBx] at h1;split at h1
           · obtain ⟨_, h1⟩ := q8q h1;split at h1
             · rename_i h n2 hm2;simp only[Option.some.injEq,Prod.mk.injEq] at h1;obtain⟨rfl,rfl⟩:=h1;rw[q6q] at hk;split at hk
               · omega
               · exact ih hm2 k ob hk
             · cases h1
           · cases h1
       exact this hB
     have hg0:∀ k ob,get (qcS ps x 0).2 k=some ob->g k=some ob:=fun k ob h=>by
       rw[eg,q2q];cases hq:get hb k with
       | none=>exact h
       | some ob'=>have:=hbk k ob' hq;have:=hlow k ob h;omega
     have hcon:∀ k,k<nt*8->conB nt J bs k=J k:=fun k hk=>if_neg (by omega)
     have Ev:Evo w w S S J (conB nt J bs) (get (qcS ps x 0).2) g:=⟨fun _ h=>h,fun _ _=>rfl,fun k ob hk=>⟨ob,hg0 k ob hk,by
       obtain⟨_,h⟩:=i3 k ob hk;have hc:=hcon k (hlow k ob hk);rcases h with ⟨e,y,v,rfl,_⟩ | ⟨e,y,v,rfl,_⟩
       · exact⟨rfl,rfl,hc,fun h=>⟨h,fun b o c _ hb=>⟨c,hb,rfl⟩⟩,fun _ _ _ _=>rfl⟩
       · exact⟨rfl,rfl,hc,fun h=>⟨h,fun b o c _ hb=>⟨c,hb,rfl⟩⟩,fun _ _ _ _=>rfl⟩⟩⟩
     have hall:All2 (TRel w S (conB nt J bs) g) ((qcS ps x 0).1.map (·.2)) (u1++u2):=by
       refine All2.of_get (by rw[List.length_map,qor,i1]) fun m pv hm=>?_
       have hget:get (qcS ps x 0).1 m=some pv:=by rw[qud,qqZ];simpa using hm
       obtain⟨v,h1,h2⟩:=R0.tmps m pv hget;have hml:m<(u1++u2).length:=by
         have:=(List.getElem?_eq_some_iff.1 hm).1;rw[List.length_map,qor] at this;rw[i1];exact this
       refine⟨v,?_,h2.evo Ev⟩;rw[Array.getElem?_append_left (by simpa using hml)] at h1;simpa using h1
     obtain⟨c1,c2,c3,c4⟩:=qyd hC hWC hall (fun m b hb'=>by
       rw[Nat.zero_add];exact hpt m b (by rw[ebs,List.getElem?_append_left (List.getElem?_eq_some_iff.1 hb').1];exact hb')) (fun _=>trivial) (fun _ _ h=>h)
     have c1:=qvF (R:=TRel w S (conB nt J bs) g) (fun pv v h hn=>TRel.cell1 h hn) (fun l vs h=>⟨vs,rfl,h⟩) (fun fid l vs h=>⟨vs,rfl,h⟩) rfl hgrp hgv c1;have c4:=c1.length;obtain⟨b1,b2,b3⟩:=qy4 hB hWB c2 (fun m b hb'=>by
       have:=hpt (q.length+m) b (by rw[ebs,List.getElem?_append_right (by omega),Nat.add_sub_cancel_left];exact hb')
       rwa [show q.length+m=j+m by omega] at this) (fun _=>trivial) (fun _ _ h=>h)
     rw[<- ebs] at b2 b3;have hgk:∀ k ob,g k=some ob->get hb k=some ob\/(k<nt*8/\get (qcS ps x 0).2 k=some ob):=fun k ob h=>by
       rw[eg,q2q] at h;cases hq:get hb k with
       | none=>rw[hq] at h;exact .inr ⟨hlow k ob h,h⟩
       | some ob'=>rw[hq] at h;exact .inl h
     have hbox:∀ k ob,get hb k=some ob->∃ m b,k=nt*8+m/\bs[m]?=some b/\conB nt J bs k=some (b,0):=fun k ob h=>by
       obtain⟨m,b,_,_,e1,e2,_⟩:=b3 k ob h;rw[Nat.zero_add] at e1;exact⟨m,b,e1,e2,by rw[e1];simp [conB,e2]⟩
     have hmem:∀ m b,bs[m]?=some b->b∈q++st:=fun m b h=>by rw[<- ebs];exact List.mem_of_getElem? h
     have hnd:bs.Nodup:=by rw[ebs];exact E.nd
     rw[<- ebs];refine⟨⟨rfl,?_,fun m pv hm=>?_,fun k ob hk=>?_,?_,E.enter.Slt,fun b h=>h,fun b h=>.inl h,fun b _ _=>rfl,Nat.le_refl _,R0.lent,fun k t xs hk=>?_,E.enter.told,E.enter.toldS,R0.ltinj,fun k ob b o hk hl hnl hb k' o' n hL=>?_,Calm.refl w,fun k l hk=>⟨fun p hp=>⟨?_,fun i _ _ _=>rfl⟩,fun hn b o hb=>?_⟩,Deep.none fun k t xs hk=>?_,by show bs.length<=4;rw[hlen.1];exact hb4⟩,hlen.1,hps⟩
     · simp [qsk];omega
     · rw [qqZ] at hm;simp only[Nat.zero_le,if_true,Nat.sub_zero] at hm;obtain⟨v,h1,h2⟩:=c1.get hm;have hlt:=(List.getElem?_eq_some_iff.1 h1).1;rw[eg] at h2;exact⟨v,by rw[Array.getElem?_append_left (by simpa using hlt)];simpa using h1,h2⟩
     · rw [<- eg] at hk ⊢;rcases hgk k ob hk with h | ⟨hk8,h⟩
       · obtain ⟨m, b, l', c', e1, e2, rfl, hna, hbl, hal⟩ := b3 k ob h;obtain⟨m',b',f1,f2,f3⟩:=hbox k _ h;have:m'=m:=by omega
         subst this;rw[e2] at f2;injection f2 with f2;subst f2
         exact⟨b,c',f3,hbl,All2.cells1J hal hna,E.nS b (hmem _ _ e2),.inr (.inl (by rw[ebs];exact hmem _ _ e2))⟩
       · have h0 := R0.obs k ob h;obtain⟨_,h3⟩:=i3 k ob h;have hc:=hcon k hk8;have up:∀ {e:Ty} {y:List e.den} {m:Md},ORel w S J (get (qcS ps x 0).2) (qnM nt w S J ps x).Mo k (.rows e y m)->ORel w S (conB nt J bs) g (qsk nt w S J ps x bs).Mo k (.rows e y m):=by
           intro e y m h0;simp only[ORel] at h0 ⊢;rw[hc];cases hb:J k with
           | none=>rw[hb] at h0;exact h0
           | some p =>
             obtain⟨b,o⟩:=p;rw[hb] at h0;exact⟨h0.1,h0.2.1,h0.2.2.1,fun hm=>⟨(h0.2.2.2.1 hm).1,.inr (.inr ⟨k,o,hb⟩)⟩,h0.2.2.2.2⟩
         rcases h3 with ⟨e,y,v,rfl,_⟩ | ⟨e,y,v,rfl,_⟩
         · exact up h0
         · exact up h0
     · intro k k' ob ob' b o o' hk hl hk' hl' hβ1 hβ2;rw[<- eg] at hk hk';have apart:∀ {k k':Nat} {ob ob':Ob} {b o o':Nat},get hb k=some ob->k'<nt*8->conB nt J bs k=some (b,o)->conB nt J bs k'=some (b,o')->False:=by
         intro k k' ob ob' b o o' h1 h2 h3 h4;obtain⟨m,b',f1,f2,f3⟩:=hbox k _ h1;rw[f3] at h3;injection h3 with h3;injection h3 with h3 _;subst h3
         rw[hcon k' h2] at h4;exact E.apart b' (hmem _ _ f2) k' o' h4
       rcases hgk k ob hk with h | ⟨h8,h⟩
       · rcases hgk k' ob' hk' with h' | ⟨h8', h'⟩
         · obtain ⟨m, b1', f1, f2, f3⟩ := hbox k _ h;obtain⟨m',b2',f1',f2',f3'⟩:=hbox k' _ h';rw[f3] at hβ1;injection hβ1 with hβ1;injection hβ1 with hβ1 _;subst hβ1
           rw[f3'] at hβ2;injection hβ2 with hβ2;injection hβ2 with hβ2 _;subst hβ2
           have l1:=(List.getElem?_eq_some_iff.1 f2);have l2:=(List.getElem?_eq_some_iff.1 f2');have hp:=List.pairwise_iff_getElem.1 hnd;rcases Nat.lt_trichotomy m m' with h | h | h
           · exact absurd (l1.2.trans l2.2.symm) (hp m m' l1.1 l2.1 h)
           · omega
           · exact absurd (l2.2.trans l1.2.symm) (hp m' m l2.1 l1.1 h)
         · exact(apart (ob':=ob) h h8' hβ1 hβ2).elim
       · rcases hgk k' ob' hk' with h' | ⟨h8', h'⟩
         · exact(apart (ob':=ob) h' h8 hβ2 hβ1).elim
         · rw [hcon k h8] at hβ1;rw[hcon k' h8'] at hβ2;exact E.enter.inj k k' b o o' hβ1 hβ2
     · rw [<- eg] at hk;rcases hgk k _ hk with h | ⟨h8,h⟩
       · obtain ⟨_, _, _, _, _, _, h', _⟩ := b3 k _ h;cases h'
       · rw [hcon k h8];exact R0.lentk k t xs h
     · rw [<- eg] at hk;rcases hgk k _ hk with h | ⟨h8,h⟩
       · obtain ⟨m, b', f1, f2, f3⟩ := hbox k _ h;rw[f3] at hb;injection hb with hb;injection hb with hb _;subst hb
         exact E.apart b' (hmem _ _ f2) k' o' (qkR hL).2
       · rw [hcon k h8] at hb;exact R0.sep k ob b o h hl hnl hb k' o' n hL
     · have hp : (if nt * 8 <= k then bs[k - nt * 8]? else none) = some p := hp;split at hp
       · rename_i h8;simp only[conB,if_pos h8,hp,Option.map_some]
       · cases hp
     · rw [<- eg] at hk;rcases hgk k _ hk with h | ⟨h8,h⟩
       · obtain ⟨m, b', f1, f2, f3⟩ := hbox k _ h;have:(qsk nt w S J ps x bs).PB k=some b':=by
           show(if nt*8<=k then bs[k-nt*8]? else none)=some b';rw[if_pos (by omega),show k-nt*8=m by omega,f2]
         rw[this] at hn;cases hn
       · obtain ⟨_, h3⟩ := i3 k _ h;rcases h3 with ⟨_,_,_,h,_⟩ | ⟨_,_,_,h,_⟩<;>cases h
     · rw [<- eg] at hk;rcases hgk k _ hk with h | ⟨h8,h⟩
       · obtain ⟨_, _, _, _, _, _, h', _⟩ := b3 k _ h;cases h'
       · exact qos hfl k t xs h
   · cases hs
 · cases hs
variable {T:Told} {P:Program} {tb:Tb} {env:Env}
def nB:List CK->Nat
 | []=>0
 | .x::cs=>nB cs
 | .b::cs=>nB cs+1
 | .h::cs=>nB cs
 | .l::cs=>nB cs
def rdC (K:Nat) (h:Hp):List CK->List PV->Nat->Option (List PV×Nat)
 | [],[],j=>some ([],j)
 | .x::cs,v::l,j=>(match rdC K h cs l j with | some (a,j')=>some (v::a,j') | none=>none)
 | .b::cs,.ptr k 0 0::l,j=>bif Nat.beq k (K+j) then (match h k with | some (.box _)=>rdC K h cs l (j+1) | _=>none) else none
 | .h::cs,.junk::l,j=>(match rdC K h cs l j with | some (a,j')=>some (a,j') | none=>none)
 | .l::cs,.fx _::l,j=>(match rdC K h cs l j with | some (a,j')=>some (a,j') | none=>none)
 | _,_,_=>none
def rdB (K:Nat) (h:Hp):List (List CK)->Nat->Nat->Option (List PV)
 | [],_,_=>some []
 | cs::bx,i,j =>
  (match h (K+i) with
  | some (.box l) =>
   (match rdC K h cs l j with
   | some (a,j')=>(match rdB K h bx (i+1) j' with | some r=>some (a++r) | none=>none)
   | none=>none)
  | _=>none)
def qzq (tb:Tb) (nt:Nat) {T:Type} (wi:Wir) (ps:List (Ty×PM)) (rs:List (Ty×Bool)) (dcd:HL (qha ps)×HL (fsts rs)->T) (results:List ResultVar) (x:HL (fsts ps)) (e:Ex) (s:St):Option T :=
 match e with
 | .exit _=>none
 | _ =>
  (qgi ps 0 x (get s.h)).bind fun a =>
   match rdB (nt*8) (get s.h) wi.boxes 0 (nB wi.args) with
   | none=>none
   | some vb =>
    (match ungr wi.gr (results.map (qlk tb s)) with
    | none=>none
    | some cells =>
     (match wi.nb with
     | none=>bif Nat.beq cells.length wi.nres then (match qax (get s.h) rs (cells++vb) (qdo ps 0) with | some b=>some (dcd (a,b.1)) | none=>none) else none
     | some n =>
      (match cells.drop wi.np with
      | .ptr k 0 0::r =>
       (match get s.h k with
       | some (.box l)=>bif Nat.beq l.length n&&Nat.blt k (nt*8)&&Nat.beq cells.length (wi.nres+1) then (match qax (get s.h) rs ((cells.take wi.np++r)++(vb++l)) (qdo ps 0) with | some b=>some (dcd (a,b.1)) | none=>none) else none
       | _=>none)
      | _=>none)))
def fnFB (tb:Tb) (env:Env) (fn:Func) (lh:LH) {T:Type} (wi:Wir) (ps:List (Ty×PM)) (rs:List (Ty×Bool)) (dcd:HL (qha ps)×HL (fsts rs)->T) (x:HL (fsts ps)):Option T :=
 match fn.body with
 | some c=>(match qvA fn.ntmps wi ps x with | some s=>run tb env fn.ntmps lh c s (qzq tb fn.ntmps wi ps rs dcd fn.results.toList x) | none=>none)
 | none=>none
theorem WC.nB:∀ {cs:List CK} {as u:List Value} {q:List Nat},WC cs as u q->q.length=nB cs
 | [],[],[],[],_=>rfl
 | .x::cs,a::as,v::u,q,h=>h.2.nB
 | .b::cs,a::as,u,b::q,h=>by simp [X.nB,h.2.nB]
 | .h::cs,a::as,u,q,h=>by
  have h:WC cs as u q:=h;simp [X.nB,h.nB]
 | .l::cs,a::as,v::u,q,h=>by
  have h:a=v/\WC cs as u q:=h;simp [X.nB,h.2.nB]
theorem qvm:∀ cs:List CK,nB (cs.map CK.ex)=nB cs
 | []=>rfl
 | .x::cs=>qvm cs
 | .b::cs=>by simp [nB,CK.ex,qvm cs]
 | .h::cs=>qvm cs
 | .l::cs=>qvm cs
theorem qz9 (bx:List (List CK)):((exB bx).map nB).sum=(bx.map nB).sum:=by
 induction bx with
 | nil=>rfl
 | cons cs bx ih=>simp only[exB,List.map_cons,List.sum_cons,qvm] at ih ⊢;rw[ih]
theorem WB.nB {w:World}:∀ {bx:List (List CK)} {bs:List Nat} {u:List Value} {st:List Nat},WB w bx bs u st->st.length=(bx.map nB).sum
 | [],[],[],[],_=>rfl
 | cs::bx,b::bs,u,st,h=>by
  obtain⟨_,_,_,_,_,_,_,rfl,h1,h2⟩:=h;simp [h1.nB,h2.nB]
theorem qzY {K:Nat} {w:World} {S:Foot} {J:Con} {g:Hp} (hob:∀ k l,g k=some (.box l)->∃ b,J k=some (b,0)):∀ {cs:List CK} {l:List PV} {j:Nat} {a:List PV} {j':Nat} {as:List Value},rdC K g cs l j=some (a,j')->All2 (qac w S J g) l as ->
  ∃ u q,WC (cs.map CK.ex) as u q/\All2 (qac w S J g) a u/\j'=j+q.length/\∀ m b,q[m]?=some b->J (K+(j+m))=some (b,0):=by
 intro cs
 induction cs with
 | nil =>
  intro l j a j' as h1 h2;cases l with
  | nil =>
   simp only[rdC,Option.some.injEq,Prod.mk.injEq] at h1;obtain⟨rfl,rfl⟩:=h1;cases as with
   | nil=>exact⟨[],[],trivial,trivial,rfl,by simp⟩
   | cons _ _=>exact h2.elim
  | cons _ _=>simp [rdC] at h1
 | cons ck cs ih =>
  intro l j a j' as h1 h2;cases l with
  | nil=>cases ck<;>simp [rdC] at h1
  | cons v l =>
   cases as with
   | nil=>exact h2.elim
   | cons c as =>
    obtain⟨h2,h2'⟩:=h2;cases ck with
    | x =>
     simp only[rdC] at h1;split at h1
     · rename_i a2 j2 hr;simp only[Option.some.injEq,Prod.mk.injEq] at h1;obtain⟨rfl,rfl⟩:=h1;obtain⟨u,q,e1,e2,e3,e4⟩:=ih hr h2';exact⟨c::u,q,⟨rfl,e1⟩,⟨h2,e2⟩,e3,e4⟩
     · cases h1
    | b =>
     cases v with
     | ptr k i off =>
       cases i with
       | succ i=>simp [rdC] at h1
       | zero =>
         cases off with
         | succ off=>simp [rdC] at h1
         | zero =>
          simp only[rdC] at h1;obtain⟨hk,h1⟩:=q8q h1;have hk:=Nat.eq_of_beq_eq_true hk;split at h1
          · rename_i l' hl';obtain⟨u,q,e1,e2,e3,e4⟩:=ih h1 h2';obtain⟨b,hb⟩:=hob k l' hl';simp only[qac,hl'] at h2;obtain⟨b',o',hb',rfl⟩:=h2;rw[hb] at hb';injection hb' with hb'
            injection hb' with e5 e6
            subst e5;subst e6;refine⟨u,b::q,⟨by simp,e1⟩,e2,by rw[e3,List.length_cons];omega,fun m b' hm=>?_⟩;cases m with
            | zero=>simp only[List.getElem?_cons_zero,Option.some.injEq] at hm;subst hm;rw[Nat.add_zero,<- hk];exact hb
            | succ m =>
             have:=e4 m b' (by simpa using hm)
             rwa [show j+(m+1)=j+1+m by omega]
          · cases h1
     | _=>simp [rdC] at h1
    | h =>
     cases v with
     | junk =>
       simp only[rdC] at h1;split at h1
       · rename_i a2 j2 hr;simp only[Option.some.injEq,Prod.mk.injEq] at h1;obtain⟨rfl,rfl⟩:=h1;obtain⟨u,q,e1,e2,e3,e4⟩:=ih hr h2';exact⟨u,q,e1,e2,e3,e4⟩
       · cases h1
     | _=>simp [rdC] at h1
    | l =>
     cases v with
     | fx _ =>
       simp only[rdC] at h1;split at h1
       · rename_i a2 j2 hr;simp only[Option.some.injEq,Prod.mk.injEq] at h1;obtain⟨rfl,rfl⟩:=h1;obtain⟨u,q,e1,e2,e3,e4⟩:=ih hr h2';exact⟨u,q,e1,e2,e3,e4⟩
       · cases h1
     | _=>simp [rdC] at h1
theorem qyP {K:Nat} {h:Hp}:∀ {cs:List CK} {l:List PV} {j:Nat} {a:List PV} {j':Nat},rdC K h cs l j=some (a,j')->∀ i:Nat,(cs[i]?=some .h\/cs[i]?=some .l)->∃ v,l[i]?=some v/\v.stays=true:=by
 intro cs
 induction cs with
 | nil=>intro l j a j' _ i hi;simp at hi
 | cons ck cs ih =>
  intro l j a j' h1 i hi;cases l with
  | nil=>cases ck<;>simp [rdC] at h1
  | cons v l =>
   cases ck with
   | x =>
    cases i with
    | zero=>simp at hi
    | succ i =>
     simp only[rdC] at h1;split at h1
     · rename_i hr;simpa using ih hr i (by simpa using hi)
     · cases h1
   | b =>
    cases i with
    | zero=>simp at hi
    | succ i =>
     cases v with
     | ptr k i0 off =>
       cases i0 with
       | succ i0=>simp [rdC] at h1
       | zero =>
         cases off with
         | succ off=>simp [rdC] at h1
         | zero =>
          simp only[rdC] at h1;obtain⟨_,h1⟩:=q8q h1;split at h1
          · simpa using ih h1 i (by simpa using hi)
          · cases h1
     | _=>simp [rdC] at h1
   | h =>
    cases v with
    | junk =>
     cases i with
     | zero=>exact⟨_,rfl,rfl⟩
     | succ i =>
       simp only[rdC] at h1;split at h1
       · rename_i hr;simpa using ih hr i (by simpa using hi)
       · cases h1
    | _=>simp [rdC] at h1
   | l =>
    cases v with
    | fx _ =>
     cases i with
     | zero=>exact⟨_,rfl,rfl⟩
     | succ i =>
       simp only[rdC] at h1;split at h1
       · rename_i hr;simpa using ih hr i (by simpa using hi)
       · cases h1
    | _=>simp [rdC] at h1
theorem qyQ {K:Nat} {h:Hp}:∀ {bx:List (List CK)} {i j:Nat} {vb:List PV},rdB K h bx i j=some vb->∀ m cs,bx[m]?=some cs->∃ l,h (K+(i+m))=some (.box l)/\∀ n:Nat,(cs[n]?=some .h\/cs[n]?=some .l)->∃ v,l[n]?=some v/\v.stays=true:=by
 intro bx
 induction bx with
 | nil=>intro i j vb _ m cs hm;simp at hm
 | cons cs0 bx ih =>
  intro i j vb h1 m cs hm;simp only[rdB] at h1;split at h1
  · rename_i l hl;split at h1
    · rename_i a j' hC;split at h1
      · rename_i r hr;cases m with
        | zero =>
         simp only[List.getElem?_cons_zero,Option.some.injEq] at hm;subst hm;exact⟨l,hl,qyP hC⟩
        | succ m =>
         obtain⟨l',hl'⟩:=ih hr m cs (by simpa using hm);exact⟨l',by rw[show K+(i+(m+1))=K+(i+1+m) by omega];exact hl'⟩
      · cases h1
    · cases h1
  · cases h1
theorem qyR {K:Nat} {h:Hp}:∀ {bx:List (List CK)} {i j:Nat} {vb:List PV},rdB K h bx i j=some vb->∀ m,m<bx.length->∃ l,h (K+(i+m))=some (.box l):=by
 intro bx
 induction bx with
 | nil=>intro i j vb _ m hm;simp at hm
 | cons cs bx ih =>
  intro i j vb h1 m hm;simp only[rdB] at h1;split at h1
  · rename_i l hl;split at h1
    · rename_i a j' _;split at h1
      · rename_i r hr;cases m with
        | zero=>exact⟨l,hl⟩
        | succ m =>
         obtain⟨l',hl'⟩:=ih hr m (by simpa using hm);exact⟨l',by rw[show K+(i+(m+1))=K+(i+1+m) by omega];exact hl'⟩
      · cases h1
    · cases h1
  · cases h1
theorem qzZ {K:Nat} {w:World} {S:Foot} {J:Con} {g:Hp} (hob:∀ k l,g k=some (.box l)->∃ b c,J k=some (b,0)/\Blk w b c/\All2 (qac w S J g) l c.toList):∀ {bx:List (List CK)} {i j:Nat} {vb:List PV} {bs:List Nat},rdB K g bx i j=some vb->bs.length=bx.length ->
  (∀ m b,bs[m]?=some b->J (K+(i+m))=some (b,0))->∃ u st,WB w (exB bx) bs u st/\All2 (qac w S J g) vb u/\∀ m b,st[m]?=some b->J (K+(j+m))=some (b,0):=by
 intro bx
 induction bx with
 | nil =>
  intro i j vb bs h1 h2 h3;simp only[rdB,Option.some.injEq] at h1;subst h1;cases bs with
  | nil=>exact⟨[],[],trivial,trivial,by simp⟩
  | cons _ _=>simp at h2
 | cons cs bx ih =>
  intro i j vb bs h1 h2 h3;cases bs with
  | nil=>simp at h2
  | cons b bs =>
   simp only[rdB] at h1;split at h1
   · rename_i l hl;split at h1
     · rename_i a j' hC;split at h1
       · rename_i r hr;injection h1 with h1
         subst h1;obtain⟨b',c,q1,q2,q3⟩:=hob _ l hl;have hb:=h3 0 b rfl;rw[Nat.add_zero] at hb;rw[hb] at q1;injection q1 with q1
         injection q1 with q1 _
         subst q1;obtain⟨u1,s1,e1,e2,e3,e4⟩:=qzY (fun k l h=>by obtain⟨b,_,h,_⟩:=hob k l h;exact⟨b,h⟩) hC q3
         obtain⟨u2,s2,f1,f2,f3⟩:=ih hr (by simpa using h2) (fun m b' hm=>by
           have:=h3 (m+1) b' (by simpa using hm)
           rwa [show i+(m+1)=i+1+m by omega] at this)
         refine⟨u1++u2,s1++s2,⟨c,u1,u2,s1,s2,q2,rfl,rfl,e1,f1⟩,All2.append e2 f2,fun m b' hm=>?_⟩;by_cases hlt:m<s1.length
         · exact e4 m b' (by rwa [List.getElem?_append_left hlt] at hm)
         · rw [List.getElem?_append_right (by omega)] at hm;have:=f3 _ b' hm
           rwa [e3,show j+s1.length+(m-s1.length)=j+m by omega] at this
       · cases h1
     · cases h1
   · cases h1
variable {T:Told} {P:Program} {tb:Tb} {env:Env}
theorem quH:∀ {gs:List GK} {pvs cells:List PV},ungr gs pvs=some cells->.junk∈pvs->.junk∈cells:=by
 have key:∀ {gs:List GK} {pvs cells:List PV},qf2 gs pvs=some cells->.junk∈pvs->.junk∈cells:=by
  intro gs
  induction gs with
  | nil =>
   intro pvs cells h hm;cases pvs with
   | nil=>simp at hm
   | cons _ _=>simp [qf2] at h
  | cons g0 gs ih =>
   intro pvs cells h hm;cases pvs with
   | nil=>simp at hm
   | cons v pvs =>
    cases g0 with
    | x =>
     simp only[qf2] at h;split at h
     · rename_i r hr;injection h with h
       subst h;rcases List.mem_cons.1 hm with hm | hm
       · rw[<- hm];exact List.mem_cons_self
       · exact List.mem_cons_of_mem _ (ih hr hm)
     · cases h
    | g n =>
     cases v with
     | agg l =>
       simp only[qf2] at h;have hbb:=q8q h;clear h;obtain⟨_,h⟩:=hbb;split at h
       · rename_i r hr;injection h with h
         subst h;rcases List.mem_cons.1 hm with hm | hm
         · cases hm
         · exact List.mem_append.2 (.inr (ih hr hm))
       · cases h
     | _=>simp [qf2] at h
    | f fid n =>
     cases v with
     | clo f' l =>
       simp only[qf2] at h;have hbb:=q8q h;clear h;obtain⟨_,h⟩:=hbb;split at h
       · rename_i r hr;injection h with h
         subst h;rcases List.mem_cons.1 hm with hm | hm
         · cases hm
         · exact List.mem_append.2 (.inr (ih hr hm))
       · cases h
     | _=>simp [qf2] at h
    | n =>
     cases v with
     | nilp =>
       simp only[qf2] at h;rcases List.mem_cons.1 hm with hm | hm
       · cases hm
       · exact ih h hm
     | _=>simp [qf2] at h
 intro gs pvs cells h hm;cases gs with
 | nil=>simp only[ungr,Option.some.injEq] at h;subst h;exact hm
 | cons g0 gs=>exact key h hm
theorem qhV (hT:TbOk P tb) (hE:qas T P env) (hm:P.follows .mixedOrders=true) {f:FuncId} {fn:Func} {c:Code} {lh:LH} {ct:Ctr} {wi:Wir} {dcd:HL (qha ct.ps)×HL (fsts ct.rs)->ct.T}
   (hf : P.funcs[f]? = some fn) (hn : (fn.name == "runtime.NumGoroutine") = false) (hb : fn.body = some c) (hl : LHok T P fn.ntmps lh c) (henc : ∀ y, ct.enc (dcd y) = y) (hwi : ct.wi = some wi)
   (hF:∀ x r,ct.F x=some r->fnFB tb env fn lh wi ct.ps ct.rs dcd x=some r) (hflat:ct.flat=true:=by rfl):qam T P f ct:=by
 refine⟨⟨fn,hf,hn,by rw[hb];rfl⟩,?_,hflat⟩;simp only[Ctr.flat,Bool.and_eq_true] at hflat;rw[hwi];intro x r hx w S J as us q st E;have h:=hF x r hx;unfold fnFB at h;rw[hb] at h;simp only at h;split at h
 · rename_i s0 hs0;obtain⟨R0,hlen,hps⟩:=qu0 E hs0 hflat.1;obtain⟨bs,ebs⟩:∃ bs,bs=q++st:=⟨_,rfl⟩;rw[<- ebs] at R0 hlen;refine calls_of_wp hf hb (qrz (B:=qsk fn.ntmps w S J ct.ps x bs) hT hE hm h hl (fun ex s hs=>?_) w S (conB fn.ntmps J bs) _ R0);have fin:qzq tb fn.ntmps wi ct.ps ct.rs dcd fn.results.toList x .ret s=some r->∀ (w':World) (S':Foot) (J':Con) (a':Act),Rel T (qsk fn.ntmps w S J ct.ps x bs) w' S' J' s a' ->
      a'.defers=[]/\∃ v,(results fn a'.tmps).run P w'=.ok v w'/\∃ S' ρ,qyr T w S J wi ct.ps ct.rs x (ct.enc r) v q st w' S' ρ:=by
    intro hs w' S' J' a' R';refine⟨R'.defers,?_⟩;simp only[qzq] at hs;obtain⟨ls,hs,hls⟩:=qjv hs;split at hs
    · cases hs
    · rename_i vb hvb;have hob:∀ k l,get s.h k=some (.box l)->∃ b c,J' k=some (b,0)/\Blk w' b c/\All2 (qac w' S' J' (get s.h)) l c.toList:=fun k l hk=>by
        obtain⟨b,c,q1,q2,q3,_⟩:=R'.obs k _ hk;exact⟨b,c,q1,q2,q3⟩
      have hhas:=qyR hvb;have hpin:∀ m b,bs[m]?=some b->J' (fn.ntmps*8+m)=some (b,0)/\∃ l,get s.h (fn.ntmps*8+m)=some (.box l):=fun m b hm=>by
        have hm':=(List.getElem?_eq_some_iff.1 hm).1;obtain⟨l,hl⟩:=hhas m (by omega);rw[Nat.zero_add] at hl;refine⟨((R'.boxk _ l hl).1 b ?_).1,l,hl⟩;show(if fn.ntmps*8<=fn.ntmps*8+m then bs[fn.ntmps*8+m-fn.ntmps*8]? else none)=some b;rw[if_pos (by omega),Nat.add_sub_cancel_left,hm]
      obtain⟨u2,st',hWB,hu2,hst'⟩:=qzZ hob hvb hlen (fun m b hm=>by rw[Nat.zero_add];exact(hpin m b hm).1)
      obtain⟨_,e1,e2,_,_,hWC0,hWB0⟩:=E.a;have est:st'=st:=by
        have l1:=hWB.nB;rw[qz9] at l1;have l2:=hWB0.nB;have l3:=hWC0.nB;refine List.ext_getElem? fun m=>?_
        by_cases hlt:m<st.length
        · have h1 : st'[m]? = some st'[m] := List.getElem?_eq_getElem (by omega);have h2:bs[q.length+m]?=some st[m]:=by rw[ebs,List.getElem?_append_right (by omega),Nat.add_sub_cancel_left,List.getElem?_eq_getElem hlt]
          have h3:=hst' m _ h1;have h4:=(hpin _ _ h2).1;rw[l3,h3] at h4;injection h4 with h4
          injection h4 with h4 _
          rw[h1,List.getElem?_eq_getElem hlt,h4]
        · rw[List.getElem?_eq_none (by omega),List.getElem?_eq_none (by omega)]
      subst est;have core:∀ (pvs:List PV) (vus:List Value) (p:HL (fsts ct.rs)×List Nat),qax (get s.h) ct.rs pvs (qdo ct.ps 0)=some p->All2 (TRel w' S' J' (get s.h)) pvs vus ->
          ∃ (S2:Foot) (ρ:Con),(∀ b,S' b->S2 b)/\(∀ b,S b->S2 b)/\(∀ b,S2 b->S b\/w.heap.size<=b\/∃ k∈ownK ct.ps 0,∃ o,J k=some (b,o))/\(∀ b,S2 b->b<w'.heap.size)/\qld w w' S2 J ct.ps 0 x ls/\ResV w' S2 ρ ct.rs 0 p.1 vus/\ρ.inj /\
            (∀ j b o,ρ j=some (b,o)->w.heap.size<=b\/∃ k∈ownK ct.ps 0,∃ o,J k=some (b,o))/\(∀ k l b o,get s.h k=some (.box l)->J' k=some (b,o)->¬ S2 b/\∀ j o',ρ j≠some (b,o'))/\(qn4 ct.rs=false->qx2 w' S2 w.heap.size ρ (resG ct.rs 0 p.1)):=by
        intro pvs vus p hp hus;obtain⟨rr,used⟩:=p;obtain⟨S2,R2,hS2,hS2n,hdec⟩:=R'.frz (hp:=get s.h) (fun _ _ h=>h) (qgY ct.rs pvs);obtain⟨k1,k2,k3,k4,k5⟩:=qqW (j:=0) (ρ:=qck J' (qcA ct.rs pvs 0)) R' hS2 hdec hp hus (fun _ h=>h);have hstay:∀ k,k ∉ qgY ct.rs pvs->get (frzW (get s.h) (qgY ct.rs pvs)++s.h) k=get s.h k:=fun k hk=>by
          rw[q2q,qjj hk];rfl
        have hboxs:∀ k l,get s.h k=some (.box l)->get (frzW (get s.h) (qgY ct.rs pvs)++s.h) k=some (.box l):=fun k l hk=>by
          rw[q2q];cases hq:get (frzW (get s.h) (qgY ct.rs pvs)) k with
          | none=>exact hk
          | some ob =>
            obtain⟨ob0,q1,q2⟩:=qe8 hq;rw[hk] at q1;injection q1 with q1
            subst q1;rw[q2];rfl
        have hlK:∀ k∈qdo ct.ps 0,k ∉ qgY ct.rs pvs:=fun k hk h=>k3 k h hk
        have hlent:∀ k∈qdo ct.ps 0,∀ (e:Ty) (ys:List e.den),get s.h k=some (.rows e ys .lent)->∀ b o n,ltOf J ct.ps 0 x k=some (b,o,n)->J' k=some (b,o)/\¬ S2 b:=by
          intro k hk e ys hg b o n hlt;have:J' k=some (b,o):=by
            rcases R'.lentk k e ys hg with ⟨_,h⟩ | ⟨b2,o2,h1,h2⟩
            · have h : ltOf J ct.ps 0 x k = none := h;rw[h] at hlt;cases hlt
            · have h1 : ltOf J ct.ps 0 x k = _ := h1;rw[h1] at hlt;injection hlt with hlt
              injection hlt with e1 hlt
              injection hlt with e2 _
              rw[h2,e1,e2]
          exact⟨this,(R2.liveS (by rw[hstay k (hlK k hk)];exact hg) rfl this).1⟩
        obtain⟨l1,l2⟩:=qnD (w:=w) (w':=w') (S2:=S2) (J:=J) hls (fun k hk e x0 ys hg hlen hlt=>by
          refine⟨hlen,?_⟩;cases hb:J k with
          | none=>trivial
          | some p =>
            obtain⟨b,o⟩:=p;have hlt:=hlt _ hb;obtain⟨q1,q2⟩:=hlent k hk e ys hg b o _ hlt;obtain⟨c0,c,g1,g2,g3,g4⟩:=R'.lent k b o _ hlt;exact⟨q2,c0,c,g1,g2,g3,g4,(R'.rows k e ys .lent b o hg q1).mono hS2 (fun _ _=>rfl) rfl⟩)
        have hown:∀ {n b o'},qck J' (qcA ct.rs pvs 0) n=some (b,o')->∃ k off,get (qcA ct.rs pvs 0) n=some (k,off)/\∃ t xs o1,get s.h k=some (.rows t xs .own)/\J' k=some (b,o1):=by
          intro n b o' hc;unfold qck at hc;split at hc
          · rename_i k off hg;cases hb:J' k with
            | none=>rw[hb] at hc;cases hc
            | some p =>
              obtain⟨b1,o1⟩:=p;rw[hb] at hc;simp only[Option.map_some,Option.some.injEq,Prod.mk.injEq] at hc;obtain⟨rfl,_⟩:=hc;obtain⟨t,xs,h3⟩:=k4 n k off (qaT hg);exact⟨k,off,hg,t,xs,o1,h3,hb⟩
          · cases hc
        have hbx:∀ k l b o,get s.h k=some (.box l)->J' k=some (b,o)->¬ S2 b/\∀ j o',qck J' (qcA ct.rs pvs 0) j≠some (b,o'):=fun k l b o hk hb=>by
          refine⟨(R2.liveS (hboxs k l hk) rfl hb).1,fun j o' hc=>?_⟩;obtain⟨k',off,_,t,xs,o1,g2,g3⟩:=hown hc;have:=R'.inj k k' _ _ b o o1 hk rfl g2 rfl hb g3;subst this;rw[hk] at g2;cases g2
        have hMo:∀ {b},(qsk fn.ntmps w S J ct.ps x bs).Mo b->b ∉ bs->(∀ k o,k∈qdo ct.ps 0->J k≠some (b,o))->w.heap.size<=b\/∃ k∈ownK ct.ps 0,∃ o,J k=some (b,o):=by
          rintro b (h | h | ⟨k,o,hb⟩) hnb hn
          · exact .inl h
          · exact absurd h hnb
          · rcases E.enter.dom k b o hb with h | h
            · exact .inr ⟨k,h,o,hb⟩
            · exact absurd hb (hn k o h)
        have hbsn:∀ b∈bs,¬ S2 b/\∀ j o',qck J' (qcA ct.rs pvs 0) j≠some (b,o'):=fun b hb=>by
          obtain⟨m,hm⟩:=List.getElem?_of_mem hb;obtain⟨p1,l,p2⟩:=hpin m b hm;exact hbx _ l b 0 p2 p1
        have hk5:=k5 (fun n k o hm b o' hb=>by
          obtain⟨t,xs,h3⟩:=k4 n k o hm;have hk:k ∉ qgY ct.rs pvs:=(k2 k (List.mem_map.2 ⟨_,hm,rfl⟩)).2;exact(R2.liveS (by rw[hstay k hk];exact h3) rfl hb).1) (fun _ _=>rfl)
        refine⟨S2,qck J' (qcA ct.rs pvs 0),hS2,fun b hb=>hS2 b (R'.S0 b hb),fun b hb=>?_,R2.Slt,l1,hk5,fun n n' b o1 o2 h1 h2=>?_,fun n b o' hc=>?_,hbx,fun hfr=>?_⟩
        · rcases R2.Snew b hb with h | h
          · exact .inl h
          · refine .inr (hMo h (fun hm => (hbsn b hm).1 hb) fun k o hk hβ => ?_);obtain⟨⟨e,ys,hg⟩,hlt⟩:=l2 k hk;obtain⟨n,hlt⟩:=hlt _ hβ;exact(hlent k hk e ys hg b o n hlt).2 hb
        · obtain ⟨k, off, g1, t, xs, p1, g2, g3⟩ := hown h1;obtain⟨k',off',g1',t',xs',p1',g2',g3'⟩:=hown h2;have:=R'.inj k k' _ _ b p1 p1' g2 rfl g2' rfl g3 g3';subst this;exact qi0 k1 g1 g1'
        · obtain ⟨k, off, g1, t, xs, p1, g2, g3⟩ := hown hc;refine hMo (R'.liveS g2 rfl g3).2 (fun hm=>(hbsn b hm).2 n o' hc) fun k' o2 hk' hβ=>?_
          obtain⟨_,hlt⟩:=l2 k' hk';obtain⟨n2,hlt⟩:=hlt _ hβ;exact R'.sep k _ b p1 g2 rfl (by simp) g3 k' o2 n2 hlt
        · have himm := hflat.2;rw[hfr,Bool.false_or,Bool.and_eq_true] at himm;obtain⟨i1,i2⟩:=qsZ himm.1;have hbs0:bs=[]:=by
            have h0:=himm.2;simp only[Ctr.bare,hwi,Bool.and_eq_true,List.isEmpty_iff] at h0;have h1:=hWB0.nB;have h2:=hWB.nB;rw[h0.1] at hlen;simpa using hlen
          exact qta R' hS2 hS2n (fun b hb=>(hMo hb (by rw[hbs0];simp) (fun k o hk=>by rw[i2] at hk;simp at hk)).resolve_right (by rintro⟨k,hk,_⟩;rw[i1] at hk;simp at hk)) hp k1 k4
      have hWBq:WB w' (exB wi.boxes) (q++st') u2 st':=by rw[<- ebs];exact hWB
      have nothere:∀ {S2:Foot} {ρ:Con},(∀ k l b o,get s.h k=some (.box l)->J' k=some (b,o)->¬ S2 b/\∀ j o',ρ j≠some (b,o'))->(∀ b∈q++st',¬ S2 b)/\∀ b∈q++st',∀ j o,ρ j≠some (b,o):=by
        intro S2 ρ hbx;have:∀ b∈q++st',¬ S2 b/\∀ j o',ρ j≠some (b,o'):=fun b hb=>by
          rw[<- ebs] at hb;obtain⟨m,hm⟩:=List.getElem?_of_mem hb;obtain⟨p1,l,p2⟩:=hpin m b hm;exact hbx _ l b 0 p2 p1
        exact⟨fun b hb=>(this b hb).1,fun b hb=>(this b hb).2⟩
      have same:∀ b,b<w.heap.size->(∀ k o,J k≠some (b,o))->b ∉ q++st'->w'.heap[b]?=w.heap[b]?:=fun b hb hn hnm=>R'.olds b hb (by
        rintro(h | ⟨k,o,h⟩)
        · rw[ebs] at h;exact hnm h
        · exact hn k o h)
      have hidden:∀ (i:Nat) (cs:List CK) (b:Nat),wi.boxes[i]?=some cs->(q++st')[i]?=some b->∀ j:Nat,(cs[j]?=some CK.h\/cs[j]?=some CK.l)->w'.cell? ⟨b,j,none⟩=w.cell? ⟨b,j,none⟩:=fun i cs b e1 e2 j e3=>by
        obtain⟨l,hl,hj⟩:=qyQ hvb i cs e1;rw[Nat.zero_add] at hl;rw[<- ebs] at e2;obtain⟨v,hv1,hv2⟩:=hj j e3;refine((R'.boxk _ l hl).1 b ?_).2 j v hv1 hv2;show(if fn.ntmps*8<=fn.ntmps*8+i then bs[fn.ntmps*8+i-fn.ntmps*8]? else none)=some b;rw[if_pos (by omega),Nat.add_sub_cancel_left,e2]
      split at hs
      · cases hs
      rename_i cells hcells;have runs:(∀ v∈cells,v≠.junk)->∃ us1 cs,(results fn a'.tmps).run P w'=.ok (qrC us1) w'/\GV wi.gr us1 cs/\All2 (TRel w' S' J' (get s.h)) cells cs:=by
        intro hnj;obtain⟨us1,hrun,hus1⟩:=qm6 hT R' fn (fun rv hrv hj=>absurd rfl (hnj _ (quH hcells (List.mem_map.2 ⟨rv,hrv,hj⟩))));obtain⟨cs,g1,g2⟩:=quI hcells hus1;exact⟨us1,cs,hrun,g1,g2⟩
      split at hs
      · rename_i hnb;obtain⟨hnr,hs⟩:=q8q hs;have hnr:=Nat.eq_of_beq_eq_true hnr;split at hs
        · rename_i p hp;simp only[Option.some.injEq] at hs;subst hs;obtain⟨us1,cs,hrun,hgv,hus1⟩:=runs (fun v hv hj=>absurd hj (qgh hp _ (List.mem_append.2 (.inl hv))));obtain⟨S2,ρ,c1,c2,c3,c4,c5,c6,c7,c8,c9,c10⟩:=core _ (cs++u2) p hp (All2.append hus1 hu2.up);obtain⟨n1,n2⟩:=nothere c9;refine⟨qrC us1,hrun,S2,ρ,c2,c3,c4,same,R'.grow,R'.told,R'.calm,by rw[henc];exact c5,⟨cs,u2,[],by rw[henc,List.append_nil];exact c6,?_⟩,c7,c8,n1,n2,hidden,fun hfr=>by rw[henc];exact c10 hfr⟩
          refine⟨?_,hWBq,us1,cs,rfl,hgv,?_⟩
          · rw[<- hnr,<- hus1.length]
          · rw[hnb];exact⟨rfl,rfl⟩
        · cases hs
      · rename_i n hnb;split at hs
        · rename_i k rr hres;split at hs
          · rename_i l hk;obtain⟨hc,hs⟩:=q8q hs;simp only[Bool.and_eq_true] at hc;have hln:=Nat.eq_of_beq_eq_true hc.1.1;have hlow:k<fn.ntmps*8:=Nat.blt_eq ▸ hc.1.2;have hcl:=Nat.eq_of_beq_eq_true hc.2;split at hs
            · rename_i p hp;simp only[Option.some.injEq] at hs;subst hs;have hcut:cells=cells.take wi.np++.ptr k 0 0::rr:=by rw[<- hres,List.take_append_drop]
              obtain⟨us1,cs,hrun,hgv,hus1⟩:=runs (fun v hv hj=>by
               rw[hcut] at hv;rcases List.mem_append.1 hv with hv | hv
               · exact absurd hj (qgh hp _ (List.mem_append.2 (.inl (List.mem_append.2 (.inl hv)))))
               · rcases List.mem_cons.1 hv with hv | hv
                 · rw[hj] at hv;cases hv
                 · exact absurd hj (qgh hp _ (List.mem_append.2 (.inl (List.mem_append.2 (.inr hv))))))
              have hd:=hus1.drop wi.np;have ht:=hus1.take wi.np;rw[hres] at hd;obtain⟨b,c,q1,q2,q3,q4,q5⟩:=R'.obs k _ hk;have hlen1:=hus1.length
              match hcs:cs.drop wi.np,hd with
              | u::rs',hd =>
               have hu:qac w' S' J' (get s.h) (.ptr k 0 0) u:=hd.1;simp only[qac,hk] at hu;obtain⟨b',o',hb',rfl⟩:=hu;rw[q1] at hb';injection hb' with hb'
               injection hb' with e5 e6
               subst e5;subst e6;obtain⟨S2,ρ,c1,c2,c3,c4,c5,c6,c7,c8,c9,c10⟩:=core _ ((cs.take wi.np++rs')++(u2++c.toList)) p hp (All2.append (All2.append ht hd.2) (All2.append hu2.up q3.up));obtain⟨n1,n2⟩:=nothere c9;obtain⟨d1,d2⟩:=c9 k l _ 0 hk q1;have hfresh:=(R'.boxk k l hk).2 (Base.PB_low hlow) _ 0 q1;have hcs2:cs=cs.take wi.np++.pointer (some ⟨b,0,none⟩)::rs':=by
                 have:=List.take_append_drop wi.np cs;rw[hcs] at this;simpa using this.symm
               have hle:wi.np<=cs.length:=by
                 rcases Nat.lt_or_ge cs.length wi.np with h | h
                 · rw[List.drop_eq_nil_of_le (by omega)] at hcs;cases hcs
                 · exact h
               have htl:(cs.take wi.np).length=wi.np:=by rw[List.length_take];omega
               refine⟨_,hrun,S2,ρ,c2,c3,c4,same,R'.grow,R'.told,R'.calm,by rw[henc];exact c5,⟨cs.take wi.np++rs',u2,c.toList,by rw[henc];exact c6,?_⟩,c7,c8,n1,n2,hidden,fun hfr=>by rw[henc];exact c10 hfr⟩
               refine⟨?_,hWBq,us1,cs,rfl,hgv,?_⟩
               · have := congrArg List.length hcs2;simp only[List.length_append,List.length_cons] at this ⊢;omega
               · rw [hnb];refine⟨by rw[<- hln,q3.length],b,?_,by simpa using q2,hfresh,d1,d2⟩;rw[List.take_append_of_le_length (by omega),List.take_of_length_le (by omega),List.drop_append,List.drop_eq_nil_of_le (by omega),htl,Nat.sub_self,List.nil_append,List.drop_zero];exact hcs2
            · cases hs
          · cases hs
        · cases hs
   cases ex with
   | exit n=>cases hs
   | normal=>exact fun w' S' J' a' R'=>fin hs w' S' J' a' R'
   | ret=>exact fun w' S' J' a' R'=>fin hs w' S' J' a' R'
 · cases h
#print axioms qhV
end Go.Proofs.YtfoedjifcmfogaaDoor.X
