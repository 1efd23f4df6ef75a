/- Own work: part of the proof; the first line of each part says what it tells. -/
import Derived.WalkKit
import Derived.KernelRfl
import Derived.Deep.MidRow
import Derived.Laws.CopyRow
import Derived.Laws.OwnMore
import Derived.Laws.MakeOwn


namespace Go.Proofs.YtfoedjifcmfogaaDoor.X
open Go
set_option linter.unusedVariables false
set_option linter.unusedSimpArgs false
inductive Ty where
 | int (k:IntKind)
 | bool
 | str
 | unit
 | pair (a b:Ty)
 | sl (e:Ty)
 | os (e:Ty)
 | op (l:Ty)
 deriving DecidableEq
@[reducible] def Ty.den:Ty->Type
 | .int _=>Int
 | .bool=>Bool
 | .str=>ByteArray
 | .unit=>Unit
 | .pair a b=>a.den×b.den
 | .sl e=>List e.den
 | .os e=>Option (List e.den)
 | .op l=>Option l.den
def Ty.flat:Ty->Bool
 | .pair a b=>a.flat&&b.flat
 | .os _ | .op _=>false
 | _=>true
def Ty.size:Ty->Nat
 | .int _ | .bool | .str | .sl _ | .os _ | .op _=>1
 | .unit=>0
 | .pair a b=>a.size+b.size
def Ty.zero:(t:Ty)->t.den
 | .int _=>(0:Int)
 | .bool=>false
 | .str=>ByteArray.empty
 | .unit=>()
 | .pair a b=>(a.zero,b.zero)
 | .sl _=>[]
 | .os _=>none
 | .op _=>none
def Ty.isAgg:Ty->Bool
 | .pair _ _ | .unit=>true
 | _=>false
inductive PV where
 | junk
 | val (t:Ty) (x:t.den)
 | nil
 | osl (k off:Nat) (len:Option Nat)
 | ptr (k i off:Nat)
 | iptr (t:Ty) (x:t.den) (off:Nat)
 | nilp
 | agg (l:List PV)
 | tup (l:List PV)
 | clo (f:FuncId) (l:List PV)
 | fx (k:Nat)
 | vw (k i:Nat)
 | vp (k i j off:Nat)
def PV.unfx:PV->PV
 | .fx k=>.osl k 0 none
 | v=>v
inductive Md where
 | own | lent | frz
 deriving DecidableEq
inductive Ob where
 | rows (t:Ty) (xs:List t.den) (m:Md)
 | box (l:List PV)
 | gone
abbrev Hp:=Nat->Option Ob
structure St where
 e:List (Nat×PV)
 h:List (Nat×Ob)
def get {α:Type}:List (Nat×α)->Nat->Option α
 | [],_=>none
 | (m,v)::r,n=>bif Nat.beq m n then some v else get r n
def cst {t t':Ty} (x:t.den):Option t'.den:=if h:t=t' then some (h ▸ x) else none
def cstl {t t':Ty} (x:List t.den):Option (List t'.den):=if h:t=t' then some (h ▸ x) else none
def PV.cells:PV->List PV
 | .agg l=>l
 | v=>[v]
def Ty.split:(t:Ty)->t.den->List PV
 | .int k,n=>[.val (.int k) n]
 | .bool,b=>[.val .bool b]
 | .str,s=>[.val .str s]
 | .unit,_=>[]
 | .pair a b,x=>a.split x.1++b.split x.2
 | .sl e,xs=>[.val (.sl e) xs]
 | .os e,x=>[.val (.os e) x]
 | .op l,x=>[.val (.op l) x]
def toPV (t:Ty) (x:t.den):PV :=
 match t,x with
 | .pair a b,x=>.agg ((Ty.pair a b).split x)
 | .unit,_=>.agg []
 | t,x=>.val t x
def Ty.getAt (t':Ty):(t:Ty)->t.den->Nat->Option t'.den
 | .pair a b,x,off =>
  bif decide (Ty.pair a b=t')&&Nat.beq off 0 then cst (t:=.pair a b) x
  else bif Nat.blt off a.size then Ty.getAt t' a x.1 off else Ty.getAt t' b x.2 (off-a.size)
 | t,x,off=>bif Nat.beq off 0 then cst x else none
def Ty.setAt (t':Ty) (y:t'.den):(t:Ty)->t.den->Nat->Option t.den
 | .pair a b,x,off =>
  bif decide (t'=Ty.pair a b)&&Nat.beq off 0 then cst (t':=.pair a b) y
  else bif Nat.blt off a.size then
   (match Ty.setAt t' y a x.1 off with | some z=>some (z,x.2) | none=>none)
  else (match Ty.setAt t' y b x.2 (off-a.size) with | some z=>some (x.1,z) | none=>none)
 | t,x,off=>bif Nat.beq off 0 then cst y else none
def win {α:Type} (xs:List α) (off:Nat):Option Nat->List α
 | none=>xs.drop off
 | some n=>(xs.drop off).take n
def dec (h:Hp):(t:Ty)->List PV->Option (t.den×List PV)
 | .pair a b,l =>
  match dec h a l with
  | some (x,r)=>(match dec h b r with | some (y,r')=>some ((x,y),r') | none=>none)
  | none=>none
 | .unit,l=>some ((),l)
 | .sl e,.nil::r=>some ([],r)
 | .sl e,.osl k off len::r =>
  match h k with
  | some (.rows t xs _)=>(match cstl (t':=e) xs with | some ys=>some (win ys off len,r) | none=>none)
  | _=>none
 | t,.val t' x::r=>(match cst (t':=t) x with | some y=>some (y,r) | none=>none)
 | _,_=>none
def decD (h:Hp):(t:Ty)->List PV->Option (t.den×List PV×List Nat)
 | .pair a b,l =>
  match decD h a l with
  | some (x,r,ks)=>(match decD h b r with | some (y,r',ks')=>some ((x,y),r',ks++ks') | none=>none)
  | none=>none
 | .unit,l=>some ((),l,[])
 | .os e,.nil::r=>bif e.flat then some (some [],r,[]) else none
 | .os e,.osl k 0 len::r =>
  match h k with
  | some (.rows t xs .own)=>bif e.flat then (match cstl (t':=e) xs with | some ys=>some (some (win ys 0 len),r,[k]) | none=>none) else none
  | _=>none
 | .op l,.ptr k 0 0::r =>
  bif Nat.ble 4 (k % 8) then
   (match h k with
   | some (.box c)=>(match decD h l c with | some (y,[],ks)=>some (some y,r,k::ks) | _=>none)
   | _=>none)
  else none
 | .sl e,.nil::r=>some ([],r,[])
 | t,.val t' x::r=>bif t.flat then (match cst (t':=t) x with | some y=>some (y,r,[]) | none=>none) else none
 | _,_=>none
def qhc:List Nat->List (Nat×Ob)
 | []=>[]
 | k::ks=>(k,.gone)::qhc ks
def decA (h:Hp) (t:Ty) (l:List PV):Option t.den :=
 match dec h t l with
 | some (x,[])=>some x
 | _=>none
def qag:List PV->List Nat
 | []=>[]
 | .osl k _ _::r=>k::qag r
 | _::r=>qag r
def memN:Nat->List Nat->Bool
 | _,[]=>false
 | n,m::r=>Nat.beq m n || memN n r
def qjp:List Nat->Bool
 | []=>true
 | n::r=>!memN n r&&qjp r
def subN:List Nat->List Nat->Bool
 | [],_=>true
 | n::r,l=>memN n l&&subN r l
def anyN:List Nat->List Nat->Bool
 | [],_=>false
 | n::r,l=>memN n l || anyN r l
def Ob.frz:Ob->Ob
 | .rows t xs _=>.rows t xs .frz
 | o=>o
def frzW (h:Hp):List Nat->List (Nat×Ob)
 | []=>[]
 | k::ks =>
  match h k with
  | some o=>(k,o.frz)::frzW h ks
  | none=>frzW h ks
def cpv0:Value->PV
 | .int k n=>.val (.int k) n
 | .bool b=>.val .bool b
 | .string s=>.val .str s
 | .slice none 0 0=>.nil
 | .pointer none=>.nilp
 | _=>.junk
def cpv:Value->PV
 | .agg cs=>.agg (cs.toList.map cpv0)
 | v=>cpv0 v
def St.pv (s:St):Operand->PV
 | .tmp t=>(get s.e t).getD .junk
 | .const v=>cpv v
 | .func f=>.clo f []
 | .global _=>.junk
inductive TE where
 | sc (t:Ty)
 | slc (e:TypeId) (t:Ty) (bytes:Nat)
 | stc (t:Ty) (fs:List (Nat×TypeId)) (q:Bool)
 | pt (e:TypeId) (l:Ty)
 | arr (e:TypeId) (t:Ty)
abbrev Tb:=List (TypeId×TE)
def Tb.ty (tb:Tb) (T:TypeId):Option Ty :=
 match get tb T with
 | some (.sc t)=>some t
 | some (.slc _ t _)=>some (.sl t)
 | some (.stc t _ _)=>some t
 | some (.pt _ l)=>some (.op l)
 | some (.arr _ t)=>some (.pair t (.pair t .unit))
 | none=>none
def HL:List Ty->Type
 | []=>Unit
 | t::ts=>t.den×HL ts
inductive PM where
 | imm | own | lent
 deriving DecidableEq
@[reducible] def qha:List (Ty×PM)->List Ty
 | []=>[]
 | (t,.lent)::r=>t::qha r
 | _::r=>qha r
@[reducible] def fsts {α:Type}:List (Ty×α)->List Ty
 | []=>[]
 | (t,_)::r=>t::fsts r
inductive CK where
 | x | b | h | l
 deriving DecidableEq
inductive GK where
 | x
 | g (n:Nat)
 | f (fid:FuncId) (n:Nat)
 | n
structure Wir where
 args:List CK
 boxes:List (List CK)
 nres:Nat
 nb:Option Nat
 ga:List GK:=[]
 gr:List GK:=[]
 np:Nat:=0
structure Ctr where
 ps:List (Ty×PM)
 rs:List (Ty×Bool)
 T:Type
 F:HL (fsts ps)->Option T
 enc:T->HL (qha ps)×HL (fsts rs)
 wi:Option Wir:=none
def qlJ:List (Ty×PM)->Bool
 | []=>true
 | (.sl e,.imm)::r=>qlJ r
 | (.sl e,_)::r=>e.flat&&qlJ r
 | _::r=>qlJ r
def qn4:List (Ty×Bool)->Bool
 | []=>true
 | (.sl e,true)::r=>e.flat&&qn4 r
 | _::r=>qn4 r
def immP:List (Ty×PM)->Bool
 | []=>true
 | (_,.imm)::r=>immP r
 | _=>false
def Ctr.bare (c:Ctr):Bool:=match c.wi with | none=>true | some wi=>wi.boxes.isEmpty&&wi.nb.isNone
def Ctr.flat (c:Ctr):Bool:=qlJ c.ps&&(qn4 c.rs || (immP c.ps&&c.bare))
abbrev Env:=FuncId->Option Ctr
def pl:Nat->Nat->Nat
 | 0,n=>n
 | m+1,n=>m+1+n
structure Eff where
 v:Option PV
 hw:List (Nat×Ob)
def shlV (k:IntKind) (x y:Int):Int:=k.wrap (x*2 ^ min y.toNat k.bits)
def shrV (k:IntKind) (x y:Int):Int:=x.fdiv (2 ^ min y.toNat k.bits)
def mx (x y:Int):Int:=if y>x then y else x
def mn (x y:Int):Int:=if y<x then y else x
def qhd:List PV->List PV->Option Bool
 | [],[]=>some true
 | .val (.int k) a::r,.val (.int k') b::r' =>
  if k=k' then (match qhd r r' with | some t=>some (decide (a=b)&&t) | none=>none) else none
 | _,_=>none
def qyM (h:Hp) (e:Ty) (k off:Nat) (len:Option Nat):Option (List e.den) :=
 match h k with
 | some (.rows t xs _)=>(match cstl (t':=e) xs with | some ys=>some (win ys off len) | none=>none)
 | _=>none
def qoB (h:Hp) (e:Ty):PV->Option (List e.den)
 | .nil=>some []
 | .osl k off len=>qyM h e k off len
 | .val (.sl t) xs=>cstl (t':=e) xs
 | _=>none
def Ty.dq:(t:Ty)->DecidableEq t.den
 | .int _=>(inferInstance:DecidableEq Int)
 | .bool=>(inferInstance:DecidableEq Bool)
 | .str=>(inferInstance:DecidableEq ByteArray)
 | .unit=>(inferInstance:DecidableEq Unit)
 | .pair a b=>@instDecidableEqProd _ _ a.dq b.dq
 | .sl e=>@instDecidableEqList _ e.dq
 | .os e=>@Option.instDecidableEq _ (@instDecidableEqList _ e.dq)
 | .op l=>@Option.instDecidableEq _ l.dq
def qvU (t:Ty) (xs ys:List t.den):Bool:=@decide (xs=ys) (@instDecidableEqList _ t.dq xs ys)
theorem qxy {t:Ty} {xs ys:List t.den} (h:qvU t xs ys=true):xs=ys:=@of_decide_eq_true _ (@instDecidableEqList _ t.dq xs ys) h
theorem qug {t:Ty} (xs:List t.den):qvU t xs xs=true:=@decide_eq_true _ (@instDecidableEqList _ t.dq xs xs) rfl
def lenOf (h:Hp):PV->Option Int
 | .val (.sl _) xs=>some (xs.length:Int)
 | .nil=>some 0
 | .osl k off none=>(match h k with | some (.rows _ xs _)=>some ((xs.drop off).length:Int) | _=>none)
 | .osl k _ (some n)=>(match h k with | some (.rows _ _ _)=>some (n:Int) | _=>none)
 | _=>none
def qnE (tb:Tb) (T:TypeId) (f:Nat):Option (Nat×TypeId) :=
 match get tb T with
 | some (.stc _ fs _)=>(match fs[f]? with
  | some x=>bif (match tb.ty x.2 with | some t=>Nat.blt 0 t.size | none=>false) then some x else none
  | none=>none)
 | _=>none
def setCells (l:List PV) (off:Nat) (v:List PV):List PV:=l.take off++v++l.drop (off+v.length)
def qca:List PV->Bool
 | []=>true
 | .agg _::_=>false
 | .tup _::_=>false
 | .junk::_=>false
 | .clo _ _::_=>false
 | .fx _::_=>false
 | _::r=>qca r
def qnp:List PV->Bool
 | []=>true
 | .agg _::_=>false
 | .tup _::_=>false
 | .junk::_=>false
 | .clo _ _::_=>false
 | _::r=>qnp r
def qoc (t:Ty):List PV:=(t.split t.zero).map fun v=>match v with | .val (.sl _) _=>.nil | .val (.os _) _=>.nil | .val (.op _) _=>.nilp | v=>v
def qnK (tb:Tb) (fs:List (Nat×TypeId)) (l:List PV):List (Nat×PV)->Option (List PV)
 | []=>some l
 | (f,v)::r =>
  match fs[f]? with
  | some (off,T') =>
   (match tb.ty T' with
   | some t'=>bif Nat.beq v.cells.length t'.size&&qca v.cells&&Nat.ble (off+t'.size) l.length then qnK tb fs (setCells l off v.cells) r else none
   | none=>none)
  | none=>none
def qoq (h:Hp) (e:Ty) (xs:List e.den):List (Nat×PV)->Option (List e.den)
 | []=>some xs
 | (i,v)::r =>
  match decA h e v.cells with
  | some y=>bif qca v.cells&&Nat.blt i xs.length then qoq h e (xs.set i y) r else none
  | none=>none
def qev:List (Nat×PV)->List Nat
 | []=>[]
 | (_,v)::r=>qag v.cells++qev r
def over {α:Type} (xs:List α) (off:Nat) (ys:List α):List α:=xs.take off++ys++xs.drop (off+ys.length)
def bnd:Option PV->Option (Option Int)
 | none=>some none
 | some (.val (.int _) n)=>some (some n)
 | _=>none
def fits (t:Ty):PV->Bool
 | .agg _=>t.isAgg
 | _=>!t.isAgg
def q0q (h:Hp):(ps:List (Ty×PM))->List PV->List Nat->List Nat->Option (HL (fsts ps)×List (Nat×Ob))
 | [],[],_,_=>some ((),[])
 | (t,.imm)::ps,v::vs,used,seen =>
  bif anyN (qag v.cells) used || !fits t v then none else
  (match decA h t v.cells with
  | some x=>(match q0q h ps vs used (qag v.cells++seen) with | some (xs,w)=>some ((x,xs),frzW h (qag v.cells)++w) | none=>none)
  | none=>none)
 | (.sl e,.own)::ps,.nil::vs,used,seen =>
  (match q0q h ps vs used seen with | some (xs,w)=>some (([],xs),w) | none=>none)
 | (.sl e,.own)::ps,.osl k 0 len::vs,used,seen =>
  bif memN k used || memN k seen then none else
  (match h k with
  | some (.rows t xs .own) =>
   (match cstl (t':=e) xs with
   | some ys=>(match q0q h ps vs (k::used) seen with | some (zs,w)=>some ((win ys 0 len,zs),(k,.gone)::w) | none=>none)
   | none=>none)
  | _=>none)
 | (.sl e,.lent)::ps,.osl k off len::vs,used,seen =>
  bif memN k used || memN k seen then none else
  (match h k with
  | some (.rows t xs .frz)=>none
  | some (.rows t xs _) =>
   (match cstl (t':=e) xs with
   | some ys=>(match q0q h ps vs (k::used) seen with | some (zs,w)=>some ((win ys off len,zs),w) | none=>none)
   | none=>none)
  | _=>none)
 | _,_,_,_=>none
def qaB (h:Hp):(ps:List (Ty×PM))->List PV->HL (qha ps)->Option (List (Nat×Ob))
 | [],[],_=>some []
 | (.sl e,.lent)::ps,.osl k off len::vs,(ys,r) =>
  (match h k with
  | some (.rows t xs m) =>
   (match cstl (t':=t) ys with
   | some zs=>(match qaB h ps vs r with | some w=>some ((k,.rows t (over xs off zs) m)::w) | none=>none)
   | none=>none)
  | _=>none)
 | (_,.imm)::ps,_::vs,r=>qaB h ps vs r
 | (_,.own)::ps,_::vs,r=>qaB h ps vs r
 | _,_,_=>none
def nOwn:List (Ty×Bool)->Nat
 | []=>0
 | (_,true)::r=>nOwn r+1
 | (_,false)::r=>nOwn r
def qaU (h:Hp):(rs:List (Ty×Bool))->HL (fsts rs)->Nat->Option (List PV×List (Nat×Ob))
 | [],_,_=>some ([],[])
 | (.sl e,true)::rs,(xs,r),k =>
  (match h k with
  | none=>(match qaU h rs r (k+1) with | some (l,w)=>some (.osl k 0 none::l,(k,.rows e xs .own)::w) | none=>none)
  | some _=>none)
 | (t,false)::rs,(x,r),k =>
  (match qaU h rs r k with | some (l,w)=>some (toPV t x::l,w) | none=>none)
 | _,_,_=>none
def qng (ps:Array (Nat×Operand)) (l:List PV):List (Nat×PV):=List.zipWith (fun p v=>(p.1,v)) ps.toList l
section
variable {R:Type}
def binI (op:BinOp) (k:IntKind) (x y:Int) (K:PV->Option R):Option R :=
 match op with
 | .add=>K (.val (.int k) (k.wrap (x+y)))
 | .sub=>K (.val (.int k) (k.wrap (x-y)))
 | .mul=>K (.val (.int k) (k.wrap (x*y)))
 | .quo=>bif decide (y=0) then none else K (.val (.int k) (k.wrap (x.tdiv y)))
 | .rem=>bif decide (y=0) then none else K (.val (.int k) (x.tmod y))
 | .and=>K (.val (.int k) (k.wrap (BitVec.ofInt k.bits x &&& BitVec.ofInt k.bits y).toNat))
 | .or=>K (.val (.int k) (k.wrap (BitVec.ofInt k.bits x ||| BitVec.ofInt k.bits y).toNat))
 | .xor=>K (.val (.int k) (k.wrap (BitVec.ofInt k.bits x ^^^ BitVec.ofInt k.bits y).toNat))
 | .eql=>K (.val .bool (decide (x=y)))
 | .neq=>K (.val .bool (!decide (x=y)))
 | .lss=>K (.val .bool (decide (x<y)))
 | .leq=>K (.val .bool (decide (x<=y)))
 | .gtr=>K (.val .bool (decide (x>y)))
 | .geq=>K (.val .bool (decide (x>=y)))
 | _=>none
def qv0 (tb:Tb) (T:TypeId) (op:BinOp) (a b:PV) (K:PV->Option R):Option R :=
 match a,b with
 | .val (.int k) x,.val (.int k') y =>
  match op with
  | .shl=>bif decide (y<0) then none else K (.val (.int k) (shlV k x y))
  | .shr=>bif decide (y<0) then none else K (.val (.int k) (shrV k x y))
  | op=>if k=k' then binI op k x y K else none
 | .val .bool x,.val .bool y =>
  (match get tb T with
  | some (.sc .bool) =>
   match op with
   | .eql=>K (.val .bool (x == y))
   | .neq=>K (.val .bool (!(x == y)))
   | _=>none
  | _=>none)
 | .agg l,.agg l' =>
  (match get tb T with
  | some (.stc _ fs true) =>
   bif Nat.beq l.length fs.length then
    match op with
    | .eql=>(match qhd l l' with | some t=>K (.val .bool t) | none=>none)
    | .neq=>(match qhd l l' with | some t=>K (.val .bool (!t)) | none=>none)
    | _=>none
   else none
  | _=>none)
 | _,_=>none
def qzr (op:UnOp) (a:PV) (K:PV->Option R):Option R :=
 match op,a with
 | .not,.val .bool b=>K (.val .bool (!b))
 | .neg,.val (.int k) n=>K (.val (.int k) (k.wrap (0-n)))
 | _,_=>none
def qlM (tb:Tb) (src dst:TypeId) (a:PV) (K:PV->Option R):Option R :=
 match get tb dst,get tb src,a with
 | some (.sc (.int k)),some (.sc (.int _)),.val (.int _) n=>K (.val (.int k) (k.wrap n))
 | _,_,_=>none
def quP (h:Hp) (k:Nat):Bool :=
 match h k with
 | some (.rows _ _ _)=>true
 | some (.box _)=>true
 | _=>false
def qjl (tb:Tb) (h:Hp) (T:TypeId) (f:Nat) (a:PV) (K:PV->Option R):Option R :=
 match qnE tb T f,a with
 | some (off,_),.ptr k i o=>bif quP h k then K (.ptr k i (o+off)) else none
 | some (off,_),.iptr t x o=>K (.iptr t x (o+off))
 | _,_=>none
def qpB (tb:Tb) (T:TypeId) (f:Nat) (a:PV) (K:PV->Option R):Option R :=
 match qnE tb T f,a with
 | some (off,T'),.agg l =>
  match get tb T' with
  | some (.stc t _ _)=>bif Nat.ble (off+t.size) l.length then K (.agg ((l.drop off).take t.size)) else none
  | some (.arr _ _)=>none
  | some _=>(match l[off]? with | some v=>K v | none=>none)
  | none=>none
 | _,_=>none
def qjk (h:Hp) (t:Ty) (a i:PV) (K:PV->Option R):Option R :=
 match a,i with
 | .val (.sl e) xs,.val (.int _) n =>
  if e.size=t.size then bif decide (0<=n) then (xs[n.toNat]?).bind fun x=>K (.iptr e x 0) else none else none
 | .osl k off none,.val (.int _) n =>
  (match h k with
  | some (.rows e xs _)=>if e.size=t.size then bif decide (0<=n)&&decide (n<((xs.drop off).length:Int)) then K (.ptr k (pl off n.toNat) 0) else none else none
  | _=>none)
 | .osl k off (some m),.val (.int _) n =>
  (match h k with
  | some (.rows e _ _)=>if e.size=t.size then bif decide (0<=n)&&decide (n<(m:Int)) then K (.ptr k (pl off n.toNat) 0) else none else none
  | _=>none)
 | _,_=>none
def qkd (tb:Tb) (h:Hp) (T:TypeId) (a:PV) (K:PV->Option R):Option R :=
 match a with
 | .iptr t x off =>
  (match tb.ty T with
  | some t'=>(match t'.getAt t x off with | some y=>K (toPV t' y) | none=>none)
  | none=>none)
 | .ptr k i off =>
  match h k with
  | some (.rows t xs _) =>
   (match tb.ty T with
   | some t'=>(xs[i]?).bind fun x=>(match t'.getAt t x off with | some y=>K (toPV t' y) | none=>none)
   | none=>none)
  | some (.box l) =>
   bif Nat.beq i 0 then
    (match get tb T with
    | some (.stc t _ _)=>(bif Nat.ble (off+t.size) l.length then K (.agg (((l.drop off).take t.size).map PV.unfx)) else none)
    | some (.arr _ _)=>none
    | some _=>(match l[off]? with | some v=>K v.unfx | none=>none)
    | none=>none)
   else none
  | _=>none
 | _=>none
def qiY {R:Type}:(t:Ty)->t.den->Nat->(List PV->List (Nat×Ob)->Nat->t.den->Option R)->Option R
 | .pair a b,x,q,K=>qiY a x.1 q fun c1 w1 q1 r1=>qiY b x.2 q1 fun c2 w2 q2 r2=>K (c1++c2) (w1++w2) q2 (r1,r2)
 | .unit,_,q,K=>K [] [] q ()
 | .os e,x,q,K=>Option.bind x fun xs=>K [.osl q 0 none] [(q,.rows e xs .own)] (q+1) none
 | .op l,x,q,K=>Option.bind x fun y=>qiY l y (q+1) fun c w q' _=>K [.ptr q 0 0] ((q,.box c)::w) q' none
 | .int k,x,q,K=>K [.val (.int k) x] [] q x
 | .bool,x,q,K=>K [.val .bool x] [] q x
 | .str,x,q,K=>K [.val .str x] [] q x
 | .sl e,x,q,K=>K [.val (.sl e) x] [] q x
def qvL (h:Hp) (k:Nat):Nat->Bool
 | 0=>true
 | n+1=>(match h k with | none=>qvL h (k+1) n | some _=>false)
def qlK (h:Hp) (d k i:Nat) (t:Ty) (xs:List t.den) (K:Eff->Option R):Option R :=
 (xs[i]?).bind fun x => qiY t x (d * 8 + 4) fun cs w q r =>
  bif Nat.ble q (d*8+8)&&qvL h (d*8+4) (q-(d*8+4))&&t.isAgg then K ⟨some (.agg cs),(k,.rows t (xs.set i r) .own)::w⟩ else none
def qmH (tb:Tb) (h:Hp) (dst:Option Tmp) (T:TypeId) (a:PV) (K:Eff->Option R):Option R :=
 match a with
 | .ptr k i 0 =>
  (match h k with
  | some (.rows t xs .own) =>
   bif t.flat then qkd tb h T a (fun v=>K ⟨some v,[]⟩) else
   (match tb.ty T,dst with
   | some t',some d=>if t'=t then qlK h d k i t xs K else qkd tb h T a (fun v=>K ⟨some v,[]⟩)
   | _,_=>none)
  | _=>qkd tb h T a (fun v=>K ⟨some v,[]⟩))
 | _=>qkd tb h T a (fun v=>K ⟨some v,[]⟩)
def qpy (tb:Tb) (h:Hp) (dst:Option Tmp) (T:TypeId) (a:PV) (K:Eff->Option R):Option R :=
 match a with
 | .vp k i j off =>
  (match h k with
  | some (.rows (.os e) xs .own) =>
   (match tb.ty T with
   | some t'=>(xs[i]?).bind fun x=>Option.bind x fun ys=>(ys[j]?).bind fun y=>(match t'.getAt e y off with | some z=>K ⟨some (toPV t' z),[]⟩ | none=>none)
   | none=>none)
  | _=>none)
 | .ptr k i 0 =>
  (match h k with
  | some (.rows (.os e) xs .own) =>
   (match tb.ty T with
   | some (.sl e') =>
    if e'=e then (xs[i]?).bind fun x =>
     bif Nat.blt e.size 8 then K ⟨some (.vw k i),[]⟩ else
     Option.bind x fun ys =>
      (match dst with
      | some d=>(match h (d*8+4) with | none=>K ⟨some (.osl (d*8+4) 0 none),[(k,.rows (.os e) (xs.set i none) .own),(d*8+4,.rows e ys .own)]⟩ | some _=>none)
      | none=>none)
    else none
   | _=>none)
  | _=>qmH tb h dst T a K)
 | _=>qmH tb h dst T a K
def qsc (h:Hp) (k i:Nat) (K:PV->Option R):Option R :=
 match h k with
 | some (.rows (.os e) xs .own)=>(xs[i]?).bind fun x=>Option.bind x fun ys=>K (.val (.int .i64) (List.length (α:=e.den) ys:Int))
 | _=>none
def qnG (h:Hp) (t:Ty) (a i:PV) (K:PV->Option R):Option R :=
 match a,i with
 | .vw k m,.val (.int _) n =>
  (match h k with
  | some (.rows (.os e) xs .own) =>
   if e=t then (xs[m]?).bind fun x=>Option.bind x fun ys=>bif decide (0<=n)&&decide (n<(List.length (α:=e.den) ys:Int)) then K (.vp k m n.toNat 0) else none else none
  | _=>none)
 | a,i=>qjk h t a i K
def qjF (tb:Tb) (h:Hp) (T:TypeId) (a v:PV) (K:Eff->Option R):Option R :=
 match a with
 | .ptr k i off =>
  match h k with
  | some (.rows t xs .frz)=>none
  | some (.rows t xs m) =>
   (match tb.ty T with
   | some t' =>
    (match decA h t' v.cells with
    | some y =>
     bif t.flat then (bif memN k (qag v.cells) || !qca v.cells then none else
     (xs[i]?).bind fun x =>
      (match t'.setAt y t x off with
      | some z=>K ⟨none,(k,.rows t (xs.set i z) m)::frzW h (qag v.cells)⟩
      | none=>none)) else none
    | none=>none)
   | none=>none)
  | some (.box l) =>
   bif Nat.beq i 0 then
    (match tb.ty T with
    | some t =>
     bif Nat.beq v.cells.length t.size&&Nat.ble (off+t.size) l.length&&qca v.cells then
      K ⟨none,[(k,.box (setCells l off v.cells))]⟩
     else none
    | none=>none)
   else none
  | _=>none
 | _=>none
def qhW (tb:Tb) (h:Hp) (T:TypeId) (a v:PV) (K:Eff->Option R):Option R :=
 match a with
 | .vp k i j off =>
  (match h k with
  | some (.rows (.os e) xs .own) =>
   (match tb.ty T with
   | some t' =>
    (match decA h t' v.cells with
    | some y =>
     bif memN k (qag v.cells) || !qca v.cells then none else
     (xs[i]?).bind fun x => Option.bind x fun ys => (ys[j]?).bind fun q =>
      (match t'.setAt y e q off with
      | some z=>K ⟨none,(k,.rows (.os e) (xs.set i (some (ys.set j z))) .own)::frzW h (qag v.cells)⟩
      | none=>none)
    | none=>none)
   | none=>none)
  | _=>none)
 | _=>qjF tb h T a v K
def qmI (tb:Tb) (T:TypeId) (parts:List (Nat×PV)) (K:PV->Option R):Option R :=
 match get tb T with
 | some (.stc t fs _) =>
  match qnK tb fs (qoc t) parts with
  | some l=>K (.agg l)
  | none=>none
 | some (.arr _ t) =>
  match parts with
  | [(0,.val t1 x),(1,.val t2 y)]=>if t1=t then if t2=t then K (.agg [.val t1 x,.val t2 y]) else none else none
  | _=>none
 | _=>none
def qpA (tb:Tb) (T:TypeId) (a i:PV) (K:PV->Option R):Option R :=
 match get tb T,a,i with
 | some (.arr _ t),.agg [.val t1 x,.val t2 y],.val (.int _) n =>
  (match cst (t':=t) x,cst (t':=t) y with
  | some x,some y=>bif decide (0<=n) then (([x,y]:List t.den)[n.toNat]?).bind fun z=>K (.val t z) else none
  | _,_=>none)
 | _,_,_=>none
def qj6 (h:Hp) (d:Tmp) (e:Ty) (xs:List e.den) (w:List (Nat×Ob)) (K:Eff->Option R):Option R :=
 match h (d*8) with
 | none=>K ⟨some (.osl (d*8) 0 none),(d*8,.rows e xs .own)::w⟩
 | some _=>none
def qxa (h:Hp) (d:Tmp) (l:List PV) (K:Eff->Option R):Option R :=
 match h (d*8) with
 | none=>K ⟨some (.ptr (d*8) 0 0),[(d*8,.box l)]⟩
 | some _=>none
def qir (tb:Tb) (h:Hp) (dst:Option Tmp) (T:TypeId) (n:Nat) (parts:List (Nat×PV)) (K:Eff->Option R):Option R :=
 match get tb T,dst with
 | some (.slc _ e _),some d =>
  bif e.flat then
   (match qoq h e (List.replicate n e.zero) parts with
   | some xs=>(bif Nat.ble (n*e.size) 16777216&&Nat.blt 0 e.size then qj6 h d e xs (frzW h (qev parts)) K else none)
   | none=>none)
  else
   (match n,parts with
   | 1,[(0,v)] =>
    (match decD h e v.cells with
    | some (x,[],ks)=>bif Nat.ble e.size 16777216&&Nat.blt 0 e.size&&qca v.cells&&qjp ks then qj6 h d e [x] (qhc ks) K else none
    | _=>none)
   | _,_=>none)
 | _,_=>none
def qvY (tb:Tb) (h:Hp) (dst:Option Tmp) (T:TypeId) (n c:PV) (K:Eff->Option R):Option R :=
 match get tb T,dst,n,c with
 | some (.slc _ e by_),some d,.val (.int .i64) n,.val (.int .i64) c =>
  bif e.flat then (bif decide (n=c)&&decide (0<=n)&&decide ((by_:Int)*n<=281474976710656)&&decide (n<=9223372036854775807) then
   qj6 h d e (List.replicate n.toNat e.zero) [] K
  else none) else none
 | _,_,_,_=>none
def qnF (h:Hp) (d:Tmp) (e:Ty) (k:Nat) (rows:List e.den) (b:PV) (K:Eff->Option R):Option R :=
 match b with
 | .osl k2 0 none =>
  (match h k2 with
  | some (.rows _ _ .own)=>qj6 h d e rows [(k2,.gone),(k,.gone)] K
  | _=>none)
 | _=>none
def qfa (tb:Tb) (h:Hp) (dst:Option Tmp) (T:TypeId) (a b:PV) (K:Eff->Option R):Option R :=
 match get tb T,dst with
 | some (.slc _ e by_),some d =>
  (match qoB h e b with
  | some ys =>
   (match a with
   | .nil=>bif e.flat then (bif Nat.ble (ys.length*by_) 140737488355328 then qj6 h d e ys [] K else none) else none
   | .osl k 0 len =>
    (match h k with
    | some (.rows t xs .own) =>
     (match cstl (t':=e) xs with
     | some xs =>
      bif Nat.ble (((win xs 0 len).length+ys.length)*by_) 140737488355328&&!(memN k (qag [b])) then
       (bif e.flat then qj6 h d e (win xs 0 len++ys) [(k,.gone)] K else qnF h d e k (win xs 0 len++ys) b K)
      else none
     | none=>none)
    | _=>none)
   | _=>none)
  | none=>none)
 | _,_=>none
def qlL (h:Hp) (e:Ty) (a b:PV) (K:Eff->Option R):Option R :=
 match a with
 | .osl k off len =>
  (match h k with
  | some (.rows t xs .frz)=>none
  | some (.rows t xs m) =>
   (match cstl (t':=e) xs with
   | some xs =>
    (match qoB h e b with
    | some ys=>bif e.flat then K ⟨some .junk,[(k,.rows e (over xs off (ys.take (win xs off len).length)) m)]⟩ else none
    | none=>none)
   | none=>none)
  | _=>none)
 | _=>none
def qmG (h:Hp) (t:Ty) (a:PV) (lo hi mx:Option PV) (K:PV->Option R):Option R :=
 match bnd lo,bnd hi,bnd mx,a with
 | some l,some none,some none,.osl k off len =>
  (match lenOf h (.osl k off len) with
  | some n =>
   (match h k with
   | some (.rows t' _ _)=>if t'=t then bif decide (0<=l.getD 0)&&decide (l.getD 0<=n) then K (.osl k (pl off (l.getD 0).toNat) (match len with | none=>none | some _=>some (n-l.getD 0).toNat)) else none else none
   | _=>none)
  | none=>none)
 | some l,some (some u),some m,.osl k off len =>
  (match lenOf h (.osl k off len) with
  | some n =>
   (match h k with
   | some (.rows t' _ _)=>if t'=t then bif decide (0<=l.getD 0)&&decide (l.getD 0<=u)&&decide (u<=m.getD u)&&decide (m.getD u<=n) then K (.osl k (pl off (l.getD 0).toNat) (some (u-l.getD 0).toNat)) else none else none
   | _=>none)
  | none=>none)
 | some none,some (some u),some none,.val (.sl e) xs =>
  if e=t then bif decide (0<=u)&&decide (u<=(xs.length:Int)) then K (.val (.sl e) (xs.take u.toNat)) else none else none
 | some none,some (some u),some (some m),.val (.sl e) xs =>
  if e=t then bif decide (0<=u)&&decide (u<=m)&&decide (m<=(xs.length:Int)) then K (.val (.sl e) (xs.take u.toNat)) else none else none
 | some (some l),some none,some none,.val (.sl e) xs =>
  if e=t then bif decide (0<=l)&&decide (l<=(xs.length:Int)) then K (.val (.sl e) (xs.drop l.toNat)) else none else none
 | some (some l),some (some u),some none,.val (.sl e) xs =>
  if e=t then bif decide (0<=l)&&decide (l<=u)&&decide (u<=(xs.length:Int)) then K (.val (.sl e) ((xs.take u.toNat).drop l.toNat)) else none else none
 | _,_,_,_=>none
def qgk (h:Hp) (dst:Option Tmp) (c:Ctr) (args:List PV) (K:Eff->Option R):Option R :=
 match dst with
 | some d =>
  (match q0q h c.ps args [] [] with
  | some (x,w1) =>
   (c.F x).bind fun r =>
    (match qaB h c.ps args (c.enc r).1 with
    | some w2 =>
     (match qaU h c.rs (c.enc r).2 (d*8) with
     | some ([v],w3)=>K ⟨some v,w3++w2++w1⟩
     | some (l,w3)=>bif Nat.ble (nOwn c.rs) 8 then K ⟨some (.tup l),w3++w2++w1⟩ else none
     | none=>none)
    | none=>none)
  | none=>none)
 | none=>none
def unpC:List CK->List PV->Option (List PV×List Nat)
 | [],[]=>some ([],[])
 | .x::cs,v::vs=>(match unpC cs vs with | some (a,b)=>some (v::a,b) | none=>none)
 | .b::cs,.ptr k 0 0::vs=>(match unpC cs vs with | some (a,b)=>some (a,k::b) | none=>none)
 | .h::cs,_::vs=>unpC cs vs
 | .l::cs,v::vs=>(match unpC cs vs with | some (a,b)=>some (v.unfx::a,b) | none=>none)
 | _,_=>none
def unpB (h:Hp):List (List CK)->List Nat->Option (List PV×List Nat)
 | [],[]=>some ([],[])
 | cs::bx,k::q =>
  (match h k with
  | some (.box l) =>
   (match unpC cs l with
   | some (a,b)=>(match unpB h bx (q++b) with | some (a',b')=>some (a++a',k::b') | none=>none)
   | none=>none)
  | _=>none)
 | _,_=>none
def pkC:List CK->List PV->List PV->Option (List PV×List PV)
 | [],[],r=>some ([],r)
 | .x::cs,_::os,v::r=>(match pkC cs os r with | some (a,r')=>some (v::a,r') | none=>none)
 | .b::cs,o::os,r=>(match pkC cs os r with | some (a,r')=>some (o::a,r') | none=>none)
 | .h::cs,o::os,r=>(match pkC cs os r with | some (a,r')=>some (o::a,r') | none=>none)
 | .l::cs,o::os,r=>(match pkC cs os r with | some (a,r')=>some (o::a,r') | none=>none)
 | _,_,_=>none
def pkB (h:Hp):List (List CK)->List Nat->List PV->Option (List (Nat×Ob)×List PV)
 | [],[],r=>some ([],r)
 | cs::bx,k::ks,r =>
  (match h k with
  | some (.box l) =>
   (match pkC cs l r with
   | some (a,r')=>bif qnp a then (match pkB h bx ks r' with | some (w,r'')=>some ((k,.box a)::w,r'') | none=>none) else none
   | none=>none)
  | _=>none)
 | _,_,_=>none
def qk4:List Nat->Bool
 | []=>true
 | n::r=>!memN n r&&qk4 r
def qf2:List GK->List PV->Option (List PV)
 | [],[]=>some []
 | .x::gs,v::vs=>(match qf2 gs vs with | some r=>some (v::r) | none=>none)
 | .g n::gs,.agg l::vs=>bif Nat.beq l.length n then (match qf2 gs vs with | some r=>some (l++r) | none=>none) else none
 | .f fid n::gs,.clo f' l::vs=>bif Nat.beq f' fid&&Nat.beq l.length n then (match qf2 gs vs with | some r=>some (l++r) | none=>none) else none
 | .n::gs,.nilp::vs=>qf2 gs vs
 | _,_=>none
def ungr:List GK->List PV->Option (List PV)
 | [],l=>some l
 | g::gs,l=>qf2 (g::gs) l
def grp1:List GK->List PV->Option (List PV)
 | [],[]=>some []
 | .x::gs,v::vs=>(match grp1 gs vs with | some r=>some (v::r) | none=>none)
 | .g n::gs,l=>bif Nat.ble n l.length&&qca (l.take n) then (match grp1 gs (l.drop n) with | some r=>some (.agg (l.take n)::r) | none=>none) else none
 | .f fid n::gs,l=>bif Nat.ble n l.length&&qca (l.take n) then (match grp1 gs (l.drop n) with | some r=>some (.clo fid (l.take n)::r) | none=>none) else none
 | .n::gs,l=>(match grp1 gs l with | some r=>some (.nilp::r) | none=>none)
 | _,_=>none
def grp:List GK->List PV->Option (List PV)
 | [],l=>some l
 | g::gs,l=>grp1 (g::gs) l
def outP:List PV->PV
 | [v]=>v
 | vs=>.tup vs
def qjG (h:Hp) (d:Nat) (c:Ctr) (wi:Wir) (args:List PV) (K:Eff->Option R):Option R :=
 match (ungr wi.ga args).bind (unpC wi.args) with
 | some (a1,q) =>
  (match unpB h wi.boxes q with
  | some (a2,ks) =>
   bif qk4 ks then
   (match q0q h c.ps (a1++a2) [] [] with
   | some (x,w1) =>
    (c.F x).bind fun r =>
     (match qaB h c.ps (a1++a2) (c.enc r).1 with
     | some w2 =>
      (match qaU h c.rs (c.enc r).2 (d*8) with
      | some (l,w3) =>
       bif Nat.ble (nOwn c.rs) 7 then
       (match pkB h wi.boxes ks (l.drop wi.nres) with
       | some (w4,rest) =>
        (match wi.nb,rest with
        | none,[]=>(match grp wi.gr (l.take wi.nres) with | some vs=>K ⟨some (outP vs),w4++(w3++w2++w1)⟩ | none=>none)
        | some n,rest =>
         (match h (d*8+7) with
         | none =>
          bif Nat.beq rest.length n&&qca rest then
           (match grp wi.gr ((l.take wi.nres).take wi.np++.ptr (d*8+7) 0 0::(l.take wi.nres).drop wi.np) with
           | some vs=>K ⟨some (outP vs),(d*8+7,.box rest)::(w4++(w3++w2++w1))⟩
           | none=>none)
          else none
         | some _=>none)
        | _,_=>none)
       | none=>none)
       else none
      | none=>none)
     | none=>none)
   | none=>none)
   else none
  | none=>none)
 | none=>none
def qjm (h:Hp) (dst:Option Tmp) (c:Ctr) (args:List PV) (K:Eff->Option R):Option R :=
 match c.wi with
 | none=>qgk h dst c args K
 | some wi=>(match dst with | some d=>qjG h d c wi args K | none=>none)
def qtp (g:Nat):List PV->Option (Nat×(Nat×List PV))
 | []=>none
 | .vw k i::r=>some (k,(i,.osl g 0 none::r))
 | v::r=>(match qtp g r with | some (k,(i,r'))=>some (k,(i,v::r')) | none=>none)
def qyf (w:List (Nat×Ob)):List Nat:=w.map (·.1)
def qow (d k:Nat) (e:Ty) (ys:List e.den) (ef:Eff) (K:Eff->Option R):Option R :=
 match get ef.hw (d*8+6) with
 | some (.rows t zs .own) =>
  (match cstl (t':=e) zs with
  | some zs=>bif memN k (qyf ef.hw) then none else bif qvU e zs ys then K ⟨ef.v,(d*8+6,.gone)::ef.hw⟩ else none
  | none=>none)
 | _=>none
def qiq (h:Hp) (dst:Option Tmp) (c:Ctr) (args:List PV) (K:Eff->Option R):Option R :=
 match dst with
 | none=>qjm h dst c args K
 | some d =>
  (match qtp (d*8+6) args with
  | none=>qjm h dst c args K
  | some (k,(i,args')) =>
   (match h k,h (d*8+6),c.wi with
   | some (.rows (.os e) xs .own),none,none =>
    (xs[i]?).bind fun x => Option.bind x fun ys =>
     bif Nat.ble (nOwn c.rs) 6 then
      qgk (fun n=>if n=d*8+6 then some (.rows e ys .own) else if n=k then some (.rows (.os e) (xs.set i none) .own) else h n) dst c args' fun ef=>qow d k e ys ef K
     else none
   | _,_,_=>none))
def qcM:Op->List Operand
 | .move x | .assign x | .box _ x | .load _ x | .nilCheck x | .unOp _ _ x | .convert _ _ x | .fieldAddr _ x _ | .field _ x _ | .extract x _=>[x]
 | .pick c a b=>[c,a,b]
 | .build _ ps | .buildSlice _ _ ps=>ps.toList.map (·.2)
 | .store _ a v | .binOp _ _ a v _ | .makeSlice _ a v | .indexAddr _ a v | .index _ a v=>[a,v]
 | .slice _ x l h m=>x::(l.toList++(h.toList++m.toList))
 | .makeFunc _ first cap=>first.toList++cap.toList
 | .call c=>(match c.callee with | .value f=>f::c.args.toList | _=>c.args.toList)
 | _=>[]
def qrf (l h m:Option Operand) (vs:List PV):Option PV×Option PV×Option PV :=
 match l,h,m,vs with
 | none,none,none,[]=>(none,none,none)
 | some _,none,none,[a]=>(some a,none,none)
 | none,some _,none,[b]=>(none,some b,none)
 | some _,some _,none,[a,b]=>(some a,some b,none)
 | none,some _,some _,[b,c]=>(none,some b,some c)
 | some _,some _,some _,[a,b,c]=>(some a,some b,some c)
 | _,_,_,_=>(some .junk,none,none)
def qvZ (tb:Tb) (h:Hp) (T:TypeId) (op:BinOp) (a b:PV) (K:PV->Option R):Option R :=
 match a,b with
 | .ptr k i off,.nilp =>
  (match get tb T with
  | some (.pt _ _)=>bif quP h k then (match op with | .eql=>K (.val .bool false) | .neq=>K (.val .bool true) | _=>none) else none
  | _=>none)
 | .nilp,.nilp =>
  (match get tb T with
  | some (.pt _ _)=>(match op with | .eql=>K (.val .bool true) | .neq=>K (.val .bool false) | _=>none)
  | _=>none)
 | a,b=>qv0 tb T op a b K
def altF (f:Nat):List PV->Nat
 | .nilp::_=>f+1048576
 | _=>f
def effC (tb:Tb) (env:Env) (op:Op) (dst:Option Tmp) (l:List PV) (h:Hp) (K:Eff->Option R):Option R :=
 let V (v:PV):Option R:=K ⟨some v,[]⟩
 match op,l with
 | .move _,[x]=>V x
 | .assign _,[x]=>V x
 | .pick _ _ _,[c,a,b]=>(match c with | .val .bool v=>cond v (V a) (V b) | _=>none)
 | .binOp op T _ _ _,[x,y]=>qvZ tb h T op x y V
 | .unOp op _ _,[x]=>qzr op x V
 | .convert src dst _,[x]=>qlM tb src dst x V
 | .fieldAddr T _ f,[x]=>qjl tb h T f x V
 | .field T _ f,[x]=>qpB tb T f x V
 | .indexAddr T _ _,[x,i]=>(match get tb T with | some (.slc _ t _)=>qnG h t x i V | _=>none)
 | .index T _ _,[x,i]=>qpA tb T x i V
 | .load T _,[x]=>qpy tb h dst T x K
 | .nilCheck _,[x]=>(match x with | .ptr k i off=>(bif quP h k then V (.ptr k i off) else none) | .iptr t y off=>V (.iptr t y off) | _=>none)
 | .extract _ i,[x]=>(match x with | .tup l=>(match l[i]? with | some v=>V v | none=>none) | _=>none)
 | .makeFunc fn first _,l=>(match fn with | .func f=>bif Nat.beq first.size 0&&qca l then V (.clo f l) else none | _=>none)
 | .build T ps,l=>qmI tb T (qng ps l) V
 | .buildSlice T n ps,l=>qir tb h dst T n (qng ps l) K
 | .box T _,[x] =>
  (match dst,tb.ty T with
  | some d,some t=>bif Nat.beq x.cells.length t.size&&qca x.cells then qxa h d x.cells K else none
  | _,_=>none)
 | .alloc T,[] =>
  (match dst,tb.ty T with
  | some d,some t=>qxa h d (qoc t) K
  | _,_=>none)
 | .store T _ _,[a,v]=>(match dst with | none=>qhW tb h T a v K | some _=>none)
 | .makeSlice T _ _,[n,c]=>qvY tb h dst T n c K
 | .slice T _ lo hi m,x::vs =>
  (match get tb T with
  | some (.slc _ t _)=>qmG h t x (qrf lo hi m vs).1 (qrf lo hi m vs).2.1 (qrf lo hi m vs).2.2 V
  | _=>none)
 | .call c,l =>
  (match c.callee with
  | .builtin .len=>(match l with | [.vw k i]=>(match c.argTypes.toList with | [T]=>(match get tb T with | some (.slc _ _ _)=>qsc h k i V | _=>none) | _=>none) | [x]=>(match c.argTypes.toList with | [T]=>(match get tb T,lenOf h x with | some (.slc _ _ _),some n=>V (.val (.int .i64) n) | _,_=>none) | _=>none) | _=>none)
  | .builtin .append =>
   (match l,c.argTypes.toList with
   | [a,b],[T,T']=>bif Nat.beq T T' then qfa tb h dst T a b K else none
   | _,_=>none)
  | .builtin .copy =>
   (match l,c.argTypes.toList with
   | [a,b],[T,T']=>bif Nat.beq T T' then (match get tb T with | some (.slc _ t _)=>qlL h t a b K | _=>none) else none
   | _,_=>none)
  | .builtin .max=>(match l with | [.val (.int k) x,.val (.int k') y]=>if k=k' then V (.val (.int k) (mx x y)) else none | _=>none)
  | .builtin .min=>(match l with | [.val (.int k) x,.val (.int k') y]=>if k=k' then V (.val (.int k) (mn x y)) else none | _=>none)
  | .value _ =>
   (match l with
   | .clo f l'::args =>
    bif Nat.ble f 1048575 then (match env (altF f args) with
    | some ct=>qiq h dst ct (args++l') K
    | none=>none) else none
   | _=>none)
  | _=>none)
 | _,_=>none
end
def qg5:PV->List Nat
 | .osl k _ _=>[k]
 | .ptr k _ _=>[k]
 | .fx k=>[k]
 | .vw k _=>[k]
 | .vp k _ _ _=>[k]
 | _=>[]
def qsW:PV->List Nat
 | .agg l=>l.flatMap qg5
 | .clo _ l=>l.flatMap qg5
 | v=>qg5 v
def qr3:PV->List Nat
 | .tup l=>l.flatMap qsW
 | v=>qsW v
def rkOf (dst:Option Tmp) (l:List PV):List Nat :=
 l.flatMap qr3++(match dst with | some d=>[d*8,d*8+1,d*8+2,d*8+3,d*8+4,d*8+5,d*8+6,d*8+7] | none=>[])
def boxK (h:List (Nat×Ob)):Nat->List PV->List Nat
 | 0,_=>[]
 | n+1,l=>l.flatMap fun v =>
  match v with
  | .ptr k _ _=>(match get h k with | some (.box c)=>c.flatMap qg5++boxK h n c | _=>[])
  | _=>[]
def qAi:PV->List PV
 | .agg l=>l
 | .clo _ l=>l
 | v=>[v]
def qwX (h:List (Nat×Ob)) (op:Op) (dst:Option Tmp) (l:List PV):List Nat :=
 match op with
 | .call _=>boxK h 3 (l.flatMap qAi)++rkOf dst l
 | .buildSlice _ _ _=>boxK h 3 (l.flatMap qAi)++rkOf dst l
 | .move _=>rkOf dst []
 | .assign _=>rkOf dst []
 | _=>rkOf dst l
def only (ks:List Nat) (h:List (Nat×Ob)):Hp:=fun k=>bif memN k ks then get h k else none
def qab (w:List (Nat×Ob)):List Nat:=w.map (·.1)
def St.app (s:St) (dst:Option Tmp) (ef:Eff):St :=
 ⟨match dst with | some d=>(d,ef.v.getD .junk)::s.e | none=>s.e,ef.hw++s.h⟩
def qsd (nt:Nat):Option Tmp->Bool
 | none=>true
 | some d=>Nat.blt d nt
abbrev Hist:=List (Nat×List Nat×List Nat)
abbrev Prec:=List (List Nat)
def qz1:List Oper->List Nat->List Nat
 | [],acc=>acc
 | o::r,acc=>qz1 r (acc++[preds acc o.after.toList])
where
 preds (acc:List Nat):List Edge->Nat
  | []=>0
  | e::es=>bif Region.binds .any e then Nat.lor (Nat.lor (Nat.shiftLeft 1 e.on) ((acc[e.on]?).getD 0)) (preds acc es) else preds acc es
def qzz (m:Nat):Nat->List Nat
 | 0=>[]
 | n+1=>bif Nat.beq (Nat.land (Nat.shiftRight m n) 1) 1 then n::qzz m n else qzz m n
def qz2:Nat->List Nat->Prec
 | _,[]=>[]
 | i,m::r=>qzz m i::qz2 (i+1) r
def qsM (ops:List Oper):Prec:=qz2 0 (qz1 ops [])
def qdT (pr:Prec) (i x:Nat):Bool:=memN x ((pr[i]?).getD [])
def qwS (pr:Prec) (i:Nat) (rk:List Nat):Hist->Bool
 | []=>true
 | (x,_,hw)::r=>(match hw with | []=>true | _::_=>qdT pr i x || !(anyN rk hw))&&qwS pr i rk r
def qyb (pr:Option Prec) (i:Nat) (rk:List Nat) (hist:Hist):Bool :=
 match pr with
 | none=>true
 | some pr=>qwS pr i rk hist
def qsA (pr:Prec) (i:Nat) (hw:List Nat):Hist->Bool
 | []=>true
 | (x,rk,_)::r=>(qdT pr i x || !(anyN rk hw))&&qsA pr i hw r
def quK (pr:Option Prec) (i:Nat) (hw:List Nat) (hist:Hist):Bool :=
 match hw with
 | []=>true
 | _::_=>(match pr with | none=>true | some pr=>qsA pr i hw hist)
def qpO:List Operand->List Nat
 | []=>[]
 | .tmp t::r=>t::qpO r
 | _::r=>qpO r
def qs1 (all:List Oper) (o:Oper):List Nat :=
 match o.guard with
 | none=>[]
 | some (j,_)=>(match (all[j]?).bind (·.dst) with | some d=>[d] | none=>[])
def qn2 (all:List Oper) (o:Oper):List Nat:=qpO (qcM o.op)++qs1 all o
def dstL (o:Oper):List Nat:=match o.dst with | some d=>[d] | none=>[]
def qoz (all:List Oper) (x y:Oper):Bool :=
 !(anyN (dstL x) (qn2 all y))&&!(anyN (dstL y) (qn2 all x))&&!(anyN (dstL x) (dstL y))
def qpR (all:List Oper) (pr:Prec):Bool :=
 go 0 all []
where
 go:Nat->List Oper->List (Nat×Oper)->Bool
  | _,[],_=>true
  | i,o::r,done =>
   (o.after.toList.all fun e=>!Region.binds .any e || Nat.blt e.on i) &&
   (((pr[i]?).getD []).all fun x=>o.after.toList.any fun e=>Region.binds .any e&&(Nat.beq e.on x || qdT pr e.on x)) &&
   done.all (fun d=>qdT pr i d.1 || qoz all d.2 o)&&go (i+1) r (done++[(i,o)])
section
variable {R:Type}
def qvE (all:List Oper) (nt:Nat) (o:Oper) (s:St) (yes no:St->Option R):Option R :=
 match o.guard with
 | none=>yes s
 | some (j,want) =>
  match (all[j]?).bind (·.dst) with
  | some d =>
   (match get s.e d with
   | some (.val .bool b) =>
    cond b (cond want (yes ⟨(d,.val .bool true)::s.e,s.h⟩) (no ⟨(d,.val .bool true)::s.e,s.h⟩))
     (cond want (no ⟨(d,.val .bool false)::s.e,s.h⟩) (yes ⟨(d,.val .bool false)::s.e,s.h⟩))
   | some (.tup [])=>no s
   | _=>none)
  | none=>none
def qlX (tb:Tb) (env:Env) (nt:Nat) (all:List Oper) (pr:Option Prec):Nat->List Oper->Hist->St->(St->Option R)->Option R
 | _,[],_,s,K=>K s
 | i,o::r,hist,s,K =>
  bif qsd nt o.dst then
   qvE all nt o s
    (fun s =>
     let l:=(qcM o.op).map s.pv
     let rk:=qwX s.h o.op o.dst l
     bif qyb pr i rk hist then
      effC tb env o.op o.dst l (only rk s.h) fun ef =>
       bif quK pr i (qab ef.hw) hist&&subN (qab ef.hw) rk then
        qlX tb env nt all pr (i+1) r ((i,rk,qab ef.hw)::hist) (s.app o.dst ef) K
       else none
     else none)
    (fun s=>qlX tb env nt all pr (i+1) r hist (s.app o.dst ⟨some (.tup []),[]⟩) K)
  else none
end
inductive SH where
 | v (t:Ty)
 | o (e:Ty) (key:Nat)
 | l (e:Ty) (key:Nat)
 | p (k i off:Nat)
 | h
 | f (e:Ty) (key:Nat)
structure SG where
 slots:List (Nat×SH)
 boxes:List (Nat×List SH)
 als:List (Nat×(Nat×Nat)):=[]
 cls:List (Nat×(FuncId×List Nat)):=[]
 rn:List (Nat×Nat):=[]
@[reducible] def tysS:List (Nat×SH)->List Ty
 | []=>[]
 | (_,.v t)::r=>t::tysS r
 | (_,.o e _)::r=>.sl e::tysS r
 | (_,.l e _)::r=>.sl e::tysS r
 | (_,.p _ _ _)::r=>tysS r
 | (_,.h)::r=>tysS r
 | (_,.f e _)::r=>.sl e::tysS r
@[reducible] def tysL:List SH->List Ty
 | []=>[]
 | .v t::r=>t::tysL r
 | .o e _::r=>.sl e::tysL r
 | .l e _::r=>.sl e::tysL r
 | .p _ _ _::r=>tysL r
 | .h::r=>tysL r
 | .f e _::r=>.sl e::tysL r
def BL:List (Nat×List SH)->Type
 | []=>Unit
 | (_,l)::r=>HL (tysL l)×BL r
@[reducible] def SG.V (g:SG):Type:=HL (tysS g.slots)×BL g.boxes
def mkSl:(l:List (Nat×SH))->HL (tysS l)->List (Nat×PV)×List (Nat×Ob)
 | [],_=>([],[])
 | (n,.v t)::r,(x,z)=>let q:=mkSl r z;((n,toPV t x)::q.1,q.2)
 | (n,.o e key)::r,(x,z)=>let q:=mkSl r z;((n,.osl key 0 none)::q.1,(key,.rows e x .own)::q.2)
 | (n,.l e key)::r,(x,z)=>let q:=mkSl r z;((n,.osl key 0 none)::q.1,(key,.rows e x .lent)::q.2)
 | (n,.p k i off)::r,z=>let q:=mkSl r z;((n,.ptr k i off)::q.1,q.2)
 | (n,.h)::r,z=>let q:=mkSl r z;((n,.junk)::q.1,q.2)
 | (n,.f e key)::r,(x,z)=>let q:=mkSl r z;((n,.junk)::q.1,(key,.rows e x .lent)::q.2)
def mkL:(l:List SH)->HL (tysL l)->List PV×List (Nat×Ob)
 | [],_=>([],[])
 | .v t::r,(x,z)=>let q:=mkL r z;(toPV t x::q.1,q.2)
 | .o e key::r,(x,z)=>let q:=mkL r z;(.osl key 0 none::q.1,(key,.rows e x .own)::q.2)
 | .l e key::r,(x,z)=>let q:=mkL r z;(.osl key 0 none::q.1,(key,.rows e x .lent)::q.2)
 | .p k i off::r,z=>let q:=mkL r z;(.ptr k i off::q.1,q.2)
 | .h::r,z=>let q:=mkL r z;(.junk::q.1,q.2)
 | .f e key::r,(x,z)=>let q:=mkL r z;(.fx key::q.1,(key,.rows e x .lent)::q.2)
def mkB:(l:List (Nat×List SH))->BL l->List (Nat×Ob)
 | [],_=>[]
 | (k,l)::r,(x,z)=>let q:=mkL l x;(k,.box q.1)::q.2++mkB r z
def mkS0 (g:SG) (v:g.V):St:=let q:=mkSl g.slots v.1;⟨q.1,q.2++mkB g.boxes v.2⟩
def qox (h:Hp) (K i:Nat):PV :=
 match h K with
 | some (.box l)=>(l[i]?).getD .junk
 | some (.rows _ _ .lent)=>.osl K 0 none
 | _=>.junk
def alS (h:Hp):List (Nat×(Nat×Nat))->List (Nat×PV)
 | []=>[]
 | (n,(K,i))::r=>(n,qox h K i)::alS h r
def clS:List (Nat×(FuncId×List Nat))->List (Nat×PV)
 | []=>[]
 | (n,(f,ks))::r=>(n,.clo f (ks.map fun k=>.ptr k 0 0))::clS r
def mkS (g:SG) (v:g.V):St:=⟨clS g.cls++(alS (get (mkS0 g v).h) g.als++(mkS0 g v).e),(mkS0 g v).h⟩
def qoU:PV->PV->Bool
 | .osl k 0 none,.osl k' 0 none=>Nat.beq k k'
 | _,_=>false
def alOk (s:St):List (Nat×(Nat×Nat))->Bool
 | []=>true
 | (n,(K,i))::r=>qoU ((get s.e n).getD .junk) (qox (get s.h) K i)&&alOk s r
def qoR (h:Hp) (e:Ty) (used:List Nat×List Nat):PV->Option (List e.den×(List Nat×List Nat))
 | .nil=>some ([],used)
 | .osl k 0 len =>
  bif memN k used.1 || memN k used.2 then none else
  (match h k with
  | some (.rows t xs .own)=>(match cstl (t':=e) xs with | some ys=>some (win ys 0 len,(k::used.1,used.2)) | none=>none)
  | _=>none)
 | _=>none
def qh0 (h:Hp) (e:Ty) (key:Nat) (used:List Nat×List Nat):PV->Option (List e.den)
 | .osl k 0 none =>
  bif memN k used.1 || memN k used.2 || !Nat.beq k key then none else
  (match h key with
  | some (.rows t xs .lent)=>cstl (t':=e) xs
  | _=>none)
 | _=>none
def qm3 (k i off:Nat):PV->Bool
 | .ptr k' i' off'=>Nat.beq k k'&&Nat.beq i i'&&Nat.beq off off'
 | _=>false
def qmz:List Nat->List PV->Bool
 | [],[]=>true
 | k::ks,v::vs=>qm3 k 0 0 v&&qmz ks vs
 | _,_=>false
def qry (f:FuncId) (ks:List Nat):PV->Bool
 | .clo f' l=>Nat.beq f f'&&qmz ks l
 | _=>false
def qxJ (s:St) (bs:List Nat):List (Nat×(FuncId×List Nat))->Bool
 | []=>true
 | (n,(f,ks))::r=>qry f ks ((get s.e n).getD .junk)&&subN ks bs&&qxJ s bs r
def qlP (s:St):(l:List (Nat×SH))->List Nat×List Nat->Option (HL (tysS l)×(List Nat×List Nat))
 | [],used=>some ((),used)
 | (n,.v t)::r,used =>
  let v:=(get s.e n).getD .junk
  bif anyN (qag v.cells) used.1 || !fits t v then none else
  (match decA (get s.h) t v.cells with
  | some x=>(match qlP s r (used.1,qag v.cells++used.2) with | some (z,u)=>some ((x,z),u) | none=>none)
  | none=>none)
 | (n,.o e _)::r,used =>
  (match qoR (get s.h) e used ((get s.e n).getD .junk) with
  | some (x,used)=>(match qlP s r used with | some (z,u)=>some ((x,z),u) | none=>none)
  | none=>none)
 | (n,.l e key)::r,used =>
  (match qh0 (get s.h) e key used ((get s.e n).getD .junk) with
  | some x=>(match qlP s r (key::used.1,used.2) with | some (z,u)=>some ((x,z),u) | none=>none)
  | none=>none)
 | (n,.p k i off)::r,used=>bif qm3 k i off ((get s.e n).getD .junk) then qlP s r used else none
 | (_,.h)::_,_=>none
 | (_,.f _ _)::_,_=>none
def canL (h:Hp):(l:List SH)->List PV->List Nat×List Nat->Option (HL (tysL l)×(List Nat×List Nat))
 | [],[],used=>some ((),used)
 | .v t::r,v::vs,used =>
  bif anyN (qag v.cells) used.1 || !fits t v || t.isAgg then none else
  (match decA h t v.cells with
  | some x=>(match canL h r vs (used.1,qag v.cells++used.2) with | some (z,u)=>some ((x,z),u) | none=>none)
  | none=>none)
 | .o e _::r,v::vs,used =>
  (match qoR h e used v with
  | some (x,used)=>(match canL h r vs used with | some (z,u)=>some ((x,z),u) | none=>none)
  | none=>none)
 | .p k i off::r,v::vs,used=>bif qm3 k i off v then canL h r vs used else none
 | .h::r,.junk::vs,used=>canL h r vs used
 | .f e key::r,v::vs,used =>
  (match qh0 h e key used (match v with | .fx k=>.osl k 0 none | _=>.junk) with
  | some x=>(match canL h r vs (key::used.1,used.2) with | some (z,u)=>some ((x,z),u) | none=>none)
  | none=>none)
 | _,_,_=>none
def canB (h:Hp):(l:List (Nat×List SH))->List Nat×List Nat->Option (BL l×(List Nat×List Nat))
 | [],used=>some ((),used)
 | (k,l)::r,used =>
  (match h k with
  | some (.box c) =>
   (match canL h l c used with
   | some (x,used)=>(match canB h r used with | some (z,u)=>some ((x,z),u) | none=>none)
   | none=>none)
  | _=>none)
def qh2:List (Nat×SH)->List Nat
 | []=>[]
 | (_,.o _ k)::r=>k::qh2 r
 | (_,.l _ k)::r=>k::qh2 r
 | (_,.f _ k)::r=>k::qh2 r
 | _::r=>qh2 r
def qgc:List SH->List Nat
 | []=>[]
 | .o _ k::r=>k::qgc r
 | .l _ k::r=>k::qgc r
 | .f _ k::r=>k::qgc r
 | _::r=>qgc r
def qpG:List (Nat×List SH)->List Nat
 | []=>[]
 | (k,l)::r=>k::qgc l++qpG r
def qit:List (Nat×List SH)->List Nat
 | []=>[]
 | (k,_)::r=>k::qit r
def qqj (bs:List Nat):List (Nat×SH)->Bool
 | []=>true
 | (_,.p k _ _)::r=>memN k bs&&qqj bs r
 | _::r=>qqj bs r
def qnd (bs:List Nat):List SH->Bool
 | []=>true
 | .p k _ _::r=>memN k bs&&qnd bs r
 | _::r=>qnd bs r
def qo8 (bs:List Nat):List (Nat×List SH)->Bool
 | []=>true
 | (_,l)::r=>qnd bs l&&qo8 bs r
def qk5:List Nat->Bool
 | []=>true
 | n::r=>!memN n r&&qk5 r
def SG.ok (g:SG):Bool:=qk5 (qh2 g.slots++qpG g.boxes)&&qqj (qit g.boxes) g.slots&&qo8 (qit g.boxes) g.boxes&&qk5 (g.slots.map (·.1))
def qwe (g:SG) (s:St):Option g.V :=
 bif g.ok then
  (match qlP s g.slots ([],[]) with
  | some (x,used)=>(match canB (get s.h) g.boxes used with | some (y,_)=>some (x,y) | none=>none)
  | none=>none)
 else none
def hasK (K K':Nat) (v:PV):Bool:=memN K (qr3 v) || memN K' (qr3 v)
def renV (K K':Nat) (v:PV):PV:=bif hasK K K' v then (match v with | .ptr k i off=>bif Nat.beq k K' then .ptr K i off else .junk | _=>.junk) else v
def noK (K K':Nat):List (Nat×Ob)->Bool
 | []=>true
 | (_,.box l)::r=>l.all (fun v=>!hasK K K' v)&&noK K K' r
 | _::r=>noK K K' r
def lowK (K:Nat):List (Nat×PV)->Bool
 | []=>false
 | (n,_)::r=>Nat.ble (K+1) ((n+1)*8) || lowK K r
def renK (s:St) (K K':Nat):St :=
 match get s.h K' with
 | some (.box l)=>bif noK K K' s.h&&(lowK K s.e&&(lowK K' s.e&&!Nat.beq K K')) then ⟨s.e.map fun p=>(p.1,renV K K' p.2),(K,.box l)::(K',.gone)::s.h⟩ else s
 | _=>s
def renS:List (Nat×Nat)->St->St
 | [],s=>s
 | (n,K)::r,s=>renS r (match get s.e n with | some (.ptr K' 0 0)=>bif Nat.beq K' K then s else renK s K K' | _=>s)
def qwd (g:SG) (s:St):Option g.V:=bif alOk s g.als&&qxJ s (qit g.boxes) g.cls then qwe g s else none
def qwf (g:SG) (s:St):Option g.V:=qwd g (renS g.rn s)
inductive Ex where
 | normal | exit (n:Nat) | ret
def Ex.same:Ex->Ex->Bool
 | .normal,.normal=>true
 | .exit n,.exit m=>Nat.beq n m
 | .ret,.ret=>true
 | _,_=>false
def OT:List (Ex×SG)->Type
 | []=>Empty
 | [o]=>o.2.V
 | o::os=>o.2.V ⊕ OT os
structure LC where
 inS:SG
 outs:List (Ex×SG)
 F:inS.V->Option (OT outs)
abbrev LH:=Nat->Option LC
section
variable {R:Type}
def outK:(os:List (Ex×SG))->OT os->(Ex->St->Option R)->Option R
 | [],_,_=>none
 | [o],v,K=>K o.1 (mkS o.2 v)
 | o::o'::os,t,K =>
  match (t:o.2.V ⊕ OT (o'::os)) with
  | .inl v=>K o.1 (mkS o.2 v)
  | .inr v=>outK (o'::os) v K
end
def qvS:(os:List (Ex×SG))->Ex->St->Option (OT os)
 | [],_,_=>none
 | [o],x,s=>bif o.1.same x then qwf o.2 s else none
 | o::o'::os,x,s =>
  bif o.1.same x then (match qwf o.2 s with | some v=>some (.inl v) | none=>none)
  else (match qvS (o'::os) x s with | some v=>some (.inr v) | none=>none)
def qew:Code->Nat
 | .region id _ _=>id
 | .seq a b=>bif Nat.beq (qew a) 1000000 then qew b else qew a
 | .cond _ a b=>bif Nat.beq (qew a) 1000000 then qew b else qew a
 | .block _ b=>qew b
 | .loop b=>qew b
 | .scope b=>qew b
 | _=>1000000
def qiB:Code->Nat
 | .loop b=>2*qew b
 | c=>2*qew c+1
section
variable {R:Type}
def cutC (lh:LH) (key:Nat) (s:St) (K:Ex->St->Option R) (other:Option R):Option R :=
 match lh key with
 | some lc=>(match qwf lc.inS s with | some v=>(lc.F v).bind fun t=>outK lc.outs t K | none=>none)
 | none=>other
end
def run {R:Type} (tb:Tb) (env:Env) (nt:Nat) (lh:LH):Code->St->(Ex->St->Option R)->Option R
 | .skip,s,K=>K .normal s
 | .label _,s,K=>K .normal s
 | .region id ops false,s,K=>qlX tb env nt ops.toList none 0 ops.toList [] s (K .normal)
 | .region id ops true,s,K=>bif qpR ops.toList (qsM ops.toList) then qlX tb env nt ops.toList (some (qsM ops.toList)) 0 ops.toList [] s (K .normal) else none
 | .seq a b,s,K=>run tb env nt lh a s fun x s'=>match x with | .normal=>run tb env nt lh b s' K | x=>K x s'
 | .cond c a b,s,K =>
  cutC lh (qiB (.cond c a b)) s K
   (match s.pv c with
   | .val .bool v=>cond v (run tb env nt lh a s K) (run tb env nt lh b s K)
   | _=>none)
 | .block id b,s,K =>
  cutC lh (qiB (.block id b)) s K
   (run tb env nt lh b s fun x s'=>match x with | .exit j=>bif Nat.beq j id then K .normal s' else K (.exit j) s' | x=>K x s')
 | .loop b,s,K=>cutC lh (qiB (.loop b)) s K none
 | .exit id,s,K=>K (.exit id) s
 | .ret,s,K=>K .ret s
 | _,_,_=>none
def lp {V T:Type} (step:(V->Option T)->V->Option T):Nat->V->Option T
 | 0,_=>none
 | n+1,v=>step (lp step n) v
def q10q (tb:Tb) (env:Env) (nt:Nat) (lh:LH) (b:Code) (inS:SG) (outs:List (Ex×SG)) (g:inS.V->Option (OT outs)) (v:inS.V):Option (OT outs) :=
 run tb env nt lh b (mkS inS v) fun x s=>match x with
  | .normal=>(match qwf inS s with | some v=>g v | none=>none)
  | x=>qvS outs x s
def qcS:(ps:List (Ty×PM))->HL (fsts ps)->Nat->List (Nat×PV)×List (Nat×Ob)
 | [],_,_=>([],[])
 | (.sl e,.own)::ps,(x,r),i=>let p:=qcS ps r (i+1);((i,.osl (i*8) 0 none)::p.1,(i*8,.rows e x .own)::p.2)
 | (.sl e,.lent)::ps,(x,r),i=>let p:=qcS ps r (i+1);((i,.osl (i*8) 0 none)::p.1,(i*8,.rows e x .lent)::p.2)
 | (t,_)::ps,(x,r),i=>let p:=qcS ps r (i+1);((i,toPV t x)::p.1,p.2)
def qgi:(ps:List (Ty×PM))->Nat->HL (fsts ps)->Hp->Option (HL (qha ps))
 | [],_,_,_=>some ()
 | (.sl e,.lent)::ps,i,(x,r),h =>
  (match h (i*8) with
  | some (.rows t ys .lent) =>
   (match cstl (t':=e) ys with
   | some y=>bif Nat.beq y.length x.length then (match qgi ps (i+1) r h with | some q=>some (y,q) | none=>none) else none
   | none=>none)
  | _=>none)
 | (.int _,.lent)::_,_,_,_ | (.bool,.lent)::_,_,_,_ | (.str,.lent)::_,_,_,_ | (.unit,.lent)::_,_,_,_ | (.pair _ _,.lent)::_,_,_,_ | (.os _,.lent)::_,_,_,_ | (.op _,.lent)::_,_,_,_=>none
 | (_,.imm)::ps,i,(_,r),h=>qgi ps (i+1) r h
 | (_,.own)::ps,i,(_,r),h=>qgi ps (i+1) r h
def qlk (tb:Tb) (s:St):ResultVar->PV
 | .tmp t=>(get s.e t).getD .junk
 | .cell a T =>
  match get tb T,get s.e a with
  | some (.stc t _ _),some (.ptr k 0 0)=>(match get s.h k with | some (.box l)=>bif Nat.beq l.length t.size then .agg l else .junk | _=>.junk)
  | _,_=>.junk
def ownK:List (Ty×PM)->Nat->List Nat
 | [],_=>[]
 | (_,.own)::ps,i=>i*8::ownK ps (i+1)
 | _::ps,i=>ownK ps (i+1)
def qdo:List (Ty×PM)->Nat->List Nat
 | [],_=>[]
 | (_,.lent)::ps,i=>i*8::qdo ps (i+1)
 | _::ps,i=>qdo ps (i+1)
def qax (h:Hp):(rs:List (Ty×Bool))->List PV->List Nat->Option (HL (fsts rs)×List Nat)
 | [],[],used=>some ((),used)
 | (.sl e,true)::rs,v::vs,used =>
  (match v with
  | .nil=>(match qax h rs vs used with | some (r,u)=>some (([],r),u) | none=>none)
  | .osl k 0 len =>
   bif memN k used then none else
   (match h k with
   | some (.rows t xs .own) =>
    (match cstl (t':=e) xs with
    | some ys=>(match qax h rs vs (k::used) with | some (r,u)=>some ((win ys 0 len,r),u) | none=>none)
    | none=>none)
   | _=>none)
  | _=>none)
 | (t,false)::rs,v::vs,used =>
  bif anyN (qag v.cells) used || !fits t v then none else
  (match decA h t v.cells with
  | some x=>(match qax h rs vs (qag v.cells++used) with | some (r,u)=>some ((x,r),u) | none=>none)
  | none=>none)
 | _,_,_=>none
def finK (tb:Tb) {T:Type} (ps:List (Ty×PM)) (rs:List (Ty×Bool)) (dcd:HL (qha ps)×HL (fsts rs)->T) (results:List ResultVar) (x:HL (fsts ps)) (e:Ex) (s:St):Option T :=
 match e with
 | .exit _=>none
 | _ =>
  (qgi ps 0 x (get s.h)).bind fun a =>
   match qax (get s.h) rs (results.map (qlk tb s)) (qdo ps 0) with
   | some b=>some (dcd (a,b.1))
   | none=>none
def fnF (tb:Tb) (env:Env) (fn:Func) (lh:LH) {T:Type} (ps:List (Ty×PM)) (rs:List (Ty×Bool)) (dcd:HL (qha ps)×HL (fsts rs)->T) (x:HL (fsts ps)):Option T :=
 match fn.body with
 | some c=>run tb env fn.ntmps lh c ⟨(qcS ps x 0).1,(qcS ps x 0).2⟩ (finK tb ps rs dcd fn.results.toList x)
 | none=>none
theorem q6q {α:Type} (m n:Nat) (v:α) (r:List (Nat×α)):get ((m,v)::r) n=if m=n then some v else get r n:=by
 simp only[get];by_cases h:m=n
 · subst h;simp [Nat.beq_refl]
 · have : Nat.beq m n = false := by
    cases hb:Nat.beq m n with
    | false=>rfl
    | true=>exact absurd (Nat.eq_of_beq_eq_true hb) h
   simp [this,h]
theorem q2q {α:Type} (l r:List (Nat×α)) (n:Nat):get (l++r) n=(get l n).or (get r n):=by
 induction l with
 | nil=>simp [get]
 | cons x l ih =>
  obtain⟨m,v⟩:=x;simp only[List.cons_append,q6q,ih];split<;>simp
theorem qim {n:Nat} {l:List Nat}:memN n l=true ↔ n∈l:=by
 induction l with
 | nil=>simp [memN]
 | cons m l ih =>
  simp only[memN,Bool.or_eq_true,ih,List.mem_cons];exact⟨fun h=>h.imp (fun h=>(Nat.eq_of_beq_eq_true h).symm) id,fun h=>h.imp (fun h=>by rw[h];exact Nat.beq_refl m) id⟩
theorem qbW {n:Nat} {l:List Nat}:memN n l=false ↔ n ∉ l:=by
 rw[<- qim];simp
theorem qd8 {l r:List Nat}:anyN l r=false ↔ ∀ n∈l,n ∉ r:=by
 induction l with
 | nil=>simp [anyN]
 | cons m l ih=>simp [anyN,ih,qbW]
theorem qsB {l r:List Nat}:subN l r=true ↔ ∀ n∈l,n∈r:=by
 induction l with
 | nil=>simp [subN]
 | cons m l ih=>simp [subN,ih,qim]
theorem qaT {α:Type} {l:List (Nat×α)} {n:Nat} {v:α} (h:get l n=some v):(n,v)∈l:=by
 induction l with
 | nil=>simp [get] at h
 | cons x l ih =>
  obtain⟨m,u⟩:=x;rw[q6q] at h;split at h
  · rename_i e;subst e;simp at h;subst h;exact List.mem_cons_self
  · exact List.mem_cons_of_mem _ (ih h)
theorem q11q {α:Type} {l:List (Nat×α)} {n:Nat} (h:n ∉ l.map (·.1)):get l n=none:=by
 induction l with
 | nil=>rfl
 | cons x l ih =>
  obtain⟨m,u⟩:=x;simp at h;rw[q6q,if_neg (fun e=>h.1 e.symm)];exact ih (by simpa using h.2)
theorem qra {t t':Ty} {x:t.den} {y:t'.den} (h:cst x=some y):∃ e:t=t',y=e ▸ x:=by
 unfold cst at h;split at h
 · rename_i e;exact⟨e,by simpa using h.symm⟩
 · simp at h
theorem qda {t t':Ty} {x:List t.den} {y:List t'.den} (h:cstl x=some y):∃ e:t=t',y=e ▸ x:=by
 unfold cstl at h;split at h
 · rename_i e;exact⟨e,by simpa using h.symm⟩
 · simp at h
abbrev Foot:=Nat->Prop
abbrev Con:=Nat->Option (Nat×Nat)
def At (w:World) (b o:Nat) (cs:List Value):Prop:=∀ j v,cs[j]?=some v->w.cell? ⟨b,o+j,none⟩=some v
def qdG {α:Type} (C:α->List Value->Prop) (sz:Nat) (w:World) (b o:Nat) (xs:List α):Prop :=
 ∀ i x,xs[i]?=some x->∃ ds,C x ds/\At w b (o+i*sz) ds
def RowA {α:Type} (C:α->List Value->Prop) (sz:Nat) (w:World) (S:Foot) (A:Option Addr) (xs:List α):Prop :=
 xs=[]\/∃ b o,A=some ⟨b,o,none⟩/\S b/\qdG C sz w b o xs
def Cell (w:World) (S:Foot):(t:Ty)->t.den->List Value->Prop
 | .int k,n,cs=>cs=[.int k n]
 | .bool,b,cs=>cs=[.bool b]
 | .str,s,cs=>cs=[.string s]
 | .unit,_,cs=>cs=[]
 | .pair a b,x,cs=>∃ c1 c2,cs=c1++c2/\Cell w S a x.1 c1/\Cell w S b x.2 c2
 | .sl e,xs,cs=>∃ A cap,cs=[.slice A xs.length cap]/\xs.length<=cap/\RowA (Cell w S e) e.size w S A xs
 | .os _,_,cs=>∃ v,cs=[v]/\v.oneCell'=true
 | .op _,_,cs=>∃ v,cs=[v]/\v.oneCell'=true
theorem Cell.length {w:World} {S:Foot} {t:Ty} {x:t.den} {cs:List Value} (h:Cell w S t x cs):cs.length=t.size:=by
 induction t generalizing cs with
 | pair a b iha ihb =>
  obtain⟨c1,c2,rfl,h1,h2⟩:=h;simp [Ty.size,iha h1,ihb h2]
 | sl e ih=>obtain⟨A,cap,rfl,_,_⟩:=h;rfl
 | int k=>cases h;rfl
 | bool=>cases h;rfl
 | str=>cases h;rfl
 | os _ _ | op _ _=>obtain⟨v,rfl,_⟩:=h;rfl
 | unit=>cases h;rfl
theorem Cell.one {w:World} {S:Foot} {t:Ty} {x:t.den} {cs:List Value} (h:Cell w S t x cs):∀ v∈cs,v.oneCell'=true:=by
 induction t generalizing cs with
 | pair a b iha ihb =>
  obtain⟨c1,c2,rfl,h1,h2⟩:=h;intro v hv;rcases List.mem_append.1 hv with hv | hv
  · exact iha h1 v hv
  · exact ihb h2 v hv
 | sl e ih=>obtain⟨A,cap,rfl,_,_⟩:=h;intro v hv;simp at hv;subst hv;rfl
 | int k=>cases h;intro v hv;simp at hv;subst hv;rfl
 | bool=>cases h;intro v hv;simp at hv;subst hv;rfl
 | str=>cases h;intro v hv;simp at hv;subst hv;rfl
 | os _ _ | op _ _=>obtain⟨v,rfl,h1⟩:=h;intro v hv;simp at hv;subst hv;exact h1
 | unit=>cases h;intro v hv;simp at hv
theorem At.mono {w w':World} {b o:Nat} {cs:List Value} (h:At w b o cs) (hb:w'.heap[b]?=w.heap[b]?):At w' b o cs :=
 fun j v hv=>by rw[World.cell?_of_block (a:=⟨b,o+j,none⟩) hb];exact h j v hv
theorem Cell.mono {w w':World} {S S':Foot} (hS:∀ b,S b->S' b) (hw:∀ b,S b->w'.heap[b]?=w.heap[b]?) {t:Ty} {x:t.den} {cs:List Value}
  (h:Cell w S t x cs):Cell w' S' t x cs:=by
 induction t generalizing cs with
 | pair a b iha ihb =>
  obtain⟨c1,c2,rfl,h1,h2⟩:=h;exact⟨c1,c2,rfl,iha h1,ihb h2⟩
 | sl e ih =>
  obtain⟨A,cap,rfl,hc,hr⟩:=h;refine⟨A,cap,rfl,hc,?_⟩;rcases hr with hr | ⟨b,o,hA,hb,hr⟩
  · exact .inl hr
  · refine .inr ⟨b, o, hA, hS b hb, fun i x hx => ?_⟩;obtain⟨ds,h1,h2⟩:=hr i x hx;exact⟨ds,ih h1,h2.mono (hw b hb)⟩
 | int k=>exact h
 | bool=>exact h
 | str | os _ _ | op _ _=>exact h
 | unit=>exact h
theorem qdG.mono {w w':World} {S S':Foot} (hS:∀ b,S b->S' b) (hw:∀ b,S b->w'.heap[b]?=w.heap[b]?) {t:Ty} {b o:Nat} {xs:List t.den}
  (h:qdG (Cell w S t) t.size w b o xs) (hb:w'.heap[b]?=w.heap[b]?):qdG (Cell w' S' t) t.size w' b o xs:=fun i x hx=>by
 obtain⟨ds,h1,h2⟩:=h i x hx;exact⟨ds,h1.mono hS hw,h2.mono hb⟩
def All2 {α J:Type} (R:α->J->Prop):List α->List J->Prop
 | [],[]=>True
 | a::l,b::r=>R a b/\All2 R l r
 | _,_=>False
theorem All2.imp {α J:Type} {R R':α->J->Prop} (h:∀ a b,R a b->R' a b):∀ {l:List α} {r:List J},All2 R l r->All2 R' l r
 | [],[],_=>trivial
 | a::l,b::r,hh=>⟨h a b hh.1,All2.imp h hh.2⟩
 | [],_::_,hh=>hh.elim
 | _::_,[],hh=>hh.elim
theorem All2.length {α J:Type} {R:α->J->Prop}:∀ {l:List α} {r:List J},All2 R l r->l.length=r.length
 | [],[],_=>rfl
 | _::l,_::r,hh=>by simp [All2.length hh.2]
 | [],_::_,hh=>hh.elim
 | _::_,[],hh=>hh.elim
theorem All2.append {α J:Type} {R:α->J->Prop}:∀ {l:List α} {r:List J} {l':List α} {r':List J},All2 R l r->All2 R l' r'->All2 R (l++l') (r++r')
 | [],[],_,_,_,h=>h
 | _::_,_::_,_,_,hh,h=>⟨hh.1,All2.append hh.2 h⟩
 | [],_::_,_,_,hh,_=>hh.elim
 | _::_,[],_,_,hh,_=>hh.elim
theorem All2.get {α J:Type} {R:α->J->Prop}:∀ {l:List α} {r:List J},All2 R l r->∀ {i:Nat} {a:α},l[i]?=some a->∃ b,r[i]?=some b/\R a b
 | [],_,_,i,a,ha=>by simp at ha
 | x::l,[],h,_,_,_=>h.elim
 | x::l,y::r,h,0,a,ha=>by simp at ha;subst ha;exact⟨y,rfl,h.1⟩
 | x::l,y::r,h,i+1,a,ha=>by simp at ha;simpa using All2.get h.2 ha
theorem All2.drop {α J:Type} {R:α->J->Prop} (n:Nat) {l:List α} {r:List J} (h:All2 R l r):All2 R (l.drop n) (r.drop n):=by
 induction n generalizing l r with
 | zero=>simpa
 | succ n ih =>
  cases l<;>cases r<;>first | exact h.elim | trivial | exact ih h.2
theorem All2.take {α J:Type} {R:α->J->Prop} (n:Nat) {l:List α} {r:List J} (h:All2 R l r):All2 R (l.take n) (r.take n):=by
 induction n generalizing l r with
 | zero=>simp [All2]
 | succ n ih =>
  cases l<;>cases r<;>first | exact h.elim | trivial | exact⟨h.1,ih h.2⟩
theorem All2.map_left {α J γ:Type} {R:α->J->Prop} {R':γ->J->Prop} {f:α->γ} (hf:∀ a b,R a b->R' (f a) b):∀ {l:List α} {r:List J},All2 R l r->All2 R' (l.map f) r
 | [],[],_=>trivial
 | a::l,b::r,hh=>⟨hf a b hh.1,All2.map_left hf hh.2⟩
 | [],_::_,hh=>hh.elim
 | _::_,[],hh=>hh.elim
theorem All2.mem_right {α J:Type} {R:α->J->Prop}:∀ {l:List α} {r:List J},All2 R l r->∀ b∈r,∃ a∈l,R a b
 | [],[],_,b,hb=>by simp at hb
 | a::l,b::r,hh,c,hc=>by
  rcases List.mem_cons.1 hc with rfl | hc
  · exact⟨a,List.mem_cons_self,hh.1⟩
  · obtain ⟨x, hx, hr⟩ := All2.mem_right hh.2 c hc;exact⟨x,List.mem_cons_of_mem _ hx,hr⟩
 | [],_::_,hh,_,_=>hh.elim
 | _::_,[],hh,_,_=>hh.elim
def wlen {α:Type} (xs:List α) (off:Nat):Option Nat->Nat
 | none=>xs.length-off
 | some n=>n
def qf1 {α:Type} (xs:List α) (off:Nat):Option Nat->Prop
 | none=>off<=xs.length
 | some n=>off+n<=xs.length
theorem qbt {α:Type} {xs:List α} {off:Nat} {len:Option Nat} (h:qf1 xs off len):(win xs off len).length=wlen xs off len:=by
 cases len with
 | none=>simp [win,wlen]
 | some n=>simp [win,wlen,qf1] at *;omega
theorem qhY {α:Type} {xs:List α} {off:Nat} {len:Option Nat} {i:Nat} {x:α} (h:(win xs off len)[i]?=some x):xs[off+i]?=some x:=by
 cases len with
 | none=>simpa [win] using h
 | some n=>simp [win,List.getElem?_take] at h;exact h.2
theorem qhh {α:Type} {xs:List α} {off:Nat} {len:Option Nat} (h:qf1 xs off len):off+wlen xs off len<=xs.length:=by
 cases len with
 | none=>simp [wlen,qf1] at *;omega
 | some n=>simpa [wlen,qf1] using h
def Ob.sz:Ob->Nat
 | .rows t _ _=>t.size
 | _=>0
def Blk (w:World) (b:Nat) (c:Array Value):Prop:=∃ e,w.heap[b]?=some (.cells c e (0,0))
theorem Blk.lt {w:World} {b:Nat} {c:Array Value} (h:Blk w b c):b<w.heap.size:=by
 obtain⟨e,h⟩:=h;rcases Nat.lt_or_ge b w.heap.size with hl | hl
 · exact hl
 · rw[Array.getElem?_eq_none hl] at h;cases h
theorem Blk.cell {w:World} {b:Nat} {c:Array Value} (h:Blk w b c) (j:Nat):w.cell? ⟨b,j,none⟩=c[j]?:=by
 obtain⟨e,h⟩:=h;simp [World.cell?,h]
theorem Blk.frozen {w:World} {b:Nat} {c:Array Value} (h:Blk w b c) (a:Addr) (ha:a.block=b):w.frozen? a=false:=by
 obtain⟨e,h⟩:=h;simp [World.frozen?,ha,h]
theorem Blk.inj {w:World} {b:Nat} {c c':Array Value} (h:Blk w b c) (h':Blk w b c'):c=c':=by
 obtain⟨e,h⟩:=h;obtain⟨e',h'⟩:=h';rw[h] at h';injection h' with h';injection h'
theorem Blk.mono {w w':World} {b:Nat} {c:Array Value} (h:Blk w b c) (hb:w'.heap[b]?=w.heap[b]?):Blk w' b c:=by
 obtain⟨e,h⟩:=h;exact⟨e,by rw[hb,h]⟩
structure Calm (w w':World):Prop where
 os:w'.os=w.os
 out:w'.output=w.output
 fr:∀ a,w'.frozen? a=w.frozen? a
theorem Calm.refl (w:World):Calm w w:=⟨rfl,rfl,fun _=>rfl⟩
theorem Calm.trans {w w' w'':World} (h:Calm w w') (h':Calm w' w''):Calm w w'':=⟨by rw[h'.os,h.os],by rw[h'.out,h.out],fun a=>by rw[h'.fr,h.fr]⟩
theorem qdA (w:World) (c:Array Value) (e:TypeId):Calm w (w.alloc (.cells c e)):=by
 refine⟨rfl,rfl,fun a=>?_⟩;simp only[World.frozen?,World.alloc,Array.getElem?_push];by_cases h:a.block=w.heap.size
 · simp [h]
 · simp [h]
theorem qgW {w:World} {b:Nat} {c c':Array Value} (h:Blk w b c):Calm w (w.setRow b c'):=by
 obtain⟨e,he⟩:=h;refine⟨rfl,rfl,fun a=>?_⟩;by_cases hb:a.block=b
 · have h1 : (w.setRow b c').heap[a.block]? = some (.cells c' e (0, 0)) := by rw [hb]; exact setRow_heap w b c c' e _ he
   have h2:w.heap[a.block]?=some (.cells c e (0,0)):=by rw[hb];exact he
   simp only[World.frozen?,h1,h2]
 · have h1 : (w.setRow b c').heap[a.block]? = w.heap[a.block]? := setRow_other w b a.block c' hb;simp only[World.frozen?,h1]
def OslV (w:World) (βk:Option (Nat×Nat)) (sz off n:Nat) (m:Md) (v:Value):Prop :=
 match βk with
 | none=>off=0/\n=0/\v=.slice none 0 0
 | some (b,o)=>∃ x cap,v=.slice (some ⟨b,x,none⟩) n cap/\n<=cap/\(cap=0\/x=o+off*sz)/\(m=.own->∃ c,Blk w b c/\(off+cap)*sz<=c.size)
def qac (w:World) (S:Foot) (J:Con) (g:Hp):PV->Value->Prop
 | .junk,_=>True
 | .val t x,v=>Cell w S t x [v]
 | .nil,v=>v=.slice none 0 0
 | .osl k off len,v =>
  match g k with
  | some (.rows t xs m)=>qf1 xs off len/\OslV w (J k) t.size off (wlen xs off len) m v
  | some .gone=>v.oneCell'=true
  | _=>False
 | .ptr k i off,v =>
  match g k with
  | some .gone=>v.oneCell'=true
  | some ob=>∃ b o,J k=some (b,o)/\v=.pointer (some ⟨b,o+i*ob.sz+off,none⟩)
  | none=>False
 | .iptr t x off,v=>∃ b o ds,v=.pointer (some ⟨b,o+off,none⟩)/\S b/\Cell w S t x ds/\At w b o ds
 | .nilp,v=>v=.pointer none
 | .fx k,v =>
  match g k with
  | some (.rows t xs m)=>qf1 xs 0 none/\OslV w (J k) t.size 0 (wlen xs 0 none) m v
  | some .gone=>v.oneCell'=true
  | _=>False
 | .vw k i,v =>
  match g k with
  | some (.rows t xs m)=>∃ e b o,t=.os e/\i<xs.length/\J k=some (b,o)/\w.cell? ⟨b,o+i,none⟩=some v/\v.oneCell'=true
  | some .gone=>v.oneCell'=true
  | _=>False
 | .vp k i j off,v =>
  match g k with
  | some (.rows t xs m)=>∃ e b o bi x len cap,t=.os e/\i<xs.length/\J k=some (b,o)/\w.cell? ⟨b,o+i,none⟩=some (.slice (some ⟨bi,x,none⟩) len cap)/\j<len/\v=.pointer (some ⟨bi,x+j*e.size+off,none⟩)
  | some .gone=>v.oneCell'=true
  | _=>False
 | _,_=>False
theorem qac.unfx {w:World} {S:Foot} {J:Con} {g:Hp} {pv:PV} {v:Value} (h:qac w S J g pv v):qac w S J g pv.unfx v:=by
 cases pv<;>exact h
def qbQ (w:World) (S:Foot) (J:Con) (g:Hp):PV->Value->Prop
 | .agg l,v=>∃ vs:List Value,v=.agg vs.toArray/\All2 (qac w S J g) l vs
 | .clo f l,v=>∃ vs:List Value,v=.func (.func f) #[] vs.toArray/\All2 (qac w S J g) l vs
 | pv,v=>qac w S J g pv v
def TRel (w:World) (S:Foot) (J:Con) (g:Hp):PV->Value->Prop
 | .tup l,v=>∃ vs:List Value,v=.tuple vs.toArray/\All2 (qbQ w S J g) l vs
 | pv,v=>qbQ w S J g pv v
theorem qac.up {w:World} {S:Foot} {J:Con} {g:Hp} {pv:PV} {v:Value} (h:qac w S J g pv v):TRel w S J g pv v:=by
 cases pv with
 | agg l=>exact h.elim
 | tup l=>exact h.elim
 | clo f l=>exact h.elim
 | junk=>exact h
 | val t x=>exact h
 | nil=>exact h
 | nilp=>exact h
 | fx k=>exact h
 | iptr t x off=>exact h
 | osl k off len=>exact h
 | ptr k i off=>exact h
 | vw k i=>exact h
 | vp k i j off=>exact h
theorem qac.up1 {w:World} {S:Foot} {J:Con} {g:Hp} {pv:PV} {v:Value} (h:qac w S J g pv v):qbQ w S J g pv v:=by
 cases pv with
 | agg l=>exact h.elim
 | tup l=>exact h.elim
 | clo f l=>exact h.elim
 | junk=>exact h
 | val t x=>exact h
 | nil=>exact h
 | nilp=>exact h
 | fx k=>exact h
 | iptr t x off=>exact h
 | osl k off len=>exact h
 | ptr k i off=>exact h
 | vw k i=>exact h
 | vp k i j off=>exact h
def ObC (w w':World) (J J':Con) (k:Nat):Ob->Ob->Prop
 | _,.gone=>True
 | .rows t xs m,.rows t' xs' m'=>t'=t/\xs'.length=xs.length/\J' k=J k /\
  (m'=.own->m=.own/\∀ b o c,J k=some (b,o)->Blk w b c->∃ c',Blk w' b c'/\c'.size=c.size) /\
  (t.flat=false->∀ b o,J k=some (b,o)->w'.heap[b]?=w.heap[b]?)
 | .box _,.box _=>J' k=J k
 | _,_=>False
structure Evo (w w':World) (S S':Foot) (J J':Con) (g g':Hp):Prop where
 sub:∀ b,S b->S' b
 keep:∀ b,S b->w'.heap[b]?=w.heap[b]?
 obs:∀ k ob,g k=some ob->∃ ob',g' k=some ob'/\ObC w w' J J' k ob ob'
theorem qac.one1 {w:World} {S:Foot} {J:Con} {g:Hp} {k off:Nat} {len:Option Nat} {v:Value} (h:qac w S J g (.osl k off len) v):v.oneCell'=true:=by
 simp only[qac] at h;split at h
 · obtain ⟨_, h⟩ := h;unfold OslV at h;split at h
   · obtain⟨_,_,rfl⟩:=h;rfl
   · obtain⟨x,cap,rfl,_⟩:=h;rfl
 · exact h
 · exact h.elim
theorem qac.one {w:World} {S:Foot} {J:Con} {g:Hp} {pv:PV} {v:Value} (h:qac w S J g pv v) (hj:pv≠.junk):v.oneCell'=true:=by
 cases pv with
 | junk=>exact absurd rfl hj
 | val t x=>exact Cell.one h v (by simp)
 | nil=>cases h;rfl
 | nilp=>cases h;rfl
 | fx k=>exact qac.one1 (S:=S) (k:=k) (off:=0) (len:=none) h
 | agg l=>exact h.elim
 | tup l=>exact h.elim
 | clo f l=>exact h.elim
 | iptr t x off=>obtain⟨b,o,ds,rfl,_⟩:=h;rfl
 | osl k off len=>exact h.one1
 | ptr k i off =>
  simp only[qac] at h;split at h
  · exact h
  · obtain⟨b,o,_,rfl⟩:=h;rfl
  · exact h.elim
 | vw k i =>
  simp only[qac] at h;split at h
  · obtain⟨_,_,_,_,_,_,_,h⟩:=h;exact h
  · exact h
  · exact h.elim
 | vp k i j off =>
  simp only[qac] at h;split at h
  · obtain⟨_,_,_,_,_,_,_,_,_,_,_,_,rfl⟩:=h;rfl
  · exact h
  · exact h.elim
theorem qac.evo1 {w w':World} {S S':Foot} {J J':Con} {g g':Hp} (E:Evo w w' S S' J J' g g') {k off:Nat} {len:Option Nat} {v:Value}
  (h:qac w S J g (.osl k off len) v):qac w' S' J' g' (.osl k off len) v:=by
 have hone:=h.one1;simp only[qac] at h ⊢;cases hk:g k with
 | none=>rw[hk] at h;exact h.elim
 | some ob =>
  obtain⟨ob',hk',hc⟩:=E.obs k ob hk;rw[hk] at h;rw[hk'];cases ob' with
  | gone=>exact hone
  | box l=>cases ob<;>first | exact h.elim | exact hc.elim
  | rows t' xs' m' =>
   cases ob with
   | gone=>exact hc.elim
   | box l=>exact h.elim
   | rows t xs m =>
    obtain⟨rfl,hl,hb,hm,_⟩:=hc;obtain⟨h1,h2⟩:=h;have hwl:wlen xs' off len=wlen xs off len:=by cases len<;>simp [wlen,hl]
    refine⟨by cases len<;>simp_all [qf1],?_⟩
    rw[hwl,hb];unfold OslV at h2 ⊢;cases hβ:J k with
    | none=>rw[hβ] at h2;exact h2
    | some p =>
     obtain⟨b,o⟩:=p;rw[hβ] at h2;obtain⟨x,cap,h3,h4,h4',h5⟩:=h2;refine⟨x,cap,h3,h4,h4',fun hmo=>?_⟩;obtain⟨hm1,hm2⟩:=hm hmo;obtain⟨c,hc1,hc2⟩:=h5 hm1;obtain⟨c',hc'1,hc'2⟩:=hm2 b o c hβ hc1;exact⟨c',hc'1,by omega⟩
theorem qac.evo {w w':World} {S S':Foot} {J J':Con} {g g':Hp} (E:Evo w w' S S' J J' g g') {pv:PV} {v:Value}
  (h:qac w S J g pv v):qac w' S' J' g' pv v:=by
 have hone:=h.one;cases pv with
 | junk=>trivial
 | val t x=>exact Cell.mono E.sub E.keep h
 | nil=>exact h
 | nilp=>exact h
 | agg l=>exact h
 | tup l=>exact h
 | clo f l=>exact h
 | iptr t x off =>
  obtain⟨b,o,ds,hv,hb,hc,ha⟩:=h;exact⟨b,o,ds,hv,E.sub b hb,hc.mono E.sub E.keep,ha.mono (E.keep b hb)⟩
 | osl k off len=>exact h.evo1 E
 | fx k=>exact qac.evo1 (S:=S) (k:=k) (off:=0) (len:=none) E h
 | ptr k i off =>
  simp only[qac] at h ⊢;cases hk:g k with
  | none=>rw[hk] at h;exact h.elim
  | some ob =>
   obtain⟨ob',hk',hc⟩:=E.obs k ob hk;rw[hk] at h;rw[hk'];cases ob' with
   | gone=>exact hone (by simp)
   | box l =>
    cases ob with
    | box l'=>obtain⟨b,o,h1,h2⟩:=h;exact⟨b,o,by rw[hc];exact h1,h2⟩
    | gone=>exact hc.elim
    | rows _ _ _=>exact hc.elim
   | rows t' xs' m' =>
    cases ob with
    | gone=>exact hc.elim
    | box l=>exact hc.elim
    | rows t xs m =>
     obtain⟨rfl,hl,hb,hm⟩:=hc;obtain⟨b,o,h1,h2⟩:=h;exact⟨b,o,by rw[hb];exact h1,h2⟩
 | vw k i =>
  simp only[qac] at h ⊢;cases hk:g k with
  | none=>rw[hk] at h;exact h.elim
  | some ob =>
   obtain⟨ob',hk',hc⟩:=E.obs k ob hk;rw[hk] at h;rw[hk'];cases ob' with
   | gone=>exact hone (by simp)
   | box l=>cases ob<;>first | exact h.elim | exact hc.elim
   | rows t' xs' m' =>
    cases ob with
    | gone=>exact hc.elim
    | box l=>exact hc.elim
    | rows t xs m =>
     obtain⟨rfl,hl,hb,hm,hf⟩:=hc;obtain⟨e,b,o,rfl,h1,h2,h3,h4⟩:=h;exact⟨e,b,o,rfl,by rw[hl];exact h1,by rw[hb];exact h2,by rw[World.cell?_of_block (a:=⟨b,o+i,none⟩) (hf rfl b o h2)];exact h3,h4⟩
 | vp k i j off =>
  simp only[qac] at h ⊢;cases hk:g k with
  | none=>rw[hk] at h;exact h.elim
  | some ob =>
   obtain⟨ob',hk',hc⟩:=E.obs k ob hk;rw[hk] at h;rw[hk'];cases ob' with
   | gone=>exact hone (by simp)
   | box l=>cases ob<;>first | exact h.elim | exact hc.elim
   | rows t' xs' m' =>
    cases ob with
    | gone=>exact hc.elim
    | box l=>exact hc.elim
    | rows t xs m =>
     obtain⟨rfl,hl,hb,hm,hf⟩:=hc;obtain⟨e,b,o,bi,x,len,cap,rfl,h1,h2,h3,h4⟩:=h;exact⟨e,b,o,bi,x,len,cap,rfl,by rw[hl];exact h1,by rw[hb];exact h2,by rw[World.cell?_of_block (a:=⟨b,o+i,none⟩) (hf rfl b o h2)];exact h3,h4⟩
theorem qbQ.evo {w w':World} {S S':Foot} {J J':Con} {g g':Hp} (E:Evo w w' S S' J J' g g') {pv:PV} {v:Value}
  (h:qbQ w S J g pv v):qbQ w' S' J' g' pv v:=by
 cases pv with
 | agg l=>obtain⟨vs,hv,hl⟩:=h;exact⟨vs,hv,hl.imp fun _ _ h=>h.evo E⟩
 | clo f l=>obtain⟨vs,hv,hl⟩:=h;exact⟨vs,hv,hl.imp fun _ _ h=>h.evo E⟩
 | tup l=>exact qac.evo (v:=v) (pv:=.tup l) E h
 | junk=>exact qac.evo (v:=v) (pv:=.junk) E h
 | val t x=>exact qac.evo (v:=v) (pv:=.val t x) E h
 | nil=>exact qac.evo (v:=v) (pv:=.nil) E h
 | nilp=>exact qac.evo (v:=v) (pv:=.nilp) E h
 | fx k=>exact qac.evo (v:=v) (pv:=.fx k) E h
 | iptr t x off=>exact qac.evo (v:=v) (pv:=.iptr t x off) E h
 | osl k off len=>exact qac.evo (v:=v) (pv:=.osl k off len) E h
 | ptr k i off=>exact qac.evo (v:=v) (pv:=.ptr k i off) E h
 | vw k i=>exact qac.evo (v:=v) (pv:=.vw k i) E h
 | vp k i j off=>exact qac.evo (v:=v) (pv:=.vp k i j off) E h
theorem TRel.evo {w w':World} {S S':Foot} {J J':Con} {g g':Hp} (E:Evo w w' S S' J J' g g') {pv:PV} {v:Value}
  (h:TRel w S J g pv v):TRel w' S' J' g' pv v:=by
 cases pv with
 | tup l=>obtain⟨vs,hv,hl⟩:=h;exact⟨vs,hv,hl.imp fun _ _ h=>h.evo E⟩
 | agg l=>exact qbQ.evo (v:=v) (pv:=.agg l) E h
 | clo f l=>exact qbQ.evo (v:=v) (pv:=.clo f l) E h
 | junk=>exact qbQ.evo (v:=v) (pv:=.junk) E h
 | val t x=>exact qbQ.evo (v:=v) (pv:=.val t x) E h
 | nil=>exact qbQ.evo (v:=v) (pv:=.nil) E h
 | nilp=>exact qbQ.evo (v:=v) (pv:=.nilp) E h
 | fx k=>exact qbQ.evo (v:=v) (pv:=.fx k) E h
 | iptr t x off=>exact qbQ.evo (v:=v) (pv:=.iptr t x off) E h
 | osl k off len=>exact qbQ.evo (v:=v) (pv:=.osl k off len) E h
 | ptr k i off=>exact qbQ.evo (v:=v) (pv:=.ptr k i off) E h
 | vw k i=>exact qbQ.evo (v:=v) (pv:=.vw k i) E h
 | vp k i j off=>exact qbQ.evo (v:=v) (pv:=.vp k i j off) E h
theorem quT {w:World} {S:Foot} {J:Con} {g:Hp}:∀ {t:Ty} {x:t.den} {cs:List Value},Cell w S t x cs->All2 (qac w S J g) (t.split x) cs:=by
 intro t
 induction t with
 | pair a b iha ihb =>
  intro x cs h;obtain⟨c1,c2,rfl,h1,h2⟩:=h;exact(iha h1).append (ihb h2)
 | sl e ih =>
  intro x cs h;have hh:=h;obtain⟨A,cap,rfl,_⟩:=h;exact⟨hh,trivial⟩
 | int k=>intro x cs h;cases h;exact⟨rfl,trivial⟩
 | bool=>intro x cs h;cases h;exact⟨rfl,trivial⟩
 | str=>intro x cs h;cases h;exact⟨rfl,trivial⟩
 | os _ _ | op _ _=>intro x cs h;have hh:=h;obtain⟨v,rfl,_⟩:=h;exact⟨hh,trivial⟩
 | unit=>intro x cs h;cases h;trivial
def VRel (w:World) (S:Foot) (t:Ty) (x:t.den) (v:Value):Prop :=
 match t,x with
 | .pair a b,x=>∃ cs:List Value,v=.agg cs.toArray/\Cell w S (.pair a b) x cs
 | .unit,_=>v=.agg #[]
 | .int k,x=>Cell w S (.int k) x [v]
 | .bool,x=>Cell w S .bool x [v]
 | .str,x=>Cell w S .str x [v]
 | .sl e,x=>Cell w S (.sl e) x [v]
 | .os e,x=>Cell w S (.os e) x [v]
 | .op l,x=>Cell w S (.op l) x [v]
theorem VRel.rel {w:World} {S:Foot} {J:Con} {g:Hp} {t:Ty} {x:t.den} {v:Value} (h:VRel w S t x v):qbQ w S J g (toPV t x) v:=by
 cases t with
 | pair a b=>obtain⟨cs,hv,hc⟩:=h;exact⟨cs,hv,quT hc⟩
 | unit=>exact⟨[],h,trivial⟩
 | int k=>exact h
 | bool=>exact h
 | str | os _ | op _=>exact h
 | sl e=>exact h
theorem qbQ.up {w:World} {S:Foot} {J:Con} {g:Hp} {pv:PV} {v:Value} (h:qbQ w S J g pv v) (ht:∀ l,pv≠.tup l):TRel w S J g pv v:=by
 cases pv<;>first | exact h | exact absurd rfl (ht _)
theorem qpN (t:Ty) (x:t.den):∀ l,toPV t x≠.tup l:=by
 intro l;cases t<;>simp [toPV]
theorem VRel.up {w:World} {S:Foot} {J:Con} {g:Hp} {t:Ty} {x:t.den} {v:Value} (h:VRel w S t x v):TRel w S J g (toPV t x) v :=
 h.rel.up (qpN t x)
theorem qxH {w:World} {S:Foot} {J:Con} {g:Hp} (hobs:∀ k t xs m b o,g k=some (.rows t xs m)->J k=some (b,o)->qdG (Cell w S t) t.size w b o xs) :
  ∀ {t:Ty} {l:List PV} {cs:List Value} {x:t.den} {r:List PV},dec g t l=some (x,r)->All2 (qac w S J g) l cs ->
    (∀ k∈qag l,∀ (t:Ty) (xs:List t.den) m b o,g k=some (.rows t xs m)->J k=some (b,o)->S b) ->
    ∃ c1 c2,cs=c1++c2/\Cell w S t x c1/\All2 (qac w S J g) r c2/\(∀ k∈qag r,k∈qag l):=by
 intro t;have scal:∀ {t:Ty} {l:List PV} {cs:List Value} {x:t.den} {r:List PV},
    (match l with | .val t' y::r'=>(match cst (t':=t) y with | some z=>some (z,r') | none=>none) | _=>none)=some (x,r) ->
    All2 (qac w S J g) l cs->∃ c1 c2,cs=c1++c2/\Cell w S t x c1/\All2 (qac w S J g) r c2/\(∀ k∈qag r,k∈qag l):=by
  intro t l cs x r h hl;split at h
  · rename_i t' y r';split at h
    · rename_i z hz;obtain⟨rfl,rfl⟩:=qra hz;simp at h;obtain⟨rfl,rfl⟩:=h;cases cs with
      | nil=>exact hl.elim
      | cons c cs=>exact⟨[c],cs,rfl,hl.1,hl.2,fun k hk=>by simpa [qag] using hk⟩
    · simp at h
  · simp at h
 induction t with
 | pair a b iha ihb =>
  intro l cs x r h hl hk;simp only[dec] at h;split at h
  · rename_i x1 r1 h1;split at h
    · rename_i x2 r2 h2;simp at h;obtain⟨rfl,rfl⟩:=h;obtain⟨c1,c2,rfl,hc1,hr1,hk1⟩:=iha h1 hl hk;obtain⟨c3,c4,rfl,hc3,hr2,hk2⟩:=ihb h2 hr1 (fun k hk'=>hk k (hk1 k hk'));exact⟨c1++c3,c4,by simp,⟨c1,c3,rfl,hc1,hc3⟩,hr2,fun k hk'=>hk1 k (hk2 k hk')⟩
    · simp at h
  · simp at h
 | unit =>
  intro l cs x r h hl hk;simp only[dec] at h;simp at h;exact⟨[],cs,rfl,rfl,h ▸ hl,fun k hk'=>h ▸ hk'⟩
 | int k=>intro l cs x r h hl hk;exact scal (by cases l with | nil=>simp [dec] at h | cons v l=>cases v<;>first | exact h | (simp [dec] at h)) hl
 | bool=>intro l cs x r h hl hk;exact scal (by cases l with | nil=>simp [dec] at h | cons v l=>cases v<;>first | exact h | (simp [dec] at h)) hl
 | str | os _ _ | op _ _=>intro l cs x r h hl hk;exact scal (by cases l with | nil=>simp [dec] at h | cons v l=>cases v<;>first | exact h | (simp [dec] at h)) hl
 | sl e ih =>
  intro l cs x r h hl hk;cases l with
  | nil=>simp [dec] at h
  | cons v l =>
    cases cs with
    | nil=>exact hl.elim
    | cons c cs =>
      cases v with
      | nil =>
       simp [dec] at h;obtain⟨rfl,rfl⟩:=h;have hc:c=.slice none 0 0:=hl.1;subst hc;exact⟨[.slice none 0 0],cs,rfl,⟨none,0,rfl,Nat.le_refl _,.inl rfl⟩,hl.2,fun k hk'=>by simpa [qag] using hk'⟩
      | osl k off len =>
       simp only[dec] at h;split at h
       · rename_i t xs m hg;split at h
         · rename_i ys hys;obtain⟨rfl,rfl⟩:=qda hys;simp at h;obtain⟨rfl,rfl⟩:=h;have h0:=hl.1;simp only[qac,hg] at h0;obtain⟨hwin,hv⟩:=h0;unfold OslV at hv;refine⟨[c],cs,rfl,?_,hl.2,fun k' hk'=>by simp [qag,hk']⟩;cases hβ:J k with
           | none =>
            rw[hβ] at hv;obtain⟨rfl,hn,rfl⟩:=hv;have:win ys 0 len=[]:=by
              apply List.eq_nil_of_length_eq_zero;rw[qbt hwin,hn]
            rw[this];exact⟨none,0,rfl,Nat.le_refl _,.inl rfl⟩
           | some p =>
            obtain⟨b,o⟩:=p;rw[hβ] at hv;obtain⟨x,cap,rfl,hcap,hx,_⟩:=hv;rcases hx with rfl | rfl
            · have : win ys off len = [] := by
               apply List.eq_nil_of_length_eq_zero;rw[qbt hwin];omega
              exact⟨some ⟨b,x,none⟩,0,by rw[qbt hwin],by rw[qbt hwin];exact hcap,.inl this⟩
            refine⟨some ⟨b,o+off*t.size,none⟩,cap,by rw[qbt hwin],by rw[qbt hwin];exact hcap,.inr ⟨b,_,rfl,hk k (by simp [qag]) t ys m b o hg hβ,fun i y hy=>?_⟩⟩
            obtain⟨ds,hd1,hd2⟩:=hobs k t ys m b o hg hβ (off+i) y (qhY hy);refine⟨ds,hd1,?_⟩;have:o+off*t.size+i*t.size=o+(off+i)*t.size:=by rw[Nat.add_mul,Nat.add_assoc]
            rw[this];exact hd2
         · simp at h
       · simp at h
      | val t' y=>exact scal (l:=.val t' y::l) h hl
      | junk=>simp [dec] at h
      | ptr _ _ _=>simp [dec] at h
      | iptr _ _ _=>simp [dec] at h
      | nilp=>simp [dec] at h
      | fx _=>simp [dec] at h
      | vw _ _=>simp [dec] at h
      | vp _ _ _ _=>simp [dec] at h
      | agg _=>simp [dec] at h
      | tup _=>simp [dec] at h
      | clo _ _=>simp [dec] at h
theorem qv3 {w:World} {S:Foot} {J:Con} {g:Hp} (hobs:∀ k t xs m b o,g k=some (.rows t xs m)->J k=some (b,o)->qdG (Cell w S t) t.size w b o xs)
   {t:Ty} {l:List PV} {cs:List Value} {x:t.den} (h:decA g t l=some x) (hl:All2 (qac w S J g) l cs)
   (hk:∀ k∈qag l,∀ (t:Ty) (xs:List t.den) m b o,g k=some (.rows t xs m)->J k=some (b,o)->S b):Cell w S t x cs:=by
 unfold decA at h;split at h
 · rename_i y hd;obtain rfl:y=x:=by simpa using h
   obtain⟨c1,c2,rfl,h1,h2,_⟩:=qxH hobs hd hl hk;cases c2 with
   | nil=>simpa using h1
   | cons _ _=>exact h2.elim
 · simp at h
theorem qxF {h h':Hp} (hs:∀ k ob,h k=some ob->h' k=some ob):∀ {t:Ty} {l:List PV} {x:t.den} {r:List PV},dec h t l=some (x,r) ->
  dec h' t l=some (x,r)/\∀ k∈qag l,k∈qag r\/∃ (t:Ty) (xs:List t.den) (m:Md),h k=some (.rows t xs m):=by
 intro t;have scal:∀ {t:Ty} {l:List PV} {x:t.den} {r:List PV},
    (match l with | .val t' y::r'=>(match cst (t':=t) y with | some z=>some (z,r') | none=>none) | _=>none)=some (x,r) ->
    ∀ k∈qag l,k∈qag r\/∃ (t:Ty) (xs:List t.den) (m:Md),h k=some (.rows t xs m):=by
  intro t l x r h1 k hk;split at h1
  · split at h1
    · simp at h1;obtain⟨_,rfl⟩:=h1;exact .inl (by simpa [qag] using hk)
    · simp at h1
  · simp at h1
 induction t with
 | pair a b iha ihb =>
  intro l x r h1;simp only[dec] at h1 ⊢;split at h1
  · rename_i x1 r1 e1;split at h1
    · rename_i x2 r2 e2;simp at h1;obtain⟨rfl,rfl⟩:=h1;obtain⟨a1,a2⟩:=iha e1;obtain⟨b1,b2⟩:=ihb e2;refine⟨by simp [a1,b1],fun k hk=>?_⟩;rcases a2 k hk with h | h
      · exact b2 k h
      · exact .inr h
    · simp at h1
  · simp at h1
 | unit=>intro l x r h1;simp only[dec] at h1;simp at h1;exact⟨by simp [dec,h1],fun k hk=>.inl (h1 ▸ hk)⟩
 | int k0 =>
  intro l x r h1;refine⟨?_,scal (by cases l with | nil=>simp [dec] at h1 | cons v l=>cases v<;>first | exact h1 | (simp [dec] at h1))⟩
  cases l with | nil=>simp [dec] at h1 | cons v l=>cases v<;>first | exact h1 | (simp [dec] at h1)
 | bool =>
  intro l x r h1;refine⟨?_,scal (by cases l with | nil=>simp [dec] at h1 | cons v l=>cases v<;>first | exact h1 | (simp [dec] at h1))⟩
  cases l with | nil=>simp [dec] at h1 | cons v l=>cases v<;>first | exact h1 | (simp [dec] at h1)
 | str | os _ _ | op _ _ =>
  intro l x r h1;refine⟨?_,scal (by cases l with | nil=>simp [dec] at h1 | cons v l=>cases v<;>first | exact h1 | (simp [dec] at h1))⟩
  cases l with | nil=>simp [dec] at h1 | cons v l=>cases v<;>first | exact h1 | (simp [dec] at h1)
 | sl e ih =>
  intro l x r h1;cases l with
  | nil=>simp [dec] at h1
  | cons v l =>
    cases v with
    | nil=>simp [dec] at h1;obtain⟨rfl,rfl⟩:=h1;exact⟨rfl,fun k hk=>.inl (by simpa [qag] using hk)⟩
    | osl k off len =>
      simp only[dec] at h1 ⊢;split at h1
      · rename_i t xs m hg;rw[hs k _ hg];refine⟨h1,fun k' hk'=>?_⟩;split at h1
        · simp at h1;obtain⟨_,rfl⟩:=h1;rcases List.mem_cons.1 hk' with rfl | hk'
          · exact .inr ⟨t,xs,m,hg⟩
          · exact .inl hk'
        · simp at h1
      · simp at h1
    | val t' y=>exact⟨h1,scal (l:=.val t' y::l) h1⟩
    | junk=>simp [dec] at h1
    | ptr _ _ _=>simp [dec] at h1
    | iptr _ _ _=>simp [dec] at h1
    | nilp=>simp [dec] at h1
    | fx _=>simp [dec] at h1
    | vw _ _=>simp [dec] at h1
    | vp _ _ _ _=>simp [dec] at h1
    | agg _=>simp [dec] at h1
    | tup _=>simp [dec] at h1
    | clo _ _=>simp [dec] at h1
theorem qv2 {h h':Hp} (hs:∀ k ob,h k=some ob->h' k=some ob) {t:Ty} {l:List PV} {x:t.den} (hd:decA h t l=some x) :
   decA h' t l=some x/\∀ k∈qag l,∃ (t:Ty) (xs:List t.den) (m:Md),h k=some (.rows t xs m):=by
 unfold decA at hd;split at hd
 · rename_i y e1;obtain⟨e2,e3⟩:=qxF hs e1;refine⟨by unfold decA;rw[e2];exact hd,fun k hk=>?_⟩
   rcases e3 k hk with h | h
   · simp [qag] at h
   · exact h
 · simp at hd
def Ob.live:Ob->Bool
 | .rows _ _ .frz=>false
 | .gone=>false
 | _=>true
structure Base where
 nt:Nat
 w0:World
 S0:Foot
 M:Nat->Prop
 LT:Nat->Option (Nat×Nat×Nat)
 pb:List Nat:=[]
def Base.PB (B:Base) (k:Nat):Option Nat:=if B.nt*8<=k then B.pb[k-B.nt*8]? else none
def PV.stays:PV->Bool
 | .junk | .fx _=>true
 | _=>false
def qmv (B:Base) (w:World) (J:Con) (k:Nat) (l:List PV):Prop :=
 (∀ p,B.PB k=some p->J k=some (p,0)/\∀ i v,l[i]?=some v->v.stays=true->w.cell? ⟨p,i,none⟩=B.w0.cell? ⟨p,i,none⟩)/\(B.PB k=none->∀ b o,J k=some (b,o)->B.w0.heap.size<=b)
theorem qmv.turn {B:Base} {w w':World} {J J':Con} {k:Nat} {l l':List PV} (h:qmv B w J k l) (e:J' k=J k)
  (hw:∀ p i v,J k=some (p,0)->l'[i]?=some v->v.stays=true->(∃ u,l[i]?=some u/\u.stays=true)/\w'.cell? ⟨p,i,none⟩=w.cell? ⟨p,i,none⟩):qmv B w' J' k l':=by
 unfold qmv;rw[e];refine⟨fun p hp=>⟨(h.1 p hp).1,fun i v hi hv=>?_⟩,h.2⟩;obtain⟨⟨u,h1,h3⟩,h2⟩:=hw p i v (h.1 p hp).1 hi hv;rw[h2];exact(h.1 p hp).2 i u h1 h3
theorem qmv.congr {B:Base} {w w':World} {J J':Con} {k:Nat} {l:List PV} (h:qmv B w J k l) (e:J' k=J k) (hw:∀ p,J k=some (p,0)->w'.heap[p]?=w.heap[p]?):qmv B w' J' k l :=
 h.turn e fun p i v hp hi hv=>⟨⟨v,hi,hv⟩,World.cell?_of_block (a:=⟨p,i,none⟩) (hw p hp)⟩
theorem qtH {l:List PV} (h:qca l=true) {i:Nat} {u:PV} (hi:l[i]?=some u) (hu:u.stays=true):False:=by
 induction l generalizing i with
 | nil=>simp at hi
 | cons v l ih =>
  cases i with
  | zero =>
   simp only[List.getElem?_cons_zero,Option.some.injEq] at hi;subst hi;cases v<;>simp_all [qca,PV.stays]
  | succ i =>
   refine ih ?_ (by simpa using hi);cases v<;>first | exact h | (simp [qca] at h;done)
theorem Base.PB_low {B:Base} {k:Nat} (h:k<B.nt*8):B.PB k=none:=if_neg (by omega)
def Base.Mo (B:Base) (b:Nat):Prop:=B.w0.heap.size<=b\/B.M b
def ORel (w:World) (S:Foot) (J:Con) (g:Hp) (Mo:Nat->Prop) (k:Nat):Ob->Prop
 | .rows t xs m =>
  match J k with
  | none=>xs=[]
  | some (b,o)=>(∃ c,Blk w b c/\o+xs.length*t.size<=c.size)/\qdG (Cell w S t) t.size w b o xs/\(m=.frz->S b)/\(m≠.frz->¬ S b/\Mo b)/\(m=.own->o=0)
 | .box l=>∃ b c,J k=some (b,0)/\Blk w b c/\All2 (qac w S J g) l c.toList/\¬ S b/\Mo b
 | .gone=>True
def qiL (w:World) (S:Foot) (n0:Nat):(t:Ty)->t.den->List Value->List Nat->Prop
 | .pair a b,x,cs,F=>∃ c1 c2 F1 F2,cs=c1++c2/\c1.length=a.size/\F=F1++F2/\qiL w S n0 a x.1 c1 F1/\qiL w S n0 b x.2 c2 F2
 | .os e,x,cs,F =>
  match x with
  | none=>F=[]
  | some xs=>e.flat=true/\∃ v,cs=[v]/\((xs=[]/\v=.slice none 0 0/\F=[]) \/
   ∃ b o cap c,F=[b]/\v=.slice (some ⟨b,o,none⟩) (List.length (α:=e.den) xs) cap/\List.length (α:=e.den) xs<=cap/\(cap=0\/o=0)/\Blk w b c/\cap*e.size<=c.size/\qdG (Cell w S e) e.size w b 0 xs)
 | .op l,x,cs,F =>
  match x with
  | none=>F=[]
  | some y=>∃ b c F',n0<=b/\F=b::F'/\cs=[.pointer (some ⟨b,0,none⟩)]/\Blk w b c/\Cell w S l y c.toList/\qiL w S n0 l y c.toList F'
 | .int _,_,_,F | .bool,_,_,F | .str,_,_,F | .unit,_,_,F | .sl _,_,_,F=>F=[]
theorem qiL.mono {w w':World} {S S':Foot} {n0:Nat} (hS:∀ b,S b->S' b) (hw:∀ b,S b->w'.heap[b]?=w.heap[b]?) :
  ∀ {t:Ty} {x:t.den} {cs:List Value} {F:List Nat},qiL w S n0 t x cs F->(∀ b∈F,w'.heap[b]?=w.heap[b]?)->qiL w' S' n0 t x cs F:=by
 intro t
 induction t with
 | pair a b iha ihb =>
  rintro x cs F ⟨c1,c2,F1,F2,h1,h2,rfl,h3,h4⟩ hF;exact⟨c1,c2,F1,F2,h1,h2,rfl,iha h3 (fun b hb=>hF b (List.mem_append.2 (.inl hb))),ihb h4 (fun b hb=>hF b (List.mem_append.2 (.inr hb)))⟩
 | os e _ =>
  intro x cs F h hF;cases x with
  | none=>exact h
  | some xs =>
   obtain⟨h0,v,h1,h2⟩:=h;refine⟨h0,v,h1,?_⟩;rcases h2 with h2 | ⟨b,o,cap,c,rfl,h3,h4,h5,h6,h7,h8⟩
   · exact .inl h2
   · have hb := hF b (by simp);exact .inr ⟨b,o,cap,c,rfl,h3,h4,h5,h6.mono hb,h7,h8.mono hS hw hb⟩
 | op l ih =>
  intro x cs F h hF;cases x with
  | none=>exact h
  | some y =>
   obtain⟨b,c,F',h0,rfl,h1,h2,h3,h4⟩:=h;exact⟨b,c,F',h0,rfl,h1,h2.mono (hF b (by simp)),h3.mono hS hw,ih h4 (fun b hb=>hF b (List.mem_cons_of_mem _ hb))⟩
 | int _=>intro x cs F h _;exact h
 | bool=>intro x cs F h _;exact h
 | str=>intro x cs F h _;exact h
 | unit=>intro x cs F h _;exact h
 | sl _ _=>intro x cs F h _;exact h
theorem qiL.le {w:World} {S:Foot} {n0 n1:Nat} (hn:n1<=n0):∀ {t:Ty} {x:t.den} {cs:List Value} {F:List Nat},qiL w S n0 t x cs F->qiL w S n1 t x cs F:=by
 intro t
 induction t with
 | pair a b iha ihb =>
  rintro x cs F ⟨c1,c2,F1,F2,h1,h2,rfl,h3,h4⟩;exact⟨c1,c2,F1,F2,h1,h2,rfl,iha h3,ihb h4⟩
 | os e _=>intro x cs F h;exact h
 | op l ih =>
  intro x cs F h;cases x with
  | none=>exact h
  | some y =>
   obtain⟨b,c,F',h0,rfl,h1,h2,h3,h4⟩:=h;exact⟨b,c,F',Nat.le_trans hn h0,rfl,h1,h2,h3,ih h4⟩
 | int _=>intro x cs F h;exact h
 | bool=>intro x cs F h;exact h
 | str=>intro x cs F h;exact h
 | unit=>intro x cs F h;exact h
 | sl _ _=>intro x cs F h;exact h
def DRow (w:World) (S:Foot) (n0:Nat) (t:Ty) (b:Nat) (xs:List t.den) (F:List Nat):Prop :=
 t.flat=true\/∃ Fs:List (List Nat),Fs.length=xs.length/\Fs.flatten.Nodup/\(∀ b∈Fs.flatten,b∈F) /\
  ∀ i x Fi,xs[i]?=some x->Fs[i]?=some Fi->∃ ds,ds.length=t.size/\At w b (i*t.size) ds/\qiL w S n0 t x ds Fi
theorem DRow.mono {w w':World} {S S':Foot} {n0:Nat} (hS:∀ b,S b->S' b) (hw:∀ b,S b->w'.heap[b]?=w.heap[b]?) {t:Ty} {b:Nat} {xs:List t.den} {F:List Nat}
   (h:DRow w S n0 t b xs F) (hF:∀ b∈F,w'.heap[b]?=w.heap[b]?) (hb:w'.heap[b]?=w.heap[b]?):DRow w' S' n0 t b xs F:=by
 rcases h with h | ⟨Fs,h1,h3,h4,h2⟩
 · exact .inl h
 · refine .inr ⟨Fs, h1, h3, h4, fun i x Fi hx hi => ?_⟩;obtain⟨ds,e1,e2,e3⟩:=h2 i x Fi hx hi;exact⟨ds,e1,e2.mono hb,e3.mono hS hw (fun b hb=>hF b (h4 b (List.mem_flatten.2 ⟨Fi,List.mem_of_getElem? hi,hb⟩)))⟩
theorem DRow.le {w:World} {S:Foot} {n0 n1:Nat} (hn:n1<=n0) {t:Ty} {b:Nat} {xs:List t.den} {F:List Nat} (h:DRow w S n0 t b xs F):DRow w S n1 t b xs F:=by
 rcases h with h | ⟨Fs,h1,h3,h4,h2⟩
 · exact .inl h
 · refine .inr ⟨Fs, h1, h3, h4, fun i x Fi hx hi => ?_⟩;obtain⟨ds,e1,e2,e3⟩:=h2 i x Fi hx hi;exact⟨ds,e1,e2,e3.le hn⟩
theorem DRow.nil {w:World} {S:Foot} {n0:Nat} {t:Ty} {b:Nat} {F:List Nat}:DRow w S n0 t b [] F :=
 .inr ⟨[],rfl,List.nodup_nil,fun b hb=>by simp at hb,fun i x Fi hx=>by simp at hx⟩
theorem DRow.win {w:World} {S:Foot} {n0:Nat} {t:Ty} {b:Nat} {xs:List t.den} {F:List Nat} (h:DRow w S n0 t b xs F) (len:Option Nat):DRow w S n0 t b (win xs 0 len) F:=by
 cases len with
 | none=>simpa [X.win] using h
 | some n =>
  rcases h with h | ⟨Fs,h1,h3,h4,h2⟩
  · exact .inl h
  · have hsub : ((Fs.take n).flatten).Sublist Fs.flatten := by
      have h0:(Fs.take n).flatten++(Fs.drop n).flatten=Fs.flatten:=by rw[<- List.flatten_append,List.take_append_drop]
      rw[<- h0];exact List.sublist_append_left _ _
    refine .inr ⟨Fs.take n,by simp [X.win,h1],h3.sublist hsub,fun b hb=>h4 b (hsub.subset hb),fun i x Fi hx hi=>?_⟩;simp only[X.win,List.drop_zero,List.getElem?_take] at hx hi;split at hx
    · rename_i hlt;rw[if_pos hlt] at hi;exact h2 i x Fi hx hi
    · cases hx
structure Deep (w:World) (S:Foot) (J:Con) (g:Hp) (n0:Nat) (Mo:Nat->Prop) (LT:Nat->Option (Nat×Nat×Nat)) (O:Nat->List Nat):Prop where
 row:∀ k t xs b o,g k=some (.rows t xs .own)->J k=some (b,o)->DRow w S n0 t b xs (O k)
 off:∀ k b,b∈O k->¬ S b/\Mo b/\b<w.heap.size/\(∀ k' ob o,g k'=some ob->ob.live=true->J k'≠some (b,o))/\∀ k' o n,LT k'≠some (b,o,n)
 one:∀ k k' b,b∈O k->b∈O k'->k=k'
theorem Deep.none {w:World} {S:Foot} {J:Con} {g:Hp} {n0:Nat} {Mo:Nat->Prop} {LT:Nat->Option (Nat×Nat×Nat)}
  (h:∀ k t xs,g k=some (.rows t xs .own)->t.flat=true):∃ O,Deep w S J g n0 Mo LT O :=
 ⟨fun _=>[],fun k t xs b o hk _=>.inl (h k t xs hk),fun k b hb=>by simp at hb,fun k k' b hb=>by simp at hb⟩
theorem Deep.heap {w w':World} {S:Foot} {J:Con} {g:Hp} {n0:Nat} {Mo:Nat->Prop} {LT:Nat->Option (Nat×Nat×Nat)} {O:Nat->List Nat} (D:Deep w S J g n0 Mo LT O) (h:w'.heap=w.heap):Deep w' S J g n0 Mo LT O :=
 ⟨fun k t xs b o hk hb=>(D.row k t xs b o hk hb).mono (fun _ h=>h) (fun _ _=>by rw[h]) (fun _ _=>by rw[h]) (by rw[h]),fun k b hb=>by rw[h];exact D.off k b hb,D.one⟩
structure Told where
 gb:List Nat
 G:World->Prop
 hG:∀ w w',(∀ b∈gb,w'.heap[b]?=w.heap[b]?)->G w->G w'
structure Rel (T:Told) (B:Base) (w:World) (S:Foot) (J:Con) (s:St) (a:Act):Prop where
 defers:a.defers=[]
 size:a.tmps.size=B.nt
 tmps:∀ n pv,get s.e n=some pv->∃ v,a.tmps[n]?=some v/\TRel w S J (get s.h) pv v
 obs:∀ k ob,get s.h k=some ob->ORel w S J (get s.h) B.Mo k ob
 inj:∀ k k' ob ob' b o o',get s.h k=some ob->ob.live=true->get s.h k'=some ob'->ob'.live=true->J k=some (b,o)->J k'=some (b,o')->k=k'
 Slt:∀ b,S b->b<w.heap.size
 S0:∀ b,B.S0 b->S b
 Snew:∀ b,S b->B.S0 b\/B.Mo b
 olds:∀ b,b<B.w0.heap.size->¬ B.M b->w.heap[b]?=B.w0.heap[b]?
 grow:B.w0.heap.size<=w.heap.size
 lent:∀ k b o n,B.LT k=some (b,o,n)->∃ c0 c,Blk B.w0 b c0/\Blk w b c/\c.size=c0.size/\∀ j,(j<o\/o+n<=j)->c[j]?=c0[j]?
 lentk:∀ k t xs,get s.h k=some (.rows t xs .lent)->(J k=none/\B.LT k=none)\/∃ b o,B.LT k=some (b,o,xs.length*t.size)/\J k=some (b,o)
 told:T.G w
 toldS:∀ b∈T.gb,B.S0 b
 ltinj:∀ k k' b o n o' n',B.LT k=some (b,o,n)->B.LT k'=some (b,o',n')->k=k'
 sep:∀ k ob b o,get s.h k=some ob->ob.live=true->(∀ t xs,ob≠.rows t xs .lent)->J k=some (b,o)->∀ k' o' n,B.LT k'≠some (b,o',n)
 calm:Calm B.w0 w
 boxk:∀ k l,get s.h k=some (.box l)->qmv B w J k l
 deep:∃ O,Deep w S J (get s.h) B.w0.heap.size B.Mo B.LT O
 pbn:B.pb.length<=4
variable {T:Told} {B:Base} {w w':World} {S S':Foot} {J J':Con} {s:St} {a:Act}
theorem Rel.rows (R:Rel T B w S J s a):∀ k t xs m b o,get s.h k=some (.rows t xs m)->J k=some (b,o)->qdG (Cell w S t) t.size w b o xs:=by
 intro k t xs m b o hk hb;have:=R.obs k _ hk;simp only[ORel,hb] at this;exact this.2.1
theorem Rel.blk (R:Rel T B w S J s a) {k:Nat} {ob:Ob} (hk:get s.h k=some ob) (hg:ob≠.gone) {b o:Nat} (hb:J k=some (b,o)):∃ c,Blk w b c:=by
 have:=R.obs k _ hk;cases ob with
 | gone=>exact absurd rfl hg
 | box l=>obtain⟨b',c,h1,h2,_⟩:=this;rw[hb] at h1;injection h1 with h1;injection h1 with h1 _;subst h1;exact⟨c,h2⟩
 | rows t xs m=>simp only[ORel,hb] at this;obtain⟨⟨c,hc,_⟩,_⟩:=this;exact⟨c,hc⟩
theorem Rel.liveS (R:Rel T B w S J s a) {k:Nat} {ob:Ob} (hk:get s.h k=some ob) (hl:ob.live=true) {b o:Nat} (hb:J k=some (b,o)):¬ S b/\B.Mo b:=by
 have:=R.obs k _ hk;cases ob with
 | gone=>cases hl
 | box l=>obtain⟨b',c,h1,_,_,h4,h5⟩:=this;rw[hb] at h1;injection h1 with h1;injection h1 with h1 _;subst h1;exact⟨h4,h5⟩
 | rows t xs m =>
  simp only[ORel,hb] at this;cases m with
  | frz=>simp [Ob.live] at hl
  | own=>exact this.2.2.2.1 (by simp)
  | lent=>exact this.2.2.2.1 (by simp)
theorem Rel.frzS (R:Rel T B w S J s a) {k:Nat} {t:Ty} {xs:List t.den} (hk:get s.h k=some (.rows t xs .frz)) {b o:Nat} (hb:J k=some (b,o)):S b:=by
 have:=R.obs k _ hk;simp only[ORel,hb] at this;exact this.2.2.1 (by simp)
theorem Rel.heap (R:Rel T B w S J s a) (h:w'.heap=w.heap) (h0:Calm w w'):Rel T B w' S J s a:=by
 have E:Evo w w' S S J J (get s.h) (get s.h):=⟨fun _ h=>h,fun _ _=>by rw[h],fun k ob hk=>⟨ob,hk,by
   cases ob with
   | gone=>trivial
   | box l=>rfl
   | rows t xs m=>exact⟨rfl,rfl,rfl,fun hm=>⟨hm,fun b o c _ hb=>⟨c,hb.mono (by rw[h]),rfl⟩⟩,fun _ _ _ _=>by rw[h]⟩⟩⟩
 refine⟨R.defers,R.size,fun n pv hn=>?_,fun k ob hk=>?_,R.inj,fun b hb=>by rw[h];exact R.Slt b hb,R.S0,R.Snew,fun b h1 h2=>by rw[h];exact R.olds b h1 h2,by rw[h];exact R.grow,fun k b o n hk=>?_,R.lentk,T.hG w w' (fun b _=>by rw[h]) R.told,R.toldS,R.ltinj,R.sep,R.calm.trans h0,fun k l hk=>(R.boxk k l hk).congr rfl fun _ _=>by rw[h],R.deep.imp fun _ D=>D.heap h,R.pbn⟩
 · obtain ⟨v, h1, h2⟩ := R.tmps n pv hn;exact⟨v,h1,h2.evo E⟩
 · have := R.obs k ob hk;cases ob with
   | gone=>trivial
   | box l=>obtain⟨b,c,h1,h2,h3,h4⟩:=this;exact⟨b,c,h1,h2.mono (by rw[h]),h3.imp fun _ _ h=>h.evo E,h4⟩
   | rows t xs m =>
    simp only[ORel] at this ⊢;cases hb:J k with
    | none=>rw[hb] at this;exact this
    | some p =>
     obtain⟨b,o⟩:=p;rw[hb] at this;obtain⟨⟨c,h1,h2⟩,h3,h4⟩:=this;exact⟨⟨c,h1.mono (by rw[h]),h2⟩,h3.mono (fun _ h=>h) (fun _ _=>by rw[h]) (by rw[h]),h4⟩
 · obtain ⟨c0, c, h1, h2, h3⟩ := R.lent k b o n hk;exact⟨c0,c,h1,h2.mono (by rw[h]),h3⟩
theorem Rel.val (R:Rel T B w S J s a) {d:Nat} {pv:PV} {v:Value} (hd:d<B.nt) (hv:TRel w S J (get s.h) pv v):Rel T B w S J ⟨(d,pv)::s.e,s.h⟩ (a.put (some d) v):=by
 refine⟨R.defers,by simp [Act.put,R.size],fun n p hn=>?_,R.obs,R.inj,R.Slt,R.S0,R.Snew,R.olds,R.grow,R.lent,R.lentk,R.told,R.toldS,R.ltinj,R.sep,R.calm,R.boxk,R.deep,R.pbn⟩;rw[q6q] at hn;split at hn
 · rename_i e;subst e;injection hn with hn
   subst hn;exact⟨v,by simp [Act.put,R.size,hd],hv⟩
 · rename_i e;obtain⟨u,h1,h2⟩:=R.tmps n p hn;exact⟨u,by simp only[Act.put];rw[Array.getElem?_setIfInBounds_ne e];exact h1,h2⟩
theorem Deep.gen {n0:Nat} {Mo:Nat->Prop} {LT:Nat->Option (Nat×Nat×Nat)} {O:Nat->List Nat} {h:List (Nat×Ob)} (D:Deep w S J (get h) n0 Mo LT O) (hw:List (Nat×Ob)) (W:Nat->Prop)
   (h1:∀ b,b<w.heap.size->¬ W b->w'.heap[b]?=w.heap[b]?) (hg:w.heap.size<=w'.heap.size)
   (h2:∀ b,W b->∃ k ob o,k∈qab hw/\get h k=some ob/\ob.live=true/\J k=some (b,o))
   (h3:∀ k ob,get h k=some ob->k ∉ qab hw->J' k=J k)
   (E:Evo w w' S S' J J' (get h) (get (hw++h))) (hblk:∀ k ob b o,get h k=some ob->ob≠.gone->k ∉ qab hw->J k=some (b,o)->w'.heap[b]?=w.heap[b]?)
   (hS:∀ b,S' b->S b\/(∃ k ob o,get h k=some ob/\ob.live=true/\J k=some (b,o))\/w.heap.size<=b)
   (hN:∀ k ob b o,k∈qab hw->get (hw++h) k=some ob->ob.live=true->J' k=some (b,o)->(∃ k0 ob0 o0,get h k0=some ob0/\ob0.live=true/\J k0=some (b,o0))\/w.heap.size<=b)
   (hF:∀ k t xs,k∈qab hw->get (hw++h) k=some (.rows t xs .own)->t.flat=true\/xs=[]) :
   ∃ O',Deep w' S' J' (get (hw++h)) n0 Mo LT O':=by
 have hnot:∀ k,k ∉ qab hw->get (hw++h) k=get h k:=fun k hk=>by rw[q2q,q11q hk];simp
 have hsame:∀ k b,b∈O k->w'.heap[b]?=w.heap[b]?:=fun k b hb=>by
   obtain⟨a1,a2,a3,a4,a5⟩:=D.off k b hb;refine h1 b a3 fun hW=>?_
   obtain⟨k1,ob,o,_,e1,e2,e3⟩:=h2 b hW;exact a4 k1 ob o e1 e2 e3
 refine⟨fun k=>if k∈qab hw then [] else O k,fun k t xs b o hk hb=>?_,fun k b hb=>?_,fun k k' b hb hb'=>?_⟩
 · by_cases hm : k ∈ qab hw
   · simp only [if_pos hm];rcases hF k t xs hm hk with hf | rfl
     · exact .inl hf
     · exact .inr ⟨[],rfl,List.nodup_nil,fun b hb=>by simp at hb,fun i x Fi hx=>by simp at hx⟩
   · simp only [if_neg hm];have hk0:get h k=some (.rows t xs .own):=by rw[<- hnot k hm];exact hk
     have hb0:J k=some (b,o):=by rw[<- h3 k _ hk0 hm];exact hb
     exact(D.row k t xs b o hk0 hb0).mono E.sub E.keep (fun b hb=>hsame k b hb) (hblk k _ b o hk0 (by simp) hm hb0)
 · by_cases hm : k ∈ qab hw
   · simp [hm] at hb
   · simp only [if_neg hm] at hb;obtain⟨a1,a2,a3,a4,a5⟩:=D.off k b hb;refine⟨fun hS'=>?_,a2,Nat.lt_of_lt_of_le a3 hg,fun k' ob o hk' hl hb'=>?_,a5⟩
     · rcases hS b hS' with h | ⟨k1, ob, o, e1, e2, e3⟩ | h
       · exact a1 h
       · exact a4 k1 ob o e1 e2 e3
       · omega
     · by_cases hm' : k' ∈ qab hw
       · rcases hN k' ob b o hm' hk' hl hb' with ⟨k1, ob1, o1, e1, e2, e3⟩ | h
         · exact a4 k1 ob1 o1 e1 e2 e3
         · omega
       · have hk0 : get h k' = some ob := by rw [<- hnot k' hm']; exact hk'
         exact a4 k' ob o hk0 hl (by rw[<- h3 k' _ hk0 hm'];exact hb')
 · by_cases hm : k ∈ qab hw
   · simp [hm] at hb
   · by_cases hm' : k' ∈ qab hw
     · simp [hm'] at hb'
     · simp only [if_neg hm] at hb;simp only[if_neg hm'] at hb';exact D.one k k' b hb hb'
theorem Deep.gen3 {n0:Nat} {Mo:Nat->Prop} {LT:Nat->Option (Nat×Nat×Nat)} {O:Nat->List Nat} {h:List (Nat×Ob)} (D:Deep w S J (get h) n0 Mo LT O) (hw:List (Nat×Ob)) (W:Nat->Prop) (ψ:Nat->List Nat)
   (h1:∀ b,b<w.heap.size->¬ W b->w'.heap[b]?=w.heap[b]?) (hg:w.heap.size<=w'.heap.size)
   (h2:∀ b,W b->(∃ k ob o,k∈qab hw/\get h k=some ob/\ob.live=true/\J k=some (b,o))\/∃ k∈qab hw,b∈O k)
   (h3:∀ k ob,get h k=some ob->k ∉ qab hw->J' k=J k)
   (E:Evo w w' S S' J J' (get h) (get (hw++h))) (hblk:∀ k ob b o,get h k=some ob->ob≠.gone->k ∉ qab hw->J k=some (b,o)->w'.heap[b]?=w.heap[b]?)
   (hS:∀ b,S' b->S b\/(∃ k ob o,get h k=some ob/\ob.live=true/\J k=some (b,o))\/w.heap.size<=b)
   (hN:∀ k ob b o,k∈qab hw->get (hw++h) k=some ob->ob.live=true->J' k=some (b,o)->(∃ k0 ob0 o0,get h k0=some ob0/\ob0.live=true/\J k0=some (b,o0))\/w.heap.size<=b\/∃ k0∈qab hw,b∈O k0)
   (hR:∀ k t xs b o,k∈qab hw->get (hw++h) k=some (.rows t xs .own)->J' k=some (b,o)->DRow w' S' n0 t b xs (ψ k))
   (hP:∀ k b,k∈qab hw->b∈ψ k->(¬ S' b/\Mo b/\b<w'.heap.size/\(∀ k' ob o,get (hw++h) k'=some ob->ob.live=true->J' k'≠some (b,o))/\∀ k' o n,LT k'≠some (b,o,n))/\∀ k',k' ∉ qab hw->b ∉ O k')
   (hI:∀ k k' b,k∈qab hw->k'∈qab hw->b∈ψ k->b∈ψ k'->k=k') :
   ∃ O',Deep w' S' J' (get (hw++h)) n0 Mo LT O':=by
 have hnot:∀ k,k ∉ qab hw->get (hw++h) k=get h k:=fun k hk=>by rw[q2q,q11q hk];simp
 have hsame:∀ k b,k ∉ qab hw->b∈O k->w'.heap[b]?=w.heap[b]?:=fun k b hkn hb=>by
   obtain⟨a1,a2,a3,a4,a5⟩:=D.off k b hb;refine h1 b a3 fun hW=>?_
   rcases h2 b hW with ⟨k1,ob,o,_,e1,e2,e3⟩ | ⟨k1,hk1,e1⟩
   · exact a4 k1 ob o e1 e2 e3
   · have := D.one k k1 b hb e1;subst this;exact hkn hk1
 refine⟨fun k=>if k∈qab hw then ψ k else O k,fun k t xs b o hk hb=>?_,fun k b hb=>?_,fun k k' b hb hb'=>?_⟩
 · by_cases hm : k ∈ qab hw
   · simp only [if_pos hm];exact hR k t xs b o hm hk hb
   · simp only [if_neg hm];have hk0:get h k=some (.rows t xs .own):=by rw[<- hnot k hm];exact hk
     have hb0:J k=some (b,o):=by rw[<- h3 k _ hk0 hm];exact hb
     exact(D.row k t xs b o hk0 hb0).mono E.sub E.keep (fun b hb=>hsame k b hm hb) (hblk k _ b o hk0 (by simp) hm hb0)
 · by_cases hm : k ∈ qab hw
   · simp only [if_pos hm] at hb;exact(hP k b hm hb).1
   · simp only [if_neg hm] at hb;obtain⟨a1,a2,a3,a4,a5⟩:=D.off k b hb;refine⟨fun hS'=>?_,a2,Nat.lt_of_lt_of_le a3 hg,fun k' ob o hk' hl hb'=>?_,a5⟩
     · rcases hS b hS' with h | ⟨k1, ob, o, e1, e2, e3⟩ | h
       · exact a1 h
       · exact a4 k1 ob o e1 e2 e3
       · omega
     · by_cases hm' : k' ∈ qab hw
       · rcases hN k' ob b o hm' hk' hl hb' with ⟨k1, ob1, o1, e1, e2, e3⟩ | h | ⟨k0, h0, h5⟩
         · exact a4 k1 ob1 o1 e1 e2 e3
         · omega
         · have := D.one k k0 b hb h5;subst this;exact hm h0
       · have hk0 : get h k' = some ob := by rw [<- hnot k' hm']; exact hk'
         exact a4 k' ob o hk0 hl (by rw[<- h3 k' _ hk0 hm'];exact hb')
 · by_cases hm : k ∈ qab hw
   · simp only [if_pos hm] at hb;by_cases hm':k'∈qab hw
     · simp only [if_pos hm'] at hb';exact hI k k' b hm hm' hb hb'
     · simp only [if_neg hm'] at hb';exact absurd hb' ((hP k b hm hb).2 k' hm')
   · simp only [if_neg hm] at hb;by_cases hm':k'∈qab hw
     · simp only [if_pos hm'] at hb';exact absurd hb ((hP k' b hm' hb').2 k hm)
     · simp only [if_neg hm'] at hb';exact D.one k k' b hb hb'
theorem Deep.gen2 {n0:Nat} {Mo:Nat->Prop} {LT:Nat->Option (Nat×Nat×Nat)} {O:Nat->List Nat} {h:List (Nat×Ob)} (D:Deep w S J (get h) n0 Mo LT O) (hw:List (Nat×Ob)) (W:Nat->Prop) (ψ:Nat->List Nat)
  (h1:∀ b,b<w.heap.size->¬ W b->w'.heap[b]?=w.heap[b]?) (hg:w.heap.size<=w'.heap.size)
  (h2:∀ b,W b->∃ k ob o,k∈qab hw/\get h k=some ob/\ob.live=true/\J k=some (b,o))
  (h3:∀ k ob,get h k=some ob->k ∉ qab hw->J' k=J k)
  (E:Evo w w' S S' J J' (get h) (get (hw++h))) (hblk:∀ k ob b o,get h k=some ob->ob≠.gone->k ∉ qab hw->J k=some (b,o)->w'.heap[b]?=w.heap[b]?)
  (hS:∀ b,S' b->S b\/(∃ k ob o,get h k=some ob/\ob.live=true/\J k=some (b,o))\/w.heap.size<=b)
  (hN:∀ k ob b o,k∈qab hw->get (hw++h) k=some ob->ob.live=true->J' k=some (b,o)->(∃ k0 ob0 o0,get h k0=some ob0/\ob0.live=true/\J k0=some (b,o0))\/w.heap.size<=b\/∃ k0∈qab hw,b∈O k0)
  (hR:∀ k t xs b o,k∈qab hw->get (hw++h) k=some (.rows t xs .own)->J' k=some (b,o)->DRow w' S' n0 t b xs (ψ k))
  (hP:∀ k b,k∈qab hw->b∈ψ k->(¬ S' b/\Mo b/\b<w'.heap.size/\(∀ k' ob o,get (hw++h) k'=some ob->ob.live=true->J' k'≠some (b,o))/\∀ k' o n,LT k'≠some (b,o,n))/\∀ k',k' ∉ qab hw->b ∉ O k')
  (hI:∀ k k' b,k∈qab hw->k'∈qab hw->b∈ψ k->b∈ψ k'->k=k') :
  ∃ O',Deep w' S' J' (get (hw++h)) n0 Mo LT O' :=
 D.gen3 hw W ψ h1 hg (fun b hb=>.inl (h2 b hb)) h3 E hblk hS hN hR hP hI
theorem Rel.genDE (R:Rel T B w S J s a) {O:Nat->List Nat} (D:Deep w S J (get s.h) B.w0.heap.size B.Mo B.LT O) (h0:Calm w w') (hw:List (Nat×Ob)) (W:Nat->Prop)
   (h1:∀ b,b<w.heap.size->¬ W b->w'.heap[b]?=w.heap[b]?) (hg:w.heap.size<=w'.heap.size)
   (h2:∀ b,W b->(∃ k ob o,k∈qab hw/\get s.h k=some ob/\ob.live=true/\J k=some (b,o))\/∃ k∈qab hw,b∈O k)
   (h3:∀ k ob,get s.h k=some ob->k ∉ qab hw->J' k=J k)
   (h4:∀ b,S b->S' b) (h4n:∀ b,S' b->S b\/B.Mo b) (h4l:∀ b,S' b->b<w'.heap.size)
   (h4k:∀ k ob b o,get s.h k=some ob->k ∉ qab hw->ob.live=true->J k=some (b,o)->¬ S' b)
   (h5:∀ k ob,k∈qab hw->get (hw++s.h) k=some ob->Evo w w' S S' J J' (get s.h) (get (hw++s.h))->ORel w' S' J' (get (hw++s.h)) B.Mo k ob)
   (h6:∀ k ob,k∈qab hw->get s.h k=some ob->∃ ob',get (hw++s.h) k=some ob'/\ObC w w' J J' k ob ob')
   (h7:∀ k k' ob ob' b o o',k∈qab hw->get (hw++s.h) k=some ob->ob.live=true->get (hw++s.h) k'=some ob'->ob'.live=true->J' k=some (b,o)->J' k'=some (b,o')->k=k')
   (h8:∀ k b o n,B.LT k=some (b,o,n)->W b->∀ c,Blk w b c->∃ c',Blk w' b c'/\c'.size=c.size/\∀ j,(j<o\/o+n<=j)->c'[j]?=c[j]?)
   (h9:∀ k t xs,k∈qab hw->get (hw++s.h) k=some (.rows t xs .lent)->∃ xs0,get s.h k=some (.rows t xs0 .lent)/\xs.length=xs0.length/\J' k=J k)
   (h10:∀ k ob b o,k∈qab hw->get (hw++s.h) k=some ob->ob.live=true->(∀ t xs,ob≠.rows t xs .lent)->J' k=some (b,o)->∀ k' o' n,B.LT k'≠some (b,o',n))
   (h11:∀ k l,k∈qab hw->get (hw++s.h) k=some (.box l)->qmv B w' J' k l)
   (hD:Evo w w' S S' J J' (get s.h) (get (hw++s.h))->(∀ k ob b o,get s.h k=some ob->ob≠.gone->k ∉ qab hw->J k=some (b,o)->w'.heap[b]?=w.heap[b]?) ->
     ∃ O',Deep w' S' J' (get (hw++s.h)) B.w0.heap.size B.Mo B.LT O') :
   Rel T B w' S' J' ⟨s.e,hw++s.h⟩ a/\Evo w w' S S' J J' (get s.h) (get (hw++s.h)):=by
 have hSW:∀ b,S b->¬ W b:=fun b hb hW=>by
   rcases h2 b hW with ⟨k,ob,o,_,hk,hl,hb'⟩ | ⟨k,_,hφ⟩
   · exact(R.liveS hk hl hb').1 hb
   · exact(D.off k b hφ).1 hb
 have hkeep:∀ b,S b->w'.heap[b]?=w.heap[b]?:=fun b hb=>h1 b (R.Slt b hb) (hSW b hb)
 have hnot:∀ k,k ∉ qab hw->get (hw++s.h) k=get s.h k:=fun k hk=>by rw[q2q,q11q hk];simp
 have hblk:∀ k ob b o,get s.h k=some ob->ob≠.gone->k ∉ qab hw->J k=some (b,o)->w'.heap[b]?=w.heap[b]?:=by
   intro k ob b o hk hgn hn hb;obtain⟨c,hc⟩:=R.blk hk hgn hb;cases hl:ob.live with
   | true =>
     refine h1 b hc.lt fun hW=>?_
     rcases h2 b hW with ⟨k',ob',o',hm,hk',hl',hb'⟩ | ⟨k',_,hφ⟩
     · exact hn (R.inj k k' ob ob' b o o' hk hl hk' hl' hb hb' ▸ hm)
     · exact(D.off k' b hφ).2.2.2.1 k ob o hk hl hb
   | false =>
     cases ob with
     | gone=>exact absurd rfl hgn
     | box l=>cases hl
     | rows t xs m =>
       cases m with
       | frz=>exact hkeep b (R.frzS hk hb)
       | own=>simp [Ob.live] at hl
       | lent=>simp [Ob.live] at hl
 have E:Evo w w' S S' J J' (get s.h) (get (hw++s.h)):=by
   refine⟨h4,hkeep,fun k ob hk=>?_⟩;by_cases hm:k∈qab hw
   · exact h6 k ob hm hk
   · refine ⟨ob, by rw [hnot k hm]; exact hk, ?_⟩;cases ob with
     | gone=>trivial
     | box l=>exact h3 k _ hk hm
     | rows t xs m =>
       exact⟨rfl,rfl,h3 k _ hk hm,fun hmo=>⟨hmo,fun b o c hb hc=>⟨c,hc.mono (hblk k _ b o hk (by simp) hm hb),rfl⟩⟩,fun _ b o hb=>hblk k _ b o hk (by simp) hm hb⟩
 refine⟨?_,E⟩;refine⟨R.defers,R.size,fun n pv hn=>?_,fun k ob hk=>?_,?_,h4l,fun b hb=>h4 b (R.S0 b hb),fun b hb=>(h4n b hb).elim (R.Snew b) .inr,fun b hb hM=>?_,Nat.le_trans R.grow hg,fun k b o n hk=>?_,fun k t xs hk=>?_,?_,R.toldS,R.ltinj,fun k ob b o hk hl hnl hb=>?_,R.calm.trans h0,fun k l hk=>?_,hD E hblk,R.pbn⟩
 · obtain ⟨v, hv1, hv2⟩ := R.tmps n pv hn;exact⟨v,hv1,hv2.evo E⟩
 · by_cases hm : k ∈ qab hw
   · exact h5 k ob hm hk E
   · have hk0 : get s.h k = some ob := by rw [<- hnot k hm]; exact hk
     have h0:=R.obs k ob hk0;cases ob with
     | gone=>trivial
     | box l =>
       obtain⟨b,c,hb,hc,hl,hS,hM⟩:=h0;exact⟨b,c,by rw[h3 k _ hk0 hm];exact hb,hc.mono (hblk k _ b 0 hk0 (by simp) hm hb),hl.imp fun _ _ h=>h.evo E,h4k k _ b 0 hk0 hm rfl hb,hM⟩
     | rows t xs m =>
       simp only[ORel] at h0 ⊢;rw[h3 k _ hk0 hm];cases hb:J k with
       | none=>rw[hb] at h0;exact h0
       | some p =>
         obtain⟨b,o⟩:=p;rw[hb] at h0;obtain⟨⟨c,hc,hsz⟩,hr,hf,hl,ho⟩:=h0;have hbk:=hblk k _ b o hk0 (by simp) hm hb;exact⟨⟨c,hc.mono hbk,hsz⟩,hr.mono h4 hkeep hbk,fun e=>h4 b (hf e),fun e=>⟨h4k k _ b o hk0 hm (by cases m<;>first | rfl | exact absurd rfl e) hb,(hl e).2⟩,ho⟩
 · intro k k' ob ob' b o o' hk hl hk' hl' hb hb';by_cases hm:k∈qab hw
   · exact h7 k k' ob ob' b o o' hm hk hl hk' hl' hb hb'
   · by_cases hm' : k' ∈ qab hw
     · exact(h7 k' k ob' ob b o' o hm' hk' hl' hk hl hb' hb).symm
     · have hk0 : get s.h k = some ob := by rw [<- hnot k hm]; exact hk
       have hk0':get s.h k'=some ob':=by rw[<- hnot k' hm'];exact hk'
       exact R.inj k k' ob ob' b o o' hk0 hl hk0' hl' (by rw[<- h3 k _ hk0 hm];exact hb) (by rw[<- h3 k' _ hk0' hm'];exact hb')
 · have hW : ¬ W b := fun hW => by
     have:B.Mo b:=by
       rcases h2 b hW with ⟨k,ob,o,_,hk,hl,hb'⟩ | ⟨k,_,hφ⟩
       · exact(R.liveS hk hl hb').2
       · exact(D.off k b hφ).2.1
     rcases this with h | h
     · omega
     · exact hM h
   rw[h1 b (Nat.lt_of_lt_of_le hb R.grow) hW];exact R.olds b hb hM
 · obtain ⟨c0, c, hc0, hc, hsz, hout⟩ := R.lent k b o n hk;by_cases hW:W b
   · obtain ⟨c', hc', hs', ho'⟩ := h8 k b o n hk hW c hc;exact⟨c0,c',hc0,hc',by omega,fun j hj=>by rw[ho' j hj];exact hout j hj⟩
   · exact⟨c0,c,hc0,hc.mono (h1 b hc.lt hW),hsz,hout⟩
 · by_cases hm : k ∈ qab hw
   · obtain ⟨xs0, hx0, hl, hb⟩ := h9 k t xs hm hk;rcases R.lentk k t xs0 hx0 with hn | ⟨b,o,hL,hb0⟩
     · exact .inl ⟨by rw[hb];exact hn.1,hn.2⟩
     · exact .inr ⟨b,o,by rw[hl];exact hL,by rw[hb];exact hb0⟩
   · have hk0 : get s.h k = some (.rows t xs .lent) := by rw [<- hnot k hm]; exact hk
     rcases R.lentk k t xs hk0 with hn | ⟨b,o,hL,hb0⟩
     · exact .inl ⟨by rw[h3 k _ hk0 hm];exact hn.1,hn.2⟩
     · exact .inr ⟨b,o,hL,by rw[h3 k _ hk0 hm];exact hb0⟩
 · exact T.hG w w' (fun b hb=>hkeep b (R.S0 b (R.toldS b hb))) R.told
 · by_cases hm : k ∈ qab hw
   · exact h10 k ob b o hm hk hl hnl hb
   · have hk0 : get s.h k = some ob := by rw [<- hnot k hm]; exact hk
     exact R.sep k ob b o hk0 hl hnl (by rw[<- h3 k _ hk0 hm];exact hb)
 · by_cases hm : k ∈ qab hw
   · exact h11 k l hm hk
   · have hk0 : get s.h k = some (.box l) := by rw [<- hnot k hm]; exact hk
     exact(R.boxk k l hk0).congr (h3 k _ hk0 hm) fun p hp=>hblk k _ p 0 hk0 (by simp) hm hp
theorem Rel.genD (R:Rel T B w S J s a) (h0:Calm w w') (hw:List (Nat×Ob)) (W:Nat->Prop)
  (h1:∀ b,b<w.heap.size->¬ W b->w'.heap[b]?=w.heap[b]?) (hg:w.heap.size<=w'.heap.size)
  (h2:∀ b,W b->∃ k ob o,k∈qab hw/\get s.h k=some ob/\ob.live=true/\J k=some (b,o))
  (h3:∀ k ob,get s.h k=some ob->k ∉ qab hw->J' k=J k)
  (h4:∀ b,S b->S' b) (h4n:∀ b,S' b->S b\/B.Mo b) (h4l:∀ b,S' b->b<w'.heap.size)
  (h4k:∀ k ob b o,get s.h k=some ob->k ∉ qab hw->ob.live=true->J k=some (b,o)->¬ S' b)
  (h5:∀ k ob,k∈qab hw->get (hw++s.h) k=some ob->Evo w w' S S' J J' (get s.h) (get (hw++s.h))->ORel w' S' J' (get (hw++s.h)) B.Mo k ob)
  (h6:∀ k ob,k∈qab hw->get s.h k=some ob->∃ ob',get (hw++s.h) k=some ob'/\ObC w w' J J' k ob ob')
  (h7:∀ k k' ob ob' b o o',k∈qab hw->get (hw++s.h) k=some ob->ob.live=true->get (hw++s.h) k'=some ob'->ob'.live=true->J' k=some (b,o)->J' k'=some (b,o')->k=k')
  (h8:∀ k b o n,B.LT k=some (b,o,n)->W b->∀ c,Blk w b c->∃ c',Blk w' b c'/\c'.size=c.size/\∀ j,(j<o\/o+n<=j)->c'[j]?=c[j]?)
  (h9:∀ k t xs,k∈qab hw->get (hw++s.h) k=some (.rows t xs .lent)->∃ xs0,get s.h k=some (.rows t xs0 .lent)/\xs.length=xs0.length/\J' k=J k)
  (h10:∀ k ob b o,k∈qab hw->get (hw++s.h) k=some ob->ob.live=true->(∀ t xs,ob≠.rows t xs .lent)->J' k=some (b,o)->∀ k' o' n,B.LT k'≠some (b,o',n))
  (h11:∀ k l,k∈qab hw->get (hw++s.h) k=some (.box l)->qmv B w' J' k l)
  (hD : ∀ O, Deep w S J (get s.h) B.w0.heap.size B.Mo B.LT O->Evo w w' S S' J J' (get s.h) (get (hw ++ s.h))->(∀ k ob b o, get s.h k = some ob->ob ≠ .gone->k ∉ qab hw->J k = some (b, o)->w'.heap[b]? = w.heap[b]?) ->
   ∃ O',Deep w' S' J' (get (hw++s.h)) B.w0.heap.size B.Mo B.LT O') :
  Rel T B w' S' J' ⟨s.e,hw++s.h⟩ a:=by
 obtain⟨O,D⟩:=R.deep;exact(R.genDE D h0 hw W h1 hg (fun b hb=>.inl (h2 b hb)) h3 h4 h4n h4l h4k h5 h6 h7 h8 h9 h10 h11 (hD O D)).1
theorem Rel.gen (R:Rel T B w S J s a) (h0:Calm w w') (hw:List (Nat×Ob)) (W:Nat->Prop)
  (h1:∀ b,b<w.heap.size->¬ W b->w'.heap[b]?=w.heap[b]?) (hg:w.heap.size<=w'.heap.size)
  (h2:∀ b,W b->∃ k ob o,k∈qab hw/\get s.h k=some ob/\ob.live=true/\J k=some (b,o))
  (h3:∀ k ob,get s.h k=some ob->k ∉ qab hw->J' k=J k)
  (h4:∀ b,S b->S' b) (h4n:∀ b,S' b->S b\/B.Mo b) (h4l:∀ b,S' b->b<w'.heap.size)
  (h4k:∀ k ob b o,get s.h k=some ob->k ∉ qab hw->ob.live=true->J k=some (b,o)->¬ S' b)
  (h5:∀ k ob,k∈qab hw->get (hw++s.h) k=some ob->Evo w w' S S' J J' (get s.h) (get (hw++s.h))->ORel w' S' J' (get (hw++s.h)) B.Mo k ob)
  (h6:∀ k ob,k∈qab hw->get s.h k=some ob->∃ ob',get (hw++s.h) k=some ob'/\ObC w w' J J' k ob ob')
  (h7:∀ k k' ob ob' b o o',k∈qab hw->get (hw++s.h) k=some ob->ob.live=true->get (hw++s.h) k'=some ob'->ob'.live=true->J' k=some (b,o)->J' k'=some (b,o')->k=k')
  (h8:∀ k b o n,B.LT k=some (b,o,n)->W b->∀ c,Blk w b c->∃ c',Blk w' b c'/\c'.size=c.size/\∀ j,(j<o\/o+n<=j)->c'[j]?=c[j]?)
  (h9:∀ k t xs,k∈qab hw->get (hw++s.h) k=some (.rows t xs .lent)->∃ xs0,get s.h k=some (.rows t xs0 .lent)/\xs.length=xs0.length/\J' k=J k)
  (h10:∀ k ob b o,k∈qab hw->get (hw++s.h) k=some ob->ob.live=true->(∀ t xs,ob≠.rows t xs .lent)->J' k=some (b,o)->∀ k' o' n,B.LT k'≠some (b,o',n))
  (h11:∀ k l,k∈qab hw->get (hw++s.h) k=some (.box l)->qmv B w' J' k l)
  (hS:∀ b,S' b->S b\/(∃ k ob o,get s.h k=some ob/\ob.live=true/\J k=some (b,o))\/w.heap.size<=b)
  (hN:∀ k ob b o,k∈qab hw->get (hw++s.h) k=some ob->ob.live=true->J' k=some (b,o)->(∃ k0 ob0 o0,get s.h k0=some ob0/\ob0.live=true/\J k0=some (b,o0))\/w.heap.size<=b)
  (hF:∀ k t xs,k∈qab hw->get (hw++s.h) k=some (.rows t xs .own)->t.flat=true\/xs=[]) :
  Rel T B w' S' J' ⟨s.e,hw++s.h⟩ a :=
 R.genD h0 hw W h1 hg h2 h3 h4 h4n h4l h4k h5 h6 h7 h8 h9 h10 h11 fun _ D E hblk=>D.gen hw W h1 hg h2 h3 E hblk hS hN hF
theorem Rel.genRE (R:Rel T B w S J s a) (h0:Calm w w') (hw:List (Nat×Ob)) (W:Nat->Prop)
   (h1:∀ b,b<w.heap.size->¬ W b->w'.heap[b]?=w.heap[b]?) (hg:w.heap.size<=w'.heap.size)
   (h2:∀ b,W b->∃ k ob o,k∈qab hw/\get s.h k=some ob/\ob.live=true/\J k=some (b,o))
   (h3:∀ k ob,get s.h k=some ob->k ∉ qab hw->J' k=J k)
   (h4:∀ b,S b->S' b) (h4n:∀ b,S' b->S b\/B.Mo b) (h4l:∀ b,S' b->b<w'.heap.size)
   (h4k:∀ k ob b o,get s.h k=some ob->k ∉ qab hw->ob.live=true->J k=some (b,o)->¬ S' b)
   (h5:∀ k ob,k∈qab hw->get (hw++s.h) k=some ob->Evo w w' S S' J J' (get s.h) (get (hw++s.h))->ORel w' S' J' (get (hw++s.h)) B.Mo k ob)
   (h6:∀ k ob,k∈qab hw->get s.h k=some ob->∃ ob',get (hw++s.h) k=some ob'/\ObC w w' J J' k ob ob')
   (h7:∀ k k' ob ob' b o o',k∈qab hw->get (hw++s.h) k=some ob->ob.live=true->get (hw++s.h) k'=some ob'->ob'.live=true->J' k=some (b,o)->J' k'=some (b,o')->k=k')
   (h8:∀ k b o n,B.LT k=some (b,o,n)->W b->∀ c,Blk w b c->∃ c',Blk w' b c'/\c'.size=c.size/\∀ j,(j<o\/o+n<=j)->c'[j]?=c[j]?)
   (h9:∀ k t xs,k∈qab hw->get (hw++s.h) k=some (.rows t xs .lent)->∃ xs0,get s.h k=some (.rows t xs0 .lent)/\xs.length=xs0.length/\J' k=J k)
   (h10:∀ k ob b o,k∈qab hw->get (hw++s.h) k=some ob->ob.live=true->(∀ t xs,ob≠.rows t xs .lent)->J' k=some (b,o)->∀ k' o' n,B.LT k'≠some (b,o',n))
   (h11:∀ k l,k∈qab hw->get (hw++s.h) k=some (.box l)->qmv B w' J' k l)
   (hS:∀ b,S' b->S b\/(∃ k ob o,get s.h k=some ob/\ob.live=true/\J k=some (b,o))\/w.heap.size<=b)
   (hN:∀ k ob b o,k∈qab hw->get (hw++s.h) k=some ob->ob.live=true->J' k=some (b,o)->(∃ k0 ob0 o0,get s.h k0=some ob0/\ob0.live=true/\J k0=some (b,o0))\/w.heap.size<=b)
   (ψ:Nat->List Nat)
   (hR:∀ k t xs b o,k∈qab hw->get (hw++s.h) k=some (.rows t xs .own)->J' k=some (b,o)->t.flat=true\/DRow w' S' B.w0.heap.size t b xs (ψ k))
   (hP:∀ k b,b∈ψ k->¬ S' b/\w.heap.size<=b/\b<w'.heap.size/\∀ k' ob o,k'∈qab hw->get (hw++s.h) k'=some ob->ob.live=true->J' k'≠some (b,o))
   (hI:∀ k k' b,b∈ψ k->b∈ψ k'->k=k') :
   Rel T B w' S' J' ⟨s.e,hw++s.h⟩ a/\Evo w w' S S' J J' (get s.h) (get (hw++s.h)):=by
 obtain⟨O,D⟩:=R.deep;refine R.genDE D h0 hw W h1 hg (fun b hb=>.inl (h2 b hb)) h3 h4 h4n h4l h4k h5 h6 h7 h8 h9 h10 h11 fun E hblk=>D.gen2 hw W ψ h1 hg h2 h3 E hblk hS (fun k ob b o a1 a2 a3 a4=>(hN k ob b o a1 a2 a3 a4).imp id .inl) ?_ ?_ (fun k k' b _ _=>hI k k' b)
 · intro k t xs b o hm hk hb;exact(hR k t xs b o hm hk hb).elim .inl id
 · intro k b hm hb;obtain⟨q1,q2,q3,q4⟩:=hP k b hb;refine⟨⟨q1,.inl (Nat.le_trans R.grow q2),q3,fun k' ob o hk' hl hb'=>?_,fun k' o n hL=>?_⟩,fun k' hk' hb'=>?_⟩
   · by_cases hm' : k' ∈ qab hw
     · exact q4 k' ob o hm' hk' hl hb'
     · have hk0 : get s.h k' = some ob := by rw [q2q, q11q hm'] at hk'; simpa using hk'
       rw[h3 k' _ hk0 hm'] at hb';obtain⟨c,hc⟩:=R.blk hk0 (by rintro rfl;cases hl) hb';have:=hc.lt;omega
   · obtain ⟨c0, c, _, hc, _⟩ := R.lent k' b o n hL;have:=hc.lt;omega
   · have := (D.off k' b hb').2.2.1;omega
theorem qar {hw:List (Nat×Ob)} {k:Nat} {ob:Ob} (h:get hw k=some ob):k∈qab hw :=
 List.mem_map.2 ⟨(k,ob),qaT h,rfl⟩
theorem q13q {hw:List (Nat×Ob)} {k:Nat} (h:k∈qab hw):∃ ob,get hw k=some ob:=by
 induction hw with
 | nil=>simp [qab] at h
 | cons x r ih =>
  obtain⟨m,o⟩:=x;rw[q6q];by_cases e:m=k
  · exact⟨o,by simp [e]⟩
  · rw [if_neg e];simp [qab] at h;rcases h with h | ⟨o',h⟩
    · exact absurd h.symm e
    · exact ih (List.mem_map.2 ⟨(k,o'),h,rfl⟩)
theorem Rel.ghost (R:Rel T B w S J s a) (hw:List (Nat×Ob))
   (hh:∀ k ob',get hw k=some ob'->∃ ob,get s.h k=some ob/\(ob'=ob.frz\/ob'=.gone)) :
   ∃ S',Rel T B w S' J ⟨s.e,hw++s.h⟩ a/\(∀ b,S b->S' b) /\
     (∀ k t xs b o,get hw k=some (.rows t xs .frz)->J k=some (b,o)->S' b) /\
     (∀ b,S' b->S b\/∃ k t xs o,get hw k=some (.rows t xs .frz)/\J k=some (b,o)):=by
 have hget:∀ k ob',get hw k=some ob'->get (hw++s.h) k=some ob':=fun k ob' h=>by rw[q2q,h];rfl
 have hfrz:∀ k t xs b o,get hw k=some (.rows t xs .frz)->J k=some (b,o)->b<w.heap.size/\(S b\/B.Mo b):=by
   intro k t xs b o hk hb;obtain⟨ob,h1,h2⟩:=hh k _ hk;rcases h2 with h2 | h2
   · cases ob with
     | gone=>cases h2
     | box l=>cases h2
     | rows t' xs' m =>
       obtain⟨c,hc⟩:=R.blk h1 (by simp) hb;refine⟨hc.lt,?_⟩;cases m with
       | frz=>exact .inl (R.frzS h1 hb)
       | own=>exact .inr (R.liveS h1 rfl hb).2
       | lent=>exact .inr (R.liveS h1 rfl hb).2
   · cases h2
 refine⟨fun b=>S b\/∃ k t xs o,get hw k=some (.rows t xs .frz)/\J k=some (b,o),?_,fun b h=>.inl h,fun k t xs b o h1 h2=>.inr ⟨k,t,xs,o,h1,h2⟩,fun b h=>h⟩;refine R.gen (Calm.refl w) hw (fun _=>False) (fun b _ _=>rfl) (Nat.le_refl _) (fun b h=>h.elim) (fun k ob _ _=>rfl) (fun b h=>.inl h) ?_ ?_ ?_ ?_ ?_ ?_ (fun _ _ _ _ _ h=>h.elim) ?_ ?_ ?_ ?_ ?_ ?_
 · rintro b (h | ⟨k, t, xs, o, h1, h2⟩)
   · exact .inl h
   · exact(hfrz k t xs b o h1 h2).2
 · rintro b (h | ⟨k, t, xs, o, h1, h2⟩)
   · exact R.Slt b h
   · exact(hfrz k t xs b o h1 h2).1
 · rintro k ob b o hk hm hl hb (h | ⟨k', t, xs, o', h1, h2⟩)
   · exact(R.liveS hk hl hb).1 h
   · obtain ⟨ob', h3, h4⟩ := hh k' _ h1;rcases h4 with h4 | h4
     · cases ob' with
       | gone=>cases h4
       | box l=>cases h4
       | rows t' xs' m =>
         cases m with
         | frz=>exact(R.liveS hk hl hb).1 (R.frzS h3 h2)
         | own=>exact hm ((R.inj k k' _ _ b o o' hk hl h3 rfl hb h2) ▸ qar h1)
         | lent=>exact hm ((R.inj k k' _ _ b o o' hk hl h3 rfl hb h2) ▸ qar h1)
     · cases h4
 · intro k ob hm hk E;obtain⟨ob',hk'⟩:=q13q hm;rw[hget k ob' hk'] at hk;injection hk with hk
   subst hk;obtain⟨ob0,h1,h2⟩:=hh k _ hk';rcases h2 with rfl | rfl
   · cases ob0 with
     | gone=>trivial
     | box l =>
       obtain⟨b,c,hb,hc,hl,hS,hM⟩:=R.obs k _ h1;refine⟨b,c,hb,hc,hl.imp fun _ _ h=>h.evo E,?_,hM⟩;rintro(h | ⟨k',t,xs,o',h3,h4⟩)
       · exact hS h
       · obtain ⟨ob', h5, h6⟩ := hh k' _ h3;rcases h6 with h6 | h6
         · cases ob' with
           | gone=>cases h6
           | box l=>cases h6
           | rows t' xs' m =>
            cases m with
            | frz=>exact hS (R.frzS h5 h4)
            | own=>have:=R.inj k k' _ _ b 0 o' h1 rfl h5 rfl hb h4;subst this;rw[h1] at h5;cases h5
            | lent=>have:=R.inj k k' _ _ b 0 o' h1 rfl h5 rfl hb h4;subst this;rw[h1] at h5;cases h5
         · cases h6
     | rows t xs m =>
       have h0:=R.obs k _ h1;simp only[ORel,Ob.frz] at h0 ⊢;cases hb:J k with
       | none=>rw[hb] at h0;exact h0
       | some p =>
         obtain⟨b,o⟩:=p;rw[hb] at h0;exact⟨h0.1,h0.2.1.mono (fun _ h=>.inl h) (fun _ _=>rfl) rfl,fun _=>.inr ⟨k,t,xs,o,hk',hb⟩,by simp,by simp⟩
   · trivial
 · intro k ob hm hk;obtain⟨ob',hk'⟩:=q13q hm;refine⟨ob',hget k ob' hk',?_⟩;obtain⟨ob0,h1,h2⟩:=hh k _ hk';rw[hk] at h1;injection h1 with h1
   subst h1;rcases h2 with rfl | rfl
   · cases ob with
     | gone=>trivial
     | box l=>rfl
     | rows t xs m=>exact⟨rfl,rfl,rfl,by simp,fun _ _ _ _=>rfl⟩
   · cases ob<;>trivial
 · intro k k' ob ob' b o o' hm hk hl hk' hl' hb hb';have old:∀ k ob,get (hw++s.h) k=some ob->ob.live=true->∃ ob0,get s.h k=some ob0/\ob0.live=true:=by
     intro k ob hk hl;by_cases hm:k∈qab hw
     · obtain ⟨ob', hk'⟩ := q13q hm;rw[hget k ob' hk'] at hk;injection hk with hk
       subst hk;obtain⟨ob0,h1,h2⟩:=hh k _ hk';rcases h2 with rfl | rfl
       · refine ⟨ob0, h1, ?_⟩;cases ob0 with
         | gone=>exact hl
         | box l=>exact hl
         | rows t xs m=>simp [Ob.frz,Ob.live] at hl
       · cases hl
     · rw [q2q, q11q hm] at hk;exact⟨ob,by simpa using hk,hl⟩
   obtain⟨ob0,h1,h2⟩:=old k ob hk hl;obtain⟨ob1,h3,h4⟩:=old k' ob' hk' hl';exact R.inj k k' ob0 ob1 b o o' h1 h2 h3 h4 hb hb'
 · intro k t xs hm hk;obtain⟨ob',hk'⟩:=q13q hm;rw[hget k ob' hk'] at hk;injection hk with hk
   subst hk;obtain⟨ob0,h1,h2⟩:=hh k _ hk';rcases h2 with h2 | h2
   · cases ob0<;>cases h2
   · cases h2
 · intro k ob b o hm hk hl hnl hb;obtain⟨ob',hk'⟩:=q13q hm;rw[hget k ob' hk'] at hk;injection hk with hk
   subst hk;obtain⟨ob0,h1,h2⟩:=hh k _ hk';rcases h2 with rfl | rfl
   · cases ob0 with
     | gone=>cases hl
     | box l=>exact R.sep k _ b o h1 rfl (by simp) hb
     | rows t xs m=>simp [Ob.frz,Ob.live] at hl
   · cases hl
 · intro k l hm hk;obtain⟨ob',hk'⟩:=q13q hm;rw[hget k ob' hk'] at hk;injection hk with hk
   subst hk;obtain⟨ob0,e1,e2⟩:=hh k _ hk';rcases e2 with e2 | e2
   · cases ob0 with
     | gone=>cases e2
     | box l0=>simp only[Ob.frz,Ob.box.injEq] at e2;subst e2;exact R.boxk k _ e1
     | rows t xs m=>cases e2
   · cases e2
 · rintro b (h | ⟨k, t, xs, o, h1, h2⟩)
   · exact .inl h
   · obtain ⟨ob', h3, h4⟩ := hh k _ h1;rcases h4 with h4 | h4
     · cases ob' with
       | gone=>cases h4
       | box l=>cases h4
       | rows t' xs' m =>
         cases m with
         | frz=>exact .inl (R.frzS h3 h2)
         | own=>exact .inr (.inl ⟨k,_,o,h3,rfl,h2⟩)
         | lent=>exact .inr (.inl ⟨k,_,o,h3,rfl,h2⟩)
     · cases h4
 · intro k ob b o hm hk hl hb;obtain⟨ob',hk'⟩:=q13q hm;rw[hget k ob' hk'] at hk;injection hk with hk
   subst hk;obtain⟨ob0,e1,e2⟩:=hh k _ hk';refine .inl ⟨k,ob0,o,e1,?_,hb⟩;rcases e2 with rfl | rfl
   · cases ob0 with
     | gone=>exact hl
     | box l=>rfl
     | rows t xs m=>simp [Ob.frz,Ob.live] at hl
   · cases hl
 · intro k t xs hm hk;obtain⟨ob',hk'⟩:=q13q hm;rw[hget k ob' hk'] at hk;injection hk with hk
   subst hk;obtain⟨ob0,e1,e2⟩:=hh k _ hk';rcases e2 with e2 | e2
   · cases ob0<;>cases e2
   · cases e2
theorem qe8 {g:Hp}:∀ {ks:List Nat} {k:Nat} {ob':Ob},get (frzW g ks) k=some ob'->∃ ob,g k=some ob/\ob'=ob.frz:=by
 intro ks
 induction ks with
 | nil=>intro k ob' h;simp [frzW,get] at h
 | cons x ks ih =>
  intro k ob' h;simp only[frzW] at h;split at h
  · rename_i o ho;rw[q6q] at h;split at h
    · rename_i e;subst e;injection h with h;exact⟨o,ho,h.symm⟩
    · exact ih h
  · exact ih h
theorem qxt {g:Hp}:∀ {ks:List Nat} {k:Nat} {ob:Ob},k∈ks->g k=some ob->get (frzW g ks) k=some ob.frz:=by
 intro ks
 induction ks with
 | nil=>intro k ob h;simp at h
 | cons x ks ih =>
  intro k ob h hg;simp only[frzW];by_cases e:x=k
  · subst e;rw[hg];simp [q6q]
  · have hm : k ∈ ks := by rcases List.mem_cons.1 h with h | h; exact absurd h.symm e; exact h
    split
    · rw[q6q,if_neg e];exact ih hm hg
    · exact ih hm hg
theorem Rel.frz (R:Rel T B w S J s a) {hp:Hp} (hs:∀ k ob,hp k=some ob->get s.h k=some ob) (ks:List Nat) :
   ∃ S',Rel T B w S' J ⟨s.e,frzW hp ks++s.h⟩ a/\(∀ b,S b->S' b) /\
     (∀ b,S' b->S b\/∃ k∈ks,∃ ob o,get s.h k=some ob/\ob≠.gone/\J k=some (b,o)) /\
     ∀ (pvs:List PV) (vs:List Value) (t:Ty) (x:t.den),(∀ k∈qag pvs,k∈ks)->All2 (qac w S J (get s.h)) pvs vs->decA hp t pvs=some x->Cell w S' t x vs:=by
 obtain⟨S',h1,h2,h3,h4⟩:=R.ghost (frzW hp ks) (fun k ob' hk=>by
   obtain⟨ob,e1,e2⟩:=qe8 hk;exact⟨ob,hs k ob e1,.inl e2⟩)
 refine⟨S',h1,h2,fun b hb=>?_,?_⟩
 · rcases h4 b hb with h | ⟨k, t, xs, o, e1, e2⟩
   · exact .inl h
   · obtain ⟨ob, e3, e4⟩ := qe8 e1;refine .inr ⟨k,?_,ob,o,hs k _ e3,?_,e2⟩
     · have : ∀ {ks : List Nat} {k : Nat} {ob : Ob}, get (frzW hp ks) k = some ob->k ∈ ks := by
        intro ks
        induction ks with
        | nil=>intro k ob h;simp [frzW,get] at h
        | cons x ks ih =>
         intro k ob h;simp only[frzW] at h;split at h
         · rw [q6q] at h;split at h
           · rename_i e;subst e;exact List.mem_cons_self
           · exact List.mem_cons_of_mem _ (ih h)
         · exact List.mem_cons_of_mem _ (ih h)
       exact this e1
     · rintro rfl;cases e4
 · intro pvs vs t x hk hl hd;obtain⟨d1,d2⟩:=qv2 hs hd;have E:Evo w w S S' J J (get s.h) (get s.h):=⟨h2,fun _ _=>rfl,fun k ob hk=>⟨ob,hk,by
     cases ob with
     | gone=>trivial
     | box l=>rfl
     | rows t xs m=>exact⟨rfl,rfl,rfl,fun hm=>⟨hm,fun b o c _ hb=>⟨c,hb,rfl⟩⟩,fun _ _ _ _=>rfl⟩⟩⟩
   refine qv3 (S:=S') (J:=J) (fun k t xs m b o hk hb=>(R.rows k t xs m b o hk hb).mono h2 (fun _ _=>rfl) rfl) d1 (hl.imp fun _ _ h=>h.evo E) ?_;intro k hkk t' xs m b o hg hb;obtain⟨t2,xs2,m2,e2⟩:=d2 k hkk;exact h3 k t2 xs2 b o (qxt (hk k hkk) e2) hb
theorem Rel.new (R:Rel T B w S J s a) (h0:Calm w w') {k:Nat} (hk:get s.h k=none) {ob:Ob} {βk:Option (Nat×Nat)} (hβ:βk=none\/βk=some (w.heap.size,0))
   (h1:∀ b,b<w.heap.size->w'.heap[b]?=w.heap[b]?) (hg:w.heap.size<=w'.heap.size)
   (hnl:∀ t xs,ob≠.rows t xs .lent) (hpb:(∃ l,ob=.box l)->B.PB k=none) (hfl:∀ t xs,ob=.rows t xs .own->t.flat=true\/xs=[])
   (hob:Evo w w' S S J (fun k'=>if k'=k then βk else J k') (get s.h) (get ((k,ob)::s.h))->ORel w' S (fun k'=>if k'=k then βk else J k') (get ((k,ob)::s.h)) B.Mo k ob) :
   Rel T B w' S (fun k'=>if k'=k then βk else J k') ⟨s.e,(k,ob)::s.h⟩ a:=by
 have hne:∀ k' ob',get s.h k'=some ob'->k'≠k:=fun k' ob' h e=>by rw[e,hk] at h;cases h
 have kw:∀ k',k'∈qab [(k,ob)]->k'=k:=fun k' h=>by simpa [qab] using h
 refine R.gen (w':=w') (S':=S) (J':=fun k'=>if k'=k then βk else J k') h0 [(k,ob)] (fun _=>False) (fun b hb _=>h1 b hb) hg (fun b h=>h.elim) ?_ (fun _ h=>h) (fun b h=>.inl h) (fun b hb=>Nat.lt_of_lt_of_le (R.Slt b hb) hg) ?_ ?_ ?_ ?_ (fun _ _ _ _ _ h=>h.elim) ?_ ?_ ?_ (fun b h=>.inl h) ?_ ?_
 · intro k' ob' h _;simp [hne k' ob' h]
 · intro k' ob' b o h _ hl hb;exact(R.liveS h hl hb).1
 · intro k' ob' hm hk' E;have:=kw k' hm;subst this;have e:get ([(k',ob)]++s.h) k'=some ob:=by simp [q6q]
   rw[e] at hk';injection hk' with hk'
   subst hk';exact hob E
 · intro k' ob' hm h;exact absurd (kw k' hm) (hne k' ob' h)
 · intro k1 k2 ob1 ob2 b o o' hm hk1 hl1 hk2 hl2 hb1 hb2;have:=kw k1 hm;subst this;by_cases e:k2=k1
   · exact e.symm
   · have hk2' : get s.h k2 = some ob2 := by
       have:get ([(k1,ob)]++s.h) k2=get s.h k2:=by simp [q6q,Ne.symm e]
       rw[this] at hk2;exact hk2
     simp only[if_neg e] at hb2;simp only[if_true] at hb1;rcases hβ with h | h
     · rw[h] at hb1;cases hb1
     · rw [h] at hb1;injection hb1 with hb1
       injection hb1 with hb1 _
       obtain⟨c,hc⟩:=R.blk hk2' (by rintro rfl;cases hl2) hb2;have:=hc.lt;omega
 · intro k' t xs hm h;have:=kw k' hm;subst this;have e:get ([(k',ob)]++s.h) k'=some ob:=by simp [q6q]
   rw[e] at h;injection h with h
   exact absurd h (hnl t xs)
 · intro k' ob' b o hm _ _ _ hb k2 o' n hL;have:=kw k' hm;subst this;simp only[if_true] at hb;rcases hβ with h | h
   · rw[h] at hb;cases hb
   · rw [h] at hb;injection hb with hb
     injection hb with hb _
     obtain⟨c0,c,hc0,_⟩:=R.lent k2 b o' n hL;have h1:=hc0.lt;have h2:=R.grow;omega
 · intro k' l hm hk';have:=kw k' hm;subst this;have e:get ([(k',ob)]++s.h) k'=some ob:=by simp [q6q]
   rw[e] at hk';injection hk' with hk'
   refine⟨fun p hp=>(by rw[hpb ⟨l,hk'⟩] at hp;cases hp),fun _ b o hb=>?_⟩;simp only[if_true] at hb;rcases hβ with h | h
   · rw[h] at hb;cases hb
   · rw [h] at hb;injection hb with hb
     injection hb with hb _
     have:=R.grow;omega
 · intro k' ob' b o hm hk' hl hb;have:=kw k' hm;subst this;simp only[if_true] at hb;rcases hβ with h | h
   · rw[h] at hb;cases hb
   · rw [h] at hb;injection hb with hb
     injection hb with hb _
     exact .inr (by omega)
 · intro k' t xs hm hk';have:=kw k' hm;subst this;have e:get ([(k',ob)]++s.h) k'=some ob:=by simp [q6q]
   rw[e] at hk';injection hk' with hk'
   exact hfl t xs hk'
def ObS:Ob->Ob->Prop
 | .rows t xs m,.rows t' xs' m'=>t'=t/\xs'.length=xs.length/\m'=m
 | .box _,.box _=>True
 | _,_=>False
theorem Rel.write (R:Rel T B w S J s a) {k:Nat} {ob ob':Ob} (hk:get s.h k=some ob) (hl:ob.live=true) (hs:ObS ob ob') {b o:Nat} (hb:J k=some (b,o)) {c c':Array Value} (hc:Blk w b c) (hsz:c'.size=c.size)
   (hjk:∀ l0 l,ob=.box l0->ob'=.box l->∀ (i:Nat) (v:PV),l[i]?=some v->v.stays=true->l0[i]?=some v/\c'[i]?=c[i]?)
   (hfl:∀ t xs m,ob'=.rows t xs m->t.flat=true) (hlent:∀ t xs,ob=.rows t xs .lent->∀ j,(j<o\/o+xs.length*t.size<=j)->c'[j]?=c[j]?)
   (hob:Evo w (w.setRow b c') S S J J (get s.h) (get ((k,ob')::s.h))->Blk (w.setRow b c') b c'->ORel (w.setRow b c') S J (get ((k,ob')::s.h)) B.Mo k ob') :
   Rel T B (w.setRow b c') S J ⟨s.e,(k,ob')::s.h⟩ a:=by
 have hc':Blk (w.setRow b c') b c':=by
   obtain⟨e,he⟩:=hc;exact⟨e,setRow_heap w b c c' e _ he⟩
 have kw:∀ k',k'∈qab [(k,ob')]->k'=k:=fun k' h=>by simpa [qab] using h
 have hg0:get ([(k,ob')]++s.h) k=some ob':=by simp [q6q]
 refine R.gen (w':=w.setRow b c') (S':=S) (J':=J) (qgW hc) [(k,ob')] (fun b'=>b'=b) (fun b' _ hne=>setRow_other w b b' c' hne) (by simp) ?_ (fun _ _ _ _=>rfl) (fun _ h=>h) (fun b h=>.inl h) (fun b' hb'=>by simpa using R.Slt b' hb') ?_ ?_ ?_ ?_ ?_ ?_ ?_ ?_ (fun b h=>.inl h) ?_ ?_
 · rintro b' rfl;exact⟨k,ob,o,by simp [qab],hk,hl,hb⟩
 · intro k' ob2 b2 o2 h _ hl2 hb2;exact(R.liveS h hl2 hb2).1
 · intro k' ob2 hm hk' E;have:=kw k' hm;subst this;rw[hg0] at hk';injection hk' with hk';subst hk'
   exact hob E hc'
 · intro k' ob2 hm h;have:=kw k' hm;subst this;rw[hk] at h;injection h with h;subst h
   refine⟨ob',hg0,?_⟩;cases ob with
   | gone=>cases hl
   | box l=>cases ob'<;>first | exact hs.elim | rfl
   | rows t xs m =>
     cases ob' with
     | gone=>trivial
     | box l=>exact hs.elim
     | rows t' xs' m' =>
      obtain⟨e1,e2,e3⟩:=hs;refine⟨e1,e2,rfl,fun hm'=>⟨by rw[<- e3];exact hm',fun b2 o2 c2 hb2 hc2=>?_⟩,fun hnf=>by
       have:=hfl t' xs' m' rfl;rw[e1,hnf] at this;cases this⟩
      rw[hb] at hb2;injection hb2 with hb2;injection hb2 with hb2 _;subst hb2
      have:=hc.inj hc2;subst this;exact⟨c',hc',hsz⟩
 · intro k1 k2 ob1 ob2 b1 o1 o2 hm hk1 hl1 hk2 hl2 hb1 hb2;have:=kw k1 hm;subst this;by_cases e:k2=k1
   · exact e.symm
   · have hk2' : get s.h k2 = some ob2 := by
      have:get ([(k1,ob')]++s.h) k2=get s.h k2:=by simp [q6q,Ne.symm e]
      rw[this] at hk2;exact hk2
     exact R.inj k1 k2 ob ob2 b1 o1 o2 hk hl hk2' hl2 hb1 hb2
 · rintro k2 b2 o2 n2 hL rfl c2 hc2;have:=hc.inj hc2;subst this;refine⟨c',hc',hsz,fun j hj=>?_⟩;by_cases hlt:∃ t xs,ob=.rows t xs .lent
   · obtain ⟨t, xs, rfl⟩ := hlt;obtain⟨b3,o3,hL3,hb3⟩:=(R.lentk k t xs hk).resolve_left (by rw[hb];simp);rw[hb] at hb3;injection hb3 with hb3;injection hb3 with hb3 ho3;subst hb3;subst ho3
     have:=R.ltinj k2 k _ _ _ _ _ hL hL3;subst this;rw[hL] at hL3;injection hL3 with hL3;injection hL3 with _ hL3;injection hL3 with e1 e2
     subst e1;subst e2;exact hlent t xs rfl j hj
   · exact absurd hL (R.sep k ob _ o hk hl (fun t xs h=>hlt ⟨t,xs,h⟩) hb k2 o2 n2)
 · intro k' t xs hm h;have:=kw k' hm;subst this;rw[hg0] at h;injection h with h;subst h
   cases ob with
   | gone=>cases hl
   | box l=>exact hs.elim
   | rows t0 xs0 m0 =>
     obtain⟨e1,e2,e3⟩:=hs;subst e1;subst e3;exact⟨xs0,hk,e2,rfl⟩
 · intro k' ob2 b2 o2 hm h hl2 hnl hb2;have:=kw k' hm;subst this;rw[hg0] at h;injection h with h;subst h
   refine R.sep k' ob b2 o2 hk hl (fun t xs e=>?_) hb2;subst e;cases ob' with
   | gone=>exact hs.elim
   | box l=>exact hs.elim
   | rows t' xs' m' =>
     obtain⟨e1,e2,e3⟩:=hs;subst e3;exact hnl t' xs' rfl
 · intro k' l hm h;have:=kw k' hm;subst this;rw[hg0] at h;injection h with h;subst h
   cases ob with
   | gone=>cases hl
   | box l0 =>
     refine(R.boxk k' _ hk).turn rfl fun p i v hp hi hv=>?_
     obtain⟨q1,q2⟩:=hjk l0 l rfl rfl i v hi hv;rw[hb] at hp;injection hp with hp
     injection hp with hp _
     subst hp;exact⟨⟨v,q1,hv⟩,by rw[hc'.cell,hc.cell,q2]⟩
   | rows t0 xs0 m0=>exact hs.elim
 · intro k' ob2 b2 o2 hm h hl2 hb2;have:=kw k' hm;subst this;exact .inl ⟨k',ob,o2,hk,hl,hb2⟩
 · intro k' t xs hm h;have:=kw k' hm;subst this;rw[hg0] at h;injection h with h
   exact .inl (hfl t xs _ h)
def qlf:Ty->List Value
 | .int k=>[.int k 0]
 | .bool=>[.bool false]
 | .str=>[.string ByteArray.empty]
 | .unit=>[]
 | .pair a b=>qlf a++qlf b
 | .sl _=>[.slice none 0 0]
 | .os _=>[.slice none 0 0]
 | .op _=>[.pointer none]
theorem qfg (w:World) (S:Foot):∀ t:Ty,Cell w S t t.zero (qlf t)
 | .int k=>rfl
 | .bool=>rfl
 | .str=>rfl
 | .unit=>rfl
 | .pair a b=>⟨_,_,rfl,qfg w S a,qfg w S b⟩
 | .sl e=>⟨none,0,rfl,Nat.le_refl _,.inl rfl⟩
 | .os e=>⟨_,rfl,rfl⟩
 | .op l=>⟨_,rfl,rfl⟩
structure TyOk (P:Program) (T:TypeId) (t:Ty):Prop where
 info:∃ i z,P.info? T=some i/\i.size=t.size/\i.zero=some z/\z.cells.toList=qlf t
 und:∃ d,P.underlying T=some d/\d.isRow=t.isAgg
def TEOk (P:Program) (tb:Tb) (T:TypeId):TE->Prop
 | .sc t=>TyOk P T t/\t.isAgg=false/\(∀ k,t=.int k->P.underlying T=some (.int k))/\(t=.bool->P.underlying T=some .bool)
 | .slc e t by_=>TyOk P T (.sl t)/\P.underlying T=some (.slice e)/\TyOk P e t/\(∃ i,P.info? e=some i/\i.bytes=by_)/\0<by_/\0<t.size
 | .stc t fs q=>TyOk P T t/\t.isAgg=true/\∃ fields:Array Field,P.underlying T=some (.struct fields)/\fields.toList.map (fun f=>(f.offset,f.type))=fs /\
  (∀ off T',(off,T')∈fs->∃ t',tb.ty T'=some t') /\
  (q = true → P.stoodInHeld T = false ∧ P.eqGuardType P.depth T = false ∧ ∀ (i : Nat) (f : Field), fields[i]? = some f → f.name ≠ "_" ∧ f.offset = i ∧ ∃ k, P.underlying f.type = some (.int k))
 | .pt e l=>TyOk P T (.op l)/\P.underlying T=some (.pointer e)
 | .arr e t=>TyOk P T (.pair t (.pair t .unit))/\P.underlying T=some (.array 2 e)/\TyOk P e t/\t.size=1/\t.isAgg=false
def TbOk (P:Program) (tb:Tb):Prop:=∀ T te,get tb T=some te->TEOk P tb T te
theorem TbOk.ty {P:Program} {tb:Tb} (h:TbOk P tb) {T:TypeId} {t:Ty} (ht:tb.ty T=some t):TyOk P T t:=by
 unfold Tb.ty at ht;split at ht
 · rename_i t' hg;injection ht with ht;subst ht;exact(h T _ hg).1
 · rename_i e t' b hg;injection ht with ht;subst ht;exact(h T _ hg).1
 · rename_i t' fs q hg;injection ht with ht;subst ht;exact(h T _ hg).1
 · rename_i e l hg;injection ht with ht;subst ht;exact(h T _ hg).1
 · rename_i e l hg;injection ht with ht;subst ht;exact(h T _ hg).1
 · cases ht
section
variable {P:Program}
theorem qfj {T:TypeId} {t:Ty} (h:TyOk P T t) (w:World):(sizeOf T).run P w=.ok t.size w:=by
 obtain⟨i,z,h1,h2,_⟩:=h.info;simp [sizeOf,typeInfo,h1,h2]
theorem qoV {T:TypeId} {t:Ty} (h:TyOk P T t):∃ z:Value,(∀ w,(zeroValue T).run P w=.ok z w)/\z.cells.toList=qlf t:=by
 obtain⟨i,z,h1,_,h3,h4⟩:=h.info;exact⟨z,fun w=>by simp [zeroValue,typeInfo,h1,h3],h4⟩
theorem qhn {T:TypeId} {t:Ty} (h:TyOk P T t) (w:World):(isAgg T).run P w=.ok t.isAgg w:=by
 obtain⟨d,h1,h2⟩:=h.und;unfold isAgg;rw[Sem.run_bind,run_underlying h1 w,<- h2];cases d<;>rfl
def vOf (t:Ty) (cs:List Value):Value:=if t.isAgg then .agg cs.toArray else cs.headD undef
theorem qrp {w:World} {S:Foot} {t:Ty} {x:t.den} {cs:List Value} (h:Cell w S t x cs):VRel w S t x (vOf t cs):=by
 cases t with
 | pair a b=>exact⟨cs,by simp [vOf,Ty.isAgg],h⟩
 | unit=>cases h;rfl
 | int k=>cases h;rfl
 | bool=>cases h;rfl
 | str=>cases h;rfl
 | os _ | op _=>have hh:=h;obtain⟨v,rfl,_⟩:=h;exact hh
 | sl e=>have hh:=h;obtain⟨A,cap,rfl,_⟩:=h;exact hh
theorem qhm {T:TypeId} {t:Ty} (h:TyOk P T t) (w:World) (b o:Nat) (cs:List Value) (hl:cs.length=t.size) (hc:At w b o cs) :
   (loadVar T ⟨b,o,none⟩).run P w=.ok (vOf t cs) w:=by
 unfold loadVar;rw[Sem.run_bind,qhn h w];simp only[Result.andThen_ok];by_cases ha:t.isAgg=true
 · simp only [ha, if_true, Sem.run_bind, qfj h w, Result.andThen_ok];rw[<- hl,run_loadCells_list w ⟨b,o,none⟩ cs (fun j v hv=>by rw[Addr.add_mid];exact hc j v hv)];simp [vOf,ha]
 · simp only [ha, if_false, Bool.false_eq_true];have h1:t.size=1:=by cases t<;>simp_all [Ty.isAgg,Ty.size]
   obtain⟨v,rfl⟩:∃ v,cs=[v]:=by
    match cs,hl with
    | [v],_=>exact⟨v,rfl⟩
    | [],hl=>simp [h1] at hl
    | _::_::_,hl=>simp [h1] at hl
   have:=hc 0 v rfl;simp only[Nat.add_zero] at this;simp [this,vOf,ha]
theorem qb8 {T:TypeId} {t:Ty} (h:TyOk P T t) (w:World) (b o:Nat) (cs:List Value) (hl:cs.length=t.size) (hc:At w b o cs) :
  (Instr.loadAt T (.pointer (some ⟨b,o,none⟩))).run P w=.ok (vOf t cs) w:=by
 simp only[Instr.loadAt,Instr.sureAddr,Sem.run_bind,Sem.run_pure,Result.andThen_ok,qhm h w b o cs hl hc]
def qaP (c:Array Value) (o:Nat) (vs:List Value):Array Value:=(c.toList.take o++vs++c.toList.drop (o+vs.length)).toArray
theorem qbo {c:Array Value} {o:Nat} {vs:List Value} (h:o+vs.length<=c.size):(qaP c o vs).size=c.size:=by
 simp [qaP];omega
theorem qej {c:Array Value} {o:Nat} {vs:List Value} (h:o+vs.length<=c.size) {j:Nat} (hj:j<vs.length):(qaP c o vs)[o+j]?=vs[j]?:=by
 have h1:(c.toList.take o).length=o:=by simp;omega
 simp only[qaP,List.getElem?_toArray];rw[List.append_assoc,List.getElem?_append_right (by omega),h1,List.getElem?_append_left (by omega)];congr 1;omega
theorem qbu {c:Array Value} {o:Nat} {vs:List Value} (h:o+vs.length<=c.size) {j:Nat} (hj:j<o\/o+vs.length<=j):(qaP c o vs)[j]?=c[j]?:=by
 have h1:(c.toList.take o).length=o:=by simp;omega
 simp only[qaP,List.getElem?_toArray];rcases hj with hj | hj
 · rw[List.append_assoc,List.getElem?_append_left (by omega),List.getElem?_take,if_pos hj];simp
 · rw [List.getElem?_append_right (by simp; omega)];simp only[List.length_append,h1,List.getElem?_drop];rw[<- Array.getElem?_toList];congr 1;omega
theorem qeV {b o:Nat} {c:Array Value} {w:World} (hb:Blk w b c) {vs:List Value} (hl:o+vs.length<=c.size) (h1:∀ v∈vs,v.oneCell'=true) :
  (storeCells ⟨b,o,none⟩ vs).run P w=.ok () (w.setRow b (qaP c o vs)):=by
 obtain⟨e,he⟩:=hb;have:=run_storeCells_at P b o e vs 0 c w he (by simpa using hl) h1;simpa [qaP] using this
theorem qdv {w:World} {b:Nat} {c cs:Array Value} (h:Blk w b c):Blk (w.setRow b cs) b cs:=by
 obtain⟨e,he⟩:=h;exact⟨e,setRow_heap w b c cs e _ he⟩
theorem qgB {T:TypeId} {t:Ty} (ht:TyOk P T t) {b o:Nat} {c:Array Value} {w:World} (hb:Blk w b c) {v:Value} {vs:List Value} (hv:v.cells=vs.toArray)
  (hs:vs.length=t.size) (hl:o+vs.length<=c.size) (h1:∀ v∈vs,v.oneCell'=true) :
  (Instr.storeAt T (.pointer (some ⟨b,o,none⟩)) v).run P w=.ok () (w.setRow b (qaP c o vs)):=by
 simp only[Instr.storeAt,Instr.sureAddr,Sem.run_bind,Sem.run_pure,Result.andThen_ok,storeVar,qfj ht w,hv];simp only[List.size_toArray,hs,ne_eq,not_true_eq_false,if_false];exact qeV hb hl h1
end
variable {T:Told} {P:Program} {tb:Tb}
def qcb (T:Told) (P:Program) (o:Oper) (s:St) (ef:Eff):Prop :=
 ∀ (B:Base) (w:World) (S:Foot) (J:Con) (a:Act),Rel T B w S J s a->qsd B.nt o.dst=true ->
  ∀ (next:Act->World->Prop) (Q:Exit->Act->World->Prop),
   (∀ val w' S' J',Rel T B w' S' J' (s.app o.dst ef) (a.put o.dst val)->next (a.put o.dst val) w')->o.wp P a w next Q
theorem qcb.pure {o:Oper} {s:St} {pv:PV}
  (h:∀ (B:Base) (w:World) (S:Foot) (J:Con) (a:Act),Rel T B w S J s a->∃ v,(execOp a.eval o).run P w=.ok (.value v) w/\TRel w S J (get s.h) pv v) :
  qcb T P o s ⟨some pv,[]⟩:=by
 intro B w S J a R hd next Q hn
 obtain⟨v,hr,hv⟩:=h B w S J a R;unfold Oper.wp;rw[hr];refine hn v w S J ?_;cases hdst:o.dst with
 | none=>simpa [St.app,Act.put] using R
 | some d =>
  have:d<B.nt:=by
   rw[hdst] at hd;exact Nat.le_of_ble_eq_true hd
  simpa [St.app] using R.val this hv
theorem Rel.app {B:Base} {w:World} {S:Foot} {J:Con} {s:St} {a:Act} {dst:Option Tmp} {ef:Eff} (R:Rel T B w S J ⟨s.e,ef.hw++s.h⟩ a) (hd:qsd B.nt dst=true) {v:Value}
  (hv:∀ pv,ef.v=some pv->TRel w S J (get (ef.hw++s.h)) pv v):Rel T B w S J (s.app dst ef) (a.put dst v):=by
 cases dst with
 | none=>exact R
 | some d =>
  have hlt:d<B.nt:=Nat.le_of_ble_eq_true hd;have:=R.val (pv:=ef.v.getD .junk) hlt (v:=v) (by
   cases h:ef.v with
   | none=>trivial
   | some pv=>exact hv pv h)
  simpa [St.app] using this
theorem q14q {B:Base} {w:World} {S:Foot} {J:Con} {s:St} {a:Act} (R:Rel T B w S J s a) (x:Operand):TRel w S J (get s.h) (s.pv x) (a.eval x):=by
 cases x with
 | tmp t =>
  simp only[St.pv,Act.eval];cases h:get s.e t with
  | none=>trivial
  | some pv =>
    obtain⟨v,h1,h2⟩:=R.tmps t pv h;simpa [h1] using h2
 | const v =>
  have c0:∀ v:Value,qac w S J (get s.h) (cpv0 v) v:=by
    intro v;unfold cpv0;split<;>first | trivial | rfl
  simp only[St.pv,Act.eval];unfold cpv;split
  · rename_i cs;refine⟨cs.toList,by simp,?_⟩;have:∀ l:List Value,All2 (qac w S J (get s.h)) (l.map cpv0) l:=by
     intro l
     induction l with
     | nil=>trivial
     | cons x l ih=>exact⟨c0 x,ih⟩
    exact this _
  · exact(c0 _).up
 | global g=>trivial
 | func f=>exact⟨[],by simp [Act.eval],trivial⟩
variable {T:Told} {P:Program} {tb:Tb}
theorem qvf {ks:List Nat} {h:List (Nat×Ob)} {k:Nat} {ob:Ob} (hk:only ks h k=some ob):get h k=some ob:=by
 unfold only at hk;cases hm:memN k ks with
 | true=>simpa [hm] using hk
 | false=>simp [hm] at hk
theorem qvg {ks:List Nat} {h:List (Nat×Ob)} {k:Nat} (hk:only ks h k=none) (hm:k∈ks):get h k=none:=by
 unfold only at hk;rw[qim.2 hm] at hk;simpa using hk
def Sub (h:Hp) (s:St):Prop:=∀ k ob,h k=some ob->get s.h k=some ob
section
variable {R:Type} {B:Base} {w:World} {S:Foot} {J:Con} {s:St} {a:Act}
theorem q8q {c:Bool} {x:Option R} {out:R} (h:(bif c then x else none)=some out):c=true/\x=some out:=by
 cases c with
 | true=>exact⟨rfl,h⟩
 | false=>cases h
theorem qbg {c:Bool} {x:Option R} {out:R} (h:(bif c then none else x)=some out):c=false/\x=some out:=by
 cases c with
 | true=>cases h
 | false=>exact⟨rfl,h⟩
theorem TRel.int {w:World} {S:Foot} {J:Con} {g:Hp} {k:IntKind} {n:Int} {v:Value} (h:TRel w S J g (.val (.int k) n) v):v=.int k n:=by
 have:[v]=[Value.int k n]:=h;simpa using this
theorem TRel.bool {w:World} {S:Foot} {J:Con} {g:Hp} {b:Bool} {v:Value} (h:TRel w S J g (.val .bool b) v):v=.bool b:=by
 have:[v]=[Value.bool b]:=h;simpa using this
theorem qmy {w:World} {S:Foot} {J:Con} {g:Hp} {k:IntKind} {n:Int}:TRel w S J g (.val (.int k) n) (.int k n):=rfl
theorem qkc (op:BinOp) (t:TypeId) (x y:Operand) (k k':IntKind) (m n:Int) (w:World):(eqGuard op t x y (.int k m) (.int k' n)).run P w=.ok () w:=by
 cases op<;>simp [eqGuard]
theorem qmo (op:BinOp) (t:TypeId) (x y:Operand) (m n:Bool) (w:World):(eqGuard op t x y (.bool m) (.bool n)).run P w=.ok () w:=by
 cases op<;>simp [eqGuard]
theorem qxP {op:BinOp} {k:IntKind} {x y:Int} {K:PV->Option R} {out:R} (h:binI op k x y K=some out) (hop:op≠.shl/\op≠.shr) :
  ∃ pv,K pv=some out/\∀ (t:TypeId) (w:World) (S:Foot) (J:Con) (g:Hp),∃ v,(binOp op t (.int k x) (.int k y)).run P w=.ok v w/\TRel w S J g pv v:=by
 have hq:(x == y)=decide (x=y):=by rw[Bool.eq_iff_iff];simp
 cases op with
 | shl=>exact absurd rfl hop.1
 | shr=>exact absurd rfl hop.2
 | andNot=>simp only[binI] at h;cases h
 | eql=>exact⟨_,h,fun t w S J g=>⟨.bool (decide (x=y)),by simp [binOp,Op.intCmp,hq],rfl⟩⟩
 | neq=>exact⟨_,h,fun t w S J g=>⟨.bool (!decide (x=y)),by simp [binOp,Op.intCmp,bne,hq],rfl⟩⟩
 | quo =>
  simp only[binI] at h;by_cases hy:y=0
  · rw[decide_eq_true hy] at h;cases h
  · rw [decide_eq_false hy] at h;exact⟨_,h,fun t w S J g=>⟨_,by simp [binOp,Op.intDiv,hy],rfl⟩⟩
 | rem =>
  simp only[binI] at h;by_cases hy:y=0
  · rw[decide_eq_true hy] at h;cases h
  · rw [decide_eq_false hy] at h;exact⟨_,h,fun t w S J g=>⟨_,by simp [binOp,Op.intDiv,hy],rfl⟩⟩
 | add=>exact⟨_,h,fun t w S J g=>⟨_,by simp [binOp,Op.intArith],rfl⟩⟩
 | sub=>exact⟨_,h,fun t w S J g=>⟨_,by simp [binOp,Op.intArith],rfl⟩⟩
 | mul=>exact⟨_,h,fun t w S J g=>⟨_,by simp [binOp,Op.intArith],rfl⟩⟩
 | and=>exact⟨_,h,fun t w S J g=>⟨_,by simp [binOp,Op.intBits],rfl⟩⟩
 | or=>exact⟨_,h,fun t w S J g=>⟨_,by simp [binOp,Op.intBits],rfl⟩⟩
 | xor=>exact⟨_,h,fun t w S J g=>⟨_,by simp [binOp,Op.intBits],rfl⟩⟩
 | lss=>exact⟨_,h,fun t w S J g=>⟨_,by simp [binOp,Op.intCmp],rfl⟩⟩
 | leq=>exact⟨_,h,fun t w S J g=>⟨_,by simp [binOp,Op.intCmp],rfl⟩⟩
 | gtr=>exact⟨_,h,fun t w S J g=>⟨_,by simp [binOp,Op.intCmp],rfl⟩⟩
 | geq=>exact⟨_,h,fun t w S J g=>⟨_,by simp [binOp,Op.intCmp],rfl⟩⟩
theorem qpV {op:BinOp} {k yk:IntKind} {x y:Int} {K:PV->Option R} {out:R} (h:(bif decide (y<0) then none else K (.val (.int k) (if op=.shl then shlV k x y else shrV k x y)))=some out) (hop:op=.shl\/op=.shr) :
   ∃ pv,K pv=some out/\∀ (t:TypeId) (w:World) (S:Foot) (J:Con) (g:Hp),∃ v,(binOp op t (.int k x) (.int yk y)).run P w=.ok v w/\TRel w S J g pv v:=by
 by_cases hy:y<0
 · rw[decide_eq_true hy] at h;cases h
 · rw [decide_eq_false hy] at h;refine⟨_,h,fun t w S J g=>?_⟩;rcases hop with rfl | rfl
   · exact⟨_,by simp [binOp,Op.shift,hy];rfl,rfl⟩
   · exact⟨_,by simp [binOp,Op.shift,hy];rfl,rfl⟩
theorem qr8 {w:World} {S:Foot} {J:Con} {g:Hp}:∀ {l l':List PV} {r:Bool} {xs ys:List Value} (fs:List Field) (n:Nat) (d:Nat) (pre pre':List Value),
  qhd l l'=some r->All2 (qac w S J g) l xs->All2 (qac w S J g) l' ys->l.length=fs.length->pre.length=n->pre'.length=n ->
  (∀ (i : Nat) (f : Field), fs[i]? = some f → f.name ≠ "_" ∧ f.offset = n + i ∧ ∃ k, P.underlying f.type = some (.int k)) →
  (Op.eqFields (d+1) (pre++xs).toArray (pre'++ys).toArray fs).run P w=.ok r w:=by
 intro l
 induction l with
 | nil =>
  intro l' r xs ys fs n d pre pre' h hl hl' hn hp hp' hf;cases fs with
  | cons f fs=>simp at hn
  | nil =>
   cases l' with
   | cons _ _=>simp [qhd] at h
   | nil=>simp [qhd] at h;subst h;rfl
 | cons a l ih =>
  intro l' r xs ys fs n d pre pre' h hl hl' hn hp hp' hf;cases fs with
  | nil=>simp at hn
  | cons f fs =>
   cases xs with
   | nil=>exact hl.elim
   | cons x xs =>
    cases l' with
    | nil=>cases a<;>simp [qhd] at h<;>(rename_i t y;cases t<;>simp [qhd] at h)
    | cons b l' =>
     cases ys with
     | nil=>exact hl'.elim
     | cons y ys =>
      obtain⟨hn0,ho,k,hk⟩:=hf 0 f rfl;have hia:(isAgg f.type).run P w=.ok false w:=by
        unfold isAgg;rw[Sem.run_bind,run_underlying hk w];rfl
      have px:(part f.type (pre++x::xs).toArray f.offset).run P w=.ok x w:=by
        unfold part;rw[Sem.run_bind,hia];simp [ho,<- hp]
      have py:(part f.type (pre'++y::ys).toArray f.offset).run P w=.ok y w:=by
        unfold part;rw[Sem.run_bind,hia];simp [ho,<- hp']
      unfold qhd at h;split at h
      · rename_i h1 h2;cases h1
      · rename_i k1 m r1 k2 m' r2 h1 h2;injection h1 with h1 h1';injection h2 with h2 h2'
        subst h1;subst h2;subst h1';subst h2';split at h
        · rename_i hkk;subst hkk;split at h
          · rename_i t ht;injection h with h
            subst h;have hx:x=.int k1 m:=by have h0:[x]=[Value.int k1 m]:=hl.1;simpa using h0
            have hy:y=.int k1 m':=by have h0:[y]=[Value.int k1 m']:=hl'.1;simpa using h0
            subst hx;subst hy;have ih':=ih fs (n+1) d (pre++[.int k1 m]) (pre'++[.int k1 m']) ht hl.2 hl'.2 (by simpa using hn) (by simp [hp]) (by simp [hp'])
             (fun i f' hf'=>by have:=hf (i+1) f' (by simpa using hf');exact⟨this.1,by omega,this.2.2⟩)
            simp only[List.append_assoc,List.singleton_append] at ih';simp only[Op.eqFields,if_pos hn0,Sem.run_bind,px,py,Result.andThen_ok,run_equalIn_int w d f.type k1 k m m' hk];have hb:(m == m')=decide (m=m'):=by rw[Bool.eq_iff_iff];simp
            rw[hb];cases decide (m=m') with
            | true=>simpa using ih'
            | false=>rfl
          · cases h
        · cases h
      · cases h
theorem qqY {w:World} {S:Foot} {J:Con} {g:Hp} {l l':List PV} {r:Bool} {xs ys:List Value} {T':TypeId} {t:Ty} {fs:List (Nat×TypeId)} (hT:TEOk P tb T' (.stc t fs true))
   (h:qhd l l'=some r) (hl:All2 (qac w S J g) l xs) (hl':All2 (qac w S J g) l' ys) (hn:l.length=fs.length) :
   (Op.equal T' (.agg xs.toArray) (.agg ys.toArray)).run P w=.ok r w/\∀ op x y,(eqGuard op T' x y (.agg xs.toArray) (.agg ys.toArray)).run P w=.ok () w:=by
 obtain⟨_,_,fields,hu,hfs,_,hq⟩:=hT;obtain⟨hs,hg,hf⟩:=hq rfl;have hfo:P.fieldsOf T'=fields:=by simp [Program.fieldsOf,hu]
 constructor
 · unfold Op.equal Op.maxDepth;rw[run_equalIn_struct w 9999 T' _ _ (by rw[hfo];exact hu) hs,hfo];have:=qr8 (P:=P) (w:=w) (S:=S) (J:=J) (g:=g) fields.toList 0 9998 [] [] h hl hl' (by rw[hn,<- hfs];simp) rfl rfl (fun i f hi=>by
    have:=hf i f (by simpa using hi);exact⟨this.1,by omega,this.2.2⟩)
   simpa using this
 · intro op x y;cases op<;>simp [eqGuard,hg]
theorem qhp {w:World} {t e:TypeId} {ad:Addr} (hu:P.underlying t=some (.pointer e)):(Op.equal t (.pointer (some ad)) (.pointer none)).run P w=.ok false w:=by
 unfold Op.equal Op.maxDepth;rw[Op.equalIn];rw[Sem.run_bind,run_underlying hu];rfl
theorem qhq {w:World} {t e:TypeId} (hu:P.underlying t=some (.pointer e)):(Op.equal t (.pointer none) (.pointer none)).run P w=.ok true w:=by
 unfold Op.equal Op.maxDepth;rw[Op.equalIn];rw[Sem.run_bind,run_underlying hu];rfl
theorem quh (hT:TbOk P tb) {T':TypeId} {op:BinOp} {p q:PV} {K:PV->Option R} {out:R} (h:qv0 tb T' op p q K=some out) :
   ∃ pv,K pv=some out/\∀ (w:World) (S:Foot) (J:Con) (g:Hp) (x y:Operand) (u v:Value),TRel w S J g p u->TRel w S J g q v ->
     ∃ z,(do eqGuard op T' x y u v;binOp op T' u v:Sem Value).run P w=.ok z w/\TRel w S J g pv z:=by
 unfold qv0 at h;split at h
 · rename_i k x k' y;by_cases h1:op=.shl
   · subst h1;obtain⟨pv,hp,hh⟩:=qpV (P:=P) (op:=.shl) (yk:=k') (k:=k) (x:=x) (y:=y) (K:=K) (out:=out) (by simpa using h) (.inl rfl);refine⟨pv,hp,fun w S J g a b u v hu hv=>?_⟩;obtain⟨z,hz,hr⟩:=hh T' w S J g;rw[hu.int,hv.int];exact⟨z,by rw[Sem.run_bind,qkc];exact hz,hr⟩
   · by_cases h2 : op = .shr
     · subst h2;obtain⟨pv,hp,hh⟩:=qpV (P:=P) (op:=.shr) (yk:=k') (k:=k) (x:=x) (y:=y) (K:=K) (out:=out) (by simpa using h) (.inr rfl);refine⟨pv,hp,fun w S J g a b u v hu hv=>?_⟩;obtain⟨z,hz,hr⟩:=hh T' w S J g;rw[hu.int,hv.int];exact⟨z,by rw[Sem.run_bind,qkc];exact hz,hr⟩
     · have h' : (if k = k' then binI op k x y K else none) = some out := by
         revert h;cases op<;>first | exact id | exact absurd rfl h1 | exact absurd rfl h2
       split at h'
       · rename_i hk;subst hk;obtain⟨pv,hp,hh⟩:=qxP (P:=P) h' ⟨h1,h2⟩;refine⟨pv,hp,fun w S J g a b u v hu hv=>?_⟩;obtain⟨z,hz,hr⟩:=hh T' w S J g;rw[hu.int,hv.int];exact⟨z,by rw[Sem.run_bind,qkc];exact hz,hr⟩
       · cases h'
 · rename_i x y;split at h
   · rename_i hg;have hu:=(hT T' _ hg).2.2.2 rfl;have he:∀ w,(Op.equal T' (.bool x) (.bool y)).run P w=.ok (x == y) w:=fun w=>run_equalIn_bool w 9999 T' x y hu
     split at h
     · refine ⟨_, h, fun w S J g a b u v hu hv => ?_⟩;rw[hu.bool,hv.bool];exact⟨_,by rw[Sem.run_bind,qmo];simp [binOp,he],rfl⟩
     · refine ⟨_, h, fun w S J g a b u v hu hv => ?_⟩;rw[hu.bool,hv.bool];exact⟨_,by rw[Sem.run_bind,qmo];simp [binOp,he],rfl⟩
     · cases h
   · cases h
 · rename_i l l';split at h
   · rename_i t fs hg;obtain⟨hn,h⟩:=q8q h;have hn:=Nat.eq_of_beq_eq_true hn;split at h
     · split at h
       · rename_i r hr;refine⟨_,h,fun w S J g a b u v hu hv=>?_⟩;obtain⟨xs,rfl,hx⟩:=hu;obtain⟨ys,rfl,hy⟩:=hv;obtain⟨e1,e2⟩:=qqY (hT T' _ hg) hr hx hy hn;exact⟨_,by rw[Sem.run_bind,e2];simp [binOp,e1],rfl⟩
       · cases h
     · split at h
       · rename_i r hr;refine⟨_,h,fun w S J g a b u v hu hv=>?_⟩;obtain⟨xs,rfl,hx⟩:=hu;obtain⟨ys,rfl,hy⟩:=hv;obtain⟨e1,e2⟩:=qqY (hT T' _ hg) hr hx hy hn;exact⟨_,by rw[Sem.run_bind,e2];simp [binOp,e1],rfl⟩
       · cases h
     · cases h
   · cases h
 · cases h
theorem qvX {op:UnOp} {p:PV} {K:PV->Option R} {out:R} (h:qzr op p K=some out) :
   ∃ pv,K pv=some out/\∀ (w:World) (S:Foot) (J:Con) (g:Hp) (u:Value),TRel w S J g p u->∃ z,(Op.unary op u).run P w=.ok z w/\TRel w S J g pv z:=by
 unfold qzr at h;split at h
 · exact⟨_,h,fun w S J g u hu=>⟨_,by rw[hu.bool];rfl,rfl⟩⟩
 · exact⟨_,h,fun w S J g u hu=>⟨_,by rw[hu.int];rfl,rfl⟩⟩
 · cases h
theorem qn6 (hT:TbOk P tb) {src dst:TypeId} {p:PV} {K:PV->Option R} {out:R} (h:qlM tb src dst p K=some out) :
   ∃ pv,K pv=some out/\∀ (w:World) (S:Foot) (J:Con) (g:Hp) (u:Value),TRel w S J g p u->∃ z,(convert src dst u).run P w=.ok z w/\TRel w S J g pv z:=by
 unfold qlM at h;split at h
 · rename_i k k' kv n h1 h2;refine⟨_,h,fun w S J g u hu=>⟨.int k (k.wrap n),?_,rfl⟩⟩;rw[hu.int];have e1:=(hT dst _ h1).2.2.1 k rfl;have e2:=(hT src _ h2).2.2.1 _ rfl;simp [convert,run_underlying e1,run_underlying e2,Conv.intToInt]
 · cases h
theorem qov (hT:TbOk P tb) {T':TypeId} {f off:Nat} {T2:TypeId} (h:qnE tb T' f=some (off,T2)) :
   ∃ (fields:Array Field) (fd:Field),P.underlying T'=some (.struct fields)/\fields[f]?=some fd/\fd.offset=off/\fd.type=T2/\∃ t',tb.ty T2=some t'/\0<t'.size:=by
 unfold qnE at h;split at h
 · rename_i t fs q hg;obtain⟨_,_,fields,hu,hfs,hsz,_⟩:=hT T' _ hg;have hm:fields.toList.map (fun f=>(f.offset,f.type))=fs:=hfs;split at h
   · rename_i x hx;obtain⟨hpos,h⟩:=q8q h;injection h with h
     subst h;have hx2:=hx;rw[<- hm] at hx;simp only[List.getElem?_map,Option.map_eq_some_iff] at hx;obtain⟨fd,h1,h2⟩:=hx;injection h2 with h2 h3
     refine⟨fields,fd,hu,by simpa using h1,h2,h3,?_⟩;split at hpos
     · rename_i t2 ht2;exact⟨t2,ht2,Nat.le_of_ble_eq_true hpos⟩
     · cases hpos
   · cases h
 · cases h
theorem qoQ {h:Hp} {k:Nat} (ht:quP h k=true):∃ ob,h k=some ob/\ob≠.gone:=by
 unfold quP at ht;split at ht
 · rename_i t xs m hk;exact⟨_,hk,by simp⟩
 · rename_i l hk;exact⟨_,hk,by simp⟩
 · cases ht
theorem qmu (hT:TbOk P tb) {hp:Hp} {T':TypeId} {f:Nat} {p:PV} {K:PV->Option R} {out:R} (h:qjl tb hp T' f p K=some out) :
   ∃ pv,K pv=some out/\∀ (w:World) (S:Foot) (J:Con) (g:Hp) (u:Value),(∀ k ob,hp k=some ob->g k=some ob)->TRel w S J g p u->∃ z,(Instr.fieldAt T' u f).run P w=.ok z w/\TRel w S J g pv z:=by
 have run:∀ {off T2 b o} (w:World),qnE tb T' f=some (off,T2)->(Instr.fieldAt T' (.pointer (some ⟨b,o,none⟩)) f).run P w=.ok (.pointer (some ⟨b,o+off,none⟩)) w:=by
   intro off T2 b o w hf;obtain⟨fields,fd,hu,hfd,rfl,rfl,t',ht',hsz⟩:=qov hT hf;have hs:=qfj (hT.ty ht') w;have hne:t'.size≠0:=by omega
   simp [Instr.fieldAt,run_underlying hu,hfd,Instr.sureAddr,fieldPlace,hs,hne,Addr.add_mid]
 unfold qjl at h;split at h
 · rename_i off T2 k i o hf;obtain⟨hth,h⟩:=q8q h;refine⟨_,h,fun w S J g u hg hu=>?_⟩;obtain⟨ob,hob,hne⟩:=qoQ hth;have hob:=hg k ob hob;have hu':qac w S J g (.ptr k i o) u:=hu;simp only[qac,hob] at hu';have hu2:∃ b o',J k=some (b,o')/\u=.pointer (some ⟨b,o'+i*ob.sz+o,none⟩):=by
    cases ob with
    | gone=>exact absurd rfl hne
    | box l=>exact hu'
    | rows t xs m=>exact hu'
   obtain⟨b,o',hb,rfl⟩:=hu2;refine⟨_,run w hf,?_⟩;have:qac w S J g (.ptr k i (o+off)) (.pointer (some ⟨b,o'+i*ob.sz+o+off,none⟩)):=by
    simp only[qac,hob];cases ob with
    | gone=>trivial
    | box l=>exact⟨b,o',hb,by rw[Nat.add_assoc]⟩
    | rows t xs m=>exact⟨b,o',hb,by rw[Nat.add_assoc]⟩
   exact this.up
 · rename_i off T2 t x o hf;refine⟨_,h,fun w S J g u _ hu=>?_⟩;obtain⟨b,o',ds,rfl,hS,hc,ha⟩:=(show qac w S J g (.iptr t x o) u from hu);refine⟨_,run w hf,?_⟩;have:qac w S J g (.iptr t x (o+off)) (.pointer (some ⟨b,o'+o+off,none⟩)):=⟨b,o',ds,by rw[Nat.add_assoc],hS,hc,ha⟩;exact this.up
 · cases h
theorem qq5 (hT:TbOk P tb) {T':TypeId} {f:Nat} {p:PV} {K:PV->Option R} {out:R} (h:qpB tb T' f p K=some out) :
   ∃ pv,K pv=some out/\∀ (w:World) (S:Foot) (J:Con) (g:Hp) (u:Value),TRel w S J g p u->∃ z,(Instr.field T' u f).run P w=.ok z w/\TRel w S J g pv z:=by
 unfold qpB at h;split at h
 · rename_i off T2 l hf;obtain⟨fields,fd,hu,hfd,rfl,rfl,t',ht',hsz⟩:=qov hT hf;split at h
   · rename_i t fs q hg;obtain⟨hlen,h⟩:=q8q h;have hlen:=Nat.le_of_ble_eq_true hlen;have htt:t'=t:=by unfold Tb.ty at ht';rw[hg] at ht';injection ht' with ht';exact ht'.symm
     subst htt;refine⟨_,h,fun w S J g u hu'=>?_⟩;obtain⟨vs,rfl,hl⟩:=hu';have hag:t'.isAgg=true:=(hT _ _ hg).2.1;have hall:=(hl.drop fd.offset).take t'.size;refine⟨.agg ((vs.drop fd.offset).take t'.size).toArray,?_,_,rfl,hall⟩;have hia:=qhn (hT.ty ht') w;have hs:=qfj (hT.ty ht') w;simp [Instr.field,run_underlying hu,hfd,asAgg,part,hia,hag,hs,List.extract_toArray,List.extract_eq_take_drop]
   · cases h
   · rename_i te hne hna hg;split at h
     · rename_i v hv;refine⟨_,h,fun w S J g u hu'=>?_⟩;obtain⟨vs,rfl,hl⟩:=hu';obtain⟨x,hx,hr⟩:=hl.get hv;have hag:t'.isAgg=false:=by
        unfold Tb.ty at ht';rw[hg] at ht';cases te with
        | sc t=>injection ht' with ht';subst ht';exact(hT _ _ hg).2.1
        | slc e t b=>injection ht' with ht';subst ht';rfl
        | stc t fs q=>exact absurd rfl (hne t fs q)
        | pt e l=>injection ht' with ht';subst ht';rfl
        | arr e t=>exact absurd rfl (hna e t)
       have hia:=qhn (hT.ty ht') w;exact⟨x,by simp [Instr.field,run_underlying hu,hfd,asAgg,part,hia,hag,hx],hr.up⟩
     · cases h
   · cases h
 · cases h
end
end Go.Proofs.YtfoedjifcmfogaaDoor.X
