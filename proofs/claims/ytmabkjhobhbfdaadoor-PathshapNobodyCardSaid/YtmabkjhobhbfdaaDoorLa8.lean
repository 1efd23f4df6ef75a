/- Own work: part of the proof; the first line of each part says what it tells. -/
import Derived.Test.YtmabkjhobhbfdaaDoorLa7
import Derived.Test.YtmabkjhobhbfdaaDoorLa6


namespace Go.Proofs.YtmabkjhobhbfdaaDoor.X
open Go
set_option linter.unusedVariables false
set_option linter.unusedSimpArgs false
def cut (a:List Int):List Int:=a.map (· % 4294967296)
@[simp] theorem qrg (a:List Int):(cut a).length=a.length:=by simp [cut]
def fill {α:Type} (X:List α) (z:α) (i:Nat):List α:=X.take i++List.replicate (X.length-i) z
@[simp] theorem qq0 {α:Type} (X:List α) (z:α) (i:Nat) (h:i<=X.length):(fill X z i).length=X.length:=by simp [fill];omega
section
variable {U V D B u2 ul two v1 v2 vl g r:Nat}
end
def qqT (z:Int):WH:=(decide (z<0),qqo z.natAbs)
def wv (a:WH):Int:=if a.1 then -((nn a.2:Nat):Int) else ((nn a.2:Nat):Int)
def canQ (q:Rat):RAT:=(qqT q.num,qqo q.den)
def rv (a:RAT):Rat:=mkRat (wv a.1) (nn a.2)
def SzR (a:RAT) (n:Nat):Prop:=a.1.2.length<=n/\a.2.length<=n
def rabs (q:Rat):Rat:=if q<0 then -q else q
def pre (v:Nat->Rat) (i j:Nat):Prop:=v j<v i\/(v i=v j/\i<j)
def ints (o:List Nat):List Int:=o.map fun(i:Nat)=>(i:Int)
@[simp] theorem qqZ (o:List Nat):(ints o).length=o.length:=by simp [ints]
def vals (l:List RAT) (i:Nat):Rat:=rv ((l[i]?).getD ((false,[]),[]))
def qpR (n:Nat) (o:List Nat):List Bool:=(List.range n).map fun j=>decide (j∈o)
@[simp] theorem qqC (n:Nat) (o:List Nat):(qpR n o).length=n:=by simp [qpR]
def dd:List Int->Nat
 | []=>0
 | x::r=>(x % 10000).toNat+10000*dd r
@[simp] theorem qrl:dd []=0:=rfl
def rsum (f:Nat->Rat):Nat->Rat
 | 0=>0
 | n+1=>rsum f n+f n
def vabs (l:List RAT) (i:Nat):Rat:=rabs (vals l i)
def vsum (l:List RAT):Rat:=rsum (vabs l) l.length
def qqJ (l:List RAT) (i:Nat):Rat:=vabs l i/vsum l
def qpT (l:List RAT) (n:Nat):List RAT:=(List.range n).map fun i=>canQ (qqJ l i)
@[simp] theorem qqD (l:List RAT) (n:Nat):(qpT l n).length=n:=by simp [qpT]
section
variable {l:List RAT} (hsz:∀ x∈l,SzR x 2) (hlen:l.length<=33)
include hsz
end
abbrev qrb (n:NODE):Bool:=n.1
abbrev nL (n:NODE):Int:=n.2.2.2.1
abbrev nR (n:NODE):Int:=n.2.2.2.2.1
def kids (t:List NODE) (i:Nat):List Nat :=
 match t[i]? with
 | some n=>if qrb n then [] else [(nL n).toNat,(nR n).toNat]
 | none=>[]
def cnt (t:List NODE) (i j:Nat):Nat:=((List.range i).flatMap (kids t)).count j
section
variable {t:List NODE} {f:Int}
end
def cntL (t:List NODE) (i:Nat):List Int:=(List.range t.length).map fun j=>((cnt t i j:Nat):Int)
@[simp] theorem qq1 (t:List NODE) (i:Nat):(cntL t i).length=t.length:=by simp [cntL]
def qcan (qs:List Rat):List RAT:=qs.map canQ
@[simp] theorem qqY (qs:List Rat):(qcan qs).length=qs.length:=by simp [qcan]
theorem qj5:qa5=some true:=by decide +kernel
theorem qo5 (a:Int):qaU a []=some (0,[]):=by
 have key:=qqm (step:=qam) (fun k=>((a,((0:Nat):Int),(k:Int),()),(([],()),()))) 0 (r:=.inl ((),(([],()),()))) (by omega) (fun g k hk=>absurd hk (Nat.not_lt_zero k)) (by
  intro g;rw[qam,cnd' (by omega)])
 have key:lp qam K0 ((a,((([]:List (Int×RAT×CELL)).length:Nat):Int),0,()),(([],()),()))=_:=key;rw[qaU,key];rfl
theorem qmw:qa1 []=some ([],[]):=by
 have key:=qqm (step:=qah) (fun k=>(([],((0:Nat):Int),(k:Int),()),(([],()),()))) 0 (r:=(([],()),(([],()),()))) (by omega) (fun g k hk=>absurd hk (Nat.not_lt_zero k)) (by
  intro g;rw[qah,cnd' (by omega)])
 have key:lp qah K0 (([],((([]:List (Int×RAT×CELL)).length:Nat):Int),0,()),(([],()),()))=_:=key;rw[qa1,key];rfl
theorem qoe:qaC []=some ([],[]):=by
 have key:=qqm (step:=qak) (fun k=>(([],((0:Nat):Int),(k:Int),()),(([],()),()))) 0 (r:=(([],()),(([],()),()))) (by omega) (fun g k hk=>absurd hk (Nat.not_lt_zero k)) (by
  intro g;rw[qak,cnd' (by omega)])
 have key:lp qak K0 (([],((([]:List (Int×RAT×CELL)).length:Nat):Int),0,()),(([],()),()))=_:=key;rw[qaC,key];rfl
theorem qhe (a:Int) (x:RAT):qaV a x=some true:=by
 have e1:qbD a []=some (((false,[]),[]),18,[]):=rfl;have e2:qci []=some (0,[]):=rfl;have e3:qay a x true []=some (18,[]):=rfl;have e4:qaX a []=some (18,[]):=rfl;rw[qaV,qbq,bS0,e1,bS0,qbr,bS0];dsimp only;rw[e2,bS0,qbl,bS0];dsimp only;rw[qo5,bS0];dsimp only;rw[show iadd .i64 (iadd .i64 (iadd .i64 0 0) 0) 0=0 by decide,cnd rfl,qbm,bS0,qbb,bS0,cnd rfl,e3,bS0];dsimp only;rw[cnd rfl,qba,bS0,cnd rfl,e4,bS0];dsimp only;rw[cnd rfl,cnd rfl,cnd rfl,qa4,bS0,qmw,bS0,qbf,bS0];dsimp only;rw[qoe,bS0];dsimp only;rw[show iadd .i64 (iadd .i64 (iadd .i64 ((([]:List RAT).length:Nat):Int) ((([]:List RAT).length:Nat):Int)) ((([]:List PART).length:Nat):Int)) ((([]:List PART).length:Nat):Int)=0 by decide,cnd rfl,qj5];rfl
end Go.Proofs.YtmabkjhobhbfdaaDoor.X
