/- Own work: part of the proof; the first line of each part says what it tells. -/
import Derived.Test.YtfoedjifcmfogaaDoorLb16
import Derived.Test.YtfoedjifcmfogaaDoorLb6
import Derived.Test.YtfoedjifcmfogaaDoorLb12
import Derived.Test.YtfoedjifcmfogaaDoorTie
import Derived.ProofKit
import Derived.LaidMore
import Derived.OpenShut
import Derived.Stop.Joined


namespace Go.Proofs.YtfoedjifcmfogaaDoor.X
open Go Go.ChangeShapes Go.WideShapes Go.ChangeAt Go.RowKit
set_option linter.unusedVariables false
set_option maxHeartbeats 4000000 in
set_option maxRecDepth 100000 in
theorem qyD (x:Int) (w:World) (h0:0<x) (h1:x<=18446744073709551615) (n:Int) (hn0:0<=n) (hn:n<256)
  (hc:w.cell? ⟨0,(IntKind.u64.wrap (Go.bits BinOp.and IntKind.u64 x (IntKind.u64.wrap (-x))*285870213051353865)/288230376151711744).toNat,none⟩=some (.int .u8 n))
  (hr:0<=IntKind.u64.wrap (Go.bits BinOp.and IntKind.u64 x (IntKind.u64.wrap (-x))*285870213051353865)/288230376151711744/\IntKind.u64.wrap (Go.bits BinOp.and IntKind.u64 x (IntKind.u64.wrap (-x))*285870213051353865)/288230376151711744<64) :
  Calls Tryd.prog 92 #[.int .u64 x] w fun e w'=>e=.returned (.int .i64 n)/\w'=w:=by
 go_enter Tryd.func92,Tryd.ntmps92
 go_wp2
 go_ret
 exact⟨congrArg Ending.returned (congrArg (Value.int IntKind.i64) rfl),rfl⟩
theorem qwI {y t m:Nat} (hy:y=2 ^ t*m) (hm:m % 2=1) (hy0:0<y) (hy1:y<2 ^ 64) :
  IntKind.u64.wrap (Go.bits BinOp.and IntKind.u64 (y:Int) (IntKind.u64.wrap (-(y:Int)))*285870213051353865)/288230376151711744=((2 ^ t*285870213051353865 % 18446744073709551616/288230376151711744:Nat):Int):=by
 have e1:IntKind.u64.wrap (-(y:Int))=((2 ^ 64-y:Nat):Int):=by rw[qhg];omega
 have e2:Go.bits BinOp.and IntKind.u64 (y:Int) ((2 ^ 64-y:Nat):Int)=((2 ^ t:Nat):Int):=by
  have:=qxr (x:=y) (y:=2 ^ 64-y) hy1 (by omega);rw[show Go.bits BinOp.and IntKind.u64 (y:Int) ((2 ^ 64-y:Nat):Int)=iand .u64 (y:Int) ((2 ^ 64-y:Nat):Int) from rfl,this];congr 1
  conv=>lhs;rw[hy]
  exact qzB hm (by rw[<- hy];exact hy1)
 rw[e1,e2,qhg];generalize 2 ^ t=T;omega
theorem qAB:qam (tabG tabN) Tryd.prog 92 c92:=by
 refine qam.scalar Tryd.func92 (by kernel_rfl) (by kernel_rfl) ?_;intro x r hF w hG;have hF:tz64 x=some r:=hF;unfold tz64 at hF;by_cases hx:0<x/\x<18446744073709551616
 · rw [decide_eq_true hx.1, decide_eq_true hx.2] at hF;simp only[Bool.and_self,cond_true,Option.some.injEq] at hF;subst hF;obtain⟨y,rfl⟩:=Int.eq_ofNat_of_zero_le (Int.le_of_lt hx.1);have hy0:0<y:=by omega
   have hy1:y<2 ^ 64:=by have:=hx.2;omega
   obtain⟨m,hm1,hm2,hm3⟩:=qoP 64 y hy0 hy1;rw[tN0];have hi:=qwI hm1 hm2 hy0 hy1;have hd:=deB ⟨tzN 64 y,hm3⟩;have hlt:(2 ^ tzN 64 y*285870213051353865 % 18446744073709551616)/288230376151711744<64:=by omega
   refine qyD _ w hx.1 (by have:=hx.2;omega) _ (by omega) (by omega) ?_ ?_
   · rw [hi, tN0];exact hG _ _ hd
   · rw[hi];omega
 · exfalso;by_cases h1:0<x
   · rw [decide_eq_true h1, decide_eq_false (fun h => hx ⟨h1, h⟩)] at hF;cases hF
   · rw [decide_eq_false h1] at hF;cases hF
theorem qAd {T:Told}:qam T Tryd.prog 98 c98:=by
 refine qam.scalar Tryd.func98 (by kernel_rfl) (by kernel_rfl) ?_;intro x r hF w hG;have hF:qt6 x=some r:=hF;unfold qt6 at hF;by_cases hx:0<=x/\x<4294967296
 · rw [decide_eq_true hx.1, decide_eq_true hx.2] at hF;simp only[Bool.and_self,cond_true,Option.some.injEq] at hF;subst hF;have:=qxh x w hx.1 (by have:=hx.2;omega)
   rwa [qur (by have:=hx.2;omega)] at this
 · exfalso;by_cases h1:0<=x
   · rw [decide_eq_true h1, decide_eq_false (fun h => hx ⟨h1, h⟩)] at hF;cases hF
   · rw [decide_eq_false h1] at hF;cases hF
theorem tbOk:TbOk Tryd.prog tb:=quQ (by kernel_rfl)
theorem qAF:qad (tabG tabN):=⟨tbOk,qAB,qAd⟩
def qvw : List (String × DataW Unit) := [("math/bits.deBruijn64tab", Rows.laid_math_bits_deBruijn64tab)]
theorem own:ownKnob Tryd.prog.godebug=none:=by kernel_rfl
theorem qze:laidOutB Tryd.prog=true:=by kernel_rfl
theorem gTab : Tryd.prog.globalNamed "math/bits.deBruijn64tab" = some 0 := by kernel_rfl
theorem tTab:(Tryd.prog.globals[0]?).map (·.type)=some 146:=by kernel_rfl
theorem qxk:(Rows.laid_math_bits_deBruijn64tab:DataW Unit)=.agg (tabN.map fun(n:Nat)=>.lit (.int .u8 (n:Int))):=rfl
theorem qyZ {W:World} (h:laidMetH Tryd.prog qvw W):(tabG tabN).G W/\0<W.heap.size:=by
 rw[MakeChecks.laidMetH_plain _ _ _ (by kernel_rfl)] at h;obtain⟨ps,⟨g0,t0,cs0,f0,p0,q0,hg0,ht0,hv0,hd0,_,_⟩,_,_⟩:=h;obtain rfl:=Option.some.inj (gTab.symm.trans hg0);obtain rfl:=Option.some.inj (tTab.symm.trans ht0);obtain⟨xs,m1,rfl,hx1,hlen,hn3,hel⟩:=DataW.trod_array Tryd.underlying146 hd0;have c5:Tryd.prog.cellsOf 5=1:=by kernel_rfl
 rw[qxk] at hx1;simp only[Prod.mk.injEq,DataW.agg.injEq] at hx1;have key:(tabG tabN).G W:=by
  intro i n hi;have hlt:i<64:=by
   have:=(List.getElem?_eq_some_iff.1 hi).1;exact this
  have hxi:i<xs.length:=by omega
  have h0:=hel i hlt;rw[gE0 hxi] at h0;obtain⟨k,e1,e2,_⟩:=DataW.trod_int Tryd.underlying5 h0;have hk:(tabN.map fun(n:Nat)=>(DataW.lit (Lit.int .u8 (n:Int)):DataW Unit))[i]?=(xs.map (·.1))[i]?:=by rw[hx1.1]
  rw[List.getElem?_map,hi,List.getElem?_map,gE0 hxi,e2] at hk;simp at hk;subst hk;have:=World.var?_cell hg0 hv0 i;rw[this,<- Array.getElem?_toList];rw[c5,Nat.mul_one] at e1;have e3:(List.take 1 (List.drop i cs0.toList))[0]?=some (.int .u8 (n:Int)):=by rw[e1];rfl
  rw[List.getElem?_take_of_lt (by decide),List.getElem?_drop] at e3;simpa using e3
 refine⟨key,?_⟩;have:=key 0 0 rfl;exact(qpS this).2
theorem qxD (os:Os) (args:Array Value):laidMetH Tryd.prog qvw ((World.doorLaid Tryd.prog 400 os).forCall (fun _ _=>0) ⟨#[],args,[]⟩).memory :=
 laidMetH_of_parts3 (fuel:=8) (laidMet_of_run' 8 (by kernel_rfl) (by kernel_rfl)) (by kernel_rfl) (by kernel_rfl)
end Go.Proofs.YtfoedjifcmfogaaDoor.X
