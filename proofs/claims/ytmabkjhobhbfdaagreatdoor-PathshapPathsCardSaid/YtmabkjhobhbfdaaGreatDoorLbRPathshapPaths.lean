/- Own work: part of the proof; the first line of each part says what it tells. -/
import Derived.Test.YtmabkjhobhbfdaaGreatDoorLb15
import Derived.Test.YtmabkjhobhbfdaaGreatDoorLb9
import Derived.Test.YtmabkjhobhbfdaaGreatDoorCards


namespace Go.Proofs.YtmabkjhobhbfdaaGreatDoor.X
open Go Go.ChangeShapes Go.WideShapes Go.ChangeAt Go.RowKit
set_option linter.unusedVariables false
set_option maxRecDepth 100000 in
theorem qlA (os:Os) (started:os.Started) (H:Type) (enc:TypeId×Value->H) :
  ReturnsInHanded {} Tryz.checked os 3 .any (fun w args=>(Rows.pathshapPathsSpec.pre enc Tryz.prog Tryz.f3 [] false w args/\laidMetH Tryz.prog qwq w)/\sizedMet enc Tryz.prog Tryz.f3 (OpenSpec.ofChange Rows.pathshapPathsSpec) false w args)
   (Rows.pathshapPathsSpec.post enc Tryz.prog Tryz.f3 false true false false):=by
 refine returnsInHanded_of_change_and (C:=Tryz.checked) (X:=fun w _=>laidMetH Tryz.prog qwq w) (fun _ _ _ hh h=>h.of_heap hh) own started (by kernel_rfl) Tryz.func3
  (ChangeSpec.witness_shaped (enc:=enc) (C:=Tryz.checked) (os:=os) (X:=fun w _=>laidMetH Tryz.prog qwq w) false (World.doorLaid Tryz.prog 400 os) #[.slice none 0 0] 8 rfl (World.shaped_of_RefB (by kernel_rfl) (by kernel_rfl)) (by kernel_rfl) (by kernel_rfl) (by kernel_rfl) (qx8 os _)) ?_
 intro W base args ds gs before hval0 hW _ _ hL _;obtain⟨hG,h0⟩:=qzl hL;have hW':=hW;obtain⟨p,q,hA0,hV,rfl,hfz,hnd⟩:=hW;have hA:DataW.TrodAll enc Tryz.prog W 0 (fun _=>true) true Tryz.f3.params.toList args.toList ds p:=hA0;obtain⟨rfl,rfl⟩:=trodVars_none hV;obtain⟨x,hx,hwf⟩:=qvO (S:=fun b=>b<W.heap.size) (fun b h=>h) (J:=fun _=>none) (r:=.any) (b0:=base) (n:=12) (ts:=fsts c3.ps) (i:=0) (by kernel_rfl) hA (fun j T' v h1 h2=>hval0 j T' v (by simpa using h1) (by simpa using h2));have hF:c3.F x=some true:=qmX x.1 hwf.1.1 (fun o ho=>Int.lt_of_le_of_lt (hwf.1.2 o ho).2.1.2 (by decide));have hcall:=qwp (T:=tabG tabN) (P:=Tryz.prog) (f:=3) (ts:=fsts c3.ps) (F:=c3.F) (enc:=c3.enc) (ok3 qA3) (fun _=>rfl) (x:=x) hF hx hG (fun b hb=>by simp [tabG] at hb;subst hb;exact h0);have hds:∃ d0,ds=[d0]:=by
  rw[Tryz.params3] at hA;obtain⟨v0,d0,_,rfl,_⟩:=trodAll_one hA;exact⟨_,rfl⟩
 obtain⟨d0,rfl⟩:=hds;have hargs:args=args.toList.toArray:=by simp
 rw[hargs];refine hcall.mono fun e W' ⟨he,hc,hg,hs⟩=>?_
 exact⟨_,he,by rw[<- hargs];exact qxT qzx rfl hW' rfl (by kernel_rfl) (by kernel_rfl) Tryz.underlying4 hc hs⟩
theorem ql9:Rows.PathshapPathsSaid :=
 OpenClaim.holds_of_wide 3 Tryz.f3 rfl rfl rfl rfl rfl rfl rfl ⟨rfl,rfl,rfl,rfl,rfl⟩ rfl rfl rfl rfl rfl (by kernel_rfl) Tryz.func3 (by kernel_rfl)
  (of_decide_eq_true (by kernel_rfl)) (by unfold Func.isWrapper;first | (rw[if_pos (by decide +kernel)];kernel_rfl) | (rw[if_neg (by decide +kernel)];exact⟨rfl,rfl⟩))
  (fun os started H enc _=>qlA os started H enc)
theorem PathshapPaths_card:Rows.PathshapPathsCardSaid :=
 Claim7.holds_tied_plain_at .later [] [.data] true (true, "5dfb96cca3e405d4f07bf7d9eb38826ebdf022b84dfeae43dc11c744321ad2ae") false
  ql9 (fun _ h=>by cases h) (by kernel_rfl) (fun _ h=>by cases h) pathshapPaths_row_tie rfl ⟨rfl,rfl⟩ (by kernel_rfl) rfl
  (fun f fn hf hfn => by
   obtain rfl : f = 3 := Option.some.inj ((show Tryz.prog.funcNamed "dendron/dendronlaw15.PathshapPaths" = some 3 by kernel_rfl).symm.trans hf) |>.symm
   obtain rfl:fn=Tryz.f3:=(Option.some.inj (Tryz.func3.symm.trans hfn)).symm;exact⟨by kernel_rfl,fun j t ht=>by
    rw[Tryz.params3] at ht;have hm:t∈[22]:=by simpa using Array.mem_of_getElem? ht
    have hall:([22].all fun u=>!Tryz.prog.wantsStandIn u)=true:=by kernel_rfl
    exact(show Tryz.prog.wantsStandIn t=false by simpa using List.all_eq_true.1 hall t hm)⟩)
  (by kernel_rfl)
#print axioms PathshapPaths_card
end Go.Proofs.YtmabkjhobhbfdaaGreatDoor.X
