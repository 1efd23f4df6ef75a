/- Own work: part of the proof; the first line of each part says what it tells. -/
import Derived.Test.YtmabkjhobhbfdaaDoorLa12
import Derived.Test.YtmabkjhobhbfdaaDoorLa8
import Derived.Test.YtmabkjhobhbfdaaDoorCards


namespace Go.Proofs.YtmabkjhobhbfdaaDoor.X
open Go Go.ChangeShapes Go.WideShapes Go.ChangeAt Go.RowKit
set_option linter.unusedVariables false
set_option maxRecDepth 100000 in
theorem qgE (os:Os) (started:os.Started) (H:Type) (enc:TypeId×Value->H) :
  ReturnsInHanded {} Tryd.checked os 3 .any (fun w args=>(Rows.pathshapNobodySpec.pre enc Tryd.prog Tryd.f3 [] false w args/\laidMetH Tryd.prog qoF w)/\sizedMet enc Tryd.prog Tryd.f3 (OpenSpec.ofChange Rows.pathshapNobodySpec) false w args)
   (Rows.pathshapNobodySpec.post enc Tryd.prog Tryd.f3 false true false false):=by
 refine returnsInHanded_of_change_and (C:=Tryd.checked) (X:=fun w _=>laidMetH Tryd.prog qoF w) (fun _ _ _ hh h=>h.of_heap hh) own started (by kernel_rfl) Tryd.func3
  (ChangeSpec.witness_shaped (enc:=enc) (C:=Tryd.checked) (os:=os) (X:=fun w _=>laidMetH Tryd.prog qoF w) false (World.doorLaid Tryd.prog 400 os) #[.int .i64 0,.agg #[.bool false,.slice none 0 0,.slice none 0 0]] 8 rfl (World.shaped_of_RefB (by kernel_rfl) (by kernel_rfl)) (by kernel_rfl) (by kernel_rfl) (by kernel_rfl) (qpA os _)) ?_
 intro W base args ds gs before hval0 hW _ _ hL _;obtain⟨hG,h0⟩:=qqj hL;have hW':=hW;obtain⟨p,q,hA0,hV,rfl,hfz,hnd⟩:=hW;have hA:DataW.TrodAll enc Tryd.prog W 0 (fun _=>true) true Tryd.f3.params.toList args.toList ds p:=hA0;obtain⟨rfl,rfl⟩:=trodVars_none hV;obtain⟨x,hx,hwf⟩:=qon (S:=fun b=>b<W.heap.size) (fun b h=>h) (Z:=fun _=>none) (r:=.any) (b0:=base) (n:=12) (ts:=fsts c3.ps) (i:=0) (by kernel_rfl) hA (fun j T' v h1 h2=>hval0 j T' v (by simpa using h1) (by simpa using h2));have hF:c3.F x=some true:=qhe x.1 x.2.1;have hcall:=qoE (T:=tabG tabN) (P:=Tryd.prog) (f:=3) (ts:=fsts c3.ps) (F:=c3.F) (enc:=c3.enc) (ok3 qrf) (fun _=>rfl) (x:=x) hF hx hG (fun b hb=>by simp [tabG] at hb;subst hb;exact h0);have hds:∃ d0 d1,ds=[d0,d1]:=by
  rw[Tryd.params3] at hA;obtain⟨v0,v1,d0,d1,p0,p1,_,rfl,_,_,_⟩:=trodAll_two hA;exact⟨_,_,rfl⟩
 obtain⟨d0,d1,rfl⟩:=hds;have hargs:args=args.toList.toArray:=by simp
 rw[hargs];refine hcall.mono fun e W' ⟨he,hc,hg,hs⟩=>?_
 exact⟨_,he,by rw[<- hargs];exact qps qqp rfl hW' rfl (by kernel_rfl) (by kernel_rfl) Tryd.underlying4 hc hs⟩
theorem qgS:Rows.PathshapNobodySaid :=
 OpenClaim.holds_of_wide 3 Tryd.f3 rfl rfl rfl rfl rfl rfl rfl ⟨rfl,rfl,rfl,rfl,rfl⟩ rfl rfl rfl rfl rfl (by kernel_rfl) Tryd.func3 (by kernel_rfl)
  (of_decide_eq_true (by kernel_rfl)) (by unfold Func.isWrapper;first | (rw[if_pos (by decide +kernel)];kernel_rfl) | (rw[if_neg (by decide +kernel)];exact⟨rfl,rfl⟩))
  (fun os started H enc _=>qgE os started H enc)
theorem PathshapNobody_card:Rows.PathshapNobodyCardSaid :=
 Claim7.holds_tied_plain_at .later [] [.data] true (true, "fa512d3f7b6c69297a3337873d4a3304cfbf70ece964345d007471e0a697a7be") false
  qgS (fun _ h=>by cases h) (by kernel_rfl) (fun _ h=>by cases h) pathshapNobody_row_tie rfl ⟨rfl,rfl⟩ (by kernel_rfl) rfl
  (fun f fn hf hfn => by
   obtain rfl : f = 3 := Option.some.inj ((show Tryd.prog.funcNamed "dendron/dendronlaw15.PathshapNobody" = some 3 by kernel_rfl).symm.trans hf) |>.symm
   obtain rfl:fn=Tryd.f3:=(Option.some.inj (Tryd.func3.symm.trans hfn)).symm;exact⟨by kernel_rfl,fun j t ht=>by
    rw[Tryd.params3] at ht;have hm:t∈[3,27]:=by simpa using Array.mem_of_getElem? ht
    have hall:([3,27].all fun u=>!Tryd.prog.wantsStandIn u)=true:=by kernel_rfl
    exact(show Tryd.prog.wantsStandIn t=false by simpa using List.all_eq_true.1 hall t hm)⟩)
  (by kernel_rfl)
#print axioms PathshapNobody_card
end Go.Proofs.YtmabkjhobhbfdaaDoor.X
