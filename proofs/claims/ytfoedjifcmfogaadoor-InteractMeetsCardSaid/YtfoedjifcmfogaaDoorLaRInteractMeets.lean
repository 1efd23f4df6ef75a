/- Own work: part of the proof; the first line of each part says what it tells. -/
import Derived.Test.YtfoedjifcmfogaaDoorLa14
import Derived.Test.YtfoedjifcmfogaaDoorLa9
import Derived.Test.YtfoedjifcmfogaaDoorCards


namespace Go.Proofs.YtfoedjifcmfogaaDoor.X
open Go Go.ChangeShapes Go.WideShapes Go.ChangeAt Go.RowKit
set_option linter.unusedVariables false
set_option maxRecDepth 100000 in
theorem qik (os:Os) (started:os.Started) (H:Type) (enc:TypeId×Value->H) :
  ReturnsInHanded {} Tryd.checked os 3 .any (fun w args=>(Rows.interactMeetsSpec.pre enc Tryd.prog Tryd.f3 [] false w args/\laidMetH Tryd.prog qrY w)/\sizedMet enc Tryd.prog Tryd.f3 (OpenSpec.ofChange Rows.interactMeetsSpec) false w args)
   (Rows.interactMeetsSpec.post enc Tryd.prog Tryd.f3 false true false false):=by
 refine returnsInHanded_of_change_and (C:=Tryd.checked) (X:=fun w _=>laidMetH Tryd.prog qrY w) (fun _ _ _ hh h=>h.of_heap hh) own started (by kernel_rfl) Tryd.func3
  (ChangeSpec.witness_shaped (enc:=enc) (C:=Tryd.checked) (os:=os) (X:=fun w _=>laidMetH Tryd.prog qrY w) false (World.doorLaid Tryd.prog 400 os) #[.agg #[.int .i64 0,.slice none 0 0]] 8 rfl (World.shaped_of_RefB (by kernel_rfl) (by kernel_rfl)) (by kernel_rfl) (by kernel_rfl) (by kernel_rfl) (qtw os _)) ?_
 intro W base args ds gs before hval0 hW _ _ hL _;obtain⟨hG,h0⟩:=quH hL;have hW':=hW;obtain⟨p,q,hA0,hV,rfl,hfz,hnd⟩:=hW;have hA:DataW.TrodAll enc Tryd.prog W 0 (fun _=>true) true Tryd.f3.params.toList args.toList ds p:=hA0;obtain⟨rfl,rfl⟩:=trodVars_none hV;obtain⟨x,hx,hwf⟩:=qrr (S:=fun b=>b<W.heap.size) (fun b h=>h) (J:=fun _=>none) (r:=.any) (b0:=base) (n:=12) (ts:=fsts c3.ps) (i:=0) (by kernel_rfl) hA (fun j T' v h1 h2=>hval0 j T' v (by simpa using h1) (by simpa using h2));have hF:c3.F x=some true:=qjy x.1 hwf.1.2.1 (fun t ht=>(hwf.1.2.2 t ht).1);have hcall:=qrX (T:=tabG tabN) (P:=Tryd.prog) (f:=3) (ts:=fsts c3.ps) (F:=c3.F) (enc:=c3.enc) (ok3 qvK) (fun _=>rfl) (x:=x) hF hx hG (fun b hb=>by simp [tabG] at hb;subst hb;exact h0);have hds:∃ d0,ds=[d0]:=by
  rw[Tryd.params3] at hA;obtain⟨v0,d0,_,rfl,_⟩:=trodAll_one hA;exact⟨_,rfl⟩
 obtain⟨d0,rfl⟩:=hds;have hargs:args=args.toList.toArray:=by simp
 rw[hargs];refine hcall.mono fun e W' ⟨he,hc,hg,hs⟩=>?_
 exact⟨_,he,by rw[<- hargs];exact qtj quQ rfl hW' rfl (by kernel_rfl) (by kernel_rfl) Tryd.underlying4 hc hs⟩
theorem qiL:Rows.InteractMeetsSaid :=
 OpenClaim.holds_of_wide 3 Tryd.f3 rfl rfl rfl rfl rfl rfl rfl ⟨rfl,rfl,rfl,rfl,rfl⟩ rfl rfl rfl rfl rfl (by kernel_rfl) Tryd.func3 (by kernel_rfl)
  (of_decide_eq_true (by kernel_rfl)) (by unfold Func.isWrapper;first | (rw[if_pos (by decide +kernel)];kernel_rfl) | (rw[if_neg (by decide +kernel)];exact⟨rfl,rfl⟩))
  (fun os started H enc _=>qik os started H enc)
theorem InteractMeets_card:Rows.InteractMeetsCardSaid :=
 Claim7.holds_tied_plain_at .later [] [.data] true (true, "1ac1ecffb7edc5d5bb799bf93ecf904f9fe866306586dd7ebf5ed8ac200717f2") false
  qiL (fun _ h=>by cases h) (by kernel_rfl) (fun _ h=>by cases h) interactMeets_row_tie rfl ⟨rfl,rfl⟩ (by kernel_rfl) rfl
  (fun f fn hf hfn => by
   obtain rfl : f = 3 := Option.some.inj ((show Tryd.prog.funcNamed "dendron/dendronlaw18.InteractMeets" = some 3 by kernel_rfl).symm.trans hf) |>.symm
   obtain rfl:fn=Tryd.f3:=(Option.some.inj (Tryd.func3.symm.trans hfn)).symm;exact⟨by kernel_rfl,fun j t ht=>by
    rw[Tryd.params3] at ht;have hm:t∈[24]:=by simpa using Array.mem_of_getElem? ht
    have hall:([24].all fun u=>!Tryd.prog.wantsStandIn u)=true:=by kernel_rfl
    exact(show Tryd.prog.wantsStandIn t=false by simpa using List.all_eq_true.1 hall t hm)⟩)
  (by kernel_rfl)
#print axioms InteractMeets_card
end Go.Proofs.YtfoedjifcmfogaaDoor.X
