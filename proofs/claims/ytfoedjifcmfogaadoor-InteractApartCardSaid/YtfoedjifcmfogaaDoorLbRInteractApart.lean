/- Own work: part of the proof; the first line of each part says what it tells. -/
import Derived.Test.YtfoedjifcmfogaaDoorLb17
import Derived.Test.YtfoedjifcmfogaaDoorLb10
import Derived.Test.YtfoedjifcmfogaaDoorCards


namespace Go.Proofs.YtfoedjifcmfogaaDoor.X
open Go Go.ChangeShapes Go.WideShapes Go.ChangeAt Go.RowKit
set_option linter.unusedVariables false
set_option maxRecDepth 100000 in
theorem qjM (os:Os) (started:os.Started) (H:Type) (enc:TypeId×Value->H) :
  ReturnsInHanded {} Tryd.checked os 4 .any (fun w args=>(Rows.interactApartSpec.pre enc Tryd.prog Tryd.f4 [] false w args/\laidMetH Tryd.prog qvw w)/\sizedMet enc Tryd.prog Tryd.f4 (OpenSpec.ofChange Rows.interactApartSpec) false w args)
   (Rows.interactApartSpec.post enc Tryd.prog Tryd.f4 false true false false):=by
 refine returnsInHanded_of_change_and (C:=Tryd.checked) (X:=fun w _=>laidMetH Tryd.prog qvw w) (fun _ _ _ hh h=>h.of_heap hh) own started (by kernel_rfl) Tryd.func4
  (ChangeSpec.witness_shaped (enc:=enc) (C:=Tryd.checked) (os:=os) (X:=fun w _=>laidMetH Tryd.prog qvw w) false (World.doorLaid Tryd.prog 400 os) #[.agg #[.int .i64 0,.slice none 0 0],.slice none 0 0] 8 rfl (World.shaped_of_RefB (by kernel_rfl) (by kernel_rfl)) (by kernel_rfl) (by kernel_rfl) (by kernel_rfl) (qxD os _)) ?_
 intro W base args ds gs before hval0 hW _ _ hL _;obtain⟨hG,h0⟩:=qyZ hL;have hW':=hW;obtain⟨p,q,hA0,hV,rfl,hfz,hnd⟩:=hW;have hA:DataW.TrodAll enc Tryd.prog W 0 (fun _=>true) true Tryd.f4.params.toList args.toList ds p:=hA0;obtain⟨rfl,rfl⟩:=trodVars_none hV;obtain⟨x,hx,hwf⟩:=quM (S:=fun b=>b<W.heap.size) (fun b h=>h) (J:=fun _=>none) (r:=.any) (b0:=base) (n:=12) (ts:=fsts c4.ps) (i:=0) (by kernel_rfl) hA (fun j T' v h1 h2=>hval0 j T' v (by simpa using h1) (by simpa using h2));have hF:c4.F x=some true:=qle x.1 x.2.1 hwf.1.2.1 (fun t ht=>(hwf.1.2.2 t ht).1) hwf.2.1.1;have hcall:=qvv (T:=tabG tabN) (P:=Tryd.prog) (f:=4) (ts:=fsts c4.ps) (F:=c4.F) (enc:=c4.enc) (ok4 qAF) (fun _=>rfl) (x:=x) hF hx hG (fun b hb=>by simp [tabG] at hb;subst hb;exact h0);have hds:∃ d0 d1,ds=[d0,d1]:=by
  rw[Tryd.params4] at hA;obtain⟨v0,v1,d0,d1,p0,p1,_,rfl,_,_,_⟩:=trodAll_two hA;exact⟨_,_,rfl⟩
 obtain⟨d0,d1,rfl⟩:=hds;have hargs:args=args.toList.toArray:=by simp
 rw[hargs];refine hcall.mono fun e W' ⟨he,hc,hg,hs⟩=>?_
 exact⟨_,he,by rw[<- hargs];exact qxj qze rfl hW' rfl (by kernel_rfl) (by kernel_rfl) Tryd.underlying4 hc hs⟩
theorem qkn:Rows.InteractApartSaid :=
 OpenClaim.holds_of_wide 4 Tryd.f4 rfl rfl rfl rfl rfl rfl rfl ⟨rfl,rfl,rfl,rfl,rfl⟩ rfl rfl rfl rfl rfl (by kernel_rfl) Tryd.func4 (by kernel_rfl)
  (of_decide_eq_true (by kernel_rfl)) (by unfold Func.isWrapper;first | (rw[if_pos (by decide +kernel)];kernel_rfl) | (rw[if_neg (by decide +kernel)];exact⟨rfl,rfl⟩))
  (fun os started H enc _=>qjM os started H enc)
theorem InteractApart_card:Rows.InteractApartCardSaid :=
 Claim7.holds_tied_plain_at .later [] [.data] true (true, "1ac1ecffb7edc5d5bb799bf93ecf904f9fe866306586dd7ebf5ed8ac200717f2") false
  qkn (fun _ h=>by cases h) (by kernel_rfl) (fun _ h=>by cases h) interactApart_row_tie rfl ⟨rfl,rfl⟩ (by kernel_rfl) rfl
  (fun f fn hf hfn => by
   obtain rfl : f = 4 := Option.some.inj ((show Tryd.prog.funcNamed "dendron/dendronlaw18.InteractApart" = some 4 by kernel_rfl).symm.trans hf) |>.symm
   obtain rfl:fn=Tryd.f4:=(Option.some.inj (Tryd.func4.symm.trans hfn)).symm;exact⟨by kernel_rfl,fun j t ht=>by
    rw[Tryd.params4] at ht;have hm:t∈[24,34]:=by simpa using Array.mem_of_getElem? ht
    have hall:([24,34].all fun u=>!Tryd.prog.wantsStandIn u)=true:=by kernel_rfl
    exact(show Tryd.prog.wantsStandIn t=false by simpa using List.all_eq_true.1 hall t hm)⟩)
  (by kernel_rfl)
#print axioms InteractApart_card
end Go.Proofs.YtfoedjifcmfogaaDoor.X
