/- Own work: part of the proof; the first line of each part says what it tells. -/
import Derived.Test.YthcpiofmhkhbeaaDoorLb13
import Derived.Test.YthcpiofmhkhbeaaDoorLb9
import Derived.Test.YthcpiofmhkhbeaaDoorCards


namespace Go.Proofs.YthcpiofmhkhbeaaDoor.X
open Go Go.ChangeShapes Go.WideShapes Go.ChangeAt Go.RowKit
set_option linter.unusedVariables false
set_option maxRecDepth 100000 in
theorem PathshapMany_lifted (os:Os) (started:os.Started) (H:Type) (enc:TypeId × Value → H) :
  ReturnsInHanded {} Tryd.checked os 3 .any (fun w args=>(Rows.pathshapManySpec.pre enc Tryd.prog Tryd.f3 [] false w args ∧ laidMetH Tryd.prog laidL w) ∧ sizedMet enc Tryd.prog Tryd.f3 (OpenSpec.ofChange Rows.pathshapManySpec) false w args)
   (Rows.pathshapManySpec.post enc Tryd.prog Tryd.f3 false true false false):=by
 refine returnsInHanded_of_change_and (C:=Tryd.checked) (X:=fun w _=>laidMetH Tryd.prog laidL w) (fun _ _ _ hh h=>h.of_heap hh) own started (by kernel_rfl) Tryd.func3
  (ChangeSpec.witness_shaped (enc:=enc) (C:=Tryd.checked) (os:=os) (X:=fun w _=>laidMetH Tryd.prog laidL w) false (World.doorLaid Tryd.prog 400 os) #[.slice none 0 0,.slice none 0 0] 8 rfl (World.shaped_of_RefB (by kernel_rfl) (by kernel_rfl)) (by kernel_rfl) (by kernel_rfl) (by kernel_rfl) (door_met os _)) ?_
 intro W base args ds gs before hval0 hW _ _ hL _
 obtain ⟨hG,h0⟩:=of_laid hL
 have hW':=hW
 obtain ⟨p,q,hA0,hV,rfl,hfz,hnd⟩:=hW
 have hA:DataW.TrodAll enc Tryd.prog W 0 (fun _=>true) true Tryd.f3.params.toList args.toList ds p:=hA0
 obtain ⟨rfl,rfl⟩:=trodVars_none hV
 obtain ⟨x,hx,hwf⟩:=trod_args (S:=fun b=>b < W.heap.size) (fun b h=>h) (β:=fun _=>none) (r:=.any) (b0:=base) (n:=12) (ts:=fsts c3.ps) (i:=0) (by kernel_rfl) hA (fun j T' v h1 h2=>hval0 j T' v (by simpa using h1) (by simpa using h2))
 have hF:c3.F x = some true:=PathshapMany_true x.1 x.2.1 hwf.1.1 hwf.2.1.1
 have hcall:=law_calls (T:=tabG tabN) (P:=Tryd.prog) (f:=3) (ts:=fsts c3.ps) (F:=c3.F) (enc:=c3.enc) (ok3 hands) (fun _=>rfl) (x:=x) hF hx hG (fun b hb=>by simp [tabG] at hb;subst hb;exact h0)
 have hds:∃ d0 d1,ds = [d0,d1]:=by
  rw [Tryd.params3] at hA
  obtain ⟨v0,v1,d0,d1,p0,p1,_,rfl,_,_,_⟩:=trodAll_two hA
  exact ⟨_,_,rfl⟩
 obtain ⟨d0,d1,rfl⟩:=hds
 have hargs:args = args.toList.toArray:=by simp
 rw [hargs]
 refine hcall.mono fun e W' ⟨he,hc,hg,hs⟩=>?_
 exact ⟨_,he,by rw [← hargs];exact law_post laidOut rfl hW' rfl (by kernel_rfl) (by kernel_rfl) Tryd.underlying4 hc hs⟩
theorem PathshapMany_holds:Rows.PathshapManySaid :=
 OpenClaim.holds_of_wide 3 Tryd.f3 rfl rfl rfl rfl rfl rfl rfl ⟨rfl,rfl,rfl,rfl,rfl⟩ rfl rfl rfl rfl rfl (by kernel_rfl) Tryd.func3 (by kernel_rfl)
  (of_decide_eq_true (by kernel_rfl)) (by unfold Func.isWrapper;first | (rw [if_pos (by decide +kernel)];kernel_rfl) | (rw [if_neg (by decide +kernel)];exact ⟨rfl,rfl⟩))
  (fun os started H enc _=>PathshapMany_lifted os started H enc)
theorem PathshapMany_card:Rows.PathshapManyCardSaid :=
 Claim7.holds_tied_plain_at .later [] [.data] true (true, "4515219d7ccfc38fe77f91d9c1dadc2c53c8e1f849e55a4f88b45d1307a4728c") false
  PathshapMany_holds (fun _ h=>by cases h) (by kernel_rfl) (fun _ h=>by cases h) pathshapMany_row_tie rfl ⟨rfl,rfl⟩ (by kernel_rfl) rfl
  (fun f fn hf hfn => by
   obtain rfl : f = 3 := Option.some.inj ((show Tryd.prog.funcNamed "dendron/dendronlaw15.PathshapMany" = some 3 by kernel_rfl).symm.trans hf) |>.symm
   obtain rfl:fn = Tryd.f3:=(Option.some.inj (Tryd.func3.symm.trans hfn)).symm
   exact ⟨by kernel_rfl,fun j t ht=>by
    rw [Tryd.params3] at ht
    have hm:t ∈ [22,23]:=by simpa using Array.mem_of_getElem? ht
    have hall:([22,23].all fun u=>!Tryd.prog.wantsStandIn u) = true:=by kernel_rfl
    exact (show Tryd.prog.wantsStandIn t = false by simpa using List.all_eq_true.1 hall t hm)⟩)
  (by kernel_rfl)
#print axioms PathshapMany_card
end Go.Proofs.YthcpiofmhkhbeaaDoor.X
