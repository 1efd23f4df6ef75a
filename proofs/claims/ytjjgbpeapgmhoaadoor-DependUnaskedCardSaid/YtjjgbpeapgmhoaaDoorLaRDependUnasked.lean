/- Own work: part of the proof; the first line of each part says what it tells. -/
import Derived.Test.YtjjgbpeapgmhoaaDoorLa14
import Derived.Test.YtjjgbpeapgmhoaaDoorLa8
import Derived.Test.YtjjgbpeapgmhoaaDoorCards


namespace Go.Proofs.YtjjgbpeapgmhoaaDoor.X
open Go Go.ChangeShapes Go.WideShapes Go.ChangeAt Go.RowKit
set_option linter.unusedVariables false
set_option maxRecDepth 100000 in
theorem DependUnasked_lifted (os : Os) (started : os.Started) (H : Type) (enc : TypeId × Value → H) :
  ReturnsInHanded {} Tryd.checked os 4 .any (fun w args => (Rows.dependUnaskedSpec.pre enc Tryd.prog Tryd.f4 [] false w args ∧ laidMetH Tryd.prog laidL w) ∧ sizedMet enc Tryd.prog Tryd.f4 (OpenSpec.ofChange Rows.dependUnaskedSpec) false w args)
   (Rows.dependUnaskedSpec.post enc Tryd.prog Tryd.f4 false true false false) := by
 refine returnsInHanded_of_change_and (C := Tryd.checked) (X := fun w _ => laidMetH Tryd.prog laidL w) (fun _ _ _ hh h => h.of_heap hh) own started (by kernel_rfl) Tryd.func4
  (ChangeSpec.witness_shaped (enc := enc) (C := Tryd.checked) (os := os) (X := fun w _ => laidMetH Tryd.prog laidL w) false (World.doorLaid Tryd.prog 400 os) #[.agg #[.int .i64 0, .slice none 0 0], .int .i64 0, .agg #[.bool false, .bool false, .slice none 0 0, .slice none 0 0]] 8 rfl (World.shaped_of_RefB (by kernel_rfl) (by kernel_rfl)) (by kernel_rfl) (by kernel_rfl) (by kernel_rfl) (door_met os _)) ?_
 intro W base args ds gs before hval0 hW _ _ hL _
 obtain ⟨hG, h0⟩ := of_laid hL
 have hW' := hW
 obtain ⟨p, q, hA0, hV, rfl, hfz, hnd⟩ := hW
 have hA : DataW.TrodAll enc Tryd.prog W 0 (fun _ => true) true Tryd.f4.params.toList args.toList ds p := hA0
 obtain ⟨rfl, rfl⟩ := trodVars_none hV
 obtain ⟨x, hx, hwf⟩ := trod_args (S := fun b => b < W.heap.size) (fun b h => h) (β := fun _ => none) (r := .any) (b0 := base) (n := 12) (ts := fsts c4.ps) (i := 0) (by kernel_rfl) hA (fun j T' v h1 h2 => hval0 j T' v (by simpa using h1) (by simpa using h2))
 have hF : c4.F x = some true := DependUnasked_true x.1 x.2.1 x.2.2.1 hwf.1.2.1 (fun t ht => (hwf.1.2.2 t ht).1)
 have hcall := law_calls (T := tabG tabN) (P := Tryd.prog) (f := 4) (ts := fsts c4.ps) (F := c4.F) (enc := c4.enc) (ok4 hands) (fun _ => rfl) (x := x) hF hx hG (fun b hb => by simp [tabG] at hb; subst hb; exact h0)
 have hds : ∃ d0 d1 d2, ds = [d0, d1, d2] := by
  rw [Tryd.params4] at hA
  obtain ⟨v0, v1, v2, d0, d1, d2, p0, p1, p2, _, rfl, _, _, _, _⟩ := trodAll_three hA
  exact ⟨_, _, _, rfl⟩
 obtain ⟨d0, d1, d2, rfl⟩ := hds
 have hargs : args = args.toList.toArray := by simp
 rw [hargs]
 refine hcall.mono fun e W' ⟨he, hc, hg, hs⟩ => ?_
 exact ⟨_, he, by rw [← hargs]; exact law_post laidOut rfl hW' rfl (by kernel_rfl) (by kernel_rfl) Tryd.underlying4 hc hs⟩
theorem DependUnasked_holds : Rows.DependUnaskedSaid :=
 OpenClaim.holds_of_wide 4 Tryd.f4 rfl rfl rfl rfl rfl rfl rfl ⟨rfl, rfl, rfl, rfl, rfl⟩ rfl rfl rfl rfl rfl (by kernel_rfl) Tryd.func4 (by kernel_rfl)
  (of_decide_eq_true (by kernel_rfl)) (by unfold Func.isWrapper; first | (rw [if_pos (by decide +kernel)]; kernel_rfl) | (rw [if_neg (by decide +kernel)]; exact ⟨rfl, rfl⟩))
  (fun os started H enc _ => DependUnasked_lifted os started H enc)
theorem DependUnasked_card : Rows.DependUnaskedCardSaid :=
 Claim7.holds_tied_plain_at .later [] [.data] true (true, "f168e8606f4572227689285330277c0a6afe9d5e4c8b650b8f25cfa51b877d29") false
  DependUnasked_holds (fun _ h => by cases h) (by kernel_rfl) (fun _ h => by cases h) dependUnasked_row_tie rfl ⟨rfl, rfl⟩ (by kernel_rfl) rfl
  (fun f fn hf hfn => by
   obtain rfl : f = 4 := Option.some.inj ((show Tryd.prog.funcNamed "dendron/dendronlaw13.DependUnasked" = some 4 by kernel_rfl).symm.trans hf) |>.symm
   obtain rfl : fn = Tryd.f4 := (Option.some.inj (Tryd.func4.symm.trans hfn)).symm
   exact ⟨by kernel_rfl, fun j t ht => by
    rw [Tryd.params4] at ht
    have hm : t ∈ [24, 3, 51] := by simpa using Array.mem_of_getElem? ht
    have hall : ([24, 3, 51].all fun u => !Tryd.prog.wantsStandIn u) = true := by kernel_rfl
    exact (show Tryd.prog.wantsStandIn t = false by simpa using List.all_eq_true.1 hall t hm)⟩)
  (by kernel_rfl)
#print axioms DependUnasked_card
end Go.Proofs.YtjjgbpeapgmhoaaDoor.X
