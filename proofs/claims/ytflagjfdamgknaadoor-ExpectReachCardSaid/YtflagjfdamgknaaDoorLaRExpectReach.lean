/- ExpectReach: whatever the input, the law says true; the input reads as it did; the table is tied to the program's text. -/
import Derived.Test.YtflagjfdamgknaaDoorLa12
import Derived.Test.YtflagjfdamgknaaDoorLa8
import Derived.Test.YtflagjfdamgknaaDoorCards

namespace Go.Proofs.YtflagjfdamgknaaDoor.X
open Go Go.ChangeShapes Go.WideShapes Go.ChangeAt Go.RowKit
set_option linter.unusedVariables false

set_option maxRecDepth 100000 in
theorem ExpectReach_lifted (os : Os) (started : os.Started) (H : Type) (enc : TypeId × Value → H) :
    ReturnsInHanded {} Tryd.checked os 8 .any (fun w args => (Rows.expectReachSpec.pre enc Tryd.prog Tryd.f8 [] false w args ∧ laidMetH Tryd.prog laidL w) ∧ sizedMet enc Tryd.prog Tryd.f8 (OpenSpec.ofChange Rows.expectReachSpec) false w args)
      (Rows.expectReachSpec.post enc Tryd.prog Tryd.f8 false true false false) := by
  refine returnsInHanded_of_change_and (C := Tryd.checked) (X := fun w _ => laidMetH Tryd.prog laidL w) (fun _ _ _ hh h => h.of_heap hh) own started (by kernel_rfl) Tryd.func8
    (ChangeSpec.witness_shaped (enc := enc) (C := Tryd.checked) (os := os) (X := fun w _ => laidMetH Tryd.prog laidL w) false (World.doorLaid Tryd.prog 400 os) #[.agg #[.int .i64 0, .bool false, .slice none 0 0, .slice none 0 0, .slice none 0 0], .int .u64 0] 8 rfl (World.shaped_of_RefB (by kernel_rfl) (by kernel_rfl)) (by kernel_rfl) (by kernel_rfl) (by kernel_rfl) (door_met os _)) ?_
  intro W base args ds gs before hval0 hW _ _ hL _
  obtain ⟨hG, h0⟩ := of_laid hL
  have hW' := hW
  obtain ⟨p, q, hA0, hV, rfl, hfz, hnd⟩ := hW
  have hA : DataW.TrodAll enc Tryd.prog W 0 (fun _ => true) true Tryd.f8.params.toList args.toList ds p := hA0
  obtain ⟨rfl, rfl⟩ := trodVars_none hV
  obtain ⟨x, hx, hwf⟩ := trod_args (S := fun b => b < W.heap.size) (fun b h => h) (β := fun _ => none) (r := .any) (b0 := base) (n := 12) (ts := fsts c8.ps) (i := 0) (by kernel_rfl) hA (fun j T' v h1 h2 => hval0 j T' v (by simpa using h1) (by simpa using h2))
  have hF : c8.F x = some true := ExpectReach_true x.1 x.2.1 (by have := hwf.2.1; exact this.1) (by have := hwf.2.1; exact Int.lt_of_le_of_lt this.2 (by decide)) hwf.1.2.2.1
  have hcall := law_calls (T := tabG tabN) (P := Tryd.prog) (f := 8) (ts := fsts c8.ps) (F := c8.F) (enc := c8.enc) (ok8 hands) (fun _ => rfl) (x := x) hF hx hG (fun b hb => by simp [tabG] at hb; subst hb; exact h0)
  have hds : ∃ d0 d1, ds = [d0, d1] := by
    rw [Tryd.params8] at hA
    obtain ⟨v0, v1, d0, d1, p0, p1, _, rfl, _, _, _⟩ := trodAll_two hA
    exact ⟨_, _, rfl⟩
  obtain ⟨d0, d1, rfl⟩ := hds
  have hargs : args = args.toList.toArray := by simp
  rw [hargs]
  refine hcall.mono fun e W' ⟨he, hc, hg, hs⟩ => ?_
  exact ⟨_, he, by rw [← hargs]; exact law_post laidOut rfl hW' rfl (by kernel_rfl) (by kernel_rfl) Tryd.underlying4 hc hs⟩

theorem ExpectReach_holds : Rows.ExpectReachSaid :=
  OpenClaim.holds_of_wide 8 Tryd.f8 rfl rfl rfl rfl rfl rfl rfl ⟨rfl, rfl, rfl, rfl, rfl⟩ rfl rfl rfl rfl rfl (by kernel_rfl) Tryd.func8 (by kernel_rfl)
    (of_decide_eq_true (by kernel_rfl)) (by unfold Func.isWrapper; first | (rw [if_pos (by decide +kernel)]; kernel_rfl) | (rw [if_neg (by decide +kernel)]; exact ⟨rfl, rfl⟩))
    (fun os started H enc _ => ExpectReach_lifted os started H enc)

theorem ExpectReach_card : Rows.ExpectReachCardSaid :=
  Claim7.holds_tied_plain_at .later [] [.data] true (true, "d712a6bb91f721aebaecfc360938eb6bed1e00b8d577acf7fcbcd4dac3b4a79b") false
    ExpectReach_holds (fun _ h => by cases h) (by kernel_rfl) (fun _ h => by cases h) expectReach_row_tie rfl ⟨rfl, rfl⟩ (by kernel_rfl) rfl
    (fun f fn hf hfn => by
      obtain rfl : f = 8 := Option.some.inj ((show Tryd.prog.funcNamed "dendron/dendronlaw11.ExpectReach" = some 8 by kernel_rfl).symm.trans hf) |>.symm
      obtain rfl : fn = Tryd.f8 := (Option.some.inj (Tryd.func8.symm.trans hfn)).symm
      exact ⟨by kernel_rfl, fun j t ht => by
        rw [Tryd.params8] at ht
        have hm : t ∈ [71, 72] := by simpa using Array.mem_of_getElem? ht
        have hall : ([71, 72].all fun u => !Tryd.prog.wantsStandIn u) = true := by kernel_rfl
        exact (show Tryd.prog.wantsStandIn t = false by simpa using List.all_eq_true.1 hall t hm)⟩)
    (by kernel_rfl)
#print axioms ExpectReach_card
end Go.Proofs.YtflagjfdamgknaaDoor.X

