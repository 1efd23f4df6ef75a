/- TrimJoins: whatever the input, the law says true; the input reads as it did; the table is tied to the program's text. -/
import Derived.Test.YtpjgaieoijpagaaDoorLa12
import Derived.Test.YtpjgaieoijpagaaDoorLa8
import Derived.Test.YtpjgaieoijpagaaDoorCards

namespace Go.Proofs.YtpjgaieoijpagaaDoor.X
open Go Go.ChangeShapes Go.WideShapes Go.ChangeAt Go.RowKit
set_option linter.unusedVariables false

set_option maxRecDepth 100000 in
theorem TrimJoins_lifted (os : Os) (started : os.Started) (H : Type) (enc : TypeId × Value → H) :
    ReturnsInHanded {} Tryd.checked os 5 .any (fun w args => (Rows.trimJoinsSpec.pre enc Tryd.prog Tryd.f5 [] false w args ∧ laidMetH Tryd.prog laidL w) ∧ sizedMet enc Tryd.prog Tryd.f5 (OpenSpec.ofChange Rows.trimJoinsSpec) false w args)
      (Rows.trimJoinsSpec.post enc Tryd.prog Tryd.f5 false true false false) := by
  refine returnsInHanded_of_change_and (C := Tryd.checked) (X := fun w _ => laidMetH Tryd.prog laidL w) (fun _ _ _ hh h => h.of_heap hh) own started (by kernel_rfl) Tryd.func5
    (ChangeSpec.witness_shaped (enc := enc) (C := Tryd.checked) (os := os) (X := fun w _ => laidMetH Tryd.prog laidL w) false (World.doorLaid Tryd.prog 400 os) #[.agg #[.int .i64 0, .slice none 0 0], .agg #[.int .i64 0, .slice none 0 0], .slice none 0 0, .int .u64 0] 8 rfl (World.shaped_of_RefB (by kernel_rfl) (by kernel_rfl)) (by kernel_rfl) (by kernel_rfl) (by kernel_rfl) (door_met os _)) ?_
  intro W base args ds gs before hval0 hW _ _ hL _
  obtain ⟨hG, h0⟩ := of_laid hL
  have hW' := hW
  obtain ⟨p, q, hA0, hV, rfl, hfz, hnd⟩ := hW
  have hA : DataW.TrodAll enc Tryd.prog W 0 (fun _ => true) true Tryd.f5.params.toList args.toList ds p := hA0
  obtain ⟨rfl, rfl⟩ := trodVars_none hV
  obtain ⟨x, hx, hwf⟩ := trod_args (S := fun b => b < W.heap.size) (fun b h => h) (β := fun _ => none) (r := .any) (b0 := base) (n := 12) (ts := fsts c5.ps) (i := 0) (by kernel_rfl) hA (fun j T' v h1 h2 => hval0 j T' v (by simpa using h1) (by simpa using h2))
  have hF : c5.F x = some true := TrimJoins_true x.1 x.2.1 x.2.2.1 x.2.2.2.1 hwf.1.2.1 (fun t ht => (hwf.1.2.2 t ht).1) hwf.2.1.2.1 (fun t ht => (hwf.2.1.2.2 t ht).1) hwf.2.2.1.1 (by have := hwf.2.2.2.1; exact this.1) (by have := hwf.2.2.2.1; exact Int.lt_of_le_of_lt this.2 (by decide))
  have hcall := law_calls (T := tabG tabN) (P := Tryd.prog) (f := 5) (ts := fsts c5.ps) (F := c5.F) (enc := c5.enc) (ok5 hands) (fun _ => rfl) (x := x) hF hx hG (fun b hb => by simp [tabG] at hb; subst hb; exact h0)
  have hds : ∃ d0 d1 d2 d3, ds = [d0, d1, d2, d3] := by
    rw [Tryd.params5] at hA
    obtain ⟨v0, v1, v2, v3, d0, d1, d2, d3, p0, p1, p2, p3, _, rfl, _, _, _, _, _⟩ := trodAll_four hA
    exact ⟨_, _, _, _, rfl⟩
  obtain ⟨d0, d1, d2, d3, rfl⟩ := hds
  have hargs : args = args.toList.toArray := by simp
  rw [hargs]
  refine hcall.mono fun e W' ⟨he, hc, hg, hs⟩ => ?_
  exact ⟨_, he, by rw [← hargs]; exact law_post laidOut rfl hW' rfl (by kernel_rfl) (by kernel_rfl) Tryd.underlying4 hc hs⟩

theorem TrimJoins_holds : Rows.TrimJoinsSaid :=
  OpenClaim.holds_of_wide 5 Tryd.f5 rfl rfl rfl rfl rfl rfl rfl ⟨rfl, rfl, rfl, rfl, rfl⟩ rfl rfl rfl rfl rfl (by kernel_rfl) Tryd.func5 (by kernel_rfl)
    (of_decide_eq_true (by kernel_rfl)) (by unfold Func.isWrapper; first | (rw [if_pos (by decide +kernel)]; kernel_rfl) | (rw [if_neg (by decide +kernel)]; exact ⟨rfl, rfl⟩))
    (fun os started H enc _ => TrimJoins_lifted os started H enc)

theorem TrimJoins_card : Rows.TrimJoinsCardSaid :=
  Claim7.holds_tied_plain_at .later [] [.data] true (true, "ab206ba2a1d48fa4cc9554f6d063a1f3504c0b3b530864a936db6ff97db4c2b7") false
    TrimJoins_holds (fun _ h => by cases h) (by kernel_rfl) (fun _ h => by cases h) trimJoins_row_tie rfl ⟨rfl, rfl⟩ (by kernel_rfl) rfl
    (fun f fn hf hfn => by
      obtain rfl : f = 5 := Option.some.inj ((show Tryd.prog.funcNamed "dendron/dendronlaw25.TrimJoins" = some 5 by kernel_rfl).symm.trans hf) |>.symm
      obtain rfl : fn = Tryd.f5 := (Option.some.inj (Tryd.func5.symm.trans hfn)).symm
      exact ⟨by kernel_rfl, fun j t ht => by
        rw [Tryd.params5] at ht
        have hm : t ∈ [35, 35, 45, 46] := by simpa using Array.mem_of_getElem? ht
        have hall : ([35, 35, 45, 46].all fun u => !Tryd.prog.wantsStandIn u) = true := by kernel_rfl
        exact (show Tryd.prog.wantsStandIn t = false by simpa using List.all_eq_true.1 hall t hm)⟩)
    (by kernel_rfl)
#print axioms TrimJoins_card
end Go.Proofs.YtpjgaieoijpagaaDoor.X

