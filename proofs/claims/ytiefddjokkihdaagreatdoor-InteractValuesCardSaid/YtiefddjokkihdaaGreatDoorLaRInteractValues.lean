/- Own work: part of the proof; the first line of each part says what it tells. -/
import Derived.Test.YtiefddjokkihdaaGreatDoorLa18
import Derived.Test.YtiefddjokkihdaaGreatDoorLa10
import Derived.Test.YtiefddjokkihdaaGreatDoorCards


namespace Go.Proofs.YtiefddjokkihdaaGreatDoor.X
open Go Go.ChangeShapes Go.WideShapes Go.ChangeAt Go.RowKit
set_option linter.unusedVariables false
set_option maxRecDepth 100000 in
theorem qnt (os:Os) (started:os.Started) (H:Type) (enc:TypeId×Value->H) :
  ReturnsInHanded {} Tryz.checked os 3 .any (fun w args=>(Rows.interactValuesSpec.pre enc Tryz.prog Tryz.f3 [] false w args/\laidMetH Tryz.prog qBd w)/\sizedMet enc Tryz.prog Tryz.f3 (OpenSpec.ofChange Rows.interactValuesSpec) false w args)
   (Rows.interactValuesSpec.post enc Tryz.prog Tryz.f3 false true false false):=by
 refine returnsInHanded_of_change_and (C:=Tryz.checked) (X:=fun w _=>laidMetH Tryz.prog qBd w) (fun _ _ _ hh h=>h.of_heap hh) own started (by kernel_rfl) Tryz.func3
  (ChangeSpec.witness_shaped (enc:=enc) (C:=Tryz.checked) (os:=os) (X:=fun w _=>laidMetH Tryz.prog qBd w) false (World.doorLaid Tryz.prog 400 os) #[.agg #[.int .i64 0,.slice none 0 0],.slice none 0 0] 8 rfl (World.shaped_of_RefB (by kernel_rfl) (by kernel_rfl)) (by kernel_rfl) (by kernel_rfl) (by kernel_rfl) (qDm os _)) ?_
 intro W base args ds gs before hval0 hW _ _ hL _;obtain⟨hG,h0⟩:=qEM hL;have hW':=hW;obtain⟨p,q,hA0,hV,rfl,hfz,hnd⟩:=hW;have hA:DataW.TrodAll enc Tryz.prog W 0 (fun _=>true) true Tryz.f3.params.toList args.toList ds p:=hA0;obtain⟨rfl,rfl⟩:=trodVars_none hV;obtain⟨x,hx,hwf⟩:=qAj (S:=fun b=>b<W.heap.size) (fun b h=>h) (J:=fun _=>none) (r:=.any) (b0:=base) (n:=12) (ts:=fsts c3.ps) (i:=0) (by kernel_rfl) hA (fun j T' v h1 h2=>hval0 j T' v (by simpa using h1) (by simpa using h2));have hF:c3.F x=some true:=qoU x.1 x.2.1 hwf.1.2.1 (fun t ht=>(hwf.1.2.2 t ht).1) hwf.2.1.1;have hcall:=qBc (T:=tabG tabN) (P:=Tryz.prog) (f:=3) (ts:=fsts c3.ps) (F:=c3.F) (enc:=c3.enc) (ok3 qGY) (fun _=>rfl) (x:=x) hF hx hG (fun b hb=>by simp [tabG] at hb;subst hb;exact h0);have hds:∃ d0 d1,ds=[d0,d1]:=by
  rw[Tryz.params3] at hA;obtain⟨v0,v1,d0,d1,p0,p1,_,rfl,_,_,_⟩:=trodAll_two hA;exact⟨_,_,rfl⟩
 obtain⟨d0,d1,rfl⟩:=hds;have hargs:args=args.toList.toArray:=by simp
 rw[hargs];refine hcall.mono fun e W' ⟨he,hc,hg,hs⟩=>?_
 exact⟨_,he,by rw[<- hargs];exact qC4 qE4 rfl hW' rfl (by kernel_rfl) (by kernel_rfl) Tryz.underlying4 hc hs⟩
theorem qn6:Rows.InteractValuesSaid :=
 OpenClaim.holds_of_wide 3 Tryz.f3 rfl rfl rfl rfl rfl rfl rfl ⟨rfl,rfl,rfl,rfl,rfl⟩ rfl rfl rfl rfl rfl (by kernel_rfl) Tryz.func3 (by kernel_rfl)
  (of_decide_eq_true (by kernel_rfl)) (by unfold Func.isWrapper;first | (rw[if_pos (by decide +kernel)];kernel_rfl) | (rw[if_neg (by decide +kernel)];exact⟨rfl,rfl⟩))
  (fun os started H enc _=>qnt os started H enc)
theorem InteractValues_card:Rows.InteractValuesCardSaid :=
 Claim7.holds_tied_plain_at .later [] [.data] true (true, "098f06d30a6f8775dcc117541b426b2f64e70a6aa93090471dbf85a5c590faea") false
  qn6 (fun _ h=>by cases h) (by kernel_rfl) (fun _ h=>by cases h) interactValues_row_tie rfl ⟨rfl,rfl⟩ (by kernel_rfl) rfl
  (fun f fn hf hfn => by
   obtain rfl : f = 3 := Option.some.inj ((show Tryz.prog.funcNamed "dendron/dendronlaw18.InteractValues" = some 3 by kernel_rfl).symm.trans hf) |>.symm
   obtain rfl:fn=Tryz.f3:=(Option.some.inj (Tryz.func3.symm.trans hfn)).symm;exact⟨by kernel_rfl,fun j t ht=>by
    rw[Tryz.params3] at ht;have hm:t∈[24,25]:=by simpa using Array.mem_of_getElem? ht
    have hall:([24,25].all fun u=>!Tryz.prog.wantsStandIn u)=true:=by kernel_rfl
    exact(show Tryz.prog.wantsStandIn t=false by simpa using List.all_eq_true.1 hall t hm)⟩)
  (by kernel_rfl)
#print axioms InteractValues_card
end Go.Proofs.YtiefddjokkihdaaGreatDoor.X
