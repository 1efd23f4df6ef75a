/- Own work: part of the proof; the first line of each part says what it tells. -/
import Derived.Test.YtlagkhlolphmdaaGreatDoorLa14
import Derived.Test.YtlagkhlolphmdaaGreatDoorLa10
import Derived.Test.YtlagkhlolphmdaaGreatDoorCards


namespace Go.Proofs.YtlagkhlolphmdaaGreatDoor.X
open Go Go.ChangeShapes Go.WideShapes Go.ChangeAt Go.RowKit
set_option linter.unusedVariables false
set_option maxRecDepth 100000 in
theorem qm6 (os:Os) (started:os.Started) (H:Type) (enc:TypeId×Value->H) :
  ReturnsInHanded {} Tryz.checked os 3 .any (fun w args=>(Rows.trimTurnsSpec.pre enc Tryz.prog Tryz.f3 [] false w args/\laidMetH Tryz.prog qwE w)/\sizedMet enc Tryz.prog Tryz.f3 (OpenSpec.ofChange Rows.trimTurnsSpec) false w args)
   (Rows.trimTurnsSpec.post enc Tryz.prog Tryz.f3 false true false false):=by
 refine returnsInHanded_of_change_and (C:=Tryz.checked) (X:=fun w _=>laidMetH Tryz.prog qwE w) (fun _ _ _ hh h=>h.of_heap hh) own started (by kernel_rfl) Tryz.func3
  (ChangeSpec.witness_shaped (enc:=enc) (C:=Tryz.checked) (os:=os) (X:=fun w _=>laidMetH Tryz.prog qwE w) false (World.doorLaid Tryz.prog 400 os) #[.agg #[.int .i64 0,.slice none 0 0],.slice none 0 0,.slice none 0 0] 8 rfl (World.shaped_of_RefB (by kernel_rfl) (by kernel_rfl)) (by kernel_rfl) (by kernel_rfl) (by kernel_rfl) (qyz os _)) ?_
 intro W base args ds gs before hval0 hW _ _ hL _;obtain⟨hG,h0⟩:=qz1 hL;have hW':=hW;obtain⟨p,q,hA0,hV,rfl,hfz,hnd⟩:=hW;have hA:DataW.TrodAll enc Tryz.prog W 0 (fun _=>true) true Tryz.f3.params.toList args.toList ds p:=hA0;obtain⟨rfl,rfl⟩:=trodVars_none hV;obtain⟨x,hx,hwf⟩:=qvU (S:=fun b=>b<W.heap.size) (fun b h=>h) (J:=fun _=>none) (r:=.any) (b0:=base) (n:=12) (ts:=fsts c3.ps) (i:=0) (by kernel_rfl) hA (fun j T' v h1 h2=>hval0 j T' v (by simpa using h1) (by simpa using h2));have hF:c3.F x=some true:=qoY x.1 x.2.1 x.2.2.1 hwf.1.2.1 (fun t ht=>(hwf.1.2.2 t ht).1) hwf.2.1.1;have hcall:=qwD (T:=tabG tabN) (P:=Tryz.prog) (f:=3) (ts:=fsts c3.ps) (F:=c3.F) (enc:=c3.enc) (ok3 qBx) (fun _=>rfl) (x:=x) hF hx hG (fun b hb=>by simp [tabG] at hb;subst hb;exact h0);have hds:∃ d0 d1 d2,ds=[d0,d1,d2]:=by
  rw[Tryz.params3] at hA;obtain⟨v0,v1,v2,d0,d1,d2,p0,p1,p2,_,rfl,_,_,_,_⟩:=trodAll_three hA;exact⟨_,_,_,rfl⟩
 obtain⟨d0,d1,d2,rfl⟩:=hds;have hargs:args=args.toList.toArray:=by simp
 rw[hargs];refine hcall.mono fun e W' ⟨he,hc,hg,hs⟩=>?_
 exact⟨_,he,by rw[<- hargs];exact qyh qAh rfl hW' rfl (by kernel_rfl) (by kernel_rfl) Tryz.underlying4 hc hs⟩
theorem qou:Rows.TrimTurnsSaid :=
 OpenClaim.holds_of_wide 3 Tryz.f3 rfl rfl rfl rfl rfl rfl rfl ⟨rfl,rfl,rfl,rfl,rfl⟩ rfl rfl rfl rfl rfl (by kernel_rfl) Tryz.func3 (by kernel_rfl)
  (of_decide_eq_true (by kernel_rfl)) (by unfold Func.isWrapper;first | (rw[if_pos (by decide +kernel)];kernel_rfl) | (rw[if_neg (by decide +kernel)];exact⟨rfl,rfl⟩))
  (fun os started H enc _=>qm6 os started H enc)
theorem TrimTurns_card:Rows.TrimTurnsCardSaid :=
 Claim7.holds_tied_plain_at .later [] [.data] true (true, "32dedd7af8f8171b3ca45107effcc74497db4866641b62ed200f3b51093d4473") false
  qou (fun _ h=>by cases h) (by kernel_rfl) (fun _ h=>by cases h) trimTurns_row_tie rfl ⟨rfl,rfl⟩ (by kernel_rfl) rfl
  (fun f fn hf hfn => by
   obtain rfl : f = 3 := Option.some.inj ((show Tryz.prog.funcNamed "dendron/dendronlaw25.TrimTurns" = some 3 by kernel_rfl).symm.trans hf) |>.symm
   obtain rfl:fn=Tryz.f3:=(Option.some.inj (Tryz.func3.symm.trans hfn)).symm;exact⟨by kernel_rfl,fun j t ht=>by
    rw[Tryz.params3] at ht;have hm:t∈[24,25,26]:=by simpa using Array.mem_of_getElem? ht
    have hall:([24,25,26].all fun u=>!Tryz.prog.wantsStandIn u)=true:=by kernel_rfl
    exact(show Tryz.prog.wantsStandIn t=false by simpa using List.all_eq_true.1 hall t hm)⟩)
  (by kernel_rfl)
#print axioms TrimTurns_card
end Go.Proofs.YtlagkhlolphmdaaGreatDoor.X
