/- Own work: part of the proof; the first line of each part says what it tells. -/
import Derived.Test.YtmabkjhobhbfdaaGreatDoorProg
import Derived.Tactics
import Derived.Tactics2
import Derived.Defers
import Derived.Laws.Pointers
import Derived.Laws.LoneSync
import Derived.Laws.NewBlocks
import Derived.RegionTactic
import Derived.RegionCalls
import Derived.ChangeAlike
import Derived.KernelRfl


namespace Go.Proofs.YtmabkjhobhbfdaaGreatDoor.X
open Go
set_option linter.unusedVariables false
set_option linter.unusedSimpArgs false
theorem qrw (w:World):(callFunc 138 #[]).run Tryz.prog w=.ok (.value (.tuple #[])) w:=run_call_mark0 Tryz.func138 (by kernel_rfl) (by kernel_rfl) (by kernel_rfl) .disable (by kernel_rfl) w
theorem qt6 (w:World):(callFunc 140 #[]).run Tryz.prog w=.ok (.value (.tuple #[])) w:=run_call_mark0 Tryz.func140 (by kernel_rfl) (by kernel_rfl) (by kernel_rfl) .enable (by kernel_rfl) w
theorem qvZ (a:Addr) (w:World):(callFunc 141 #[.pointer (some a)]).run Tryz.prog w=.ok (.value (.tuple #[])) w:=run_call_marked Tryz.func141 (by kernel_rfl) (by kernel_rfl) (by kernel_rfl) .acquire (by kernel_rfl) a w
theorem qvY (a:Addr) (w:World):(callFunc 143 #[.pointer (some a)]).run Tryz.prog w=.ok (.value (.tuple #[])) w:=run_call_marked Tryz.func143 (by kernel_rfl) (by kernel_rfl) (by kernel_rfl) .releaseMerge (by kernel_rfl) a w
set_option maxRecDepth 100000 in
theorem qy5 (a:Addr) (x:Value) (u:FrameMode) (w:World) (hc:w.cell? a=some x) (hz:w.frozen? a=false) :
  CallsD Tryz.prog 133 #[.pointer (some a),.bool true] u w fun e u' w'=>u'=u/\(e=.returned (.tuple #[])/\w'=w.drew.setCell a (.int .u32 1)):=by
 have hc':w.drew.cell? a=some x:=by go_simp
 have hz':w.drew.frozen? a=false:=by go_simp
 have hst:=run_call_store (P:=Tryz.prog) Tryz.func136 (by kernel_rfl) (by kernel_rfl) (by kernel_rfl) (by kernel_rfl) (k:=.u32) (y:=1) hc' hz'
 go_enter_d Tryz.func133,Tryz.ntmps133
 go_wp2
 go_region_calls
 all_goals (go_end0;exact⟨rfl,rfl⟩)
set_option maxRecDepth 100000 in
theorem qvX (a:Addr) (w:World) (hc:w.cell? a=some (.int .i32 1)) (hz:w.frozen? a=false) :
  Calls Tryz.prog 135 #[.pointer (some a)] w fun e w'=>e=.returned (.tuple #[])/\w'=w.setCell a (.int .i32 0):=by
 have hd:=qrw;have he:=qt6;have hr:=qvY;have hadd:=run_call_add (P:=Tryz.prog) Tryz.func144 (by kernel_rfl) (by kernel_rfl) (by kernel_rfl) .i32 (by kernel_rfl) (y:=-1) (s:=0) hc hz (by simp [go_sem];rfl);have hcv:=run_convert_to_unsafe (P:=Tryz.prog) (src:=199) (dst:=203) Tryz.underlying199 Tryz.underlying203 (by kernel_rfl) hc
 go_enter Tryz.func135,Tryz.ntmps135
 go_wp2
 go_end0
 exact⟨rfl,rfl⟩
theorem qxu (a:Addr) (u:FrameMode) (w:World) (hc:w.cell? a=some (.int .i32 1)) (hz:w.frozen? a=false) :
  CallsD Tryz.prog 132 #[.pointer (some a)] u w fun e u' w'=>u'=u/\(e=.returned (.tuple #[])/\w'=w.setCell a (.int .i32 0)):=by
 go_enter_d Tryz.func132,Tryz.ntmps132
 go_wp2_with (go_at_call 135;refine(qvX a _ hc hz).mono ?_;rintro e w' ⟨rfl,rfl⟩)
 go_end0
 exact⟨rfl,rfl⟩
set_option maxRecDepth 100000 in
theorem qy6 (a:Addr) (w:World) (hc:w.cell? a=some (.int .i32 0)) (hz:w.frozen? a=false) :
  Calls Tryz.prog 134 #[.pointer (some a)] w fun e w'=>e=.returned (.tuple #[])/\w'=w.setCell a (.int .i32 1):=by
 have hd:=qrw;have he:=qt6;have ha:=qvZ;have hcas:=run_call_cas_hit (P:=Tryz.prog) Tryz.func139 (by kernel_rfl) (by kernel_rfl) (by kernel_rfl) .i32 (by kernel_rfl) (y:=1) hc hz;have hc':(w.setCell a (.int .i32 1)).cell? a=some (.int .i32 1):=World.cell?_setCell_same w a _ hc;have hcv:=run_convert_to_unsafe (P:=Tryz.prog) (src:=199) (dst:=203) Tryz.underlying199 Tryz.underlying203 (by kernel_rfl) hc'
 go_enter Tryz.func134,Tryz.ntmps134
 go_wp2
 first | go_end0 | (simp only[Exit.inBlock,Exit.then];refine bodyPost_ret (results_none rfl _ _ _) rfl ?_) | refine bodyPost_ret (results_none rfl _ _ _) rfl ?_
 exact⟨rfl,rfl⟩
theorem qz7 (a:Addr) (w:World) (hc:w.cell? a=some (.int .i32 0)) (hz:w.frozen? a=false) :
  Calls Tryz.prog 131 #[.pointer (some a)] w fun e w'=>e=.returned (.tuple #[])/\w'=w.setCell a (.int .i32 1):=by
 go_enter Tryz.func131,Tryz.ntmps131
 go_wp2_with (go_at_call 134;refine(qy6 a _ hc hz).mono ?_;rintro e w' ⟨rfl,rfl⟩)
 go_end0
 exact⟨rfl,rfl⟩
set_option maxRecDepth 100000 in
set_option maxHeartbeats 1600000 in
theorem qz6 (b:Nat) (pl:Addr) (w:World) (R:World->Prop)
   (h0:w.cell? ⟨b,0,none⟩=some (.int .u32 0)) (h1:w.cell? ⟨b,1,none⟩=some (.int .i32 0)) (f1:w.frozen? ⟨b,1,none⟩=false)
   (hR:∀ w',R w'->w'.cell? ⟨b,0,none⟩=some (.int .u32 0)/\w'.cell? ⟨b,1,none⟩=some (.int .i32 1)/\w'.frozen? ⟨b,0,none⟩=false/\w'.frozen? ⟨b,1,none⟩=false)
   (hf:Calls Tryz.prog 105 #[.pointer (some pl)] (w.setCell ⟨b,1,none⟩ (.int .i32 1)) fun e w'=>e=.returned (.tuple #[])/\R w') :
   Calls Tryz.prog 118 #[.pointer (some ⟨b,0,none⟩),.func (.func 105) #[] #[.pointer (some pl)]] w fun e w'=>e=.returned (.tuple #[]) /\
    ∃ w2,R w2/\w'=(w2.drew.setCell ⟨b,0,none⟩ (.int .u32 1)).setCell ⟨b,1,none⟩ (.int .i32 0):=by
 have hl:=run_call_load (P:=Tryz.prog) Tryz.func130 (by kernel_rfl) (by kernel_rfl) (by kernel_rfl) .u32 (by kernel_rfl) (w:=w.setCell ⟨b,1,none⟩ (.int .i32 1)) (a:=⟨b,0,none⟩) (x:=0) ((World.cell?_setCell_other _ ⟨b,1,none⟩ ⟨b,0,none⟩ _ (by simp)).trans h0);have hnot:∀ (x:Bool) (w:World),(Op.unary .not (.bool x)).run Tryz.prog w=.ok (.bool (!x)) w:=fun _ _=>rfl
 go_enter_defers Tryz.func118,Tryz.ntmps118
 go_wp2_with (first | (go_at_call 131;refine(qz7 ⟨b,1,none⟩ _ h1 f1).mono ?_;rintro e w' ⟨rfl,rfl⟩) | (go_at_call 117;go_in) | (go_at_call 105;refine hf.mono ?_;rintro e w' ⟨rfl,hw2⟩))
 obtain⟨g0,g1,g2,g3⟩:=hR w' hw2
 go_wp2
 refine leaves_cons (f:=133) (args:=#[.pointer (some ⟨b,0,none⟩),.bool true]) (by simp) (by simp [go_sem]) ?_;refine(qy5 ⟨b,0,none⟩ (.int .u32 0) .returning _ g0 g2).mono ?_;rintro e u' w'' ⟨rfl,rfl,rfl⟩;refine leaves_cons (f:=132) (args:=#[.pointer (some ⟨b,1,none⟩)]) (by simp [settle]) (by simp [go_sem]) ?_;refine(qxu ⟨b,1,none⟩ _ _ ?_ ?_).mono ?_
 · refine (World.cell?_setCell_other _ ⟨b, 0, none⟩ ⟨b, 1, none⟩ _ (by simp)).trans ?_;rw[World.cell?_drew];exact g1
 · simp [g3]
 rintro e u' w'' ⟨rfl,rfl,rfl⟩;simp [Leaves,settle,results,Tryz.results118];exact⟨w',hw2,rfl⟩
set_option maxRecDepth 100000 in
theorem qz8 (a:Addr) (d:Int) (hd:¬ d=0) (fv:Value) (w:World) (h0:w.cell? a=some (.int .u32 d)) :
  Calls Tryz.prog 104 #[.pointer (some a),fv] w fun e w'=>e=.returned (.tuple #[])/\w'=w:=by
 have hl:=run_call_load (P:=Tryz.prog) Tryz.func130 (by kernel_rfl) (by kernel_rfl) (by kernel_rfl) .u32 (by kernel_rfl) h0;have hnot:∀ (x:Bool) (w:World),(Op.unary .not (.bool x)).run Tryz.prog w=.ok (.bool (!x)) w:=fun _ _=>rfl
 have hd':(d != 0)=true:=by simp [hd]
 go_enter Tryz.func104,Tryz.ntmps104
 go_wp2
 go_end0
 exact⟨rfl,rfl⟩
set_option maxRecDepth 100000 in
theorem qy7 (b:Nat) (pl:Addr) (w:World) (R:World->Prop)
  (h0:w.cell? ⟨b,0,none⟩=some (.int .u32 0)) (h1:w.cell? ⟨b,1,none⟩=some (.int .i32 0)) (f1:w.frozen? ⟨b,1,none⟩=false)
  (hR:∀ w',R w'->w'.cell? ⟨b,0,none⟩=some (.int .u32 0)/\w'.cell? ⟨b,1,none⟩=some (.int .i32 1)/\w'.frozen? ⟨b,0,none⟩=false/\w'.frozen? ⟨b,1,none⟩=false)
  (hf:Calls Tryz.prog 105 #[.pointer (some pl)] (w.setCell ⟨b,1,none⟩ (.int .i32 1)) fun e w'=>e=.returned (.tuple #[])/\R w') :
  Calls Tryz.prog 104 #[.pointer (some ⟨b,0,none⟩),.func (.func 105) #[] #[.pointer (some pl)]] w fun e w'=>e=.returned (.tuple #[]) /\
   ∃ w2,R w2/\w'=(w2.drew.setCell ⟨b,0,none⟩ (.int .u32 1)).setCell ⟨b,1,none⟩ (.int .i32 0):=by
 have hl:=run_call_load (P:=Tryz.prog) Tryz.func130 (by kernel_rfl) (by kernel_rfl) (by kernel_rfl) .u32 (by kernel_rfl) h0;have hnot:∀ (x:Bool) (w:World),(Op.unary .not (.bool x)).run Tryz.prog w=.ok (.bool (!x)) w:=fun _ _=>rfl
 go_enter Tryz.func104,Tryz.ntmps104
 go_wp2_with (first | (go_at_call 118;refine(qz6 b pl _ R h0 h1 f1 hR hf).mono ?_;rintro e w' ⟨rfl,hw'⟩) | (go_at_call 117;go_in))
 go_end0
 exact⟨rfl,hw'⟩
set_option maxRecDepth 100000 in
set_option maxHeartbeats 1600000 in
theorem s_at (b:Nat) (n:Int) (w:World) (D:World->Prop) (V:World->Value->Value->Prop)
  (hDo : Calls Tryz.prog 104 #[.pointer (some ⟨b, 0, none⟩), .func (.func 105) #[] #[.pointer (some ⟨w.heap.size, 0, none⟩)]]
   ((w.alloc (.cells #[.pointer (some ⟨b,0,none⟩)] 82)).alloc (.cells #[.bool false,.slice none 0 0] 29)) fun e w'=>e=.returned (.tuple #[])/\D w')
  (hD : ∀ w', D w'->w'.cell? ⟨w.heap.size, 0, none⟩ = some (.pointer (some ⟨b, 0, none⟩)) /\ ∃ fb fo m cap nb pp pl pc, w'.cell? ⟨b, 3, none⟩ = some (.slice (some ⟨fb, fo, none⟩) m cap) /\ 0 <= n /\ n < (m : Int) /\
   w'.cell? ⟨fb,fo+n.toNat*2,none⟩=some (.bool nb)/\w'.cell? ⟨fb,fo+n.toNat*2+1,none⟩=some (.slice pp pl pc)/\V w' (.bool nb) (.slice pp pl pc))
  (hE:∀ w',D w'->(∃ y0,w'.cell? ⟨w.heap.size+1,0,none⟩=some y0)/\(∃ y1,w'.cell? ⟨w.heap.size+1,1,none⟩=some y1)/\w'.frozen? ⟨w.heap.size+1,0,none⟩=false/\w'.frozen? ⟨w.heap.size+1,1,none⟩=false) :
  Calls Tryz.prog 78 #[.pointer (some ⟨b,0,none⟩),.int .i64 n] w fun e w'=>∃ w2 v0 v1,(D w2/\V w2 v0 v1)/\e=.returned (.agg #[v0,v1]) /\
   w'=(w2.setCell ⟨w.heap.size+1,0,none⟩ v0).setCell ⟨w.heap.size+1,1,none⟩ v1:=by
 have hmf:∀ (fn:Fn) (first cap:Array Value) (w:World),(Instr.makeFunc fn first cap).run Tryz.prog w=.ok (.func fn first cap) w:=fun _ _ _ _=>rfl
 go_enter Tryz.func78,Tryz.ntmps78
 go_wp2_with (go_at_call 104;refine hDo.mono ?_;rintro e w' ⟨rfl,hw2⟩;obtain⟨g0,fb,fo,m,cap,nb,pp,pl,pc,g1,g2,g3,g4,g5,gV⟩:=hD w' hw2;obtain⟨⟨y0,e0⟩,⟨y1,e1⟩,z0,z1⟩:=hE w' hw2;have e1':(w'.setCell ⟨w.heap.size+1,0,none⟩ (.bool nb)).cell? ⟨w.heap.size+1,1,none⟩=some y1:=(World.cell?_setCell_other _ ⟨w.heap.size+1,0,none⟩ ⟨w.heap.size+1,1,none⟩ _ (by simp)).trans e1;have l0:((w'.setCell ⟨w.heap.size+1,0,none⟩ (.bool nb)).setCell ⟨w.heap.size+1,1,none⟩ (.slice pp pl pc)).cell? ⟨w.heap.size+1,0,none⟩=some (.bool nb):=(World.cell?_setCell_other _ ⟨w.heap.size+1,1,none⟩ ⟨w.heap.size+1,0,none⟩ _ (by simp)).trans (World.cell?_setCell_same _ _ _ e0);have l1:((w'.setCell ⟨w.heap.size+1,0,none⟩ (.bool nb)).setCell ⟨w.heap.size+1,1,none⟩ (.slice pp pl pc)).cell? ⟨w.heap.size+1,1,none⟩=some (.slice pp pl pc):=World.cell?_setCell_same _ _ _ e1')
 refine bodyPost_ret (v:=.agg #[.bool nb,.slice pp pl pc]) ?_ rfl ⟨w',_,_,⟨hw2,gV⟩,rfl,rfl⟩;simp only[results,Tryz.results78]
 go_simp
end Go.Proofs.YtmabkjhobhbfdaaGreatDoor.X
