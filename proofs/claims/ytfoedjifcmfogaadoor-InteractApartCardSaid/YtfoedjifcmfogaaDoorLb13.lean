/- Own work: part of the proof; the first line of each part says what it tells. -/
import Derived.Test.YtfoedjifcmfogaaDoorProg
import Derived.WalkKit
import Derived.Maps.RangeWalk
import Derived.Maps.Ext
import Derived.Maps.OwnOps
import Derived.Maps.OwnSet
import Derived.Laws.MakeOwn
import Derived.OwnWalk


namespace Go.Proofs.YtfoedjifcmfogaaDoor.X
open Go Go.RowKit Go.Maps
theorem qwH:Keyed Tryd.prog 3:=int_keyed Tryd.underlying3
structure CntP {H:Type} (D:DataW H) (L:List Int):Prop where
 map:IsMap D
 has:∀ x,Maps.has D (.int .i64 x)=true ↔ x∈L
 cnt:∀ x∈L,∃ c:Int,1<=c/\c<=L.length/\∀ z,D.atKey (.int .i64 x) z=.lit (.int .i64 c)
theorem CntP.step {H:Type} {D:DataW H} {L:List Int} (h:CntP D L) (x c:Int) (hat:D.atKey (.int .i64 x) (.lit (.int .i64 0))=.lit (.int .i64 c)):CntP (D.put (.int .i64 x) (.lit (.int .i64 (c+1)))) (L++[x])/\0<=c/\c<=L.length:=by
 have hc:0<=c/\c<=L.length:=by
   by_cases hx:x∈L
   · obtain ⟨c', h1, h2, h3⟩ := h.cnt x hx;have:=(h3 _).symm.trans hat;injection this with this
     injection this with _ this
     omega
   · have hn : Maps.has D (.int .i64 x) = false := by
      cases hh:Maps.has D (.int .i64 x) with
      | false=>rfl
      | true=>exact absurd ((h.has x).1 hh) hx
     rw[atKey_of_not_has hn] at hat;injection hat with hat
     injection hat with _ hat
     omega
 refine⟨⟨h.map.put _ _,fun y=>?_,fun y hy=>?_⟩,hc⟩
 · by_cases e : y = x
   · subst e;rw[has_put_same h.map (show WideAt.IsKeyLit (.int .i64 y) from trivial)];simp
   · rw [has_put_other (fun h => e (by injection h)), h.has y, List.mem_append, List.mem_singleton];exact⟨.inl,fun h=>h.resolve_right e⟩
 · by_cases e : y = x
   · subst e;exact⟨c+1,by omega,by simp;omega,fun z=>atKey_put_same h.map (show WideAt.IsKeyLit (.int .i64 y) from trivial) _ _⟩
   · have hy' : y ∈ L := by
      rcases List.mem_append.1 hy with h | h
      · exact h
      · exact absurd (List.mem_singleton.1 h) e
     obtain⟨c',h1,h2,h3⟩:=h.cnt y hy';exact⟨c',h1,by simp;omega,fun z=>by rw[atKey_put_other (fun h=>e (by injection h))];exact h3 z⟩
theorem wf64 {x:Int} (h:-9223372036854775808<=x) (h':x<=9223372036854775807):(Lit.int .i64 x).wf=true:=by
 have e1:IntKind.min .i64=-9223372036854775808:=by decide
 have e2:IntKind.max .i64=9223372036854775807:=by decide
 simp only[Lit.wf,e1,e2,Bool.and_eq_true,decide_eq_true_eq];exact⟨h,h'⟩
theorem qzS (w:World):(zeroValue 3).run Tryd.prog w=.ok (.int .i64 0) w:=by kernel_rfl
abbrev NF:=Bool×Int
def qiC (l:List NF):List Int:=l.filterMap fun n=>if n.1 then none else some n.2
structure Gw (w w':World):Prop where
 os:w'.os=w.os
 output:w'.output=w.output
 size:w.heap.size<=w'.heap.size
 block:∀ k,k<w.heap.size->w'.heap[k]?=w.heap[k]?
theorem qwl {w w1:World} {a b:Value} {T:TypeId} (hg:Gw (w.alloc (.cells #[a,b] T)) w1) :
   w1.cell? ⟨w.heap.size,0,none⟩=some a/\w1.cell? ⟨w.heap.size,1,none⟩=some b/\(∀ k,k<w.heap.size->w1.heap[k]?=w.heap[k]?)/\w.heap.size<w1.heap.size:=by
 have hs:(w.alloc (.cells #[a,b] T)).heap.size=w.heap.size+1:=by simp
 have hsz:=hg.size;have h1:w1.heap[w.heap.size]?=(w.alloc (.cells #[a,b] T)).heap[w.heap.size]?:=hg.block w.heap.size (by omega);refine⟨?_,?_,fun k hk=>?_,by omega⟩
 · rw[World.cell?_of_block (a:=⟨w.heap.size,0,none⟩) h1];go_simp
 · rw[World.cell?_of_block (a:=⟨w.heap.size,1,none⟩) h1];go_simp
 · rw [hg.block k (by omega)];exact(Below.refl w.heap.size w).alloc (Nat.le_refl _) _ |>.block k hk
theorem qzU:(Tryd.prog.info? 4).map (fun i=>(i.zero,i.size,i.bytes))=some (some (.bool false),1,1):=by kernel_rfl
theorem qzT (w:World) (nf:Nat) (h:nf<=64):(Instr.makeSlice 32 (.int .i64 (nf:Int)) (.int .i64 (nf:Int))).run Tryd.prog w=.ok (.slice (some ⟨w.heap.size,0,none⟩) nf nf) (w.alloc (.cells (Array.replicate nf (.bool false)) 4)):=by
 obtain⟨i,hi,h0,h1,h2⟩:=info_parts qzU;have:=run_makeSlice (w:=w) (P:=Tryd.prog) 32 4 i (.bool false) Tryd.underlying32 hi h0 .i64 .i64 nf nf (by omega) (by omega) (by rw[h1];omega) (by rw[h2];omega) (by omega);have e:madeCells (Value.bool false).cells nf=Array.replicate nf (.bool false):=by
  apply Array.ext
  · simp [madeCells]
  · intro j h1 h2;simp [madeCells,Value.cells,Nat.mod_one]
 rw[this,h1,Nat.mul_one,Int.toNat_natCast,e]
theorem qwm (l:List NF):(qiC l).length<=l.length:=List.length_filterMap_le _ _
theorem qxv (TT:List (List NF)) (h:∀ t∈TT,t.length<=255) (k:Nat):(TT.take k).flatten.length<=255*k:=by
 induction k with
 | zero=>simp
 | succ k ih =>
  by_cases hk:k<TT.length
  · rw [List.take_succ_eq_append_getElem hk, List.flatten_append, List.length_append];have:=h _ (List.getElem_mem hk);have e:([TT[k]]:List (List NF)).flatten.length=TT[k].length:=by simp
    rw[e];omega
  · rw [List.take_of_length_le (by omega)] at ih ⊢;omega
def Fz (w w':World):Prop:=∀ a,w'.frozen? a=w.frozen? a
theorem Fz.new {w w':World} (h:Fz w w') (o:Obj) (ho:∀ a,(w'.alloc o).frozen? a=w'.frozen? a):Fz w (w'.alloc o):=fun a=>(ho a).trans (h a)
theorem qvK (w:World) (o:Obj) (ho:∀ c e f,o=.cells c e f->f=(0,0)) (a:Addr):(w.alloc o).frozen? a=w.frozen? a:=by
 by_cases h:a.block=w.heap.size
 · have h1 : (w.alloc o).heap[a.block]? = some o := by rw [h]; show (w.heap.push o)[w.heap.size]? = some o; simp
   have h2:w.heap[a.block]?=none:=by rw[h];simp
   simp only[World.frozen?,h1,h2];cases o with
   | cells c e f=>have:=ho c e f rfl;subst this;simp
   | _=>rfl
 · by_cases hl : a.block < w.heap.size
   · exact World.frozen?_of_block ((Below.refl w.heap.size w).alloc (Nat.le_refl _) o |>.block _ hl)
   · have h1 : (w.alloc o).heap[a.block]? = none := by simp; omega
     have h2:w.heap[a.block]?=none:=by simp;omega
     simp only[World.frozen?,h1,h2]
theorem Fz.cells {w w':World} (h:Fz w w') (c:Array Value) (e:TypeId):Fz w (w'.alloc (.cells c e)):=h.new _ (qvK _ _ (fun _ _ _ e=>by cases e;rfl))
theorem Fz.map {w w':World} (h:Fz w w') (es:Array MapEntry) (c:Nat):Fz w (w'.alloc (.map es c)):=h.new _ (qvK _ _ (fun _ _ _ e=>by cases e))
theorem Fz.grown {w a b:World} (h:Fz w a) (hg:a.grownBy b none) (hn:∀ k,a.heap.size<=k->∀ off,b.frozen? ⟨k,off,none⟩=false):Fz w b:=by
 intro ad;by_cases hl:ad.block<a.heap.size
 · exact(World.frozen?_of_block (hg.block _ hl (by intro h;cases h))).trans (h ad)
 · have h1 := hn ad.block (by omega) ad.off;have h2:b.frozen? ad=false:=h1;rw[h2,<- h ad];have:a.heap[ad.block]?=none:=by simp;omega
   simp only[World.frozen?,this]
theorem qqV {H:Type} {w:World} {P:Program} {k:TypeId} {R:Value->Option (DataW H×List MemPlace)} {b r n cnt:Nat} {D:DataW H} {left:Lit->Bool} (h:w.ranges P k R b r n D left cnt) (ad:Addr) (e:ad.block=r):w.frozen? ad=false:=by
 obtain⟨es,clock,since,seen,c0,_,_,_,_,h5,_⟩:=h;simp only[World.frozen?,e,h5]
theorem qpY (w:World) (b i:Nat) (v:Value):w.grownBy (w.setCell ⟨b,i,none⟩ v) (some b) :=
 ⟨rfl,rfl,rfl,by simp [World.setCell],fun k _ hk=>Below.heap_setCell _ _ _ _ (fun e=>hk (by simp [e]))⟩
theorem Fz.turn {w a b:World} {bm:Nat} (h:Fz w a) (ht:a.mapTurned b bm):Fz w b:=fun ad=>(ht.frozen ad).trans (h ad)
set_option maxHeartbeats 8000000 in
set_option maxRecDepth 100000 in
theorem qwG {H:Type} (nf:Nat) (A:Option Addr) (cap:Nat) (TT:List (List NF)) (w:World)
  (h64:TT.length<=64) (h255:∀ t∈TT,t.length<=255) (hf:nf<=64) (hin:∀ t∈TT,∀ n∈t,n.1=false->0<=n.2/\n.2<(nf:Int))
  (hT:∀ i (hi:i<TT.length),∃ (bt ot:Nat) (Ai:Option Addr) (ci:Nat),A=some ⟨bt,ot,none⟩/\bt<w.heap.size/\w.cell? ⟨bt,ot+i,none⟩=some (.slice Ai TT[i].length ci) /\
    ∀ j (hj:j<TT[i].length),∃ (bi oi:Nat) (c2 c7 c8 c11:Bool) (n5 n6:Int) (A3 A4 A9 A10 A12 A13:Option Addr) (l3 p3 l4 p4 l9 p9 l10 p10 l12 p12 l13 p13:Nat),Ai=some ⟨bi,oi,none⟩/\bi<w.heap.size/\w.cell? ⟨bi,oi+j*14,none⟩=some (.bool TT[i][j].1)/\w.cell? ⟨bi,oi+j*14+1,none⟩=some (.int .i64 TT[i][j].2)/\w.cell? ⟨bi,oi+j*14+2,none⟩=some (.bool c2)/\w.cell? ⟨bi,oi+j*14+3,none⟩=some (.slice A3 l3 p3)/\w.cell? ⟨bi,oi+j*14+4,none⟩=some (.slice A4 l4 p4)/\w.cell? ⟨bi,oi+j*14+5,none⟩=some (.int .i64 n5)/\w.cell? ⟨bi,oi+j*14+6,none⟩=some (.int .i64 n6)/\w.cell? ⟨bi,oi+j*14+7,none⟩=some (.bool c7)/\w.cell? ⟨bi,oi+j*14+8,none⟩=some (.bool c8)/\w.cell? ⟨bi,oi+j*14+9,none⟩=some (.slice A9 l9 p9)/\w.cell? ⟨bi,oi+j*14+10,none⟩=some (.slice A10 l10 p10)/\w.cell? ⟨bi,oi+j*14+11,none⟩=some (.bool c11)/\w.cell? ⟨bi,oi+j*14+12,none⟩=some (.slice A12 l12 p12)/\w.cell? ⟨bi,oi+j*14+13,none⟩=some (.slice A13 l13 p13))
  (hOk:Calls Tryd.prog 8 #[.agg #[.int .i64 (nf:Int),.slice A TT.length cap]] (w.alloc (.cells #[.int .i64 (nf:Int),.slice A TT.length cap] 24)) fun e w'=>e=.returned (.bool true)/\Gw (w.alloc (.cells #[.int .i64 (nf:Int),.slice A TT.length cap] 24)) w'/\Fz w w')
  : Calls Tryd.prog 26 #[.agg #[.int .i64 (nf:Int),.slice A TT.length cap]] w fun e w'=>∃ bo,e=.returned (.slice (some ⟨bo,0,none⟩) nf nf)/\w.heap.size<=bo/\bo<w'.heap.size/\Gw w w'/\Fz w w' /\
    ∀ m,m<nf->w'.cell? ⟨bo,m,none⟩=some (.bool (decide ((m:Int)∈qiC TT.flatten))):=by
 have hmm:=@run_makeMap Tryd.prog;obtain⟨B,hB⟩:∃ B,B=w.alloc (.cells #[.int .i64 (nf:Int),.slice A TT.length cap] 24):=⟨_,rfl⟩
 go_enter Tryd.func26,Tryd.ntmps26
 go_wp2_with (first
  | (go_at_call 8;refine hOk.mono ?_;rintro e w1 ⟨rfl,hg1,hz1⟩;obtain⟨hb0,hb1,hw1,hlt1⟩:=qwl hg1)
  | go_in)
 go_loopw [18] (fun i wr=>∃ (k n:Nat) (D:DataW H),k<=TT.length/\i=.int .i64 k/\wr.ownsMap Tryd.prog 3 (plainElem Tryd.prog 3) w1.heap.size n D/\n<=255*k/\Below w1.heap.size w1 wr/\Fz w wr/\CntP D (qiC (TT.take k).flatten))
  (fun i _=>TT.length-(intOf i).toNat)
 case atStart =>
  refine⟨0,0,.map [],Nat.zero_le _,rfl,World.ownsMap_made _ _ _ _,Nat.le_refl _,(Below.refl _ _).alloc (Nat.le_refl _) _,hz1.map _ _,⟨isMap_empty,fun x=>?_,fun x hx=>?_⟩⟩
  · simp [Maps.has,qiC]
  · simp [qiC] at hx
 case round =>
  obtain⟨k,n,D,hk,rfl,hown,hn,hbl,hz,hC⟩:=hrel;have hwr:∀ b,b<w.heap.size->wr.heap[b]?=w.heap[b]?:=fun b hb=>(hbl.block b (by omega)).trans (hw1 b hb)
  by_cases hlt:k<TT.length
  · obtain ⟨bt, ot, Ai, ci, rfl, hbt, hct, hnode⟩ := hT k hlt;have hct2:wr.cell? ⟨bt,ot+k,none⟩=some (.slice Ai TT[k].length ci):=(World.cell?_of_block (a:=⟨bt,ot+k,none⟩) (hwr bt hbt)).trans hct;have hlt2:(k:Int)<(TT.length:Int):=by omega
    go_wp2
    go_loopw [24] (fun i2 wr2=>∃ (j n2:Nat) (D2:DataW H),j<=TT[k].length/\i2=.int .i64 j/\wr2.ownsMap Tryd.prog 3 (plainElem Tryd.prog 3) w1.heap.size n2 D2/\n2<=255*k+j/\Below w1.heap.size w1 wr2/\Fz w wr2/\CntP D2 (qiC ((TT.take k).flatten++TT[k].take j)))
     (fun i2 _=>TT[k].length-(intOf i2).toNat)
    case atStart=>exact⟨0,n,D,Nat.zero_le _,rfl,hown,by omega,hbl,hz,by rw[List.take_zero,List.append_nil];exact hC⟩
    case round =>
     obtain⟨j,n2,D2,hj,rfl,hown2,hn2,hbl2,hz2,hC2⟩:=hrel;have hwr2:∀ b,b<w.heap.size->wr.heap[b]?=w.heap[b]?:=fun b hb=>(hbl2.block b (by omega)).trans (hw1 b hb)
     by_cases hlj:j<TT[k].length
     · obtain ⟨bi, oi, c2, c7, c8, c11, n5, n6, A3, A4, A9, A10, A12, A13, l3, p3, l4, p4, l9, p9, l10, p10, l12, p12, l13, p13, rfl, hbi, q0, q1, q2, q3, q4, q5, q6, q7, q8, q9, q10, q11, q12, q13⟩ := hnode j hlj;have r0:=(World.cell?_of_block (w':=wr) (a:=⟨bi,oi+j*14,none⟩) (hwr2 bi hbi)).trans q0;have r1:=(World.cell?_of_block (w':=wr) (a:=⟨bi,oi+j*14+1,none⟩) (hwr2 bi hbi)).trans q1;have r2:=(World.cell?_of_block (w':=wr) (a:=⟨bi,oi+j*14+2,none⟩) (hwr2 bi hbi)).trans q2;have r3:=(World.cell?_of_block (w':=wr) (a:=⟨bi,oi+j*14+3,none⟩) (hwr2 bi hbi)).trans q3;have r4:=(World.cell?_of_block (w':=wr) (a:=⟨bi,oi+j*14+4,none⟩) (hwr2 bi hbi)).trans q4;have r5:=(World.cell?_of_block (w':=wr) (a:=⟨bi,oi+j*14+5,none⟩) (hwr2 bi hbi)).trans q5;have r6:=(World.cell?_of_block (w':=wr) (a:=⟨bi,oi+j*14+6,none⟩) (hwr2 bi hbi)).trans q6;have r7:=(World.cell?_of_block (w':=wr) (a:=⟨bi,oi+j*14+7,none⟩) (hwr2 bi hbi)).trans q7;have r8:=(World.cell?_of_block (w':=wr) (a:=⟨bi,oi+j*14+8,none⟩) (hwr2 bi hbi)).trans q8;have r9:=(World.cell?_of_block (w':=wr) (a:=⟨bi,oi+j*14+9,none⟩) (hwr2 bi hbi)).trans q9;have r10:=(World.cell?_of_block (w':=wr) (a:=⟨bi,oi+j*14+10,none⟩) (hwr2 bi hbi)).trans q10;have r11:=(World.cell?_of_block (w':=wr) (a:=⟨bi,oi+j*14+11,none⟩) (hwr2 bi hbi)).trans q11;have r12:=(World.cell?_of_block (w':=wr) (a:=⟨bi,oi+j*14+12,none⟩) (hwr2 bi hbi)).trans q12;have r13:=(World.cell?_of_block (w':=wr) (a:=⟨bi,oi+j*14+13,none⟩) (hwr2 bi hbi)).trans q13;clear q0 q1 q2 q3 q4 q5 q6 q7 q8 q9 q10 q11 q12 q13;have hlj2:(j:Int)<(TT[k].length:Int):=by omega
       have hnf:=hin _ (List.getElem_mem hlt) _ (List.getElem_mem hlj);have hLl:(qiC ((TT.take k).flatten++TT[k].take j)).length<=255*k+j:=Nat.le_trans (qwm _) (by rw[List.length_append,List.length_take];have:=qxv TT h255 k;omega);have htk:TT[k].take (j+1)=TT[k].take j++[TT[k][j]]:=List.take_succ_eq_append_getElem hlj;have hask:qiC ((TT.take k).flatten++TT[k].take (j+1))=qiC ((TT.take k).flatten++TT[k].take j)++(if TT[k][j].1 then [] else [TT[k][j].2]):=by
         rw[htk,<- List.append_assoc];simp only[qiC,List.filterMap_append,List.filterMap_cons,List.filterMap_nil];cases TT[k][j].1<;>rfl
       have h255k:=h255 _ (List.getElem_mem hlt);cases hlf:TT[k][j].1 with
       | true =>
         rw[hlf] at r0 hask
         go_wp2
         go_roundw
         case rel=>exact⟨j+1,n2,D2,by omega,by simp,hown2.alloc _,by omega,hbl2.alloc (by have:=hbl2.size;omega) _,hz2.cells _ _,by rw[hask,if_pos rfl,List.append_nil];exact hC2⟩
         case measure=>simp [intOf];omega
       | false =>
         rw[hlf] at r0 hask;have hx:=hnf hlf;have hwf:(Lit.int .i64 TT[k][j].2).wf=true:=wf64 (by omega) (by omega);have hkey:=keyOf_int_mk Tryd.underlying3 hwf
         go_wp2_with (first
           | (at_lookup;refine wpList_lookup_own_int _ rfl _ _ 87 rfl 3 3 .i64 qwH Tryd.underlying87 Tryd.underlying3 (qzS _) w1.heap.size n2 D2 rfl (hown2.alloc _) _ _ rfl hkey ?_;intro c hat hwc;obtain⟨hC3,hcc0,hcc1⟩:=hC2.step _ _ hat)
           | (at_mapUpdate;refine wpList_mapUpdate_in _ rfl _ _ _ 87 rfl 3 3 qwH Tryd.underlying87 _ w1.heap.size n2 D2 rfl (hown2.alloc _) (by unfold maxLen;omega) _ (.int .i64 (c+1)) _ rfl ?hv hkey _ [] (plainElem_int Tryd.underlying3 (wf64 (by omega) (by omega))) ?_;rotate_left;intro w3 hown3 htn3;have hg3:=htn3.grown)
           | go_in)
         · go_roundw
           case rel=>exact⟨j+1,n2+1,_,by omega,by simp,hown3,by omega,(hbl2.alloc (by have:=hbl2.size;omega) _).grown hg3 (by have:=hbl2.size;simp;omega) (fun i hi=>by cases hi;exact Nat.le_refl _),(hz2.cells _ _).turn htn3,by rw[hask,if_neg (by decide)];exact hC3⟩
           case measure=>simp [intOf];omega
         case hv=>first | rfl | go_simp
     · have hje : j = TT[k].length := by omega
       subst hje
       go_wp2
       go_roundw
       case rel=>exact⟨k+1,n2,D2,by omega,by simp,hown2,by have:=h255 _ (List.getElem_mem hlt);omega,hbl2,hz2,by rw[List.take_of_length_le (Nat.le_refl _)] at hC2;rw[List.take_succ_eq_append_getElem hlt,List.flatten_append];simpa using hC2⟩
       case measure=>simp [intOf];omega
  · have hke : k = TT.length := by omega
    subst hke;rw[List.take_of_length_le (Nat.le_refl _)] at hC;have hb0r:wr.cell? ⟨w.heap.size,0,none⟩=some (.int .i64 (nf:Int)):=(World.cell?_of_block (a:=⟨w.heap.size,0,none⟩) (hbl.block _ hlt1)).trans hb0;obtain⟨wr0,hw0⟩:∃ x,x=wr:=⟨wr,rfl⟩;subst hw0;have hmk:=qzT wr0 nf hf;have hsz:=hbl.size;have hlt3:=hown.lt
    go_wp2_with (first
     | (at_range;refine wpList_range_own _ rfl _ 87 rfl 3 3 qwH Tryd.underlying87 _ w1.heap.size n _ rfl (hown.alloc _) ?_;intro w0 hrg0 hg0 hs0)
     | go_in)
    go_frame
    obtain⟨L,eL⟩:∃ L,L=qiC TT.flatten:=⟨_,rfl⟩;rw[<- eL] at hC;have hLm:∀ x∈L,0<=x/\x<(nf:Int):=fun x hx=>by
     rw[eL] at hx;obtain⟨nd,h1,h2⟩:=List.mem_filterMap.1 hx;obtain⟨t,ht,hnd⟩:=List.mem_flatten.1 h1;cases hl:nd.1 with
     | true=>rw[hl] at h2;cases h2
     | false=>rw[hl] at h2;injection h2 with h2;subst h2;exact hin t ht nd hnd hl
    have hsa:(wr0.alloc (Obj.cells (Array.replicate nf (Value.bool false)) 4)).heap.size=wr0.heap.size+1:=by simp
    rw[hsa] at hrg0 hs0 ⊢;have hfz0:∀ m,w.frozen? ⟨wr0.heap.size,m,none⟩=false:=fun m=>by
     have:w.heap[wr0.heap.size]?=none:=by simp;omega
     simp only[World.frozen?,this]
    go_loopw [] (fun wl=>∃ (left:Lit->Bool) (cnt:Nat),wl.ranges Tryd.prog 3 (plainElem Tryd.prog 3) w1.heap.size (wr0.heap.size+1) n D left cnt/\Below wr0.heap.size wr0 wl/\wr0.heap.size<wl.heap.size/\Fz w wl /\
       (∀ m,m<nf->wl.cell? ⟨wr0.heap.size,m,none⟩=some (.bool (decide ((m:Int)∈L)&&!left (.int .i64 m))))/\∀ kl,left kl=true->Maps.has D kl=true)
     (fun wl=>wl.rangeLeft w1.heap.size (wr0.heap.size+1))
    case atStart =>
     refine⟨_,_,hrg0,?_,by omega,?_,fun m hm=>?_,fun kl h=>h⟩
     · refine ⟨?_, ?_, ?_, ?_, fun b hb => ?_⟩
       · rw[hg0.os];rfl
       · rw[hg0.tape];rfl
       · rw[hg0.output];rfl
       · omega
       · rw [hg0.block b (by omega) (by intro h; cases h)];exact(Below.refl wr0.heap.size wr0).alloc (Nat.le_refl _) _ |>.block b hb
     · refine (hz.cells _ _).grown hg0 (fun kk hkk off => ?_);rw[hsa] at hkk;by_cases e:kk=wr0.heap.size+1
       · exact qqV hrg0 ⟨kk,off,none⟩ e
       · have : w0.heap[kk]? = none := by simp; omega
         simp only[World.frozen?,this]
     · rw [World.cell?_of_block (a := ⟨wr0.heap.size, m, none⟩) (hg0.block _ (by rw [hsa]; exact Nat.lt_succ_self _) (by intro h; cases h))];have e1:(decide ((m:Int)∈L)&&!Maps.has D (.int .i64 (m:Int)))=false:=by
         have:=hC.has (m:Int);cases hh:Maps.has D (.int .i64 (m:Int)) with
         | true=>simp
         | false=>rw[hh] at this;have hn:¬ (m:Int)∈L:=fun h=>absurd (this.2 h) (by decide);rw[decide_eq_false hn];rfl
       rw[e1];have h1:(wr0.alloc (Obj.cells (Array.replicate nf (Value.bool false)) 4)).heap[wr0.heap.size]?=some (Obj.cells (Array.replicate nf (Value.bool false)) 4):=by show(wr0.heap.push _)[wr0.heap.size]?=_;simp
       simp only[World.cell?];rw[h1];simp [hm]
    case round =>
     obtain⟨left,cnt,hrg,hbl3,hsz3,hz3,hcell,hleft⟩:=hrel
     go_wp2_with (first
       | (at_next;refine wpList_next_ranges_ii _ rfl _ rfl 3 3 .i64 .i64 qwH Tryd.underlying3 Tryd.underlying3 w1.heap.size (wr0.heap.size+1) n _ _ _ rfl hrg ?_ ?_)
       | go_in)
     · intro hc0 hl0
       go_wp2
       go_ret
       refine⟨wr0.heap.size,rfl,by omega,hsz3,⟨?_,?_,?_,?_⟩,hz3,fun m hm=>?_⟩
       · rw[hbl3.os,hbl.os,hg1.os];rfl
       · rw[hbl3.output,hbl.output,hg1.output];rfl
       · omega
       · intro b hb;rw[hbl3.block b (by omega),hbl.block b (by omega),hw1 b hb]
       · rw[hcell m hm,hl0,<- eL];simp
     · intro x c w2 cnt2 hwx hwc hlx hat hrg1 hlt2 hg1 hs1 hen;have hxL:x∈L:=(hC.has x).1 (hleft _ hlx);obtain⟨c',hc1,hc2,hc3⟩:=hC.cnt x hxL;have hcc:c'=c:=by
         have:=(hc3 (.lit (.int .i64 0))).symm.trans (hat _);injection this with this
         injection this
       subst hcc;obtain⟨hx0,hx1⟩:=hLm x hxL;obtain⟨xm,rfl⟩:=Int.eq_ofNat_of_zero_le hx0;have hxm:xm<nf:=by omega
       have hcl:w2.cell? ⟨wr0.heap.size,xm,none⟩=some (.bool (decide ((xm:Int)∈L)&&!left (.int .i64 xm))):=(World.cell?_of_block (a:=⟨wr0.heap.size,xm,none⟩) (hg1.block _ hsz3 (by intro h;exact absurd (Option.some.inj h) (Nat.ne_of_lt (Nat.lt_succ_self _))))).trans (hcell xm hxm)
       have hz4:Fz w w2:=fun ad=>by
         by_cases e:ad.block=wr0.heap.size+1
         · have q1 : w.heap[ad.block]? = none := by simp; omega
           have q2:w2.frozen? ad=false:=qqV hrg1 ad e;rw[q2];simp only[World.frozen?,q1]
         · by_cases hl : ad.block < wr.heap.size
           · exact(World.frozen?_of_block (hg1.block _ hl (fun h=>e (Option.some.inj h)))).trans (hz3 ad)
           · have q1 : wr.heap[ad.block]? = none := by simp; omega
             have q2:w2.heap[ad.block]?=none:=by simp;omega
             rw[<- hz3 ad];simp only[World.frozen?,q1,q2]
       have hfr:w2.frozen? ⟨wr0.heap.size,xm,none⟩=false:=(hz4 _).trans (hfz0 xm)
       go_wp2
       go_roundw
       case rel =>
         have hgs:=qpY w2 wr0.heap.size xm (.bool (decide (0<c')));refine⟨fun z=>left z&&!z.sameKey (.int .i64 xm),cnt2,hrg1.kept hgs (fun h=>by have:=Option.some.inj h;omega) (fun h=>absurd (Option.some.inj h).symm (Nat.ne_of_lt (Nat.lt_succ_self _))),?_,?_,?_,fun m hm=>?_,fun kl h=>?_⟩
         · refine ⟨?_, ?_, ?_, ?_, fun b hb => ?_⟩
           · rw[hgs.os,hg1.os,hbl3.os]
           · rw[hgs.tape,hg1.tape,hbl3.tape]
           · rw[hgs.output,hg1.output,hbl3.output]
           · have:=hgs.size;have:=hbl3.size;omega
           · have := hbl3.size;rw[hgs.block b (by omega) (fun h=>by have:=Option.some.inj h;omega),hg1.block b (by omega) (fun h=>by have:=Option.some.inj h;omega),hbl3.block b hb]
         · have:=hgs.size;omega
         · exact fun ad=>(World.frozen?_setCell _ _ _ _).trans (hz4 ad)
         · by_cases e : m = xm
           · subst e;rw[World.cell?_setCell_same' _ _ _ (by rw[hcl];rfl),decide_eq_true (show 0<c' by omega),decide_eq_true hxL];simp [Lit.sameKey]
           · rw [World.cell?_setCell_other (h := (fun h => e (by have := congrArg Addr.off h; exact this.symm))), World.cell?_of_block (a := ⟨wr0.heap.size, m, none⟩) (hg1.block _ hsz3 (by intro h; exact absurd (Option.some.inj h) (Nat.ne_of_lt (Nat.lt_succ_self _)))), hcell m hm]
             have:(Lit.int IntKind.i64 (m:Int)).sameKey (.int .i64 (xm:Int))=false:=by
              simp only[Lit.sameKey,decide_eq_false_iff_not];rintro⟨_,h⟩;exact e (by omega)
             dsimp only;rw[this];simp
         · simp only[Bool.and_eq_true] at h;exact hleft kl h.1
       case measure =>
         have hgs:=qpY w2 wr0.heap.size xm (.bool (decide (0<c')));have hrg2:=hrg1.kept hgs (fun h=>by have:=Option.some.inj h;omega) (fun h=>absurd (Option.some.inj h).symm (Nat.ne_of_lt (Nat.lt_succ_self _)));rw[hrg2.left_eq,hrg.left_eq];exact hlt2
end Go.Proofs.YtfoedjifcmfogaaDoor.X
