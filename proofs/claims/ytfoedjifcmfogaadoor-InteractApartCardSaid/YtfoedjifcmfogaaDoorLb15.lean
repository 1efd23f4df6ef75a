/- Own work: part of the proof; the first line of each part says what it tells. -/
import Derived.Test.YtfoedjifcmfogaaDoorLb7
import Derived.WalkKit
import Derived.Laws.MakeOwn
import Derived.OwnWalk
import Derived.Deep.RegionHeld3
import Derived.Deep.AppendLies


namespace Go.Proofs.YtfoedjifcmfogaaDoor.X
open Go Go.RowKit
set_option linter.unusedVariables false
structure Gd (w:World) (bo:Nat) (bi:Nat->Nat) (nf:Nat) (g:Nat->Nat->Bool):Prop where
 o:∀ i,i<nf->w.cell? ⟨bo,i,none⟩=some (.slice (some ⟨bi i,0,none⟩) nf nf)
 c:∀ i k,i<nf->k<nf->w.cell? ⟨bi i,k,none⟩=some (.bool (g i k))
 z:∀ i k,i<nf->w.frozen? ⟨bi i,k,none⟩=false
structure Gm (w w':World) (bi:Nat->Nat) (nf:Nat):Prop where
 os:w'.os=w.os
 output:w'.output=w.output
 size:w.heap.size<=w'.heap.size
 block:∀ k,k<w.heap.size->(∀ i,i<nf->bi i≠k)->w'.heap[k]?=w.heap[k]?
 fz:∀ a,w'.frozen? a=w.frozen? a
theorem Gm.refl (w:World) (bi:Nat->Nat) (nf:Nat):Gm w w bi nf:=⟨rfl,rfl,Nat.le_refl _,fun _ _ _=>rfl,fun _=>rfl⟩
theorem Gm.trans {w w1 w2:World} {bi:Nat->Nat} {nf:Nat} (h:Gm w w1 bi nf) (h':Gm w1 w2 bi nf):Gm w w2 bi nf :=
 ⟨h'.os.trans h.os,h'.output.trans h.output,Nat.le_trans h.size h'.size,fun k hk hb=>(h'.block k (Nat.lt_of_lt_of_le hk h.size) hb).trans (h.block k hk hb),fun a=>(h'.fz a).trans (h.fz a)⟩
theorem qs2 (w:World) (cs:Array Value) (T:TypeId) (bi:Nat->Nat) (nf:Nat):Gm w (w.alloc (.cells cs T)) bi nf:=by
 refine⟨rfl,rfl,by simp,fun k hk _=>(Below.refl w.heap.size w).alloc (Nat.le_refl _) _ |>.block k hk,fun a=>?_⟩;by_cases h:a.block=w.heap.size
 · have h1 : (w.alloc (.cells cs T)).heap[a.block]? = some (.cells cs T) := by rw [h]; show (w.heap.push _)[w.heap.size]? = _; simp
   have h2:w.heap[a.block]?=none:=by rw[h];simp
   simp only[World.frozen?,h1,h2];simp
 · by_cases hl : a.block < w.heap.size
   · exact World.frozen?_of_block ((Below.refl w.heap.size w).alloc (Nat.le_refl _) _ |>.block _ hl)
   · have h1 : (w.alloc (.cells cs T)).heap[a.block]? = none := by simp; omega
     have h2:w.heap[a.block]?=none:=by simp;omega
     simp only[World.frozen?,h1,h2]
theorem Gd.old {w w':World} {bo:Nat} {bi:Nat->Nat} {nf:Nat} {g:Nat->Nat->Bool} (h:Gd w bo bi nf g) (ho:w'.heap[bo]?=w.heap[bo]?) (hi:∀ i,i<nf->w'.heap[bi i]?=w.heap[bi i]?):Gd w' bo bi nf g :=
 ⟨fun i h1=>(World.cell?_of_block (a:=⟨bo,i,none⟩) ho).trans (h.o i h1),fun i k h1 h2=>(World.cell?_of_block (a:=⟨bi i,k,none⟩) (hi i h1)).trans (h.c i k h1 h2),fun i k h1=>(World.frozen?_of_block (a:=⟨bi i,k,none⟩) (hi i h1)).trans (h.z i k h1)⟩
theorem qyk {w:World} {bo:Nat} {bi:Nat->Nat} {nf:Nat} {g:Nat->Nat->Bool} (h:Gd w bo bi nf g) (hinj:∀ i j,i<nf->j<nf->bi i=bi j->i=j) (hbo:∀ i,i<nf->bi i≠bo) {i k:Nat} (hi:i<nf) (hk:k<nf) :
   Gd (w.setCell ⟨bi i,k,none⟩ (.bool true)) bo bi nf fun a b=>g a b || (decide (a=i)&&decide (b=k)):=by
 refine⟨fun a ha=>?_,fun a b ha hb=>?_,fun a b ha=>(World.frozen?_setCell _ _ _ _).trans (h.z a b ha)⟩
 · rw [World.cell?_setCell_other (h := (fun e => hbo i hi (by have := congrArg Addr.block e; first | exact this | exact this.symm)))];exact h.o a ha
 · by_cases e1 : a = i
   · subst e1;by_cases e2:b=k
     · subst e2;rw[World.cell?_setCell_same' _ _ _ (by rw[h.c a b ha hb];rfl)];simp
     · rw [World.cell?_setCell_other (h := (fun e => e2 (by have := congrArg Addr.off e; first | exact this | exact this.symm))), h.c a b ha hb];simp [e2]
   · rw [World.cell?_setCell_other (h := (fun e => e1 (by have := congrArg Addr.block e; first | exact hinj _ _ ha hi this | exact hinj _ _ ha hi this.symm))), h.c a b ha hb];simp [e1]
theorem qxs {w:World} {bo:Nat} {bi:Nat->Nat} {nf:Nat} {g g':Nat->Nat->Bool} (h:Gd w bo bi nf g) (e:∀ a b,g a b=g' a b):Gd w bo bi nf g':=by
 have:g=g':=by funext a b;exact e a b
 rw[<- this];exact h
theorem qyj {w:World} {bi:Nat->Nat} {nf i k:Nat} (hi:i<nf) (v:Value):Gm w (w.setCell ⟨bi i,k,none⟩ v) bi nf:=by
 refine⟨rfl,rfl,by simp [World.setCell],fun b _ hb=>?_,fun a=>World.frozen?_setCell _ _ _ _⟩;exact Below.heap_setCell _ _ _ _ (fun e=>hb i hi (by simp [e]))
def Ab (w:World) (bi:Nat->Nat) (nf:Nat) (v:Value) (A:List Nat):Prop :=
 (A=[]/\v=.slice none 0 0)\/∃ ba cap,0<A.length/\v=.slice (some ⟨ba,0,none⟩) A.length cap/\ba<w.heap.size/\(∀ i,i<nf->bi i≠ba)/\∀ j (hj:j<A.length),w.cell? ⟨ba,j,none⟩=some (.int .i64 (A[j]:Nat))
def Nd (w:World) (bi:Nat->Nat) (nf:Nat) (A:Option Addr) (t:List NODE):Prop :=
 ∀ j (hj:j<t.length),∃ (bt ot:Nat) (c2 c7 c8 c11:Bool) (A3 A4 A9 A10 A12 A13:Option Addr) (l3 p3 l4 p4 l9 p9 l10 p10 l12 p12 l13 p13:Nat),A=some ⟨bt,ot,none⟩/\bt<w.heap.size/\(∀ i,i<nf->bi i≠bt) /\
  w.cell? ⟨bt,ot+j*14,none⟩=some (.bool t[j].1)/\w.cell? ⟨bt,ot+j*14+1,none⟩=some (.int .i64 t[j].2.1)/\w.cell? ⟨bt,ot+j*14+2,none⟩=some (.bool c2)/\w.cell? ⟨bt,ot+j*14+3,none⟩=some (.slice A3 l3 p3)/\w.cell? ⟨bt,ot+j*14+4,none⟩=some (.slice A4 l4 p4)/\w.cell? ⟨bt,ot+j*14+5,none⟩=some (.int .i64 t[j].2.2.2.1)/\w.cell? ⟨bt,ot+j*14+6,none⟩=some (.int .i64 t[j].2.2.2.2.1)/\w.cell? ⟨bt,ot+j*14+7,none⟩=some (.bool c7)/\w.cell? ⟨bt,ot+j*14+8,none⟩=some (.bool c8)/\w.cell? ⟨bt,ot+j*14+9,none⟩=some (.slice A9 l9 p9)/\w.cell? ⟨bt,ot+j*14+10,none⟩=some (.slice A10 l10 p10)/\w.cell? ⟨bt,ot+j*14+11,none⟩=some (.bool c11)/\w.cell? ⟨bt,ot+j*14+12,none⟩=some (.slice A12 l12 p12)/\w.cell? ⟨bt,ot+j*14+13,none⟩=some (.slice A13 l13 p13)
theorem Nd.old {w w':World} {bi:Nat->Nat} {nf:Nat} {A:Option Addr} {t:List NODE} (h:Nd w bi nf A t) (hg:Gm w w' bi nf):Nd w' bi nf A t:=by
 intro j hj;obtain⟨bt,ot,c2,c7,c8,c11,A3,A4,A9,A10,A12,A13,l3,p3,l4,p4,l9,p9,l10,p10,l12,p12,l13,p13,e,h1,h2,q⟩:=h j hj;refine⟨bt,ot,c2,c7,c8,c11,A3,A4,A9,A10,A12,A13,l3,p3,l4,p4,l9,p9,l10,p10,l12,p12,l13,p13,e,Nat.lt_of_lt_of_le h1 hg.size,h2,?_⟩;have hb:∀ o,w'.cell? ⟨bt,o,none⟩=w.cell? ⟨bt,o,none⟩:=fun o=>World.cell?_of_block (a:=⟨bt,o,none⟩) (hg.block bt h1 h2)
 simp only[hb];exact q
theorem Ab.old {w w':World} {bi:Nat->Nat} {nf:Nat} {v:Value} {A:List Nat} (h:Ab w bi nf v A) (hg:Gm w w' bi nf):Ab w' bi nf v A:=by
 rcases h with h | ⟨ba,cap,h0,h1,h2,h3,h4⟩
 · exact .inl h
 · exact .inr ⟨ba,cap,h0,h1,Nat.lt_of_lt_of_le h2 hg.size,h3,fun j hj=>(World.cell?_of_block (a:=⟨ba,j,none⟩) (hg.block ba h2 h3)).trans (h4 j hj)⟩
theorem qzm (w:World) (bi:Nat->Nat) (nf:Nat):Gm w w.drew bi nf:=⟨rfl,rfl,Nat.le_refl _,fun _ _ _=>rfl,fun _=>rfl⟩
theorem qzo {w:World} {bo:Nat} {bi:Nat->Nat} {nf:Nat} {g:Nat->Nat->Bool} (h:Gd w bo bi nf g):Gd w.drew bo bi nf g:=⟨h.o,h.c,h.z⟩
structure Bw (w w':World):Prop where
 size:w.heap.size<=w'.heap.size
 block:∀ k,k<w.heap.size->w'.heap[k]?=w.heap[k]?
 calm:Calm w w'
theorem Bw.refl (w:World):Bw w w:=⟨Nat.le_refl _,fun _ _=>rfl,Calm.refl w⟩
theorem Bw.drew {w w':World} (h:Bw w w'):Bw w w'.drew:=⟨h.size,h.block,h.calm.trans ⟨rfl,rfl,fun _=>rfl⟩⟩
theorem Bw.alloc {w w':World} (h:Bw w w') (cs:Array Value) (T:TypeId):Bw w (w'.alloc (.cells cs T)) :=
 ⟨Nat.le_trans h.size (by simp),fun k hk=>(qcv (Nat.lt_of_lt_of_le hk h.size)).trans (h.block k hk),h.calm.trans (qdA _ _ _)⟩
theorem Bw.gm {w w':World} (h:Bw w w') (bi:Nat->Nat) (nf:Nat):Gm w w' bi nf:=⟨h.calm.os,h.calm.out,h.size,fun k hk _=>h.block k hk,h.calm.fr⟩
theorem Bw.cell {w w':World} (h:Bw w w') {b o:Nat} {v:Value} (hc:w.cell? ⟨b,o,none⟩=some v):w'.cell? ⟨b,o,none⟩=some v :=
 (World.cell?_of_block (a:=⟨b,o,none⟩) (h.block b (World.block_lt_of_cell? w _ hc))).trans hc
def In (w:World) (base:Nat) (v:Value) (xs:List Value):Prop:=∃ b c,v=.slice (some ⟨b,0,none⟩) xs.length c.size/\base<=b/\Blk w b c/\xs.length<=c.size/\∀ (j:Nat) u,xs[j]?=some u->c[j]?=some u
theorem qpr {w w0:World} {b:Nat} (h:Blk w b #[]) (hb:w0.heap.size<=b):In w w0.heap.size (.slice (some ⟨b,0,none⟩) 0 0) []:=⟨b,#[],rfl,hb,h,Nat.le_refl _,fun j u hj=>by cases hj⟩
theorem mt1 (wr:World):Blk (World.alloc wr (.cells #[] 3)).drew wr.heap.size #[]:=qbN wr #[] 3
theorem mt2 (wr:World) (o:Obj):Blk ((World.alloc wr (.cells #[] 3)).alloc o).drew wr.heap.size #[]:=(qbN wr #[] 3).mono (w':=((World.alloc wr (.cells #[] 3)).alloc o).drew) (qcv (w:=World.alloc wr (.cells #[] 3)) (by simp))
theorem mt3 (wr:World) (o:Obj):Blk ((World.alloc wr o).alloc (.cells #[] 3)).drew (wr.heap.size+1) #[]:=by
 have h:=qbN (World.alloc wr o) #[] 3;have e:(World.alloc wr o).heap.size=wr.heap.size+1:=by simp
 rw[e] at h;exact h
theorem mt4 (wr:World) (o o':Obj):((World.alloc wr o).alloc o').drew.heap[wr.heap.size]?=some o:=(qcv (w:=World.alloc wr o) (by simp)).trans (heap_alloc_new wr o)
theorem mt5 (wr:World) (o o':Obj):((World.alloc wr o).alloc o').drew.heap[wr.heap.size+1]?=some o':=by
 have h:=heap_alloc_new (World.alloc wr o) o';have e:(World.alloc wr o).heap.size=wr.heap.size+1:=by simp
 rw[e] at h;exact h
theorem In.alloc {w:World} {base:Nat} {v:Value} {xs:List Value} (h:In w base v xs) (o:Obj):In (w.alloc o) base v xs:=by
 obtain⟨b,c,h1,h2,h3,h4,h5⟩:=h;exact⟨b,c,h1,h2,h3.mono (qcv h3.lt),h4,h5⟩
theorem Ab.of {w w0:World} {bi:Nat->Nat} {nf c:Nat} {v:Value} {A:List Nat} (h:In w w0.heap.size v (([]++A.map fun(f:Nat)=>Value.int .i64 (f:Int))++[.int .i64 (c:Int)])) (hi:∀ i,i<nf->bi i<w0.heap.size):Ab w bi nf v (A++[c]):=by
 obtain⟨b,cc,rfl,h2,h3,h4,h5⟩:=h;have e:(([]++A.map fun(f:Nat)=>Value.int .i64 (f:Int))++[.int .i64 (c:Int)])=(A++[c]).map fun(f:Nat)=>Value.int .i64 (f:Int):=by simp
 rw[e] at h4 h5 ⊢;rw[List.length_map] at h4 ⊢;refine .inr ⟨b,cc.size,by simp,rfl,h3.lt,fun i h e=>by have:=hi i h;omega,fun j hj=>?_⟩;rw[h3.cell];exact h5 j _ (by rw[List.getElem?_map,List.getElem?_eq_getElem hj];rfl)
theorem qyL {w w0:World} (hbw:Bw w0 w) (ty:TypeId) {v:Value} {xs:List Value} (hin:In w w0.heap.size v xs) (A:Option Addr) (cap:Nat) (news:List Value)
   (hnews:news.length=0\/∃ a:Addr,A=some a/\∀ (j:Nat) u,news[j]?=some u->w.cell? (a.add j)=some u) (h1:∀ u∈news,u.oneCell'=true) (hb:xs.length+news.length<=2000000) :
   ∃ v' w',(Builtin.append_ #[81,81] ty #[v,.slice A news.length cap]).run Tryd.prog w=.ok v' w'/\In w' w0.heap.size v' (xs++news)/\Bw w0 w'/\(∀ k,k<w.heap.size->v.ownBlock≠some k->w'.heap[k]?=w.heap[k]?)/\w.heap.size<=w'.heap.size:=by
 obtain⟨b,c,rfl,hbb,hblk,hle,hpre⟩:=hin;obtain⟨i,hi,hz,hs,hby⟩:=info_parts (show(Tryd.prog.info? 3).map (fun i=>(i.zero,i.size,i.bytes))=some (some (.int .i64 0),1,8) by kernel_rfl);have hu:Tryd.prog.underlying 81=some (.slice 3):=Tryd.underlying81;have hlen:(xs++news).length=xs.length+news.length:=List.length_append;by_cases hr:xs.length+news.length<=c.size
 · have hrun := qf3 (P := Tryd.prog) w 81 ty 3 i hu hi hblk (sLen := xs.length) (sCap := c.size) A news.length cap news (by rw [hs, Nat.mul_one]) (hnews.imp id id) h1 hr (by rw [hs, Nat.mul_one]; exact hr);rw[hs,Nat.mul_one] at hrun;have hsz:(qaP c xs.length news).size=c.size:=qbo hr;refine⟨_,_,hrun,⟨b,qaP c xs.length news,by rw[hsz,hlen],hbb,qdv hblk,by rw[hsz,hlen];exact hr,fun j u hj=>?_⟩,⟨?_,fun k hk=>?_,hbw.calm.trans (qgW hblk)⟩,fun k hk hne=>setRow_other w b k _ (fun e=>hne (by simp [Value.ownBlock,e])),?_⟩
   · by_cases hjx : j < xs.length
     · rw [List.getElem?_append_left hjx] at hj;rw[qbu hr (.inl hjx)];exact hpre j u hj
     · rw [List.getElem?_append_right (by omega)] at hj;have hjn:=(List.getElem?_eq_some_iff.1 hj).1;have:=qej hr hjn;rw[show xs.length+(j-xs.length)=j by omega] at this;rw[this];exact hj
   · have:=hbw.size;simpa [World.setRow] using this
   · rw[setRow_other w b k _ (by omega)];exact hbw.block k hk
   · simp [World.setRow]
 · rcases hnews with h0 | ⟨a, rfl, hcell⟩
   · omega
   · have hrun := run_append_grow (P := Tryd.prog) w 81 ty 3 i (.int .i64 0) hu hi hz ⟨b, 0, none⟩ xs.length c.size xs (by rw [hs, Nat.mul_one]) (fun j u hj => by rw [Addr.add_lit, Nat.zero_add, hblk.cell]; exact hpre j u hj) a news.length cap news (by rw [hs, Nat.mul_one]) hcell (by omega) (by omega) (by
       have:=nextslicecap_le (need:=xs.length+news.length) (old:=c.size) (by omega);rw[hby];omega)
     obtain⟨q,hq⟩:∃ q,q=grownCap w (xs.length+news.length) c.size 3:=⟨_,rfl⟩;have hge:=grownCap_ge w (xs.length+news.length) c.size 3;rw[<- hq] at hrun hge;obtain⟨cc,hcc⟩:∃ cc,cc=xs.toArray++news.toArray++Builtin.zeroCells (Value.int .i64 0).cells (q-(xs.length+news.length)):=⟨_,rfl⟩;rw[<- hcc] at hrun;have hsz:cc.size=q:=by
       rw[hcc];have e:(Value.int IntKind.i64 0).cells.size=1:=rfl;simp only[Array.size_append,List.size_toArray,size_zeroCells,e];omega
     have hbd:Bw w0 (w.drew.alloc (.cells cc 3)):=hbw.drew.alloc cc 3;refine⟨_,_,hrun,⟨w.heap.size,cc,by rw[hsz,hlen],hbw.size,qbN w.drew cc 3,by rw[hsz,hlen];exact hge,fun j u hj=>?_⟩,hbd,fun k hk _=>qcv (w:=w.drew) hk,by simp⟩;have hjl:=(List.getElem?_eq_some_iff.1 hj).1;rw[hcc,Array.getElem?_append_left (by simpa using hjl)];simpa using hj
theorem qjy {ops:Array Oper} {o:Oper} {a:Act} {K:Act->World->Prop} {Q:Exit->Act->World->Prop} {E:Prop} (hgd:o.guard=none) (s x:Operand)
  (ho:o.op=.call { callee:=.builtin .append,args:=#[s,x],argTypes:=#[81,81] }) {w w0:World} (hbw:Bw w0 w) {v:Value} {xs:List Value} (hs:a.eval s=v) (hin:In w w0.heap.size v xs) (A:Option Addr) (cap:Nat) (news:List Value) (m:Nat) (hm:news.length=m) (hx:a.eval x=.slice A m cap)
  (hnews:news.length=0\/∃ a:Addr,A=some a/\∀ (j:Nat) u,news[j]?=some u->w.cell? (a.add j)=some u) (h1:∀ u∈news,u.oneCell'=true) (hb:xs.length+news.length<=2000000)
  (h:∀ v' w',In w' w0.heap.size v' (xs++news)->Bw w0 w'->(∀ k,k<w.heap.size->v.ownBlock≠some k->w'.heap[k]?=w.heap[k]?)->w.heap.size<=w'.heap.size->K (a.put o.dst v') w') :
  if Region.wanted o (yielded ops a.tmps)=true then Oper.wp Tryd.prog o a w K Q else E:=by
 subst hm;have hw:Region.wanted o (yielded ops a.tmps)=true:=by simp [Region.wanted,hgd]
 rw[if_pos hw];obtain⟨v',w',hr,h2,h3,h4,h5⟩:=qyL hbw o.type hin A cap news hnews h1 hb;unfold Oper.wp execOp;simp only[ho,resolve,invoke,builtin,Sem.run_bind,Sem.run_pure,Result.andThen_ok,List.map_toArray,List.map_cons,List.map_nil,hs,hx,hr];exact h v' w' h2 h3 h4 h5
set_option maxHeartbeats 8000000 in
set_option maxRecDepth 100000 in
theorem qxb {nf bo:Nat} {bi:Nat->Nat} {At:Option Addr} {t:List NODE} (ct co:Nat) (h64:nf<=64) (hinj:∀ i j,i<nf->j<nf->bi i=bi j->i=j) (hbo:∀ i,i<nf->bi i≠bo) :
  ∀ (k:Nat) (at_:Int) (A:List Nat) (g g':Nat->Nat->Bool),qlw (nf:Int) t k at_ A g=some g'->∀ (w:World) (Va:Value),(∀ f∈A,f<nf)->bo<w.heap.size->(∀ i,i<nf->bi i<w.heap.size) ->
   Nd w bi nf At t->Gd w bo bi nf g->Ab w bi nf Va A ->
   Calls Tryd.prog 20 #[.slice At t.length ct,.int .i64 at_,Va,.slice (some ⟨bo,0,none⟩) nf co] w fun e w'=>e=.returned (.tuple #[])/\Gd w' bo bi nf g'/\Gm w w' bi nf:=by
 intro k
 induction k with
 | zero=>intro at_ A g g' hF;cases hF
 | succ k ih =>
  intro at_ A g g' hF w Va hA hbs his hN hG hV
  have hF:(bif decide (0<=at_) then (t[at_.toNat]?).bind _ else none)=some g':=hF;obtain⟨d0,hF⟩:=q8q hF;have d0:0<=at_:=of_decide_eq_true d0
  obtain⟨i,rfl⟩:=Int.eq_ofNat_of_zero_le d0;rw[Int.toNat_natCast] at hF;cases hti:t[i]? with
  | none=>rw[hti] at hF;cases hF
  | some nd =>
  rw[hti,Option.bind_some] at hF;obtain⟨hi,rfl⟩:=List.getElem?_eq_some_iff.1 hti;obtain⟨bt,ot,c2,c7,c8,c11,A3,A4,A9,A10,A12,A13,l3,p3,l4,p4,l9,p9,l10,p10,l12,p12,l13,p13,rfl,hbt,hbi,r0,r1,r2,r3,r4,r5,r6,r7,r8,r9,r10,r11,r12,r13⟩:=hN i hi;have hlt:(i:Int)<(t.length:Int):=by omega
  go_enter Tryd.func20,Tryd.ntmps20
  cases hlf:t[i].1 with
  | true =>
   rw[hlf] at r0 hF
   go_wp2
   refine bodyPost_ret (results_none rfl _ _ _) rfl ?_;have hF:some g=some g':=hF;injection hF with hF
   subst hF;have hga:=qs2 w #[Value.bool true,Value.int IntKind.i64 t[i].snd.fst,Value.bool c2,Value.slice A3 l3 p3,Value.slice A4 l4 p4,Value.int IntKind.i64 t[i].snd.snd.snd.fst,Value.int IntKind.i64 t[i].snd.snd.snd.snd.fst,Value.bool c7,Value.bool c8,Value.slice A9 l9 p9,Value.slice A10 l10 p10,Value.bool c11,Value.slice A12 l12 p12,Value.slice A13 l13 p13] 52 bi nf;exact⟨rfl,hG.old (hga.block bo hbs hbo) (fun j hj=>(Below.refl w.heap.size w).alloc (Nat.le_refl _) _ |>.block _ (his j hj)),hga⟩
  | false =>
   rw[hlf] at r0 hF;rw[cond_false] at hF;obtain⟨hc,hF⟩:=q8q hF;simp only[Bool.and_eq_true,decide_eq_true_eq] at hc;obtain⟨f0,f1,hAl⟩:=hc;obtain⟨c,hcN⟩:=Int.eq_ofNat_of_zero_le f0;rw[hcN] at r1 f1 hF;rw[Int.toNat_natCast] at hF;have hcn:c<nf:=by omega
   obtain⟨g1,hF1,hF2⟩:∃ g1,qlw (nf:Int) t k t[i].2.2.2.1 (A++[c]) (fun a b=>g a b || A.any fun f=>hitB f c a b)=some g1/\qlw (nf:Int) t k t[i].2.2.2.2.1 (A++[c]) g1=some g':=by
    cases hq:qlw (nf:Int) t k t[i].2.2.2.1 (A++[c]) (fun a b=>g a b || A.any fun f=>hitB f c a b) with
    | none=>rw[hq] at hF;cases hF
    | some g1=>rw[hq] at hF;exact⟨g1,rfl,hF⟩
   obtain⟨Ao,cap,rfl,hAo⟩:∃ Ao cap,Va=.slice Ao A.length cap/\(0<A.length->∃ ba,Ao=some ⟨ba,0,none⟩/\ba<w.heap.size/\(∀ i,i<nf->bi i≠ba)/\∀ j (hj:j<A.length),w.cell? ⟨ba,j,none⟩=some (.int .i64 (A[j]:Nat))):=by
    rcases hV with ⟨rfl,rfl⟩ | ⟨ba,cap,h0,rfl,h2,h3,h4⟩
    · exact⟨none,0,rfl,fun h=>absurd h (by simp)⟩
    · exact⟨_,cap,rfl,fun _=>⟨ba,rfl,h2,h3,h4⟩⟩
   go_wp2
   obtain⟨w1,ew1⟩:∃ w1,w1=w.alloc (Obj.cells #[Value.bool false,Value.int IntKind.i64 (c:Int),Value.bool c2,Value.slice A3 l3 p3,Value.slice A4 l4 p4,Value.int IntKind.i64 t[i].snd.snd.snd.fst,Value.int IntKind.i64 t[i].snd.snd.snd.snd.fst,Value.bool c7,Value.bool c8,Value.slice A9 l9 p9,Value.slice A10 l10 p10,Value.bool c11,Value.slice A12 l12 p12,Value.slice A13 l13 p13] 52):=⟨_,rfl⟩;rw[<- ew1];have hg1:Gm w w1 bi nf:=by rw[ew1];exact qs2 _ _ _ _ _
   have hs1:w1.heap.size=w.heap.size+1:=by rw[ew1];simp
   have hnb:w1.heap[w.heap.size]?=some (Obj.cells #[Value.bool false,Value.int IntKind.i64 (c:Int),Value.bool c2,Value.slice A3 l3 p3,Value.slice A4 l4 p4,Value.int IntKind.i64 t[i].snd.snd.snd.fst,Value.int IntKind.i64 t[i].snd.snd.snd.snd.fst,Value.bool c7,Value.bool c8,Value.slice A9 l9 p9,Value.slice A10 l10 p10,Value.bool c11,Value.slice A12 l12 p12,Value.slice A13 l13 p13] 52):=by rw[ew1];show(w.heap.push _)[w.heap.size]?=_;simp
   have hG1:Gd w1 bo bi nf g:=hG.old (hg1.block bo hbs hbo) (fun j hj=>by rw[ew1];exact(Below.refl w.heap.size w).alloc (Nat.le_refl _) _ |>.block _ (his j hj))
   have hfar:∀ j,j<nf->bi j≠w.heap.size:=fun j hj=>Nat.ne_of_lt (his j hj)
   go_loopw [19] (fun i2 wr=>∃ j:Nat,j<=A.length/\i2=.int .i64 j/\Gm w1 wr bi nf/\Gd wr bo bi nf fun a b=>g a b || (A.take j).any fun f=>hitB f c a b)
    (fun i2 _=>A.length-(intOf i2).toNat)
   case atStart=>exact⟨0,Nat.zero_le _,rfl,Gm.refl _ _ _,by simpa using hG1⟩
   case round =>
    obtain⟨j,hj,rfl,hgr,hGr⟩:=hrel;have hloc:∀ o,wr.cell? ⟨w.heap.size,o,none⟩=w1.cell? ⟨w.heap.size,o,none⟩:=fun o=>World.cell?_of_block (a:=⟨w.heap.size,o,none⟩) (hgr.block w.heap.size (by omega) hfar)
    have q1:wr.cell? ⟨w.heap.size,1,none⟩=some (.int .i64 (c:Int)):=by rw[hloc];simp [World.cell?,hnb]
    by_cases hjl:j<A.length
    · obtain ⟨ba, rfl, hba, hbb, hcell⟩ := hAo (by omega);have hjl2:(j:Int)<(A.length:Int):=by omega
      have qj:wr.cell? ⟨ba,j,none⟩=some (.int .i64 ((A[j]:Nat):Int)):=(World.cell?_of_block (a:=⟨ba,j,none⟩) ((hgr.block ba (by omega) hbb).trans (hg1.block ba hba hbb))).trans (hcell j hjl);have hfn:A[j]<nf:=hA _ (List.getElem_mem hjl);obtain⟨f,ef⟩:∃ f,f=A[j]:=⟨_,rfl⟩;rw[<- ef] at qj hfn;have u1:(0:Int)<=(f:Int):=by omega
      have u2:(f:Int)<(nf:Int):=by omega
      have u3:(0:Int)<=(c:Int):=by omega
      have hnext:∀ a b,(g a b || (A.take (j+1)).any fun f=>hitB f c a b)=((g a b || (A.take j).any fun f=>hitB f c a b) || hitB f c a b):=fun a b=>by
        rw[List.take_succ_eq_append_getElem hjl,List.any_append,<- ef];simp only[List.any_cons,List.any_nil,Bool.or_false,Bool.or_assoc]
      obtain⟨G,eG⟩:∃ G:Nat->Nat->Bool,G=fun a b=>g a b || (A.take j).any fun f=>hitB f c a b:=⟨_,rfl⟩
      rw[<- eG] at hGr;clear ef;have hlast:∀ wr2,Gm wr wr2 bi nf->Gd wr2 bo bi nf (fun a b=>G a b || hitB f c a b)->(∃ j_1:Nat,j_1<=A.length/\Value.int IntKind.i64 ((j:Int)+1)=Value.int IntKind.i64 (j_1:Int)/\Gm w1 wr2 bi nf/\Gd wr2 bo bi nf fun a b=>g a b || (List.take j_1 A).any fun f_1=>hitB f_1 c a b):=fun wr2 h1 h2=>by
        refine⟨j+1,by omega,by simp,hgr.trans h1,?_⟩;have e:(fun a b=>g a b || (List.take (j+1) A).any fun f_1=>hitB f_1 c a b)=fun a b=>G a b || hitB f c a b:=by
          funext a b;rw[hnext,eG]
        rw[e];exact h2
      by_cases e:f=c
      · subst e
        go_wp2
        go_roundw
        case rel =>
          refine hlast _ (Gm.refl _ _ _) ?_;have e:(fun a b=>G a b || hitB f f a b)=G:=by funext a b;simp [hitB]
          rw[e];exact hGr
        case measure=>simp [intOf];omega
      · have e' : ¬ (f : Int) = (c : Int) := by omega
        have v1:=hGr.o f hfn;have v2:=hGr.o c hcn;have v3:=hGr.c f c hfn hcn;have v4:=hGr.z f c hfn;have hs1:=qyk hGr hinj hbo hfn hcn;have v5:=hs1.c c f hcn hfn;have v6:=hs1.z c f hcn;have v7:=hs1.o f hfn;have v8:=hs1.o c hcn;have v9:(wr.setCell ⟨bi f,c,none⟩ (.bool true)).cell? ⟨w.heap.size,1,none⟩=some (.int .i64 (c:Int)):=by
          rw[World.cell?_setCell_other (h:=(fun e=>hfar f hfn (by have:=congrArg Addr.block e;first | exact this | exact this.symm)))];exact q1
        have hs2:=qyk hs1 hinj hbo hcn hfn
        go_wp2
        go_region_held3 (fun w'=>w'.cell? ⟨bo,f,none⟩=some (.slice (some ⟨bi f,0,none⟩) nf nf)/\w'.cell? ⟨bo,c,none⟩=some (.slice (some ⟨bi c,0,none⟩) nf nf)/\w'.cell? ⟨w.heap.size,1,none⟩=some (.int .i64 (c:Int))) (go_keep) (fail)
        all_goals go_wp2
        all_goals go_roundw
        case rel=>exact hlast _ (((qyj hfn _).trans (qyj hcn _)).trans (qzm _ _ _)) (by
          refine qxs (qzo hs2) fun a b=>?_
          unfold hitB;rw[decide_eq_false e,Bool.not_false,Bool.true_and,Bool.or_assoc])
        case measure=>simp [intOf];omega
    · have hje : j = A.length := by omega
      subst hje;rw[List.take_length] at hGr
      go_wp2
      have hbr:Bw wr wr:=Bw.refl wr;have hbd0:([]:List Value).length+(A.map fun(f:Nat)=>Value.int .i64 (f:Int)).length<=2000000:=by simp only[List.length_map,List.length_nil];omega
      have hbd1:(([]:List Value)++A.map fun(f:Nat)=>Value.int .i64 (f:Int)).length+[Value.int .i64 (c:Int)].length<=2000000:=by simp only[List.length_map,List.length_nil,List.length_append,List.length_cons];omega
      have hnew:∀ W,Bw wr W->(A.map fun(f:Nat)=>Value.int .i64 (f:Int)).length=0\/∃ a:Addr,Ao=some a/\∀ (j:Nat) u,(A.map fun(f:Nat)=>Value.int .i64 (f:Int))[j]?=some u->W.cell? (a.add j)=some u:=fun W hW=>by
        by_cases h0:A.length=0
        · left;simpa using h0
        · obtain ⟨ba, rfl, hba, hbb, hcell⟩ := hAo (by omega);refine .inr ⟨_,rfl,fun j u hu=>?_⟩;rw[Addr.add_lit,Nat.zero_add];rw[List.getElem?_map] at hu;cases hq:A[j]? with
          | none=>rw[hq] at hu;cases hu
          | some x =>
            rw[hq] at hu;obtain⟨hj,rfl⟩:=List.getElem?_eq_some_iff.1 hq;have:=hcell j hj;have hh:wr.cell? ⟨ba,j,none⟩=some (.int .i64 ((A[j]:Nat):Int)):=(World.cell?_of_block (a:=⟨ba,j,none⟩) ((hgr.block ba (by omega) hbb).trans (hg1.block ba hba hbb))).trans this;rw[hW.cell hh];exact hu
      go_region_held3 (fun w'=>w'.cell? ⟨w.heap.size,1,none⟩=some (.int .i64 (c:Int))/\Bw wr w')
        ((refine⟨Bw.cell (w:=wr) ?_ q1,?_⟩)<;>(repeat first | assumption | exact hbr | refine Bw.drew ?_ | refine Bw.alloc ?_ _ _))
        ((go_split_ands; first
          | ((refine qjy (by rfl) _ _ (by rfl) (w0:=wr) (by assumption) (v:=.slice (some ⟨wr.heap.size,0,none⟩) 0 0) (xs:=[]) (by rfl) (qpr (mt1 _) (Nat.le_refl _)) Ao cap (A.map fun(f:Nat)=>Value.int .i64 (f:Int)) A.length (by simp) (by rfl) (hnew _ (by assumption)) (by simp [Value.oneCell']) hbd0 ?_;intro v9 w9 hin9 hbw9 hsm9 hsz9))
          | ((refine qjy (by rfl) _ _ (by rfl) (w0:=wr) (by assumption) (v:=.slice (some ⟨wr.heap.size,0,none⟩) 0 0) (xs:=[]) (by rfl) (qpr (mt2 _ _) (Nat.le_refl _)) Ao cap (A.map fun(f:Nat)=>Value.int .i64 (f:Int)) A.length (by simp) (by rfl) (hnew _ (by assumption)) (by simp [Value.oneCell']) hbd0 ?_;intro v9 w9 hin9 hbw9 hsm9 hsz9))
          | ((refine qjy (by rfl) _ _ (by rfl) (w0:=wr) (by assumption) (v:=.slice (some ⟨wr.heap.size+1,0,none⟩) 0 0) (xs:=[]) (by rfl) (qpr (mt3 _ _) (Nat.le_succ _)) Ao cap (A.map fun(f:Nat)=>Value.int .i64 (f:Int)) A.length (by simp) (by rfl) (hnew _ (by assumption)) (by simp [Value.oneCell']) hbd0 ?_;intro v9 w9 hin9 hbw9 hsm9 hsz9))
          | ((refine qjy (by rfl) _ _ (by rfl) (w0:=wr) (by assumption) (by rfl) (hin9.alloc _) (some ⟨w9.heap.size,0,none⟩) 1 [.int .i64 (c:Int)] 1 (by rfl) (by rfl) (.inr ⟨_,rfl,World.news_of_block (cs:=#[.int .i64 (c:Int)]) (heap_alloc_new w9 _)⟩) (by simp [Value.oneCell']) hbd1 ?_;intro v8 w8 hin8 hbw8 hsm8 hsz8))
          | ((refine qjy (by rfl) _ _ (by rfl) (w0:=wr) (by assumption) (by rfl) hin9 (some ⟨wr.heap.size+1,0,none⟩) 1 [.int .i64 (c:Int)] 1 (by rfl) (by rfl) (.inr ⟨_,rfl,World.news_of_block (cs:=#[.int .i64 (c:Int)]) ((hsm9 (wr.heap.size+1) (by simp) (by simp [Value.ownBlock])).trans (mt5 wr _ _))⟩) (by simp [Value.oneCell']) hbd1 ?_;intro v8 w8 hin8 hbw8 hsm8 hsz8))
          | ((refine qjy (by rfl) _ _ (by rfl) (w0:=wr) (by assumption) (by rfl) hin9 (some ⟨wr.heap.size,0,none⟩) 1 [.int .i64 (c:Int)] 1 (by rfl) (by rfl) (.inr ⟨_,rfl,World.news_of_block (cs:=#[.int .i64 (c:Int)]) ((hsm9 wr.heap.size (by simp;omega) (by simp [Value.ownBlock])).trans (mt4 wr _ _))⟩) (by simp [Value.oneCell']) hbd1 ?_;intro v8 w8 hin8 hbw8 hsm8 hsz8))))
      all_goals
        (have hv8 : Ab w8 bi nf v8 (A ++ [c]) := Ab.of hin8 (fun j hj => by have := his j hj; have := hgr.size; omega)
         have hsz0:w.heap.size<wr.heap.size:=by have:=hgr.size;omega
         have hg8:=hbw8.gm bi nf;have hgw8:Gm w w8 bi nf:=(hg1.trans hgr).trans hg8;have hN8:=hN.old hgw8;have hG8:Gd w8 bo bi nf fun a b=>g a b || A.any fun f=>hitB f c a b:=hGr.old (hbw8.block bo (by omega)) (fun j hj=>hbw8.block (bi j) (by have:=his j hj;omega))
         have q5:w8.cell? ⟨w.heap.size,5,none⟩=some (.int .i64 t[i].2.2.2.1):=by
           refine hbw8.cell ?_;rw[hloc];simp [World.cell?,hnb]
         have q6:w8.cell? ⟨w.heap.size,6,none⟩=some (.int .i64 t[i].2.2.2.2.1):=by
           refine hbw8.cell ?_;rw[hloc];simp [World.cell?,hnb]
         have hAc:∀ f∈A++[c],f<nf:=fun f hf=>by
           rcases List.mem_append.1 hf with h | h
           · exact hA f h
           · rw[List.mem_singleton.1 h];exact hcn
         have hs8:=hgw8.size;have ih1:=ih _ (A++[c]) _ g1 hF1 w8 v8 hAc (by omega) (fun j hj=>by have:=his j hj;omega) hN8 hG8 hv8
         go_wp2_with (first
           | (go_at_call 20;refine ih2.mono ?_;rintro e w4 ⟨rfl,hG4,hg4⟩)
           | (go_at_call 20; refine ih1.mono ?_; rintro e w3 ⟨rfl, hG3, hg3⟩
              have q6':w3.cell? ⟨w.heap.size,6,none⟩=some (.int .i64 t[i].2.2.2.2.1):=(World.cell?_of_block (a:=⟨w.heap.size,6,none⟩) (hg3.block w.heap.size (by have:=hbw8.size;omega) hfar)).trans q6;have hs3:=hg3.size;have ih2:=ih _ (A++[c]) _ g' hF2 w3 v8 hAc (by omega) (fun j hj=>by have:=his j hj;omega) (hN8.old hg3) hG3 (hv8.old hg3))
           | go_in)
         go_end0
         exact⟨rfl,hG4,(hgw8.trans hg3).trans hg4⟩)
theorem Nd.up {w:World} {bi bj:Nat->Nat} {nf:Nat} {A:Option Addr} {t:List NODE} (h:Nd w bj 0 A t) (hb:∀ i,i<nf->w.heap.size<=bi i):Nd w bi nf A t:=by
 intro j hj;obtain⟨bt,ot,c2,c7,c8,c11,A3,A4,A9,A10,A12,A13,l3,p3,l4,p4,l9,p9,l10,p10,l12,p12,l13,p13,e,h1,h2,q⟩:=h j hj;exact⟨bt,ot,c2,c7,c8,c11,A3,A4,A9,A10,A12,A13,l3,p3,l4,p4,l9,p9,l10,p10,l12,p12,l13,p13,e,h1,fun i hi=>by have:=hb i hi;omega,q⟩
theorem qyw (w:World) (nf:Nat) (h:nf<=64):(Instr.makeSlice 32 (.int .i64 (nf:Int)) (.int .i64 (nf:Int))).run Tryd.prog w=.ok (.slice (some ⟨w.heap.size,0,none⟩) nf nf) (w.alloc (.cells (Array.replicate nf (.bool false)) 4)):=by
 obtain⟨i,hi,h0,h1,h2⟩:=info_parts (show(Tryd.prog.info? 4).map (fun i=>(i.zero,i.size,i.bytes))=some (some (.bool false),1,1) by kernel_rfl);have:=run_makeSlice (w:=w) (P:=Tryd.prog) 32 4 i (.bool false) Tryd.underlying32 hi h0 .i64 .i64 nf nf (by omega) (by omega) (by rw[h1];omega) (by rw[h2];omega) (by omega);have e:madeCells (Value.bool false).cells nf=Array.replicate nf (.bool false):=by
  apply Array.ext
  · simp [madeCells]
  · intro j h1 h2;simp [madeCells,Value.cells,Nat.mod_one]
 rw[this,h1,Nat.mul_one,Int.toNat_natCast,e]
theorem qyv (w:World) (nf:Nat) (h:nf<=64):(Instr.makeSlice 27 (.int .i64 (nf:Int)) (.int .i64 (nf:Int))).run Tryd.prog w=.ok (.slice (some ⟨w.heap.size,0,none⟩) nf nf) (w.alloc (.cells (Array.replicate nf (.slice none 0 0)) 32)):=by
 obtain⟨i,hi,h0,h1,h2⟩:=info_parts (show(Tryd.prog.info? 32).map (fun i=>(i.zero,i.size,i.bytes))=some (some (.slice none 0 0),1,24) by kernel_rfl);have:=run_makeSlice (w:=w) (P:=Tryd.prog) 27 32 i (.slice none 0 0) Tryd.underlying27 hi h0 .i64 .i64 nf nf (by omega) (by omega) (by rw[h1];omega) (by rw[h2];omega) (by omega);have e:madeCells (Value.slice none 0 0).cells nf=Array.replicate nf (.slice none 0 0):=by
  apply Array.ext
  · simp [madeCells]
  · intro j h1 h2;simp [madeCells,Value.cells,Nat.mod_one]
 rw[this,h1,Nat.mul_one,Int.toNat_natCast,e]
structure Mk (w1 wr:World) (nf i:Nat):Prop where
 size:wr.heap.size=w1.heap.size+1+i
 block:∀ k,k<w1.heap.size->wr.heap[k]?=w1.heap[k]?
 calm:Calm w1 wr
 outer:∃ c,Blk wr w1.heap.size c/\c.size=nf/\∀ j,j<i->c[j]?=some (.slice (some ⟨w1.heap.size+1+j,0,none⟩) nf nf)
 inner:∀ j,j<i->Blk wr (w1.heap.size+1+j) (Array.replicate nf (.bool false))
theorem Mk.step {w1 wr:World} {nf i:Nat} (h:Mk w1 wr nf i) (hi:i<nf):Mk w1 ((wr.alloc (.cells (Array.replicate nf (.bool false)) 4)).setCell ⟨w1.heap.size,i,none⟩ (.slice (some ⟨wr.heap.size,0,none⟩) nf nf)) nf (i+1):=by
 obtain⟨h1,h2,h3,⟨c,h4,h5,h6⟩,h7⟩:=h;obtain⟨wa,ewa⟩:∃ wa,wa=wr.alloc (.cells (Array.replicate nf (.bool false)) 4):=⟨_,rfl⟩;rw[<- ewa];have hwa:∀ k,k<wr.heap.size->wa.heap[k]?=wr.heap[k]?:=fun k hk=>by rw[ewa];exact qcv hk
 have hsz:wa.heap.size=wr.heap.size+1:=by rw[ewa];simp
 have hnew:Blk wa wr.heap.size (Array.replicate nf (.bool false)):=by rw[ewa];exact qbN _ _ _
 have hca:Calm wr wa:=by rw[ewa];exact qdA _ _ _
 have hso:∀ k,k≠w1.heap.size->(wa.setCell ⟨w1.heap.size,i,none⟩ (.slice (some ⟨wr.heap.size,0,none⟩) nf nf)).heap[k]?=wa.heap[k]?:=fun k hk=>Below.heap_setCell _ _ _ _ (fun e=>hk (by simp [e]))
 have hob:Blk wa w1.heap.size c:=h4.mono (hwa _ (by omega));refine⟨?_,fun k hk=>?_,?_,⟨c.setIfInBounds i (.slice (some ⟨wr.heap.size,0,none⟩) nf nf),?_,by simp [h5],fun j hj=>?_⟩,fun j hj=>?_⟩
 · simp only[World.setCell,Array.size_modify];omega
 · rw[hso k (by omega),hwa k (by omega),h2 k hk]
 · exact(h3.trans hca).trans ⟨rfl,rfl,fun a=>World.frozen?_setCell _ _ _ _⟩
 · obtain ⟨e, he⟩ := hob;refine⟨e,?_⟩;simp only[World.setCell];rw[Array.getElem?_modify];simp [he]
 · rw [Array.getElem?_setIfInBounds];by_cases e:i=j
   · subst e;rw[if_pos rfl,if_pos (by omega),h1]
   · rw [if_neg e];exact h6 j (by omega)
 · refine Blk.mono (w := wa) ?_ (hso _ (by omega));by_cases e:j=i
   · subst e;rw[<- h1];exact hnew
   · exact(h7 j (by omega)).mono (hwa _ (by omega))
set_option maxHeartbeats 8000000 in
set_option maxRecDepth 100000 in
theorem qxV (nf:Nat) (A:Option Addr) (cap:Nat) (TT:List (List NODE)) (w:World) (h64:TT.length<=64) (hf:nf<=64) (g':Nat->Nat->Bool) (hF:qn1 (nf:Int) TT (fun _ _=>false)=some g')
  (hT:∀ i (hi:i<TT.length),∃ (bt ot:Nat) (Ai:Option Addr) (ci:Nat),A=some ⟨bt,ot,none⟩/\bt<w.heap.size/\w.cell? ⟨bt,ot+i,none⟩=some (.slice Ai TT[i].length ci)/\Nd w (fun _=>0) 0 Ai TT[i])
  (hOk:Calls Tryd.prog 8 #[.agg #[.int .i64 (nf:Int),.slice A TT.length cap]] (w.alloc (.cells #[.int .i64 (nf:Int),.slice A TT.length cap] 24)) fun e w'=>e=.returned (.bool true)/\Bw (w.alloc (.cells #[.int .i64 (nf:Int),.slice A TT.length cap] 24)) w') :
  Calls Tryd.prog 7 #[.agg #[.int .i64 (nf:Int),.slice A TT.length cap]] w fun e w'=>∃ (bo:Nat) (bi:Nat->Nat),e=.returned (.tuple #[.slice (some ⟨bo,0,none⟩) nf nf,.int .i64 0])/\w.heap.size<=bo/\bo<w'.heap.size/\(∀ i,i<nf->w.heap.size<=bi i/\bi i<w'.heap.size)/\Gd w' bo bi nf g'/\Bw w w':=by
 obtain⟨wm,ewm⟩:∃ wm,wm=w.alloc (.cells #[.int .i64 (nf:Int),.slice A TT.length cap] 24):=⟨_,rfl⟩;have hbm:Bw w wm:=by rw[ewm];exact(Bw.refl w).alloc _ _
 have hsm:wm.heap.size=w.heap.size+1:=by rw[ewm];simp
 have hmb:Blk wm w.heap.size #[.int .i64 (nf:Int),.slice A TT.length cap]:=by rw[ewm];exact qbN _ _ _
 go_enter Tryd.func7,Tryd.ntmps7
 go_wp2_with (first
  | (go_at_call 8; refine hOk.mono ?_; rintro e w1 ⟨rfl, hb1⟩
     rw[<- ewm] at hb1;have hmb1:Blk w1 w.heap.size #[.int .i64 (nf:Int),.slice A TT.length cap]:=hmb.mono (hb1.block _ (by omega));have hm0:w1.cell? ⟨w.heap.size,0,none⟩=some (.int .i64 (nf:Int)):=by rw[hmb1.cell];rfl
     have hm1:w1.cell? ⟨w.heap.size,1,none⟩=some (.slice A TT.length cap):=by rw[hmb1.cell];rfl
     have hmk:=qyv w1 nf hf)
  | go_in)
 go_loopw [16] (fun i wr=>∃ j:Nat,j<=nf/\i=.int .i64 j/\Mk w1 wr nf j) (fun i _=>nf-(intOf i).toNat)
 case atStart =>
  refine⟨0,Nat.zero_le _,rfl,⟨by simp,fun k hk=>qcv hk,qdA _ _ _,⟨_,qbN _ _ _,by simp,fun j hj=>absurd hj (Nat.not_lt_zero _)⟩,fun j hj=>absurd hj (Nat.not_lt_zero _)⟩⟩
 case round =>
  obtain⟨j,hj,rfl,hM⟩:=hrel;have hsz1:=hb1.size;have hm0r:wr.cell? ⟨w.heap.size,0,none⟩=some (.int .i64 (nf:Int)):=(World.cell?_of_block (a:=⟨w.heap.size,0,none⟩) (hM.block w.heap.size (by omega))).trans hm0;have hm1r:wr.cell? ⟨w.heap.size,1,none⟩=some (.slice A TT.length cap):=(World.cell?_of_block (a:=⟨w.heap.size,1,none⟩) (hM.block w.heap.size (by omega))).trans hm1;by_cases hjl:j<nf
  · have hjl2 : (j : Int) < (nf : Int) := by omega
    have hmk1:=qyw wr nf hf;obtain⟨c,o1,o2,o3⟩:=hM.outer;obtain⟨v,hv⟩:∃ v,c[j]?=some v:=⟨_,Array.getElem?_eq_getElem (by omega)⟩;have hcell:(wr.alloc (.cells (Array.replicate nf (.bool false)) 4)).cell? ⟨w1.heap.size,j,none⟩=some v:=by
     rw[(o1.mono (qcv (by have:=hM.size;omega))).cell];exact hv
    have hfr:(wr.alloc (.cells (Array.replicate nf (.bool false)) 4)).frozen? ⟨w1.heap.size,j,none⟩=false:=(o1.mono (qcv (by have:=hM.size;omega))).frozen _ rfl;have hstep:=hM.step hjl
    go_wp2
    go_roundw
    case rel=>exact⟨j+1,by omega,by simp,hstep⟩
    case measure=>simp [intOf];omega
  · have hje : j = nf := by omega
    subst hje;obtain⟨wq,ewq⟩:∃ x,x=wr:=⟨wr,rfl⟩;subst ewq;obtain⟨bi,ebi⟩:∃ bi:Nat->Nat,bi=fun k=>w1.heap.size+1+k:=⟨_,rfl⟩
    have hbwq:Bw w wq:=⟨by have:=hM.size;omega,fun k hk=>by rw[hM.block k (by omega),hb1.block k (by omega),hbm.block k hk],(hbm.calm.trans hb1.calm).trans hM.calm⟩
    have hinj:∀ a b,a<j->b<j->bi a=bi b->a=b:=fun a b _ _ h=>by rw[ebi] at h;dsimp only at h;omega
    have hbo:∀ a,a<j->bi a≠w1.heap.size:=fun a _=>by rw[ebi];dsimp only;omega
    have hbw:∀ a,a<j->w.heap.size<=bi a:=fun a _=>by rw[ebi];dsimp only;omega
    have hbr:∀ a,a<j->bi a<wq.heap.size:=fun a ha=>by rw[ebi,hM.size];dsimp only;omega
    have hbor:w1.heap.size<wq.heap.size:=by rw[hM.size];omega
    have hG0:Gd wq w1.heap.size bi j fun _ _=>false:=by
     obtain⟨c,o1,o2,o3⟩:=hM.outer;refine⟨fun a ha=>?_,fun a b ha hb=>?_,fun a b ha=>?_⟩
     · rw[o1.cell,o3 a ha,ebi]
     · have h := hM.inner a ha;rw[ebi];dsimp only;rw[h.cell];simp [hb]
     · have h := hM.inner a ha;rw[ebi];exact h.frozen _ rfl
    have hgm:=hbwq.gm bi j
    go_wp2
    go_loopw [29] (fun i2 wr2=>∃ (k:Nat) (g:Nat->Nat->Bool),k<=TT.length/\i2=.int .i64 k/\qn1 (j:Int) (TT.drop k) g=some g'/\Gd wr2 w1.heap.size bi j g/\Gm wq wr2 bi j) (fun i2 _=>TT.length-(intOf i2).toNat)
    case atStart=>exact⟨0,_,Nat.zero_le _,rfl,hF,hG0,Gm.refl _ _ _⟩
    case round =>
     obtain⟨k,g,hk,rfl,hFk,hGk,hgk⟩:=hrel;have hsz2:=hgk.size;by_cases hkl:k<TT.length
     · obtain ⟨bt, ot, Ai, ci, rfl, hbt, hct, hnd⟩ := hT k hkl;have hkl2:(k:Int)<(TT.length:Int):=by omega
       rw[List.drop_eq_getElem_cons hkl] at hFk;obtain⟨h,hF1,hF2⟩:∃ h,qlw (j:Int) TT[k] R0 0 [] g=some h/\qn1 (j:Int) (TT.drop (k+1)) h=some g':=by
        have hFk:(qlw (j:Int) TT[k] R0 0 [] g).bind (fun h=>qn1 (j:Int) (TT.drop (k+1)) h)=some g':=hFk;cases hq:qlw (j:Int) TT[k] R0 0 [] g with
        | none=>rw[hq] at hFk;cases hFk
        | some h=>rw[hq] at hFk;exact⟨h,rfl,hFk⟩
       have hgw:=hgm.trans hgk;have hne:∀ a,a<j->bi a≠bt:=fun a ha=>by have:=hbw a ha;omega
       have hct2:wr.cell? ⟨bt,ot+k,none⟩=some (.slice Ai TT[k].length ci):=(World.cell?_of_block (a:=⟨bt,ot+k,none⟩) (hgw.block bt hbt hne)).trans hct;have hcall:=qxb ci j hf hinj hbo R0 0 [] g h hF1 wr (.slice none 0 0) (fun f hf=>by cases hf) (by omega) (fun a ha=>by have:=hbr a ha;omega) ((hnd.up hbw).old hgw) hGk (.inl ⟨rfl,rfl⟩)
       go_wp2_with (first
        | (go_at_call 20;refine hcall.mono ?_;rintro e w3 ⟨rfl,hG3,hg3⟩)
        | go_in)
       go_roundw
       case rel=>exact⟨k+1,h,by omega,by simp,hF2,hG3,hgk.trans hg3⟩
       case measure=>simp [intOf];omega
     · have hke : k = TT.length := by omega
       subst hke;have hFe:g=g':=by
        rw[List.drop_length] at hFk;exact Option.some.inj hFk
       subst hFe
       go_wp2
       go_ret2
       refine⟨w1.heap.size,bi,rfl,by omega,by omega,fun a ha=>⟨hbw a ha,by have:=hbr a ha;omega⟩,hGk,?_⟩;have hgw:=hgm.trans hgk;exact⟨hgw.size,fun q hq=>hgw.block q hq (fun a ha=>by have:=hbw a ha;omega),hgw.os,hgw.output,hgw.fz⟩
theorem qwz (v:Value) (f:Int) (A:Option Addr) (nt cap:Nat) (hv:v=.agg #[.int .i64 f,.slice A nt cap]) (w:World)
  (hOk:Calls Tryd.prog 8 #[v] (w.alloc (.cells #[.int .i64 f,.slice A nt cap] 24)) fun e w'=>e=.returned (.bool false)/\Bw (w.alloc (.cells #[.int .i64 f,.slice A nt cap] 24)) w') :
  Calls Tryd.prog 7 #[v] w fun e w'=>e=.returned (.tuple #[.slice none 0 0,.int .i64 1])/\Bw w w':=by
 subst hv;have h0:=(Bw.refl w).alloc #[.int .i64 f,.slice A nt cap] 24
 go_enter Tryd.func7,Tryd.ntmps7
 go_wp2_with (first
  | (go_at_call 8;refine hOk.mono ?_;rintro e w1 ⟨rfl,hb1⟩)
  | go_in)
 go_ret2
 exact⟨rfl,by have:=h0.size;have:=hb1.size;omega,fun k hk=>by rw[hb1.block k (by have:=h0.size;omega),h0.block k hk],h0.calm.trans hb1.calm⟩
theorem qrI {w:World} {S:Foot} {n:NODE} {cs:List Value} (h:Cell w S qaY n cs):∃ (c2 c7 c8 c11:Bool) (A3 A4 A9 A10 A12 A13:Option Addr) (l3 p3 l4 p4 l9 p9 l10 p10 l12 p12 l13 p13:Nat),
  cs=[.bool n.1,.int .i64 n.2.1,.bool c2,.slice A3 l3 p3,.slice A4 l4 p4,.int .i64 n.2.2.2.1,.int .i64 n.2.2.2.2.1,.bool c7,.bool c8,.slice A9 l9 p9,.slice A10 l10 p10,.bool c11,.slice A12 l12 p12,.slice A13 l13 p13]:=by
 obtain⟨_,_,rfl,h1,_,_,rfl,h2,_,_,rfl,⟨_,_,rfl,⟨_,_,rfl,h3,A3,p3,h4,_⟩,A4,p4,h5,_⟩,_,_,rfl,h6,_,_,rfl,h7,_,_,rfl,h8,_,_,rfl,⟨_,_,rfl,⟨_,_,rfl,h9,A9,p9,h10,_⟩,A10,p10,h11,_⟩,⟨_,_,rfl,⟨_,_,rfl,h12,A12,p12,h13,_⟩,A13,p13,h14,_⟩⟩:=h;cases h1;cases h2;cases h3;cases h6;cases h7;cases h8;cases h9;cases h12;subst h4;subst h5;subst h10;subst h11;subst h13;subst h14;exact⟨_,_,_,_,_,_,_,_,_,_,_,_,_,_,_,_,_,_,_,_,_,_,rfl⟩
theorem Nd.of {w:World} {S:Foot} {A:Option Addr} {t:List NODE} (hS:∀ b,S b->b<w.heap.size) (h:RowA (Cell w S qaY) qaY.size w S A t):Nd w (fun _=>0) 0 A t:=by
 intro j hj;rcases h with h | ⟨bi,oi,rfl,hSi,hr⟩
 · rw[h] at hj;cases hj
 · obtain ⟨ds, hd, hat⟩ := hr j t[j] (List.getElem?_eq_getElem hj);obtain⟨c2,c7,c8,c11,A3,A4,A9,A10,A12,A13,l3,p3,l4,p4,l9,p9,l10,p10,l12,p12,l13,p13,rfl⟩:=qrI hd;have e:j*qaY.size=j*14:=rfl;rw[e] at hat;exact⟨bi,oi,c2,c7,c8,c11,A3,A4,A9,A10,A12,A13,l3,p3,l4,p4,l9,p9,l10,p10,l12,p12,l13,p13,rfl,hS bi hSi,fun i hi=>absurd hi (Nat.not_lt_zero _),hat 0 _ rfl,hat 1 _ rfl,hat 2 _ rfl,hat 3 _ rfl,hat 4 _ rfl,hat 5 _ rfl,hat 6 _ rfl,hat 7 _ rfl,hat 8 _ rfl,hat 9 _ rfl,hat 10 _ rfl,hat 11 _ rfl,hat 12 _ rfl,hat 13 _ rfl⟩
theorem qwx {T:Told} (hc:qam T Tryd.prog 8 c8):qam T Tryd.prog 7 c7:=by
 refine⟨⟨_,Tryd.func7,by kernel_rfl,by kernel_rfl⟩,?_,rfl⟩;intro x r hF w S J vs E;obtain⟨m,u0⟩:=x;have hF:qcJ m=some r:=hF;have hA:=E.args
 match vs,hA with
 | [v],⟨hv,_⟩ =>
 have hv:VRel w S qdC m v:=hv;obtain⟨cs,rfl,c1,c2,rfl,h1,A,cap,rfl,hcap,hrow⟩:=hv;cases h1;obtain⟨w0,ew0⟩:∃ w0,w0=w.alloc (.cells #[.int .i64 m.1,.slice A m.2.length cap] 24):=⟨_,rfl⟩;have hs0:w0.heap.size=w.heap.size+1:=by rw[ew0];simp
 have hb0:Bw w w0:=by rw[ew0];exact(Bw.refl w).alloc _ _
 have hSold:∀ b,S b->w0.heap[b]?=w.heap[b]?:=fun b hb=>hb0.block b (E.Slt b hb)
 have hcells:Cell w S qdC m ([.int .i64 m.1]++[.slice A m.2.length cap]):=⟨_,_,rfl,rfl,A,cap,rfl,hcap,hrow⟩;have hE0:qsr T w0 S (fun _=>none) c8.ps (m,()) [.agg #[.int .i64 m.1,.slice A m.2.length cap]] :=
  ⟨⟨⟨_,rfl,hcells.mono (fun _ h=>h) hSold⟩,trivial⟩,fun k b o h=>(by cases h),fun k k' b o o' h=>(by cases h),fun b hb=>by have:=E.Slt b hb;omega,T.hG w w0 (fun b hb=>hSold b (E.toldS b hb)) E.told,E.toldS⟩
 have call:∀ b,qcw m=some b->Calls Tryd.prog 8 #[.agg #[.int .i64 m.1,.slice A m.2.length cap]] w0 fun e w'=>e=.returned (.bool b)/\Bw w0 w':=fun b hb=>by
  have hd:qzK T Tryd.prog 8 c8:=hc.does;refine(hd (m,()) b hb w0 S (fun _=>none) _ hE0).mono ?_;intro e w' he
  match e,he with
  | .returned v,⟨S',ρ,L⟩ =>
   obtain⟨vs,rfl,hr⟩:=L.res
   match vs,hr with
   | [u], ⟨hu, _⟩ =>
     have hu:[u]=[Value.bool b]:=hu;injection hu with hu
     subst hu;exact⟨rfl,L.grow,fun k hk=>L.same k hk (fun k o h=>by cases h),L.calm⟩
 have told':∀ w',Bw w w'->T.G w':=fun w' h=>T.hG w w' (fun b hb=>h.block b (E.Slt b (E.toldS b hb))) E.told
 unfold qcJ at hF;cases hb:qcw m with
 | none=>rw[hb] at hF;cases hF
 | some ok =>
  rw[hb] at hF;have hF:(bif !ok then some ([],1) else _)=some r:=hF;have hOk:=call ok hb;cases ok with
  | false =>
   have hr:(([]:List (List Bool)),(1:Int))=r:=Option.some.inj hF;subst hr;rw[ew0] at hOk;refine(qwz _ m.1 A m.2.length cap rfl w hOk).mono ?_;rintro e w' ⟨rfl,hg⟩;refine⟨S,fun _=>none,⟨fun _ h=>h,fun b h=>.inl h,fun b hb=>by have:=E.Slt b hb;have:=hg.size;omega,fun b hb _=>hg.block b hb,hg.size,told' w' hg,hg.calm,trivial,⟨[.slice none 0 0,.int .i64 1],rfl,⟨none,0,rfl,Nat.le_refl _,.inl rfl⟩,rfl,trivial⟩,fun k k' b o o' h=>(by cases h),fun j b o h=>(by cases h),fun h=>Bool.noConfusion (show true=false from h)⟩⟩
  | true =>
   have hF:(bif _ then (qn1 m.1 m.2 fun _ _=>false).bind _ else none)=some r:=hF;obtain⟨hcond,hr⟩:=q8q hF;simp only[Bool.and_eq_true,decide_eq_true_eq] at hcond;obtain⟨c0,c1,c2⟩:=hcond;obtain⟨nf,hnf⟩:=Int.eq_ofNat_of_zero_le c0;rw[hnf,Int.toNat_natCast] at hr;cases hg':qn1 (nf:Int) m.2 fun _ _=>false with
   | none=>rw[hg'] at hr;cases hr
   | some g' =>
   rw[hg'] at hr;have hr:((List.range nf).map fun i=>(List.range nf).map fun k=>g' i k,(0:Int))=r:=Option.some.inj hr;have main:=qxV nf A cap m.2 w (by omega) (by omega) g' hg' (fun i hi=>by
     rcases hrow with h | ⟨bt,ot,rfl,hSt,hrw⟩
     · rw[h] at hi;cases hi
     · obtain ⟨ds, ⟨Ai, ci, rfl, hci, hri⟩, hat⟩ := hrw i m.2[i] (List.getElem?_eq_getElem hi);refine⟨bt,ot,Ai,ci,rfl,E.Slt bt hSt,?_,Nd.of E.Slt hri⟩;have:=hat 0 _ rfl;have e:ot+i*(Ty.sl qaY).size+0=ot+i:=by show ot+i*1+0=ot+i;omega
       rw[e] at this;exact this) (by rw[<- hnf,<- ew0];exact hOk)
   rw[<- hnf] at main;refine main.mono ?_;rintro e w' ⟨bo,bi,rfl,hb0,hb1,hbi,hG,hg⟩;subst hr;refine⟨fun b=>S b\/b=bo\/∃ i,i<nf/\b=bi i,fun _=>none,⟨fun _ h=>.inl h,fun b h=>?_,fun b h=>?_,fun b hb _=>hg.block b hb,hg.size,told' w' hg,hg.calm,trivial,⟨[.slice (some ⟨bo,0,none⟩) nf nf,.int .i64 0],rfl,⟨some ⟨bo,0,none⟩,nf,?_,?_,.inr ⟨bo,0,rfl,.inr (.inl rfl),fun i row hi=>?_⟩⟩,rfl,trivial⟩,fun k k' b o o' h=>(by cases h),fun j b o h=>(by cases h),fun h=>Bool.noConfusion (show true=false from h)⟩⟩
   · rcases h with h | rfl | ⟨i, hi, rfl⟩
     · exact .inl h
     · exact .inr (.inl hb0)
     · exact .inr (.inl (hbi i hi).1)
   · rcases h with h | rfl | ⟨i, hi, rfl⟩
     · have:=E.Slt b h;have:=hg.size;omega
     · exact hb1
     · exact(hbi i hi).2
   · show [Value.slice (some ⟨bo, 0, none⟩) nf nf] = [Value.slice (some ⟨bo, 0, none⟩) ((List.range nf).map _).length nf];rw[List.length_map,List.length_range]
   · show ((List.range nf).map _).length <= nf;rw[List.length_map,List.length_range];exact Nat.le_refl _
   · have hil : i < nf := by have := (List.getElem?_eq_some_iff.1 hi).1; simpa using this
     have hrow:row=(List.range nf).map fun k=>g' i k:=by
       rw[List.getElem?_map,List.getElem?_range hil] at hi;exact(Option.some.inj hi).symm
     subst hrow;refine⟨[.slice (some ⟨bi i,0,none⟩) nf nf],⟨some ⟨bi i,0,none⟩,nf,?_,?_,.inr ⟨bi i,0,rfl,.inr (.inr ⟨i,hil,rfl⟩),fun k b hk=>?_⟩⟩,fun j u hu=>?_⟩
     · rw[List.length_map,List.length_range]
     · rw[List.length_map,List.length_range];exact Nat.le_refl _
     · have hkl : k < nf := by have := (List.getElem?_eq_some_iff.1 hk).1; simpa using this
       rw[List.getElem?_map,List.getElem?_range hkl] at hk;refine⟨[.bool b],rfl,fun q u hq=>?_⟩
       match q,hq with
       | 0,hq =>
        have hq:some (Value.bool b)=some u:=hq;injection hq with hq
        subst hq;have e:0+k*Ty.bool.size+0=k:=by show 0+k*1+0=k;omega
        rw[e,hG.c i k hil hkl];exact congrArg (fun b=>some (Value.bool b)) (Option.some.inj hk)
     · match j, hu with
       | 0,hu =>
        have hu:some (Value.slice (some ⟨bi i,0,none⟩) nf nf)=some u:=hu;injection hu with hu
        subst hu;have e:0+i*(Ty.sl Ty.bool).size+0=i:=by show 0+i*1+0=i;omega
        rw[e,hG.o i hil]
end Go.Proofs.YtfoedjifcmfogaaDoor.X
