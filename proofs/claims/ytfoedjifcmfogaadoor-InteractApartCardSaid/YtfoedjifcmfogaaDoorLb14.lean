/- Own work: part of the proof; the first line of each part says what it tells. -/
import Derived.Test.YtfoedjifcmfogaaDoorLb7
import Derived.Test.YtfoedjifcmfogaaDoorLb13


namespace Go.Proofs.YtfoedjifcmfogaaDoor.X
open Go Go.RowKit
set_option linter.unusedVariables false
theorem quD (v:Value) (f:Int) (A:Option Addr) (nt cap:Nat) (hv:v=.agg #[.int .i64 f,.slice A nt cap]) (w:World)
  (hOk:Calls Tryd.prog 8 #[v] (w.alloc (.cells #[.int .i64 f,.slice A nt cap] 24)) fun e w'=>e=.returned (.bool false)/\Gw (w.alloc (.cells #[.int .i64 f,.slice A nt cap] 24)) w'/\Fz w w') :
  Calls Tryd.prog 26 #[v] w fun e w'=>e=.returned (.slice none 0 0)/\Gw w w'/\Fz w w':=by
 subst hv;have h0:Gw w (w.alloc (.cells #[.int .i64 f,.slice A nt cap] 24)):=⟨rfl,rfl,by simp,fun k hk=>(Below.refl w.heap.size w).alloc (Nat.le_refl _) _ |>.block k hk⟩
 go_enter Tryd.func26,Tryd.ntmps26
 go_wp2_with (first
  | (go_at_call 8;refine hOk.mono ?_;rintro e w1 ⟨rfl,hg1,hz1⟩)
  | go_in)
 go_ret
 exact⟨rfl,⟨by rw[hg1.os,h0.os],by rw[hg1.output,h0.output],by have:=h0.size;have:=hg1.size;omega,fun k hk=>by rw[hg1.block k (by have:=h0.size;omega),h0.block k hk]⟩,hz1⟩
theorem qtG {w:World} {S:Foot} {n:NODE} {cs:List Value} (h:Cell w S qaY n cs):∃ (c2 c7 c8 c11:Bool) (n5 n6:Int) (A3 A4 A9 A10 A12 A13:Option Addr) (l3 p3 l4 p4 l9 p9 l10 p10 l12 p12 l13 p13:Nat),
  cs=[.bool n.1,.int .i64 n.2.1,.bool c2,.slice A3 l3 p3,.slice A4 l4 p4,.int .i64 n5,.int .i64 n6,.bool c7,.bool c8,.slice A9 l9 p9,.slice A10 l10 p10,.bool c11,.slice A12 l12 p12,.slice A13 l13 p13]:=by
 obtain⟨_,_,rfl,h1,_,_,rfl,h2,_,_,rfl,⟨_,_,rfl,⟨_,_,rfl,h3,A3,p3,h4,_⟩,A4,p4,h5,_⟩,_,_,rfl,h6,_,_,rfl,h7,_,_,rfl,h8,_,_,rfl,⟨_,_,rfl,⟨_,_,rfl,h9,A9,p9,h10,_⟩,A10,p10,h11,_⟩,⟨_,_,rfl,⟨_,_,rfl,h12,A12,p12,h13,_⟩,A13,p13,h14,_⟩⟩:=h;cases h1;cases h2;cases h3;cases h6;cases h7;cases h8;cases h9;cases h12;subst h4;subst h5;subst h10;subst h11;subst h13;subst h14;exact⟨_,_,_,_,_,_,_,_,_,_,_,_,_,_,_,_,_,_,_,_,_,_,_,_,rfl⟩
theorem quC {T:Told} (hc:qam T Tryd.prog 8 c8):qam T Tryd.prog 26 c26:=by
 refine⟨⟨_,Tryd.func26,by kernel_rfl,by kernel_rfl⟩,?_,rfl⟩;intro x r hF w S J vs E;obtain⟨m,u0⟩:=x;have hF:qgo m=some r:=hF;have hA:=E.args
 match vs,hA with
 | [v],⟨hv,_⟩ =>
 have hv:VRel w S qdC m v:=hv;obtain⟨cs,rfl,c1,c2,rfl,h1,A,cap,rfl,hcap,hrow⟩:=hv;cases h1;obtain⟨w0,ew0⟩:∃ w0,w0=w.alloc (.cells #[.int .i64 m.1,.slice A m.2.length cap] 24):=⟨_,rfl⟩;have hs0:w0.heap.size=w.heap.size+1:=by rw[ew0];simp
 have hold:∀ b,b<w.heap.size->w0.heap[b]?=w.heap[b]?:=fun b hb=>by rw[ew0];exact(Below.refl w.heap.size w).alloc (Nat.le_refl _) _ |>.block b hb
 have hSold:∀ b,S b->w0.heap[b]?=w.heap[b]?:=fun b hb=>hold b (E.Slt b hb)
 have hcells:Cell w S qdC m ([.int .i64 m.1]++[.slice A m.2.length cap]):=⟨_,_,rfl,rfl,A,cap,rfl,hcap,hrow⟩;have hE0:qsr T w0 S (fun _=>none) c8.ps (m,()) [.agg #[.int .i64 m.1,.slice A m.2.length cap]] :=
  ⟨⟨⟨_,rfl,hcells.mono (fun _ h=>h) hSold⟩,trivial⟩,fun k b o h=>(by cases h),fun k k' b o o' h=>(by cases h),fun b hb=>by have:=E.Slt b hb;omega,T.hG w w0 (fun b hb=>hSold b (E.toldS b hb)) E.told,E.toldS⟩
 have hcalm0:Calm w w0:=by rw[ew0];exact qdA _ _ _
 have call:∀ b,qcw m=some b->Calls Tryd.prog 8 #[.agg #[.int .i64 m.1,.slice A m.2.length cap]] w0 fun e w'=>e=.returned (.bool b)/\Gw w0 w'/\Fz w w'/\T.G w':=fun b hb=>by
  have hd:qzK T Tryd.prog 8 c8:=hc.does;refine(hd (m,()) b hb w0 S (fun _=>none) _ hE0).mono ?_;intro e w' he
  match e,he with
  | .returned v,⟨S',ρ,L⟩ =>
   obtain⟨vs,rfl,hr⟩:=L.res
   match vs,hr with
   | [u], ⟨hu, _⟩ =>
     have hu:[u]=[Value.bool b]:=hu;injection hu with hu
     subst hu;exact⟨rfl,⟨L.calm.os,L.calm.out,L.grow,fun k hk=>L.same k hk (fun k o h=>by cases h)⟩,fun a=>by rw[L.calm.fr,hcalm0.fr],L.told⟩
 have told':∀ w',(∀ b,b<w.heap.size->w'.heap[b]?=w.heap[b]?)->T.G w':=fun w' h=>T.hG w w' (fun b hb=>h b (E.Slt b (E.toldS b hb))) E.told
 unfold qgo at hF;cases hb:qcw m with
 | none=>rw[hb] at hF;cases hF
 | some ok =>
  rw[hb] at hF;have hF:(bif !ok then some [] else _)=some r:=hF;have hOk:=call ok hb;cases ok with
  | false =>
   have hr:([]:List Bool)=r:=Option.some.inj hF;subst hr;rw[ew0] at hOk;refine(quD _ m.1 A m.2.length cap rfl w (hOk.mono fun e w' h=>⟨h.1,h.2.1,h.2.2.1⟩)).mono ?_;rintro e w' ⟨rfl,hg,hz⟩;refine⟨S,fun _=>none,⟨fun _ h=>h,fun b h=>.inl h,fun b hb=>by have:=E.Slt b hb;have:=hg.size;omega,fun b hb _=>hg.block b hb,hg.size,told' w' hg.block,⟨hg.os,hg.output,hz⟩,trivial,⟨[.slice none 0 0],rfl,⟨none,0,rfl,Nat.le_refl _,.inl rfl⟩,trivial⟩,fun k k' b o o' h=>(by cases h),fun j b o h=>(by cases h),fun h=>Bool.noConfusion (show true=false from h)⟩⟩
  | true =>
   have hF:(bif _ then some _ else none)=some r:=hF;obtain⟨hcond,hr⟩:=q8q hF;have hr:=Option.some.inj hr;simp only[Bool.and_eq_true,decide_eq_true_eq,List.all_eq_true,Bool.or_eq_true] at hcond;obtain⟨c0,c1,c2,c3⟩:=hcond;obtain⟨nf,hnf⟩:=Int.eq_ofNat_of_zero_le c0;obtain⟨TT,hTT⟩:∃ TT:List (List NF),TT=m.2.map fun t=>t.map fun n=>(n.1,n.2.1):=⟨_,rfl⟩
   have hTl:TT.length=m.2.length:=by rw[hTT];simp
   have hTi:∀ i (hi:i<TT.length),TT[i]=(m.2[i]'(by omega)).map fun n=>(n.1,n.2.1):=fun i hi=>by subst hTT;simp
   have main:=qwG (H:=Unit) nf A cap TT w (by omega) (fun t ht=>by
       rw[hTT] at ht;obtain⟨u,hu,rfl⟩:=List.mem_map.1 ht;have:=(c3 u hu).1;simpa using this) (by omega) (fun t ht n hn hl=>by
       rw[hTT] at ht;obtain⟨u,hu,rfl⟩:=List.mem_map.1 ht;obtain⟨nd,hnd,rfl⟩:=List.mem_map.1 hn;have:=(c3 u hu).2 nd hnd;rcases this with h | h
       · exact absurd (hl.symm.trans h) (by decide)
       · exact⟨h.1,by rw[<- hnf];exact h.2⟩) (fun i hi=>by
       have hi':i<m.2.length:=by omega
       rcases hrow with h | ⟨bt,ot,rfl,hSt,hrw⟩
       · rw[h] at hi';cases hi'
       obtain⟨ds,⟨Ai,ci,rfl,hci,hri⟩,hat⟩:=hrw i m.2[i] (List.getElem?_eq_getElem hi');refine⟨bt,ot,Ai,ci,rfl,E.Slt bt hSt,?_,fun j hj=>?_⟩
       · have := hat 0 _ rfl;rw[hTi i hi,List.length_map];have e:ot+i*(Ty.sl qaY).size+0=ot+i:=by show ot+i*1+0=ot+i;omega
         rw[e] at this;exact this
       · have hj' : j < m.2[i].length := by rw [hTi i hi, List.length_map] at hj; exact hj
         rcases hri with h | ⟨bi,oi,rfl,hSi,hrj⟩
         · rw[h] at hj';cases hj'
         obtain⟨ds,hd,hat2⟩:=hrj j m.2[i][j] (List.getElem?_eq_getElem hj');obtain⟨c2,c7,c8,c11,n5,n6,A3,A4,A9,A10,A12,A13,l3,p3,l4,p4,l9,p9,l10,p10,l12,p12,l13,p13,rfl⟩:=qtG hd;have e:j*qaY.size=j*14:=rfl;rw[e] at hat2;have et:TT[i][j]=(m.2[i][j].1,m.2[i][j].2.1):=by simp only[hTi i hi,List.getElem_map]
         rw[et];exact⟨bi,oi,c2,c7,c8,c11,n5,n6,A3,A4,A9,A10,A12,A13,l3,p3,l4,p4,l9,p9,l10,p10,l12,p12,l13,p13,rfl,E.Slt bi hSi,hat2 0 _ rfl,hat2 1 _ rfl,hat2 2 _ rfl,hat2 3 _ rfl,hat2 4 _ rfl,hat2 5 _ rfl,hat2 6 _ rfl,hat2 7 _ rfl,hat2 8 _ rfl,hat2 9 _ rfl,hat2 10 _ rfl,hat2 11 _ rfl,hat2 12 _ rfl,hat2 13 _ rfl⟩) (by
       rw[hTl,<- hnf,<- ew0];exact hOk.mono fun e w' h=>⟨h.1,h.2.1,h.2.2.1⟩)
   rw[hTl,<- hnf] at main;refine main.mono ?_;rintro e w' ⟨bo,rfl,hb0,hb1,hg,hz,hcell⟩;have hS':∀ b,S b->w'.heap[b]?=w.heap[b]?:=fun b hb=>hg.block b (E.Slt b hb)
   have hrl:r.length=nf:=by rw[<- hr];simp [hnf]
   refine⟨fun b=>S b\/b=bo,fun _=>none,⟨fun _ h=>.inl h,fun b h=>?_,fun b h=>?_,fun b hb _=>hg.block b hb,hg.size,told' w' hg.block,⟨hg.os,hg.output,hz⟩,trivial,⟨[.slice (some ⟨bo,0,none⟩) nf nf],rfl,⟨some ⟨bo,0,none⟩,nf,?_,?_,.inr ⟨bo,0,rfl,.inr rfl,fun j b hj=>?_⟩⟩,trivial⟩,fun k k' b o o' h=>(by cases h),fun j b o h=>(by cases h),fun h=>Bool.noConfusion (show true=false from h)⟩⟩
   · rcases h with h | rfl
     · exact .inl h
     · exact .inr (.inl hb0)
   · rcases h with h | rfl
     · have:=E.Slt b h;have:=hg.size;omega
     · exact hb1
   · show [Value.slice (some ⟨bo,0,none⟩) nf nf]=[Value.slice (some ⟨bo,0,none⟩) r.length nf];rw[hrl]
   · show r.length<=nf;omega
   · have hjl : j < nf := by
       have:=(List.getElem?_eq_some_iff.1 hj).1;omega
     refine⟨[.bool b],rfl,fun k u hk=>?_⟩
     match k,hk with
     | 0, hk =>
       have hk:some (Value.bool b)=some u:=hk;injection hk with hk
       subst hk;have e:0+j*Ty.bool.size+0=j:=by show 0+j*1+0=j;omega
       rw[e,hcell j hjl];congr 2;rw[<- hr] at hj;simp only[List.getElem?_map,List.getElem?_range (show j<m.1.toNat by omega),Option.map_some,Option.some.injEq] at hj;rw[<- hj,hTT];rw[Bool.eq_iff_iff];simp only[decide_eq_true_eq,qiC,List.mem_filterMap,List.any_eq_true,Bool.and_eq_true,Bool.not_eq_true'];constructor
       · rintro ⟨nd, h1, h2⟩;obtain⟨t,ht,hnd⟩:=List.mem_flatten.1 h1;obtain⟨u,hu,rfl⟩:=List.mem_map.1 ht;obtain⟨q,hq,rfl⟩:=List.mem_map.1 hnd;refine⟨u,hu,q,hq,?_⟩;cases hl:q.1 with
         | true=>simp only[hl] at h2;cases h2
         | false=>simp only[hl] at h2;exact⟨rfl,by simpa using h2⟩
       · rintro ⟨t, ht, q, hq, h1, h2⟩;refine⟨(q.1,q.2.1),List.mem_flatten.2 ⟨_,List.mem_map.2 ⟨t,ht,rfl⟩,List.mem_map.2 ⟨q,hq,rfl⟩⟩,?_⟩;simp only[h1];simpa using h2
end Go.Proofs.YtfoedjifcmfogaaDoor.X
