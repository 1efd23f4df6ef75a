/- Own work: part of the proof; the first line of each part says what it tells. -/
import Derived.Test.YtfoedjifcmfogaaDoorLb1


namespace Go.Proofs.YtfoedjifcmfogaaDoor.X
open Go
set_option linter.unusedVariables false
set_option linter.unusedSimpArgs false
variable {T:Told} {P:Program} {tb:Tb} {R:Type}
theorem qsw {B:Base} {w:World} {S:Foot} {J:Con} {s:St} {a:Act} (Rl:Rel T B w S J s a) {O:Nat->List Nat} (D:Deep w S J (get s.h) B.w0.heap.size B.Mo B.LT O) {k i j off:Nat} {e:Ty} {xs:List (Ty.os e).den} (hk:get s.h k=some (.rows (.os e) xs .own)) {ys:List e.den} (hx:xs[i]?=some (some ys)) {v:Value} (hv:qac w S J (get s.h) (.vp k i j off) v) {y:e.den} (hy:ys[j]?=some y) :
   e.flat=true/\∃ b bi c,J k=some (b,0)/\bi∈O k/\v=.pointer (some ⟨bi,j*e.size+off,none⟩)/\Blk w bi c/\ys.length*e.size<=c.size/\qdG (Cell w S e) e.size w bi 0 ys/\∃ o cap,w.cell? ⟨b,0+i,none⟩=some (.slice (some ⟨bi,o,none⟩) ys.length cap):=by
 simp only[qac,hk] at hv;obtain⟨e',b,o,bi,x,len,cap,he,h1,hb,hc,hj,rfl⟩:=hv;injection he with he
 subst he;have h0:=Rl.obs k _ hk;simp only[ORel,hb] at h0;obtain⟨_,_,_,_,ho⟩:=h0;have ho:=ho trivial;subst ho;obtain⟨g1,g2⟩:=qlN D hk hb hx hc;have hjl:j<ys.length:=(List.getElem?_eq_some_iff.1 hy).1;rcases g2 with ⟨rfl,_⟩ | ⟨bi',o',cap',c,q0,q1,q2,q3,q4,q5,q6⟩
 · simp at hjl
 · injection q1 with q1 q7 q8
   injection q1 with q1
   injection q1 with q1 q9
   subst q1;subst q9;have:x=0:=q3.resolve_left (by omega);subst this;exact⟨g1,b,bi,c,hb,q0,by simp,q4,Nat.le_trans (Nat.mul_le_mul_right _ q2) q5,q6,0,cap,by rw[hc,q7]⟩
theorem qtn (hT:TbOk P tb) {hp:Hp} {k i j off:Nat} {e:Ty} {xs:List (Ty.os e).den} (hk:hp k=some (.rows (.os e) xs .own)) {ys:List e.den} (hx:xs[i]?=some (some ys)) {y:e.den} (hy:ys[j]?=some y) {T':TypeId} {t':Ty} (ht:tb.ty T'=some t') {z:t'.den} (hz:t'.getAt e y off=some z)
  {B:Base} {w:World} {S:Foot} {J:Con} {s:St} {a:Act} (Rl:Rel T B w S J s a) (hs:Sub hp s) {u:Value} (hu:TRel w S J (get s.h) (.vp k i j off) u) :
  ∃ v,(Instr.loadAt T' u).run P w=.ok v w/\TRel w S J (get s.h) (toPV t' z) v:=by
 obtain⟨O,D⟩:=Rl.deep;obtain⟨_,b,bi,c,_,_,rfl,_,_,hr,_⟩:=qsw Rl D (hs k _ hk) hx hu hy;obtain⟨ds,d1,d2⟩:=hr j y hy;obtain⟨e1,e2⟩:=qlH hz d1;rw[Nat.zero_add] at d2;exact⟨_,qb8 (hT.ty ht) w bi (j*e.size+off) _ e1.length d2.part,(qrp e1).up⟩
theorem qtm (hT:TbOk P tb) {hp:Hp} {k i:Nat} {e:Ty} {xs:List (Ty.os e).den} (hk:hp k=some (.rows (.os e) xs .own)) {x:(Ty.os e).den} (hx:xs[i]?=some x) {T':TypeId} (ht:tb.ty T'=some (.sl e))
  {B:Base} {w:World} {S:Foot} {J:Con} {s:St} {a:Act} (Rl:Rel T B w S J s a) (hs:Sub hp s) {u:Value} (hu:TRel w S J (get s.h) (.ptr k i 0) u) :
  ∃ v,(Instr.loadAt T' u).run P w=.ok v w/\TRel w S J (get s.h) (.vw k i) v:=by
 have hk':=hs k _ hk;have hu0:qac w S J (get s.h) (.ptr k i 0) u:=hu;simp only[qac,hk'] at hu0;obtain⟨b,o,hb,rfl⟩:=hu0;have h0:=Rl.obs k _ hk';simp only[ORel,hb] at h0;obtain⟨_,hr,_⟩:=h0;obtain⟨ds,d1,d2⟩:=hr i x hx;have hc:=d1;obtain⟨v,rfl,hv1⟩:=d1;have hrun:=qb8 (hT.ty ht) w b (o+i*(Ty.os e).size) [v] rfl d2;simp only[Ty.size,Nat.mul_one,Ob.sz,Nat.add_zero] at hrun ⊢;refine⟨v,by simpa [vOf,Ty.isAgg] using hrun,?_⟩;have hu1:=d2 0 v rfl;simp only[Ty.size,Nat.mul_one,Nat.add_zero] at hu1;have:qac w S J (get s.h) (.vw k i) v:=by
  simp only[qac,hk'];exact⟨e,b,o,rfl,(List.getElem?_eq_some_iff.1 hx).1,hb,hu1,Cell.one hc v (by simp)⟩
 exact this.up
section
variable {B:Base} {w:World} {S:Foot} {J:Con} {s:St} {a:Act}
theorem Rel.inset (Rl:Rel T B w S J s a) {O:Nat->List Nat} (D:Deep w S J (get s.h) B.w0.heap.size B.Mo B.LT O) {k i j:Nat} {e:Ty} {xs:List (Ty.os e).den} (hk:get s.h k=some (.rows (.os e) xs .own)) {ys:List e.den} (hx:xs[i]?=some (some ys)) {b bi o cap:Nat} (hb:J k=some (b,0)) (hbi:bi∈O k)
   (hcell:w.cell? ⟨b,0+i,none⟩=some (.slice (some ⟨bi,o,none⟩) ys.length cap)) {y z:e.den} (hy:ys[j]?=some y) {off:Nat} {vs:List Value} (hoff:off+vs.length<=e.size)
   (hz:∀ ds,Cell w S e y ds->Cell w S e z (ds.take off++vs++ds.drop (off+vs.length))) :
   ∃ c,Blk w bi c/\j*e.size+off+vs.length<=c.size/\Rel T B (w.setRow bi (qaP c (j*e.size+off) vs)) S J ⟨s.e,(k,.rows (.os e) (xs.set i (some (ys.set j z))) .own)::s.h⟩ a:=by
 obtain⟨hfl,h2⟩:=qlN D hk hb hx hcell;have hjl:j<ys.length:=(List.getElem?_eq_some_iff.1 hy).1;have hil:i<xs.length:=(List.getElem?_eq_some_iff.1 hx).1;rcases h2 with ⟨rfl,_⟩ | ⟨bi',o',cap',c,q0,q1,q2,q3,q4,q5,q6⟩
 · simp at hjl
 injection q1 with q1 q7 q8
 injection q1 with q1
 injection q1 with q1 q9
 subst q1;subst q9;subst q8;have hsz:ys.length*e.size<=c.size:=Nat.le_trans (Nat.mul_le_mul_right _ q2) q5;have him:=Nat.mul_le_mul_right e.size (show j+1<=ys.length from hjl);rw[Nat.add_mul,Nat.one_mul] at him;have hf2:j*e.size+off+vs.length<=c.size:=by omega
 obtain⟨a1,a2,a3,a4,a5⟩:=D.off k bi hbi;have hc':Blk (w.setRow bi (qaP c (j*e.size+off) vs)) bi (qaP c (j*e.size+off) vs):=qdv q4;have hrow:=qlY (z:=z) q4 a1 q6 (by simpa using hsz) hy hoff hz;simp only[Nat.zero_add] at hrow;have kw:∀ k',k'∈qab [(k,Ob.rows (.os e) (xs.set i (some (ys.set j z))) .own)]->k'=k:=fun k' h=>by simpa [qab] using h
 have hg0:get ([(k,Ob.rows (.os e) (xs.set i (some (ys.set j z))) .own)]++s.h) k=some (.rows (.os e) (xs.set i (some (ys.set j z))) .own):=by simp [q6q]
 have hne:∀ k' ob b' o',get s.h k'=some ob->ob.live=true->J k'=some (b',o')->b'≠bi:=fun k' ob b' o' h1 h2 h3 e=>a4 k' ob o' h1 h2 (by rw[<- e];exact h3)
 have hbb:b≠bi:=hne k _ b 0 hk rfl hb;have h0:=Rl.obs k _ hk;simp only[ORel,hb] at h0;obtain⟨⟨c0,hc0,hs0⟩,hr0,_,hl0,_⟩:=h0;have hoth:∀ b',b'≠bi->(w.setRow bi (qaP c (j*e.size+off) vs)).heap[b']?=w.heap[b']?:=fun b' h=>setRow_other w bi b' _ h
 refine⟨c,q4,hf2,?_⟩;refine(Rl.genDE D (w':=w.setRow bi (qaP c (j*e.size+off) vs)) (S':=S) (J':=J) (qgW q4) [(k,.rows (.os e) (xs.set i (some (ys.set j z))) .own)] (fun b'=>b'=bi) (fun b' _ h=>hoth b' h) (by simp) ?_ (fun _ _ _ _=>rfl) (fun _ h=>h) (fun _ h=>.inl h) (fun b' h=>by simpa using Rl.Slt b' h) ?_ ?_ ?_ ?_ ?_ ?_ ?_ ?_ ?_).1
 · rintro b' rfl;exact .inr ⟨k,by simp [qab],hbi⟩
 · intro k' ob b2 o2 h _ hl2 hb2;exact(Rl.liveS h hl2 hb2).1
 · intro k' ob hm hk' E;have:=kw k' hm;subst this;rw[hg0] at hk';injection hk' with hk';subst hk'
   simp only[ORel,hb];refine⟨⟨c0,hc0.mono (hoth b hbb),by simpa using hs0⟩,fun m x hm'=>?_,by simp,fun _=>hl0 (by simp),fun _=>trivial⟩;have hcc:∃ x0 ds,xs[m]?=some x0/\Cell w S (.os e) x0 ds/\At w b (0+m*(Ty.os e).size) ds:=by
     rcases qdN hm' with ⟨rfl,_,_⟩ | ⟨_,h⟩
     · obtain⟨ds,d1,d2⟩:=hr0 _ _ hx;exact⟨_,ds,hx,d1,d2⟩
     · obtain⟨ds,d1,d2⟩:=hr0 _ _ h;exact⟨_,ds,h,d1,d2⟩
   obtain⟨x0,ds,_,⟨v,e1,e2⟩,d2⟩:=hcc;exact⟨ds,⟨v,e1,e2⟩,d2.mono (hoth b hbb)⟩
 · intro k' ob hm h;have:=kw k' hm;subst this;rw[hk] at h;injection h with h;subst h
   exact⟨_,hg0,rfl,by simp,rfl,fun hm'=>⟨hm',fun b2 o2 c2 hb2 hc2=>⟨c2,hc2.mono (hoth b2 (hne _ _ b2 o2 hk rfl hb2)),rfl⟩⟩,fun _ b2 o2 hb2=>hoth b2 (hne _ _ b2 o2 hk rfl hb2)⟩
 · intro k1 k2 ob1 ob2 b1 o1 o2 hm hk1 hl1 hk2 hl2 hb1 hb2;have:=kw k1 hm;subst this;by_cases e':k2=k1
   · exact e'.symm
   · have hk2' : get s.h k2 = some ob2 := by
       have:get ([(k1,Ob.rows (.os e) (xs.set i (some (ys.set j z))) .own)]++s.h) k2=get s.h k2:=by simp [q6q,Ne.symm e']
       rw[this] at hk2;exact hk2
     exact Rl.inj k1 k2 _ ob2 b1 o1 o2 hk rfl hk2' hl2 hb1 hb2
 · rintro k2 b2 o2 n2 hL rfl;exact absurd hL (a5 k2 o2 n2)
 · intro k' t xs' hm h;have:=kw k' hm;subst this;rw[hg0] at h;cases h
 · intro k' ob2 b2 o2 hm h hl2 hnl hb2;have:=kw k' hm;subst this;exact Rl.sep k' _ b2 o2 hk rfl (by simp) hb2
 · intro k' l hm h;have:=kw k' hm;subst this;rw[hg0] at h;cases h
 · intro E hblk;obtain⟨Fs,f1,f2,f3,f4⟩:=(D.row k _ xs b 0 hk hb).resolve_left (by simp [Ty.flat]);obtain⟨F,hF⟩:∃ F,Fs[i]?=some F:=⟨_,List.getElem?_eq_getElem (by omega)⟩;refine D.gen3 [(k,.rows (.os e) (xs.set i (some (ys.set j z))) .own)] (fun b'=>b'=bi) O (fun b' _ h=>hoth b' h) (by simp) ?_ (fun _ _ _ _=>rfl) E hblk (fun b h=>.inl h) ?_ ?_ ?_ ?_
   · rintro b' rfl;exact .inr ⟨k,by simp [qab],hbi⟩
   · intro k' ob2 b2 o2 hm h hl2 hb2;have:=kw k' hm;subst this;exact .inl ⟨k',_,o2,hk,rfl,hb2⟩
   · intro k' t xs' b2 o2 hm h hb2;have:=kw k' hm;subst this;rw[hg0] at h;injection h with h
     injection h with g1 g2 _
     subst g1;have g2:=eq_of_heq g2;subst g2;rw[hb] at hb2;injection hb2 with hb2
     injection hb2 with hb2 _
     subst hb2;refine .inr ⟨Fs,by simp [f1],f2,f3,fun m x Fm hm' hFm=>?_⟩;rcases qdN hm' with ⟨rfl,rfl,_⟩ | ⟨hmi,hm'⟩
     · obtain ⟨ds, d1, d2, d3⟩ := f4 _ _ Fm hx hFm;refine⟨ds,d1,d2.mono (hoth b hbb),?_⟩;obtain⟨g0,v,rfl,g1⟩:=d3;refine⟨g0,v,rfl,.inr ?_⟩;have hv:=d2 0 v rfl;simp only[Ty.size,Nat.mul_one,Nat.add_zero] at hv;rw[Nat.zero_add,hv] at hcell;injection hcell with hcell
       subst hcell;rcases g1 with ⟨g2,g3,_⟩ | ⟨bj,oj,capj,cj,g2,g3,_⟩
       · cases g3
       · injection g3 with g3 _ g5
         injection g3 with g3
         injection g3 with g3 g4
         subst g3;subst g4;subst g5;exact⟨bi,o,cap,_,g2,by rw[List.length_set],by rw[List.length_set];exact q2,q3,hc',by rw[qbo hf2];exact q5,hrow⟩
     · obtain ⟨ds, d1, d2, d3⟩ := f4 m x Fm hm' hFm;refine⟨ds,d1,d2.mono (hoth b hbb),d3.mono (fun _ h=>h) E.keep fun b' hb'=>hoth b' fun e'=>?_⟩;subst e';have hFi:b'∈F:=by
         obtain⟨ds',d1',d2',d3'⟩:=f4 i _ F hx hF;obtain⟨_,v',rfl,g1⟩:=d3';have hv:=d2' 0 v' rfl;simp only[Ty.size,Nat.mul_one,Nat.add_zero] at hv;rw[Nat.zero_add,hv] at hcell;injection hcell with hcell
         subst hcell;rcases g1 with ⟨_,g3,_⟩ | ⟨bj,oj,capj,cj,g2,g3,_⟩
         · cases g3
         · injection g3 with g3 _ _
           injection g3 with g3
           injection g3 with g3 _
           subst g3;rw[g2];simp
       exact qpt f2 hF hFm hmi hFi hb'
   · intro k' b2 hm hb2;have:=kw k' hm;subst this;obtain⟨p1,p2,p3,p4,p5⟩:=D.off k' b2 hb2;refine⟨⟨p1,p2,by simpa using p3,fun k2 ob o2 hk2 hl2 hb3=>?_,p5⟩,fun k2 hk2 hm2=>hk2 ?_⟩
     · by_cases e' : k2 = k'
       · subst e';exact p4 k2 _ o2 hk rfl hb3
       · have hk2' : get s.h k2 = some ob := by
           have:get ([(k',Ob.rows (.os e) (xs.set i (some (ys.set j z))) .own)]++s.h) k2=get s.h k2:=by simp [q6q,Ne.symm e']
           rw[this] at hk2;exact hk2
         exact p4 k2 ob o2 hk2' hl2 hb3
     · rw[<- D.one k' k2 b2 hb2 hm2];exact hm
   · intro k1 k2 b2 _ _ h1 h2;exact D.one k1 k2 b2 h1 h2
theorem qr7 {Fs:List (List Nat)} {i:Nat} {F:List Nat} (hi:Fs[i]?=some []) (hn:Fs.flatten.Nodup) (hF:F.Nodup) (hd:∀ b∈F,b ∉ Fs.flatten):(Fs.set i F).flatten.Nodup/\∀ b∈(Fs.set i F).flatten,b∈F\/b∈Fs.flatten:=by
 induction Fs generalizing i with
 | nil=>simp at hi
 | cons G Fs ih =>
  rw[List.flatten_cons] at hn;obtain⟨n1,n2,n3⟩:=List.nodup_append.1 hn;cases i with
  | zero =>
   simp only[List.getElem?_cons_zero,Option.some.injEq] at hi;subst hi;rw[List.set_cons_zero,List.flatten_cons];refine⟨List.nodup_append.2 ⟨hF,n2,fun x hx y hy e=>hd x hx (by rw[List.flatten_cons];exact List.mem_append.2 (.inr (e ▸ hy)))⟩,fun b hb=>?_⟩
   rcases List.mem_append.1 hb with hb | hb
   · exact .inl hb
   · exact .inr (by rw[List.flatten_cons];exact List.mem_append.2 (.inr hb))
  | succ i =>
   obtain⟨a1,a2⟩:=ih (by simpa using hi) n2 (fun b hb hm=>hd b hb (by rw[List.flatten_cons];exact List.mem_append.2 (.inr hm)))
   rw[List.set_cons_succ,List.flatten_cons,List.flatten_cons];refine⟨List.nodup_append.2 ⟨n1,a1,fun x hx y hy e=>?_⟩,fun b hb=>?_⟩
   · rcases a2 y hy with h | h
     · exact hd y h (by rw[List.flatten_cons];exact List.mem_append.2 (.inl (e ▸ hx)))
     · exact n3 x hx y h e
   · rcases List.mem_append.1 hb with hb | hb
     · exact .inr (List.mem_append.2 (.inl hb))
     · exact(a2 b hb).imp id fun h=>List.mem_append.2 (.inr h)
theorem Rel.close (Rl:Rel T B w S J s a) {k g i:Nat} {e:Ty} {xs:List (Ty.os e).den} {zs:List e.den} (hk:get s.h k=some (.rows (.os e) xs .own)) (hx:xs[i]?=some none) (hg:get s.h g=some (.rows e zs .own)) (hfl:e.flat=true) {b:Nat} (hb:J k=some (b,0)) {u:Value}
   (hu:w.cell? ⟨b,0+i,none⟩=some u) (hz:qac w S J (get s.h) (.osl g 0 none) u):Rel T B w S J ⟨s.e,[(k,.rows (.os e) (xs.set i (some zs)) .own),(g,.gone)]++s.h⟩ a:=by
 obtain⟨O,D⟩:=Rl.deep;have hil:i<xs.length:=(List.getElem?_eq_some_iff.1 hx).1;have hkg:k≠g:=by
   rintro rfl;rw[hk] at hg;injection hg with hg
   injection hg with hg
   have:=congrArg Ty.flat hg;rw[hfl] at this;cases this
 have h0:=Rl.obs k _ hk;simp only[ORel,hb] at h0;obtain⟨⟨c0,hc0,hs0⟩,hr0,_,hl0,_⟩:=h0;have hin:∃ F:List Nat,F.Nodup/\qiL w S B.w0.heap.size (.os e) (some zs) [u] F/\∀ bi∈F,∃ o,J g=some (bi,o):=by
   simp only[qac,hg] at hz;obtain⟨_,hz⟩:=hz;unfold OslV at hz;have hgo:=Rl.obs g _ hg;simp only[ORel] at hgo;cases hβ:J g with
   | none =>
     rw[hβ] at hz hgo;obtain⟨_,_,rfl⟩:=hz;exact⟨[],List.nodup_nil,⟨hfl,_,rfl,.inl ⟨hgo,rfl,rfl⟩⟩,by simp⟩
   | some p =>
     obtain⟨bi,o⟩:=p;rw[hβ] at hz hgo;obtain⟨x,cap,rfl,q1,q2,q3⟩:=hz;obtain⟨_,hrow,_,_,ho⟩:=hgo;have ho:=ho trivial;subst ho;obtain⟨c,q4,q5⟩:=q3 rfl;refine⟨[bi],by simp,⟨hfl,_,rfl,.inr ⟨bi,x,cap,c,rfl,by simp [wlen],by simpa [wlen] using q1,by simpa using q2,q4,by simpa using q5,hrow⟩⟩,fun b' hb'=>⟨0,by simp at hb';rw[hb']⟩⟩
 obtain⟨F,F1,F2,F3⟩:=hin;have kw:∀ k',k'∈qab [(k,Ob.rows (.os e) (xs.set i (some zs)) .own),(g,.gone)] ↔ k'=k\/k'=g:=fun k'=>by simp [qab]
 have gk:get ([(k,Ob.rows (.os e) (xs.set i (some zs)) .own),(g,.gone)]++s.h) k=some (.rows (.os e) (xs.set i (some zs)) .own):=by simp [q6q]
 have gg:get ([(k,Ob.rows (.os e) (xs.set i (some zs)) .own),(g,.gone)]++s.h) g=some .gone:=by simp [q6q,hkg]
 have go:∀ k',k'≠k->k'≠g->get ([(k,Ob.rows (.os e) (xs.set i (some zs)) .own),(g,.gone)]++s.h) k'=get s.h k':=fun k' h1 h2=>by simp [q6q,Ne.symm h1,Ne.symm h2]
 have old:∀ k' ob,get ([(k,Ob.rows (.os e) (xs.set i (some zs)) .own),(g,.gone)]++s.h) k'=some ob->ob.live=true->k'≠g/\∃ ob0,get s.h k'=some ob0/\ob0.live=true:=fun k' ob h hl=>by
   by_cases e1:k'=k
   · subst e1;exact⟨hkg,_,hk,rfl⟩
   · by_cases e2 : k' = g
     · subst e2;rw[gg] at h;injection h with h;subst h;cases hl
     · rw[go k' e1 e2] at h;exact⟨e2,ob,h,hl⟩
 refine Rl.genD (w':=w) (S':=S) (J':=J) (Calm.refl w) [(k,.rows (.os e) (xs.set i (some zs)) .own),(g,.gone)] (fun _=>False) (fun _ _ _=>rfl) (Nat.le_refl _) (fun _ h=>h.elim) (fun _ _ _ _=>rfl) (fun _ h=>h) (fun _ h=>.inl h) Rl.Slt ?_ ?_ ?_ ?_ (fun _ _ _ _ _ h=>h.elim) ?_ ?_ ?_ ?_
 · intro k' ob b2 o2 h _ hl2 hb2;exact(Rl.liveS h hl2 hb2).1
 · intro k' ob hm hk' E;rcases(kw k').1 hm with rfl | rfl
   · rw [gk] at hk'; injection hk' with hk'; subst hk'
     simp only[ORel,hb];refine⟨⟨c0,hc0,by simpa using hs0⟩,fun m x hm'=>?_,by simp,fun _=>hl0 (by simp),fun _=>trivial⟩;have hcc:∃ x0 ds,Cell w S (.os e) x0 ds/\At w b (0+m*(Ty.os e).size) ds:=by
       rcases qdN hm' with ⟨rfl,_,_⟩ | ⟨_,h⟩
       · obtain⟨ds,d1,d2⟩:=hr0 _ _ hx;exact⟨_,ds,d1,d2⟩
       · obtain⟨ds,d1,d2⟩:=hr0 _ _ h;exact⟨_,ds,d1,d2⟩
     obtain⟨x0,ds,⟨v,e1,e2⟩,d2⟩:=hcc;exact⟨ds,⟨v,e1,e2⟩,d2⟩
   · rw[gg] at hk';injection hk' with hk';subst hk';trivial
 · intro k' ob hm h;rcases(kw k').1 hm with rfl | rfl
   · rw [hk] at h; injection h with h; subst h
     exact⟨_,gk,rfl,by simp,rfl,fun hm'=>⟨hm',fun b2 o2 c2 hb2 hc2=>⟨c2,hc2,rfl⟩⟩,fun _ _ _ _=>rfl⟩
   · exact⟨_,gg,by cases ob<;>trivial⟩
 · intro k1 k2 ob1 ob2 b1 o1 o2 hm hk1 hl1 hk2 hl2 hb1 hb2;obtain⟨_,ob3,h3,h4⟩:=old k1 ob1 hk1 hl1;obtain⟨_,ob5,h5,h6⟩:=old k2 ob2 hk2 hl2;exact Rl.inj k1 k2 ob3 ob5 b1 o1 o2 h3 h4 h5 h6 hb1 hb2
 · intro k' t xs' hm h;rcases(kw k').1 hm with rfl | rfl
   · rw[gk] at h;cases h
   · rw[gg] at h;cases h
 · intro k' ob2 b2 o2 hm h hl2 hnl hb2;rcases(kw k').1 hm with rfl | rfl
   · exact Rl.sep k' _ b2 o2 hk rfl (by simp) hb2
   · rw[gg] at h;injection h with h;subst h;cases hl2
 · intro k' l hm h;rcases(kw k').1 hm with rfl | rfl
   · rw[gk] at h;cases h
   · rw[gg] at h;cases h
 · intro O0 _ E hblk;obtain⟨Fs,f1,f2,f3,f4⟩:=(D.row k _ xs b 0 hk hb).resolve_left (by simp [Ty.flat]);obtain⟨F0,hF0⟩:∃ F0,Fs[i]?=some F0:=⟨_,List.getElem?_eq_getElem (by omega)⟩;obtain⟨ds,d1,d2,d3⟩:=f4 i _ F0 hx hF0;have d3:F0=[]:=d3;subst d3;have hFφ:∀ bi∈F,∀ k',bi ∉ O k':=fun bi hbi k' hm=>by
     obtain⟨o,ho⟩:=F3 bi hbi;exact(D.off k' bi hm).2.2.2.1 g _ o hg rfl ho
   obtain⟨p1,p2⟩:=qr7 hF0 f2 F1 (fun bi hbi hm=>hFφ bi hbi k (f3 bi hm));refine D.gen2 [(k,.rows (.os e) (xs.set i (some zs)) .own),(g,.gone)] (fun _=>False) (fun n=>if n=k then F++O k else []) (fun _ _ _=>rfl) (Nat.le_refl _) (fun _ h=>h.elim) (fun _ _ _ _=>rfl) E hblk (fun b h=>.inl h) ?_ ?_ ?_ ?_
   · intro k' ob2 b2 o2 hm h hl2 hb2;obtain⟨_,ob0,q1,q2⟩:=old k' ob2 h hl2;exact .inl ⟨k',ob0,o2,q1,q2,hb2⟩
   · intro k' t xs' b2 o2 hm h hb2;rcases(kw k').1 hm with rfl | rfl
     · rw [gk] at h;injection h with h
       injection h with q1 q2 _
       subst q1;have q2:=eq_of_heq q2;subst q2;rw[hb] at hb2;injection hb2 with hb2
       injection hb2 with hb2 _
       subst hb2;simp only[if_true];refine .inr ⟨Fs.set i F,by simp [f1],p1,fun b hb=>List.mem_append.2 ((p2 b hb).imp id (f3 b)),fun m x Fm hm' hFm=>?_⟩;rcases qdN hm' with ⟨rfl,rfl,_⟩ | ⟨hmi,hm'⟩
       · rw [List.getElem?_set_self (by omega)] at hFm;injection hFm with hFm
         subst hFm;refine⟨[u],rfl,fun j v hv=>?_,F2⟩;cases j with
         | zero =>
           simp only[List.getElem?_cons_zero,Option.some.injEq] at hv;subst hv;simp only[Ty.size,Nat.mul_one,Nat.add_zero];rw[Nat.zero_add] at hu;exact hu
         | succ j=>simp at hv
       · rw [List.getElem?_set_ne hmi] at hFm;exact f4 m x Fm hm' hFm
     · rw[gg] at h;cases h
   · intro k' b2 hm hb2;by_cases e1:k'=k
     · subst e1;simp only[if_true] at hb2;rcases List.mem_append.1 hb2 with hb2 | hb2
       · obtain ⟨o, ho⟩ := F3 b2 hb2;obtain⟨c,hc⟩:=Rl.blk hg (by simp) ho;obtain⟨q1,q2⟩:=Rl.liveS hg rfl ho;refine⟨⟨q1,q2,hc.lt,fun k2 ob2 o2 h2 hl2 hb3=>?_,fun k2 o2 n=>Rl.sep g _ b2 o hg rfl (by simp) ho k2 o2 n⟩,fun k2 _=>hFφ b2 hb2 k2⟩;obtain⟨q3,ob0,q4,q5⟩:=old k2 ob2 h2 hl2;exact q3 (Rl.inj k2 g ob0 _ b2 o2 o q4 q5 hg rfl hb3 ho)
       · obtain ⟨q1, q2, q3, q4, q5⟩ := D.off k' b2 hb2;refine⟨⟨q1,q2,q3,fun k2 ob2 o2 h2 hl2 hb3=>?_,q5⟩,fun k2 hk2 hm2=>hk2 ?_⟩
         · obtain ⟨_, ob0, q6, q7⟩ := old k2 ob2 h2 hl2;exact q4 k2 ob0 o2 q6 q7 hb3
         · rw[<- D.one k' k2 b2 hb2 hm2];exact hm
     · simp only[if_neg e1] at hb2;simp at hb2
   · intro k1 k2 b2 _ _ h1 h2;by_cases e1:k1=k
     · by_cases e2 : k2 = k
       · rw[e1,e2]
       · simp only[if_neg e2] at h2;simp at h2
     · simp only[if_neg e1] at h1;simp at h1
end
theorem qrF (hT:TbOk P tb) {o:Oper} {s:St} {hp:Hp} (hs:Sub hp s) {T':TypeId} {y:Operand} {d k i:Nat} {e:Ty} {xs:List (Ty.os e).den} {ys:List e.den} (ho:o.op=.load T' y) (hd:o.dst=some d) (hty:tb.ty T'=some (.sl e)) (hpv:s.pv y=.ptr k i 0)
  (hk:hp k=some (.rows (.os e) xs .own)) (hx:xs[i]?=some (some ys)) (hn:get s.h (d*8+4)=none):qcb T P o s ⟨some (.osl (d*8+4) 0 none),[(k,.rows (.os e) (xs.set i none) .own),(d*8+4,.rows e ys .own)]⟩:=by
 intro B w S J a R hdo next Q hnx
 have hy:=q14q R y;rw[hpv] at hy;have hk':=hs k _ hk;have hy0:qac w S J (get s.h) (.ptr k i 0) (a.eval y):=hy;simp only[qac,hk'] at hy0;obtain⟨b,o',hb,he⟩:=hy0;have hdlt:d<B.nt:=by rw[hd] at hdo;exact Nat.le_of_ble_eq_true hdo
 obtain⟨J',ds,e1,e2,R2,hcs⟩:=R.open (q:=d*8+4) (t:=.os e) (cs:=[.osl (d*8+4) 0 none]) (ws:=[(d*8+4,.rows e ys .own)]) (r:=none) (q':=d*8+5) hk' hb hx rfl rfl (fun j h1 h2=>by
  obtain rfl:j=d*8+4:=by omega
  exact hn) (by omega)
 match ds,e1,hcs with
 | [v],_,hcs =>
  unfold Oper.wp;have hrun:(execOp a.eval o).run P w=.ok (.value v) w:=by
   simp only[execOp,ho];rw[Sem.run_bind,he];have:=qb8 (hT.ty hty) w b (o'+i*(Ty.os e).size) [v] rfl e2;simp only[Ob.sz,Nat.add_zero];rw[this];simp [vOf,Ty.isAgg]
  rw[hrun];refine hnx _ w S J' (Rel.app (ef:=⟨some (.osl (d*8+4) 0 none),[(k,.rows (.os e) (xs.set i none) .own),(d*8+4,.rows e ys .own)]⟩) R2 hdo fun pv hpv=>?_);injection hpv with hpv
  subst hpv;exact hcs.1.up
theorem qtq (hT:TbOk P tb) {o:Oper} {s:St} {T':TypeId} {x y:Operand} {hp:Hp} (hs:Sub hp s) {ef:Eff} (ho:o.op=.store T' x y) (hd:o.dst=none)
   (h:qhW tb hp T' (s.pv x) (s.pv y) some=some ef):qcb T P o s ef:=by
 unfold qhW at h;split at h
 · rename_i k i j off hpx;intro B w S J a R hdo next Q hnx
   have hx:=q14q R x;have hy:=q14q R y;rw[hpx] at hx;split at h
   · rename_i e xs hk;split at h
     · rename_i t' ht';split at h
       · rename_i yv hyv;have hbe:=qbg h;clear h;obtain⟨hcond,h⟩:=hbe;cases hxi:xs[i]? with
         | none=>rw[hxi] at h;cases h
         | some xv =>
          rw[hxi] at h;cases xv with
          | none=>cases h
          | some ys =>
           simp only[Option.bind_some] at h;cases hyj:ys[j]? with
           | none=>rw[hyj] at h;cases h
           | some q =>
            rw[hyj] at h;simp only[Option.bind_some] at h;split at h
            · rename_i z hz;injection h with h
              subst h;have hcond':memN k (qag (s.pv y).cells)=false/\qca (s.pv y).cells=true:=by
               revert hcond;cases memN k (qag (s.pv y).cells)<;>cases qca (s.pv y).cells<;>simp
              obtain⟨hkn,hna⟩:=hcond';obtain⟨vs,hu,hvs,hone⟩:=hy.cells hna;obtain⟨S1,R1,hS1,hS1n,hdec⟩:=R.frz hs (qag (s.pv y).cells);have hcell:Cell w S1 t' yv vs:=hdec _ vs t' yv (fun k hk=>hk) hvs hyv;have hk':=hs k _ hk;have hk1:get (frzW hp (qag (s.pv y).cells)++s.h) k=some (.rows (.os e) xs .own):=by
               rw[q2q];cases hq:get (frzW hp (qag (s.pv y).cells)) k with
               | none=>simpa using hk'
               | some ob =>
                exfalso;have hmem:=qar hq;have:∀ ks:List Nat,k∈qab (frzW hp ks)->k∈ks:=by
                 intro ks
                 induction ks with
                 | nil=>intro h;simp [frzW,qab] at h
                 | cons q ks ih =>
                  intro h;simp only[frzW] at h;split at h
                  · simp only [qab, List.map_cons, List.mem_cons] at h;rcases h with h | h
                    · subst h;exact List.mem_cons_self
                    · exact List.mem_cons_of_mem _ (ih h)
                  · exact List.mem_cons_of_mem _ (ih h)
                exact qbW.1 hkn (this _ hmem)
              have hx1:=q14q R1 x;have hpx':St.pv ⟨s.e,frzW hp (qag (s.pv y).cells)++s.h⟩ x=.vp k i j off:=hpx;rw[hpx'] at hx1;obtain⟨O,D1⟩:=R1.deep;obtain⟨_,b,bi,c1,hb,hbi,he,hc1,_,hr1,o0,cap,hcell0⟩:=qsw R1 D1 hk1 hxi hx1 hyj;obtain⟨ds0,hd1,_⟩:=hr1 j q hyj;obtain⟨_,hfit0⟩:=qjz hcell hz hd1;rw[hd1.length] at hfit0;obtain⟨c,hc,hf,R2⟩:=R1.inset D1 hk1 hxi hb hbi hcell0 hyj (off:=off) (vs:=vs) hfit0 (fun ds hds=>(qjz hcell hz hds).1);have hlen:vs.length=t'.size:=hcell.length;unfold Oper.wp execOp;simp only[ho,he,Sem.run_bind,qgB (hT.ty ht') hc hu hlen hf hone,Result.andThen_ok,Sem.run_pure];exact hnx undef _ _ _ (Rel.app (ef:=⟨none,(k,.rows (.os e) (xs.set i (some (ys.set j z))) .own)::frzW hp (qag (s.pv y).cells)⟩) R2 hdo (fun pv h=>by cases h))
            · cases h
       · cases h
     · cases h
   · cases h
 · exact quS hT hs ho hd h
variable {T:Told} {P:Program} {tb:Tb}
section
variable {B:Base} {w w':World} {S:Foot} {J:Con} {s s':St} {a:Act}
theorem Rel.ext (R:Rel T B w S J s a) (h1:∀ n,get s'.e n=get s.e n) (h2:∀ k,get s'.h k=get s.h k):Rel T B w S J s' a:=by
 have e1:get s'.e=get s.e:=funext h1;have e2:get s'.h=get s.h:=funext h2;refine⟨R.defers,R.size,?_,?_,?_,R.Slt,R.S0,R.Snew,R.olds,R.grow,R.lent,?_,R.told,R.toldS,R.ltinj,?_,R.calm,?_,?_,R.pbn⟩
 · rw[e1,e2];exact R.tmps
 · rw[e2];exact R.obs
 · rw[e2];exact R.inj
 · rw[e2];exact R.lentk
 · rw[e2];exact R.sep
 · rw[e2];exact R.boxk
 · rw[e2];exact R.deep
theorem Rel.again (R:Rel T B w S J s a) {k:Nat} {ob:Ob} (h:get s.h k=some ob):Rel T B w S J ⟨s.e,(k,ob)::s.h⟩ a :=
 R.ext (fun _=>rfl) (fun k'=>by
  rw[q6q];by_cases e:k=k'
  · subst e;rw[if_pos rfl,h]
  · rw[if_neg e])
end
theorem qp0 {P:Program} (w:World) (dT sT ty e:TypeId) (i:TypeInfo) (ht:P.underlying dT=some (.slice e)) (hi:P.info? e=some i)
  {b o n cap:Nat} {c:Array Value} (hb:Blk w b c) (A:Option Addr) (m cap2:Nat) (news:List Value) (hl:news.length=Nat.min m n*i.size)
  (hnews:Nat.min m n=0\/∃ a:Addr,A=some a/\∀ j u,news[j]?=some u->w.cell? (a.add j)=some u) (h1:∀ u∈news,u.oneCell'=true) (hfit:o+news.length<=c.size) :
  (Builtin.copy_ #[dT,sT] ty #[.slice (some ⟨b,o,none⟩) n cap,.slice A m cap2]).run P w=.ok (goInt (Nat.min m n)) (w.setRow b (qaP c o news)):=by
 have hf:(Builtin.firstCells i.size (Nat.min m n) (.slice A m cap2)).run P w=.ok news.toArray w:=by
  rcases hnews with hz | ⟨a,rfl,hn⟩
  · have : news = [] := List.eq_nil_of_length_eq_zero (by rw [hl, hz]; simp);subst this;rw[hz];cases A<;>simp [Builtin.firstCells,loadCells,loadCellsFrom]
  · exact run_firstCells_some (P:=P) w i.size _ a m cap2 news hl hn
 have hst:=qeV (P:=P) hb (o:=o) (vs:=news) hfit h1;simp [Builtin.copy_,run_underlying ht,sizeOf,typeInfo,hi,Builtin.lenOf,hf,hst]
theorem qks {P:Program} (w:World) (dT sT ty e:TypeId) (i:TypeInfo) (ht:P.underlying dT=some (.slice e)) (hi:P.info? e=some i) (D A:Option Addr) (n cap m cap2:Nat) (h:Nat.min m n=0) :
  (Builtin.copy_ #[dT,sT] ty #[.slice D n cap,.slice A m cap2]).run P w=.ok (goInt 0) w:=by
 have hf:(Builtin.firstCells i.size (Nat.min m n) (.slice A m cap2)).run P w=.ok #[] w:=by
  rw[h];cases A<;>simp [Builtin.firstCells,loadCells,loadCellsFrom]
 rw[h] at hf;cases D<;>simp [Builtin.copy_,run_underlying ht,sizeOf,typeInfo,hi,Builtin.lenOf,hf,storeCells,h]
theorem qw4 {α:Type} (xs:List α) (off:Nat):over xs off []=xs:=by simp [over]
theorem qdR {α:Type} {xs ys:List α} {off:Nat} (h:off+ys.length<=xs.length):(over xs off ys).length=xs.length:=by simp [over];omega
theorem qsO {α:Type} {xs ys:List α} {off:Nat} (h:off+ys.length<=xs.length) {i:Nat} {x:α} (hx:(over xs off ys)[i]?=some x) :
   ((i<off\/off+ys.length<=i)/\xs[i]?=some x)\/(off<=i/\i<off+ys.length/\ys[i-off]?=some x):=by
 have h1:(xs.take off).length=off:=by simp;omega
 unfold over at hx;by_cases h2:i<off
 · rw [List.append_assoc, List.getElem?_append_left (by omega), List.getElem?_take, if_pos h2] at hx;exact .inl ⟨.inl h2,hx⟩
 · by_cases h3 : i < off + ys.length
   · rw [List.append_assoc, List.getElem?_append_right (by omega), h1, List.getElem?_append_left (by omega)] at hx;exact .inr ⟨by omega,h3,hx⟩
   · rw [List.getElem?_append_right (by simp; omega)] at hx;simp only[List.length_append,h1,List.getElem?_drop] at hx;rw[show off+ys.length+(i-(off+ys.length))=i by omega] at hx;exact .inl ⟨.inr (by omega),hx⟩
section
variable {B:Base} {w w':World} {S:Foot} {J:Con} {s s':St} {a:Act}
theorem qty {t:Ty} {xs ys:List t.den} {b o off:Nat} {c:Array Value} {news:List Value} (hc:Blk w b c) (hnS:¬ S b) (hr:qdG (Cell w S t) t.size w b o xs) (hfit:o+xs.length*t.size<=c.size)
   (hl:news.length=ys.length*t.size) (hn:∀ (i:Nat) y,ys[i]?=some y->Cell w S t y ((news.drop (i*t.size)).take t.size)) (hoff:off+ys.length<=xs.length) :
   qdG (Cell (w.setRow b (qaP c (o+off*t.size) news)) S t) t.size (w.setRow b (qaP c (o+off*t.size) news)) b o (over xs off ys):=by
 have hkeep:∀ b',S b'->(w.setRow b (qaP c (o+off*t.size) news)).heap[b']?=w.heap[b']?:=fun b' hb'=>setRow_other w b b' _ (fun e=>hnS (e ▸ hb'))
 have hm:=Nat.mul_le_mul_right t.size hoff;rw[Nat.add_mul] at hm;have hf:o+off*t.size+news.length<=c.size:=by omega
 have hblk:Blk (w.setRow b (qaP c (o+off*t.size) news)) b (qaP c (o+off*t.size) news):=qdv hc;intro i x hx;rcases qsO hoff hx with ⟨hi,hx⟩ | ⟨hi1,hi2,hx⟩
 · obtain ⟨ds, e1, e2⟩ := hr i x hx;refine⟨ds,e1.mono (fun _ h=>h) hkeep,fun j v hv=>?_⟩;have hj:=(List.getElem?_eq_some_iff.1 hv).1;rw[e1.length] at hj;have h3:=e2 j v hv;rw[hc.cell] at h3;rw[hblk.cell,qbu hf ?_]
   · exact h3
   · rcases hi with hi | hi
     · left
       have:=Nat.mul_le_mul_right t.size (show i+1<=off from hi);rw[Nat.add_mul,Nat.one_mul] at this;omega
     · right
       have:=Nat.mul_le_mul_right t.size hi;rw[Nat.add_mul] at this;omega
 · have e1 := hn _ x hx;refine⟨_,e1.mono (fun _ h=>h) hkeep,fun j v hv=>?_⟩;have hj:=(List.getElem?_eq_some_iff.1 hv).1;rw[e1.length] at hj;rw[List.getElem?_take,if_pos hj,List.getElem?_drop] at hv;have hj2:=(List.getElem?_eq_some_iff.1 hv).1;have:=qej hf hj2;rw[hblk.cell];have hmm:i*t.size=off*t.size+(i-off)*t.size:=by rw[<- Nat.add_mul];congr 1;omega
   rw[show o+i*t.size+j=o+off*t.size+((i-off)*t.size+j) by omega,this];exact hv
end
theorem qxI (hT:TbOk P tb) {o:Oper} {s:St} {T' ety:TypeId} {x y:Operand} {hp:Hp} (hs:Sub hp s) {e0:TypeId} {t0:Ty} {b0:Nat} (hg:get tb T'=some (.slc e0 t0 b0)) {ef:Eff}
   (hrun:∀ (a:Act) (w:World),(execOp a.eval o).run P w=((Builtin.copy_ #[T',T'] o.type #[a.eval x,a.eval y]).run P w).andThen fun v w=>.ok (.value v) w)
   (h:qlL hp t0 (s.pv x) (s.pv y) some=some ef):qcb T P o s ef:=by
 intro B w S J a R hdo next Q hnx
 obtain⟨_,hu,he,_,_,hsz0⟩:=hT T' _ hg;obtain⟨ie,z,i1,i2,i3,i4⟩:=he.info;have hx:=q14q R x;have hy:=q14q R y;unfold Oper.wp;rw[hrun];unfold qlL at h;split at h
 · rename_i k off len hpx;have hmm:∃ xs0 m0,hp k=some (.rows t0 xs0 m0)/\(m0≠.frz/\t0.flat=true)/\∃ ys,qoB hp t0 (s.pv y)=some ys/\ef=⟨some .junk,[(k,.rows t0 (over xs0 off (ys.take (win xs0 off len).length)) m0)]⟩:=by
     split at h
     · cases h
     · rename_i t xs m hnf hk;split at h
       · rename_i zs hz;obtain⟨rfl,rfl⟩:=qda hz;split at h
         · rename_i ys hys;obtain⟨hfl,h⟩:=q8q h;injection h with h
           exact⟨_,m,hk,⟨hnf,hfl⟩,ys,hys,h.symm⟩
         · cases h
       · cases h
     · cases h
   obtain⟨xs0,m0,hk0,⟨hmf,hfl⟩,ys,hys,rfl⟩:=hmm;clear h;have hk':=hs k _ hk0;rw[hpx] at hx;obtain⟨hw,hx2⟩:=qdS R hk' hx;have hl:=qbt hw;have hwl:=qhh hw;obtain⟨A,cap2,hyv,hcap2,hycells⟩:=qoA R hs hys hy;rw[hl] at hnx;rw[hyv];have fin:∀ v w',Rel T B w' S J ⟨s.e,(k,.rows t0 (over xs0 off (ys.take (wlen xs0 off len))) m0)::s.h⟩ a->next (a.put o.dst v) w':=fun v w' R2 =>
     hnx v w' S J (Rel.app (ef:=⟨some .junk,[(k,.rows t0 (over xs0 off (ys.take (wlen xs0 off len))) m0)]⟩) R2 hdo fun pv hpv=>by injection hpv with hpv;subst hpv;trivial)
   by_cases hz:Nat.min ys.length (wlen xs0 off len)=0
   · have hzz : ys.take (wlen xs0 off len) = [] := List.eq_nil_of_length_eq_zero (by rw [List.length_take, Nat.min_comm]; exact hz);rw[hzz,qw4] at fin;rcases hx2 with ⟨_,_,h3,hxv⟩ | ⟨b,o',x',cap,hb,hxv,_⟩
     · rw [hxv];rw[h3] at hz;rw[qks w T' T' o.type _ ie hu i1 none A 0 0 ys.length cap2 hz];exact fin _ _ (R.again hk')
     · rw [hxv, qks w T' T' o.type _ ie hu i1 _ A _ _ ys.length cap2 hz];exact fin _ _ (R.again hk')
   · rcases hx2 with ⟨_, _, h3, hxv⟩ | ⟨b, o', x', cap, hb, hxv, hcap, hx', _⟩
     · rw[h3] at hz;simp at hz
     · have hmin : Nat.min ys.length (wlen xs0 off len) <= wlen xs0 off len := Nat.min_le_right _ _;obtain rfl:x'=o'+off*t0.size:=hx'.resolve_left (by omega);have hor:=R.obs k _ hk';simp only[ORel,hb] at hor;obtain⟨⟨c,hc,hcsz⟩,hrow,_,hlv,hown⟩:=hor;have hyl:(ys.take (wlen xs0 off len)).length=Nat.min ys.length (wlen xs0 off len):=by rw[List.length_take,Nat.min_comm]
       have hnews:∃ news:List Value,news.length=(ys.take (wlen xs0 off len)).length*t0.size/\(∀ v∈news,v.oneCell'=true)/\(∀ (i:Nat) q,(ys.take (wlen xs0 off len))[i]?=some q->Cell w S t0 q ((news.drop (i*t0.size)).take t0.size)) /\
           ∃ a2:Addr,A=some a2/\∀ (j:Nat) u,news[j]?=some u->w.cell? (a2.add j)=some u:=by
         rcases hycells with rfl | ⟨b2,o2,rfl,hr⟩
         · simp at hz
         · have hr' : qdG (Cell w S t0) t0.size w b2 o2 (ys.take (wlen xs0 off len)) := fun i q hq => hr i q (by rw [List.getElem?_take] at hq; split at hq; exact hq; cases hq)
           obtain⟨cs,c1,c2,c3,c4⟩:=qhr hr';exact⟨cs,c1,c3,c4,_,rfl,fun j u hj=>by rw[Addr.add_mid];exact c2 j u hj⟩
       obtain⟨news,n1,n2,n3,a2,rfl,n4⟩:=hnews;have hoff:off+(ys.take (wlen xs0 off len)).length<=xs0.length:=by omega
       have hm:=Nat.mul_le_mul_right t0.size hoff;rw[Nat.add_mul] at hm;have hfit:o'+off*t0.size+news.length<=c.size:=by omega
       have hnSb:=(hlv hmf).1;rw[hxv,qp0 w T' T' o.type _ ie hu i1 hc (some a2) ys.length cap2 news (by rw[i2,n1,hyl]) (.inr ⟨a2,rfl,n4⟩) n2 hfit];have hlive:(Ob.rows t0 xs0 m0).live=true:=by cases m0<;>first | rfl | exact absurd rfl hmf
       refine fin _ _ (R.write (ob':=.rows t0 (over xs0 off (ys.take (wlen xs0 off len))) m0) (c':=qaP c (o'+off*t0.size) news) hk' hlive (show ObS (.rows t0 xs0 m0) (.rows t0 _ m0) from⟨rfl,qdR hoff,rfl⟩) hb hc (qbo hfit) (by intro _ _ e;cases e) (fun t' xs' _ e=>by injection e with e1;subst e1;exact hfl) ?_ fun E hc'=>?_)
       · intro t' xs' e j hj;injection e with e1 e2 e3
         subst e1;have e2:=eq_of_heq e2;subst e2;refine qbu hfit ?_;rcases hj with hj | hj
         · left;omega
         · right;omega
       · simp only [ORel, hb];refine⟨⟨_,hc',by rw[qbo hfit,qdR hoff];exact hcsz⟩,qty hc hnSb hrow hcsz n1 n3 hoff,fun e=>absurd e hmf,hlv,hown⟩
 · cases h
def OwnV (w:World) (S:Foot) (p:Option (Nat×Nat)) (e:Ty) (xs:List e.den) (v:Value):Prop :=
 match p with
 | none=>xs=[]/\v=.slice none 0 0
 | some (b,o)=>o=0/\¬ S b/\∃ x cap c,v=.slice (some ⟨b,x,none⟩) xs.length cap/\xs.length<=cap/\(cap=0\/x=0)/\Blk w b c/\cap*e.size<=c.size/\qdG (Cell w S e) e.size w b 0 xs
def qrk (w:World) (S:Foot) (p:Option (Nat×Nat)) (e:Ty) (xs:List e.den) (v:Value):Prop :=
 match p with
 | none=>xs=[]/\v=.slice none 0 0
 | some (b,o)=>¬ S b/\∃ x cap c,v=.slice (some ⟨b,x,none⟩) xs.length cap/\xs.length<=cap/\(cap=0\/x=o)/\Blk w b c/\o+xs.length*e.size<=c.size/\qdG (Cell w S e) e.size w b o xs
def qnP (w:World) (S:Foot) (J:Con):(ps:List (Ty×PM))->Nat->HL (fsts ps)->List Value->Prop
 | [],_,_,[]=>True
 | (t,.imm)::ps,i,(x,r),v::vs=>VRel w S t x v/\qnP w S J ps (i+1) r vs
 | (.sl e,.own)::ps,i,(x,r),v::vs=>OwnV w S (J (i*8)) e x v/\qnP w S J ps (i+1) r vs
 | (.sl e,.lent)::ps,i,(x,r),v::vs=>qrk w S (J (i*8)) e x v/\qnP w S J ps (i+1) r vs
 | _,_,_,_=>False
def qzF (w w':World) (S':Foot) (p:Option (Nat×Nat)) (e:Ty) (xs ys:List e.den):Prop :=
 ys.length=xs.length /\
 match p with
 | none=>True
 | some (b,o)=>¬ S' b/\∃ c0 c,Blk w b c0/\Blk w' b c/\c.size=c0.size/\(∀ j,(j<o\/o+xs.length*e.size<=j)->c[j]?=c0[j]?)/\qdG (Cell w' S' e) e.size w' b o ys
def qld (w w':World) (S':Foot) (J:Con):(ps:List (Ty×PM))->Nat->HL (fsts ps)->HL (qha ps)->Prop
 | [],_,_,_=>True
 | (.sl e,.lent)::ps,i,(x,r),(y,q)=>qzF w w' S' (J (i*8)) e x y/\qld w w' S' J ps (i+1) r q
 | (_,.imm)::ps,i,(_,r),q=>qld w w' S' J ps (i+1) r q
 | (_,.own)::ps,i,(_,r),q=>qld w w' S' J ps (i+1) r q
 | _,_,_,_=>False
def ResV (w:World) (S:Foot) (ρ:Con):(rs:List (Ty×Bool))->Nat->HL (fsts rs)->List Value->Prop
 | [],_,_,[]=>True
 | (.sl e,true)::rs,j,(x,r),v::vs=>OwnV w S (ρ j) e x v/\ResV w S ρ rs (j+1) r vs
 | (t,false)::rs,j,(x,r),v::vs=>VRel w S t x v/\ResV w S ρ rs j r vs
 | _,_,_,_=>False
def Con.inj (J:Con):Prop:=∀ k k' b o o',J k=some (b,o)->J k'=some (b,o')->k=k'
def resG:(rs:List (Ty×Bool))->Nat->HL (fsts rs)->Hp
 | (.sl e,true)::rs,j,(x,r)=>fun n=>if n=j then some (.rows e x .own) else resG rs (j+1) r n
 | (_,false)::rs,j,(_,r)=>resG rs j r
 | _,_,_=>fun _=>none
def qx2 (w:World) (S:Foot) (n0:Nat) (ρ:Con) (g:Hp):Prop :=
 ∃ O:Nat->List Nat,(∀ j e xs b o,g j=some (.rows e xs .own)->ρ j=some (b,o)->DRow w S n0 e b xs (O j)) /\
  (∀ j b,b∈O j->¬ S b/\n0<=b/\b<w.heap.size/\∀ j' o,ρ j'≠some (b,o))/\∀ j j' b,b∈O j->b∈O j'->j=j'
structure qsr (T:Told) (w:World) (S:Foot) (J:Con) (ps:List (Ty×PM)) (x:HL (fsts ps)) (vs:List Value):Prop where
 args:qnP w S J ps 0 x vs
 dom:∀ k b o,J k=some (b,o)->k∈ownK ps 0\/k∈qdo ps 0
 inj:J.inj
 Slt:∀ b,S b->b<w.heap.size
 told:T.G w
 toldS:∀ b∈T.gb,S b
def qrC:List Value->Value
 | [v]=>v
 | vs=>.tuple vs.toArray
structure qAp (T:Told) (w:World) (S:Foot) (J:Con) (ps:List (Ty×PM)) (rs:List (Ty×Bool)) (x:HL (fsts ps)) (y:HL (qha ps)×HL (fsts rs)) (v:Value) (w':World) (S':Foot) (ρ:Con):Prop where
 sub:∀ b,S b->S' b
 fresh:∀ b,S' b->S b\/w.heap.size<=b\/∃ k∈ownK ps 0,∃ o,J k=some (b,o)
 Slt:∀ b,S' b->b<w'.heap.size
 same:∀ b,b<w.heap.size->(∀ k o,J k≠some (b,o))->w'.heap[b]?=w.heap[b]?
 grow:w.heap.size<=w'.heap.size
 told:T.G w'
 calm:Calm w w'
 outs:qld w w' S' J ps 0 x y.1
 res:∃ vs,v=qrC vs/\ResV w' S' ρ rs 0 y.2 vs
 rinj:ρ.inj
 rdom:∀ j b o,ρ j=some (b,o)->w.heap.size<=b\/∃ k∈ownK ps 0,∃ o,J k=some (b,o)
 deep:qn4 rs=false->qx2 w' S' w.heap.size ρ (resG rs 0 y.2)
def WC:List CK->List Value->List Value->List Nat->Prop
 | [],[],[],[]=>True
 | .x::cs,a::as,v::vs,bs=>a=v/\WC cs as vs bs
 | .b::cs,a::as,vs,b::bs=>a=.pointer (some ⟨b,0,none⟩)/\WC cs as vs bs
 | .h::cs,_::as,vs,bs=>WC cs as vs bs
 | .l::cs,a::as,v::vs,bs=>a=v/\WC cs as vs bs
 | _,_,_,_=>False
def CK.ex:CK->CK
 | .l=>.h
 | c=>c
def exB (bx:List (List CK)):List (List CK):=bx.map (·.map CK.ex)
def WB (w:World):List (List CK)->List Nat->List Value->List Nat->Prop
 | [],[],[],[]=>True
 | cs::bx,b::bs,vs,st=>∃ (c:Array Value) (v1 v2:List Value) (q1 q2:List Nat),Blk w b c/\vs=v1++v2/\st=q1++q2/\WC cs c.toList v1 q1/\WB w bx bs v2 q2
 | _,_,_,_=>False
def GV1:List GK->List Value->List Value->Prop
 | [],[],[]=>True
 | .x::gs,a::as,c::cs=>c=a/\GV1 gs as cs
 | .g n::gs,a::as,cs=>∃ vs cs',vs.length=n/\a=.agg vs.toArray/\cs=vs++cs'/\GV1 gs as cs'
 | .f fid n::gs,a::as,cs=>∃ vs cs',vs.length=n/\a=.func (.func fid) #[] vs.toArray/\cs=vs++cs'/\GV1 gs as cs'
 | .n::gs,a::as,cs=>a=.pointer none/\GV1 gs as cs
 | _,_,_=>False
def GV:List GK->List Value->List Value->Prop
 | [],as,cs=>cs=as
 | g::gs,as,cs=>GV1 (g::gs) as cs
structure qwA (T:Told) (w:World) (S:Foot) (J:Con) (wi:Wir) (ps:List (Ty×PM)) (x:HL (fsts ps)) (as us:List Value) (q st:List Nat):Prop where
 a:∃ cs u1 u2,GV wi.ga as cs/\us=u1++u2/\WC wi.args cs u1 q/\WB w wi.boxes (q++st) u2 st
 enter:qsr T w S J ps x us
 nd:(q++st).Nodup
 nS:∀ b∈q++st,¬ S b
 apart:∀ b∈q++st,∀ k o,J k≠some (b,o)
def qAH (w w':World) (S':Foot) (ρ:Con) (wi:Wir) (q st:List Nat) (v:Value) (u1 u2 u3:List Value):Prop :=
 u1.length=wi.nres/\WB w' (exB wi.boxes) (q++st) u2 st/\∃ rvs cs,v=qrC rvs/\GV wi.gr rvs cs /\
 (match wi.nb with
 | none=>u3=[]/\cs=u1
 | some n=>u3.length=n/\∃ b,cs=u1.take wi.np++.pointer (some ⟨b,0,none⟩)::u1.drop wi.np/\Blk w' b u3.toArray/\w.heap.size<=b/\¬ S' b/\∀ j o,ρ j≠some (b,o))
structure qyr (T:Told) (w:World) (S:Foot) (J:Con) (wi:Wir) (ps:List (Ty×PM)) (rs:List (Ty×Bool)) (x:HL (fsts ps)) (y:HL (qha ps)×HL (fsts rs)) (v:Value) (q st:List Nat) (w':World) (S':Foot) (ρ:Con):Prop where
 sub:∀ b,S b->S' b
 fresh:∀ b,S' b->S b\/w.heap.size<=b\/∃ k∈ownK ps 0,∃ o,J k=some (b,o)
 Slt:∀ b,S' b->b<w'.heap.size
 same:∀ b,b<w.heap.size->(∀ k o,J k≠some (b,o))->b ∉ q++st->w'.heap[b]?=w.heap[b]?
 grow:w.heap.size<=w'.heap.size
 told:T.G w'
 calm:Calm w w'
 outs:qld w w' S' J ps 0 x y.1
 res:∃ u1 u2 u3,ResV w' S' ρ rs 0 y.2 (u1++(u2++u3))/\qAH w w' S' ρ wi q st v u1 u2 u3
 rinj:ρ.inj
 rdom:∀ j b o,ρ j=some (b,o)->w.heap.size<=b\/∃ k∈ownK ps 0,∃ o,J k=some (b,o)
 nS:∀ b∈q++st,¬ S' b
 apart:∀ b∈q++st,∀ j o,ρ j≠some (b,o)
 hid:∀ (i:Nat) (cs:List CK) (b:Nat),wi.boxes[i]?=some cs->(q++st)[i]?=some b->∀ j:Nat,(cs[j]?=some CK.h\/cs[j]?=some CK.l)->w'.cell? ⟨b,j,none⟩=w.cell? ⟨b,j,none⟩
 deep:qn4 rs=false->qx2 w' S' w.heap.size ρ (resG rs 0 y.2)
def qzK (T:Told) (P:Program) (f:FuncId) (c:Ctr):Prop :=
 ∀ (x:HL (fsts c.ps)) (r:c.T),c.F x=some r->∀ (w:World) (S:Foot) (J:Con) (vs:List Value),qsr T w S J c.ps x vs ->
  Calls P f vs.toArray w fun e w'=>match e with
   | .returned v=>∃ S' ρ,qAp T w S J c.ps c.rs x (c.enc r) v w' S' ρ
   | _=>False
def qAw (T:Told) (P:Program) (f:FuncId) (c:Ctr) (wi:Wir):Prop :=
 ∀ (x:HL (fsts c.ps)) (r:c.T),c.F x=some r->∀ (w:World) (S:Foot) (J:Con) (as us:List Value) (q st:List Nat),qwA T w S J wi c.ps x as us q st ->
  Calls P f as.toArray w fun e w'=>match e with
   | .returned v=>∃ S' ρ,qyr T w S J wi c.ps c.rs x (c.enc r) v q st w' S' ρ
   | _=>False
structure qam (T:Told) (P:Program) (f:FuncId) (c:Ctr):Prop where
 fn : ∃ fn, P.funcs[f]? = some fn ∧ (fn.name == "runtime.NumGoroutine") = false ∧ fn.body.isNone = false
 does:match c.wi with
  | none=>qzK T P f c
  | some wi=>qAw T P f c wi
 flat:c.flat=true
def qoG (T:Told) (P:Program) (env:Env):Prop:=∀ f c,env f=some c->qam T P f c
def qas (T:Told) (P:Program) (env:Env):Prop:=∀ f c,env f=some c->qam T P (f % 1048576) c
theorem qas.one {T:Told} {P:Program} {env:Env} (h:qas T P env) {f:FuncId} {args:List PV} {ct:Ctr} (hf:Nat.ble f 1048575=true) (hc:env (altF f args)=some ct):qoG T P (fun g=>bif Nat.beq g f then some ct else none):=by
 intro g c hg;have hf:=Nat.le_of_ble_eq_true hf;have hk:=h _ _ hc;have e:altF f args % 1048576=f:=by
  have hf':f<=1048575:=hf;unfold altF;split<;>omega
 rw[e] at hk;cases hb:Nat.beq g f with
 | true =>
  have hg:(bif Nat.beq g f then some ct else none)=some c:=hg;rw[hb] at hg;injection hg with hg
  rw[Nat.eq_of_beq_eq_true hb,<- hg];exact hk
 | false =>
  have hg:(bif Nat.beq g f then some ct else none)=some c:=hg;rw[hb] at hg;cases hg
variable {T:Told} {P:Program} {tb:Tb}
def qdW:List (Ty×PM)->List PV->List Nat
 | (_,.imm)::ps,v::vs=>qag v.cells++qdW ps vs
 | _::ps,_::vs=>qdW ps vs
 | _,_=>[]
def uses:List (Ty×PM)->List PV->Nat->List (Nat×(Nat×Nat))
 | (.sl e,.own)::ps,.osl k _ _::vs,i=>(i*8,(k,0))::uses ps vs (i+1)
 | (.sl e,.lent)::ps,.osl k off _::vs,i=>(i*8,(k,off*e.size))::uses ps vs (i+1)
 | _::ps,_::vs,i=>uses ps vs (i+1)
 | _,_,_=>[]
def useK (l:List (Nat×(Nat×Nat))):List Nat:=l.map fun x=>x.2.1
def qbk:List (Ty×PM)->List PV->List (Nat×Ob)
 | (.sl e,.own)::ps,.osl k _ _::vs=>(k,.gone)::qbk ps vs
 | _::ps,_::vs=>qbk ps vs
 | _,_=>[]
def qck (J:Con) (l:List (Nat×(Nat×Nat))):Con:=fun n =>
 match get l n with
 | some (k,off)=>(J k).map fun p=>(p.1,p.2+off)
 | none=>none
theorem qr6 (h:Hp) (a b:List Nat):frzW h (a++b)=frzW h a++frzW h b:=by
 induction a with
 | nil=>rfl
 | cons x a ih=>simp only[List.cons_append,frzW];split<;>simp [ih]
theorem qs4 {h:Hp} {ks:List Nat} {k:Nat} (hm:k∈qab (frzW h ks)):k∈ks:=by
 induction ks with
 | nil=>simp [frzW,qab] at hm
 | cons q ks ih =>
  simp only[frzW] at hm;split at hm
  · simp only [qab, List.map_cons, List.mem_cons] at hm;rcases hm with hm | hm
    · subst hm;exact List.mem_cons_self
    · exact List.mem_cons_of_mem _ (ih hm)
  · exact List.mem_cons_of_mem _ (ih hm)
theorem qjj {h:Hp} {ks:List Nat} {k:Nat} (hm:k ∉ ks):get (frzW h ks) k=none :=
 q11q fun h'=>hm (qs4 h')
theorem qql {α:Type} (a b c:Option α):(a.or b).or c=a.or (b.or c):=by cases a<;>simp
theorem qk8 {h:Hp}:∀ {ps:List (Ty×PM)} {vs:List PV} {used seen:List Nat} {x:HL (fsts ps)} {w:List (Nat×Ob)},q0q h ps vs used seen=some (x,w)->∀ i,
  (useK (uses ps vs i)).Nodup/\(∀ k∈useK (uses ps vs i),k ∉ used/\k ∉ seen/\k ∉ qdW ps vs)/\(∀ k∈qdW ps vs,k ∉ used) /\
  (∀ k∈qab (qbk ps vs),k∈useK (uses ps vs i)) /\
  (∀ k,get w k=(get (qbk ps vs) k).or (get (frzW h (qdW ps vs)) k)):=by
 intro ps
 induction ps with
 | nil =>
  intro vs used seen x w hh i;cases vs with
  | nil=>simp only[q0q,Option.some.injEq,Prod.mk.injEq] at hh;obtain⟨_,rfl⟩:=hh;simp [uses,useK,qdW,qbk,qab,get,frzW]
  | cons v vs=>simp [q0q] at hh
 | cons p ps ih =>
  intro vs used seen x w hh i;obtain⟨t,m⟩:=p;cases vs with
  | nil=>cases t<;>cases m<;>simp [q0q] at hh
  | cons v vs =>
   cases m with
   | imm =>
    have hh:(bif anyN (qag v.cells) used || !fits t v then none else
        (match decA h t v.cells with
        | some x=>(match q0q h ps vs used (qag v.cells++seen) with | some (xs,w)=>some ((x,xs),frzW h (qag v.cells)++w) | none=>none)
        | none=>none):Option (HL (fsts ((t,PM.imm)::ps))×List (Nat×Ob)))=some (x,w):=by
      cases t<;>exact hh
    obtain⟨h1,hh⟩:=qbg hh;simp only[Bool.or_eq_false_iff] at h1;have h1:=qd8.1 h1.1;split at hh
    · split at hh
      · rename_i y hy xs w' hw;injection hh with hh
        injection hh with _ hh
        subst hh;obtain⟨a1,a2,a3,a4,a5⟩:=ih hw (i+1);have eu:uses ((t,PM.imm)::ps) (v::vs) i=uses ps vs (i+1):=by cases t<;>cases v<;>rfl
        have eg:qbk ((t,PM.imm)::ps) (v::vs)=qbk ps vs:=by cases t<;>cases v<;>rfl
        have ei:qdW ((t,PM.imm)::ps) (v::vs)=qag v.cells++qdW ps vs:=rfl;rw[eu,eg,ei];refine⟨a1,fun k hk=>?_,fun k hk=>?_,a4,fun k=>?_⟩
        · obtain ⟨b1, b2, b3⟩ := a2 k hk;exact⟨b1,fun h=>b2 (List.mem_append.2 (.inr h)),fun h=>(List.mem_append.1 h).elim (fun h=>b2 (List.mem_append.2 (.inl h))) b3⟩
        · exact(List.mem_append.1 hk).elim (h1 k) (a3 k)
        · rw [q2q, a5, qr6, q2q];cases hf:get (frzW h (qag v.cells)) k with
          | none=>simp
          | some ob =>
            have hm:=qs4 (qar hf);have:get (qbk ps vs) k=none:=q11q fun hg=>(a2 k (a4 k hg)).2.1 (List.mem_append.2 (.inl hm))
            simp [this]
      · cases hh
    · cases hh
   | own =>
    cases t with
    | sl e =>
      cases v with
      | nil =>
        simp only[q0q] at hh;split at hh
        · rename_i xs w' hw;injection hh with hh
          injection hh with _ hh
          subst hh;exact ih hw (i+1)
        · cases hh
      | osl k off len =>
        cases off with
        | succ off=>simp [q0q] at hh
        | zero =>
          simp only[q0q] at hh;obtain⟨h1,hh⟩:=qbg hh;simp only[Bool.or_eq_false_iff,qbW] at h1;split at hh
          · split at hh
            · split at hh
              · rename_i zs w' hw;injection hh with hh
                injection hh with _ hh
                subst hh;obtain⟨a1,a2,a3,a4,a5⟩:=ih hw (i+1);simp only[uses,qbk,qdW,useK,List.map_cons,List.nodup_cons,List.mem_cons,qab] at a1 a2 a3 a4 a5 ⊢;refine⟨⟨fun h=>(a2 k h).1 (.inl rfl),a1⟩,fun k' hk'=>?_,fun k' hk' h=>a3 k' hk' (.inr h),fun k' hk'=>?_,fun k'=>?_⟩
                · rcases hk' with rfl | hk'
                  · exact⟨h1.1,h1.2,fun h=>a3 _ h (.inl rfl)⟩
                  · obtain ⟨b1, b2, b3⟩ := a2 k' hk';exact⟨fun h=>b1 (.inr h),b2,b3⟩
                · rcases hk' with rfl | hk'
                  · exact .inl rfl
                  · exact .inr (a4 k' hk')
                · rw [q6q, q6q, a5];split<;>simp
              · cases hh
            · cases hh
          · cases hh
      | junk=>simp [q0q] at hh
      | val _ _=>simp [q0q] at hh
      | ptr _ _ _=>simp [q0q] at hh
      | iptr _ _ _=>simp [q0q] at hh
      | nilp=>simp [q0q] at hh
      | vw _ _=>simp [q0q] at hh
      | vp _ _ _ _=>simp [q0q] at hh
      | fx _=>simp [q0q] at hh
      | agg _=>simp [q0q] at hh
      | tup _=>simp [q0q] at hh
      | clo _ _=>simp [q0q] at hh
    | int _=>simp [q0q] at hh
    | bool=>simp [q0q] at hh
    | str | os _ | op _=>simp [q0q] at hh
    | unit=>simp [q0q] at hh
    | pair _ _=>simp [q0q] at hh
   | lent =>
    cases t with
    | sl e =>
      cases v with
      | osl k off len =>
        simp only[q0q] at hh;obtain⟨h1,hh⟩:=qbg hh;simp only[Bool.or_eq_false_iff,qbW] at h1;split at hh
        · cases hh
        · split at hh
          · split at hh
            · rename_i zs w' hw;injection hh with hh
              injection hh with _ hh
              subst hh;obtain⟨a1,a2,a3,a4,a5⟩:=ih hw (i+1);simp only[uses,qbk,qdW,useK,List.map_cons,List.nodup_cons,List.mem_cons,qab] at a1 a2 a3 a4 a5 ⊢;refine⟨⟨fun h=>(a2 k h).1 (.inl rfl),a1⟩,fun k' hk'=>?_,fun k' hk' h=>a3 k' hk' (.inr h),fun k' hk'=>.inr (a4 k' hk'),a5⟩;rcases hk' with rfl | hk'
              · exact⟨h1.1,h1.2,fun h=>a3 _ h (.inl rfl)⟩
              · obtain ⟨b1, b2, b3⟩ := a2 k' hk';exact⟨fun h=>b1 (.inr h),b2,b3⟩
            · cases hh
          · cases hh
        · cases hh
      | nil=>simp [q0q] at hh
      | junk=>simp [q0q] at hh
      | val _ _=>simp [q0q] at hh
      | ptr _ _ _=>simp [q0q] at hh
      | iptr _ _ _=>simp [q0q] at hh
      | nilp=>simp [q0q] at hh
      | vw _ _=>simp [q0q] at hh
      | vp _ _ _ _=>simp [q0q] at hh
      | fx _=>simp [q0q] at hh
      | agg _=>simp [q0q] at hh
      | tup _=>simp [q0q] at hh
      | clo _ _=>simp [q0q] at hh
    | int _=>simp [q0q] at hh
    | bool=>simp [q0q] at hh
    | str | os _ | op _=>simp [q0q] at hh
    | unit=>simp [q0q] at hh
    | pair _ _=>simp [q0q] at hh
variable {T:Told} {P:Program} {tb:Tb}
section
variable {B:Base} {w w':World} {S:Foot} {J:Con} {s s':St} {a:Act}
theorem qsl {S1:Foot} {g hp:Hp} {t:Ty} {x:t.den} {v:PV} {u:Value} (hd:decA hp t v.cells=some x) (hf:fits t v=true) (hu:TRel w S J g v u)
  (D:∀ vs:List Value,All2 (qac w S J g) v.cells vs->Cell w S1 t x vs):VRel w S1 t x u:=by
 have one:∀ (hv:qac w S J g v u) (hc:v.cells=[v]),t.isAgg=false->VRel w S1 t x u:=by
  intro hv hc ht;have:=D [u] (by rw[hc];exact⟨hv,trivial⟩)
  cases t<;>first | exact this | cases ht
 cases v with
 | agg l =>
  obtain⟨vs,rfl,hl⟩:=hu;have:=D vs hl;cases t with
  | pair a b=>exact⟨vs,rfl,this⟩
  | unit=>cases this;rfl
  | int k=>cases hf
  | bool=>cases hf
  | str | os _ | op _=>cases hf
  | sl e=>cases hf
 | tup l=>exfalso;revert hd;cases t<;>first | (simp [PV.cells,decA,dec];done) | (simp [fits,Ty.isAgg] at hf)
 | clo f l=>exfalso;revert hd;cases t<;>first | (simp [PV.cells,decA,dec];done) | (simp [fits,Ty.isAgg] at hf)
 | junk=>exact one hu rfl (by simpa [fits] using hf)
 | val t x=>exact one hu rfl (by simpa [fits] using hf)
 | nil=>exact one hu rfl (by simpa [fits] using hf)
 | nilp=>exact one hu rfl (by simpa [fits] using hf)
 | vw _ _=>exact one hu rfl (by simpa [fits] using hf)
 | vp _ _ _ _=>exact one hu rfl (by simpa [fits] using hf)
 | fx k=>exact one hu rfl (by simpa [fits] using hf)
 | iptr t x off=>exact one hu rfl (by simpa [fits] using hf)
 | osl k off len=>exact one hu rfl (by simpa [fits] using hf)
 | ptr k i off=>exact one hu rfl (by simpa [fits] using hf)
theorem qrq:∀ {ps:List (Ty×PM)} {vs:List PV} {i n:Nat} {p:Nat×Nat},get (uses ps vs i) n=some p->i*8<=n/\(n∈ownK ps i\/n∈qdo ps i):=by
 intro ps
 induction ps with
 | nil=>intro vs i n p h;cases vs<;>simp [uses,get] at h
 | cons q ps ih =>
  intro vs i n p h;obtain⟨t,m⟩:=q;cases vs with
  | nil=>cases m<;>simp [uses,get] at h
  | cons v vs =>
   have tail:get (uses ps vs (i+1)) n=some p->i*8<=n/\(n∈ownK ((t,m)::ps) i\/n∈qdo ((t,m)::ps) i):=by
    intro h;obtain⟨h1,h2⟩:=ih h;refine⟨by omega,?_⟩;cases m with
    | imm=>exact h2
    | own=>exact h2.imp (fun h=>List.mem_cons_of_mem _ h) id
    | lent=>exact h2.imp id fun h=>List.mem_cons_of_mem _ h
   have hd:∀ q,(m=.own\/m=.lent)->get ((i*8,q)::uses ps vs (i+1)) n=some p->i*8<=n/\(n∈ownK ((t,m)::ps) i\/n∈qdo ((t,m)::ps) i):=by
    intro q hm h;rw[q6q] at h;split at h
    · rename_i e; subst e;refine⟨Nat.le_refl _,?_⟩;rcases hm with rfl | rfl
      · exact .inl List.mem_cons_self
      · exact .inr List.mem_cons_self
    · exact tail h
   cases m with
   | imm=>cases t<;>cases v<;>exact tail h
   | own=>cases t<;>cases v<;>first | exact tail h | exact hd _ (.inl rfl) h
   | lent=>cases t<;>cases v<;>first | exact tail h | exact hd _ (.inr rfl) h
theorem qk9 (R:Rel T B w S J s a) {hp:Hp} (hs:Sub hp s) {S1:Foot} (hS1:∀ b,S b->S1 b) {K:List Nat}
  (hdec:∀ (pvs:List PV) (vs:List Value) (t:Ty) (x:t.den),(∀ k∈qag pvs,k∈K)->All2 (qac w S J (get s.h)) pvs vs->decA hp t pvs=some x->Cell w S1 t x vs) {βc:Con} :
  ∀ {ps:List (Ty×PM)} {vs:List PV} {us:List Value} {used seen:List Nat} {x:HL (fsts ps)} {w1:List (Nat×Ob)} {i:Nat},
   q0q hp ps vs used seen=some (x,w1)->All2 (TRel w S J (get s.h)) vs us->(∀ k∈qdW ps vs,k∈K) ->
   (∀ k∈useK (uses ps vs i),∀ b o,J k=some (b,o)->¬ S1 b)->(∀ n,i*8<=n->βc n=qck J (uses ps vs i) n)->qnP w S1 βc ps i x us:=by
 intro ps
 induction ps with
 | nil =>
  intro vs us used seen x w1 i hh hl hK hU hβ;cases vs with
  | nil=>cases us with
   | nil=>trivial
   | cons _ _=>exact hl.elim
  | cons v vs=>simp [q0q] at hh
 | cons p ps ih =>
  intro vs us used seen x w1 i hh hl hK hU hβ;obtain⟨t,m⟩:=p;cases vs with
  | nil=>cases t<;>cases m<;>simp [q0q] at hh
  | cons v vs =>
   cases us with
   | nil=>exact hl.elim
   | cons u us =>
   obtain⟨hu,hl⟩:=hl;have tailβ:∀ q,(∀ n,i*8<=n->βc n=qck J ((i*8,q)::uses ps vs (i+1)) n)->∀ n,(i+1)*8<=n->βc n=qck J (uses ps vs (i+1)) n:=by
    intro q hq n hn;rw[hq n (by omega)];simp only[qck,q6q,if_neg (show ¬ i*8=n by omega)]
   cases m with
   | imm =>
    have hh:(bif anyN (qag v.cells) used || !fits t v then none else
        (match decA hp t v.cells with
        | some x=>(match q0q hp ps vs used (qag v.cells++seen) with | some (xs,w)=>some ((x,xs),frzW hp (qag v.cells)++w) | none=>none)
        | none=>none):Option (HL (fsts ((t,PM.imm)::ps))×List (Nat×Ob)))=some (x,w1):=by
      cases t<;>exact hh
    obtain⟨h1,hh⟩:=qbg hh;simp only[Bool.or_eq_false_iff] at h1;have hf:fits t v=true:=by simpa using h1.2
    split at hh
    · rename_i y hy;split at hh
      · rename_i xs w' hw;injection hh with hh
        injection hh with hh1 hh
        subst hh1;have eu:uses ((t,PM.imm)::ps) (v::vs) i=uses ps vs (i+1):=by cases t<;>cases v<;>rfl
        have ei:qdW ((t,PM.imm)::ps) (v::vs)=qag v.cells++qdW ps vs:=rfl;rw[eu] at hU hβ;rw[ei] at hK;have hv:=qsl hy hf hu (fun vs hvs=>hdec _ vs t y (fun k hk=>hK k (List.mem_append.2 (.inl hk))) hvs hy);have ht:=ih hw hl (fun k hk=>hK k (List.mem_append.2 (.inr hk))) hU (fun n hn=>hβ n (by omega));cases t<;>exact⟨hv,ht⟩
      · cases hh
    · cases hh
   | own =>
    cases t with
    | sl e =>
      cases v with
      | nil =>
        simp only[q0q] at hh;split at hh
        · rename_i xs w' hw;injection hh with hh
          injection hh with hh1 hh
          subst hh1;have e0:βc (i*8)=none:=by
            rw[hβ _ (Nat.le_refl _)];show qck J (uses ps vs (i+1)) (i*8)=none;unfold qck;cases hg:get (uses ps vs (i+1)) (i*8) with
            | none=>rfl
            | some p=>have:=(qrq hg).1;omega
          refine⟨?_,ih hw hl hK hU (fun n hn=>hβ n (by omega))⟩;simp only[OwnV,e0];exact⟨trivial,hu⟩
        · cases hh
      | osl k off len =>
        cases off with
        | succ off=>simp [q0q] at hh
        | zero =>
          simp only[q0q] at hh;obtain⟨h1,hh⟩:=qbg hh;split at hh
          · rename_i t' xs hk;split at hh
            · rename_i ys hys;obtain⟨rfl,rfl⟩:=qda hys;split at hh
              · rename_i zs w' hw;injection hh with hh
                injection hh with hh1 hh
                subst hh1;refine⟨?_,ih hw hl hK (fun k hk=>hU k (List.mem_cons_of_mem _ hk)) (tailβ (k,0) hβ)⟩;have hk':=hs k _ hk;obtain⟨hwin,h2⟩:=qdS R hk' hu;have hlen:=qbt hwin;have e0:βc (i*8)=(J k).map fun p=>(p.1,p.2+0):=by
                  rw[hβ _ (Nat.le_refl _)];show qck J ((i*8,(k,0))::uses ps vs (i+1)) (i*8)=_;simp [qck,q6q]
                rcases h2 with ⟨hb,_,h3,rfl⟩ | ⟨b,o,x0,cap,hb,rfl,hcap,hx,hown⟩
                · simp only [OwnV, e0, hb, Option.map_none];exact⟨List.eq_nil_of_length_eq_zero (by rw[hlen,h3]),trivial⟩
                · have hor := R.obs k _ hk';simp only[ORel,hb] at hor;obtain⟨⟨c,hc,hcsz⟩,hrow,_,_,ho0⟩:=hor;obtain rfl:=ho0 trivial;obtain⟨c2,hc2,hcapsz⟩:=hown rfl;simp only[OwnV,e0,hb,Option.map_some];refine⟨trivial,hU k List.mem_cons_self b 0 hb,x0,cap,c2,by rw[hlen],by rw[hlen];exact hcap,by simpa using hx,hc2,by simpa using hcapsz,fun j y hy=>?_⟩;obtain⟨ds,d1,d2⟩:=hrow j y (by have:=qhY hy;rwa [Nat.zero_add] at this)
                  exact⟨ds,d1.mono hS1 (fun _ _=>rfl),d2⟩
              · cases hh
            · cases hh
          · cases hh
      | junk=>simp [q0q] at hh
      | val _ _=>simp [q0q] at hh
      | ptr _ _ _=>simp [q0q] at hh
      | iptr _ _ _=>simp [q0q] at hh
      | nilp=>simp [q0q] at hh
      | vw _ _=>simp [q0q] at hh
      | vp _ _ _ _=>simp [q0q] at hh
      | fx _=>simp [q0q] at hh
      | agg _=>simp [q0q] at hh
      | tup _=>simp [q0q] at hh
      | clo _ _=>simp [q0q] at hh
    | int _=>simp [q0q] at hh
    | bool=>simp [q0q] at hh
    | str | os _ | op _=>simp [q0q] at hh
    | unit=>simp [q0q] at hh
    | pair _ _=>simp [q0q] at hh
   | lent =>
    cases t with
    | sl e =>
      cases v with
      | osl k off len =>
        simp only[q0q] at hh;obtain⟨h1,hh⟩:=qbg hh;split at hh
        · cases hh
        · rename_i t' xs md hnf hk;split at hh
          · rename_i ys hys;obtain⟨rfl,rfl⟩:=qda hys;split at hh
            · rename_i zs w' hw;injection hh with hh
              injection hh with hh1 hh
              subst hh1;refine⟨?_,ih hw hl hK (fun k hk=>hU k (List.mem_cons_of_mem _ hk)) (tailβ _ hβ)⟩;have hk':=hs k _ hk;obtain⟨hwin,h2⟩:=qdS R hk' hu;have hlen:=qbt hwin;have hwl:=qhh hwin;have e0:βc (i*8)=(J k).map fun p=>(p.1,p.2+off*t'.size):=by
                rw[hβ _ (Nat.le_refl _)];show qck J ((i*8,(k,off*t'.size))::uses ps vs (i+1)) (i*8)=_;simp [qck,q6q]
              rcases h2 with ⟨hb,_,h3,rfl⟩ | ⟨b,o,x0,cap,hb,rfl,hcap,hx,hown⟩
              · simp only [qrk, e0, hb, Option.map_none];exact⟨List.eq_nil_of_length_eq_zero (by rw[hlen,h3]),trivial⟩
              · have hor := R.obs k _ hk';simp only[ORel,hb] at hor;obtain⟨⟨c,hc,hcsz⟩,hrow,_,_,ho0⟩:=hor;simp only[qrk,e0,hb,Option.map_some];have hm:=Nat.mul_le_mul_right t'.size hwl;rw[Nat.add_mul] at hm;refine⟨hU k List.mem_cons_self b o hb,x0,cap,c,by rw[hlen],by rw[hlen];exact hcap,hx,hc,by rw[hlen];omega,fun j y hy=>?_⟩
                obtain⟨ds,d1,d2⟩:=hrow (off+j) y (qhY hy);refine⟨ds,d1.mono hS1 (fun _ _=>rfl),?_⟩;rw[Nat.add_mul,<- Nat.add_assoc] at d2;exact d2
            · cases hh
          · cases hh
        · cases hh
      | nil=>simp [q0q] at hh
      | junk=>simp [q0q] at hh
      | val _ _=>simp [q0q] at hh
      | ptr _ _ _=>simp [q0q] at hh
      | iptr _ _ _=>simp [q0q] at hh
      | nilp=>simp [q0q] at hh
      | vw _ _=>simp [q0q] at hh
      | vp _ _ _ _=>simp [q0q] at hh
      | fx _=>simp [q0q] at hh
      | agg _=>simp [q0q] at hh
      | tup _=>simp [q0q] at hh
      | clo _ _=>simp [q0q] at hh
    | int _=>simp [q0q] at hh
    | bool=>simp [q0q] at hh
    | str | os _ | op _=>simp [q0q] at hh
    | unit=>simp [q0q] at hh
    | pair _ _=>simp [q0q] at hh
end
variable {T:Told} {P:Program} {tb:Tb}
theorem qyX:∀ {ps:List (Ty×PM)} {i n:Nat},n∈ownK ps i->i*8<=n:=by
 intro ps
 induction ps with
 | nil=>intro i n h;simp [ownK] at h
 | cons p ps ih =>
  intro i n h;obtain⟨t,m⟩:=p;cases m<;>simp only[ownK,List.mem_cons] at h
  · have:=ih h;omega
  · rcases h with rfl | h
    · exact Nat.le_refl _
    · have:=ih h;omega
  · have:=ih h;omega
theorem qkV:∀ {ps:List (Ty×PM)} {i n:Nat},n∈qdo ps i->i*8<=n:=by
 intro ps
 induction ps with
 | nil=>intro i n h;simp [qdo] at h
 | cons p ps ih =>
  intro i n h;obtain⟨t,m⟩:=p;cases m<;>simp only[qdo,List.mem_cons] at h
  · have:=ih h;omega
  · have:=ih h;omega
  · rcases h with rfl | h
    · exact Nat.le_refl _
    · have:=ih h;omega
theorem qhJ:∀ {ps:List (Ty×PM)} {i n:Nat},n∈ownK ps i->n ∉ qdo ps i:=by
 intro ps
 induction ps with
 | nil=>intro i n h;simp [ownK] at h
 | cons p ps ih =>
  intro i n h h';obtain⟨t,m⟩:=p;cases m<;>simp only[ownK,qdo,List.mem_cons] at h h'
  · exact ih h h'
  · rcases h with rfl | h
    · have:=qkV h';omega
    · exact ih h h'
  · rcases h' with rfl | h'
    · have:=qyX h;omega
    · exact ih h h'
theorem qi0 {l:List (Nat×(Nat×Nat))} (hn:(useK l).Nodup):∀ {n n' k o o':Nat},get l n=some (k,o)->get l n'=some (k,o')->n=n':=by
 induction l with
 | nil=>intro n n' k o o' h;simp [get] at h
 | cons x l ih =>
  intro n n' k o o' h h';obtain⟨m,k0,o0⟩:=x;simp only[useK,List.map_cons,List.nodup_cons] at hn;rw[q6q] at h h';have mem:∀ {n o},get l n=some (k,o)->k∈useK l:=fun h=>List.mem_map.2 ⟨_,qaT h,rfl⟩
  split at h
  · split at h'
    · omega
    · injection h with h;injection h with h _;subst h;exact absurd (mem h') hn.1
  · split at h'
    · injection h' with h';injection h' with h' _;subst h';exact absurd (mem h) hn.1
    · exact ih hn.2 h h'
theorem qcL {h:Hp}:∀ {ps:List (Ty×PM)} {vs:List PV} {used seen:List Nat} {x:HL (fsts ps)} {w1:List (Nat×Ob)} {i:Nat},q0q h ps vs used seen=some (x,w1) ->
  ∀ {n k off:Nat},(n,(k,off))∈uses ps vs i ->
   (k∈qab (qbk ps vs)/\n∈ownK ps i/\off=0/\∃ t xs,h k=some (.rows t xs .own))\/(n∈qdo ps i/\∃ t xs m,h k=some (.rows t xs m)/\m≠.frz):=by
 intro ps
 induction ps with
 | nil =>
  intro vs used seen x w1 i hh n k off hg;cases vs<;>simp [uses] at hg
 | cons p ps ih =>
  intro vs used seen x w1 i hh n k off hg;obtain⟨t,m⟩:=p;cases vs with
  | nil=>cases m<;>simp [uses] at hg
  | cons v vs =>
   cases m with
   | imm =>
    have hh:(bif anyN (qag v.cells) used || !fits t v then none else
        (match decA h t v.cells with
        | some x=>(match q0q h ps vs used (qag v.cells++seen) with | some (xs,w)=>some ((x,xs),frzW h (qag v.cells)++w) | none=>none)
        | none=>none):Option (HL (fsts ((t,PM.imm)::ps))×List (Nat×Ob)))=some (x,w1):=by
      cases t<;>exact hh
    obtain⟨h1,hh⟩:=qbg hh;split at hh
    · split at hh
      · rename_i xs w' hw;have eu:uses ((t,PM.imm)::ps) (v::vs) i=uses ps vs (i+1):=by cases t<;>cases v<;>rfl
        have eg:qbk ((t,PM.imm)::ps) (v::vs)=qbk ps vs:=by cases t<;>cases v<;>rfl
        rw[eu] at hg;rw[eg];exact ih hw hg
      · cases hh
    · cases hh
   | own =>
    cases t with
    | sl e =>
      cases v with
      | nil =>
        simp only[q0q] at hh;split at hh
        · rename_i xs w' hw;exact(ih hw hg).imp (fun⟨h1,h2,h3⟩=>⟨h1,List.mem_cons_of_mem _ h2,h3⟩) id
        · cases hh
      | osl k0 off0 len =>
        cases off0 with
        | succ off=>simp [q0q] at hh
        | zero =>
          simp only[q0q] at hh;obtain⟨h1,hh⟩:=qbg hh;split at hh
          · rename_i t' xs hk;split at hh
            · split at hh
              · rename_i zs w' hw;rcases List.mem_cons.1 hg with hg | hg
                · injection hg with e1 hg
                  injection hg with g1 g2
                  subst g1;subst g2;subst e1;exact .inl ⟨by simp [qbk,qab],List.mem_cons_self,rfl,t',xs,hk⟩
                · exact(ih hw hg).imp (fun⟨h1,h2,h3⟩=>⟨List.mem_cons_of_mem _ h1,List.mem_cons_of_mem _ h2,h3⟩) id
              · cases hh
            · cases hh
          · cases hh
      | junk=>simp [q0q] at hh
      | val _ _=>simp [q0q] at hh
      | ptr _ _ _=>simp [q0q] at hh
      | iptr _ _ _=>simp [q0q] at hh
      | nilp=>simp [q0q] at hh
      | vw _ _=>simp [q0q] at hh
      | vp _ _ _ _=>simp [q0q] at hh
      | fx _=>simp [q0q] at hh
      | agg _=>simp [q0q] at hh
      | tup _=>simp [q0q] at hh
      | clo _ _=>simp [q0q] at hh
    | int _=>simp [q0q] at hh
    | bool=>simp [q0q] at hh
    | str | os _ | op _=>simp [q0q] at hh
    | unit=>simp [q0q] at hh
    | pair _ _=>simp [q0q] at hh
   | lent =>
    cases t with
    | sl e =>
      cases v with
      | osl k0 off0 len =>
        simp only[q0q] at hh;obtain⟨h1,hh⟩:=qbg hh;split at hh
        · cases hh
        · rename_i t' xs md hnf hk;split at hh
          · split at hh
            · rename_i zs w' hw;rcases List.mem_cons.1 hg with hg | hg
              · injection hg with e1 hg
                injection hg with g1 g2
                subst g1;subst e1;exact .inr ⟨List.mem_cons_self,t',xs,md,hk,hnf⟩
              · exact(ih hw hg).imp id (fun⟨h1,h2⟩=>⟨List.mem_cons_of_mem _ h1,h2⟩)
            · cases hh
          · cases hh
        · cases hh
      | nil=>simp [q0q] at hh
      | junk=>simp [q0q] at hh
      | val _ _=>simp [q0q] at hh
      | ptr _ _ _=>simp [q0q] at hh
      | iptr _ _ _=>simp [q0q] at hh
      | nilp=>simp [q0q] at hh
      | vw _ _=>simp [q0q] at hh
      | vp _ _ _ _=>simp [q0q] at hh
      | fx _=>simp [q0q] at hh
      | agg _=>simp [q0q] at hh
      | tup _=>simp [q0q] at hh
      | clo _ _=>simp [q0q] at hh
    | int _=>simp [q0q] at hh
    | bool=>simp [q0q] at hh
    | str | os _ | op _=>simp [q0q] at hh
    | unit=>simp [q0q] at hh
    | pair _ _=>simp [q0q] at hh
theorem qoy {h:Hp} {w w':World} {S':Foot} {J βc:Con}:∀ {ps:List (Ty×PM)} {vs:List PV} {used seen:List Nat} {x:HL (fsts ps)} {w1:List (Nat×Ob)} {i:Nat} {y:HL (qha ps)} {w2:List (Nat×Ob)},
  q0q h ps vs used seen=some (x,w1)->qaB h ps vs y=some w2->qld w w' S' βc ps i x y->(∀ n,i*8<=n->βc n=qck J (uses ps vs i) n) ->
  (∀ n k off,get (uses ps vs i) n=some (k,off)->n∈qdo ps i->k∈qab w2) /\
  ∀ k ob,get w2 k=some ob->∃ (n off:Nat) (len:Option Nat) (t:Ty) (xs ys:List t.den) (m:Md),get (uses ps vs i) n=some (k,off*t.size)/\n∈qdo ps i/\h k=some (.rows t xs m)/\ob=.rows t (over xs off ys) m /\
   qzF w w' S' ((J k).map fun p=>(p.1,p.2+off*t.size)) t (win xs off len) ys/\∃ j:Nat,vs[j]?=some (PV.osl k off len):=by
 intro ps
 induction ps with
 | nil =>
  intro vs used seen x w1 i y w2 hh ho hl hβ;cases vs with
  | nil =>
   simp only[qaB] at ho;injection ho with ho
   subst ho;exact⟨fun n k off h=>by simp [uses,get] at h,fun k ob h=>by simp [get] at h⟩
  | cons v vs=>simp [q0q] at hh
 | cons p ps ih =>
  intro vs used seen x w1 i y w2 hh ho hl hβ;obtain⟨t,m⟩:=p;cases vs with
  | nil=>cases t<;>cases m<;>simp [q0q] at hh
  | cons v vs =>
   cases m with
   | imm =>
    have hh:(bif anyN (qag v.cells) used || !fits t v then none else
        (match decA h t v.cells with
        | some x=>(match q0q h ps vs used (qag v.cells++seen) with | some (xs,w)=>some ((x,xs),frzW h (qag v.cells)++w) | none=>none)
        | none=>none):Option (HL (fsts ((t,PM.imm)::ps))×List (Nat×Ob)))=some (x,w1):=by
      cases t<;>exact hh
    obtain⟨h1,hh⟩:=qbg hh;split at hh
    · split at hh
      · rename_i xs wq hw;injection hh with hh
        injection hh with hh1 hh
        subst hh1;have eu:uses ((t,PM.imm)::ps) (v::vs) i=uses ps vs (i+1):=by cases t<;>cases v<;>rfl
        rw[eu] at hβ ⊢;have ho':qaB h ps vs y=some w2:=by cases t<;>exact ho
        have hl':qld w w' S' βc ps (i+1) xs y:=by cases t<;>exact hl
        obtain⟨r1,r2⟩:=ih hw ho' hl' (fun n hn=>hβ n (by omega));refine⟨r1,fun k ob hk=>?_⟩;obtain⟨n,off,len,t,xs,ys,m,q1,q2,q3,q4,q5,j,q6⟩:=r2 k ob hk;exact⟨n,off,len,t,xs,ys,m,q1,q2,q3,q4,q5,j+1,q6⟩
      · cases hh
    · cases hh
   | own =>
    cases t with
    | sl e =>
      cases v with
      | nil =>
        simp only[q0q] at hh;split at hh
        · rename_i xs wq hw;injection hh with hh
          injection hh with hh1 hh
          subst hh1;obtain⟨r1,r2⟩:=ih (i:=i+1) hw ho hl (fun n hn=>hβ n (by omega));refine⟨r1,fun k ob hk=>?_⟩;obtain⟨n,off,len,t,xs,ys,m,q1,q2,q3,q4,q5,j,q6⟩:=r2 k ob hk;exact⟨n,off,len,t,xs,ys,m,q1,q2,q3,q4,q5,j+1,q6⟩
        · cases hh
      | osl k0 off0 len =>
        cases off0 with
        | succ off=>simp [q0q] at hh
        | zero =>
          simp only[q0q] at hh;obtain⟨h1,hh⟩:=qbg hh;split at hh
          · split at hh
            · split at hh
              · rename_i zs wq hw;injection hh with hh
                injection hh with hh1 hh
                subst hh1;have hβ':∀ n,(i+1)*8<=n->βc n=qck J (uses ps vs (i+1)) n:=fun n hn=>by
                  rw[hβ n (by omega)];simp only[uses,qck,q6q,if_neg (show ¬ i*8=n by omega)]
                obtain⟨r1,r2⟩:=ih (i:=i+1) hw ho hl hβ';have hne:∀ n,n∈qdo ps (i+1)->¬ i*8=n:=fun n hn=>by have:=qkV hn;omega
                refine⟨fun n k off hg hn=>r1 n k off ?_ hn,fun k ob hk=>?_⟩
                · simp only[uses,q6q,if_neg (hne n hn)] at hg;exact hg
                · obtain ⟨n, off, len, t, xs, ys, m, q1, q2, q3, q4, q5, j, q6⟩ := r2 k ob hk;exact⟨n,off,len,t,xs,ys,m,by simp only[uses,q6q,if_neg (hne n q2)];exact q1,q2,q3,q4,q5,j+1,q6⟩
              · cases hh
            · cases hh
          · cases hh
      | junk=>simp [q0q] at hh
      | val _ _=>simp [q0q] at hh
      | ptr _ _ _=>simp [q0q] at hh
      | iptr _ _ _=>simp [q0q] at hh
      | nilp=>simp [q0q] at hh
      | vw _ _=>simp [q0q] at hh
      | vp _ _ _ _=>simp [q0q] at hh
      | fx _=>simp [q0q] at hh
      | agg _=>simp [q0q] at hh
      | tup _=>simp [q0q] at hh
      | clo _ _=>simp [q0q] at hh
    | int _=>simp [q0q] at hh
    | bool=>simp [q0q] at hh
    | str | os _ | op _=>simp [q0q] at hh
    | unit=>simp [q0q] at hh
    | pair _ _=>simp [q0q] at hh
   | lent =>
    cases t with
    | sl e =>
      cases v with
      | osl k0 off0 len =>
        simp only[q0q] at hh;obtain⟨h1,hh⟩:=qbg hh;split at hh
        · cases hh
        · rename_i t' xs md hnf hk;split at hh
          · rename_i us hus;obtain⟨rfl,rfl⟩:=qda hus;split at hh
            · rename_i zs wq hw;injection hh with hh
              injection hh with hh1 hh
              subst hh1;obtain⟨y0,y⟩:=y;simp only[qaB,hk] at ho;split at ho
              · rename_i z0 hz0;obtain⟨e0,rfl⟩:=qda hz0;split at ho
                · rename_i w3 hw3;injection ho with ho
                  subst ho;obtain⟨hl0,hl⟩:=hl;have hβ':∀ n,(i+1)*8<=n->βc n=qck J (uses ps vs (i+1)) n:=fun n hn=>by
                    rw[hβ n (by omega)];simp only[uses,qck,q6q,if_neg (show ¬ i*8=n by omega)]
                  obtain⟨r1,r2⟩:=ih (i:=i+1) hw hw3 hl hβ';have hne:∀ n,n∈qdo ps (i+1)->¬ i*8=n:=fun n hn=>by have:=qkV hn;omega
                  have e1:βc (i*8)=(J k0).map fun p=>(p.1,p.2+off0*t'.size):=by
                    rw[hβ _ (Nat.le_refl _)];show qck J ((i*8,(k0,off0*t'.size))::uses ps vs (i+1)) (i*8)=_;simp [qck,q6q]
                  refine⟨fun n k off hg hn=>?_,fun k ob hk'=>?_⟩
                  · simp only [uses, q6q] at hg;simp only[qab,List.map_cons,List.mem_cons];split at hg
                    · injection hg with hg;injection hg with hg _;exact .inl hg.symm
                    · refine .inr (r1 n k off hg ?_);rename_i hh;rcases List.mem_cons.1 hn with h | h
                      · exact absurd h.symm hh
                      · exact h
                  · rw [q6q] at hk';split at hk'
                    · rename_i e2;subst e2;injection hk' with hk'
                      subst hk';rw[e1] at hl0;exact⟨i*8,off0,len,t',_,_,md,by simp [uses,q6q],List.mem_cons_self,hk,rfl,hl0,0,rfl⟩
                    · obtain ⟨n, off, len', t, xs, ys, m, q1, q2, q3, q4, q5, j, q6⟩ := r2 k ob hk';exact⟨n,off,len',t,xs,ys,m,by simp only[uses,q6q,if_neg (hne n q2)];exact q1,List.mem_cons_of_mem _ q2,q3,q4,q5,j+1,q6⟩
                · cases ho
              · cases ho
            · cases hh
          · cases hh
        · cases hh
      | nil=>simp [q0q] at hh
      | junk=>simp [q0q] at hh
      | val _ _=>simp [q0q] at hh
      | ptr _ _ _=>simp [q0q] at hh
      | iptr _ _ _=>simp [q0q] at hh
      | nilp=>simp [q0q] at hh
      | vw _ _=>simp [q0q] at hh
      | vp _ _ _ _=>simp [q0q] at hh
      | fx _=>simp [q0q] at hh
      | agg _=>simp [q0q] at hh
      | tup _=>simp [q0q] at hh
      | clo _ _=>simp [q0q] at hh
    | int _=>simp [q0q] at hh
    | bool=>simp [q0q] at hh
    | str | os _ | op _=>simp [q0q] at hh
    | unit=>simp [q0q] at hh
    | pair _ _=>simp [q0q] at hh
theorem qy3 (rs:List (Ty×Bool)):nOwn rs<=rs.length:=by
 induction rs with
 | nil=>exact Nat.le_refl _
 | cons r rs ih=>obtain⟨t,b⟩:=r;cases b<;>simp only[nOwn,List.length_cons]<;>omega
theorem qnJ {h:Hp} {w':World} {S':Foot} {ρ:Con}:∀ {rs:List (Ty×Bool)} {y:HL (fsts rs)} {k j:Nat} {l:List PV} {w3:List (Nat×Ob)} {vs:List Value},qaU h rs y k=some (l,w3)->ResV w' S' ρ rs j y vs ->
  l.length=rs.length/\∀ n ob,get w3 n=some ob->k<=n/\n<k+nOwn rs/\h n=none/\∃ (e:Ty) (xs:List e.den) (v:Value),ob=.rows e xs .own/\OwnV w' S' (ρ (j+(n-k))) e xs v:=by
 intro rs
 induction rs with
 | nil =>
  intro y k j l w3 vs hh hr;simp only[qaU] at hh;injection hh with hh
  injection hh with h1 h2
  subst h1;subst h2;exact⟨rfl,fun n ob h=>by simp [get] at h⟩
 | cons r rs ih =>
  intro y k j l w3 vs hh hr;obtain⟨t,m⟩:=r;obtain⟨x,q⟩:=y;cases m with
  | false =>
   have hh:(match qaU h rs q k with | some (l,w)=>some (toPV t x::l,w) | none=>none)=some (l,w3):=by cases t<;>exact hh
   cases vs with
   | nil=>exfalso;cases t<;>exact hr
   | cons v vs =>
    have hr:VRel w' S' t x v/\ResV w' S' ρ rs j q vs:=by cases t<;>exact hr
    split at hh
    · rename_i l0 w0 h0;injection hh with hh
      injection hh with h1 h2
      subst h1;subst h2;obtain⟨a1,a2⟩:=ih h0 hr.2;refine⟨by simp [a1],fun n ob hn=>?_⟩;obtain⟨b1,b2,b3,e,xs,v',b4,b5⟩:=a2 n ob hn;exact⟨b1,by simp only[nOwn];omega,b3,e,xs,v',b4,b5⟩
    · cases hh
  | true =>
   cases t with
   | sl e =>
    cases vs with
    | nil=>exact hr.elim
    | cons v vs =>
      obtain⟨hr0,hr⟩:=hr;simp only[qaU] at hh;split at hh
      · rename_i hkn;split at hh
        · rename_i l0 w0 h0;injection hh with hh
          injection hh with h1 h2
          subst h1;subst h2;obtain⟨a1,a2⟩:=ih h0 hr;refine⟨by simp [a1],fun n ob hn=>?_⟩;rw[q6q] at hn;split at hn
          · rename_i e1;subst e1;injection hn with hn
            subst hn;exact⟨Nat.le_refl _,by simp only[nOwn];omega,hkn,e,x,v,rfl,by simpa using hr0⟩
          · obtain ⟨b1, b2, b3, e, xs, v', b4, b5⟩ := a2 n ob hn;exact⟨by omega,by simp only[nOwn];omega,b3,e,xs,v',b4,by rwa [show j+(n-k)=j+1+(n-(k+1)) by omega]⟩
        · cases hh
      · cases hh
   | int _=>simp [qaU] at hh
   | bool=>simp [qaU] at hh
   | str | os _ | op _=>simp [qaU] at hh
   | unit=>simp [qaU] at hh
   | pair _ _=>simp [qaU] at hh
theorem qre {h:Hp} {w':World} {S':Foot} {ρ J':Con} {g':Hp}:∀ {rs:List (Ty×Bool)} {y:HL (fsts rs)} {k j:Nat} {l:List PV} {w3:List (Nat×Ob)} {vs:List Value},qaU h rs y k=some (l,w3)->ResV w' S' ρ rs j y vs ->
  (∀ n ob,get w3 n=some ob->g' n=some ob/\J' n=ρ (j+(n-k)))->All2 (qbQ w' S' J' g') l vs:=by
 intro rs
 induction rs with
 | nil =>
  intro y k j l w3 vs hh hr hg;simp only[qaU] at hh;injection hh with hh
  injection hh with h1 h2
  subst h1;cases vs with
  | nil=>trivial
  | cons _ _=>exact hr.elim
 | cons r rs ih =>
  intro y k j l w3 vs hh hr hg;obtain⟨t,m⟩:=r;obtain⟨x,q⟩:=y;cases m with
  | false =>
   have hh:(match qaU h rs q k with | some (l,w)=>some (toPV t x::l,w) | none=>none)=some (l,w3):=by cases t<;>exact hh
   cases vs with
   | nil=>exfalso;cases t<;>exact hr
   | cons v vs =>
    have hr:VRel w' S' t x v/\ResV w' S' ρ rs j q vs:=by cases t<;>exact hr
    split at hh
    · rename_i l0 w0 h0;injection hh with hh
      injection hh with h1 h2
      subst h1;subst h2;refine⟨hr.1.rel,ih h0 hr.2 fun n ob hn=>?_⟩;exact hg n ob hn
    · cases hh
  | true =>
   cases t with
   | sl e =>
    cases vs with
    | nil=>exact hr.elim
    | cons v vs =>
      obtain⟨hr0,hr⟩:=hr;simp only[qaU] at hh;split at hh
      · rename_i hkn;split at hh
        · rename_i l0 w0 h0;injection hh with hh
          injection hh with h1 h2
          subst h1;subst h2;refine⟨?_,ih h0 hr fun n ob hn=>?_⟩
          · obtain ⟨g1, g2⟩ := hg k (.rows e x .own) (by simp [q6q]);have:qac w' S' J' g' (.osl k 0 none) v:=by
             simp only[qac,g1];refine⟨by simp [qf1],?_⟩;rw[Nat.sub_self,Nat.add_zero] at g2;simp only[OslV,g2];simp only[OwnV] at hr0;cases hρ:ρ j with
             | none=>rw[hρ] at hr0;obtain⟨rfl,rfl⟩:=hr0;simp [wlen]
             | some p =>
              obtain⟨b,o⟩:=p;rw[hρ] at hr0;obtain⟨rfl,_,x0,cap,c,rfl,h1,h2,h3,h4,_⟩:=hr0;exact⟨x0,cap,by simp [wlen],by simpa [wlen] using h1,by simpa using h2,fun _=>⟨c,h3,by simpa using h4⟩⟩
            exact this.up1
          · have hb := (qnJ h0 hr).2 n ob hn;obtain⟨g1,g2⟩:=hg n ob (by rw[q6q,if_neg (by omega)];exact hn);exact⟨g1,by rw[g2];congr 1;omega⟩
        · cases hh
      · cases hh
   | int _=>simp [qaU] at hh
   | bool=>simp [qaU] at hh
   | str | os _ | op _=>simp [qaU] at hh
   | unit=>simp [qaU] at hh
   | pair _ _=>simp [qaU] at hh
theorem qhX {h:Hp}:∀ {rs:List (Ty×Bool)} {y:HL (fsts rs)} {k0:Nat} {l:List PV} {w3:List (Nat×Ob)},qaU h rs y k0=some (l,w3) ->
  ∀ j k ob,get w3 k=some ob->k0<=k/\resG rs j y (j+(k-k0))=some ob/\∃ e xs,ob=.rows e xs .own:=by
 intro rs
 induction rs with
 | nil =>
  intro y k0 l w3 hh j k ob hg;simp only[qaU,Option.some.injEq,Prod.mk.injEq] at hh;obtain⟨_,rfl⟩:=hh;simp [get] at hg
 | cons r rs ih =>
  obtain⟨t0,m0⟩:=r;intro y k0 l w3 hh j k ob hg;obtain⟨x,z⟩:=y;cases m0 with
  | false =>
   have hh:(match qaU h rs z k0 with | some (l,w)=>some (toPV t0 x::l,w) | none=>none:Option (List PV×List (Nat×Ob)))=some (l,w3):=by cases t0<;>exact hh
   split at hh
   · rename_i l' w' hw;simp only[Option.some.injEq,Prod.mk.injEq] at hh;obtain⟨_,rfl⟩:=hh;obtain⟨h1,h2,h3⟩:=ih hw j k ob hg;refine⟨h1,?_,h3⟩;cases t0<;>exact h2
   · cases hh
  | true =>
   cases t0 with
   | sl e =>
     simp only[qaU] at hh;split at hh
     · split at hh
       · rename_i l' w' hw;simp only[Option.some.injEq,Prod.mk.injEq] at hh;obtain⟨_,rfl⟩:=hh;rw[q6q] at hg;split at hg
         · rename_i e0;subst e0;injection hg with hg
           refine⟨Nat.le_refl _,?_,e,x,hg.symm⟩;simp only[resG,Nat.sub_self,Nat.add_zero,if_true];rw[hg]
         · rename_i e0;obtain⟨h1,h2,h3⟩:=ih hw (j+1) k ob hg;refine⟨by omega,?_,h3⟩;simp only[resG];rw[if_neg (by omega),show j+(k-k0)=j+1+(k-(k0+1)) by omega];exact h2
       · cases hh
     · cases hh
   | int _=>simp [qaU] at hh
   | bool=>simp [qaU] at hh
   | str | os _ | op _=>simp [qaU] at hh
   | unit=>simp [qaU] at hh
   | pair _ _=>simp [qaU] at hh
theorem qp2:∀ {rs:List (Ty×Bool)} {y:HL (fsts rs)} {j n:Nat} {e:Ty} {xs:List e.den} {m:Md},qn4 rs=true->resG rs j y n=some (.rows e xs m)->e.flat=true:=by
 intro rs
 induction rs with
 | nil=>intro y j n e xs m _ h;simp [resG] at h
 | cons r rs ih =>
  obtain⟨t0,m0⟩:=r;intro y j n e xs m hf h;obtain⟨x,z⟩:=y;cases m0 with
  | false =>
   have h':resG rs j z n=some (.rows e xs m):=by cases t0<;>exact h
   exact ih (by cases t0<;>exact hf) h'
  | true =>
   cases t0 with
   | sl e0 =>
    simp only[qn4,Bool.and_eq_true] at hf;simp only[resG] at h;split at h
    · injection h with h
      injection h with h1 h2 h3
      subst h1;exact hf.1
    · exact ih hf.2 h
   | int _=>simp [resG] at h
   | bool=>simp [resG] at h
   | str | os _ | op _=>simp [resG] at h
   | unit=>simp [resG] at h
   | pair _ _=>simp [resG] at h
theorem qgl {h:Hp}:∀ {ps:List (Ty×PM)} {vs:List PV} {y:HL (qha ps)} {w2:List (Nat×Ob)},qaB h ps vs y=some w2->qlJ ps=true ->
  ∀ n t xs m,get w2 n=some (.rows t xs m)->t.flat=true:=by
 intro ps
 induction ps with
 | nil =>
  intro vs y w2 h1 _ n t xs m hg;cases vs with
  | nil=>simp only[qaB,Option.some.injEq] at h1;subst h1;simp [get] at hg
  | cons _ _=>simp [qaB] at h1
 | cons p ps ih =>
  intro vs y w2 h1 hf n t xs m hg;obtain⟨t0,m0⟩:=p;cases vs with
  | nil=>cases t0<;>cases m0<;>simp [qaB] at h1
  | cons v vs =>
   cases m0 with
   | imm =>
    have h2:∃ y':HL (qha ps),qaB h ps vs y'=some w2:=by cases t0<;>exact⟨y,h1⟩
    obtain⟨y',h2⟩:=h2;exact ih h2 (by cases t0<;>exact hf) n t xs m hg
   | own =>
    have h2:∃ y':HL (qha ps),qaB h ps vs y'=some w2:=by cases t0<;>exact⟨y,h1⟩
    obtain⟨y',h2⟩:=h2;exact ih h2 (by cases t0<;>first | exact hf | (simp only[qlJ,Bool.and_eq_true] at hf;exact hf.2)) n t xs m hg
   | lent =>
    cases t0 with
    | sl e =>
     simp only[qlJ,Bool.and_eq_true] at hf;cases v with
     | osl k off len =>
      obtain⟨ys,r⟩:=y;simp only[qaB] at h1;split at h1
      · rename_i t1 xs1 m1 hk;split at h1
        · rename_i zs hz;obtain⟨e1,_⟩:=qda hz;split at h1
          · rename_i w' hw;injection h1 with h1
            subst h1;rw[q6q] at hg;split at hg
            · injection hg with hg;injection hg with hg;subst hg;rw[<- e1];exact hf.1
            · exact ih hw hf.2 n t xs m hg
          · cases h1
        · cases h1
      · cases h1
     | junk=>simp [qaB] at h1
     | val _ _=>simp [qaB] at h1
     | nil=>simp [qaB] at h1
     | ptr _ _ _=>simp [qaB] at h1
     | iptr _ _ _=>simp [qaB] at h1
     | nilp=>simp [qaB] at h1
     | vw _ _=>simp [qaB] at h1
     | vp _ _ _ _=>simp [qaB] at h1
     | fx _=>simp [qaB] at h1
     | agg _=>simp [qaB] at h1
     | tup _=>simp [qaB] at h1
     | clo _ _=>simp [qaB] at h1
    | int _=>simp [qaB] at h1
    | bool=>simp [qaB] at h1
    | str=>simp [qaB] at h1
    | unit=>simp [qaB] at h1
    | pair _ _=>simp [qaB] at h1
    | os _=>simp [qaB] at h1
    | op _=>simp [qaB] at h1
variable {T:Told} {P:Program} {tb:Tb}
theorem qlV {f : FuncId} {fn : Func} (h1 : P.funcs[f]? = some fn) (h2 : (fn.name == "runtime.NumGoroutine") = false) (h3 : fn.body.isNone = false) (args : Array Value) (w : World) :
  (callFunc f args).run P w=.ok (.enter f args) w:=by
 have h2' : ¬ fn.name = "runtime.NumGoroutine" := by simpa using h2
 have h3':¬ fn.body=none:=by intro e;rw[e] at h3;cases h3
 unfold callFunc;simp [Sem.run_bind,h1,h2',h3']
theorem qm4 {w w':World} {S S':Foot} (hS:∀ b,S b->S' b) (hw:∀ b,S b->w'.heap[b]?=w.heap[b]?) {t:Ty} {xs ys:List t.den} {b o off:Nat} {c0 c:Array Value} (hc0:Blk w b c0) (hc:Blk w' b c)
   (hr:qdG (Cell w S t) t.size w b o xs) (hoff:off+ys.length<=xs.length) (hout:∀ j,(j<o+off*t.size\/o+off*t.size+ys.length*t.size<=j)->c[j]?=c0[j]?)
   (hn:qdG (Cell w' S' t) t.size w' b (o+off*t.size) ys):qdG (Cell w' S' t) t.size w' b o (over xs off ys):=by
 intro i x hx;rcases qsO hoff hx with ⟨hi,hx⟩ | ⟨hi1,hi2,hx⟩
 · obtain ⟨ds, e1, e2⟩ := hr i x hx;refine⟨ds,e1.mono hS hw,fun j v hv=>?_⟩;have hj:=(List.getElem?_eq_some_iff.1 hv).1;rw[e1.length] at hj;have h3:=e2 j v hv;rw[hc0.cell] at h3;rw[hc.cell,hout]
   · exact h3
   · rcases hi with hi | hi
     · left
       have:=Nat.mul_le_mul_right t.size (show i+1<=off from hi);rw[Nat.add_mul,Nat.one_mul] at this;omega
     · right
       have:=Nat.mul_le_mul_right t.size hi;rw[Nat.add_mul] at this;omega
 · obtain ⟨ds, e1, e2⟩ := hn _ x hx;refine⟨ds,e1,?_⟩
   rwa [show o+i*t.size=o+off*t.size+(i-off)*t.size by
     have:i*t.size=off*t.size+(i-off)*t.size:=by rw[<- Nat.add_mul];congr 1;omega
     omega]
theorem qot:∀ {ps:List (Ty×PM)} {vs:List PV} {k:Nat} {ob:Ob},get (qbk ps vs) k=some ob->ob=.gone:=by
 intro ps
 induction ps with
 | nil=>intro vs k ob h;cases vs<;>simp [qbk,get] at h
 | cons p ps ih =>
  intro vs k ob h;obtain⟨t,m⟩:=p;cases vs with
  | nil=>cases t<;>cases m<;>simp [qbk,get] at h
  | cons v vs =>
   have hd:∀ q,get ((q,Ob.gone)::qbk ps vs) k=some ob->ob=.gone:=by
    intro q h;rw[q6q] at h;split at h
    · injection h with h;exact h.symm
    · exact ih h
   cases m with
   | own=>cases t<;>cases v<;>first | exact ih h | exact hd _ h
   | imm=>cases t<;>cases v<;>exact ih h
   | lent=>cases t<;>cases v<;>exact ih h
theorem qlF:∀ {ps:List (Ty×PM)} {vs:List PV} {i k:Nat},k∈qab (qbk ps vs)->∃ n off,(n,(k,off))∈uses ps vs i/\n∈ownK ps i:=by
 intro ps
 induction ps with
 | nil=>intro vs i k h;cases vs<;>simp [qbk,qab] at h
 | cons p ps ih =>
  intro vs i k h;obtain⟨t,m⟩:=p;cases vs with
  | nil=>cases t<;>cases m<;>simp [qbk,qab] at h
  | cons v vs =>
   cases m with
   | own =>
    have tl:k∈qab (qbk ps vs)->∃ n off,(n,(k,off))∈uses ps vs (i+1)/\n∈ownK ((t,PM.own)::ps) i:=fun h=>by
     obtain⟨n,off,h1,h2⟩:=ih (i:=i+1) h;exact⟨n,off,h1,List.mem_cons_of_mem _ h2⟩
    have hd:∀ q,k∈qab ((q,Ob.gone)::qbk ps vs)->∃ n off,(n,(k,off))∈(i*8,(q,0))::uses ps vs (i+1)/\n∈ownK ((t,PM.own)::ps) i:=by
     intro q h;simp only[qab,List.map_cons,List.mem_cons] at h;rcases h with rfl | h
     · exact⟨i*8,0,List.mem_cons_self,List.mem_cons_self⟩
     · obtain ⟨n, off, h1, h2⟩ := tl h;exact⟨n,off,List.mem_cons_of_mem _ h1,h2⟩
    cases t<;>cases v<;>first | exact tl h | exact hd _ h
   | imm=>cases t<;>cases v<;>exact ih h
   | lent =>
    have hh:k∈qab (qbk ps vs):=by cases t<;>cases v<;>exact h
    obtain⟨n,off,h1,h2⟩:=ih (i:=i+1) hh;refine⟨n,off,?_,h2⟩;cases t<;>cases v<;>first | exact h1 | exact List.mem_cons_of_mem _ h1
theorem qqn {l:List (Nat×(Nat×Nat))} (hn:(useK l).Nodup):∀ {n n' k o o':Nat},(n,(k,o))∈l->(n',(k,o'))∈l->n=n':=by
 induction l with
 | nil=>intro n n' k o o' h;simp at h
 | cons x l ih =>
  intro n n' k o o' h h';simp only[useK,List.map_cons,List.nodup_cons] at hn;have mem:∀ {n o},(n,(k,o))∈l->k∈useK l:=fun h=>List.mem_map.2 ⟨_,h,rfl⟩
  rcases List.mem_cons.1 h with e | g
  · subst e;rcases List.mem_cons.1 h' with e' | g'
    · injection e' with e' _;exact e'.symm
    · exact absurd (mem g') hn.1
  · rcases List.mem_cons.1 h' with e' | g'
    · subst e';exact absurd (mem g) hn.1
    · exact ih hn.2 g g'
def Kept (w w':World) (J J':Con) (g g':Hp):Prop :=
 ∀ k t (xs xs':List t.den),g k=some (.rows t xs .own)->g' k=some (.rows t xs' .own)->xs'.length=xs.length/\J' k=J k /\
  (∀ b o c,J k=some (b,o)->Blk w b c->∃ c',Blk w' b c'/\c'.size=c.size)/\(t.flat=false->∀ b o,J k=some (b,o)->w'.heap[b]?=w.heap[b]?)
theorem qrd {env:Env} (hE:qoG T P env) {o:Oper} {s:St} {hp:Hp} (hs:Sub hp s) {f:FuncId} {ct:Ctr} (hf:env f=some ct) (hwi:ct.wi=none) {args:List PV} {d:Nat} (hd:o.dst=some d)
   (hn:∀ k,d*8<=k->k<d*8+8->hp k=none->get s.h k=none) {ef:Eff} (h:qgk hp o.dst ct args some=some ef)
   {B:Base} {w:World} {S:Foot} {J:Con} {a:Act} (R:Rel T B w S J s a) (hdo:qsd B.nt o.dst=true) {us:List Value} (hrun:(execOp a.eval o).run P w=(callFunc f us.toArray).run P w) (hus:All2 (TRel w S J (get s.h)) args us)
   {next:Act->World->Prop} {Q:Exit->Act->World->Prop}
   (hnx:∀ val w' S' J',Rel T B w' S' J' (s.app o.dst ef) (a.put o.dst val)->Kept w w' J J' (get s.h) (get (ef.hw++s.h))->next (a.put o.dst val) w'):o.wp P a w next Q:=by
 obtain⟨⟨fn,f1,f2,f3⟩,hdoes,hflat⟩:=hE f ct hf;simp only[Ctr.flat,Bool.and_eq_true] at hflat;rw[hwi] at hdoes;unfold Oper.wp;rw[hrun,qlV f1 f2 f3];rw[hd] at h;unfold qgk at h;simp only at h;split at h
 · rename_i x w1 hca;cases hF:ct.F x with
   | none=>rw[hF] at h;cases h
   | some r =>
    rw[hF] at h;simp only[Option.bind_some] at h;split at h
    · rename_i w2 hco;have hres:∃ l w3,qaU hp ct.rs (ct.enc r).2 (d*8)=some (l,w3)/\(l.length<=8\/nOwn ct.rs<=8)/\ef.hw=w3++w2++w1/\((∃ v,l=[v]/\ef.v=some v)\/((∀ v,l≠[v])/\ef.v=some (.tup l))):=by
       split at h
       · rename_i v w3 hr;injection h with h;subst h;exact⟨[v],w3,hr,.inl (by simp),rfl,.inl ⟨v,rfl,rfl⟩⟩
       · rename_i l w3 hne hr;obtain⟨h1,h⟩:=q8q h;injection h with h;subst h
         exact⟨l,w3,hr,.inr (Nat.le_of_ble_eq_true h1),rfl,.inr ⟨fun v e=>hne v (by rw[e]),rfl⟩⟩
       · cases h
      clear h;obtain⟨l,w3,hcr,hl8,hhw,hv⟩:=hres;obtain⟨k1,k2,k3,k4,k5⟩:=qk8 hca 0;obtain⟨S1,R1,hS1,hS1n,hdec⟩:=R.frz hs (qdW ct.ps args);generalize hK:qdW ct.ps args=K at *;have hfz:∀ k,k ∉ K->get (frzW hp K++s.h) k=get s.h k:=fun k hk=>by rw[q2q,qjj hk];rfl
      have huse:∀ {n k off:Nat},(n,(k,off))∈uses ct.ps args 0->k ∉ K/\∃ t xs m,hp k=some (.rows t xs m)/\m≠.frz:=by
       intro n k off hg;refine⟨(k2 k (List.mem_map.2 ⟨_,hg,rfl⟩)).2.2,?_⟩;rcases qcL hca hg with ⟨_,_,_,t,xs,h⟩ | ⟨_,t,xs,m,h1,h2⟩
       · exact⟨t,xs,_,h,by simp⟩
       · exact⟨t,xs,m,h1,h2⟩
      have hlive:∀ {n k off:Nat},(n,(k,off))∈uses ct.ps args 0->∃ ob,get s.h k=some ob/\ob.live=true/\get (frzW hp K++s.h) k=some ob:=by
       intro n k off hg;obtain⟨h1,t,xs,m,h2,h3⟩:=huse hg;exact⟨_,hs k _ h2,by cases m<;>first | rfl | exact absurd rfl h3,by rw[hfz k h1];exact hs k _ h2⟩
      have huS:∀ k∈useK (uses ct.ps args 0),∀ b o',J k=some (b,o')->¬ S1 b:=by
       intro k hk b o' hb;obtain⟨⟨n,k',off⟩,hm,rfl⟩:=List.mem_map.1 hk;obtain⟨ob,_,h2,h3⟩:=hlive hm;exact(R1.liveS h3 h2 hb).1
      have hcon:∀ {n b o':Nat},qck J (uses ct.ps args 0) n=some (b,o')->∃ k off o1,get (uses ct.ps args 0) n=some (k,off)/\J k=some (b,o1)/\o'=o1+off:=by
       intro n b o' hc;unfold qck at hc;split at hc
       · rename_i k off hg;cases hb:J k with
         | none=>rw[hb] at hc;cases hc
         | some p =>
           obtain⟨b1,o1⟩:=p;rw[hb] at hc;simp only[Option.map_some] at hc;injection hc with hc
           injection hc with h1 h2
           subst h1;exact⟨k,off,o1,hg,hb,h2.symm⟩
       · cases hc
      have hsame:∀ {k k' b o1 o2 n n' off off':Nat},(n,(k,off))∈uses ct.ps args 0->(n',(k',off'))∈uses ct.ps args 0->J k=some (b,o1)->J k'=some (b,o2)->k=k':=by
       intro k k' b o1 o2 n n' off off' hg hg' hb hb';obtain⟨ob,h1,h2,_⟩:=hlive hg;obtain⟨ob',h1',h2',_⟩:=hlive hg';exact R.inj k k' ob ob' b o1 o2 h1 h2 h1' h2' hb hb'
      have hen:qsr T w S1 (qck J (uses ct.ps args 0)) ct.ps x us:=by
       refine⟨qk9 R hs hS1 hdec hca hus (fun k hk=>by rw[<- hK];exact hk) huS (fun _ _=>rfl),fun n b o' hc=>?_,fun n n' b o1 o2 h1 h2=>?_,R1.Slt,R1.told,fun b hb=>R1.S0 b (R1.toldS b hb)⟩
       · obtain ⟨k, off, o1, hg, _⟩ := hcon hc;exact(qrq hg).2
       · obtain ⟨k, off, o1', hg, hb, _⟩ := hcon h1;obtain⟨k',off',o2',hg',hb',_⟩:=hcon h2;have:=hsame (qaT hg) (qaT hg') hb hb';subst this;exact qi0 k1 hg hg'
      refine Calls.mono (hdoes x r hF w S1 _ us hen) fun e w' he=>?_
      cases e with
      | panicked c=>exact he.elim
      | outgrown=>exact he.elim
      | returned v =>
       obtain⟨S',ρ,L⟩:=he;obtain⟨vs,rfl,hrs⟩:=L.res;obtain⟨hll,hw3⟩:=qnJ hcr hrs;obtain⟨o1,o2⟩:=qoy (J:=J) hca hco L.outs (fun _ _=>rfl);have hnew:∀ n ob,get w3 n=some ob->get s.h n=none:=fun n ob hg=>by
         obtain⟨a1,a2,a3,_⟩:=hw3 n ob hg;have:=qy3 ct.rs;exact hn n a1 (by omega) a3
       have hnew':∀ n ob,get w3 n=some ob->get (frzW hp K++s.h) n=none:=fun n ob hg=>by
         have h1:=hnew n ob hg;rw[q2q,h1];cases hq:get (frzW hp K) n with
         | none=>rfl
         | some ob' =>
           obtain⟨ob0,q1,_⟩:=qe8 hq;rw[hs n _ q1] at h1;cases h1
       let J':Con:=fun n=>if n∈qab w3 then ρ (n-d*8) else J n
       have hβ3:∀ n ob,get w3 n=some ob->J' n=ρ (n-d*8):=fun n ob hg=>by simp only[J',if_pos (qar hg)]
       have hβo:∀ n ob,get s.h n=some ob->J' n=J n:=fun n ob hg=>by
         have:n ∉ qab w3:=fun hm=>by
           obtain⟨ob',h'⟩:=q13q hm;rw[hnew n ob' h'] at hg;cases hg
         simp only[J',if_neg this]
       have hownk:∀ {n b o':Nat},n∈ownK ct.ps 0->qck J (uses ct.ps args 0) n=some (b,o')->∃ k t xs,get s.h k=some (.rows t xs .own)/\k∈qab (qbk ct.ps args)/\J k=some (b,0)/\o'=0:=by
         intro n b o' hm hc;obtain⟨k,off,o1',hg,hb,rfl⟩:=hcon hc;rcases qcL hca (qaT hg) with ⟨g1,_,rfl,t,xs,g2⟩ | ⟨g1,_⟩
         · have g3 := hs k _ g2;have:=R.obs k _ g3;simp only[ORel,hb] at this;have h0:=this.2.2.2.2 trivial;subst h0;exact⟨k,t,xs,g3,g1,hb,rfl⟩
         · exact absurd g1 (qhJ hm)
       have hWk:∀ {n b o':Nat},qck J (uses ct.ps args 0) n=some (b,o')->∃ k off o1' ob,(n,(k,off))∈uses ct.ps args 0/\k∈qab (w2++qbk ct.ps args)/\get s.h k=some ob/\ob.live=true/\get (frzW hp K++s.h) k=some ob/\J k=some (b,o1'):=by
         intro n b o' hc;obtain⟨k,off,o1',hg,hb,rfl⟩:=hcon hc;obtain⟨ob,q1,q2,q3⟩:=hlive (qaT hg);refine⟨k,off,o1',ob,qaT hg,?_,q1,q2,q3,hb⟩;simp only[qab,List.map_append,List.mem_append];rcases qcL hca (qaT hg) with ⟨g1,_⟩ | ⟨g1,_⟩
         · exact .inr g1
         · exact .inl (o1 n k off hg g1)
       have hS'no:∀ k ob b o',get (frzW hp K++s.h) k=some ob->k ∉ qab (qbk ct.ps args)->ob.live=true->J k=some (b,o')->¬ S' b:=by
         intro k ob b o' hk hm hl hb hS';rcases L.fresh b hS' with h | h | ⟨n,h1,o2',h2⟩
         · exact(R1.liveS hk hl hb).1 h
         · obtain ⟨c, hc⟩ := R1.blk hk (by rintro rfl; cases hl) hb;have:=hc.lt;omega
         · obtain ⟨k', t, xs, q1, q2, q3, _⟩ := hownk h1 h2;have q4:get (frzW hp K++s.h) k'=some (.rows t xs .own):=by
             rw[hfz];exact q1;obtain⟨ku,hku,hke⟩:=List.mem_map.1 (k4 k' q2);obtain⟨n1,k1',off1⟩:=ku;simp only at hke;subst hke;exact(huse hku).1
           have:=R1.inj k k' _ _ b _ _ hk hl q4 rfl hb q3;subst this;exact hm q2
       have hw2:∀ k ob,get w2 k=some ob->∃ (t:Ty) (xs ys:List t.den) (m:Md) (off:Nat),get s.h k=some (.rows t xs m)/\m≠.frz/\get (frzW hp K++s.h) k=some (.rows t xs m)/\k ∉ qab (qbk ct.ps args) /\
           ob=.rows t (over xs off ys) m/\off+ys.length<=xs.length/\∀ b o',J k=some (b,o')->¬ S' b/\∃ c0 c,Blk w b c0/\Blk w' b c/\c.size=c0.size /\
             (∀ j,(j<o'+off*t.size\/o'+off*t.size+ys.length*t.size<=j)->c[j]?=c0[j]?)/\qdG (Cell w' S' t) t.size w' b (o'+off*t.size) ys:=by
         intro k ob hk;obtain⟨n,off,len,t,xs,ys,m,q1,q2,q3,q4,q5,j,q6⟩:=o2 k ob hk;have hk':=hs k _ q3;have hmf:m≠.frz:=by
           obtain⟨_,t',xs',m',g1,g2⟩:=huse (qaT q1);rw[q3] at g1;injection g1 with g1;injection g1 with g1 g3 g4
           subst g4;exact g2
         obtain⟨u,hu1,hu2⟩:=hus.get q6;obtain⟨hwin,_⟩:=qdS R hk' hu2;have hwl:=qhh hwin;have hlen:=qbt hwin;obtain⟨q5,q7⟩:=q5;refine⟨t,xs,ys,m,off,hk',hmf,by rw[hfz k (huse (qaT q1)).1];exact hk',?_,q4,by omega,fun b o' hb=>?_⟩
         · intro hg;obtain⟨n',off',h1,h2⟩:=qlF (i:=0) hg;have:=qqn k1 h1 (qaT q1);subst this;exact qhJ h2 q2
         · rw [hb] at q7;simp only[Option.map_some] at q7;obtain⟨q7,c0,c,q8,q9,q10,q11,q12⟩:=q7;exact⟨q7,c0,c,q8,q9,q10,by rw[q5];exact q11,q12⟩
       have hgw:∀ k ob,get ((w3++(w2++qbk ct.ps args))++(frzW hp K++s.h)) k=some ob->get w3 k=some ob\/(get w3 k=none/\get w2 k=some ob)\/(k∈qab (w3++(w2++qbk ct.ps args))/\ob=.gone)\/(k ∉ qab (w3++(w2++qbk ct.ps args))/\get (frzW hp K++s.h) k=some ob):=by
         intro k ob hk;cases e3:get w3 k with
         | some ob3 =>
           rw[q2q,q2q,e3] at hk;exact .inl hk
         | none =>
           cases e2:get w2 k with
           | some ob2 =>
             rw[q2q,q2q,q2q,e3,e2] at hk;exact .inr (.inl ⟨rfl,hk⟩)
           | none =>
             cases e1:get (qbk ct.ps args) k with
             | some ob1 =>
               rw[q2q,q2q,q2q,e3,e2,e1] at hk;injection hk with hk
               subst hk;exact .inr (.inr (.inl ⟨by simp only[qab,List.map_append,List.mem_append];exact .inr (.inr (qar e1)),qot e1⟩))
             | none =>
               by_cases hm:k∈qab (w3++(w2++qbk ct.ps args))
               · obtain ⟨ob', h'⟩ := q13q hm;rw[q2q,q2q,e3,e2,e1] at h';cases h'
               · rw [q2q, q2q, q2q, e3, e2, e1] at hk;exact .inr (.inr (.inr ⟨hm,hk⟩))
       have hold:∀ k ob,get ((w3++(w2++qbk ct.ps args))++(frzW hp K++s.h)) k=some ob->ob.live=true->get w3 k=some ob\/(k ∉ qab (qbk ct.ps args)/\J' k=J k/\∃ ob0,get (frzW hp K++s.h) k=some ob0/\ob0.live=true):=by
         intro k ob hk hl;rcases hgw k ob hk with h | ⟨h0,h⟩ | ⟨_,rfl⟩ | ⟨h0,h⟩
         · exact .inl h
         · obtain ⟨t, xs, ys, m, off, p1, p2, p3, p4, _⟩ := hw2 k ob h;exact .inr ⟨p4,hβo k _ p1,_,p3,by cases m<;>first | rfl | exact absurd rfl p2⟩
         · cases hl
         · refine .inr ⟨fun hm => h0 ?_, ?_, ob, h, hl⟩
           · simp only[qab,List.map_append,List.mem_append];exact .inr (.inr hm)
           · have : k ∉ qab w3 := fun hm => h0 (by simp only [qab, List.map_append, List.mem_append]; exact .inl hm)
             simp only[J',if_neg this]
       have hw3b:∀ k ob,get w3 k=some ob->∀ b o',J' k=some (b,o')->∀ k' ob' o2,get (frzW hp K++s.h) k'=some ob'->ob'.live=true->k' ∉ qab (qbk ct.ps args)->J k'≠some (b,o2):=by
         intro k ob hk b o' hb k' ob' o2 hk' hl' hm hb';rw[hβ3 k ob hk] at hb;rcases L.rdom _ _ _ hb with h | ⟨n,h1,o3,h2⟩
         · obtain ⟨c, hc⟩ := R1.blk hk' (by rintro rfl; cases hl') hb';have:=hc.lt;omega
         · obtain ⟨k2, t, xs, p1, p2, p3, _⟩ := hownk h1 h2;have q4:get (frzW hp K++s.h) k2=some (.rows t xs .own):=by
             rw[hfz];exact p1;obtain⟨ku,hku,hke⟩:=List.mem_map.1 (k4 k2 p2);obtain⟨n1,k1',off1⟩:=ku;simp only at hke;subst hke;exact(huse hku).1
           have:=R1.inj k' k2 _ _ b _ _ hk' hl' q4 rfl hb' p3;subst this;exact hm p2
       obtain⟨φr,hr1,hr2,hr3⟩:∃ φr:Nat->List Nat,(∀ j e xs b o,resG ct.rs 0 (ct.enc r).2 j=some (.rows e xs .own)->ρ j=some (b,o)->e.flat=true\/DRow w' S' w.heap.size e b xs (φr j)) /\
           (∀ j b,b∈φr j->¬ S' b/\w.heap.size<=b/\b<w'.heap.size/\∀ j' o,ρ j'≠some (b,o))/\∀ j j' b,b∈φr j->b∈φr j'->j=j':=by
         cases hfr:qn4 ct.rs with
         | true=>exact⟨fun _=>[],fun j e xs b o h _=>.inl (qp2 hfr h),fun j b hb=>by simp at hb,fun j j' b hb=>by simp at hb⟩
         | false =>
           obtain⟨φr,q1,q2,q3⟩:=L.deep hfr;exact⟨φr,fun j e xs b o h h'=>.inr (q1 j e xs b o h h'),q2,q3⟩
       have R2E:Rel T B w' S' J' ⟨s.e,(w3++(w2++qbk ct.ps args))++(frzW hp K++s.h)⟩ a/\Evo w w' S1 S' J J' (get (frzW hp K++s.h)) (get ((w3++(w2++qbk ct.ps args))++(frzW hp K++s.h))):=by
         refine R1.genRE (w':=w') (S':=S') (J':=J') L.calm (w3++(w2++qbk ct.ps args)) (fun b=>∃ n o',qck J (uses ct.ps args 0) n=some (b,o')) ?_ L.grow ?_ ?_ L.sub ?_ L.Slt ?_ ?_ ?_ ?_ ?_ ?_ ?_ ?_ ?_ ?_ (fun k=>if k∈qab w3 then φr (k-d*8) else []) ?_ ?_ ?_
         · exact fun b hb hnW=>L.same b hb fun k o' h=>hnW ⟨k,o',h⟩
         · rintro b ⟨n, o', hc⟩;obtain⟨k,off,o1',ob,_,q1,q2,q3,q4,q5⟩:=hWk hc;exact⟨k,ob,o1',by simp only[qab,List.map_append,List.mem_append] at q1 ⊢;exact .inr q1,q4,q3,q5⟩
         · intro k ob hk hm;have:k ∉ qab w3:=fun h=>hm (by simp only[qab,List.map_append,List.mem_append];exact .inl h)
           simp only[J',if_neg this]
         · intro b hb;rcases L.fresh b hb with h | h | ⟨n,h1,o',h2⟩
           · exact .inl h
           · exact .inr (.inl (Nat.le_trans R.grow h))
           · obtain ⟨k, t, xs, p1, _, p3, _⟩ := hownk h1 h2;exact .inr (R.liveS p1 rfl p3).2
         · intro k ob b o' hk hm hl hb;exact hS'no k ob b o' hk (fun h=>hm (by simp only[qab,List.map_append,List.mem_append];exact .inr (.inr h))) hl hb
         · intro k ob hm hk E;rcases hgw k ob hk with h | ⟨h0,h⟩ | ⟨_,rfl⟩ | ⟨h0,h⟩
           · obtain ⟨a1, a2, a3, e, xs, v, rfl, hO⟩ := hw3 k ob h;rw[Nat.zero_add] at hO;simp only[ORel,hβ3 k _ h];simp only[OwnV] at hO;cases hρ:ρ (k-d*8) with
             | none=>rw[hρ] at hO;exact hO.1
             | some p =>
               obtain⟨b,o'⟩:=p;rw[hρ] at hO;obtain⟨rfl,p1,x0,cap,c,_,p2,p3,p4,p5,p6⟩:=hO;have hmul:=Nat.mul_le_mul_right e.size p2;refine⟨⟨c,p4,by omega⟩,p6,by simp,fun _=>⟨p1,?_⟩,fun _=>rfl⟩;rcases L.rdom _ _ _ hρ with h | ⟨n,h1,o3,h2⟩
               · exact .inl (Nat.le_trans R.grow h)
               · obtain ⟨k2, t, xs2, q1, _, q3, _⟩ := hownk h1 h2;exact(R.liveS q1 rfl q3).2
           · obtain ⟨t, xs, ys, m, off, p1, p2, p3, p4, rfl, p5, p6⟩ := hw2 k ob h;have hob:=R1.obs k _ p3;simp only[ORel,hβo k _ p1] at hob ⊢;cases hb:J k with
             | none =>
               rw[hb] at hob;simp only at hob;subst hob;have:ys=[]:=List.eq_nil_of_length_eq_zero (by have p5:off+ys.length<=0:=p5;omega);subst this;simp [over]
             | some p =>
               obtain⟨b,o'⟩:=p;rw[hb] at hob;obtain⟨⟨c1,hc1,hsz⟩,hrow,_,hlv,ho0⟩:=hob;obtain⟨hnS,c0,c,q1,q2,q3,q4,q5⟩:=p6 b o' hb;have:=hc1.inj q1;subst this;exact⟨⟨c,q2,by rw[q3,qdR p5];exact hsz⟩,qm4 E.sub E.keep q1 q2 hrow p5 q4 q5,fun e=>absurd e p2,fun _=>⟨hnS,(hlv p2).2⟩,ho0⟩
           · trivial
           · exact absurd hm h0
         · intro k ob hm hk;obtain⟨ob',h'⟩:=q13q hm;have h'':get ((w3++(w2++qbk ct.ps args))++(frzW hp K++s.h)) k=some ob':=by rw[q2q,h'];rfl
           refine⟨ob',h'',?_⟩;rcases hgw k ob' h'' with h | ⟨h0,h⟩ | ⟨_,rfl⟩ | ⟨h0,h⟩
           · have := hnew' k ob' h;rw[this] at hk;cases hk
           · obtain ⟨t, xs, ys, m, off, p1, p2, p3, p4, rfl, p5, p6⟩ := hw2 k ob' h;rw[p3] at hk;injection hk with hk
             subst hk;refine⟨rfl,qdR p5,hβo k _ p1,fun hmo=>⟨hmo,fun b o' c1 hb hc1=>?_⟩,fun hnf=>by
               have:=qgl hco hflat.1 k t _ _ h;rw[hnf] at this;cases this⟩
             obtain⟨hnS,c0,c,q1,q2,q3,_⟩:=p6 b o' hb;have:=hc1.inj q1;subst this;exact⟨c,q2,q3⟩
           · cases ob<;>trivial
           · exact absurd hm h0
         · intro k k' ob ob' b o1' o2' hm hk hl hk' hl' hb hb';rcases hold k ob hk hl with h | ⟨g1,g2,ob0,g3,g4⟩
           · rcases hold k' ob' hk' hl' with h' | ⟨g1', g2', ob0', g3', g4'⟩
             · rw [hβ3 k _ h] at hb;rw[hβ3 k' _ h'] at hb';have:=L.rinj _ _ _ _ _ hb hb';have:=(hw3 k _ h).1;have:=(hw3 k' _ h').1;omega
             · rw [g2'] at hb';exact absurd hb' (hw3b k ob h b o1' hb k' ob0' o2' g3' g4' g1')
           · rw [g2] at hb;rcases hold k' ob' hk' hl' with h' | ⟨g1',g2',ob0',g3',g4'⟩
             · exact absurd hb (hw3b k' ob' h' b o2' hb' k ob0 o1' g3 g4 g1)
             · rw [g2'] at hb';exact R1.inj k k' ob0 ob0' b o1' o2' g3 g4 g3' g4' hb hb'
         · rintro k b o' n hL ⟨n1, o1', hc⟩ c hcb;obtain⟨k1',off1,o2',hg,hb,rfl⟩:=hcon hc;obtain⟨ob,q1,q2,q3⟩:=hlive (qaT hg);by_cases hlt:∃ t xs,ob=.rows t xs .lent
           · obtain ⟨t, xs, rfl⟩ := hlt;have hk2:k1'∈qab w2:=by
               rcases qcL hca (qaT hg) with ⟨_,_,_,t',xs',h⟩ | ⟨h1,_⟩
               · have:=hs k1' _ h;rw[q1] at this;cases this
               · exact o1 n1 k1' off1 hg h1
             obtain⟨ob2,h2⟩:=q13q hk2;obtain⟨t',xs',ys,m,off,p1,p2,p3,p4,p4',p5,p6⟩:=hw2 k1' ob2 h2;rw[q1] at p1;injection p1 with p1
             injection p1 with e1 e2 e3
             subst e1;have e2:=eq_of_heq e2;subst e2;obtain⟨hnS,c0,c',r1,r2,r3,r4,_⟩:=p6 b o2' hb;have:=hcb.inj r1;subst this;obtain⟨b3,o3,hL3,hb3⟩:=(R.lentk k1' t xs q1).resolve_left (by rw[hb];simp);rw[hb] at hb3;injection hb3 with hb3
             injection hb3 with hb3 ho3
             subst hb3;subst ho3;have:=R.ltinj k k1' _ _ _ _ _ hL hL3;subst this;rw[hL] at hL3;injection hL3 with hL3
             injection hL3 with _ hL3
             injection hL3 with e4 e5
             subst e4;subst e5;have hmul:=Nat.mul_le_mul_right t.size p5;rw[Nat.add_mul] at hmul;exact⟨c',r2,r3,fun j hj=>r4 j (by rcases hj with hj | hj;left;omega;right;omega)⟩
           · exact absurd hL (R.sep k1' ob b o2' q1 q2 (fun t xs h=>hlt ⟨t,xs,h⟩) hb k o' n)
         · intro k t xs hm hk;rcases hgw k _ hk with h | ⟨h0,h⟩ | ⟨_,h⟩ | ⟨h0,h⟩
           · obtain ⟨_, _, _, e, xs', v, h', _⟩ := hw3 k _ h;cases h'
           · obtain ⟨t', xs', ys, m, off, p1, p2, p3, p4, p4', p5, p6⟩ := hw2 k _ h;injection p4' with e1 e2 e3
             subst e1;have e2:=eq_of_heq e2;subst e2;subst e3;exact⟨xs',p3,qdR p5,hβo k _ p1⟩
           · cases h
           · exact absurd hm h0
         · intro k ob b o' hm hk hl hnl hb k' o2' n hL;rcases hgw k ob hk with h | ⟨h0,h⟩ | ⟨_,rfl⟩ | ⟨h0,h⟩
           · rw [hβ3 k ob h] at hb;rcases L.rdom _ _ _ hb with h | ⟨n1,h1,o3,h2⟩
             · obtain ⟨c0, c, hc0, _⟩ := R.lent k' b o2' n hL;have:=hc0.lt;have:=R.grow;omega
             · obtain ⟨k2, t, xs, q1, _, q3, _⟩ := hownk h1 h2;exact R.sep k2 _ b 0 q1 rfl (by simp) q3 k' o2' n hL
           · obtain ⟨t, xs, ys, m, off, p1, p2, p3, p4, rfl, p5, p6⟩ := hw2 k ob h;rw[hβo k _ p1] at hb;refine R.sep k _ b o' p1 (by cases m<;>first | rfl | exact absurd rfl p2) (fun t' xs' e=>?_) hb k' o2' n hL;injection e with e1 e2 e3
             subst e3;exact hnl t _ rfl
           · cases hl
           · exact absurd hm h0
         · intro k l' hm hk;rcases hgw k _ hk with h | ⟨h0,h⟩ | ⟨_,h⟩ | ⟨h0,h⟩
           · obtain ⟨_, _, _, e, xs', v, h', _⟩ := hw3 k _ h;cases h'
           · obtain ⟨t', xs', ys, m, off, p1, p2, p3, p4, p4', p5, p6⟩ := hw2 k _ h;cases p4'
           · cases h
           · exact absurd hm h0
         · intro b hb;rcases L.fresh b hb with h | h | ⟨n,h1,o',h2⟩
           · exact .inl h
           · exact .inr (.inr h)
           · obtain ⟨k2, t, xs, p1, p2, p3, _⟩ := hownk h1 h2;have q4:get (frzW hp K++s.h) k2=some (.rows t xs .own):=by
               rw[hfz];exact p1;obtain⟨ku,hku,hke⟩:=List.mem_map.1 (k4 k2 p2);obtain⟨n1,k1',off1⟩:=ku;simp only at hke;subst hke;exact(huse hku).1
             exact .inr (.inl ⟨k2,_,_,q4,rfl,p3⟩)
         · intro k ob b o' hm hk hl hb;rcases hgw k ob hk with h | ⟨h0,h⟩ | ⟨_,rfl⟩ | ⟨h0,h⟩
           · rw [hβ3 k ob h] at hb;rcases L.rdom _ _ _ hb with h | ⟨n,h1,o3,h2⟩
             · exact .inr h
             · obtain ⟨k2, t, xs, p1, p2, p3, _⟩ := hownk h1 h2;have q4:get (frzW hp K++s.h) k2=some (.rows t xs .own):=by
                 rw[hfz];exact p1;obtain⟨ku,hku,hke⟩:=List.mem_map.1 (k4 k2 p2);obtain⟨n1,k1',off1⟩:=ku;simp only at hke;subst hke;exact(huse hku).1
               exact .inl ⟨k2,_,_,q4,rfl,p3⟩
           · obtain ⟨t, xs, ys, m, off, p1, p2, p3, p4, rfl, p5, p6⟩ := hw2 k ob h;rw[hβo k _ p1] at hb;exact .inl ⟨k,_,o',p3,by cases m<;>first | rfl | exact absurd rfl p2,hb⟩
           · cases hl
           · exact absurd hm h0
         · intro k t xs b o' hm hk hb;rcases hgw k _ hk with h | ⟨h0,h⟩ | ⟨_,h⟩ | ⟨h0,h⟩
           · obtain ⟨g1, g2, _⟩ := qhX hcr 0 k _ h;rw[Nat.zero_add] at g2;rw[hβ3 k _ h] at hb;simp only[if_pos (qar h)];exact(hr1 _ _ _ _ _ g2 hb).imp id fun h=>h.le R.grow
           · exact .inl (qgl hco hflat.1 k t xs _ h)
           · cases h
           · exact absurd hm h0
         · intro k b hb;by_cases hm:k∈qab w3
           · simp only [if_pos hm] at hb;obtain⟨g1,g2,g3,g4⟩:=hr2 _ _ hb;refine⟨g1,g2,g3,fun k' ob o' hm' hk' hl' hb'=>?_⟩;rcases hold k' ob hk' hl' with h | ⟨e1,e2,ob0,e3,e4⟩
             · rw[hβ3 k' _ h] at hb';exact g4 _ _ hb'
             · rw [e2] at hb';obtain⟨c,hc⟩:=R1.blk e3 (by rintro rfl;cases e4) hb';have:=hc.lt;omega
           · simp [if_neg hm] at hb
         · intro k k' b h1 h2;by_cases hm:k∈qab w3
           · by_cases hm' : k' ∈ qab w3
             · simp only [if_pos hm] at h1;simp only[if_pos hm'] at h2;have:=hr3 _ _ _ h1 h2;obtain⟨ob,g⟩:=q13q hm;obtain⟨ob',g'⟩:=q13q hm';have:=(qhX hcr 0 k _ g).1;have:=(qhX hcr 0 k' _ g').1;omega
             · simp [if_neg hm'] at h2
           · simp [if_neg hm] at h1
       have R2:=R2E.1;have hext:∀ k,get (ef.hw++s.h) k=get ((w3++(w2++qbk ct.ps args))++(frzW hp K++s.h)) k:=fun k=>by
         rw[hhw];simp only[q2q,k5 k];simp only[qql]
       have R3:Rel T B w' S' J' ⟨s.e,ef.hw++s.h⟩ a:=by
         exact R2.ext (fun _=>rfl) hext
       have hkeep:Kept w w' J J' (get s.h) (get (ef.hw++s.h)):=by
         intro k t xs xs' hk hk';rw[hext] at hk';have key:∀ ob1,get (frzW hp K++s.h) k=some ob1->ob1=.rows t xs .own\/ob1=.rows t xs .frz:=fun ob1 h1=>by
           rw[q2q] at h1;cases hq:get (frzW hp K) k with
           | none=>rw[hq] at h1;rw[Option.none_or,hk] at h1;injection h1 with h1;exact .inl h1.symm
           | some ob' =>
             rw[hq] at h1;injection h1 with h1
             subst h1;obtain⟨ob0,q1,q2⟩:=qe8 hq;have:=hs k _ q1;rw[hk] at this;injection this with this
             subst this;exact .inr q2
         obtain⟨ob1,h1⟩:∃ ob1,get (frzW hp K++s.h) k=some ob1:=by
           rw[q2q,hk];cases get (frzW hp K) k<;>simp
         obtain⟨ob2,h2,h3⟩:=R2E.2.obs k ob1 h1;rw[hk'] at h2;injection h2 with h2
         subst h2;rcases key ob1 h1 with rfl | rfl
         · obtain ⟨_, e1, e2, e3, e4⟩ := h3;exact⟨e1,e2,(e3 rfl).2,e4⟩
         · obtain ⟨_, _, _, e3, _⟩ := h3;cases (e3 rfl).1
       have hall:All2 (qbQ w' S' J' (get (ef.hw++s.h))) l vs:=qre hcr hrs fun n ob hg=>⟨by rw[hhw,q2q,q2q,q2q,hg];rfl,by rw[hβ3 n ob hg,Nat.zero_add]⟩
       have fin:∀ v,(∀ pv,ef.v=some pv->TRel w' S' J' (get (ef.hw++s.h)) pv v)->next (a.put o.dst v) w':=fun v hv=>hnx v w' S' J' (Rel.app R3 hdo hv) hkeep
       refine fin _ fun pv hpv=>?_
       rcases hv with ⟨v,rfl,hv⟩ | ⟨hne,hv⟩
       · rw [hv] at hpv;injection hpv with hpv
         subst hpv;cases vs with
         | nil=>exact hall.elim
         | cons u vs =>
           cases vs with
           | nil =>
             refine hall.1.up fun q e=>?_
             subst e;exact hall.1.elim
           | cons _ _=>exact hall.2.elim
       · rw [hv] at hpv;injection hpv with hpv
         subst hpv;refine⟨vs,?_,hall⟩
         match vs,hall with
         | [],_=>rfl
         | [u], hall =>
           exfalso
           match l,hall,hne with
           | [v],_,hne=>exact hne v rfl
         | _::_::_,_=>rfl
    · cases h
 · cases h
theorem qwh {env:Env} (hE:qoG T P env) {o:Oper} {s:St} {hp:Hp} (hs:Sub hp s) {f:FuncId} {ct:Ctr} (hf:env f=some ct) (hwi:ct.wi=none) {args:List PV} {d:Nat} (hd:o.dst=some d)
  (hn:∀ k,d*8<=k->k<d*8+8->hp k=none->get s.h k=none) {ef:Eff}
  (hrun:∀ (B:Base) (w:World) (S:Foot) (J:Con) (a:Act),Rel T B w S J s a->∃ us:List Value,(execOp a.eval o).run P w=(callFunc f us.toArray).run P w/\All2 (TRel w S J (get s.h)) args us)
  (h:qgk hp o.dst ct args some=some ef):qcb T P o s ef:=by
 intro B w S J a R hdo next Q hnx
 obtain⟨us,hrun,hus⟩:=hrun B w S J a R;exact qrd hE hs hf hwi hd hn h R hdo hrun hus fun val w' S' J' R' _=>hnx val w' S' J' R'
variable {T:Told} {P:Program} {tb:Tb}
def qdq (J:Con) (k:Nat):Nat:=((J k).getD (0,0)).1
def UB (h:Hp):List (List CK)->List Nat->List PV->List Nat->Prop
 | [],[],[],[]=>True
 | cs::bx,k::ks,vs,st=>∃ (l a v2:List PV) (s1 s2:List Nat),h k=some (.box l)/\unpC cs l=some (a,s1)/\vs=a++v2/\st=s1++s2/\UB h bx ks v2 s2
 | _,_,_,_=>False
theorem qyC {h:Hp}:∀ {bx:List (List CK)} {q:List Nat} {vs:List PV} {ks:List Nat},unpB h bx q=some (vs,ks)->∃ st,ks=q++st/\UB h bx ks vs st:=by
 intro bx
 induction bx with
 | nil =>
  intro q vs ks hh;cases q with
  | nil=>simp only[unpB,Option.some.injEq,Prod.mk.injEq] at hh;obtain⟨rfl,rfl⟩:=hh;exact⟨[],rfl,trivial⟩
  | cons _ _=>simp [unpB] at hh
 | cons cs bx ih =>
  intro q vs ks hh;cases q with
  | nil=>simp [unpB] at hh
  | cons k q =>
   simp only[unpB] at hh;split at hh
   · rename_i l hl;split at hh
     · rename_i a b hu;split at hh
       · rename_i a' b' hb;simp only[Option.some.injEq,Prod.mk.injEq] at hh;obtain⟨rfl,rfl⟩:=hh;obtain⟨st,e,hst⟩:=ih hb;exact⟨b++st,by rw[e];simp,l,a,a',b,st,hl,hu,rfl,rfl,hst⟩
       · cases hh
     · cases hh
   · cases hh
theorem UB.box {h:Hp}:∀ {bx:List (List CK)} {ks:List Nat} {vs:List PV} {st:List Nat},UB h bx ks vs st->∀ k∈ks,∃ l,h k=some (.box l):=by
 intro bx
 induction bx with
 | nil=>intro ks vs st hu k hk;cases ks with
  | nil=>simp at hk
  | cons _ _=>exact hu.elim
 | cons cs bx ih =>
  intro ks vs st hu k hk;cases ks with
  | nil=>exact hu.elim
  | cons k0 ks =>
   obtain⟨l,a,v2,s1,s2,h1,_,_,_,h2⟩:=hu;rcases List.mem_cons.1 hk with rfl | hk
   · exact⟨l,h1⟩
   · exact ih h2 k hk
theorem qjn:∀ {l:List Nat},qk4 l=true->l.Nodup
 | [],_=>List.nodup_nil
 | n::r,h=>by
  simp only[qk4,Bool.and_eq_true,Bool.not_eq_true'] at h;exact List.nodup_cons.2 ⟨qbW.1 h.1,qjn h.2⟩
section
variable {B:Base} {w w':World} {S S':Foot} {J J':Con} {s:St} {a:Act} {g g':Hp}
theorem TRel.unfx' {pv:PV} {v:Value} (h:TRel w S J g pv v):TRel w S J g pv.unfx v:=by
 cases pv<;>exact h
theorem quG:∀ {cs:List CK} {pvs vs:List PV} {ks:List Nat} {as:List Value},unpC cs pvs=some (vs,ks)->All2 (TRel w S J g) pvs as ->
  (∀ k∈ks,J k=some (qdq J k,0)/\∃ l,g k=some (.box l))->∃ us,WC cs as us (ks.map (qdq J))/\All2 (TRel w S J g) vs us:=by
 intro cs
 induction cs with
 | nil =>
  intro pvs vs ks as hh ha hk;cases pvs with
  | nil =>
   simp only[unpC,Option.some.injEq,Prod.mk.injEq] at hh;obtain⟨rfl,rfl⟩:=hh;cases as with
   | nil=>exact⟨[],trivial,trivial⟩
   | cons _ _=>exact ha.elim
  | cons _ _=>simp [unpC] at hh
 | cons c cs ih =>
  intro pvs vs ks as hh ha hk;cases pvs with
  | nil=>cases c<;>simp [unpC] at hh
  | cons v pvs =>
   cases as with
   | nil=>exact ha.elim
   | cons u as =>
    obtain⟨hu,ha⟩:=ha;cases c with
    | x =>
     simp only[unpC] at hh;split at hh
     · rename_i a1 b1 h1;simp only[Option.some.injEq,Prod.mk.injEq] at hh;obtain⟨rfl,rfl⟩:=hh;obtain⟨us,h2,h3⟩:=ih h1 ha hk;exact⟨u::us,⟨rfl,h2⟩,hu,h3⟩
     · cases hh
    | b =>
     cases v with
     | ptr k i off =>
       cases i with
       | succ i=>simp [unpC] at hh
       | zero =>
        cases off with
        | succ off=>simp [unpC] at hh
        | zero =>
         simp only[unpC] at hh;split at hh
         · rename_i a1 b1 h1;simp only[Option.some.injEq,Prod.mk.injEq] at hh;obtain⟨rfl,rfl⟩:=hh;obtain⟨us,h2,h3⟩:=ih h1 ha fun k' hk'=>hk k' (List.mem_cons_of_mem _ hk')
           obtain⟨hb,l,hl⟩:=hk k List.mem_cons_self;have hu:qac w S J g (.ptr k 0 0) u:=hu;simp only[qac,hl] at hu;obtain⟨b,o,q1,q2⟩:=hu;rw[hb] at q1;injection q1 with q1
           injection q1 with q3 q4
           refine⟨us,⟨?_,h2⟩,h3⟩;rw[q2,<- q3,<- q4];simp
         · cases hh
     | _=>simp [unpC] at hh
    | h =>
     simp only[unpC] at hh;exact ih hh ha hk
    | l =>
     simp only[unpC] at hh;split at hh
     · rename_i a1 b1 h1;simp only[Option.some.injEq,Prod.mk.injEq] at hh;obtain⟨rfl,rfl⟩:=hh;obtain⟨us,h2,h3⟩:=ih h1 ha hk;exact⟨u::us,⟨rfl,h2⟩,hu.unfx',h3⟩
     · cases hh
theorem All2.up {l:List PV} {vs:List Value} (h:All2 (qac w S J g) l vs):All2 (TRel w S J g) l vs:=h.imp fun _ _ h=>h.up
theorem UB.wb (hob:∀ k l,g k=some (.box l)->∃ c,J k=some (qdq J k,0)/\Blk w (qdq J k) c/\All2 (qac w S J g) l c.toList) :
  ∀ {bx:List (List CK)} {ks:List Nat} {vs:List PV} {st:List Nat},UB g bx ks vs st->(∀ k∈st,∃ l,g k=some (.box l)) ->
   ∃ us,WB w bx (ks.map (qdq J)) us (st.map (qdq J))/\All2 (TRel w S J g) vs us:=by
 intro bx
 induction bx with
 | nil =>
  intro ks vs st hu hst
  match ks,vs,st,hu with
  | [],[],[],_=>exact⟨[],trivial,trivial⟩
 | cons cs bx ih =>
  intro ks vs st hu hst
  match ks,hu with
  | k::ks,hu =>
   obtain⟨l,a1,v2,s1,s2,h1,h2,rfl,rfl,h3⟩:=hu;obtain⟨c,hb,hc,hl⟩:=hob k l h1;obtain⟨us1,g1,g2⟩:=quG (J:=J) h2 hl.up (fun k' hk'=>by
    obtain⟨l',hl'⟩:=hst k' (List.mem_append.2 (.inl hk'));obtain⟨_,q,_⟩:=hob k' l' hl';exact⟨q,l',hl'⟩)
   obtain⟨us2,g3,g4⟩:=ih h3 fun k' hk'=>hst k' (List.mem_append.2 (.inr hk'))
   exact⟨us1++us2,⟨c,us1,us2,s1.map (qdq J),s2.map (qdq J),hc,rfl,by simp,g1,g3⟩,All2.append g2 g4⟩
theorem qbQ.cell {pv:PV} {v:Value} (h:qbQ w S J g pv v) (hn:qca [pv]=true):qac w S J g pv v:=by
 cases pv<;>first | exact h | cases hn
theorem qok {v:PV} {r:List PV} (h:qca (v::r)=true):qca [v]=true/\qca r=true:=by
 cases v<;>first | exact⟨rfl,h⟩ | cases h
theorem qbQ.cellF {pv:PV} {v:Value} (h:qbQ w S J g pv v) (hn:qnp [pv]=true):qac w S J g pv v:=by
 cases pv<;>first | exact h | cases hn
theorem qii {v:PV} {r:List PV} (h:qnp (v::r)=true):qnp [v]=true/\qnp r=true:=by
 cases v<;>first | exact⟨rfl,h⟩ | cases h
theorem WC.lenx:∀ {cs:List CK} {as us:List Value} {q:List Nat},WC (cs.map CK.ex) as us q->∀ {pvs vs:List PV} {ks:List Nat},unpC cs pvs=some (vs,ks)->q.length=ks.length:=by
 intro cs
 induction cs with
 | nil =>
  intro as us q hw pvs vs ks hh
  match as,us,q,hw with
  | [],[],[],_ =>
   cases pvs with
   | nil=>simp only[unpC,Option.some.injEq,Prod.mk.injEq] at hh;obtain⟨rfl,rfl⟩:=hh;rfl
   | cons _ _=>simp [unpC] at hh
 | cons c cs ih =>
  intro as us q hw pvs vs ks hh;cases pvs with
  | nil=>cases c<;>simp [unpC] at hh
  | cons v pvs =>
   cases c with
   | x =>
    match as,us,hw with
    | u::as,u'::us,hw =>
     simp only[unpC] at hh;split at hh
     · rename_i a1 b1 h1;simp only[Option.some.injEq,Prod.mk.injEq] at hh;obtain⟨rfl,rfl⟩:=hh;exact ih hw.2 h1
     · cases hh
   | b =>
    match as,q,hw with
    | u::as,b0::q,hw =>
     cases v with
     | ptr k i off =>
       cases i with
       | succ i=>simp [unpC] at hh
       | zero =>
        cases off with
        | succ off=>simp [unpC] at hh
        | zero =>
         simp only[unpC] at hh;split at hh
         · rename_i a1 b1 h1;simp only[Option.some.injEq,Prod.mk.injEq] at hh;obtain⟨rfl,rfl⟩:=hh;have:=ih hw.2 h1;simp [this]
         · cases hh
     | _=>simp [unpC] at hh
   | h =>
    match as,hw with
    | u::as,hw =>
     simp only[unpC] at hh;exact ih hw hh
   | l =>
    match as,hw with
    | u::as,hw =>
     simp only[unpC] at hh;split at hh
     · rename_i a1 b1 h1;simp only[Option.some.injEq,Prod.mk.injEq] at hh;obtain⟨rfl,rfl⟩:=hh;exact ih (us:=us) hw h1
     · cases hh
theorem quI:∀ {gs:List GK} {pvs fl:List PV} {as:List Value},ungr gs pvs=some fl->All2 (TRel w S J g) pvs as->∃ cs,GV gs as cs/\All2 (TRel w S J g) fl cs:=by
 have key:∀ {gs:List GK} {pvs fl:List PV} {as:List Value},qf2 gs pvs=some fl->All2 (TRel w S J g) pvs as->∃ cs,GV1 gs as cs/\All2 (TRel w S J g) fl cs:=by
  intro gs
  induction gs with
  | nil =>
   intro pvs fl as h ha;cases pvs with
   | nil =>
    simp only[qf2,Option.some.injEq] at h;subst h;cases as with
    | nil=>exact⟨[],trivial,trivial⟩
    | cons _ _=>exact ha.elim
   | cons _ _=>simp [qf2] at h
  | cons g0 gs ih =>
   intro pvs fl as h ha;cases pvs with
   | nil=>cases g0<;>simp [qf2] at h
   | cons v pvs =>
    cases as with
    | nil=>exact ha.elim
    | cons u as =>
     obtain⟨hu,ha⟩:=ha;cases g0 with
     | x =>
      simp only[qf2] at h;split at h
      · rename_i r hr;injection h with h
        subst h;obtain⟨cs,h1,h2⟩:=ih hr ha;exact⟨u::cs,⟨rfl,h1⟩,hu,h2⟩
      · cases h
     | g n =>
      cases v with
      | agg l =>
        simp only[qf2] at h;have hbb:=q8q h;clear h;obtain⟨hn,h⟩:=hbb;have hn:=Nat.eq_of_beq_eq_true hn;split at h
        · rename_i r hr;injection h with h
          subst h;obtain⟨cs,h1,h2⟩:=ih hr ha;obtain⟨vs,hv,hl⟩:=hu;have hlen:=hl.length;exact⟨vs++cs,⟨vs,cs,by omega,hv,rfl,h1⟩,All2.append (hl.imp fun _ _ h=>h.up) h2⟩
        · cases h
      | _=>simp [qf2] at h
     | f fid n =>
      cases v with
      | clo f' l =>
        simp only[qf2] at h;have hbb:=q8q h;clear h;obtain⟨hn,h⟩:=hbb;simp only[Bool.and_eq_true] at hn;have hn1:f'=fid:=Nat.eq_of_beq_eq_true hn.1;have hn2:=Nat.eq_of_beq_eq_true hn.2;subst hn1;split at h
        · rename_i r hr;injection h with h
          subst h;obtain⟨cs,h1,h2⟩:=ih hr ha;obtain⟨vs,hv,hl⟩:=hu;have hlen:=hl.length;exact⟨vs++cs,⟨vs,cs,by omega,hv,rfl,h1⟩,All2.append (hl.imp fun _ _ h=>h.up) h2⟩
        · cases h
      | _=>simp [qf2] at h
     | n =>
      cases v with
      | nilp =>
        simp only[qf2] at h;obtain⟨cs,h1,h2⟩:=ih h ha;exact⟨cs,⟨hu,h1⟩,h2⟩
      | _=>simp [qf2] at h
 intro gs pvs fl as h ha;cases gs with
 | nil=>simp only[ungr,Option.some.injEq] at h;subst h;exact⟨as,rfl,ha⟩
 | cons g0 gs=>exact key h ha
theorem qvF {R:PV->Value->Prop} (h0:∀ pv v,R pv v->qca [pv]=true->qac w S J g pv v) (hg:∀ l vs,All2 (qac w S J g) l vs->R (.agg l) (.agg vs.toArray))
  (hf:∀ fid l vs,All2 (qac w S J g) l vs->R (.clo fid l) (.func (.func fid) #[] vs.toArray)) (hz:R .nilp (.pointer none)) :
  ∀ {gs:List GK} {fl pvs:List PV} {as cs:List Value},grp gs fl=some pvs->GV gs as cs->All2 R fl cs->All2 R pvs as:=by
 have cells:∀ {l:List PV} {vs:List Value},qca l=true->All2 R l vs->All2 (qac w S J g) l vs:=by
  intro l
  induction l with
  | nil=>intro vs _ h;cases vs with
   | nil=>trivial
   | cons _ _=>exact h.elim
  | cons x l ih=>intro vs hn h;cases vs with
   | nil=>exact h.elim
   | cons v vs=>obtain⟨n1,n2⟩:=qok hn;exact⟨h0 _ _ h.1 n1,ih n2 h.2⟩
 have key:∀ {gs:List GK} {fl pvs:List PV} {as cs:List Value},grp1 gs fl=some pvs->GV1 gs as cs->All2 R fl cs->All2 R pvs as:=by
  intro gs
  induction gs with
  | nil =>
   intro fl pvs as cs h hv ha
   match as,cs,hv with
   | [],[],_ =>
    cases fl with
    | nil=>simp only[grp1,Option.some.injEq] at h;subst h;trivial
    | cons _ _=>exact ha.elim
  | cons g0 gs ih =>
   intro fl pvs as cs h hv ha;cases g0 with
   | x =>
    match as,cs,hv with
    | a::as,c::cs,hv =>
     obtain⟨rfl,hv⟩:=hv;cases fl with
     | nil=>exact ha.elim
     | cons v fl =>
       simp only[grp1] at h;split at h
       · rename_i r hr;injection h with h
         subst h;exact⟨ha.1,ih hr hv ha.2⟩
       · cases h
   | g n =>
    match as,hv with
    | a::as,hv =>
     obtain⟨vs,cs',hn,rfl,rfl,hv2⟩:=hv;simp only[grp1] at h;obtain⟨hb,h⟩:=q8q h;simp only[Bool.and_eq_true] at hb;split at h
     · rename_i r hr;injection h with h
       subst h;have h1:=ha.take n;have h2:=ha.drop n;rw[<- hn,List.take_left] at h1;rw[<- hn,List.drop_left] at h2;rw[hn] at h1 h2;exact⟨hg _ _ (cells hb.2 h1),ih hr hv2 h2⟩
     · cases h
   | f fid n =>
    match as,hv with
    | a::as,hv =>
     obtain⟨vs,cs',hn,rfl,rfl,hv2⟩:=hv;simp only[grp1] at h;obtain⟨hb,h⟩:=q8q h;simp only[Bool.and_eq_true] at hb;split at h
     · rename_i r hr;injection h with h
       subst h;have h1:=ha.take n;have h2:=ha.drop n;rw[<- hn,List.take_left] at h1;rw[<- hn,List.drop_left] at h2;rw[hn] at h1 h2;exact⟨hf _ _ _ (cells hb.2 h1),ih hr hv2 h2⟩
     · cases h
   | n =>
    match as,hv with
    | a::as,hv =>
     obtain⟨rfl,hv2⟩:=hv;simp only[grp1] at h;split at h
     · rename_i r hr;injection h with h
       subst h;exact⟨hz,ih hr hv2 ha⟩
     · cases h
 intro gs fl pvs as cs h hv ha;cases gs with
 | nil =>
  simp only[grp,Option.some.injEq] at h;subst h;have hv:cs=as:=hv;subst hv;exact ha
 | cons g0 gs=>exact key h hv ha
theorem qyU:∀ {cs:List CK} {l vs:List PV} {s1:List Nat} {r a1 r':List PV} {as u1 u2:List Value},unpC cs l=some (vs,s1)->pkC cs l r=some (a1,r')->qnp a1=true ->
  WC (cs.map CK.ex) as u1 (s1.map (qdq J))->All2 (qbQ w' S' J' g') r (u1++u2)->(∀ k∈s1,J' k=some (qdq J k,0)/\∃ l',g' k=some (.box l')) ->
  ((∀ (j:Nat) (o:PV) (u:Value),(cs[j]?=some .h\/cs[j]?=some .l)->l[j]?=some o->as[j]?=some u->qac w' S' J' g' o u)->All2 (qac w' S' J' g') a1 as)/\All2 (qbQ w' S' J' g') r' u2:=by
 intro cs
 induction cs with
 | nil =>
  intro l vs s1 r a1 r' as u1 u2 hu hp hn hw hr hk;cases l with
  | cons _ _=>simp [unpC] at hu
  | nil =>
   simp only[pkC,Option.some.injEq,Prod.mk.injEq] at hp;obtain⟨rfl,rfl⟩:=hp
   match as,u1,hw with
   | [],[],_=>exact⟨fun _=>trivial,hr⟩
 | cons c cs ih =>
  intro l vs s1 r a1 r' as u1 u2 hu hp hn hw hr hk;cases l with
  | nil=>cases c<;>simp [unpC] at hu
  | cons o l =>
   cases c with
   | x =>
    match as,u1,hw with
    | u::as,u'::u1,hw =>
     obtain⟨rfl,hw⟩:=hw;cases r with
     | nil=>simp [pkC] at hp
     | cons v r =>
       simp only[pkC] at hp;simp only[unpC] at hu;split at hp
       · rename_i a2 r2 h2;simp only[Option.some.injEq,Prod.mk.injEq] at hp;obtain⟨rfl,rfl⟩:=hp;split at hu
         · rename_i x1 x2 h3;simp only[Option.some.injEq,Prod.mk.injEq] at hu;obtain⟨rfl,rfl⟩:=hu;obtain⟨hv,hr⟩:=hr;obtain⟨n1,n2⟩:=qii hn;obtain⟨q1,q2⟩:=ih h3 h2 n2 hw hr hk;exact⟨fun hH=>⟨hv.cellF n1,q1 (fun j o u e1 e2 e3=>hH (j+1) o u (by simpa using e1) (by simpa using e2) (by simpa using e3))⟩,q2⟩
         · cases hu
       · cases hp
   | b =>
    cases o with
    | ptr k i off =>
     cases i with
     | succ i=>simp [unpC] at hu
     | zero =>
       cases off with
       | succ off=>simp [unpC] at hu
       | zero =>
         simp only[unpC] at hu;split at hu
         · rename_i x1 x2 h3;simp only[Option.some.injEq,Prod.mk.injEq] at hu;obtain⟨rfl,rfl⟩:=hu;simp only[pkC] at hp;split at hp
           · rename_i a2 r2 h2;simp only[Option.some.injEq,Prod.mk.injEq] at hp;obtain⟨rfl,rfl⟩:=hp
             match as,hw with
             | u::as,hw =>
              obtain⟨hu',hw⟩:=hw;obtain⟨n1,n2⟩:=qii hn;obtain⟨q1,q2⟩:=ih h3 h2 n2 hw hr (fun k' hk'=>hk k' (List.mem_cons_of_mem _ hk'));obtain⟨hb,l',hl'⟩:=hk k List.mem_cons_self;refine⟨fun hH=>⟨?_,q1 (fun j o u e1 e2 e3=>hH (j+1) o u (by simpa using e1) (by simpa using e2) (by simpa using e3))⟩,q2⟩;simp only[qac,hl'];exact⟨qdq J k,0,hb,by rw[hu'];simp⟩
           · cases hp
         · cases hu
    | _=>simp [unpC] at hu
   | h =>
    match as,hw with
    | u::as,hw =>
     simp only[unpC] at hu;simp only[pkC] at hp;split at hp
     · rename_i a2 r2 h2;simp only[Option.some.injEq,Prod.mk.injEq] at hp;obtain⟨rfl,rfl⟩:=hp;obtain⟨n1,n2⟩:=qii hn;obtain⟨q1,q2⟩:=ih hu h2 n2 hw hr hk;exact⟨fun hH=>⟨hH 0 o u (.inl rfl) rfl rfl,q1 (fun j o u e1 e2 e3=>hH (j+1) o u (by simpa using e1) (by simpa using e2) (by simpa using e3))⟩,q2⟩
     · cases hp
   | l =>
    match as,hw with
    | u::as,hw =>
     simp only[unpC] at hu;simp only[pkC] at hp;split at hu
     rotate_left
     · cases hu
     rename_i y1 y2 hu2;simp only[Option.some.injEq,Prod.mk.injEq] at hu;obtain⟨rfl,rfl⟩:=hu;split at hp
     · rename_i a2 r2 h2;simp only[Option.some.injEq,Prod.mk.injEq] at hp;obtain⟨rfl,rfl⟩:=hp;obtain⟨n1,n2⟩:=qii hn;obtain⟨q1,q2⟩:=ih hu2 h2 n2 (u1:=u1) hw hr hk;exact⟨fun hH=>⟨hH 0 o u (.inr rfl) rfl rfl,q1 (fun j o u e1 e2 e3=>hH (j+1) o u (by simpa using e1) (by simpa using e2) (by simpa using e3))⟩,q2⟩
     · cases hp
theorem qyV {h:Hp}:∀ {bx:List (List CK)} {ks:List Nat} {vs:List PV} {st:List Nat} {r:List PV} {w4:List (Nat×Ob)} {rest:List PV} {u2 u3:List Value},UB h bx ks vs st->pkB h bx ks r=some (w4,rest) ->
  WB w' (exB bx) (ks.map (qdq J)) u2 (st.map (qdq J))->All2 (qbQ w' S' J' g') r (u2++u3)->(∀ k∈st,J' k=some (qdq J k,0)/\∃ l',g' k=some (.box l')) ->
  ((∀ (i:Nat) (cs:List CK) (k:Nat) (l:List PV) (c:Array Value),bx[i]?=some cs->ks[i]?=some k->h k=some (.box l)->Blk w' (qdq J k) c->∀ (j:Nat) (o:PV) (u:Value),(cs[j]?=some .h\/cs[j]?=some .l)->l[j]?=some o->c[j]?=some u->qac w' S' J' g' o u)->∀ k ob,(k,ob)∈w4->∃ a1 c,ob=.box a1/\Blk w' (qdq J k) c/\All2 (qac w' S' J' g') a1 c.toList)/\All2 (qbQ w' S' J' g') rest u3:=by
 intro bx
 induction bx with
 | nil =>
  intro ks vs st r w4 rest u2 u3 hu hp hw hr hk
  match ks,vs,st,hu with
  | [],[],[],_ =>
   simp only[pkB,Option.some.injEq,Prod.mk.injEq] at hp;obtain⟨rfl,rfl⟩:=hp
   match u2,hw with
   | [],_=>exact⟨fun _ k ob hm=>by simp at hm,hr⟩
 | cons cs bx ih =>
  intro ks vs st r w4 rest u2 u3 hu hp hw hr hk
  match ks,hu with
  | k::ks,hu =>
   obtain⟨l,a1,v2,s1,s2,h1,h2,rfl,rfl,h3⟩:=hu;simp only[pkB,h1] at hp;split at hp
   · rename_i b1 r1 hpc;obtain⟨hn,hp⟩:=q8q hp;split at hp
     · rename_i w5 r2 hpb;simp only[Option.some.injEq,Prod.mk.injEq] at hp;obtain⟨rfl,rfl⟩:=hp;obtain⟨c,x1,x2,q1,q2,hc,rfl,hq,hwc,hwb⟩:=hw;have hl:=hwc.lenx h2;rw[List.map_append] at hq;obtain⟨e1,e2⟩:=List.append_inj hq (by simp [hl]);subst e1;subst e2;rw[List.append_assoc] at hr;obtain⟨g1,g2⟩:=qyU (J:=J) h2 hpc hn hwc hr (fun k' hk'=>hk k' (List.mem_append.2 (.inl hk')));obtain⟨g3,g4⟩:=ih h3 hpb hwb g2 (fun k' hk'=>hk k' (List.mem_append.2 (.inr hk')));refine⟨fun hH k' ob hm=>?_,g4⟩;rcases List.mem_cons.1 hm with hm | hm
       · injection hm with e1 e2
         subst e1;subst e2;exact⟨b1,c,rfl,hc,g1 fun j o u e1 e2 e3=>hH 0 cs k' l c rfl rfl h1 hc j o u e1 e2 (by simpa using e3)⟩
       · exact g3 (fun i cs' k1 l' c' e1 e2=>hH (i+1) cs' k1 l' c' (by simpa using e1) (by simpa using e2)) k' ob hm
     · cases hp
   · cases hp
theorem qw1:∀ {cs:List CK} {l r a r':List PV} {vs:List PV} {s1:List Nat},unpC cs l=some (vs,s1)->pkC cs l r=some (a,r')->(∀ v∈r,v.stays=false) ->
  (∀ v∈r',v.stays=false)/\∀ (i:Nat) (v:PV),a[i]?=some v->v.stays=true->l[i]?=some v/\(cs[i]?=some .h\/cs[i]?=some .l):=by
 intro cs
 induction cs with
 | nil =>
  intro l r a r' vs s1 hu hp hr;cases l with
  | nil=>simp only[pkC,Option.some.injEq,Prod.mk.injEq] at hp;obtain⟨rfl,rfl⟩:=hp;exact⟨hr,fun i v hi=>by simp at hi⟩
  | cons _ _=>simp [unpC] at hu
 | cons c cs ih =>
  intro l r a r' vs s1 hu hp hr;cases l with
  | nil=>cases c<;>simp [unpC] at hu
  | cons o l =>
   have step:∀ {vs2:List PV} {s2:List Nat} {r0 a2 r2:List PV} (z:PV),unpC cs l=some (vs2,s2)->pkC cs l r0=some (a2,r2)->(∀ v∈r0,v.stays=false)->(z.stays=true->o=z/\(c=.h\/c=.l)) ->
      (∀ v∈r2,v.stays=false)/\∀ (i:Nat) (v:PV),(z::a2)[i]?=some v->v.stays=true->(o::l)[i]?=some v/\((c::cs)[i]?=some .h\/(c::cs)[i]?=some .l):=by
    intro vs2 s2 r0 a2 r2 z h1 h2 h3 h4;obtain⟨q1,q2⟩:=ih h1 h2 h3;refine⟨q1,fun i v hi hv=>?_⟩;cases i with
    | zero =>
      simp only[List.getElem?_cons_zero,Option.some.injEq] at hi ⊢;subst hi;exact h4 hv
    | succ i=>simpa using q2 i v (by simpa using hi) hv
   cases c with
   | x =>
    cases r with
    | nil=>simp [pkC] at hp
    | cons v r =>
      simp only[pkC] at hp;simp only[unpC] at hu;split at hp
      · rename_i a2 r2 h2;simp only[Option.some.injEq,Prod.mk.injEq] at hp;obtain⟨rfl,rfl⟩:=hp;split at hu
        · rename_i x1 x2 h3;exact step v h3 h2 (fun v hv=>hr v (List.mem_cons_of_mem _ hv)) (fun h=>by rw[hr v List.mem_cons_self] at h;cases h)
        · cases hu
      · cases hp
   | b =>
    cases o with
    | ptr k i off =>
      cases i with
      | succ i=>simp [unpC] at hu
      | zero =>
        cases off with
        | succ off=>simp [unpC] at hu
        | zero =>
          simp only[unpC] at hu;simp only[pkC] at hp;split at hp
          · rename_i a2 r2 h2;simp only[Option.some.injEq,Prod.mk.injEq] at hp;obtain⟨rfl,rfl⟩:=hp;split at hu
            · rename_i x1 x2 h3;exact step _ h3 h2 hr (fun h=>by cases h)
            · cases hu
          · cases hp
    | _=>simp [unpC] at hu
   | h =>
    simp only[unpC] at hu;simp only[pkC] at hp;split at hp
    · rename_i a2 r2 h2;simp only[Option.some.injEq,Prod.mk.injEq] at hp;obtain⟨rfl,rfl⟩:=hp;exact step _ hu h2 hr (fun h=>⟨rfl,.inl rfl⟩)
    · cases hp
   | l =>
    simp only[unpC] at hu;simp only[pkC] at hp;split at hp
    · rename_i a2 r2 h2;simp only[Option.some.injEq,Prod.mk.injEq] at hp;obtain⟨rfl,rfl⟩:=hp;split at hu
      · rename_i x1 x2 h3;exact step _ h3 h2 hr (fun h=>⟨rfl,.inr rfl⟩)
      · cases hu
    · cases hp
theorem qw2 {h:Hp}:∀ {bx:List (List CK)} {ks:List Nat} {vs:List PV} {st:List Nat} {r:List PV} {w4:List (Nat×Ob)} {rest:List PV},UB h bx ks vs st->pkB h bx ks r=some (w4,rest)->(∀ v∈r,v.stays=false)->∀ k a,(k,Ob.box a)∈w4 ->
  ∃ (m:Nat) (cs:List CK) (l:List PV),bx[m]?=some cs/\ks[m]?=some k/\h k=some (.box l)/\∀ (i:Nat) (v:PV),a[i]?=some v->v.stays=true->l[i]?=some v/\(cs[i]?=some .h\/cs[i]?=some .l):=by
 intro bx
 induction bx with
 | nil =>
  intro ks vs st r w4 rest hu hp hr k a hm
  match ks,vs,st,hu with
  | [],[],[],_ =>
   simp only[pkB,Option.some.injEq,Prod.mk.injEq] at hp;obtain⟨rfl,_⟩:=hp;simp at hm
 | cons cs bx ih =>
  intro ks vs st r w4 rest hu hp hr k a hm
  match ks,hu with
  | k0::ks,hu =>
   obtain⟨l,a1,v2,s1,s2,h1,h2,rfl,rfl,h3⟩:=hu;simp only[pkB,h1] at hp;split at hp
   · rename_i b1 r1 hpc;obtain⟨hn,hp⟩:=q8q hp;split at hp
     · rename_i w5 r2 hpb;simp only[Option.some.injEq,Prod.mk.injEq] at hp;obtain⟨rfl,_⟩:=hp;obtain⟨q1,q2⟩:=qw1 h2 hpc hr;rcases List.mem_cons.1 hm with hm | hm
       · injection hm with e1 e2
         injection e2 with e2
         subst e1;subst e2;exact⟨0,cs,l,rfl,rfl,h1,q2⟩
       · obtain ⟨m, cs', l', g1, g2, g3, g4⟩ := ih h3 hpb q1 k a hm;exact⟨m+1,cs',l',by simpa using g1,by simpa using g2,g3,g4⟩
     · cases hp
   · cases hp
theorem qof {t:Ty} {x:t.den}:(toPV t x).stays=false:=by cases t<;>rfl
theorem qpF {h:Hp}:∀ {rs:List (Ty×Bool)} {y:HL (fsts rs)} {k:Nat} {l:List PV} {w3:List (Nat×Ob)},qaU h rs y k=some (l,w3)->∀ v∈l,v.stays=false:=by
 intro rs
 induction rs with
 | nil =>
  intro y k l w3 hh v hv;simp only[qaU,Option.some.injEq,Prod.mk.injEq] at hh;obtain⟨rfl,_⟩:=hh;simp at hv
 | cons p rs ih =>
  intro y k l w3 hh v hv;obtain⟨t,o⟩:=p;obtain⟨x,r⟩:=y;cases o with
  | true =>
   cases t<;>simp only[qaU] at hh<;>try (cases hh;done)
   split at hh
   · split at hh
     · rename_i l2 w2 h2;simp only[Option.some.injEq,Prod.mk.injEq] at hh;obtain⟨rfl,_⟩:=hh;rcases List.mem_cons.1 hv with rfl | hv
       · rfl
       · exact ih h2 v hv
     · cases hh
   · cases hh
  | false =>
   have hh:(match qaU h rs r k with | some (l,w)=>some (toPV t x::l,w) | none=>none)=some (l,w3):=by
     cases t<;>exact hh
   split at hh
   · rename_i l2 w2 h2;simp only[Option.some.injEq,Prod.mk.injEq] at hh;obtain⟨rfl,_⟩:=hh;rcases List.mem_cons.1 hv with rfl | hv
     · exact qof
     · exact ih h2 v hv
   · cases hh
theorem qw3 {h:Hp}:∀ {bx:List (List CK)} {ks:List Nat} {vs:List PV} {st:List Nat} {r:List PV} {w4:List (Nat×Ob)} {rest:List PV},UB h bx ks vs st->pkB h bx ks r=some (w4,rest)->qab w4=ks/\∀ k ob,(k,ob)∈w4->∃ l,ob=.box l:=by
 intro bx
 induction bx with
 | nil =>
  intro ks vs st r w4 rest hu hp
  match ks,vs,st,hu with
  | [],[],[],_ =>
   simp only[pkB,Option.some.injEq,Prod.mk.injEq] at hp;obtain⟨rfl,rfl⟩:=hp;exact⟨rfl,fun k ob hm=>by simp at hm⟩
 | cons cs bx ih =>
  intro ks vs st r w4 rest hu hp
  match ks,hu with
  | k::ks,hu =>
   obtain⟨l,a1,v2,s1,s2,h1,h2,rfl,rfl,h3⟩:=hu;simp only[pkB,h1] at hp;split at hp
   · rename_i b1 r1 hpc;obtain⟨hn,hp⟩:=q8q hp;split at hp
     · rename_i w5 r2 hpb;simp only[Option.some.injEq,Prod.mk.injEq] at hp;obtain⟨rfl,rfl⟩:=hp;obtain⟨e1,e2⟩:=ih h3 hpb;refine⟨by simp only[qab,List.map_cons] at e1 ⊢;rw[e1],fun k' ob hm=>?_⟩
       rcases List.mem_cons.1 hm with hm | hm
       · injection hm with _ e;exact⟨b1,e⟩
       · exact e2 k' ob hm
     · cases hp
   · cases hp
end
end Go.Proofs.YtfoedjifcmfogaaDoor.X
