/- Own work: part of the proof; the first line of each part says what it tells. -/
import Derived.Test.YtiefddjokkihdaaGreatDoorLa2
import Derived.Orders
open List renaming mem_cons->j9,map_cons->ja,mem_append->jb,map_nil->jd,mem_cons_of_mem->je,mem_cons_self->jf,map_append->ji,mem_map->jk,nil_append->jo,flatMap_cons->jp,zipWith_cons_cons->jv,Pairwise->jy,getElem?_map->jz,nodup_cons->jC,mem_flatMap->jD,getElem?_cons_succ->jE,filterMap_nil->jF,cons_append->jG,singleton_append->jI,mem_singleton->jJ,mem_of_getElem?->jK,getElem?_eq_some_iff->jO,pairwise_cons->jP,all_eq_true->jQ,getElem?_eq_getElem->jS,filterMap_cons->jT,zipWith->jU,eq_nil_of_length_eq_zero->jV,getElem?_set_self->jW,ext_getElem?->jX,rel_of_pairwise_cons->k8,pairwise_append->k9,getElem?_of_mem->kb,pairwise_iff_getElem->kc,nodup_nil->kd,mem_filterMap->ke
open List.cons renaming injEq->jc
open Bool renaming and_eq_true->jg,or_eq_false_iff->jt,not_eq_true'->jw,not_eq_false'->jH,false_or->jL,or_eq_true->jY
open Nat renaming eq_of_beq_eq_true->jh,zero_add->jm,le_of_ble_eq_true->jx,le_trans->jM,mul_le_mul_right->jN
open Array renaming toList_inj->jj,getElem?_toList->ju,getElem?_eq_getElem->jA,getD_eq_getD_getElem?->jB,getElem?_setIfInBounds_ne->jR,getElem?_eq_some_iff->k7,getElem?_setIfInBounds_self_of_lt->ka
open Prod.mk renaming injEq->jn
open Option renaming bind_some->jq,map_some->jr,getD_some->jZ
open Option.some renaming injEq->js


namespace Go.Proofs.YtiefddjokkihdaaGreatDoor.X
open Go
set_option linter.unusedVariables false
set_option linter.unusedSimpArgs false
variable {T:Told} {P:Program} {tb:Tb}
theorem UB.mono {h h':Hp} (hs:∀ k ob,h k=some ob->h' k=some ob):∀ {bx:List (List CK)} {ks:List Nat} {vs:List PV} {st:List Nat},UB h bx ks vs st->UB h' bx ks vs st:=by
 intro bx
 induction bx with
 | nil =>
  intro ks vs st hu
  match ks,vs,st,hu with
  | [],[],[],_=>trivial
 | cons cs bx ih =>
  intro ks vs st hu
  match ks,hu with
  | k::ks,hu =>
   obtain⟨l,a1,v2,s1,s2,h1,h2,e1,e2,h3⟩:=hu;exact⟨l,a1,v2,s1,s2,hs _ _ h1,h2,e1,e2,ih h3⟩
theorem qBY {env:Env} (hE:qai T P env) {o:Oper} {s:St} {hp:Hp} (hs:Sub hp s) {f:FuncId} {ct:Ctr} (hf:env f=some ct) {wi:Wir} (hwi:ct.wi=some wi) {args:List PV} {d:Nat} (hd:o.dst=some d)
   (hn:∀ k,d*8<=k->k<d*8+8->hp k=none->get s.h k=none) {ef:Eff}
   (hrun:∀ (B:Base) (w:World) (S:Foot) (J:Con) (a:Act),Rel T B w S J s a->∃ us:List Value,(execOp a.eval o).run P w=(callFunc f us.toArray).run P w/\All2 (TRel w S J (get s.h)) args us)
   (h:qnC hp d ct wi args some=some ef):qdw T P o s ef:=by
 intro B w S J a R hdo next Q hnx
 obtain⟨as,hrun,has⟩:=hrun B w S J a R;obtain⟨⟨fn,f1,f2,f3⟩,hdoes,hflat⟩:=hE f ct hf;simp only[Ctr.flat,jg] at hflat;rw[hwi] at hdoes;have hdoes:qDN T P f ct wi:=hdoes;unfold Oper.wp;rw[hrun,qqB f1 f2 f3];unfold qnC at h;split at h
 · rename_i a1 qk hu0;obtain⟨fl,hu1,hfl⟩:∃ fl,unpC wi.args fl=some (a1,qk)/\ungr wi.ga args=some fl:=by
     cases hq:ungr wi.ga args with
     | none=>rw[hq] at hu0;cases hu0
     | some fl=>rw[hq] at hu0;exact⟨fl,hu0,rfl⟩
   obtain⟨fas,hgv,hfas⟩:=qAf hfl has;split at h
   · rename_i a2 ks hu2;obtain⟨hdist,h⟩:=q8q h;obtain⟨V,hV⟩:∃ V,V=a1++a2:=⟨_,rfl⟩;rw[<- hV] at h;split at h
     · rename_i x w1 hca;cases hF:ct.F x with
       | none=>rw[hF] at h;cases h
       | some r =>
       rw[hF] at h;simp only[jq] at h;split at h
       · rename_i w2 hco;split at h
         · rename_i l w3 hcr;obtain⟨hl7,h⟩:=q8q h;have hl7:=jx hl7;split at h
           · rename_i w4 rst hpk;have hres:∃ pvs cells w5,ef.v=some (outP pvs)/\ef.hw=w5++(w4++(w3++w2++w1))/\grp wi.gr cells=some pvs/\((w5=[]/\rst=[]/\wi.nb=none/\cells=l.take wi.nres) \/
                (∃ n,wi.nb=some n/\w5=[(d*8+7,.box rst)]/\cells=(l.take wi.nres).take wi.np++.ptr (d*8+7) 0 0::(l.take wi.nres).drop wi.np/\hp (d*8+7)=none/\rst.length=n/\qdo rst=true)):=by
              split at h
              · rename_i h1;split at h
                · rename_i vs hvs;injection h with h;subst h
                  exact⟨vs,_,[],rfl,rfl,hvs,.inl ⟨rfl,rfl,h1,rfl⟩⟩
                · cases h
              · rename_i rst _ _ n h1;split at h
                · rename_i h3;obtain⟨h4,h⟩:=q8q h;simp only[jg] at h4;split at h
                  · rename_i vs hvs;injection h with h;subst h
                    exact⟨vs,_,[(d*8+7,.box rst)],rfl,rfl,hvs,.inr ⟨n,h1,rfl,rfl,h3,jh h4.1,h4.2⟩⟩
                  · cases h
                · cases h
              · cases h
             clear h;obtain⟨pvs,cells,w5,hpv,hhw,hgrp,hkind⟩:=hres;obtain⟨st,eks,hub⟩:=qEn hu2;have hboxp:∀ k∈ks,∃ l,hp k=some (.box l):=hub.box;have hbox:∀ k∈ks,∃ l,get s.h k=some (.box l):=fun k hk=>by
              obtain⟨l,hl⟩:=hboxp k hk;exact⟨l,hs k _ hl⟩
             have hbb:∀ k l,get s.h k=some (.box l)->∃ c,J k=some (qfd J k,0)/\Blk w (qfd J k) c/\All2 (qad w S J (get s.h)) l c.toList:=by
              intro k l hk;obtain⟨b,c,h1,h2,h3,_⟩:=R.obs k _ hk;have e:qfd J k=b:=by simp [qfd,h1]
              rw[e];exact⟨c,h1,h2,h3⟩
             have hblk:∀ k∈ks,J k=some (qfd J k,0):=fun k hk=>by
              obtain⟨l,hl⟩:=hbox k hk;obtain⟨c,h1,_⟩:=hbb k l hl;exact h1
             have hqk:∀ k∈qk,k∈ks:=fun k hk=>by rw[eks];exact jb.2 (.inl hk)
             have hstk:∀ k∈st,k∈ks:=fun k hk=>by rw[eks];exact jb.2 (.inr hk)
             obtain⟨u1,hwc,hau1⟩:=qAd (J:=J) hu1 hfas (fun k hk=>⟨hblk k (hqk k hk),hbox k (hqk k hk)⟩);obtain⟨u2,hwb,hau2⟩:=UB.wb hbb (hub.mono hs) (fun k hk=>hbox k (hstk k hk));have hus:All2 (TRel w S J (get s.h)) V (u1++u2):=by rw[hV];exact All2.append hau1 hau2
             obtain⟨k1,k2,k3,k4,k5⟩:=qpN hca 0;obtain⟨S1,R1,hS1,hS1n,hdec⟩:=R.frz hs (qfN ct.ps V);generalize hK:qfN ct.ps V=K at *;have hfz:∀ k,k ∉ K->get (frzW hp K++s.h) k=get s.h k:=fun k hk=>by rw[q2q,qmL hk];rfl
             have huse:∀ {n k off:Nat},(n,(k,off))∈uses ct.ps V 0->k ∉ K/\∃ t xs m,hp k=some (.rows t xs m)/\m≠.frz:=by
              intro n k off hg;refine⟨(k2 k (jk.2 ⟨_,hg,rfl⟩)).2.2,?_⟩;rcases qeq hca hg with ⟨_,_,_,t,xs,h⟩ | ⟨_,t,xs,m,h1,h2⟩
              · exact⟨t,xs,_,h,by simp⟩
              · exact⟨t,xs,m,h1,h2⟩
             have hlive:∀ {n k off:Nat},(n,(k,off))∈uses ct.ps V 0->∃ ob,get s.h k=some ob/\ob.live=true/\get (frzW hp K++s.h) k=some ob:=by
              intro n k off hg;obtain⟨h1,t,xs,m,h2,h3⟩:=huse hg;exact⟨_,hs k _ h2,by cases m<;>first | rfl | exact absurd rfl h3,by rw[hfz k h1];exact hs k _ h2⟩
             have huS:∀ k∈useK (uses ct.ps V 0),∀ b o',J k=some (b,o')->¬ S1 b:=by
              intro k hk b o' hb;obtain⟨⟨n,k',off⟩,hm,rfl⟩:=jk.1 hk;obtain⟨ob,_,h2,h3⟩:=hlive hm;exact(R1.liveS h3 h2 hb).1
             have hcon:∀ {n b o':Nat},qdN J (uses ct.ps V 0) n=some (b,o')->∃ k off o1,get (uses ct.ps V 0) n=some (k,off)/\J k=some (b,o1)/\o'=o1+off:=by
              intro n b o' hc;unfold qdN at hc;split at hc
              · rename_i k off hg;cases hb:J k with
                | none=>rw[hb] at hc;cases hc
                | some p =>
                  obtain⟨b1,o1⟩:=p;rw[hb] at hc;simp only[jr] at hc;injection hc with hc
                  injection hc with h1 h2
                  subst h1;exact⟨k,off,o1,hg,hb,h2.symm⟩
              · cases hc
             have hsame:∀ {k k' b o1 o2 n n' off off':Nat},(n,(k,off))∈uses ct.ps V 0->(n',(k',off'))∈uses ct.ps V 0->J k=some (b,o1)->J k'=some (b,o2)->k=k':=by
              intro k k' b o1 o2 n n' off off' hg hg' hb hb';obtain⟨ob,h1,h2,_⟩:=hlive hg;obtain⟨ob',h1',h2',_⟩:=hlive hg';exact R.inj k k' ob ob' b o1 o2 h1 h2 h1' h2' hb hb'
             have hen:qz2 T w S1 (qdN J (uses ct.ps V 0)) ct.ps x (u1++u2):=by
              refine⟨qpO R hs hS1 hdec hca hus (fun k hk=>by rw[<- hK];exact hk) huS (fun _ _=>rfl),fun n b o' hc=>?_,fun n n' b o1 o2 h1 h2=>?_,R1.Slt,R1.told,fun b hb=>R1.S0 b (R1.toldS b hb)⟩
              · obtain ⟨k, off, o1, hg, _⟩ := hcon hc;exact(qwH hg).2
              · obtain ⟨k, off, o1', hg, hb, _⟩ := hcon h1;obtain⟨k',off',o2',hg',hb',_⟩:=hcon h2;have:=hsame (qbn hg) (qbn hg') hb hb';subst this;exact qmr k1 hg hg'
             have hnd:ks.Nodup:=qmS hdist;have hk1:∀ k∈ks,∃ l,get (frzW hp K++s.h) k=some (.box l):=fun k hk=>by
              obtain⟨l,hl⟩:=hboxp k hk;rw[q2q];cases hq:get (frzW hp K) k with
              | none=>exact⟨l,hs k _ hl⟩
              | some ob' =>
                obtain⟨ob0,q1,q2⟩:=qhm hq;rw[hl] at q1;injection q1 with q1;subst q1;subst q2
                exact⟨l,rfl⟩
             have hbS1:∀ k∈ks,¬ S1 (qfd J k)/\B.Mo (qfd J k):=fun k hk=>by
              obtain⟨l,hl⟩:=hk1 k hk;exact R1.liveS hl rfl (hblk k hk)
             have hinjb:∀ k∈ks,∀ k' ob o',get s.h k'=some ob->ob.live=true->J k'=some (qfd J k,o')->k=k':=fun k hk k' ob o' h1 h2 h3=>by
              obtain⟨l,hl⟩:=hbox k hk;exact R.inj k k' _ ob _ 0 o' hl rfl h1 h2 (hblk k hk) h3
             have hmem:∀ b,b∈qk.map (qfd J)++st.map (qfd J)->∃ k∈ks,qfd J k=b:=fun b hb=>by
              rw[<- ji,<- eks] at hb;exact jk.1 hb
             have henB:qyO T w S1 (qdN J (uses ct.ps V 0)) wi ct.ps x as (u1++u2) (qk.map (qfd J)) (st.map (qfd J)):=by
              refine⟨⟨fas,u1,u2,hgv,rfl,hwc,by rw[<- ji,<- eks];exact hwb⟩,hen,?_,fun b hb=>?_,fun b hb n o' hc=>?_⟩
              · rw [<- ji, <- eks];refine jy.map _ (R:=fun a b=>a≠b/\a∈ks/\b∈ks) (fun a b hab e=>?_) ?_
                · obtain ⟨l', hl'⟩ := hbox b hab.2.2;exact hab.1 (hinjb a hab.2.1 b _ 0 hl' rfl (by rw[e];exact hblk b hab.2.2))
                · exact jy.imp_of_mem (fun ha hb h=>⟨h,ha,hb⟩) hnd
              · obtain ⟨k, hk, rfl⟩ := hmem b hb;exact(hbS1 k hk).1
              · obtain ⟨k, hk, rfl⟩ := hmem b hb;obtain⟨k',off,o1,hg,hb',_⟩:=hcon hc;obtain⟨ob,h1,h2,_⟩:=hlive (qbn hg);have:=hinjb k hk k' ob o1 h1 h2 hb';subst this;obtain⟨_,t,xs,m,h3,_⟩:=huse (qbn hg);obtain⟨l',hl'⟩:=hboxp k hk;rw[hl'] at h3;cases h3
             refine Calls.mono (hdoes x r hF w S1 _ as (u1++u2) _ _ henB) fun e w' he=>?_
             cases e with
             | panicked c=>exact he.elim
             | outgrown=>exact he.elim
             | returned v =>
              obtain⟨S',ρ,L⟩:=he;obtain⟨u1',u2',u3',hrs,hnr,hwb',rvs,rcs,hvr,hgr,hnb⟩:=L.res;obtain⟨hll,hw3⟩:=qsJ hcr hrs;obtain⟨o1,o2⟩:=qtD (J:=J) hca hco L.outs (fun _ _=>rfl);have hnew:∀ n ob,get w3 n=some ob->get s.h n=none:=fun n ob hg=>by
                obtain⟨a1,a2,a3,_⟩:=hw3 n ob hg;exact hn n a1 (by omega) a3
              have hnew':∀ n ob,get w3 n=some ob->get (frzW hp K++s.h) n=none:=fun n ob hg=>by
                have h1:=hnew n ob hg;rw[q2q,h1];cases hq:get (frzW hp K) n with
                | none=>rfl
                | some ob' =>
                  obtain⟨ob0,q1,_⟩:=qhm hq;rw[hs n _ q1] at h1;cases h1
              have h5:∃ bn:Option Nat,(bn=none/\w5=[])\/(∃ b,bn=some b/\w5=[(d*8+7,.box rst)]/\rcs=u1'.take wi.np++.pointer (some ⟨b,0,none⟩)::u1'.drop wi.np/\Blk w' b u3'.toArray/\w.heap.size<=b/\¬ S' b/\(∀ j o,ρ j≠some (b,o))/\get s.h (d*8+7)=none/\hp (d*8+7)=none/\qdo rst=true):=by
                rcases hkind with ⟨e5,_,_,_⟩ | ⟨n,e1,e5,_,e3,_,e6⟩
                · exact⟨none,.inl ⟨rfl,e5⟩⟩
                · rw [e1] at hnb;obtain⟨_,b,g1,g2,g3,g4,g5⟩:=hnb;exact⟨some b,.inr ⟨b,rfl,e5,g1,g2,g3,g4,g5,hn _ (by omega) (by omega) e3,e3,e6⟩⟩
              obtain⟨bn,h5⟩:=h5
              let J':Con:=fun n=>if n∈qac w3 then ρ (n-d*8) else if n∈qac w5 then bn.map fun b=>(b,0) else J n
              have hβ3:∀ n ob,get w3 n=some ob->J' n=ρ (n-d*8):=fun n ob hg=>by simp only[J',if_pos (qaw hg)]
              have hw5k:∀ n,n∈qac w5->n=d*8+7/\get s.h n=none:=fun n hn5=>by
                rcases h5 with ⟨_,e⟩ | ⟨b,_,e,_,_,_,_,_,q,_⟩
                · rw[e] at hn5;simp [qac] at hn5
                · rw[e] at hn5;simp [qac] at hn5;subst hn5;exact⟨rfl,q⟩
              have h35:∀ n,n∈qac w3->n ∉ qac w5:=fun n h3 h5'=>by
                obtain⟨ob,hg⟩:=q13q h3;obtain⟨_,a2,_⟩:=hw3 n ob hg;have:=(hw5k n h5').1;omega
              have hβ5:∀ n ob,get w5 n=some ob->∃ b,J' n=some (b,0)/\bn=some b/\n=d*8+7/\ob=.box rst/\rcs=u1'.take wi.np++.pointer (some ⟨b,0,none⟩)::u1'.drop wi.np/\Blk w' b u3'.toArray/\w.heap.size<=b/\¬ S' b/\(∀ j o,ρ j≠some (b,o))/\get (frzW hp K++s.h) n=none/\qdo rst=true:=fun n ob hg=>by
                have hm:=qaw hg;have h3:n ∉ qac w3:=fun h=>h35 n h hm
                rcases h5 with ⟨_,e⟩ | ⟨b,e0,e,g1,g2,g3,g4,g5,q,q2,q3⟩
                · rw[e] at hg;simp [get] at hg
                · rw [e, q6q] at hg;split at hg
                  · rename_i en;injection hg with hg
                    refine⟨b,by simp only[J',if_neg h3,if_pos hm,e0];rfl,e0,en.symm,hg.symm,g1,g2,g3,g4,g5,?_,q3⟩;rw[q2q,<- en,q];cases hq:get (frzW hp K) (d*8+7) with
                    | none=>rfl
                    | some ob' =>
                      obtain⟨ob0,q1,_⟩:=qhm hq;rw[q2] at q1;cases q1
                  · simp [get] at hg
              have hβo:∀ n ob,get s.h n=some ob->J' n=J n:=fun n ob hg=>by
                have h3:n ∉ qac w3:=fun hm=>by
                  obtain⟨ob',h'⟩:=q13q hm;rw[hnew n ob' h'] at hg;cases hg
                have h5':n ∉ qac w5:=fun hm=>by
                  rw[(hw5k n hm).2] at hg;cases hg
                simp only[J',if_neg h3,if_neg h5']
              have hownk:∀ {n b o':Nat},n∈ownK ct.ps 0->qdN J (uses ct.ps V 0) n=some (b,o')->∃ k t xs,get s.h k=some (.rows t xs .own)/\k∈qac (qbU ct.ps V)/\J k=some (b,0)/\o'=0:=by
                intro n b o' hm hc;obtain⟨k,off,o1',hg,hb,rfl⟩:=hcon hc;rcases qeq hca (qbn hg) with ⟨g1,_,rfl,t,xs,g2⟩ | ⟨g1,_⟩
                · have g3 := hs k _ g2;have:=R.obs k _ g3;simp only[ORel,hb] at this;have h0:=this.2.2.2.2 trivial;subst h0;exact⟨k,t,xs,g3,g1,hb,rfl⟩
                · exact absurd g1 (qkO hm)
              have hWk:∀ {n b o':Nat},qdN J (uses ct.ps V 0) n=some (b,o')->∃ k off o1' ob,(n,(k,off))∈uses ct.ps V 0/\k∈qac (w2++qbU ct.ps V)/\get s.h k=some ob/\ob.live=true/\get (frzW hp K++s.h) k=some ob/\J k=some (b,o1'):=by
                intro n b o' hc;obtain⟨k,off,o1',hg,hb,rfl⟩:=hcon hc;obtain⟨ob,q1,q2,q3⟩:=hlive (qbn hg);refine⟨k,off,o1',ob,qbn hg,?_,q1,q2,q3,hb⟩;simp only[qac,ji,jb];rcases qeq hca (qbn hg) with ⟨g1,_⟩ | ⟨g1,_⟩
                · exact .inr g1
                · exact .inl (o1 n k off hg g1)
              have hS'no:∀ k ob b o',get (frzW hp K++s.h) k=some ob->k ∉ qac (qbU ct.ps V)->ob.live=true->J k=some (b,o')->¬ S' b:=by
                intro k ob b o' hk hm hl hb hS';rcases L.fresh b hS' with h | h | ⟨n,h1,o2',h2⟩
                · exact(R1.liveS hk hl hb).1 h
                · obtain ⟨c, hc⟩ := R1.blk hk (by rintro rfl; cases hl) hb;have:=hc.lt;omega
                · obtain ⟨k', t, xs, q1, q2, q3, _⟩ := hownk h1 h2;have q4:get (frzW hp K++s.h) k'=some (.rows t xs .own):=by
                    rw[hfz];exact q1;obtain⟨ku,hku,hke⟩:=jk.1 (k4 k' q2);obtain⟨n1,k1',off1⟩:=ku;simp only at hke;subst hke;exact(huse hku).1
                  have:=R1.inj k k' _ _ b _ _ hk hl q4 rfl hb q3;subst this;exact hm q2
              have hw2:∀ k ob,get w2 k=some ob->∃ (t:Ty) (xs ys:List t.den) (m:Md) (off:Nat),get s.h k=some (.rows t xs m)/\m≠.frz/\get (frzW hp K++s.h) k=some (.rows t xs m)/\k ∉ qac (qbU ct.ps V) /\
                  ob=.rows t (over xs off ys) m/\off+ys.length<=xs.length/\∀ b o',J k=some (b,o')->¬ S' b/\∃ c0 c,Blk w b c0/\Blk w' b c/\c.size=c0.size /\
                    (∀ j,(j<o'+off*t.size\/o'+off*t.size+ys.length*t.size<=j)->c[j]?=c0[j]?)/\qft (Cell w' S' t) t.size w' b (o'+off*t.size) ys:=by
                intro k ob hk;obtain⟨n,off,len,t,xs,ys,m,q1,q2,q3,q4,q5,j,q6⟩:=o2 k ob hk;have hk':=hs k _ q3;have hmf:m≠.frz:=by
                  obtain⟨_,t',xs',m',g1,g2⟩:=huse (qbn q1);rw[q3] at g1;injection g1 with g1;injection g1 with g1 g3 g4
                  subst g4;exact g2
                obtain⟨u,hu1,hu2⟩:=hus.get q6;obtain⟨hwin,_⟩:=qfI R hk' hu2;have hwl:=qkn hwin;have hlen:=qb0 hwin;obtain⟨q5,q7⟩:=q5;refine⟨t,xs,ys,m,off,hk',hmf,by rw[hfz k (huse (qbn q1)).1];exact hk',?_,q4,by omega,fun b o' hb=>?_⟩
                · intro hg;obtain⟨n',off',h1,h2⟩:=qqk (i:=0) hg;have:=qvz k1 h1 (qbn q1);subst this;exact qkO h2 q2
                · rw [hb] at q7;simp only[jr] at q7;obtain⟨q7,c0,c,q8,q9,q10,q11,q12⟩:=q7;exact⟨q7,c0,c,q8,q9,q10,by rw[q5];exact q11,q12⟩
              obtain⟨hk4,hb4⟩:=qCO hub hpk;have hw4:∀ k ob,get w4 k=some ob->k∈ks/\∃ l,ob=.box l:=fun k ob hg=>by
                refine⟨?_,hb4 k ob (qbn hg)⟩;rw[<- hk4];exact qaw hg
              have hgone4:∀ k∈ks,k ∉ qac (qbU ct.ps V):=fun k hk hg=>by
                obtain⟨n,off,h1,h2⟩:=qqk (i:=0) hg;obtain⟨_,t,xs,m,h3,_⟩:=huse h1;obtain⟨l',hl'⟩:=hboxp k hk;rw[hl'] at h3;cases h3
              have h42:∀ k ob,get w2 k=some ob->k ∉ ks:=fun k ob hg hk=>by
                obtain⟨t,xs,ys,m,off,p1,_⟩:=hw2 k ob hg;obtain⟨l',hl'⟩:=hbox k hk;rw[hl'] at p1;cases p1
              have h43:∀ k ob,get w3 k=some ob->k ∉ ks:=fun k ob hg hk=>by
                obtain⟨l',hl'⟩:=hbox k hk;rw[hnew k ob hg] at hl';cases hl'
              have h45:∀ k,k∈qac w5->k ∉ ks:=fun k hg hk=>by
                obtain⟨l',hl'⟩:=hbox k hk;rw[(hw5k k hg).2] at hl';cases hl'
              have hHW:∀ k,k∈qac ((w5++w4)++(w3++(w2++qbU ct.ps V))) ↔ k∈qac w5\/k∈ks\/k∈qac w3\/k∈qac w2\/k∈qac (qbU ct.ps V):=fun k=>by
                rw[<- hk4];simp only[qac,ji,jb,or_assoc]
              have hgw:∀ k ob,get (((w5++w4)++(w3++(w2++qbU ct.ps V)))++(frzW hp K++s.h)) k=some ob->get w5 k=some ob\/(k ∉ qac w5/\get w4 k=some ob)\/get w3 k=some ob\/(get w3 k=none/\get w2 k=some ob)\/(k∈qac ((w5++w4)++(w3++(w2++qbU ct.ps V)))/\ob=.gone)\/(k ∉ qac ((w5++w4)++(w3++(w2++qbU ct.ps V)))/\get (frzW hp K++s.h) k=some ob):=by
                intro k ob hk;cases e5:get w5 k with
                | some ob5 =>
                  rw[q2q,q2q,q2q,e5] at hk;exact .inl hk
                | none =>
                  have n5:k ∉ qac w5:=fun hm=>by
                    obtain⟨ob',h'⟩:=q13q hm;rw[e5] at h';cases h'
                  cases e4:get w4 k with
                  | some ob4 =>
                    rw[q2q,q2q,q2q,e5,e4] at hk;exact .inr (.inl ⟨n5,hk⟩)
                  | none =>
                    cases e3:get w3 k with
                    | some ob3 =>
                      rw[q2q,q2q,q2q,q2q,e5,e4,e3] at hk;exact .inr (.inr (.inl hk))
                    | none =>
                      cases e2:get w2 k with
                      | some ob2 =>
                        rw[q2q,q2q,q2q,q2q,q2q,e5,e4,e3,e2] at hk;exact .inr (.inr (.inr (.inl ⟨rfl,hk⟩)))
                      | none =>
                        cases e1:get (qbU ct.ps V) k with
                        | some ob1 =>
                          rw[q2q,q2q,q2q,q2q,q2q,e5,e4,e3,e2,e1] at hk;injection hk with hk
                          subst hk;exact .inr (.inr (.inr (.inr (.inl ⟨(hHW k).2 (.inr (.inr (.inr (.inr (qaw e1))))),qty e1⟩))))
                        | none =>
                          have hm:k ∉ qac ((w5++w4)++(w3++(w2++qbU ct.ps V))):=fun hm=>by
                           obtain⟨ob',h'⟩:=q13q hm;rw[q2q,q2q,q2q,q2q,e5,e4,e3,e2,e1] at h';cases h'
                          rw[q2q,q2q,q2q,q2q,q2q,e5,e4,e3,e2,e1] at hk;exact .inr (.inr (.inr (.inr (.inr ⟨hm,hk⟩))))
              have hold:∀ k ob,get (((w5++w4)++(w3++(w2++qbU ct.ps V)))++(frzW hp K++s.h)) k=some ob->ob.live=true->get w5 k=some ob\/get w3 k=some ob\/(k ∉ qac (qbU ct.ps V)/\J' k=J k/\∃ ob0,get (frzW hp K++s.h) k=some ob0/\ob0.live=true):=by
                intro k ob hk hl;rcases hgw k ob hk with h | ⟨_,h⟩ | h | ⟨h0,h⟩ | ⟨_,rfl⟩ | ⟨h0,h⟩
                · exact .inl h
                · obtain ⟨p1, _⟩ := hw4 k ob h;obtain⟨l',hl'⟩:=hk1 k p1;obtain⟨l2,hl2⟩:=hbox k p1;exact .inr (.inr ⟨hgone4 k p1,hβo k _ hl2,_,hl',rfl⟩)
                · exact .inr (.inl h)
                · obtain ⟨t, xs, ys, m, off, p1, p2, p3, p4, _⟩ := hw2 k ob h;exact .inr (.inr ⟨p4,hβo k _ p1,_,p3,by cases m<;>first | rfl | exact absurd rfl p2⟩)
                · cases hl
                · have h0' := fun q => h0 ((hHW k).2 q)
                  refine .inr (.inr ⟨fun hm=>h0' (.inr (.inr (.inr (.inr hm)))),?_,ob,h,hl⟩);have q3:k ∉ qac w3:=fun hm=>h0' (.inr (.inr (.inl hm)))
                  have q5:k ∉ qac w5:=fun hm=>h0' (.inl hm)
                  simp only[J',if_neg q3,if_neg q5]
              have hw3b:∀ k ob,get w3 k=some ob->∀ b o',J' k=some (b,o')->∀ k' ob' o2,get (frzW hp K++s.h) k'=some ob'->ob'.live=true->k' ∉ qac (qbU ct.ps V)->J k'≠some (b,o2):=by
                intro k ob hk b o' hb k' ob' o2 hk' hl' hm hb';rw[hβ3 k ob hk] at hb;rcases L.rdom _ _ _ hb with h | ⟨n,h1,o3,h2⟩
                · obtain ⟨c, hc⟩ := R1.blk hk' (by rintro rfl; cases hl') hb';have:=hc.lt;omega
                · obtain ⟨k2, t, xs, p1, p2, p3, _⟩ := hownk h1 h2;have q4:get (frzW hp K++s.h) k2=some (.rows t xs .own):=by
                    rw[hfz];exact p1;obtain⟨ku,hku,hke⟩:=jk.1 (k4 k2 p2);obtain⟨n1,k1',off1⟩:=ku;simp only at hke;subst hke;exact(huse hku).1
                  have:=R1.inj k' k2 _ _ b _ _ hk' hl' q4 rfl hb' p3;subst this;exact hm p2
              have hw5b:∀ k ob,get w5 k=some ob->∀ b o',J' k=some (b,o')->∀ k' ob' o2,get (frzW hp K++s.h) k'=some ob'->ob'.live=true->J k'≠some (b,o2):=by
                intro k ob hk b o' hb k' ob' o2 hk' hl' hb';obtain⟨b0,e1,_,_,_,_,_,e2,_⟩:=hβ5 k ob hk;rw[e1] at hb;injection hb with hb
                injection hb with hb _
                subst hb;obtain⟨c,hc⟩:=R1.blk hk' (by rintro rfl;cases hl') hb';have:=hc.lt;omega
              have hcells:∀ g':Hp,(∀ n ob,get w3 n=some ob->g' n=some ob)->(∀ k∈ks,∃ l',g' k=some (.box l')) ->
                  (Evo w w' S1 S' J J' (get (frzW hp K++s.h)) g'->∀ k ob,get w4 k=some ob->∃ a1 c,ob=.box a1/\Blk w' (qfd J k) c/\All2 (qad w' S' J' g') a1 c.toList)/\All2 (qeW w' S' J' g') rst u3'/\All2 (qeW w' S' J' g') (l.take wi.nres) u1':=by
                intro g' h3 hbx;have hall:All2 (qeW w' S' J' g') l (u1'++(u2'++u3')):=qwt hcr hrs fun n ob hg=>⟨h3 n ob hg,by rw[hβ3 n ob hg,jm]⟩
                have ht:=hall.take wi.nres;have hdr:=hall.drop wi.nres;rw[<- hnr,List.take_left] at ht;rw[<- hnr,List.drop_left] at hdr;rw[hnr] at ht hdr;obtain⟨q1,q2⟩:=qEG (J:=J) (J':=J') (w':=w') (S':=S') (g':=g') hub hpk (by rw[eks,ji];exact hwb') hdr (fun k hk=>⟨by
                  obtain⟨l2,hl2⟩:=hbox k (hstk k hk);rw[hβo k _ hl2];exact hblk k (hstk k hk),hbx k (hstk k hk)⟩)
                exact⟨fun hEv k ob hg=>q1 (fun i cs k l c e1 e2 e3 e4 j o u e5 e6 e7=>by
                  have hkm:k∈ks:=jK e2;have hl1:get (frzW hp K++s.h) k=some (.box l):=by
                    rw[q2q];cases hq:get (frzW hp K) k with
                    | none=>exact hs k _ e3
                    | some ob' =>
                      obtain⟨ob0,q1,q2⟩:=qhm hq;rw[e3] at q1;injection q1 with q1;subst q1;subst q2;rfl
                  obtain⟨b,c0,p1,p2,p3,_⟩:=R1.obs k _ hl1;have hbk:=hblk k hkm;rw[hbk] at p1;injection p1 with p1
                  injection p1 with p1 _
                  subst p1;obtain⟨u0,r1,r2⟩:=p3.get e6;have hid:=L.hid i cs (qfd J k) e1 (by rw[<- ji,<- eks,jz,e2];rfl) j e5;rw[e4.cell,p2.cell,e7] at hid;rw[ju] at r1;rw[r1] at hid;injection hid with hid
                  rw[hid];exact r2.evo hEv) k ob (qbn hg),q2,ht⟩
              have hg3:∀ n ob,get w3 n=some ob->get (((w5++w4)++(w3++(w2++qbU ct.ps V)))++(frzW hp K++s.h)) n=some ob:=fun n ob hg=>by
                have e5:get w5 n=none:=q11q fun h=>h35 n (qaw hg) h
                have e4:get w4 n=none:=q11q fun h=>h43 n ob hg (by rw[<- hk4];exact h)
                rw[q2q,q2q,q2q,q2q,e5,e4,hg];rfl
              have hg4:∀ k∈ks,∃ l',get (((w5++w4)++(w3++(w2++qbU ct.ps V)))++(frzW hp K++s.h)) k=some (.box l'):=fun k hk=>by
                have e5:get w5 k=none:=q11q fun h=>h45 k h hk
                obtain⟨ob,hob⟩:=q13q (hw:=w4) (k:=k) (by rw[hk4];exact hk);obtain⟨l',rfl⟩:=(hw4 k ob hob).2;exact⟨l',by rw[q2q,q2q,q2q,e5,hob];rfl⟩
              obtain⟨hc4,hc5,hc1⟩:=hcells _ hg3 hg4;obtain⟨φr,hr1,hr2,hr3,hr4⟩:∃ φr:Nat->List Nat,(∀ j e xs b o,resG ct.rs 0 (ct.enc r).2 j=some (.rows e xs .own)->ρ j=some (b,o)->e.flat=true\/DRow w' S' w.heap.size e b xs (φr j)) /\
                  (∀ j b,b∈φr j->¬ S' b/\w.heap.size<=b/\b<w'.heap.size/\∀ j' o,ρ j'≠some (b,o))/\(∀ j j' b,b∈φr j->b∈φr j'->j=j')/\∀ j b,b∈φr j->∀ k ob,get w5 k≠some ob:=by
                cases hfr:qs3 ct.rs with
                | true=>exact⟨fun _=>[],fun j e xs b o h _=>.inl (qvc hfr h),fun j b hb=>by simp at hb,fun j j' b hb=>by simp at hb,fun j b hb=>by simp at hb⟩
                | false =>
                  obtain⟨φr,q1,q2,q3⟩:=L.deep hfr;refine⟨φr,fun j e xs b o h h'=>.inr (q1 j e xs b o h h'),q2,q3,fun j b _ k ob hg=>?_⟩;have:=hflat.2;rw[hfr,jL] at this;simp only[Ctr.bare,hwi,jg] at this;have hnb0:=this.2.2;rcases h5 with ⟨_,e5⟩ | ⟨b0,_,_⟩
                  · rw[e5] at hg;simp [get] at hg
                  · rcases hkind with ⟨e5, _⟩ | ⟨n, e1, _⟩
                    · rw[e5] at hg;simp [get] at hg
                    · rw[e1] at hnb0;cases hnb0
              have R2:Rel T B w' S' J' ⟨s.e,((w5++w4)++(w3++(w2++qbU ct.ps V)))++(frzW hp K++s.h)⟩ a:=by
                refine(R1.genRE (w':=w') (S':=S') (J':=J') L.calm ((w5++w4)++(w3++(w2++qbU ct.ps V))) (fun b=>(∃ n o',qdN J (uses ct.ps V 0) n=some (b,o'))\/b∈qk.map (qfd J)++st.map (qfd J)) ?_ L.grow ?_ ?_ L.sub ?_ L.Slt ?_ ?_ ?_ ?_ ?_ ?_ ?_ ?_ ?_ ?_ (fun k=>if k∈qac w3 then φr (k-d*8) else []) ?_ ?_ ?_).1
                · exact fun b hb hnW=>L.same b hb (fun k o' h=>hnW (.inl ⟨k,o',h⟩)) fun h=>hnW (.inr h)
                · rintro b (⟨n, o', hc⟩ | hb)
                  · obtain ⟨k, off, o1', ob, _, q1, q2, q3, q4, q5⟩ := hWk hc;refine⟨k,ob,o1',(hHW k).2 ?_,q4,q3,q5⟩;simp only[qac,ji,jb] at q1;rcases q1 with q1 | q1
                    · exact .inr (.inr (.inr (.inl q1)))
                    · exact .inr (.inr (.inr (.inr q1)))
                  · obtain ⟨k, hk, rfl⟩ := hmem b hb;obtain⟨l',hl'⟩:=hk1 k hk;exact⟨k,_,0,(hHW k).2 (.inr (.inl hk)),hl',rfl,hblk k hk⟩
                · intro k ob hk hm;have h0':=fun q=>hm ((hHW k).2 q)
                  have q3:k ∉ qac w3:=fun h=>h0' (.inr (.inr (.inl h)))
                  have q5:k ∉ qac w5:=fun h=>h0' (.inl h)
                  simp only[J',if_neg q3,if_neg q5]
                · intro b hb;rcases L.fresh b hb with h | h | ⟨n,h1,o',h2⟩
                  · exact .inl h
                  · exact .inr (.inl (jM R.grow h))
                  · obtain ⟨k, t, xs, p1, _, p3, _⟩ := hownk h1 h2;exact .inr (R.liveS p1 rfl p3).2
                · intro k ob b o' hk hm hl hb;exact hS'no k ob b o' hk (fun h=>hm ((hHW k).2 (.inr (.inr (.inr (.inr h)))))) hl hb
                · intro k ob hm hk E;rcases hgw k ob hk with h | ⟨_,h⟩ | h | ⟨h0,h⟩ | ⟨_,rfl⟩ | ⟨h0,h⟩
                  · obtain ⟨b, e1, _, _, rfl, _, e2, e3, e4, _, _, e6⟩ := hβ5 k ob h;refine⟨b,_,e1,e2,?_,e4,.inl (jM R.grow e3)⟩;have:∀ {rs:List PV} {us:List Value},qdo rs=true->All2 (qeW w' S' J' (get (((w5++w4)++(w3++(w2++qbU ct.ps V)))++(frzW hp K++s.h)))) rs us->All2 (qad w' S' J' (get (((w5++w4)++(w3++(w2++qbU ct.ps V)))++(frzW hp K++s.h)))) rs us:=by
                      intro rs
                      induction rs with
                      | nil => intro us _ h; cases us with
                        | nil=>trivial
                        | cons _ _=>exact h.elim
                      | cons z rs ih => intro us hn h; cases us with
                        | nil=>exact h.elim
                        | cons u us =>
                          obtain⟨n1,n2⟩:=qtp hn;exact⟨h.1.cell n1,ih n2 h.2⟩
                    simpa using this e6 hc5
                  · obtain ⟨p1, _⟩ := hw4 k ob h;obtain⟨a1',c,rfl,q1,q2⟩:=hc4 E k ob h;obtain⟨l2,hl2⟩:=hbox k p1;have hkm:qfd J k∈qk.map (qfd J)++st.map (qfd J):=by rw[<- ji,<- eks];exact jk.2 ⟨k,p1,rfl⟩
                    exact⟨qfd J k,c,by rw[hβo k _ hl2];exact hblk k p1,q1,q2,L.nS _ hkm,(hbS1 k p1).2⟩
                  · obtain ⟨a1, a2, a3, e, xs, v, rfl, hO⟩ := hw3 k ob h;rw[jm] at hO;simp only[ORel,hβ3 k _ h];simp only[OwnV] at hO;cases hρ:ρ (k-d*8) with
                    | none=>rw[hρ] at hO;exact hO.1
                    | some p =>
                      obtain⟨b,o'⟩:=p;rw[hρ] at hO;obtain⟨rfl,p1,x0,cap,c,_,p2,p3,p4,p5,p6⟩:=hO;have hmul:=jN e.size p2;refine⟨⟨c,p4,by omega⟩,p6,by simp,fun _=>⟨p1,?_⟩,fun _=>rfl⟩;rcases L.rdom _ _ _ hρ with h | ⟨n,h1,o3,h2⟩
                      · exact .inl (jM R.grow h)
                      · obtain ⟨k2, t, xs2, q1, _, q3, _⟩ := hownk h1 h2;exact(R.liveS q1 rfl q3).2
                  · obtain ⟨t, xs, ys, m, off, p1, p2, p3, p4, rfl, p5, p6⟩ := hw2 k ob h;have hob:=R1.obs k _ p3;simp only[ORel,hβo k _ p1] at hob ⊢;cases hb:J k with
                    | none =>
                      rw[hb] at hob;simp only at hob;subst hob;have:ys=[]:=jV (by have p5:off+ys.length<=0:=p5;omega);subst this;simp [over]
                    | some p =>
                      obtain⟨b,o'⟩:=p;rw[hb] at hob;obtain⟨⟨c1,hc1,hsz⟩,hrow,_,hlv,ho0⟩:=hob;obtain⟨hnS,c0,c,q1,q2,q3,q4,q5⟩:=p6 b o' hb;have:=hc1.inj q1;subst this;exact⟨⟨c,q2,by rw[q3,qfH p5];exact hsz⟩,qrN E.sub E.keep q1 q2 hrow p5 q4 q5,fun e=>absurd e p2,fun _=>⟨hnS,(hlv p2).2⟩,ho0⟩
                  · trivial
                  · exact absurd hm h0
                · intro k ob hm hk;obtain⟨ob',h'⟩:=q13q hm;have h'':get (((w5++w4)++(w3++(w2++qbU ct.ps V)))++(frzW hp K++s.h)) k=some ob':=by rw[q2q,h'];rfl
                  refine⟨ob',h'',?_⟩;rcases hgw k ob' h'' with h | ⟨_,h⟩ | h | ⟨h0,h⟩ | ⟨_,rfl⟩ | ⟨h0,h⟩
                  · obtain ⟨b, _, _, _, _, _, _, _, _, _, e5, _⟩ := hβ5 k ob' h;rw[e5] at hk;cases hk
                  · obtain ⟨p1, l', rfl⟩ := hw4 k ob' h;obtain⟨l2,hl2⟩:=hk1 k p1;rw[hl2] at hk;injection hk with hk
                    subst hk;obtain⟨l3,hl3⟩:=hbox k p1;exact hβo k _ hl3
                  · have := hnew' k ob' h;rw[this] at hk;cases hk
                  · obtain ⟨t, xs, ys, m, off, p1, p2, p3, p4, rfl, p5, p6⟩ := hw2 k ob' h;rw[p3] at hk;injection hk with hk
                    subst hk;refine⟨rfl,qfH p5,hβo k _ p1,fun hmo=>⟨hmo,fun b o' c1 hb hc1=>?_⟩,fun hnf=>by
                      have:=qji hco hflat.1 k t _ _ h;rw[hnf] at this;cases this⟩
                    obtain⟨hnS,c0,c,q1,q2,q3,_⟩:=p6 b o' hb;have:=hc1.inj q1;subst this;exact⟨c,q2,q3⟩
                  · cases ob<;>trivial
                  · exact absurd hm h0
                · intro k k' ob ob' b o1' o2' hm hk hl hk' hl' hb hb';rcases hold k ob hk hl with h | h | ⟨g1,g2,ob0,g3,g4⟩
                  · obtain ⟨bq, e1, e0, ek, _, _, _, _, _, e5, _⟩ := hβ5 k ob h;have hb0:=hb;rw[e1] at hb0;injection hb0 with hb0
                    injection hb0 with hb0 _
                    subst hb0;rcases hold k' ob' hk' hl' with h' | h' | ⟨g1',g2',ob0',g3',g4'⟩
                    · obtain ⟨_, _, _, ek', _⟩ := hβ5 k' ob' h';rw[ek,ek']
                    · rw [hβ3 k' _ h'] at hb';exact absurd hb' (e5 _ _)
                    · rw [g2'] at hb';exact absurd hb' (hw5b k ob h _ o1' hb k' ob0' o2' g3' g4')
                  · rcases hold k' ob' hk' hl' with h' | h' | ⟨g1', g2', ob0', g3', g4'⟩
                    · obtain ⟨bq, e1, _, _, _, _, _, _, _, e5, _⟩ := hβ5 k' ob' h';rw[e1] at hb';injection hb' with hb'
                      injection hb' with hb' _
                      subst hb';rw[hβ3 k _ h] at hb;exact absurd hb (e5 _ _)
                    · rw [hβ3 k _ h] at hb;rw[hβ3 k' _ h'] at hb';have:=L.rinj _ _ _ _ _ hb hb';have:=(hw3 k _ h).1;have:=(hw3 k' _ h').1;omega
                    · rw [g2'] at hb';exact absurd hb' (hw3b k ob h b o1' hb k' ob0' o2' g3' g4' g1')
                  · rw [g2] at hb;rcases hold k' ob' hk' hl' with h' | h' | ⟨g1',g2',ob0',g3',g4'⟩
                    · exact absurd hb (hw5b k' ob' h' b o2' hb' k ob0 o1' g3 g4)
                    · exact absurd hb (hw3b k' ob' h' b o2' hb' k ob0 o1' g3 g4 g1)
                    · rw [g2'] at hb';exact R1.inj k k' ob0 ob0' b o1' o2' g3 g4 g3' g4' hb hb'
                · rintro k b o' n hL (⟨n1, o1', hc⟩ | hbk) c hcb
                  · obtain ⟨k1', off1, o2', hg, hb, rfl⟩ := hcon hc;obtain⟨ob,q1,q2,q3⟩:=hlive (qbn hg);by_cases hlt:∃ t xs,ob=.rows t xs .lent
                    · obtain ⟨t, xs, rfl⟩ := hlt;have hk2:k1'∈qac w2:=by
                        rcases qeq hca (qbn hg) with ⟨_,_,_,t',xs',h⟩ | ⟨h1,_⟩
                        · have:=hs k1' _ h;rw[q1] at this;cases this
                        · exact o1 n1 k1' off1 hg h1
                      obtain⟨ob2,h2⟩:=q13q hk2;obtain⟨t',xs',ys,m,off,p1,p2,p3,p4,p4',p5,p6⟩:=hw2 k1' ob2 h2;rw[q1] at p1;injection p1 with p1
                      injection p1 with e1 e2 e3
                      subst e1;have e2:=eq_of_heq e2;subst e2;obtain⟨hnS,c0,c',r1,r2,r3,r4,_⟩:=p6 b o2' hb;have:=hcb.inj r1;subst this;obtain⟨b3,o3,hL3,hb3⟩:=(R.lentk k1' t xs q1).resolve_left (by rw[hb];simp);rw[hb] at hb3;injection hb3 with hb3
                      injection hb3 with hb3 ho3
                      subst hb3;subst ho3;have:=R.ltinj k k1' _ _ _ _ _ hL hL3;subst this;rw[hL] at hL3;injection hL3 with hL3
                      injection hL3 with _ hL3
                      injection hL3 with e4 e5
                      subst e4;subst e5;have hmul:=jN t.size p5;rw[Nat.add_mul] at hmul;exact⟨c',r2,r3,fun j hj=>r4 j (by rcases hj with hj | hj;left;omega;right;omega)⟩
                    · exact absurd hL (R.sep k1' ob b o2' q1 q2 (fun t xs h=>hlt ⟨t,xs,h⟩) hb k o' n)
                  · obtain ⟨k1', hk1', rfl⟩ := hmem b hbk;obtain⟨l',hl'⟩:=hbox k1' hk1';exact absurd hL (R.sep k1' _ _ 0 hl' rfl (by simp) (hblk k1' hk1') k o' n)
                · intro k t xs hm hk;rcases hgw k _ hk with h | ⟨_,h⟩ | h | ⟨h0,h⟩ | ⟨_,h⟩ | ⟨h0,h⟩
                  · obtain ⟨_, _, _, _, h', _⟩ := hβ5 k _ h;cases h'
                  · obtain ⟨_, _, h'⟩ := hw4 k _ h;cases h'
                  · obtain ⟨_, _, _, e, xs', v, h', _⟩ := hw3 k _ h;cases h'
                  · obtain ⟨t', xs', ys, m, off, p1, p2, p3, p4, p4', p5, p6⟩ := hw2 k _ h;injection p4' with e1 e2 e3
                    subst e1;have e2:=eq_of_heq e2;subst e2;subst e3;exact⟨xs',p3,qfH p5,hβo k _ p1⟩
                  · cases h
                  · exact absurd hm h0
                · intro k ob b o' hm hk hl hnl hb k' o2' n hL;rcases hgw k ob hk with h | ⟨_,h⟩ | h | ⟨h0,h⟩ | ⟨_,rfl⟩ | ⟨h0,h⟩
                  · obtain ⟨bq, e1, _, _, _, _, _, e3, _⟩ := hβ5 k ob h;rw[e1] at hb;injection hb with hb
                    injection hb with hb _
                    subst hb;obtain⟨c0,c,hc0,_⟩:=R.lent k' _ o2' n hL;have:=hc0.lt;have:=R.grow;omega
                  · obtain ⟨p1, _⟩ := hw4 k ob h;obtain⟨l2,hl2⟩:=hbox k p1;rw[hβo k _ hl2] at hb;exact R.sep k _ b o' hl2 rfl (by simp) hb k' o2' n hL
                  · rw [hβ3 k ob h] at hb;rcases L.rdom _ _ _ hb with h | ⟨n1,h1,o3,h2⟩
                    · obtain ⟨c0, c, hc0, _⟩ := R.lent k' b o2' n hL;have:=hc0.lt;have:=R.grow;omega
                    · obtain ⟨k2, t, xs, q1, _, q3, _⟩ := hownk h1 h2;exact R.sep k2 _ b 0 q1 rfl (by simp) q3 k' o2' n hL
                  · obtain ⟨t, xs, ys, m, off, p1, p2, p3, p4, rfl, p5, p6⟩ := hw2 k ob h;rw[hβo k _ p1] at hb;refine R.sep k _ b o' p1 (by cases m<;>first | rfl | exact absurd rfl p2) (fun t' xs' e=>?_) hb k' o2' n hL;injection e with e1 e2 e3
                    subst e3;exact hnl t _ rfl
                  · cases hl
                  · exact absurd hm h0
                · intro k l' hm hk;rcases hgw k _ hk with h | ⟨_,h⟩ | h | ⟨h0,h⟩ | ⟨_,h⟩ | ⟨h0,h⟩
                  · obtain ⟨bq, e1, _, e, _, _, _, e3, _⟩ := hβ5 k _ h;refine⟨fun pq hpq=>(by rw[e,qB9 hdo hd (j:=7) (by decide)] at hpq;cases hpq),fun _ b o hb=>?_⟩;rw[e1] at hb;injection hb with hb
                    injection hb with hb _
                    have:=R.grow;omega
                  · obtain ⟨p1, _⟩ := hw4 k _ h;obtain⟨l2,hl2⟩:=hbox k p1;obtain⟨m,cs,l0,g1,g2,g3,g4⟩:=qCN hub hpk (fun v hv=>quK hcr v (List.mem_of_mem_drop hv)) k _ (qbn h);have hl0:=hs k _ g3;rw[hl2] at hl0;injection hl0 with hl0
                    injection hl0 with hl0
                    subst hl0;refine(R.boxk k _ hl2).turn (hβo k _ hl2) fun p i v hp hi hv=>?_
                    obtain⟨q1,q2⟩:=g4 i v hi hv;have hid:=L.hid m cs (qfd J k) g1 (by rw[<- ji,<- eks,jz,g2];rfl) i q2;have hbk:=hblk k p1;rw[hbk] at hp;injection hp with hp
                    injection hp with hp _
                    rw[<- hp];exact⟨⟨v,q1,hv⟩,hid⟩
                  · obtain ⟨_, _, _, e, xs', v, h', _⟩ := hw3 k _ h;cases h'
                  · obtain ⟨t', xs', ys, m, off, p1, p2, p3, p4, p4', p5, p6⟩ := hw2 k _ h;cases p4'
                  · cases h
                  · exact absurd hm h0
                · intro b hb;rcases L.fresh b hb with h | h | ⟨n,h1,o',h2⟩
                  · exact .inl h
                  · exact .inr (.inr h)
                  · obtain ⟨k2, t, xs, p1, p2, p3, _⟩ := hownk h1 h2;have q4:get (frzW hp K++s.h) k2=some (.rows t xs .own):=by
                      rw[hfz];exact p1;obtain⟨ku,hku,hke⟩:=jk.1 (k4 k2 p2);obtain⟨n1,k1',off1⟩:=ku;simp only at hke;subst hke;exact(huse hku).1
                    exact .inr (.inl ⟨k2,_,_,q4,rfl,p3⟩)
                · intro k ob b o' hm hk hl hb;rcases hgw k ob hk with h | ⟨_,h⟩ | h | ⟨h0,h⟩ | ⟨_,rfl⟩ | ⟨h0,h⟩
                  · obtain ⟨bq, e1, _, _, _, _, _, e3, _⟩ := hβ5 k ob h;rw[e1] at hb;injection hb with hb
                    injection hb with hb _
                    subst hb;exact .inr e3
                  · obtain ⟨p1, _⟩ := hw4 k ob h;obtain⟨l2,hl2⟩:=hbox k p1;obtain⟨l1,hl1⟩:=hk1 k p1;rw[hβo k _ hl2] at hb;exact .inl ⟨k,_,o',hl1,rfl,hb⟩
                  · rw [hβ3 k ob h] at hb;rcases L.rdom _ _ _ hb with h | ⟨n,h1,o3,h2⟩
                    · exact .inr h
                    · obtain ⟨k2, t, xs, p1, p2, p3, _⟩ := hownk h1 h2;have q4:get (frzW hp K++s.h) k2=some (.rows t xs .own):=by
                        rw[hfz];exact p1;obtain⟨ku,hku,hke⟩:=jk.1 (k4 k2 p2);obtain⟨n1,k1',off1⟩:=ku;simp only at hke;subst hke;exact(huse hku).1
                      exact .inl ⟨k2,_,_,q4,rfl,p3⟩
                  · obtain ⟨t, xs, ys, m, off, p1, p2, p3, p4, rfl, p5, p6⟩ := hw2 k ob h;rw[hβo k _ p1] at hb;exact .inl ⟨k,_,o',p3,by cases m<;>first | rfl | exact absurd rfl p2,hb⟩
                  · cases hl
                  · exact absurd hm h0
                · intro k t xs b o' hm hk hb;rcases hgw k _ hk with h | ⟨_,h⟩ | h | ⟨h0,h⟩ | ⟨_,h⟩ | ⟨h0,h⟩
                  · obtain ⟨_, _, _, _, h', _⟩ := hβ5 k _ h;cases h'
                  · obtain ⟨_, _, h'⟩ := hw4 k _ h;cases h'
                  · obtain ⟨g1, g2, _⟩ := qk7 hcr 0 k _ h;rw[jm] at g2;rw[hβ3 k _ h] at hb;simp only[if_pos (qaw h)];exact(hr1 _ _ _ _ _ g2 hb).imp id fun h=>h.le R.grow
                  · exact .inl (qji hco hflat.1 k t xs _ h)
                  · cases h
                  · exact absurd hm h0
                · intro k b hb;by_cases hm:k∈qac w3
                  · simp only [if_pos hm] at hb;obtain⟨g1,g2,g3,g4⟩:=hr2 _ _ hb;refine⟨g1,g2,g3,fun k' ob o' hm' hk' hl' hb'=>?_⟩;rcases hold k' ob hk' hl' with h | h | ⟨e1,e2,ob0,e3,e4⟩
                    · exact absurd h (hr4 _ _ hb k' ob)
                    · rw[hβ3 k' _ h] at hb';exact g4 _ _ hb'
                    · rw [e2] at hb';obtain⟨c,hc⟩:=R1.blk e3 (by rintro rfl;cases e4) hb';have:=hc.lt;omega
                  · simp [if_neg hm] at hb
                · intro k k' b h1 h2;by_cases hm:k∈qac w3
                  · by_cases hm' : k' ∈ qac w3
                    · simp only [if_pos hm] at h1;simp only[if_pos hm'] at h2;have:=hr3 _ _ _ h1 h2;obtain⟨ob,g⟩:=q13q hm;obtain⟨ob',g'⟩:=q13q hm';have:=(qk7 hcr 0 k _ g).1;have:=(qk7 hcr 0 k' _ g').1;omega
                    · simp [if_neg hm'] at h2
                  · simp [if_neg hm] at h1
              have hext:∀ k,get (((w5++w4)++(w3++(w2++qbU ct.ps V)))++(frzW hp K++s.h)) k=get (ef.hw++s.h) k:=fun k=>by
                rw[hhw];simp only[q2q,k5 k];simp only[qvx]
              have R3:Rel T B w' S' J' ⟨s.e,ef.hw++s.h⟩ a:=R2.ext (fun _=>rfl) fun k=>(hext k).symm
              refine hnx _ w' S' J' (Rel.app R3 hdo fun pv' hpv'=>?_);rw[hpv] at hpv';injection hpv' with hpv'
              subst hpv';have eg:get (((w5++w4)++(w3++(w2++qbU ct.ps V)))++(frzW hp K++s.h))=get (ef.hw++s.h):=funext hext;rw[eg] at hc1;have hcl:All2 (qeW w' S' J' (get (ef.hw++s.h))) cells rcs:=by
                rcases hkind with ⟨e5,_,e1,rfl⟩ | ⟨n,e1,e5,rfl,_,_,_⟩
                · rw [e1] at hnb;obtain⟨_,rfl⟩:=hnb;exact hc1
                · have hg5 : get w5 (d * 8 + 7) = some (.box rst) := by rw [e5]; simp [q6q]
                  obtain⟨b,q1,_,_,_,q2,_⟩:=hβ5 _ _ hg5;have hp7:qeW w' S' J' (get (ef.hw++s.h)) (.ptr (d*8+7) 0 0) (.pointer (some ⟨b,0,none⟩)):=by
                    have e:get (ef.hw++s.h) (d*8+7)=some (.box rst):=by rw[hhw,q2q,q2q,hg5];rfl
                    show qad w' S' J' (get (ef.hw++s.h)) (.ptr (d*8+7) 0 0) _;simp only[qad,e];exact⟨b,0,q1,by simp⟩
                  rw[q2];exact All2.append (hc1.take _) ⟨hp7,hc1.drop _⟩
              have hall:=qBl (R:=qeW w' S' J' (get (ef.hw++s.h))) (fun pv v h hn=>h.cell hn) (fun l vs h=>⟨vs,rfl,h⟩) (fun fid l vs h=>⟨vs,rfl,h⟩) hgrp hgr hcl;rw[hvr]
              match pvs,rvs,hall with
              | [],[],_=>exact⟨[],rfl,trivial⟩
              | [p], [u], hall =>
                refine hall.1.up fun q e=>?_
                subst e;exact hall.1.elim
              | p::p'::ps,u::u'::us,hall=>exact⟨u::u'::us,rfl,hall⟩
           · cases h
         · cases h
       · cases h
     · cases h
   · cases h
 · cases h
theorem qDw {env:Env} (hE:qai T P env) {o:Oper} {s:St} {hp:Hp} (hs:Sub hp s) {f:FuncId} {ct:Ctr} (hf:env f=some ct) {args:List PV} {d:Nat} (hd:o.dst=some d)
  (hn:∀ k,d*8<=k->k<d*8+8->hp k=none->get s.h k=none) {ef:Eff}
  (hrun:∀ (B:Base) (w:World) (S:Foot) (J:Con) (a:Act),Rel T B w S J s a->∃ us:List Value,(execOp a.eval o).run P w=(callFunc f us.toArray).run P w/\All2 (TRel w S J (get s.h)) args us)
  (h:qmR hp o.dst ct args some=some ef):qdw T P o s ef:=by
 unfold qmR at h;cases hwi:ct.wi with
 | none=>rw[hwi] at h;exact qBW hE hs hf hwi hd hn hrun h
 | some wi=>rw[hwi,hd] at h;exact qBY hE hs hf hwi hd hn hrun h
variable {T:Told} {P:Program} {tb:Tb} {env:Env}
section
variable {R:Type}
theorem qnr {α J:Type} {x:Option α} {K:α->Option J} {out:J} (h:x.bind K=some out):∃ ef,K ef=some out/\x=some ef:=by
 cases x with
 | none=>cases h
 | some ef=>exact⟨ef,h,rfl⟩
theorem qhA {α J:Type} (c:Bool) (x y:Option α) (K:α->Option J):(cond c x y).bind K=cond c (x.bind K) (y.bind K):=by cases c<;>rfl
theorem qh1 {α J γ:Type} (x:Option α) (f:α->Option J) (K:J->Option γ):(x.bind f).bind K=x.bind fun a=>(f a).bind K:=by cases x<;>rfl
theorem quB (h:Hp) (T':TypeId) (a v:PV) (K:Eff->Option R):qnB tb h T' a v K=(qnB tb h T' a v some).bind K:=by
 unfold qnB;cases a with
 | ptr k i off =>
  simp only;cases h k with
  | none=>rfl
  | some ob =>
   cases ob with
   | gone=>rfl
   | box l =>
    simp only;cases tb.ty T' with
    | none=>cases Nat.beq i 0<;>rfl
    | some t=>simp only[qhA];rfl
   | rows t xs m =>
    have:∀ m:Md,(match tb.ty T' with
      | some t' =>
       (match decA h t' v.cells with
       | some y =>
        bif t.flat then (bif memN k (qak v.cells) || !qdo v.cells then none else
        (xs[i]?).bind fun x =>
         (match t'.setAt y t x off with
         | some z=>K ⟨none,(k,.rows t (xs.set i z) m)::frzW h (qak v.cells)⟩
         | none=>none)) else none
       | none=>none)
      | none=>none)=(match tb.ty T' with
      | some t' =>
       (match decA h t' v.cells with
       | some y =>
        bif t.flat then (bif memN k (qak v.cells) || !qdo v.cells then none else
        (xs[i]?).bind fun x =>
         (match t'.setAt y t x off with
         | some z=>some ⟨none,(k,.rows t (xs.set i z) m)::frzW h (qak v.cells)⟩
         | none=>none)) else none
       | none=>none)
      | none=>none:Option Eff).bind K:=by
     intro m;cases tb.ty T' with
     | none=>rfl
     | some t' =>
      simp only;cases decA h t' v.cells with
      | none=>rfl
      | some y =>
       simp only[qhA,qh1];congr 3;funext x;cases t'.setAt y t x off<;>rfl
    cases m with
    | frz=>rfl
    | own=>exact this .own
    | lent=>exact this .lent
 | _=>rfl
theorem qqb (h:Hp) (d:Tmp) (e:Ty) (xs:List e.den) (w:List (Nat×Ob)) (K:Eff->Option R):qot h d e xs w K=(qot h d e xs w some).bind K:=by
 unfold qot;cases h (d*8)<;>rfl
theorem qwe (h:Hp) (d:Tmp) (e:Ty) (k:Nat) (rows:List e.den) (b:PV) (K:Eff->Option R):qsE h d e k rows b K=(qsE h d e k rows b some).bind K:=by
 unfold qsE;split
 · split
   · rw[qqb]
   · rfl
 · rfl
theorem qs9 (h:Hp) (dst:Option Tmp) (T':TypeId) (a b:PV) (K:Eff->Option R):qhn tb h dst T' a b K=(qhn tb h dst T' a b some).bind K:=by
 unfold qhn;split
 · split
   · split
     · simp only[qhA];rw[qqb];rfl
     · split
       · split
         · simp only[qhA];rw[qqb,qwe];rfl
         · rfl
       · rfl
     · rfl
   · rfl
 · rfl
theorem qwh (h:Hp) (e:Ty) (a b:PV) (K:Eff->Option R):qqq h e a b K=(qqq h e a b some).bind K:=by
 unfold qqq;split
 · split
   · rfl
   · split
     · split
       · simp only[qhA];rfl
       · rfl
     · rfl
   · rfl
 · rfl
theorem qjf (h:Hp) (dst:Option Tmp) (c:Ctr) (args:List PV) (K:Eff->Option R):qjg h dst c args K=(qjg h dst c args some).bind K:=by
 unfold qjg;split
 · split
   · rename_i x w1 _;cases c.F x with
     | none=>rfl
     | some r =>
      simp only[jq];split
      · split
        · rfl
        · simp only[qhA];rfl
        · rfl
      · rfl
   · rfl
 · rfl
theorem quH (h:Hp) (d:Nat) (c:Ctr) (wi:Wir) (args:List PV) (K:Eff->Option R):qnC h d c wi args K=(qnC h d c wi args some).bind K:=by
 unfold qnC;split
 · split
   · rw [qhA];congr 1;split
     · rename_i x w1 _;cases c.F x with
       | none=>rfl
       | some r =>
        simp only[jq];split
        · split
          · rw [qhA];congr 1;split
            · split
              · split<;>rfl
              · split
                · rw [qhA];congr 1;split<;>rfl
                · rfl
              · rfl
            · rfl
          · rfl
        · rfl
     · rfl
   · rfl
 · rfl
theorem qq6 (h:Hp) (dst:Option Tmp) (c:Ctr) (args:List PV) (K:Eff->Option R):qmR h dst c args K=(qmR h dst c args some).bind K:=by
 unfold qmR;cases c.wi with
 | none=>exact qjf h dst c args K
 | some wi =>
  cases dst with
  | none=>rfl
  | some d=>exact quH h d c wi args K
theorem qs7 (h:Hp) (T':TypeId) (a v:PV) (K:Eff->Option R):qk4 tb h T' a v K=(qk4 tb h T' a v some).bind K:=by
 unfold qk4;split
 · split
   · split
     · split
       · rename_i y _;cases (memN _ (qak v.cells) || !qdo v.cells)
         · simp only [cond_false];rw[qh1];congr 1;funext x;rw[qh1];congr 1;funext ys;rw[qh1];congr 1;funext q;split<;>rfl
         · rfl
       · rfl
     · rfl
   · rfl
 · exact quB h T' a v K
theorem quG (h:Hp) (dst:Option Tmp) (c:Ctr) (args:List PV) (K:Eff->Option R):qlH h dst c args K=(qlH h dst c args some).bind K:=by
 unfold qlH;split
 · exact qq6 h _ c args K
 · split
   · exact qq6 h _ c args K
   · split
     · rw [qh1];congr 1;funext x;rw[qh1];congr 1;funext ys;cases Nat.ble (nOwn c.rs) 6
       · rfl
       · simp only [cond_true];rw[qjf (K:=fun ef=>qtB _ _ _ _ ef K),qjf (K:=fun ef=>qtB _ _ _ _ ef some),qh1];congr 1;funext ef;unfold qtB;split
         · split
           · rename_i zs _;cases memN _ (qD3 ef.hw)<;>cases qBz _ zs ys<;>rfl
           · rfl
         · rfl
     · rfl
end
variable {T:Told} {P:Program} {tb:Tb}
theorem quY {P Q:PV->Value->Prop} (hPQ:∀ pv v,P pv v->Q pv v) {g:Nat}:∀ {args:List PV} {us:List Value} {k i:Nat} {args':List PV},qyT g args=some (k,(i,args'))->All2 P args us ->
  ∃ u,P (.vw k i) u/\(Q (.osl g 0 none) u->All2 Q args' us):=by
 intro args
 induction args with
 | nil=>intro us k i args' h;simp [qyT] at h
 | cons v r ih =>
  intro us k i args' h hl;cases us with
  | nil=>exact hl.elim
  | cons u us =>
   obtain⟨hv,hl⟩:=hl;have other:(match qyT g r with | some (k,(i,r'))=>some (k,(i,v::r')) | none=>none:Option (Nat×(Nat×List PV)))=some (k,(i,args'))->∃ u0,P (.vw k i) u0/\(Q (.osl g 0 none) u0->All2 Q args' (u::us)):=by
    intro h;split at h
    · rename_i k' i' r' hr;simp only[js,jn] at h;obtain⟨rfl,rfl,rfl⟩:=h;obtain⟨u0,h1,h2⟩:=ih hr hl;exact⟨u0,h1,fun h=>⟨hPQ _ _ hv,h2 h⟩⟩
    · cases h
   cases v with
   | vw k' i' =>
    simp only[qyT,js,jn] at h;obtain⟨rfl,rfl,rfl⟩:=h;refine⟨u,hv,fun h=>⟨h,?_⟩⟩;exact hl.imp fun _ _ h=>hPQ _ _ h
   | _=>exact other h
theorem qBX {env:Env} (hE:qai T P env) {o:Oper} {s:St} {hp:Hp} (hs:Sub hp s) {f:FuncId} {ct:Ctr} (hf:env f=some ct) {args:List PV} {d:Nat} (hd:o.dst=some d)
   (hn:∀ k,d*8<=k->k<d*8+8->hp k=none->get s.h k=none) {ef:Eff}
   (hrun:∀ (B:Base) (w:World) (S:Foot) (J:Con) (a:Act),Rel T B w S J s a->∃ us:List Value,(execOp a.eval o).run P w=(callFunc f us.toArray).run P w/\All2 (TRel w S J (get s.h)) args us)
   (h:qlH hp o.dst ct args some=some ef):qdw T P o s ef:=by
 unfold qlH at h;rw[hd] at h;simp only at h;split at h
 · rw[<- hd] at h;exact qDw hE hs hf hd hn hrun h
 · rename_i k i args' hsub;split at h
   · rename_i e xs hk hg hwi;cases hx:xs[i]? with
     | none=>rw[hx] at h;cases h
     | some x =>
      rw[hx] at h;cases x with
      | none=>cases h
      | some ys =>
       simp only[jq] at h;obtain⟨hno,h⟩:=q8q h;have hg':get s.h (d*8+6)=none:=hn _ (by omega) (by omega) hg;have hk':=hs k _ hk;have hkg:k≠d*8+6:=by rintro rfl;rw[hk] at hg;cases hg
       rw[qjf (K:=fun ef=>qtB _ _ _ _ ef some)] at h;obtain⟨ef1,h,h1⟩:=qnr h;unfold qtB at h;split at h
       · rename_i t zs hzs;split at h
         · rename_i zs' hzz;obtain⟨rfl,rfl⟩:=qeU hzz;obtain⟨hkn,h⟩:=qbR h;have hkn:k ∉ qac ef1.hw:=qdH.1 hkn;have hbs:=q8q h;clear h;obtain⟨hqr,h⟩:=hbs;have hqq:=qDh hqr;clear hqr;injection h with h
           subst h;subst hqq;intro B w S J a R hdo next Q hnx
           obtain⟨us,hrun,hus⟩:=hrun B w S J a R;have hdlt:d<B.nt:=by rw[hd] at hdo;exact jx hdo
           obtain⟨u,hu,hus'⟩:=quY (Q:=fun pv v=>TRel w S J (get s.h) pv v) (fun _ _ h=>h) hsub hus;obtain⟨hfl,b,hb,hcell,_⟩:=qrd R hk' hx hu;obtain⟨J1,ds,e1,e2,R1,hcs,E1⟩:=R.openE (q:=d*8+6) (t:=.os t) (cs:=[.osl (d*8+6) 0 none]) (ws:=[(d*8+6,.rows t zs' .own)]) (r:=none) (q':=d*8+7) hk' hb hx rfl rfl (fun j h1 h2=>by
            obtain rfl:j=d*8+6:=by omega
            exact hg') (by omega)
           match ds,e1,e2,hcs with
           | [v],_,e2,hcs =>
            have hv:=e2 0 v rfl;simp only[Ty.size,Nat.mul_one,Nat.add_zero] at hv;rw[hcell] at hv;injection hv with hv
            subst hv;have hosl:qad w S J1 (get (([(k,Ob.rows (.os t) (xs.set i none) .own),(d*8+6,.rows t zs' .own)])++s.h)) (.osl (d*8+6) 0 none) u:=hcs.1;obtain⟨s1,es1⟩:∃ s1:St,s1=⟨s.e,[(k,Ob.rows (.os t) (xs.set i none) .own),(d*8+6,.rows t zs' .own)]++s.h⟩:=⟨_,rfl⟩;have gk1:get s1.h k=some (.rows (.os t) (xs.set i none) .own):=by rw[es1];simp [q6q]
            have gg1:get s1.h (d*8+6)=some (.rows t zs' .own):=by rw[es1];simp [q6q,hkg]
            have go1:∀ n,n≠k->n≠d*8+6->get s1.h n=get s.h n:=fun n q1 q2=>by rw[es1];simp [q6q,Ne.symm q1,Ne.symm q2]
            have R1:Rel T B w S J1 s1 a:=by rw[es1];exact R1
            have hosl:qad w S J1 (get s1.h) (.osl (d*8+6) 0 none) u:=by rw[es1];exact hosl
            have E1:Evo w w S S J J1 (get s.h) (get s1.h):=by rw[es1];exact E1
            have hargs:All2 (TRel w S J1 (get s1.h)) args' us:=by
              obtain⟨u2,hu2,h2⟩:=quY (Q:=fun pv v=>TRel w S J1 (get s1.h) pv v) (fun _ _ h=>h.evo E1) hsub hus;refine h2 ?_;have:u2=u:=by
                obtain⟨_,b2,hb2,hc2,_⟩:=qrd R hk' hx hu2;rw[hb] at hb2;injection hb2 with hb2
                injection hb2 with hb2 _
                subst hb2;rw[hcell] at hc2;injection hc2 with hc2
                exact hc2.symm
              rw[this];exact hosl.up
            have hb1:J1 k=some (b,0):=by
              obtain⟨ob,q1,q2⟩:=E1.obs k _ hk';rw[gk1] at q1;injection q1 with q1
              subst q1;rw[q2.2.2.1,hb]
            have hs1:Sub (fun n=>if n=d*8+6 then some (.rows t zs' .own) else if n=k then some (.rows (.os t) (xs.set i none) .own) else hp n) s1:=fun n ob hob=>by
              simp only at hob;split at hob
              · rename_i q;subst q;rw[gg1];exact hob
              · rename_i q;split at hob
                · rename_i q';subst q';rw[gk1];exact hob
                · rename_i q';rw[go1 n q' q];exact hs n ob hob
            refine qws hE hs1 hf hwi hd (fun n q1 q2 q3=>?_) (by rw[hd];exact h1) R1 hdo hrun hargs fun val w' S' J' R' hkeep=>?_
            · try simp only at q3
              split at q3
              · cases q3
              · rename_i q;split at q3
                · cases q3
                · rename_i q';rw[go1 n q' q];exact hn n q1 q2 q3
            ·
              have gk2:get (ef1.hw++s1.h) k=some (.rows (.os t) (xs.set i none) .own):=by rw[q2q,q11q hkn];simpa using gk1
              have gg2:get (ef1.hw++s1.h) (d*8+6)=some (.rows t zs' .own):=by rw[q2q,hzs];rfl
              obtain⟨k1,k2,k3,k4⟩:=hkeep k _ _ _ gk1 gk2;obtain⟨g1,g2,g3,_⟩:=hkeep (d*8+6) _ _ _ gg1 gg2;have hcell':w'.cell? ⟨b,0+i,none⟩=some u:=by
                rw[World.cell?_of_block (a:=⟨b,0+i,none⟩) (k4 rfl b 0 hb1)];exact hcell
              have hosl':qad w' S' J' (get (ef1.hw++s1.h)) (.osl (d*8+6) 0 none) u:=by
                simp only[qad,gg1] at hosl;simp only[qad,gg2];obtain⟨_,q2⟩:=hosl;refine⟨by simp [qiV],?_⟩;have hwl:wlen zs' 0 none=wlen zs' 0 none:=by simp [wlen,g1]
                rw[hwl,g2];unfold OslV at q2 ⊢;cases hβ:J1 (d*8+6) with
                | none=>rw[hβ] at q2;exact q2
                | some p =>
                  obtain⟨bi,o'⟩:=p;rw[hβ] at q2;obtain⟨x,cap,q3,q4,q5,q6⟩:=q2;refine⟨x,cap,q3,q4,q5,fun hm=>?_⟩;obtain⟨c,q7,q8⟩:=q6 hm;obtain⟨c',q9,q10⟩:=g3 bi o' c hβ q7;exact⟨c',q9,by omega⟩
              have hxs:(xs.set i none)[i]?=some none:=jW (jO.1 hx).1;have e3:s1.app o.dst ef1=⟨(s1.app o.dst ef1).e,ef1.hw++s1.h⟩:=rfl;have gk3:get (s1.app o.dst ef1).h k=_:=gk2;have gg3:get (s1.app o.dst ef1).h (d*8+6)=_:=gg2;have R3:=R'.close gk3 hxs gg3 hfl (by rw[k2];exact hb1) hcell' hosl';refine hnx val w' S' J' (R3.ext (fun n=>?_) fun n=>?_)
              · simp only[St.app,es1]
              · simp only [St.app, List.set_set];by_cases q1:n=k
                · subst q1;have:xs.set i (some zs')=xs:=by
                    refine jX fun j=>?_
                    by_cases hj:i=j
                    · subst hj;rw[jW (jO.1 hx).1];exact hx.symm
                    · rw[List.getElem?_set_ne hj]
                  rw[this];simp [q6q,q2q,q11q hkn,hkg,Ne.symm hkg,hk']
                · by_cases q2 : n = d * 8 + 6
                  · subst q2;simp [q6q,hkg]
                  · have : get s1.h n = get s.h n := go1 n q1 q2;simp [q6q,q2q,Ne.symm q1,Ne.symm q2,this]
         · cases h
       · cases h
   · cases h
variable {T:Told} {P:Program} {tb:Tb} {env:Env}
section
variable {R:Type}
theorem qeW.up' {w:World} {S:Foot} {J:Con} {g:Hp} {pv:PV} {v:Value} (h:qeW w S J g pv v):TRel w S J g pv v:=by
 cases pv<;>first | exact h | exact h.elim
theorem qxC {B:Base} {w:World} {S:Foot} {J:Con} {s:St} {a:Act} (Rl:Rel T B w S J s a) (x:Option Operand):BRel w S J (get s.h) (x.map s.pv) (x.map a.eval):=by
 cases x with
 | none=>trivial
 | some x=>exact q14q Rl x
theorem qzb {B:Base} {w:World} {S:Foot} {J:Con} {s:St} {a:Act} (Rl:Rel T B w S J s a) (ps:Array (Nat×Operand)) :
  qpQ w S J (get s.h) (ps.toList.map fun p=>(p.1,s.pv p.2)) (ps.toList.map fun p=>(p.1,a.eval p.2)):=by
 induction ps.toList with
 | nil=>trivial
 | cons p l ih=>exact⟨⟨rfl,q14q Rl p.2⟩,ih⟩
theorem qrZ (ps:Array (Nat×Operand)) (s:St):qr0 ps ((ps.toList.map (·.2)).map s.pv)=ps.toList.map fun p=>(p.1,s.pv p.2):=by
 unfold qr0
 induction ps.toList with
 | nil=>rfl
 | cons p l ih=>simp only[ja,jv,ih]
theorem qFT (hT:TbOk P tb) (hE:qai T P env) {o:Oper} {l:List PV} {hp:Hp} {K:Eff->Option R} {out:R} (h:effC tb env o.op o.dst l hp K=some out) :
  ∃ ef,K ef=some out/\∀ s:St,(qes o.op).map s.pv=l->Sub hp s->(∀ d,o.dst=some d->∀ j,j<8->hp (d*8+j)=none->get s.h (d*8+j)=none)->qdw T P o s ef:=by
 have hk0:∀ {s:St} {d:Nat},(∀ d,o.dst=some d->∀ j,j<8->hp (d*8+j)=none->get s.h (d*8+j)=none)->o.dst=some d->hp (d*8)=none->get s.h (d*8)=none:=fun h1 h2 h3=>h1 _ h2 0 (by omega) h3
 cases hop:o.op<;>rw[hop] at h
 case move x =>
  match l,h with
  | [v], h =>
    refine⟨_,h,fun s hl hs hn=>qdw.pure fun B w S J a R=>⟨a.eval x,by simp [execOp,hop],?_⟩⟩;simp only[hop,qes,ja,jd,jc,and_true] at hl;subst hl;exact q14q R x
 case assign x =>
  match l,h with
  | [v], h =>
    refine⟨_,h,fun s hl hs hn=>qdw.pure fun B w S J a R=>⟨a.eval x,by simp [execOp,hop],?_⟩⟩;simp only[hop,qes,ja,jd,jc,and_true] at hl;subst hl;exact q14q R x
 case pick c x y =>
  match l,h with
  | [c', v, u], h =>
    simp only[effC] at h;split at h
    case h_2=>cases h
    rename_i b;refine⟨⟨some (cond b v u),[]⟩,by cases b<;>exact h,fun s hl hs hn=>qdw.pure fun B w S J a R=>?_⟩;simp only[hop,qes,ja,jd,jc,and_true] at hl;obtain⟨h1,rfl,rfl⟩:=hl;have hc:=q14q R c;rw[h1] at hc;have hc:=hc.bool;cases b with
    | true=>exact⟨a.eval x,by simp [execOp,hop,hc,asBool],q14q R x⟩
    | false=>exact⟨a.eval y,by simp [execOp,hop,hc,asBool],q14q R y⟩
 case binOp op t x y c =>
  match l,h with
  | [u, v], h =>
    simp only[effC] at h;unfold qBE at h;split at h
    · rename_i k i off;split at h
      · rename_i e _ hg;have hu:P.underlying t=some (.pointer e):=(hT t _ hg).2;obtain⟨hth,h⟩:=q8q h;obtain⟨ob,q1,q2⟩:=qtT hth;have hval:∀ {s:St} {w:World} {S:Foot} {J:Con} {v:Value},Sub hp s->TRel w S J (get s.h) (.ptr k i off) v->∃ ad,v=.pointer (some ad):=fun {s} {w} {S} {J} {v} hs hv=>by
          have hv:qad w S J (get s.h) (.ptr k i off) v:=hv;have hk:=hs k ob q1;simp only[qad,hk] at hv;cases ob with
          | gone=>exact absurd rfl q2
          | rows t xs m=>obtain⟨b,o',hb,he⟩:=hv;exact⟨_,he⟩
          | box l=>obtain⟨b,o',hb,he⟩:=hv;exact⟨_,he⟩
        split at h
        · refine ⟨_, h, fun s hl hs hn => qdw.pure fun B w S J a R => ?_⟩;simp only[hop,qes,ja,jd,jc,and_true] at hl;obtain⟨l1,l2⟩:=hl;have hx:=q14q R x;have hy:=q14q R y;rw[l1] at hx;rw[l2] at hy;obtain⟨ad,hx⟩:=hval hs hx;have hy:a.eval y=.pointer none:=hy;exact⟨_,by simp only[execOp,hop];rw[hx,hy];simp [Sem.run_bind,eqGuard,binOp,qkw hu],rfl⟩
        · refine ⟨_, h, fun s hl hs hn => qdw.pure fun B w S J a R => ?_⟩;simp only[hop,qes,ja,jd,jc,and_true] at hl;obtain⟨l1,l2⟩:=hl;have hx:=q14q R x;have hy:=q14q R y;rw[l1] at hx;rw[l2] at hy;obtain⟨ad,hx⟩:=hval hs hx;have hy:a.eval y=.pointer none:=hy;exact⟨_,by simp only[execOp,hop];rw[hx,hy];simp [Sem.run_bind,eqGuard,binOp,qkw hu],rfl⟩
        · cases h
      · cases h
    · split at h
      · rename_i e _ hg;have hu:P.underlying t=some (.pointer e):=(hT t _ hg).2;split at h
        · refine ⟨_, h, fun s hl hs hn => qdw.pure fun B w S J a R => ?_⟩;simp only[hop,qes,ja,jd,jc,and_true] at hl;obtain⟨l1,l2⟩:=hl;have hx:=q14q R x;have hy:=q14q R y;rw[l1] at hx;rw[l2] at hy;have hx:a.eval x=.pointer none:=hx;have hy:a.eval y=.pointer none:=hy;exact⟨_,by simp only[execOp,hop];rw[hx,hy];simp [Sem.run_bind,eqGuard,binOp,qkx hu],rfl⟩
        · refine ⟨_, h, fun s hl hs hn => qdw.pure fun B w S J a R => ?_⟩;simp only[hop,qes,ja,jd,jc,and_true] at hl;obtain⟨l1,l2⟩:=hl;have hx:=q14q R x;have hy:=q14q R y;rw[l1] at hx;rw[l2] at hy;have hx:a.eval x=.pointer none:=hx;have hy:a.eval y=.pointer none:=hy;exact⟨_,by simp only[execOp,hop];rw[hx,hy];simp [Sem.run_bind,eqGuard,binOp,qkx hu],rfl⟩
        · cases h
      · cases h
    · obtain ⟨pv, h1, h2⟩ := qzO hT h;refine⟨_,h1,fun s hl hs hn=>qdw.pure fun B w S J a R=>?_⟩;simp only[hop,qes,ja,jd,jc,and_true] at hl;obtain⟨rfl,rfl⟩:=hl;obtain⟨z,z1,z2⟩:=h2 w S J (get s.h) x y _ _ (q14q R x) (q14q R y);exact⟨z,by simp only[execOp,hop];rw[Sem.run_bind,z1];rfl,z2⟩
 case unOp op t x =>
  match l,h with
  | [u], h =>
    simp only[effC] at h;obtain⟨pv,h1,h2⟩:=qBC h;refine⟨_,h1,fun s hl hs hn=>qdw.pure fun B w S J a R=>?_⟩;simp only[hop,qes,ja,jd,jc,and_true] at hl;subst hl;obtain⟨z,z1,z2⟩:=h2 w S J (get s.h) _ (q14q R x);exact⟨z,by simp only[execOp,hop];rw[Sem.run_bind,z1];rfl,z2⟩
 case convert src dst x =>
  match l,h with
  | [u], h =>
    simp only[effC] at h;obtain⟨pv,h1,h2⟩:=qs8 hT h;refine⟨_,h1,fun s hl hs hn=>qdw.pure fun B w S J a R=>?_⟩;simp only[hop,qes,ja,jd,jc,and_true] at hl;subst hl;obtain⟨z,z1,z2⟩:=h2 w S J (get s.h) _ (q14q R x);exact⟨z,by simp only[execOp,hop];rw[Sem.run_bind,z1];rfl,z2⟩
 case fieldAddr t x f =>
  match l,h with
  | [u], h =>
    simp only[effC] at h;obtain⟨pv,h1,h2⟩:=qra hT h;refine⟨_,h1,fun s hl hs hn=>qdw.pure fun B w S J a R=>?_⟩;simp only[hop,qes,ja,jd,jc,and_true] at hl;subst hl;obtain⟨z,z1,z2⟩:=h2 w S J (get s.h) _ hs (q14q R x);exact⟨z,by simp only[execOp,hop];rw[Sem.run_bind,z1];rfl,z2⟩
 case field t x f =>
  match l,h with
  | [u], h =>
    simp only[effC] at h;obtain⟨pv,h1,h2⟩:=qwg hT h;refine⟨_,h1,fun s hl hs hn=>qdw.pure fun B w S J a R=>?_⟩;simp only[hop,qes,ja,jd,jc,and_true] at hl;subst hl;obtain⟨z,z1,z2⟩:=h2 w S J (get s.h) _ (q14q R x);exact⟨z,by simp only[execOp,hop];rw[Sem.run_bind,z1];rfl,z2⟩
 case indexAddr t x y =>
  match l,h with
  | [u, v], h =>
    simp only[effC] at h;split at h
    · rename_i et e bb hg;obtain⟨pv,h1,h2⟩:=quD hT hg h;refine⟨_,h1,fun s hl hs hn=>qdw.pure fun B w S J a R=>?_⟩;simp only[hop,qes,ja,jd,jc,and_true] at hl;obtain⟨rfl,rfl⟩:=hl;obtain⟨z,z1,z2⟩:=h2 _ _ R hs (q14q R x) (q14q R y);exact⟨z,by simp only[execOp,hop];rw[Sem.run_bind,z1];rfl,z2⟩
    · cases h
 case index t x y =>
  match l,h with
  | [u, v], h =>
    simp only[effC] at h;obtain⟨pv,h1,h2⟩:=qwf hT h;refine⟨_,h1,fun s hl hs hn=>qdw.pure fun B w S J a R=>?_⟩;simp only[hop,qes,ja,jd,jc,and_true] at hl;obtain⟨rfl,rfl⟩:=hl;obtain⟨z,z1,z2⟩:=h2 w S J (get s.h) _ _ (q14q R x) (q14q R y);exact⟨z,by simp only[execOp,hop];rw[Sem.run_bind,z1];rfl,z2⟩
 case load t x =>
  match l,h with
  | [u], h =>
    have h:quC tb hp o.dst t u K=some out:=h;have oldX:qrp tb hp o.dst t u K=some out->∃ ef,K ef=some out/\∀ s:St,(qes (Op.load t x)).map s.pv=[u]->Sub hp s->(∀ d,o.dst=some d->∀ j,j<8->hp (d*8+j)=none->get s.h (d*8+j)=none)->qdw T P o s ef:=by
      intro h;have plain:qoA tb hp t u (fun v=>K ⟨some v,[]⟩)=some out->∃ ef,K ef=some out/\∀ s:St,(qes (Op.load t x)).map s.pv=[u]->Sub hp s->(∀ d,o.dst=some d->∀ j,j<8->hp (d*8+j)=none->get s.h (d*8+j)=none)->qdw T P o s ef:=by
        intro h;obtain⟨pv,h1,h2⟩:=qxp hT h;refine⟨_,h1,fun s hl hs hn=>qdw.pure fun B w S J a R=>?_⟩;simp only[qes,ja,jd,jc,and_true] at hl;subst hl;obtain⟨z,z1,z2⟩:=h2 _ R hs (q14q R x);exact⟨z,by simp only[execOp,hop];rw[Sem.run_bind,z1];rfl,z2⟩
      unfold qrp at h;split at h
      · rename_i k i;split at h
        · rename_i t0 xs hk;cases hfl:t0.flat with
          | true=>rw[hfl,cond_true] at h;exact plain h
          | false =>
            rw[hfl,cond_false] at h;split at h
            · rename_i t' d hty hd;split at h
              · rename_i e;subst e;rw[qwd] at h;obtain⟨ef,h1,h2⟩:=qnr h;refine⟨ef,h1,fun s hl hs hn=>?_⟩;simp only[qes,ja,jd,jc,and_true] at hl;exact qvy hT hs hop hd hty hl hk hfl (fun j hj=>hn d hd j hj) h2
              · exact plain h
            · cases h
        · exact plain h
      · exact plain h
    unfold quC at h;split at h
    · rename_i k i j off _;split at h
      · rename_i e xs hk;split at h
        · rename_i t' ht;cases hx:xs[i]? with
          | none=>rw[hx] at h;cases h
          | some x0 =>
            rw[hx] at h;cases x0 with
            | none=>cases h
            | some ys =>
              simp only[jq] at h;cases hy:ys[j]? with
              | none=>rw[hy] at h;cases h
              | some y =>
                rw[hy] at h;simp only[jq] at h;split at h
                · rename_i z hz;refine⟨_,h,fun s hl hs hn=>qdw.pure fun B w S J a R=>?_⟩;simp only[qes,ja,jd,jc,and_true] at hl;have hu:=q14q R x;rw[hl] at hu;obtain⟨v,z1,z2⟩:=qyR hT hk hx hy ht hz R hs hu;exact⟨v,by simp only[execOp,hop];rw[Sem.run_bind,z1];rfl,z2⟩
                · cases h
        · cases h
      · cases h
    · rename_i k i _;split at h
      · rename_i e xs hk;split at h
        · rename_i e' ht;split at h
          · rename_i het;subst het;cases hx:xs[i]? with
            | none=>rw[hx] at h;cases h
            | some x0 =>
              rw[hx] at h;simp only[jq] at h;cases hsz:Nat.blt (Ty.size _) 8 with
              | true =>
                rw[hsz,cond_true] at h;refine⟨_,h,fun s hl hs hn=>qdw.pure fun B w S J a R=>?_⟩;simp only[qes,ja,jd,jc,and_true] at hl;have hu:=q14q R x;rw[hl] at hu;obtain⟨v,z1,z2⟩:=qyQ hT hk hx ht R hs hu;exact⟨v,by simp only[execOp,hop];rw[Sem.run_bind,z1];rfl,z2⟩
              | false =>
                rw[hsz,cond_false] at h;cases x0 with
                | none=>cases h
                | some ys =>
                  simp only[jq] at h;split at h
                  · rename_i d hd;split at h
                    · rename_i hfree;refine⟨_,h,fun s hl hs hn=>?_⟩;simp only[qes,ja,jd,jc,and_true] at hl;exact qwW hT hs hop hd ht hl hk hx (hn d hd 4 (by omega) hfree)
                    · cases h
                  · cases h
          · cases h
        · cases h
      · exact oldX h
    · exact oldX h
 case makeFunc fn first cap =>
  simp only[effC] at h;split at h
  · rename_i f;obtain⟨hc,h2⟩:=q8q h;simp only[jg] at hc;have h0:first=#[]:=Array.eq_empty_of_size_eq_zero (jh hc.1)
    subst h0;refine⟨_,h2,fun s hl hs hn=>qdw.pure fun B w S J a R=>?_⟩;simp only[hop,qes,jo] at hl;refine⟨.func (.func f) #[] (cap.map a.eval),by simp [execOp,hop];try rfl,cap.toList.map a.eval,congrArg _ (by rw[<- Array.toList_map]),?_⟩
    have key:∀ (q:List Operand) (l:List PV),q.map s.pv=l->qdo l=true->All2 (qad w S J (get s.h)) l (q.map a.eval):=by
      intro q
      induction q with
      | nil=>intro l e _;subst e;trivial
      | cons x q ih =>
        intro l e hna;subst e;have hx:=q14q R x;simp only[ja] at hna ⊢;cases hp:s.pv x<;>rw[hp] at hna hx<;>first
          | (simp [qdo] at hna;done)
          | exact⟨hx,ih _ rfl (by simpa [qdo] using hna)⟩
    exact key _ _ hl hc.2
  · cases h
 case nilCheck x =>
  match l,h with
  | [u], h =>
    simp only[effC] at h;split at h
    · rename_i k i off;obtain⟨hth,h⟩:=q8q h;refine⟨_,h,fun s hl hs hn=>qdw.pure fun B w S J a R=>?_⟩;simp only[hop,qes,ja,jd,jc,and_true] at hl;have hx:=q14q R x;rw[hl] at hx;obtain⟨ob,q1,q2⟩:=qtT hth;have hx0:qad w S J (get s.h) (.ptr k i off) (a.eval x):=hx;have hk:=hs k ob q1;simp only[qad,hk] at hx0;cases ob with
      | gone=>exact absurd rfl q2
      | rows t xs m=>obtain⟨b,o',hb,he⟩:=hx0;exact⟨a.eval x,by simp [execOp,hop,he],hx⟩
      | box l=>obtain⟨b,o',hb,he⟩:=hx0;exact⟨a.eval x,by simp [execOp,hop,he],hx⟩
    · rename_i t y off;refine⟨_,h,fun s hl hs hn=>qdw.pure fun B w S J a R=>?_⟩;simp only[hop,qes,ja,jd,jc,and_true] at hl;have hx:=q14q R x;rw[hl] at hx;have hx0:=hx;obtain⟨b,o',ds,he,_⟩:=hx0;exact⟨a.eval x,by simp [execOp,hop,he],hx⟩
    · cases h
 case extract x i =>
  match l,h with
  | [u], h =>
    simp only[effC] at h;split at h
    · rename_i l0;split at h
      · rename_i v hv;refine⟨_,h,fun s hl hs hn=>qdw.pure fun B w S J a R=>?_⟩;simp only[hop,qes,ja,jd,jc,and_true] at hl;have hx:=q14q R x;rw[hl] at hx;obtain⟨vs,he,ha⟩:=hx;obtain⟨z,z1,z2⟩:=ha.get hv;exact⟨z,by simp [execOp,hop,he,Instr.extract,z1],z2.up'⟩
      · cases h
    · cases h
 case build t ps =>
  have h:qrq tb t (qr0 ps l) (fun v=>K ⟨some v,[]⟩)=some out:=h;obtain⟨pv,h1,h2⟩:=qwi hT h;refine⟨_,h1,fun s hl hs hn=>qdw.pure fun B w S J a R=>?_⟩;simp only[hop,qes] at hl;subst hl;rw[qrZ] at h2;obtain⟨z,z1,z2⟩:=h2 w S J (get s.h) _ (qzb R ps);refine⟨z,?_,z2⟩;have e:(ps.map fun(i,x)=>(i,a.eval x))=(ps.toList.map fun p=>(p.1,a.eval p.2)).toArray:=by
    apply jj.1;simp
  simp only[execOp,hop,e];rw[Sem.run_bind,z1];rfl
 case buildSlice t n ps =>
  replace h:qlI tb hp o.dst t n (qr0 ps l) K=some out:=h
  unfold qlI at h;split at h
  · rename_i et e bb d hg hd;cases hfl:e.flat with
    | true =>
      rw[hfl,cond_true] at h;split at h
      · rename_i xs hx;obtain⟨h0,h⟩:=q8q h;simp only[jg] at h0;unfold qot at h;split at h
        · rename_i hnone;refine⟨_,h,fun s hl hs hn=>?_⟩;simp only[hop,qes] at hl;subst hl;rw[qrZ] at hx ⊢;exact qtc hT hs hop hd hg rfl hx (jx h0.1) hfl (hk0 hn hd hnone) hnone rfl
        · cases h
      · cases h
    | false =>
      rw[hfl,cond_false] at h;generalize hpl:qr0 ps l=pl at h;split at h
      · rename_i v;split at h
        · rename_i x ks hx;obtain⟨h0,h⟩:=q8q h;simp only[jg] at h0;unfold qot at h;split at h
          · rename_i hnone;refine⟨_,h,fun s hl hs hn=>?_⟩;simp only[hop,qes] at hl;subst hl;rw[qrZ] at hpl;exact qtb hT hs hop hd hg hpl.symm hx h0.1.2 h0.2 (jx h0.1.1.1) (hk0 hn hd hnone) rfl
          · cases h
        · cases h
      · cases h
  · cases h
 case box t x =>
  match l,h with
  | [u], h =>
    simp only[effC] at h;split at h
    · rename_i d t' hd ht;obtain⟨h0,h⟩:=q8q h;simp only[jg] at h0;unfold qCX at h;split at h
      · rename_i hnone;refine⟨_,h,fun s hl hs hn=>?_⟩;simp only[hop,qes,ja,jd,jc,and_true] at hl;subst hl;exact qFk (hp:=hp) hT hop hd ht h0.2 (hk0 hn hd hnone) rfl
      · cases h
    · cases h
 case alloc t =>
  match l,h with
  | [], h =>
    simp only[effC] at h;split at h
    · rename_i d t' hd ht;unfold qCX at h;split at h
      · rename_i hnone;exact⟨_,h,fun s hl hs hn=>qB5 hT hop hd ht (hk0 hn hd hnone) rfl⟩
      · cases h
    · cases h
 case store t x y =>
  match l,h with
  | [u, v], h =>
    simp only[effC] at h;split at h
    · rename_i hd;rw[qs7] at h;obtain⟨ef,h1,h2⟩:=qnr h;refine⟨ef,h1,fun s hl hs hn=>?_⟩;simp only[hop,qes,ja,jd,jc,and_true] at hl;obtain⟨rfl,rfl⟩:=hl;exact qyU hT hs hop hd h2
    · cases h
 case makeSlice t x y =>
  match l,h with
  | [u, v], h =>
    simp only[effC] at h;unfold qBD at h;split at h
    · rename_i et e bb d n c hg hd;obtain⟨hfl,h⟩:=q8q h;obtain⟨h0,h⟩:=q8q h;simp only[jg,decide_eq_true_eq] at h0;unfold qot at h;split at h
      · rename_i hnone;refine⟨_,h,fun s hl hs hn=>?_⟩;simp only[hop,qes,ja,jd,jc,and_true] at hl;exact qCY hT hop hd hg hl.1 hl.2 h0.1.1.1 h0.1.1.2 h0.1.2 h0.2 hfl (hk0 hn hd hnone) rfl
      · cases h
    · cases h
 case slice t x lo hi m =>
  match l,h with
  | u :: vs, h =>
    simp only[effC] at h;split at h
    · rename_i et e bb hg;obtain⟨pv,h1,h2⟩:=qwc hT hg h;refine⟨_,h1,fun s hl hs hn=>qdw.pure fun B w S J a R=>?_⟩;simp only[hop,qes,ja,jc] at hl;obtain⟨rfl,hl⟩:=hl;have hb:qwu lo hi m vs=(lo.map s.pv,hi.map s.pv,m.map s.pv)\/(qwu lo hi m vs).1=some .junk:=by
        rw[<- hl];cases lo<;>cases hi<;>cases m<;>first | exact .inl rfl | exact .inr rfl
      rcases hb with hb | hb
      · rw [hb] at h2;obtain⟨z,z1,z2⟩:=h2 _ _ _ _ R hs (q14q R x) (qxC R lo) (qxC R hi) (qxC R m);exact⟨z,by simp only[execOp,hop];rw[Sem.run_bind,z1];rfl,z2⟩
      · exfalso;rw[hb] at h;unfold qro at h;simp only[bnd] at h;cases h
    · cases h
 case call c =>
  simp only[effC] at h;split at h
  ·
    rename_i hcal;split at h
    · rename_i k i;split at h
      · rename_i T' htys;split at h
        · rename_i et e bb hg;obtain⟨n,h1,h2⟩:=qxq h;refine⟨_,h1,fun s hl hs hn=>qdw.pure fun B w S J a R=>?_⟩;simp only[hop,qes,hcal] at hl;have hargs:∃ x,c.args.toList=[x]/\s.pv x=.vw k i:=by
            match hca:c.args.toList,hl with
            | [x],hl=>simp only[hca,ja,jd,jc,and_true] at hl;exact⟨x,rfl,hl⟩
            | [],hl=>simp [hca] at hl
            | _::_::_,hl=>simp [hca] at hl
          obtain⟨x,hx,hxv⟩:=hargs;have e1:c.args=#[x]:=by apply jj.1;simpa using hx
          have e2:c.argTypes=#[T']:=by apply jj.1;simpa using htys
          have hv:=q14q R x;rw[hxv] at hv;obtain⟨A,cap,hA⟩:=h2 _ R hs hv;have hu:=(hT T' _ hg).2.1;refine⟨.int .i64 (n:Int),?_,qre⟩;simp [execOp,hop,resolve,hcal,e1,e2,invoke,builtin,hA,Builtin.len_,run_underlying hu,goInt]
        · cases h
      · cases h
    · rename_i x' _;split at h
      · rename_i T' htys;split at h
        · rename_i et e bb n hg hlen;refine⟨_,h,fun s hl hs hn=>qdw.pure fun B w S J a R=>?_⟩;simp only[hop,qes,hcal] at hl;have hargs:∃ x,c.args.toList=[x]/\s.pv x=x':=by
            match hca:c.args.toList,hl with
            | [x],hl=>simp only[hca,ja,jd,jc,and_true] at hl;exact⟨x,rfl,hl⟩
            | [],hl=>simp [hca] at hl
            | _::_::_,hl=>simp [hca] at hl
          obtain⟨x,hx,rfl⟩:=hargs;have e1:c.args=#[x]:=by apply jj.1;simpa using hx
          have e2:c.argTypes=#[T']:=by apply jj.1;simpa using htys
          have:=qA8 R hT hs hg hlen (q14q R x) o.type;refine⟨_,?_,qre⟩;simp [execOp,hop,resolve,hcal,e1,e2,invoke,builtin,this]
        · cases h
      · cases h
    · cases h
  ·
    rename_i hcal;split at h
    · rename_i x' y' T1 T2 htys;obtain⟨h0,h3⟩:=q8q h;have h0:=jh h0;clear h;subst h0;rw[qs9] at h3;obtain⟨ef,h1,h2⟩:=qnr h3;refine⟨ef,h1,fun s hl hs hn=>?_⟩;simp only[hop,qes,hcal] at hl;have hargs:∃ x y,c.args.toList=[x,y]/\s.pv x=x'/\s.pv y=y':=by
        match hca:c.args.toList,hl with
        | [x,y],hl=>simp only[hca,ja,jd,jc,and_true] at hl;exact⟨x,y,rfl,hl⟩
        | [],hl=>simp [hca] at hl
        | [_],hl=>simp [hca] at hl
        | _::_::_::_,hl=>simp [hca] at hl
      obtain⟨x,y,hx,rfl,rfl⟩:=hargs;have e1:c.args=#[x,y]:=by apply jj.1;simpa using hx
      have e2:c.argTypes=#[T1,T1]:=by apply jj.1;simpa using htys
      cases hd:o.dst with
      | none=>rw[hd] at h2;unfold qhn at h2;split at h2<;>first | cases h2 | (rename_i q;cases q)
      | some d =>
        rw[hd] at h2;exact qxG hT hs (fun hq=>hk0 hn hd hq) hop hd hcal e1 e2 h2
    · cases h
  ·
    rename_i hcal;split at h
    · rename_i x' y' T1 T2 htys;obtain⟨h0,h3⟩:=q8q h;have h0:=jh h0;clear h;subst h0;split at h3
      · rename_i et e bb hg;rw[qwh] at h3;obtain⟨ef,h1,h2⟩:=qnr h3;refine⟨ef,h1,fun s hl hs hn=>?_⟩;simp only[hop,qes,hcal] at hl;have hargs:∃ x y,c.args.toList=[x,y]/\s.pv x=x'/\s.pv y=y':=by
          match hca:c.args.toList,hl with
          | [x,y],hl=>simp only[hca,ja,jd,jc,and_true] at hl;exact⟨x,y,rfl,hl⟩
          | [],hl=>simp [hca] at hl
          | [_],hl=>simp [hca] at hl
          | _::_::_::_,hl=>simp [hca] at hl
        obtain⟨x,y,hx,rfl,rfl⟩:=hargs;have e1:c.args=#[x,y]:=by apply jj.1;simpa using hx
        have e2:c.argTypes=#[T1,T1]:=by apply jj.1;simpa using htys
        exact qDs hT (ety:=et) hs hg (fun a w=>by unfold execOp;simp [hop,resolve,hcal,e1,e2,invoke,builtin]) h2
      · cases h3
    · cases h
  ·
    rename_i hcal;split at h
    · rename_i k m k' n;split at h
      · rename_i hkk;subst hkk;refine⟨_,h,fun s hl hs hn=>qdw.pure fun B w S J a R=>?_⟩;simp only[hop,qes,hcal] at hl;have hargs:∃ x y,c.args.toList=[x,y]/\s.pv x=.val (.int k) m/\s.pv y=.val (.int k) n:=by
          match hca:c.args.toList,hl with
          | [x,y],hl=>simp only[hca,ja,jd,jc,and_true] at hl;exact⟨x,y,rfl,hl⟩
          | [],hl=>simp [hca] at hl
          | [_],hl=>simp [hca] at hl
          | _::_::_::_,hl=>simp [hca] at hl
        obtain⟨x,y,hx,h1,h2⟩:=hargs;have e1:c.args=#[x,y]:=by apply jj.1;simpa using hx
        have hx1:=q14q R x;have hy1:=q14q R y;rw[h1] at hx1;rw[h2] at hy1;refine⟨.int k (mx m n),?_,qre⟩;simp [execOp,hop,resolve,hcal,e1,invoke,builtin,Builtin.max_,hx1.int,hy1.int,Builtin.max2,mx]
      · cases h
    · cases h
  ·
    rename_i hcal;split at h
    · rename_i k m k' n;split at h
      · rename_i hkk;subst hkk;refine⟨_,h,fun s hl hs hn=>qdw.pure fun B w S J a R=>?_⟩;simp only[hop,qes,hcal] at hl;have hargs:∃ x y,c.args.toList=[x,y]/\s.pv x=.val (.int k) m/\s.pv y=.val (.int k) n:=by
          match hca:c.args.toList,hl with
          | [x,y],hl=>simp only[hca,ja,jd,jc,and_true] at hl;exact⟨x,y,rfl,hl⟩
          | [],hl=>simp [hca] at hl
          | [_],hl=>simp [hca] at hl
          | _::_::_::_,hl=>simp [hca] at hl
        obtain⟨x,y,hx,h1,h2⟩:=hargs;have e1:c.args=#[x,y]:=by apply jj.1;simpa using hx
        have hx1:=q14q R x;have hy1:=q14q R y;rw[h1] at hx1;rw[h2] at hy1;refine⟨.int k (mn m n),?_,qre⟩;simp [execOp,hop,resolve,hcal,e1,invoke,builtin,Builtin.min_,hx1.int,hy1.int,Builtin.min2,mn]
      · cases h
    · cases h
  ·
    rename_i fo hcal;split at h
    · rename_i f l' args;split at h
      · rename_i ct hct;rw[quG] at h;obtain⟨ef,h1,h2⟩:=qnr h;refine⟨ef,h1,fun s hl hs hn=>?_⟩;simp only[hop,qes,hcal,ja,jc] at hl;obtain⟨hf1,hargs⟩:=hl;cases hd:o.dst with
        | none =>
          rw[hd] at h2;unfold qlH at h2;unfold qmR at h2;cases hw:ct.wi with
          | none=>rw[hw] at h2;unfold qjg at h2;cases h2
          | some wi=>rw[hw] at h2;cases h2
        | some d =>
          refine qBX hE hs hct hd (fun k q1 q2 q3=>?_) (fun B w S J a R=>?_) h2
          · have := hn d hd (k - d * 8) (by omega);rw[Nat.add_sub_cancel' q1] at this;exact this q3
          · have hf2 := q14q R fo;rw[hf1] at hf2;obtain⟨vs,he,hvs⟩:=hf2;refine⟨c.args.toList.map a.eval++vs,?_,?_⟩
            · have : (c.args.toList.map a.eval ++ vs).toArray = #[] ++ c.args.map a.eval ++ vs.toArray := by
                apply jj.1;simp
              rw[this];simp [execOp,hop,resolve,hcal,he,Deferred.ofValue,invoke]
            · refine All2.append ?_ (hvs.imp fun _ _ h => h.up);rw[<- hargs];have:∀ xs:List Operand,All2 (TRel w S J (get s.h)) (xs.map s.pv) (xs.map a.eval):=by
                intro xs
                induction xs with
                | nil=>trivial
                | cons x xs ih=>exact⟨q14q R x,ih⟩
              exact this _
      · cases h
    · cases h
  · cases h
 all_goals exact absurd h (by simp [effC])
end
variable {T:Told} {P:Program} {tb:Tb} {env:Env}
structure Stp where
 i:Nat
 o:Oper
 ran:Option (List Nat×Eff)
def Stp.rk (st:Stp):List Nat:=match st.ran with | some p=>p.1 | none=>[]
def Stp.eff (st:Stp):Eff:=match st.ran with | some p=>p.2 | none=>⟨some (.tup []),[]⟩
def Stp.hw (st:Stp):List Nat:=qac st.eff.hw
def Look (s s':St):Prop:=(∀ n,get s'.e n=get s.e n)/\(∀ k,get s'.h k=get s.h k)
theorem Look.refl (s:St):Look s s:=⟨fun _=>rfl,fun _=>rfl⟩
theorem Look.symm {s s':St} (h:Look s s'):Look s' s:=⟨fun n=>(h.1 n).symm,fun k=>(h.2 k).symm⟩
theorem Look.trans {s s' s'':St} (h:Look s s') (h':Look s' s''):Look s s'':=⟨fun n=>by rw[h'.1,h.1],fun k=>by rw[h'.2,h.2]⟩
theorem Look.app {s s':St} (h:Look s s') (d:Option Tmp) (ef:Eff):Look (s.app d ef) (s'.app d ef):=by
 refine⟨fun n=>?_,fun k=>?_⟩
 · cases d with
   | none=>exact h.1 n
   | some d=>simp only[St.app,q6q,h.1 n]
 · simp only[St.app,q2q,h.2 k]
def qDD (T:Told) (P:Program) (all:List Oper) (st:Stp) (s:St):Prop :=
 (match st.o.guard with
  | none=>st.ran.isSome=true
  | some (j,want)=>∃ d,(all[j]?).bind (·.dst)=some d/\((∃ b,get s.e d=some (.val .bool b)/\(st.ran.isSome=true ↔ b=want))\/(get s.e d=some (.tup [])/\st.ran.isSome=false))) /\
 (st.ran.isSome=true->∀ s':St,(∀ n∈qs1 all st.o,get s'.e n=get s.e n)->(∀ k∈st.rk,get s'.h k=get s.h k)->qdw T P st.o s' st.eff)
theorem qDD.agree {all:List Oper} {st:Stp} {s s':St} (h:qDD T P all st s) (h1:∀ n∈qs1 all st.o,get s'.e n=get s.e n) (h2:∀ k∈st.rk,get s'.h k=get s.h k):qDD T P all st s':=by
 refine⟨?_,fun hr s'' e1 e2=>h.2 hr s'' (fun n hn=>by rw[e1 n hn,h1 n hn]) fun k hk=>by rw[e2 k hk,h2 k hk]⟩;have hg:=h.1;revert hg;cases hgu:st.o.guard with
 | none=>exact id
 | some p =>
  obtain⟨j,want⟩:=p;rintro⟨d,h3,h4⟩;have h5:get s'.e d=get s.e d:=h1 d (by simp [qs1,qyq,hgu,h3]);exact⟨d,h3,by rw[h5];exact h4⟩
def Val (T:Told) (P:Program) (all:List Oper) (nt:Nat):List Stp->St->St->Prop
 | [],s,sf=>Look s sf
 | st::r,s,sf=>qDD T P all st s/\qxs nt st.o.dst=true/\(∀ k∈st.hw,k∈st.rk)/\Val T P all nt r (s.app st.o.dst st.eff) sf
theorem Val.look {all:List Oper} {nt:Nat}:∀ {tr:List Stp} {s s' sf:St},Look s s'->Val T P all nt tr s sf->Val T P all nt tr s' sf
 | [],s,s',sf,h,hv=>h.symm.trans hv
 | st::r,s,s',sf,h,hv=>⟨hv.1.agree (fun n _=>h.1 n) (fun k _=>h.2 k),hv.2.1,hv.2.2.1,hv.2.2.2.look (h.app _ _)⟩
def qFz (all:List Oper) (y x:Stp):Prop:=qtE all y.o x.o=true/\(∀ k∈x.rk,k ∉ y.hw)/\(∀ k∈y.rk,k ∉ x.hw)
theorem qv4 {s:St} {d:Option Tmp} {ef:Eff} {n:Nat} (h:∀ m,d=some m->m≠n):get (s.app d ef).e n=get s.e n:=by
 cases d with
 | none=>rfl
 | some m=>simp only[St.app,q6q,if_neg (h m rfl)]
theorem qv3 {s:St} {d:Option Tmp} {ef:Eff} {k:Nat} (h:k ∉ qac ef.hw):get (s.app d ef).h k=get s.h k:=by
 simp only[St.app,q2q,q11q h];rfl
theorem qzZ {all:List Oper} {y x:Oper} (h:qtE all y x=true) :
  (∀ d,y.dst=some d->d ∉ qs1 all x)/\(∀ d,x.dst=some d->d ∉ qs1 all y)/\(∀ d d',y.dst=some d->x.dst=some d'->d≠d'):=by
 simp only[qtE,jg,jw] at h;obtain⟨⟨h1,h2⟩,h3⟩:=h;have h1:=qf8.1 h1;have h2:=qf8.1 h2;have h3:=qf8.1 h3;refine⟨fun d hd=>h1 d (by simp [dstL,hd]),fun d hd=>h2 d (by simp [dstL,hd]),fun d d' hd hd' e=>?_⟩;exact h3 d (by simp [dstL,hd]) (by simp [dstL,hd',e])
theorem Val.swap {all:List Oper} {nt:Nat} {y x:Stp} {r:List Stp} {s sf:St} (ha:qFz all y x) (h:Val T P all nt (y::x::r) s sf):Val T P all nt (x::y::r) s sf:=by
 obtain⟨a1,a2,a3⟩:=ha;obtain⟨b1,b2,b3⟩:=qzZ a1;obtain⟨hy,hyd,hyw,hx,hxd,hxw,hr⟩:=h;have ex:∀ n∈qs1 all x.o,get s.e n=get (s.app y.o.dst y.eff).e n:=fun n hn=>(qv4 fun m hm e=>b1 m hm (e ▸ hn)).symm
 have ex2:∀ k∈x.rk,get s.h k=get (s.app y.o.dst y.eff).h k:=fun k hk=>(qv3 (a2 k hk)).symm
 have ey:∀ n∈qs1 all y.o,get (s.app x.o.dst x.eff).e n=get s.e n:=fun n hn=>qv4 fun m hm e=>b2 m hm (e ▸ hn)
 have ey2:∀ k∈y.rk,get (s.app x.o.dst x.eff).h k=get s.h k:=fun k hk=>qv3 (a3 k hk)
 refine⟨hx.agree ex ex2,hxd,hxw,hy.agree ey ey2,hyd,hyw,hr.look ⟨fun n=>?_,fun k=>?_⟩⟩
 · cases hy' : y.o.dst with
   | none=>cases hx':x.o.dst<;>simp [St.app,q6q]
   | some d =>
    cases hx':x.o.dst with
    | none=>simp [St.app]
    | some d' =>
     have:=b3 d d' hy' hx';simp only[St.app,q6q];by_cases e1:d=n
     · subst e1;simp [Ne.symm this]
     · simp [e1]
 · simp only [St.app, q2q];cases e1:get y.eff.hw k with
   | none=>rfl
   | some ob =>
    have:k ∉ qac x.eff.hw:=a3 k (hyw k (qaw e1));rw[q11q this];rfl
theorem Val.front {all:List Oper} {nt:Nat} {x:Stp} {B:List Stp}:∀ {A:List Stp} {s sf:St},(∀ y∈A,qFz all y x)->Val T P all nt (A++x::B) s sf->Val T P all nt (x::(A++B)) s sf
 | [],s,sf,_,h=>h
 | y::A,s,sf,ha,h=>by
  obtain⟨h1,h2,h3,h4⟩:=h;have:=Val.front (A:=A) (fun z hz=>ha z (je _ hz)) h4;exact Val.swap (r:=A++B) (ha y jf) ⟨h1,h2,h3,this⟩
def Dyn (pr:Option Prec) (y x:Stp):Prop :=
 match pr with
 | none=>True
 | some pr=>qfJ pr x.i y.i=false->(∀ k∈x.rk,k ∉ y.hw)/\(∀ k∈y.rk,k ∉ x.hw)
def DynH (pr:Option Prec) (h:Nat×List Nat×List Nat) (x:Stp):Prop :=
 match pr with
 | none=>True
 | some pr=>qfJ pr x.i h.1=false->(∀ k∈x.rk,k ∉ h.2.2)/\(∀ k∈h.2.1,k ∉ x.hw)
theorem qyH (l:List Nat):anyN l []=false:=qf8.2 fun n _=>by simp
theorem qCA {pr:Prec} {i:Nat} {rk:List Nat}:∀ {hist:Hist},qCB pr i rk hist=true->∀ e∈hist,qfJ pr i e.1=false->anyN rk e.2.2=false:=by
 intro hist
 induction hist with
 | nil=>intro _ e he;simp at he
 | cons q hist ih =>
  intro h1 e he ho;obtain⟨x,rk',hw'⟩:=q;simp only[qCB,jg] at h1;rcases j9.1 he with rfl | he
  · cases hw' with
    | nil=>exact qyH rk
    | cons a b =>
     have h3:=h1.1;simp only at ho;simp only[ho,jL,jw] at h3;exact h3
  · exact ih h1.2 e he ho
theorem qAg {pr:Prec} {i:Nat} {hw:List Nat}:∀ {hist:Hist},qxU pr i hw hist=true->∀ e∈hist,qfJ pr i e.1=false->anyN e.2.1 hw=false:=by
 intro hist
 induction hist with
 | nil=>intro _ e he;simp at he
 | cons q hist ih =>
  intro h1 e he ho;obtain⟨x,rk',hw'⟩:=q;simp only[qxU,jg] at h1;rcases j9.1 he with rfl | he
  · have h3 := h1.1;simp only at ho;simp only[ho,jL,jw] at h3;exact h3
  · exact ih h1.2 e he ho
theorem qyZ {pr:Option Prec} {i:Nat} {rk hw:List Nat} {hist:Hist} (h1:qDY pr i rk hist=true) (h2:qAh pr i hw hist=true):∀ st:Stp,st.i=i->st.rk=rk->st.hw=hw->∀ e∈hist,DynH pr e st:=by
 intro st e1 e2 e3 e he;cases pr with
 | none=>trivial
 | some pr =>
  intro ho;rw[e1] at ho;rw[e2,e3];refine⟨qf8.1 (qCA h1 e he ho),qf8.1 ?_⟩;cases hw with
  | nil=>exact qyH _
  | cons a b=>exact qAg h2 e he ho
theorem qCI {l:List Operand} {s s':St} (h:∀ n∈quW l,get s'.e n=get s.e n):l.map s'.pv=l.map s.pv:=by
 induction l with
 | nil=>rfl
 | cons x l ih =>
  cases x with
  | tmp t =>
   simp only[quW,j9,forall_eq_or_imp] at h;simp only[ja,St.pv,h.1,ih h.2]
  | const v=>simp only[ja,St.pv,ih h]
  | global g=>simp only[ja,St.pv,ih h]
  | func f=>simp only[ja,St.pv,ih h]
theorem qtu {s:St} {d:Nat} {v:PV} (h:get s.e d=some v):Look s ⟨(d,v)::s.e,s.h⟩:=by
 refine⟨fun n=>?_,fun _=>rfl⟩;show get ((d,v)::s.e) n=get s.e n;rw[q6q];split
 · rename_i e;subst e;exact h.symm
 · rfl
section
variable {R:Type}
theorem qv1 {all:List Oper} {nt:Nat} {o:Oper} {s:St} {yes no:St->Option R} {out:R} (h:qBk all nt o s yes no=some out) :
  ∃ s1,Look s s1/\((yes s1=some out/\∀ ran:Option (List Nat×Eff),ran.isSome=true->(match o.guard with
      | none=>ran.isSome=true
      | some (j,want)=>∃ d,(all[j]?).bind (·.dst)=some d/\((∃ b,get s.e d=some (.val .bool b)/\(ran.isSome=true ↔ b=want))\/(get s.e d=some (.tup [])/\ran.isSome=false)))) \/
    (no s1=some out/\∀ ran:Option (List Nat×Eff),ran.isSome=false->(match o.guard with
      | none=>ran.isSome=true
      | some (j,want)=>∃ d,(all[j]?).bind (·.dst)=some d/\((∃ b,get s.e d=some (.val .bool b)/\(ran.isSome=true ↔ b=want))\/(get s.e d=some (.tup [])/\ran.isSome=false))))):=by
 unfold qBk at h;cases hg:o.guard with
 | none=>rw[hg] at h;exact⟨s,Look.refl s,.inl ⟨h,fun _ h=>h⟩⟩
 | some p =>
  obtain⟨j,want⟩:=p;rw[hg] at h;simp only at h;split at h
  · rename_i d hd;split at h
    · rename_i b hb;cases b with
      | true =>
       refine⟨_,qtu hb,?_⟩;cases want with
       | true=>exact .inl ⟨h,fun ran hr=>⟨d,hd,.inl ⟨true,hb,by simp [hr]⟩⟩⟩
       | false=>exact .inr ⟨h,fun ran hr=>⟨d,hd,.inl ⟨true,hb,by simp [hr]⟩⟩⟩
      | false =>
       refine⟨_,qtu hb,?_⟩;cases want with
       | true=>exact .inr ⟨h,fun ran hr=>⟨d,hd,.inl ⟨false,hb,by simp [hr]⟩⟩⟩
       | false=>exact .inl ⟨h,fun ran hr=>⟨d,hd,.inl ⟨false,hb,by simp [hr]⟩⟩⟩
    · rename_i hb;exact⟨s,Look.refl s,.inr ⟨h,fun ran hr=>⟨d,hd,.inr ⟨hb,hr⟩⟩⟩⟩
    · cases h
  · cases h
theorem qmg {d:Nat} {l:List PV} {j:Nat} (hj:j<8):d*8+j∈rkOf (some d) l:=by
 have:j=0\/j=1\/j=2\/j=3\/j=4\/j=5\/j=6\/j=7:=by omega
 simp only[rkOf,jb,j9]
 right
 rcases this with h | h | h | h | h | h | h | h<;>subst h<;>simp
theorem qCE {h:List (Nat×Ob)} {op:Op} {d:Nat} {l:List PV} {j:Nat} (hj:j<8):d*8+j∈qCF h op (some d) l:=by
 unfold qCF;split
 · exact jb.2 (.inr (qmg hj))
 · exact jb.2 (.inr (qmg hj))
 · exact qmg hj
 · exact qmg hj
 · exact qmg hj
theorem qqC (hT:TbOk P tb) (hE:qai T P env) {nt:Nat} {all:List Oper} {pr:Option Prec}:∀ {ops:List Oper} {i:Nat} {hist:Hist} {s:St} {K:St->Option R} {out:R},qqD tb env nt all pr i ops hist s K=some out ->
  ∃ tr sf,K sf=some out/\Val T P all nt tr s sf/\tr.length=ops.length/\(∀ (k:Nat) (st:Stp),tr[k]?=some st->st.i=i+k/\ops[k]?=some st.o)/\(∀ st∈tr,∀ e∈hist,DynH pr e st)/\jy (Dyn pr) tr:=by
 intro ops
 induction ops with
 | nil =>
  intro i hist s K out h;exact⟨[],s,h,Look.refl s,rfl,by simp,by simp,jy.nil⟩
 | cons o ops ih =>
  intro i hist s K out h;unfold qqD at h;obtain⟨hd,h⟩:=q8q h;obtain⟨s1,hl,h⟩:=qv1 h;rcases h with ⟨h,hg⟩ | ⟨h,hg⟩
  · simp only at h;obtain⟨hsees,h⟩:=q8q h;obtain⟨ef,h,hsim⟩:=qFT hT hE h;obtain⟨h1,h⟩:=q8q h;simp only[jg] at h1;obtain⟨hturns,hsub⟩:=h1;obtain⟨tr,sf,k1,k2,k3,k4,k5,k6⟩:=ih h;generalize hrk:qCF s1.h o.op o.dst (List.map s1.pv (qes o.op))=rk at *;refine⟨⟨i,o,some (rk,ef)⟩::tr,sf,k1,⟨⟨hg _ rfl,fun _ s' e1 e2=>hsim s' ?_ ?_ ?_⟩,hd,fun k hk=>qxW.1 hsub k hk,k2.look (hl.symm.app _ _)⟩,by simp [k3],?_,?_,?_⟩
    · refine qCI fun n hn => ?_
      rw[e1 n (by simp [qs1,hn]),hl.1]
    · intro k ob hk;have hm:k∈rk:=by
        unfold only at hk;cases hm:memN k rk with
        | true=>exact qlC.1 hm
        | false=>simp [hm] at hk
      rw[e2 k hm,<- hl.2];exact qAW hk
    · intro d hd' j hj hk;have hm:d*8+j∈rk:=by rw[<- hrk,hd'];exact qCE hj
      rw[e2 _ hm,<- hl.2];exact qAX hk hm
    · intro k st hk;cases k with
      | zero=>simp at hk;subst hk;exact⟨rfl,rfl⟩
      | succ k =>
        simp only[jE] at hk;obtain⟨q1,q2⟩:=k4 k st hk;exact⟨by omega,by simpa using q2⟩
    · intro st hst e he;rcases j9.1 hst with rfl | hst
      · exact qyZ hsees hturns _ rfl rfl rfl e he
      · exact k5 st hst e (je _ he)
    · refine jP.2 ⟨fun st hst => ?_, k6⟩;have:=k5 st hst (i,rk,qac ef.hw) jf;cases pr with
      | none=>trivial
      | some pr=>exact this
  · obtain ⟨tr, sf, k1, k2, k3, k4, k5, k6⟩ := ih h;refine⟨⟨i,o,none⟩::tr,sf,k1,⟨⟨hg _ rfl,fun hr=>by cases hr⟩,hd,fun k hk=>by simp [Stp.hw,Stp.eff,qac] at hk,k2.look (hl.symm.app _ _)⟩,by simp [k3],?_,?_,?_⟩
    · intro k st hk;cases k with
      | zero=>simp at hk;subst hk;exact⟨rfl,rfl⟩
      | succ k =>
        simp only[jE] at hk;obtain⟨q1,q2⟩:=k4 k st hk;exact⟨by omega,by simpa using q2⟩
    · intro st hst e he;rcases j9.1 hst with rfl | hst
      · cases pr with
        | none=>trivial
        | some pr=>intro _;simp [Stp.rk,Stp.hw,Stp.eff,qac]
      · exact k5 st hst e he
    · refine jP.2 ⟨fun st hst => ?_, k6⟩;cases pr with
      | none=>trivial
      | some pr=>intro _;simp [Stp.rk,Stp.hw,Stp.eff,qac]
end
variable {T:Told} {P:Program} {tb:Tb} {env:Env}
def Post (T:Told) (B:Base) (s:St) (F:Act->World->Prop):Prop:=∀ w S J a,Rel T B w S J s a->F a w
theorem qyP {B:Base} {w:World} {S:Foot} {J:Con} {s:St} {a:Act} (R:Rel T B w S J s a) {ops:Array Oper} {st:Stp}
  (hg:match st.o.guard with
    | none=>st.ran.isSome=true
    | some (j,want)=>∃ d,(ops.toList[j]?).bind (·.dst)=some d/\((∃ b,get s.e d=some (.val .bool b)/\(st.ran.isSome=true ↔ b=want))\/(get s.e d=some (.tup [])/\st.ran.isSome=false))) :
  Region.wanted st.o (yielded ops a.tmps)=st.ran.isSome:=by
 unfold Region.wanted;cases hgu:st.o.guard with
 | none=>rw[hgu] at hg;exact hg.symm
 | some p =>
  obtain⟨j,want⟩:=p;rw[hgu] at hg;obtain⟨d,h1,hg⟩:=hg;have h1':(ops[j]?).bind (·.dst)=some d:=by rw[<- ju];exact h1
  rcases hg with ⟨b,h2,h3⟩ | ⟨h2,h3⟩
  rotate_left
  · obtain ⟨v, hv1, hv2⟩ := R.tmps d _ h2;obtain⟨vs,rfl,hvs⟩:=hv2;have:yielded ops a.tmps j=none:=by
     unfold yielded;simp [h1',hv1]
    simp only[this,h3];rfl
  obtain⟨v,hv1,hv2⟩:=R.tmps d _ h2;have hv2:=hv2.bool;subst hv2;have:yielded ops a.tmps j=some b:=by
    unfold yielded;simp [h1',hv1]
  simp only[this];cases hr:st.ran.isSome with
  | true=>rw[h3.1 hr];simp
  | false =>
    have:b≠want:=fun e=>by rw[h3.2 e] at hr;cases hr
    simp [this]
theorem qxX {B:Base} {w:World} {S:Foot} {J:Con} {s sf:St} {a:Act} (R:Rel T B w S J s a) {ops:Array Oper} {st:Stp} {tr:List Stp} (hv:Val T P ops.toList B.nt (st::tr) s sf) (ho:ops[st.i]?=some st.o)
  {Q:Exit->Act->World->Prop} {next:Act->World->Prop} (hn:Post T B (s.app st.o.dst st.eff) next) :
  if Region.wanted st.o (yielded ops a.tmps) then st.o.wp P a w next Q\/(st.o.asks P a w/\LetsOut Q) else next (a.put st.o.dst undef) w:=by
 obtain⟨⟨hg,hr⟩,hd,_,_⟩:=hv;rw[qyP R hg];cases hs:st.ran.isSome with
 | true =>
  rw[if_pos rfl];refine .inl (hr hs s (fun _ _=>rfl) (fun _ _=>rfl) B w S J a R hd next Q fun val w' S' J' R'=>hn w' S' J' _ R')
 | false =>
  rw[if_neg (by simp)];have he:st.eff=⟨some (.tup []),[]⟩:=by
   unfold Stp.eff;cases hq:st.ran with
   | none=>rfl
   | some p=>rw[hq] at hs;cases hs
  rw[he] at hn;exact hn w S J _ (Rel.app (ef:=⟨some (.tup []),[]⟩) R hd fun pv h=>by injection h with h;subst h;exact⟨[],rfl,trivial⟩)
theorem qz4 {ops:Array Oper} {B:Base} {sf:St} {Q:Exit->Act->World->Prop} (hQ:Post T B sf (Q .normal)):∀ {tr:List Stp} {s:St},Val T P ops.toList B.nt tr s sf->(∀ st∈tr,ops[st.i]?=some st.o) ->
  Post T B s (wpOps P ops Q (tr.map (·.i))):=by
 intro tr
 induction tr with
 | nil=>intro s hv _ w S J a R;exact hQ w S J a (R.ext hv.1 hv.2)
 | cons st tr ih =>
  intro s hv ho w S J a R;have hos:=ho st jf;simp only[ja,wpOps,hos];exact qxX R hv hos (ih hv.2.2.2 fun st hst=>ho st (je _ hst))
theorem qFJ {all:List Oper} {pr:Prec}:∀ {r:List Oper} {i:Nat} {done:List (Nat×Oper)},quZ.go all pr i r done=true->∀ k o,r[k]?=some o ->
  (∀ e∈o.after.toList,Region.binds .any e=true->e.on<i+k)/\(∀ x,qfJ pr (i+k) x=true->∃ e∈o.after.toList,Region.binds .any e=true/\(e.on=x\/qfJ pr e.on x=true)) /\
  (∀ d∈done,qfJ pr (i+k) d.1=true\/qtE all d.2 o=true)/\∀ k' o',k'<k->r[k']?=some o'->qfJ pr (i+k) (i+k')=true\/qtE all o' o=true:=by
 intro r
 induction r with
 | nil=>intro i done _ k o h;simp at h
 | cons q r ih =>
  intro i done h k o hk;simp only[quZ.go,jg] at h;obtain⟨⟨⟨h1,h2⟩,h3⟩,h4⟩:=h;cases k with
  | zero =>
   simp at hk;subst hk;refine⟨fun e he hb=>?_,fun x hx=>?_,fun d hd=>?_,fun k' o' hlt=>by omega⟩
   · have := jQ.1 h1 e he;rw[hb] at this;have:Nat.blt e.on i=true:=by simpa using this
     have:=jx this;omega
   · unfold qfJ at hx;have:=jQ.1 h2 x (qlC.1 hx);obtain⟨e,he,hq⟩:=List.any_eq_true.1 this;simp only[jg,jY] at hq;exact⟨e,he,hq.1,hq.2.imp jh id⟩
   · have := jQ.1 h3 d hd;simpa using this
  | succ k =>
   simp only[jE] at hk;obtain⟨a1,a2,a3,a4⟩:=ih h4 k o hk;have e:i+1+k=i+(k+1):=by omega
   rw[e] at a1 a2 a3;refine⟨a1,a2,fun d hd=>a3 d (jb.2 (.inl hd)),fun k' o' hlt hk'=>?_⟩;cases k' with
   | zero =>
     simp at hk';subst hk';exact a3 (i,q) (jb.2 (.inr jf))
   | succ k' =>
     simp only[jE] at hk';have:=a4 k' o' (by omega) hk';rw[e,show i+1+k'=i+(k'+1) by omega] at this;exact this
theorem qz5 {ops:Array Oper} {pr:Prec} (hst:quZ ops.toList pr=true) {B:Base} {sf:St} {Q:Exit->Act->World->Prop} (hQ:Post T B sf (Q .normal)) :
  ∀ {fuel:Nat} {tr:List Stp} {s:St} {listed:Array Bool},Val T P ops.toList B.nt tr s sf->(∀ st∈tr,ops[st.i]?=some st.o)->jy (fun y x=>y.i<x.i/\Dyn (some pr) y x) tr ->
    listed.size=ops.size->(∀ i,i<ops.size->(listed[i]?=some false ↔ ∃ st∈tr,st.i=i))->(∀ j x,j<ops.size->listed[j]?=some true->qfJ pr j x=true->listed[x]?=some true)->tr.length<=fuel ->
    Post T B s (wpAny P .any ops Q fuel listed):=by
 have hso:∀ i o,ops[i]?=some o->_:=fun i o ho=>qFJ (all:=ops.toList) (pr:=pr) (i:=0) (done:=[]) hst i o (by rw[ju];exact ho)
 have ready:∀ {listed:Array Bool} {i:Nat},i∈Region.ready .any ops listed ↔ i<ops.size/\listed.getD i true=false/\∃ o,ops[i]?=some o/\∀ e∈o.after.toList,Region.binds .any e=true->listed.getD e.on false=true:=by
  intro listed i;unfold Region.ready;simp only[List.mem_filter,List.mem_range,jg,jw];refine and_congr_right fun hi=>and_congr_right fun _=>?_
  have:ops[i]?=some ops[i]:=jA hi;rw[this];simp only[jr,jZ,js,exists_eq_left',Array.all_eq_true_iff_forall_mem,jY,jw,Array.mem_toList_iff];exact forall_congr' fun e=>forall_congr' fun _=>⟨fun h hb=>h.resolve_left (by rw[hb];simp),fun h=>by cases hb:Region.binds .any e<;>simp_all⟩
 intro fuel
 induction fuel with
 | zero =>
  intro tr s listed hv ho hp hsz hl hcl hf w S J a R;have:tr=[]:=jV (by omega);subst this;refine⟨?_,hQ w S J a (R.ext hv.1 hv.2)⟩;apply List.eq_nil_iff_forall_not_mem.2;intro i hi;obtain⟨h1,h2,_⟩:=ready.1 hi;have:listed[i]?=some false:=by
    have h3:listed[i]?=some listed[i]:=jA (by omega);rw[jB,h3] at h2;simp at h2;rw[h3,h2]
  obtain⟨st,hst,_⟩:=(hl i h1).1 this;simp at hst
 | succ fuel ih =>
  intro tr s listed hv ho hp hsz hl hcl hf w S J a R;refine⟨fun hnil=>?_,fun i hi=>?_⟩
  · cases tr with
    | nil=>exact hQ w S J a (R.ext hv.1 hv.2)
    | cons st tr =>
      exfalso;have hos:=ho st jf;have hlt:st.i<ops.size:=(k7.1 hos).1;have:st.i∈Region.ready .any ops listed:=by
        refine ready.2 ⟨hlt,?_,st.o,hos,fun e he hb=>?_⟩
        · rw[jB,(hl st.i hlt).2 ⟨st,jf,rfl⟩];rfl
        · have hlt2 := (hso st.i st.o hos).1 e he hb;rw[jm] at hlt2;have h3:listed[e.on]?=some listed[e.on]:=jA (by omega);rw[jB,h3];cases hq:listed[e.on] with
          | true=>rfl
          | false =>
            rw[hq] at h3;obtain⟨st',hst',he'⟩:=(hl e.on (by omega)).1 h3;rcases j9.1 hst' with rfl | hst'
            · omega
            · have := (k8 hp hst').1;omega
      rw[hnil] at this;simp at this
  · obtain ⟨h1, h2, o, h3, h4⟩ := ready.1 hi;have hlf:listed[i]?=some false:=by
      have h5:listed[i]?=some listed[i]:=jA (by omega);rw[jB,h5] at h2;simp at h2;rw[h5,h2]
    obtain⟨st,hst,rfl⟩:=(hl i h1).1 hlf;have hos:=ho st hst;obtain⟨A,Bq,rfl⟩:=List.append_of_mem hst;have hpre:∀ x,qfJ pr st.i x=true->listed[x]?=some true:=by
      intro x hx;obtain⟨e,he,hb,hor⟩:=(hso st.i st.o hos).2.1 x (by rw[jm];exact hx);rw[hos] at h3;injection h3 with h3
      subst h3;have h6:=h4 e he hb;have h7:=(hso st.i st.o hos).1 e he hb;rw[jm] at h7;have h8:listed[e.on]?=some true:=by
        have h5:listed[e.on]?=some listed[e.on]:=jA (by omega);rw[jB,h5] at h6;simp at h6;rw[h5,h6]
      rcases hor with rfl | hor
      · exact h8
      · exact hcl e.on x (by omega) h8 hor
    have hap:=k9.1 hp;have hA:∀ y∈A,qFz ops.toList y st:=by
      intro y hy;obtain⟨hlt,hdyn⟩:=hap.2.2 y hy st jf;have hyo:=ho y (jb.2 (.inl hy));have hno:qfJ pr st.i y.i=false:=by
        cases hq:qfJ pr st.i y.i with
        | false=>rfl
        | true =>
          have h5:=hpre y.i hq;have h6:=(hl y.i (k7.1 hyo).1).2 ⟨y,jb.2 (.inl hy),rfl⟩;rw[h5] at h6;cases h6
      have:=(hso st.i st.o hos).2.2.2 y.i y.o hlt (by rw[ju];exact hyo);rw[jm,jm,hno] at this;exact⟨this.resolve_left (by simp),hdyn hno⟩
    have hv':=Val.front hA hv;have hbo:∀ st'∈A++Bq,ops[st'.i]?=some st'.o:=fun st' h=>ho st' (by
      rcases jb.1 h with h | h
      · exact jb.2 (.inl h)
      · exact jb.2 (.inr (je _ h)))
    have hne:∀ st'∈A++Bq,st'.i≠st.i:=by
      intro st' h;rcases jb.1 h with h | h
      · have:=(hap.2.2 st' h st jf).1;omega
      · have:=(k8 hap.2.1 h).1;omega
    unfold wpOp;simp only[hos];refine qxX R hv' hos (ih hv'.2.2.2 hbo ?_ ?_ ?_ ?_ ?_)
    · refine k9.2 ⟨hap.1,(jP.1 hap.2.1).2,fun y hy x hx=>hap.2.2 y hy x (je _ hx)⟩
    · simpa using hsz
    · intro j hj;by_cases e:st.i=j
      · subst e;rw[ka (by omega)];refine⟨fun h=>by simp at h,fun⟨st',h,h'⟩=>absurd h' (hne st' h)⟩
      · rw [jR e, hl j hj];refine⟨fun⟨st',h,h'⟩=>⟨st',?_,h'⟩,fun⟨st',h,h'⟩=>⟨st',?_,h'⟩⟩
        · rcases jb.1 h with h | h
          · exact jb.2 (.inl h)
          · rcases j9.1 h with rfl | h
            · exact absurd h' e
            · exact jb.2 (.inr h)
        · rcases jb.1 h with h | h
          · exact jb.2 (.inl h)
          · exact jb.2 (.inr (je _ h))
    · intro j x hj hlj hox;have up:∀ x:Nat,listed[x]?=some true->(listed.setIfInBounds st.i true)[x]?=some true:=by
        intro x hx;by_cases e:st.i=x
        · subst e;exact ka (by omega)
        · rw[jR e];exact hx
      by_cases e:st.i=j
      · subst e;exact up x (hpre x hox)
      · rw [jR e] at hlj;exact up x (hcl j x hj hlj hox)
    · simp at hf ⊢;omega
section
variable {R:Type}
theorem qtl (hT:TbOk P tb) (hE:qai T P env) (hm:P.follows .mixedOrders=true) {id:Nat} {ops:Array Oper} {draw:Bool} {s:St} {K:St->Option R} {out:R} {B:Base}
  (h:(match draw with
    | false=>qqD tb env B.nt ops.toList none 0 ops.toList [] s K
    | true=>bif quZ ops.toList (qx8 ops.toList) then qqD tb env B.nt ops.toList (some (qx8 ops.toList)) 0 ops.toList [] s K else none)=some out) {Q:Exit->Act->World->Prop}
  (hK:∀ sf,K sf=some out->Post T B sf (Q .normal)):Post T B s ((Code.region id ops draw).wp P Q):=by
 cases draw with
 | false =>
  obtain⟨tr,sf,k1,k2,k3,k4,_,_⟩:=qqC hT hE h;intro w S J a R;refine wp_region ?_;have:List.range ops.size=tr.map (·.i):=by
    apply jX;intro n;rw[jz];cases hn:tr[n]? with
    | none =>
     have:tr.length<=n:=List.getElem?_eq_none_iff.1 hn;simp at k3;rw[List.getElem?_eq_none (by simp;omega)];rfl
    | some st =>
     have h1:=(k4 n st hn).1;have h2:=(jO.1 hn).1;simp at k3;rw[List.getElem?_range (by omega)];simp only[jr];congr 1;omega
  rw[this];refine qz4 (hK sf k1) k2 (fun st hst=>?_) w S J a R;obtain⟨n,hn⟩:=kb hst;obtain⟨h1,h2⟩:=k4 n st hn;rw[h1,jm,<- ju];exact h2
 | true =>
  obtain⟨hst,h⟩:=q8q h;obtain⟨tr,sf,k1,k2,k3,k4,_,k6⟩:=qqC hT hE h;intro w S J a R;refine wp_region_any hm ?_;have hlen:tr.length=ops.size:=by simpa using k3
  have hio:∀ st∈tr,ops[st.i]?=some st.o:=fun st hst=>by
    obtain⟨n,hn⟩:=kb hst;obtain⟨h1,h2⟩:=k4 n st hn;rw[h1,jm,<- ju];exact h2
  refine qz5 hst (hK sf k1) k2 hio ?_ (by simp) ?_ ?_ (by omega) _ S J a R.drew
  · refine kc.2 fun i j hi hj hij => ⟨?_, kc.1 k6 i j hi hj hij⟩
    have h1:=(k4 i _ (jS hi)).1;have h2:=(k4 j _ (jS hj)).1;omega
  · intro i hi;refine⟨fun _=>?_,fun _=>by simp [hi]⟩;have h1:=(k4 i _ (jS (by omega:i<tr.length))).1;exact⟨tr[i],List.getElem_mem _,by omega⟩
  · intro j x hj hjl;simp [hj] at hjl
end
variable {T:Told} {P:Program} {tb:Tb} {env:Env}
structure It where
 pv:PV
 nv:PV
 en:List (Nat×(Ob×Option Nat))
 dk:List Nat
abbrev UD:=List Nat×List Nat
inductive Can1 (h:Hp):UD->It->UD->Prop
 | v {u:UD} {t:Ty} {pv:PV} {x:t.den}:anyN (qak pv.cells) u.1=false->fits t pv=true->decA h t pv.cells=some x->Can1 h u ⟨pv,toPV t x,[],qak pv.cells⟩ (u.1,qak pv.cells++u.2)
 | nil {u:UD} {e:Ty} {key:Nat}:Can1 h u ⟨.nil,.osl key 0 none,[(key,(.rows e [] .own,none))],[]⟩ u
 | o {u:UD} {e:Ty} {key k:Nat} {len:Option Nat} {ys:List e.den}:(memN k u.1 || memN k u.2)=false->h k=some (.rows e ys .own)->Can1 h u ⟨.osl k 0 len,.osl key 0 none,[(key,(.rows e (win ys 0 len) .own,some k))],[]⟩ (k::u.1,u.2)
 | l {u:UD} {e:Ty} {key:Nat} {ys:List e.den}:(memN key u.1 || memN key u.2)=false->h key=some (.rows e ys .lent)->Can1 h u ⟨.osl key 0 none,.osl key 0 none,[(key,(.rows e ys .lent,some key))],[]⟩ (key::u.1,u.2)
 | p {u:UD} {k i off:Nat}:Can1 h u ⟨.ptr k i off,.ptr k i off,[],[]⟩ u
 | h {u:UD}:Can1 h u ⟨.junk,.junk,[],[]⟩ u
 | fl {u:UD} {e:Ty} {key:Nat} {ys:List e.den}:(memN key u.1 || memN key u.2)=false->h key=some (.rows e ys .lent)->Can1 h u ⟨.fx key,.fx key,[(key,(.rows e ys .lent,some key))],[]⟩ (key::u.1,u.2)
def CanI (h:Hp):List It->UD->UD->Prop
 | [],u,u'=>u=u'
 | it::r,u,u'=>∃ u1,Can1 h u it u1/\CanI h r u1 u'
theorem CanI.append {h:Hp}:∀ {a b:List It} {u u1 u2:UD},CanI h a u u1->CanI h b u1 u2->CanI h (a++b) u u2
 | [],b,u,u1,u2,h1,h2=>by cases h1;exact h2
 | it::a,b,u,u1,u2,h1,h2=>by obtain⟨v,h3,h4⟩:=h1;exact⟨v,h3,CanI.append h4 h2⟩
def It.ok (it:It):List Nat:=it.en.filterMap fun e=>e.2.2
def oks (l:List It):List Nat:=l.flatMap It.ok
def dks (l:List It):List Nat:=l.flatMap It.dk
def ens (l:List It):List (Nat×(Ob×Option Nat)):=l.flatMap It.en
theorem CanI.keys {h:Hp}:∀ {l:List It} {u u':UD},CanI h l u u'->(oks l).Nodup/\(∀ k∈oks l,(k ∉ u.1/\k ∉ u.2)/\k ∉ dks l)/\(∀ k∈dks l,k ∉ u.1)
 | [],u,u',h1=>by cases h1;simp [oks,dks]
 | it::r,u,u',h1=>by
  obtain⟨u1,h2,h3⟩:=h1;obtain⟨a1,a2,a3⟩:=CanI.keys h3;have e1:oks (it::r)=it.ok++oks r:=rfl;have e2:dks (it::r)=it.dk++dks r:=rfl;rw[e1,e2];cases h2 with
  | v g1 g2 g3 =>
   simp only[It.ok,jF,jo] at *;have g1:=qf8.1 g1;refine⟨a1,fun k hk=>?_,fun k hk=>?_⟩
   · obtain ⟨⟨b0, b1⟩, b2⟩ := a2 k hk;simp only[jb,not_or] at b1 ⊢;exact⟨⟨b0,b1.2⟩,b1.1,b2⟩
   · rcases jb.1 hk with hk | hk
     · exact g1 k hk
     · exact a3 k hk
  | nil=>simpa [It.ok] using ⟨a1,a2,a3⟩
  | p=>simpa [It.ok] using ⟨a1,a2,a3⟩
  | h=>simpa [It.ok] using ⟨a1,a2,a3⟩
  | @o e key k len ys g1 g2 =>
   simp only[jt,qdH] at g1;simp only[It.ok,jT,jF,jG,jo] at *;refine⟨jC.2 ⟨fun h=>(a2 k h).1.1 jf,a1⟩,fun k' hk=>?_,fun k' hk=>fun h=>a3 k' hk (je _ h)⟩;rcases j9.1 hk with rfl | hk
   · exact⟨g1,fun h=>a3 _ h jf⟩
   · exact⟨⟨fun h=>(a2 k' hk).1.1 (je _ h),(a2 k' hk).1.2⟩,(a2 k' hk).2⟩
  | @l e k ys g1 g2 =>
   simp only[jt,qdH] at g1;simp only[It.ok,jT,jF,jG,jo] at *;refine⟨jC.2 ⟨fun h=>(a2 k h).1.1 jf,a1⟩,fun k' hk=>?_,fun k' hk=>fun h=>a3 k' hk (je _ h)⟩;rcases j9.1 hk with rfl | hk
   · exact⟨g1,fun h=>a3 _ h jf⟩
   · exact⟨⟨fun h=>(a2 k' hk).1.1 (je _ h),(a2 k' hk).1.2⟩,(a2 k' hk).2⟩
  | @fl e k ys g1 g2 =>
   simp only[jt,qdH] at g1;simp only[It.ok,jT,jF,jG,jo] at *;refine⟨jC.2 ⟨fun h=>(a2 k h).1.1 jf,a1⟩,fun k' hk=>?_,fun k' hk=>fun h=>a3 k' hk (je _ h)⟩;rcases j9.1 hk with rfl | hk
   · exact⟨g1,fun h=>a3 _ h jf⟩
   · exact⟨⟨fun h=>(a2 k' hk).1.1 (je _ h),(a2 k' hk).1.2⟩,(a2 k' hk).2⟩
theorem CanI.mem {h:Hp}:∀ {l:List It} {u u':UD},CanI h l u u'->∀ it∈l,∃ v v',Can1 h v it v'
 | it::r,u,u',h1,it',hm=>by
  obtain⟨u1,h2,h3⟩:=h1;rcases j9.1 hm with rfl | hm
  · exact⟨_,_,h2⟩
  · exact CanI.mem h3 it' hm
def objs (l:List (Nat×(Ob×Option Nat))):List (Nat×Ob):=l.map fun e=>(e.1,e.2.1)
theorem qjL (a b:List (Nat×(Ob×Option Nat))):objs (a++b)=objs a++objs b:=by simp [objs]
theorem qys (l:List (Nat×(Ob×Option Nat))) (n:Nat):get (objs l) n=(get l n).map (·.1):=by
 induction l with
 | nil=>rfl
 | cons x l ih =>
  obtain⟨k,ob,old⟩:=x;simp only[objs,ja,q6q];split
  · rfl
  · exact ih
theorem qrJ {h:Hp} {e:Ty} {used used':UD} {v:PV} {x:List e.den} (key:Nat) (ht:qtU h e used v=some (x,used')) :
   ∃ it,Can1 h used it used'/\it.pv=v/\it.nv=.osl key 0 none/\objs it.en=[(key,.rows e x .own)]:=by
 unfold qtU at ht;split at ht
 · injection ht with ht
   injection ht with h1 h2
   subst h1;subst h2;exact⟨_,.nil (e:=e) (key:=key),rfl,rfl,rfl⟩
 · rename_i k len;obtain⟨hm,ht⟩:=qbR ht;split at ht
   · rename_i t xs hk;split at ht
     · rename_i ys hy;obtain⟨rfl,rfl⟩:=qeU hy;injection ht with ht
       injection ht with h1 h2
       subst h1;subst h2;exact⟨_,.o (key:=key) (len:=len) hm hk,rfl,rfl,rfl⟩
     · cases ht
   · cases ht
 · cases ht
theorem quX {h:Hp} {e:Ty} {used:UD} {v:PV} {x:List e.den} {key:Nat} (ht:qld h e key used v=some x) :
   ∃ it,Can1 h used it (key::used.1,used.2)/\it.pv=v/\it.nv=.osl key 0 none/\objs it.en=[(key,.rows e x .lent)]:=by
 unfold qld at ht;split at ht
 · rename_i k;obtain⟨hm,ht⟩:=qbR ht;simp only[jt,jH] at hm;obtain⟨hm,he⟩:=hm;have he:=jh he;subst he;split at ht
   · rename_i t xs hk;obtain⟨rfl,rfl⟩:=qeU ht;exact⟨_,.l (by simp [hm.1,hm.2]) hk,rfl,rfl,rfl⟩
   · cases ht
 · cases ht
theorem qtV {h:Hp} {e:Ty} {used:UD} {v:PV} {x:List e.den} {key:Nat} (ht:qld h e key used (match v with | .fx k=>.osl k 0 none | _=>.junk)=some x) :
  ∃ it,Can1 h used it (key::used.1,used.2)/\it.pv=v/\it.nv=.fx key/\objs it.en=[(key,.rows e x .lent)]:=by
 cases v with
 | fx k =>
  unfold qld at ht;split at ht
  · rename_i k' hk';injection hk' with hk' _ _
    subst hk';obtain⟨hm,ht⟩:=qbR ht;simp only[jt,jH] at hm;obtain⟨hm,he⟩:=hm;have he:=jh he;subst he;split at ht
    · rename_i t xs hk;obtain⟨rfl,rfl⟩:=qeU ht;exact⟨_,.fl (by simp [hm.1,hm.2]) hk,rfl,rfl,rfl⟩
    · cases ht
  · cases ht
 | _=>simp [qld] at ht
theorem qpY {k i off:Nat} {v:PV} (h:qrM k i off v=true):v=.ptr k i off:=by
 unfold qrM at h;split at h
 · simp only [jg] at h;rw[jh h.1.1,jh h.1.2,jh h.2]
 · cases h
theorem qBV {s:St}:∀ {l:List (Nat×SH)} {used used':UD} {x:HL (tysS l)},qqu s l used=some (x,used') ->
  ∃ its,CanI (get s.h) its used used'/\All2 (fun p it=>(it.pv=(get s.e p.1).getD .junk/\∀ k i off,p.2=.p k i off->it.nv=.ptr k i off)/\it.nv≠.junk) l its/\(mkSl l x).1=jU (fun p it=>(p.1,it.nv)) l its/\(mkSl l x).2=objs (ens its) /\
   ∀ it∈its,∀ k i off,it.nv=.ptr k i off->∃ n,(n,SH.p k i off)∈l:=by
 intro l
 induction l with
 | nil =>
  intro used used' x h;simp only[qqu] at h;injection h with h
  injection h with h1 h2
  exact⟨[],h2,trivial,rfl,rfl,by simp⟩
 | cons p l ih =>
  intro used used' x h;obtain⟨n,sh⟩:=p;cases sh with
  | v t =>
   simp only[qqu] at h;obtain⟨h0,h⟩:=qbR h;simp only[jt,jH] at h0;split at h
   · rename_i y hy;split at h
     · rename_i z u hz;injection h with h
       injection h with h1 h2
       subst h1;subst h2;obtain⟨its,a1,a2,a3,a4,a5⟩:=ih hz;refine⟨_::its,⟨_,.v h0.1 h0.2 hy,a1⟩,⟨⟨⟨rfl,by simp⟩,by cases t<;>simp [toPV]⟩,a2⟩,?_,?_,?_⟩
       · simp only[mkSl,jv,a3]
       · simp only[mkSl,a4,ens,jp,jo]
       · intro it hit k i off hq;rcases j9.1 hit with rfl | hit
         · exfalso;revert hq;cases t<;>simp [toPV]
         · obtain⟨n',hn'⟩:=a5 it hit k i off hq;exact⟨n',je _ hn'⟩
     · cases h
   · cases h
  | o e key =>
   simp only[qqu] at h;split at h
   · rename_i y u1 hy;split at h
     · rename_i z u hz;injection h with h
       injection h with h1 h2
       subst h1;subst h2;obtain⟨its,a1,a2,a3,a4,a5⟩:=ih hz;obtain⟨it,b1,b2,b3,b4⟩:=qrJ key hy;refine⟨it::its,⟨_,b1,a1⟩,⟨⟨⟨b2,by simp⟩,by rw[b3];simp⟩,a2⟩,?_,?_,?_⟩
       · simp only[mkSl,jv,a3,b3]
       · simp only[mkSl,a4,ens,jp,qjL,b4,jI]
       · intro it' hit k i off hq;rcases j9.1 hit with rfl | hit
         · rw[b3] at hq;cases hq
         · obtain⟨n',hn'⟩:=a5 it' hit k i off hq;exact⟨n',je _ hn'⟩
     · cases h
   · cases h
  | l e key =>
   simp only[qqu] at h;split at h
   · rename_i y hy;split at h
     · rename_i z u hz;injection h with h
       injection h with h1 h2
       subst h1;subst h2;obtain⟨its,a1,a2,a3,a4,a5⟩:=ih hz;obtain⟨it,b1,b2,b3,b4⟩:=quX hy;refine⟨it::its,⟨_,b1,a1⟩,⟨⟨⟨b2,by simp⟩,by rw[b3];simp⟩,a2⟩,?_,?_,?_⟩
       · simp only[mkSl,jv,a3,b3]
       · simp only[mkSl,a4,ens,jp,qjL,b4,jI]
       · intro it' hit k i off hq;rcases j9.1 hit with rfl | hit
         · rw[b3] at hq;cases hq
         · obtain⟨n',hn'⟩:=a5 it' hit k i off hq;exact⟨n',je _ hn'⟩
     · cases h
   · cases h
  | p k i off =>
   simp only[qqu] at h;obtain⟨h0,h⟩:=q8q h;have h0:=qpY h0;obtain⟨its,a1,a2,a3,a4,a5⟩:=ih h;refine⟨_::its,⟨_,.p (k:=k) (i:=i) (off:=off),a1⟩,⟨⟨⟨h0.symm,fun k' i' off' e=>by injection e with e1 e2 e3;subst e1;subst e2;subst e3;rfl⟩,by simp⟩,a2⟩,?_,?_,?_⟩
   · simp only[mkSl,jv,a3]
   · simp only[mkSl,a4,ens,jp,jo]
   · intro it' hit k' i' off' hq;rcases j9.1 hit with rfl | hit
     · injection hq with e1 e2 e3;subst e1;subst e2;subst e3;exact⟨n,jf⟩
     · obtain⟨n',hn'⟩:=a5 it' hit k' i' off' hq;exact⟨n',je _ hn'⟩
  | h=>simp [qqu] at h
  | f e key=>simp [qqu] at h
theorem qDu {h:Hp}:∀ {l:List SH} {vs:List PV} {used used':UD} {x:HL (tysL l)},canL h l vs used=some (x,used') ->
  ∃ its,CanI h its used used'/\its.map It.pv=vs/\(mkL l x).1=its.map It.nv/\(mkL l x).2=objs (ens its)/\(∀ it∈its,∀ k i off,it.nv=.ptr k i off->SH.p k i off∈l)/\∀ it∈its,∀ q,it.nv≠.agg q:=by
 intro l
 induction l with
 | nil =>
  intro vs used used' x h;cases vs with
  | nil =>
   simp only[canL] at h;injection h with h
   injection h with h1 h2
   exact⟨[],h2,rfl,rfl,rfl,by simp,by simp⟩
  | cons _ _=>simp [canL] at h
 | cons sh l ih =>
  intro vs used used' x h;cases vs with
  | nil=>cases sh<;>simp [canL] at h
  | cons v vs =>
  cases sh with
  | v t =>
   simp only[canL] at h;obtain⟨h0,h⟩:=qbR h;simp only[jt,jH] at h0;split at h
   · rename_i y hy;split at h
     · rename_i z u hz;injection h with h
       injection h with h1 h2
       subst h1;subst h2;obtain⟨its,a1,a2,a3,a4,a5,a6⟩:=ih hz;refine⟨_::its,⟨_,.v h0.1.1 h0.1.2 hy,a1⟩,by simp [a2],by simp [mkL,a3],?_,?_,?_⟩
       · simp only[mkL,a4,ens,jp,jo]
       · intro it hit k i off hq;rcases j9.1 hit with rfl | hit
         · exfalso;revert hq;cases t<;>simp [toPV]
         · exact je _ (a5 it hit k i off hq)
       · intro it hit q;rcases j9.1 hit with rfl | hit
         · have h3 := h0.2;cases t<;>first | (simp [toPV];done) | (simp [Ty.isAgg] at h3)
         · exact a6 it hit q
     · cases h
   · cases h
  | o e key =>
   simp only[canL] at h;split at h
   · rename_i y u1 hy;split at h
     · rename_i z u hz;injection h with h
       injection h with h1 h2
       subst h1;subst h2;obtain⟨its,a1,a2,a3,a4,a5,a6⟩:=ih hz;obtain⟨it,b1,b2,b3,b4⟩:=qrJ key hy;refine⟨it::its,⟨_,b1,a1⟩,by simp [a2,b2],by simp [mkL,a3,b3],?_,?_,?_⟩
       · simp only[mkL,a4,ens,jp,qjL,b4,jI]
       · intro it' hit k i off hq;rcases j9.1 hit with rfl | hit
         · rw[b3] at hq;cases hq
         · exact je _ (a5 it' hit k i off hq)
       · intro it' hit q;rcases j9.1 hit with rfl | hit
         · rw[b3];simp
         · exact a6 it' hit q
     · cases h
   · cases h
  | l e key=>simp [canL] at h
  | f e key =>
   simp only[canL] at h;split at h
   · rename_i y hy;split at h
     · rename_i z u hz;injection h with h
       injection h with h1 h2
       subst h1;subst h2;obtain⟨its,a1,a2,a3,a4,a5,a6⟩:=ih hz;obtain⟨it,b1,b2,b3,b4⟩:=qtV hy;refine⟨it::its,⟨_,b1,a1⟩,by simp [a2,b2],by simp [mkL,a3,b3],?_,?_,?_⟩
       · simp only[mkL,a4,ens,jp,qjL,b4,jI]
       · intro it hit k i off hq;rcases j9.1 hit with rfl | hit
         · rw[b3] at hq;cases hq
         · exact je _ (a5 it hit k i off hq)
       · intro it' hit q;rcases j9.1 hit with rfl | hit
         · rw[b3];simp
         · exact a6 it' hit q
     · cases h
   · cases h
  | p k i off =>
   simp only[canL] at h;obtain⟨h0,h⟩:=q8q h;have h0:=qpY h0;obtain⟨its,a1,a2,a3,a4,a5,a6⟩:=ih h;refine⟨_::its,⟨_,.p (k:=k) (i:=i) (off:=off),a1⟩,by simp [a2,h0],by simp [mkL,a3],?_,?_,?_⟩
   · simp only[mkL,a4,ens,jp,jo]
   · intro it' hit k' i' off' hq;rcases j9.1 hit with rfl | hit
     · injection hq with e1 e2 e3;subst e1;subst e2;subst e3;exact jf
     · exact je _ (a5 it' hit k' i' off' hq)
   · intro it' hit q;rcases j9.1 hit with rfl | hit
     · simp
     · exact a6 it' hit q
  | h =>
   cases v with
   | junk =>
     simp only[canL] at h;obtain⟨its,a1,a2,a3,a4,a5,a6⟩:=ih h;refine⟨_::its,⟨_,.h,a1⟩,by simp [a2],by simp [mkL,a3],?_,?_,?_⟩
     · simp only[mkL,a4,ens,jp,jo]
     · intro it' hit k' i' off' hq;rcases j9.1 hit with rfl | hit
       · cases hq
       · exact je _ (a5 it' hit k' i' off' hq)
     · intro it' hit q;rcases j9.1 hit with rfl | hit
       · simp
       · exact a6 it' hit q
   | _=>simp [canL] at h
def bens:List (Nat×List It)->List (Nat×(Ob×Option Nat))
 | []=>[]
 | (k,its)::r=>(k,(.box (its.map It.nv),some k))::(ens its++bens r)
def bits (l:List (Nat×List It)):List It:=l.flatMap (·.2)
theorem qDv {h:Hp}:∀ {l:List (Nat×List SH)} {used used':UD} {x:BL l},canB h l used=some (x,used') ->
  ∃ bs:List (Nat×List It),CanI h (bits bs) used used'/\mkB l x=objs (bens bs)/\(∀ b∈bs,h b.1=some (.box (b.2.map It.pv))/\∀ it∈b.2,∀ q,it.nv≠.agg q)/\bs.map (·.1)=qlO l /\
    ∀ it∈bits bs,∀ k i off,it.nv=.ptr k i off->∃ q∈l,SH.p k i off∈q.2:=by
 intro l
 induction l with
 | nil =>
  intro used used' x h;simp only[canB] at h;injection h with h
  injection h with h1 h2
  exact⟨[],h2,rfl,by simp,rfl,by simp [bits]⟩
 | cons p l ih =>
  intro used used' x h;obtain⟨k,sl⟩:=p;simp only[canB] at h;split at h
  · rename_i c hk;split at h
    · rename_i y u1 hy;split at h
      · rename_i z u hz;injection h with h
        injection h with h1 h2
        subst h1;subst h2;obtain⟨bs,a1,a2,a3,a4,a5⟩:=ih hz;obtain⟨its,b1,b2,b3,b4,b5,b6⟩:=qDu hy;refine⟨(k,its)::bs,CanI.append b1 a1,?_,?_,by simp [qlO,a4],?_⟩
        · simp only [mkB, bens, b3, b4, a2, objs, ja, ji];rfl
        · intro b hb;rcases j9.1 hb with rfl | hb
          · exact⟨by rw[b2];exact hk,b6⟩
          · exact a3 b hb
        · intro it hit k' i off hq;rcases jb.1 hit with hit | hit
          · exact⟨_,jf,b5 it hit k' i off hq⟩
          · obtain ⟨q, q1, q2⟩ := a5 it hit k' i off hq;exact⟨q,je _ q1,q2⟩
      · cases h
    · cases h
  · cases h
variable {T:Told} {P:Program} {tb:Tb} {env:Env}
theorem qoj:∀ {l:List Nat},qpB l=true->l.Nodup
 | [],_=>kd
 | n::r,h=>by
  simp only[qpB,jg,jw] at h;exact jC.2 ⟨qdH.1 h.1,qoj h.2⟩
theorem qjU:∀ {l:List (Nat×SH)} {x:HL (tysS l)},qac (mkSl l x).2=qlg l
 | [],_=>rfl
 | (n,.v t)::r,(x,z)=>qjU (l:=r) (x:=z)
 | (n,.o e key)::r,(x,z)=>by simp only[mkSl,qac,ja,qlg];exact congrArg _ (qjU (l:=r) (x:=z))
 | (n,.l e key)::r,(x,z)=>by simp only[mkSl,qac,ja,qlg];exact congrArg _ (qjU (l:=r) (x:=z))
 | (n,.p k i off)::r,z=>qjU (l:=r) (x:=z)
 | (n,.h)::r,z=>qjU (l:=r) (x:=z)
 | (n,.f e key)::r,(x,z)=>by simp only[mkSl,qac,ja,qlg];exact congrArg _ (qjU (l:=r) (x:=z))
theorem qlF:∀ {l:List SH} {x:HL (tysL l)},qac (mkL l x).2=qi8 l
 | [],_=>rfl
 | .v t::r,(x,z)=>qlF (l:=r) (x:=z)
 | .o e key::r,(x,z)=>by simp only[mkL,qac,ja,qi8];exact congrArg _ (qlF (l:=r) (x:=z))
 | .l e key::r,(x,z)=>by simp only[mkL,qac,ja,qi8];exact congrArg _ (qlF (l:=r) (x:=z))
 | .p k i off::r,z=>qlF (l:=r) (x:=z)
 | .h::r,z=>qlF (l:=r) (x:=z)
 | .f e key::r,(x,z)=>by simp only[mkL,qac,ja,qi8];exact congrArg _ (qlF (l:=r) (x:=z))
theorem qyi:∀ {l:List (Nat×List SH)} {x:BL l},qac (mkB l x)=quL l
 | [],_=>rfl
 | (k,l)::r,(x,z)=>by
  have h1:=qlF (l:=l) (x:=x);have h2:=qyi (l:=r) (x:=z);simp only[qac] at h1 h2;simp only[mkB,qac,jG,ja,ji,quL,h1,h2]
theorem qDp {h:Hp}:∀ {t:Ty} {r:List PV} {x:t.den} {r':List PV},dec h t (.junk::r)=some (x,r')->r'=.junk::r:=by
 intro t
 induction t with
 | pair a b iha ihb =>
  intro r x r' h1;simp only[dec] at h1;split at h1
  · rename_i y r1 e1;have:=iha e1;subst this;split at h1
    · rename_i z r2 e2;have:=ihb e2;subst this;injection h1 with h1
      injection h1 with _ h1
      exact h1.symm
    · cases h1
  · cases h1
 | unit=>intro r x r' h1;simp only[dec] at h1;injection h1 with h1;injection h1 with _ h1;exact h1.symm
 | int k=>intro r x r' h1;simp [dec] at h1
 | bool=>intro r x r' h1;simp [dec] at h1
 | str | os _ _ | op _ _=>intro r x r' h1;simp [dec] at h1
 | sl e ih=>intro r x r' h1;simp [dec] at h1
theorem qwl {h:Hp} {t:Ty} {x:t.den}:decA h t [.junk]≠some x:=by
 intro h1;unfold decA at h1;split at h1
 · rename_i y e1;have:=qDp e1;cases this
 · cases h1
theorem TRel.down {w:World} {S:Foot} {J:Con} {g:Hp} {pv:PV} {v:Value} (h:TRel w S J g pv v) (h1:∀ q,pv≠.agg q) (h2:∀ q,pv≠.tup q) (h3:∀ f q,pv≠.clo f q):qad w S J g pv v:=by
 cases pv<;>first | exact h | exact absurd rfl (h1 _) | exact absurd rfl (h2 _) | exact absurd rfl (h3 _ _)
theorem qms {α:Type} {l:List (Nat×(α×Option Nat))} (h:(l.filterMap fun e=>e.2.2).Nodup):∀ {n n':Nat} {a a':α} {k:Nat},(n,(a,some k))∈l->(n',(a',some k))∈l->n=n':=by
 induction l with
 | nil=>intro n n' a a' k h1;simp at h1
 | cons x l ih =>
  intro n n' a a' k h1 h2;obtain⟨m,b,old⟩:=x;have mem:∀ {n a},(n,(a,some k))∈l->k∈l.filterMap fun e=>e.2.2:=fun h=>ke.2 ⟨_,h,rfl⟩
  cases old with
  | none =>
   have hh:(l.filterMap fun e=>e.2.2).Nodup:=by simpa using h
   rcases j9.1 h1 with e | g1
   · simp at e
   · rcases j9.1 h2 with e | g2
     · simp at e
     · exact ih hh g1 g2
  | some k0 =>
   have hh:k0 ∉ (l.filterMap fun e=>e.2.2)/\(l.filterMap fun e=>e.2.2).Nodup:=by simpa using h
   rcases j9.1 h1 with e | g1
   · simp only [jn, js] at e;obtain⟨rfl,rfl,rfl⟩:=e;rcases j9.1 h2 with e' | g2
     · simp only[jn] at e';exact e'.1.symm
     · exact absurd (mem g2) hh.1
   · rcases j9.1 h2 with e' | g2
     · simp only [jn, js] at e';obtain⟨_,_,rfl⟩:=e';exact absurd (mem g1) hh.1
     · exact ih hh.2 g1 g2
theorem qmK {α:Type} {l:List (Nat×α)} (h:(l.map (·.1)).Nodup) {n:Nat} {a:α} (hm:(n,a)∈l):get l n=some a:=by
 induction l with
 | nil=>simp at hm
 | cons x l ih =>
  obtain⟨m,b⟩:=x;simp only[ja,jC] at h;rw[q6q];rcases j9.1 hm with e | hm
  · injection e with e1 e2;subst e1;subst e2;simp
  · rw [if_neg, ih h.2 hm];rintro rfl;exact h.1 (jk.2 ⟨_,hm,rfl⟩)
theorem qDZ (l:List It):oks l=(ens l).filterMap fun e=>e.2.2:=by
 induction l with
 | nil=>rfl
 | cons it l ih =>
  simp only[oks,ens,jp,List.filterMap_append] at ih ⊢;rw[ih];rfl
theorem qnA (a b:List It):ens (a++b)=ens a++ens b:=by simp [ens]
theorem qDA {bs:List (Nat×List It)} {e:Nat×(Ob×Option Nat)} (h:e∈bens bs):e∈ens (bits bs)\/∃ b∈bs,e=(b.1,(.box (b.2.map It.nv),some b.1)):=by
 induction bs with
 | nil=>simp [bens] at h
 | cons b bs ih =>
  obtain⟨k,its⟩:=b;simp only[bens,j9,jb] at h;have eb:ens (bits ((k,its)::bs))=ens its++ens (bits bs):=by simp [bits,qnA]
  rw[eb];rcases h with h | h | h
  · exact .inr ⟨_,jf,h⟩
  · exact .inl (jb.2 (.inl h))
  · rcases ih h with h | ⟨b, hb, h⟩
    · exact .inl (jb.2 (.inr h))
    · exact .inr ⟨b,je _ hb,h⟩
theorem qyg {bs:List (Nat×List It)} {b:Nat×List It} (h:b∈bs):(b.1,(.box (b.2.map It.nv),some b.1))∈bens bs:=by
 induction bs with
 | nil=>simp at h
 | cons q bs ih =>
  obtain⟨k,its⟩:=q;simp only[bens,j9,jb];rcases j9.1 h with rfl | h
  · exact .inl rfl
  · exact .inr (.inr (ih h))
theorem qvW {bs:List (Nat×List It)} {e:Nat×(Ob×Option Nat)} (h:e∈ens (bits bs)):e∈bens bs:=by
 induction bs with
 | nil=>simp [bits,ens] at h
 | cons q bs ih =>
  obtain⟨k,its⟩:=q;have eb:ens (bits ((k,its)::bs))=ens its++ens (bits bs):=by simp [bits,qnA]
  rw[eb] at h;simp only[bens,j9,jb];rcases jb.1 h with h | h
  · exact .inr (.inl h)
  · exact .inr (.inr (ih h))
theorem qhZ {bs:List Nat}:∀ {l:List (Nat×SH)},qvv bs l=true->∀ {n k i off:Nat},(n,SH.p k i off)∈l->k∈bs
 | (m,.p k' i' off')::r,h,n,k,i,off,hm=>by
  simp only[qvv,jg] at h;rcases j9.1 hm with e | hm
  · injection e with _ e;injection e with e _ _;subst e;exact qlC.1 h.1
  · exact qhZ h.2 hm
 | (m,.h)::r,h,n,k,i,off,hm=>by
  rcases j9.1 hm with e | hm
  · injection e with _ e;cases e
  · exact qhZ (l:=r) h hm
 | (m,.v t)::r,h,n,k,i,off,hm=>by
  rcases j9.1 hm with e | hm
  · injection e with _ e;cases e
  · exact qhZ (l:=r) h hm
 | (m,.o t q)::r,h,n,k,i,off,hm=>by
  rcases j9.1 hm with e | hm
  · injection e with _ e;cases e
  · exact qhZ (l:=r) h hm
 | (m,.l t q)::r,h,n,k,i,off,hm=>by
  rcases j9.1 hm with e | hm
  · injection e with _ e;cases e
  · exact qhZ (l:=r) h hm
 | (m,.f t q)::r,h,n,k,i,off,hm=>by
  rcases j9.1 hm with e | hm
  · injection e with _ e;cases e
  · exact qhZ (l:=r) h hm
theorem qgG {bs:List Nat}:∀ {l:List SH},qrX bs l=true->∀ {k i off:Nat},SH.p k i off∈l->k∈bs
 | .p k' i' off'::r,h,k,i,off,hm=>by
  simp only[qrX,jg] at h;rcases j9.1 hm with e | hm
  · injection e with e _ _;subst e;exact qlC.1 h.1
  · exact qgG h.2 hm
 | .h::r,h,k,i,off,hm=>by
  rcases j9.1 hm with e | hm
  · cases e
  · exact qgG (l:=r) h hm
 | .v t::r,h,k,i,off,hm=>by
  rcases j9.1 hm with e | hm
  · cases e
  · exact qgG (l:=r) h hm
 | .o t q::r,h,k,i,off,hm=>by
  rcases j9.1 hm with e | hm
  · cases e
  · exact qgG (l:=r) h hm
 | .l t q::r,h,k,i,off,hm=>by
  rcases j9.1 hm with e | hm
  · cases e
  · exact qgG (l:=r) h hm
 | .f t q::r,h,k,i,off,hm=>by
  rcases j9.1 hm with e | hm
  · cases e
  · exact qgG (l:=r) h hm
theorem qrY {bs:List Nat}:∀ {l:List (Nat×List SH)},qub bs l=true->∀ {q:Nat×List SH} {k i off:Nat},q∈l->SH.p k i off∈q.2->k∈bs
 | (m,sl)::r,h,q,k,i,off,hm,hq=>by
  simp only[qub,jg] at h;rcases j9.1 hm with rfl | hm
  · exact qgG h.1 hq
  · exact qrY h.2 hm hq
theorem qEh {l:List (Nat×SH)} {its:List It} {Rr:Nat×SH->It->Prop} (h:All2 Rr l its) {n:Nat} {pv:PV} (hm:(n,pv)∈jU (fun p (it:It)=>(p.1,it.nv)) l its) :
  ∃ p it,p∈l/\it∈its/\Rr p it/\n=p.1/\pv=it.nv:=by
 induction l generalizing its with
 | nil=>simp at hm
 | cons p l ih =>
  cases its with
  | nil=>exact h.elim
  | cons it its =>
   simp only[jv,j9] at hm;rcases hm with hm | hm
   · injection hm with e1 e2;exact⟨p,it,jf,jf,h.1,e1,e2⟩
   · obtain ⟨p', it', a1, a2, a3⟩ := ih h.2 hm;exact⟨p',it',je _ a1,je _ a2,a3⟩
theorem qFE {α:Type} (xs:List α) (len:Option Nat):(win xs 0 len).length<=xs.length:=by
 cases len<;>simp [win];omega
theorem qzU {B:Base} {w:World} {S:Foot} {J:Con} {s:St} {a:Act} (R:Rel T B w S J s a) {g:SG} {v:g.V} (h:qBU g s=some v):∃ S' J',Rel T B w S' J' (mkS0 g v) a /\
   (∀ (K:Nat) (l l':List PV) (i:Nat) (pv nv:PV),get s.h K=some (.box l)->get (mkS0 g v).h K=some (.box l')->l[i]?=some pv->l'[i]?=some nv->∀ u,TRel w S J (get s.h) pv u->TRel w S' J' (get (mkS0 g v).h) nv u) /\
   (∀ K∈qlO g.boxes,∀ u,qad w S J (get s.h) (.ptr K 0 0) u->qad w S' J' (get (mkS0 g v).h) (.ptr K 0 0) u) /\
   (∀ n t xs,get (mkS0 g v).h n=some (.rows t xs .lent)->get s.h n=some (.rows t xs .lent)/\∀ u,qad w S J (get s.h) (.osl n 0 none) u->qad w S' J' (get (mkS0 g v).h) (.osl n 0 none) u) /\
   ∀ n l,get (mkS0 g v).h n=some (.box l)->∃ l0,get s.h n=some (.box l0):=by
 unfold qBU at h;obtain⟨hok,h⟩:=q8q h;split at h
 · rename_i x used hx;split at h
   · rename_i y used' hy;injection h with h
     subst h;obtain⟨its,c1,c2,c3,c4,c5⟩:=qBV hx;obtain⟨bs,d1,d2,d3,d4,d5⟩:=qDv hy;simp only[SG.ok,jg] at hok;obtain⟨⟨⟨hdis,hp1⟩,hp2⟩,hdt⟩:=hok;have hI:=CanI.append c1 d1;obtain⟨k1,k2,_⟩:=hI.keys;have hmem:=hI.mem;obtain⟨S1,R1,hS1,hS1n,hdec⟩:=R.frz (hp:=get s.h) (fun _ _ h=>h) (dks (its++bits bs));generalize hE:ens its++bens bs=E;have hmk:(mkS0 g (x,y)).h=objs E:=by
       show(mkSl g.slots x).2++mkB g.boxes y=objs E;rw[c4,d2,<- hE,qjL]
     have hmke:(mkS0 g (x,y)).e=jU (fun p it=>(p.1,it.nv)) g.slots its:=c3;have hEn:(E.map (·.1)).Nodup:=by
       have e1:E.map (·.1)=qac (objs E):=by simp [qac,objs]
       rw[e1,<- hmk];show(qac ((mkSl g.slots x).2++mkB g.boxes y)).Nodup;have:qac ((mkSl g.slots x).2++mkB g.boxes y)=qac (mkSl g.slots x).2++qac (mkB g.boxes y):=by simp [qac]
       rw[this,qjU,qyi];exact qoj hdis
     let J':Con:=fun n=>match get E n with | some (_,some k)=>J k | _=>none
     have hβ':∀ {n ob old},(n,(ob,old))∈E->J' n=(match old with | some k=>J k | none=>none):=by
       intro n ob old hm;simp only[J',qmK hEn hm];cases old<;>rfl
     have hg':∀ {n ob old},(n,(ob,old))∈E->get (mkS0 g (x,y)).h n=some ob:=by
       intro n ob old hm;rw[hmk,qys,qmK hEn hm];rfl
     have hEI:∀ {e},e∈ens (its++bits bs)->e∈E:=by
       intro e he;rw[qnA] at he;rw[<- hE];rcases jb.1 he with he | he
       · exact jb.2 (.inl he)
       · exact jb.2 (.inr (qvW he))
     have hIE:∀ {e},e∈E->e∈ens (its++bits bs)\/∃ b∈bs,e=(b.1,(.box (b.2.map It.nv),some b.1)):=by
       intro e he;rw[qnA];rw[<- hE] at he;rcases jb.1 he with he | he
       · exact .inl (jb.2 (.inl he))
       · exact(qDA he).imp (fun h=>jb.2 (.inr h)) id
     have hiten:∀ {it e},it∈its++bits bs->e∈it.en->e∈E:=fun h1 h2=>hEI (jD.2 ⟨_,h1,h2⟩)
     have hent:∀ {n ob old},(n,(ob,old))∈E->(∃ e,ob=.rows e [] .own/\old=none) \/
         (∃ k e ys len,ob=.rows e (win ys 0 len) .own/\old=some k/\get s.h k=some (.rows e ys .own)/\k∈oks (its++bits bs)/\(n,(ob,old))∈ens (its++bits bs)) \/
         (∃ e ys,ob=.rows e ys .lent/\old=some n/\get s.h n=some (.rows e ys .lent)/\n∈oks (its++bits bs)/\(n,(ob,old))∈ens (its++bits bs)) \/
         (∃ l:List It,ob=.box (l.map It.nv)/\old=some n/\get s.h n=some (.box (l.map It.pv))/\(∀ it∈l,it∈its++bits bs)/\∀ it∈l,∀ q,it.nv≠.agg q):=by
       intro n ob old hm;rcases hIE hm with hm | ⟨b,hb,e⟩
       · obtain ⟨it, hit, he⟩ := jD.1 hm;obtain⟨u,u',hc⟩:=hmem it hit;have hko:∀ k,old=some k->k∈oks (its++bits bs):=fun k hk=>jD.2 ⟨it,hit,ke.2 ⟨_,he,hk⟩⟩
         cases hc with
         | v _ _ _=>simp at he
         | p=>simp at he
         | h=>simp at he
         | nil=>simp only[jJ,jn] at he;obtain⟨rfl,rfl,rfl⟩:=he;exact .inl ⟨_,rfl,rfl⟩
         | o g1 g2=>simp only[jJ,jn] at he;obtain⟨rfl,rfl,rfl⟩:=he;exact .inr (.inl ⟨_,_,_,_,rfl,rfl,g2,hko _ rfl,hm⟩)
         | l g1 g2=>simp only[jJ,jn] at he;obtain⟨rfl,rfl,rfl⟩:=he;exact .inr (.inr (.inl ⟨_,_,rfl,rfl,g2,hko _ rfl,hm⟩))
         | fl g1 g2=>simp only[jJ,jn] at he;obtain⟨rfl,rfl,rfl⟩:=he;exact .inr (.inr (.inl ⟨_,_,rfl,rfl,g2,hko _ rfl,hm⟩))
       · simp only [jn] at e;obtain⟨rfl,rfl,rfl⟩:=e;exact .inr (.inr (.inr ⟨b.2,rfl,rfl,(d3 b hb).1,fun it hit=>jb.2 (.inr (jD.2 ⟨b,hb,hit⟩)),(d3 b hb).2⟩))
     have hrk:∀ {k},k∈oks (its++bits bs)->get (frzW (get s.h) (dks (its++bits bs))++s.h) k=get s.h k:=by
       intro k hk;rw[q2q,qmL (k2 k hk).2];rfl
     have hbk:∀ {n l},get s.h n=some (.box l)->get (frzW (get s.h) (dks (its++bits bs))++s.h) n=some (.box l):=by
       intro n l hn;rw[q2q];cases hq:get (frzW (get s.h) (dks (its++bits bs))) n with
       | none=>simpa using hn
       | some ob' =>
         obtain⟨ob,q1,q2⟩:=qhm hq;rw[hn] at q1;injection q1 with q1;subst q1;subst q2;rfl
     have hval:∀ {it:It} {u:Value},it∈its++bits bs->TRel w S J (get s.h) it.pv u->TRel w S1 J' (get (mkS0 g (x,y)).h) it.nv u:=by
       intro it u hit hu;obtain⟨u1,u2,hc⟩:=hmem it hit;cases hc with
       | @v t pv x0 g1 g2 g3 =>
         exact(qxF g3 g2 hu fun vs hvs=>hdec _ vs t x0 (fun k hk=>jD.2 ⟨_,hit,hk⟩) hvs g3).up
       | @nil e key =>
         have hm:=hiten hit jf;have:qad w S1 J' (get (mkS0 g (x,y)).h) (.osl key 0 none) u:=by
           simp only[qad,hg' hm];have hu:u=.slice none 0 0:=hu;exact⟨by simp [qiV],by simp only[OslV,hβ' hm];exact⟨trivial,by simp [wlen],hu⟩⟩
         exact this.up
       | @o e key k len ys g1 g2 =>
         have hm:=hiten hit jf;have hu0:qad w S J (get s.h) (.osl k 0 len) u:=hu;simp only[qad,g2] at hu0;obtain⟨hw,hu0⟩:=hu0;have hwl:=qb0 hw;have:qad w S1 J' (get (mkS0 g (x,y)).h) (.osl key 0 none) u:=by
           simp only[qad,hg' hm];refine⟨by simp [qiV],?_⟩;simp only[OslV,hβ' hm] at hu0 ⊢;cases hb:J k with
           | none=>rw[hb] at hu0;simp only at hu0 ⊢;exact⟨trivial,by simp [wlen,hwl];exact hu0.2.1,hu0.2.2⟩
           | some p =>
             obtain⟨b,o⟩:=p;rw[hb] at hu0;simp only at hu0 ⊢;obtain⟨x0,cap,q1,q2,q3,q4⟩:=hu0;exact⟨x0,cap,by rw[q1];simp [wlen,hwl],by simp [wlen,hwl];exact q2,q3,q4⟩
         exact this.up
       | @l e key ys g1 g2 =>
         have hm:=hiten hit jf;have hu0:qad w S J (get s.h) (.osl key 0 none) u:=hu;simp only[qad,g2] at hu0;have:qad w S1 J' (get (mkS0 g (x,y)).h) (.osl key 0 none) u:=by
           simp only[qad,hg' hm,hβ' hm];exact hu0
         exact this.up
       | @fl e key ys g1 g2 =>
         have hm:=hiten hit jf;have hu0:qad w S J (get s.h) (.fx key) u:=hu;simp only[qad,g2] at hu0;have:qad w S1 J' (get (mkS0 g (x,y)).h) (.fx key) u:=by
           simp only[qad,hg' hm,hβ' hm];exact hu0
         exact this.up
       | h=>trivial
       | @p k i off =>
         have hkb:k∈qlO g.boxes:=by
           rcases jb.1 hit with hit | hit
           · obtain ⟨n, hn⟩ := c5 _ hit k i off rfl;exact qhZ hp1 hn
           · obtain ⟨q, q1, q2⟩ := d5 _ hit k i off rfl;exact qrY hp2 q1 q2
         rw[<- d4] at hkb;obtain⟨b,hb,rfl⟩:=jk.1 hkb;have hm:(b.1,(Ob.box (b.2.map It.nv),some b.1))∈E:=by rw[<- hE];exact jb.2 (.inr (qyg hb))
         have hu0:qad w S J (get s.h) (.ptr b.1 i off) u:=hu;simp only[qad,(d3 b hb).1] at hu0;have:qad w S1 J' (get (mkS0 g (x,y)).h) (.ptr b.1 i off) u:=by
           simp only[qad,hg' hm,hβ' hm];exact hu0
         exact this.up
     have hobm:∀ {n ob},get (mkS0 g (x,y)).h n=some ob->∃ old,(n,(ob,old))∈E:=by
       intro n ob hn;rw[hmk,qys] at hn;cases hq:get E n with
       | none=>rw[hq] at hn;cases hn
       | some p =>
         obtain⟨ob',old⟩:=p;rw[hq] at hn;simp only[jr] at hn;injection hn with hn
         subst hn;exact⟨old,qbn hq⟩
     have hptr:∀ K∈qlO g.boxes,∀ u,qad w S J (get s.h) (.ptr K 0 0) u->qad w S1 J' (get (mkS0 g (x,y)).h) (.ptr K 0 0) u:=by
       intro K hkb u hu0;rw[<- d4] at hkb;obtain⟨b,hb,rfl⟩:=jk.1 hkb;have hm:(b.1,(Ob.box (b.2.map It.nv),some b.1))∈E:=by rw[<- hE];exact jb.2 (.inr (qyg hb))
       simp only[qad,(d3 b hb).1] at hu0;simp only[qad,hg' hm,hβ' hm];exact hu0
     have hbox0:∀ {it:It},it∈its++bits bs->(∀ q,it.nv≠.tup q)/\∀ f q,it.nv≠.clo f q:=by
       intro it hit;obtain⟨u1,u2,hc⟩:=hmem it hit;cases hc with
       | @v t pv x0 _ _ _=>constructor<;>intros<;>cases t<;>simp [toPV]
       | nil=>constructor<;>intros<;>simp
       | o _ _=>constructor<;>intros<;>simp
       | l _ _=>constructor<;>intros<;>simp
       | fl _ _=>constructor<;>intros<;>simp
       | p=>constructor<;>intros<;>simp
       | h=>constructor<;>intros<;>simp
     have hlold:∀ {n ob b o},get (mkS0 g (x,y)).h n=some ob->ob.live=true->J' n=some (b,o)->∃ k0 ob0,get s.h k0=some ob0/\ob0.live=true/\J k0=some (b,o)/\get (frzW (get s.h) (dks (its++bits bs))++s.h) k0=some ob0 /\
         ((∃ ob',(n,(ob',some k0))∈ens (its++bits bs)/\∃ t xs m,ob0=.rows t xs m)\/(n=k0/\∃ l,ob0=.box l))/\((∀ t xs,ob≠.rows t xs .lent)->∀ t xs,ob0≠.rows t xs .lent):=by
       intro n ob b o hn hl hb;obtain⟨old,hm⟩:=hobm hn;rw[hβ' hm] at hb;rcases hent hm with ⟨e,rfl,rfl⟩ | ⟨k,e,ys,len,rfl,rfl,h1,h2,h3⟩ | ⟨e,ys,rfl,rfl,h1,h2,h3⟩ | ⟨l,rfl,rfl,h1,h2,h3⟩
       · cases hb
       · exact⟨k,_,h1,rfl,hb,by rw[hrk h2];exact h1,.inl ⟨_,h3,_,_,_,rfl⟩,fun _ t xs e=>by cases e⟩
       · exact⟨n,_,h1,rfl,hb,by rw[hrk h2];exact h1,.inl ⟨_,h3,_,_,_,rfl⟩,fun hq t xs e=>hq _ _ rfl⟩
       · exact⟨n,_,h1,rfl,hb,hbk h1,.inr ⟨rfl,_,rfl⟩,fun _ t xs e=>by cases e⟩
     refine⟨S1,J',⟨R.defers,R.size,fun n pv hn=>?_,fun n ob hn=>?_,?_,R1.Slt,R1.S0,R1.Snew,R.olds,R.grow,R.lent,fun n t xs hn=>?_,R.told,R.toldS,R.ltinj,fun n ob b o hn hl hnl hb=>?_,R.calm,fun n l hn=>?_,?_,R.pbn⟩,fun K l l' i pv nv hK hK' hi hi' u hu=>?_,hptr,fun n t xs hn=>?_,fun n l hn=>?_⟩
     · have hn := qbn hn;rw[hmke] at hn;obtain⟨p,it,q1,q2,q3,rfl,rfl⟩:=qEh c2 hn;obtain⟨⟨q3,_⟩,q3h⟩:=q3;have hit:it∈its++bits bs:=jb.2 (.inl q2);cases he:get s.e p.1 with
       | none =>
         rw[he] at q3;simp only[Option.getD_none] at q3;obtain⟨u1,u2,hc⟩:=hmem it hit;cases hc with
         | v g1 g2 g3=>simp only at q3;subst q3;exact absurd g3 qwl
         | nil=>cases q3
         | o _ _=>cases q3
         | l _ _=>cases q3
         | fl _ _=>cases q3
         | p=>cases q3
         | h=>exact absurd rfl q3h
       | some pv0 =>
         rw[he] at q3;simp only[jZ] at q3;obtain⟨u,hu1,hu2⟩:=R.tmps p.1 pv0 he;exact⟨u,hu1,hval hit (by rw[q3];exact hu2)⟩
     · obtain ⟨old, hm⟩ := hobm hn;rcases hent hm with ⟨e,rfl,rfl⟩ | ⟨k,e,ys,len,rfl,rfl,h1,h2,h3⟩ | ⟨e,ys,rfl,rfl,h1,h2,h3⟩ | ⟨l,rfl,rfl,h1,h2,h3⟩
       · simp only[ORel,hβ' hm]
       · have hob := R.obs k _ h1;simp only[ORel,hβ' hm] at hob ⊢;cases hb:J k with
         | none=>rw[hb] at hob;simp only at hob ⊢;subst hob;cases len<;>simp [win]
         | some p =>
           obtain⟨b,o⟩:=p;rw[hb] at hob;simp only at hob ⊢;obtain⟨⟨c,q1,q2⟩,q3,q4,q5,q6⟩:=hob;have hle:=jN e.size (qFE ys len);refine⟨⟨c,q1,by omega⟩,fun i z hz=>?_,by simp,fun _=>R1.liveS (by rw[hrk h2];exact h1) rfl hb,q6⟩;obtain⟨ds,e1,e2⟩:=q3 i z (by have:=qk9 hz;rwa [jm] at this)
           exact⟨ds,e1.mono hS1 (fun _ _=>rfl),e2⟩
       · have hob := R.obs n _ h1;simp only[ORel,hβ' hm] at hob ⊢;cases hb:J n with
         | none=>rw[hb] at hob;exact hob
         | some p =>
           obtain⟨b,o⟩:=p;rw[hb] at hob;simp only at hob ⊢;obtain⟨q1,q3,q4,q5,q6⟩:=hob;exact⟨q1,q3.mono hS1 (fun _ _=>rfl) rfl,by simp,fun _=>R1.liveS (by rw[hrk h2];exact h1) rfl hb,q6⟩
       · obtain ⟨b, c, q1, q2, q3, q4, q5⟩ := R.obs n _ h1;have hlv:=R1.liveS (hbk h1) rfl q1;refine⟨b,c,by rw[hβ' hm];exact q1,q2,?_,hlv.1,hlv.2⟩;have:∀ {l:List It} {us:List Value},(∀ it∈l,it∈its++bits bs)->(∀ it∈l,∀ q,it.nv≠.agg q)->All2 (qad w S J (get s.h)) (l.map It.pv) us->All2 (qad w S1 J' (get (mkS0 g (x,y)).h)) (l.map It.nv) us:=by
           intro l
           induction l with
           | nil =>
             intro us _ _ h;cases us with
             | nil=>trivial
             | cons _ _=>exact h.elim
           | cons it l ih =>
             intro us g1 g2 g3;cases us with
             | nil=>exact g3.elim
             | cons u us =>
              have hit:=g1 it jf;exact⟨(hval hit g3.1.up).down (g2 it jf) (hbox0 hit).1 (hbox0 hit).2,ih (fun i hi=>g1 i (je _ hi)) (fun i hi=>g2 i (je _ hi)) g3.2⟩
         exact this h2 h3 q3
     · intro n n' ob ob' b o o' hn hl hn' hl' hb hb';obtain⟨k0,ob0,e1,e2,e3,_,e4,_⟩:=hlold hn hl hb;obtain⟨k0',ob0',e1',e2',e3',_,e4',_⟩:=hlold hn' hl' hb';have:=R.inj k0 k0' ob0 ob0' b o o' e1 e2 e1' e2' e3 e3';subst this;rw[e1] at e1';injection e1' with e1'
       subst e1';rcases e4 with ⟨o1,m1,t,xs,m,r1⟩ | ⟨rfl,l,r1⟩
       · rcases e4' with ⟨o2, m2, _⟩ | ⟨rfl, l, r2⟩
         · exact qms (by rw[<- qDZ];exact k1) m1 m2
         · rw[r1] at r2;cases r2
       · rcases e4' with ⟨o2, m2, t, xs, m, r2⟩ | ⟨rfl, l', r2⟩
         · rw[r1] at r2;cases r2
         · rfl
     · obtain ⟨old, hm⟩ := hobm hn;rcases hent hm with ⟨e,h0,_⟩ | ⟨k,e,ys,len,h0,_⟩ | ⟨e,ys,h0,rfl,h1,h2,h3⟩ | ⟨l,h0,_⟩
       · cases h0
       · cases h0
       · rw [hβ' hm];injection h0 with e1 e2 e3
         subst e1;have e2:=eq_of_heq e2;subst e2;exact R.lentk n t xs h1
       · cases h0
     · obtain ⟨k0, ob0, e1, e2, e3, _, _, e5⟩ := hlold hn hl hb;exact R.sep k0 ob0 b o e1 e2 (e5 hnl) e3
     · obtain ⟨old, hm⟩ := hobm hn;rcases hent hm with ⟨e,h0,_⟩ | ⟨k,e,ys,len,h0,_⟩ | ⟨e,ys,h0,rfl,h1,h2,h3⟩ | ⟨l',h0,rfl,h1,h2,h3⟩
       · cases h0
       · cases h0
       · cases h0
       · injection h0 with h0
         subst h0;refine(R.boxk n _ h1).turn (hβ' hm) fun p i v _ hi hv=>⟨?_,rfl⟩
         rw[jz] at hi ⊢;cases hq:l'[i]? with
         | none=>rw[hq] at hi;cases hi
         | some it =>
           rw[hq] at hi;simp only[jr,js] at hi;obtain⟨u1,u2,hc⟩:=hmem it (h2 it (jK hq));rw[<- hi] at hv;cases hc with
           | @v t pv x0 _ _ _=>rw[show PV.stays (It.nv ⟨pv,toPV t x0,[],qak pv.cells⟩)=PV.stays (toPV t x0) from rfl,qti] at hv;cases hv
           | nil=>cases hv
           | o _ _=>cases hv
           | l _ _=>cases hv
           | p=>cases hv
           | h=>exact⟨_,rfl,rfl⟩
           | fl _ _=>exact⟨_,rfl,rfl⟩
     · obtain ⟨O, D⟩ := R1.deep;have hsrc:∀ {n:Nat} {b:Nat},b∈(match get E n with | some (.rows _ _ .own,some k)=>O k | _=>[])->∃ k t xs,(n,(Ob.rows t xs .own,some k))∈E/\b∈O k:=by
         intro n b hb;split at hb
         · rename_i t xs k hq;exact⟨k,t,xs,qbn hq,hb⟩
         · simp at hb
       refine⟨fun n=>match get E n with | some (.rows _ _ .own,some k)=>O k | _=>[],fun n t xs b o hn hb=>?_,fun n b hb=>?_,fun n n' b hb hb'=>?_⟩
       · obtain ⟨old, hm⟩ := hobm hn;rcases hent hm with ⟨e,h0,h00⟩ | ⟨k,e,ys,len,h0,h00,h1,h2,h3⟩ | ⟨e,ys,h0,_⟩ | ⟨l,h0,_⟩
         · injection h0 with e1 e2
           subst e1;have e2:=eq_of_heq e2;subst e2;exact .inr ⟨[],rfl,kd,fun b hb=>by simp at hb,fun i x Fi hx=>by simp at hx⟩
         · injection h0 with e1 e2
           subst e1;have e2:=eq_of_heq e2;subst e2;subst h00;rw[hβ' hm] at hb;have:=(D.row k t ys b o (by rw[hrk h2];exact h1) hb).win len;rw[qmK hEn hm];exact this
         · cases h0
         · cases h0
       · obtain ⟨k, t, xs, hm, hb⟩ := hsrc hb;obtain⟨a1,a2,a3,a4,a5⟩:=D.off k b hb;refine⟨a1,a2,a3,fun n' ob o hn' hl hb'=>?_,a5⟩;obtain⟨k0,ob0,_,e2,e3,e4,_,_⟩:=hlold hn' hl hb';exact a4 k0 ob0 o e4 e2 e3
       · obtain ⟨k, t, xs, hm, hb⟩ := hsrc hb;obtain⟨k',t',xs',hm',hb'⟩:=hsrc hb';have:=D.one k k' b hb hb';subst this;have hen:∀ {n:Nat} {t:Ty} {xs:List t.den},(n,(Ob.rows t xs .own,some k))∈E->∃ ob',(n,(ob',some k))∈ens (its++bits bs):=by
           intro n t xs hm;rcases hIE hm with hm | ⟨b,_,e⟩
           · exact⟨_,hm⟩
           · simp only [jn] at e;obtain⟨_,e,_⟩:=e;cases e
         obtain⟨o1,m1⟩:=hen hm;obtain⟨o2,m2⟩:=hen hm';exact qms (by rw[<- qDZ];exact k1) m1 m2
     · obtain ⟨old, hm⟩ := hobm hK';rcases hent hm with ⟨e,h0,_⟩ | ⟨k,e,ys,len,h0,_⟩ | ⟨e,ys,h0,rfl,h1,h2,h3⟩ | ⟨l0,h0,rfl,h1,h2,h3⟩
       · cases h0
       · cases h0
       · cases h0
       · injection h0 with h0
         subst h0;rw[hK] at h1;injection h1 with h1
         injection h1 with h1
         subst h1;rw[jz] at hi hi';cases hq:l0[i]? with
         | none=>rw[hq] at hi;cases hi
         | some it =>
           rw[hq] at hi hi';simp only[jr,js] at hi hi';subst hi;subst hi';exact hval (h2 it (jK hq)) hu
     · obtain ⟨old, hm⟩ := hobm hn;rcases hent hm with ⟨e,h0,_⟩ | ⟨k,e,ys,len,h0,_⟩ | ⟨e,ys,h0,rfl,h1,h2,h3⟩ | ⟨l0,h0,rfl,h1,h2,h3⟩
       · cases h0
       · cases h0
       · rw [<- h0] at h1;refine⟨h1,fun u hu=>?_⟩;simp only[qad,h1] at hu;simp only[qad,hn,hβ' hm];exact hu
       · cases h0
     · obtain ⟨old, hm⟩ := hobm hn;rcases hent hm with ⟨e,h0,_⟩ | ⟨k,e,ys,len,h0,_⟩ | ⟨e,ys,h0,rfl,h1,h2,h3⟩ | ⟨l0,h0,rfl,h1,h2,h3⟩
       · cases h0
       · cases h0
       · cases h0
       · exact⟨_,h1⟩
   · cases h
 · cases h
theorem qy0 {p q:PV} (h:qtY p q=true):∃ k,p=.osl k 0 none/\q=.osl k 0 none:=by
 unfold qtY at h;split at h
 · rename_i k k';exact⟨k,rfl,by rw[jh h]⟩
 · cases h
theorem qyJ {s:St}:∀ {l:List (Nat×(Nat×Nat))},alOk s l=true->∀ {n K i:Nat},(n,(K,i))∈l->qtY ((get s.e n).getD .junk) (qtC (get s.h) K i)=true
 | (m,(K',i'))::r,h,n,K,i,hm=>by
  simp only[alOk,jg] at h;rcases j9.1 hm with e | hm
  · injection e with e1 e2
    injection e2 with e2 e3
    subst e1;subst e2;subst e3;exact h.1
  · exact qyJ h.2 hm
theorem qB6 {h:Hp}:∀ {l:List (Nat×(Nat×Nat))} {n:Nat} {pv:PV},get (alS h l) n=some pv->∃ K i,(n,(K,i))∈l/\pv=qtC h K i
 | [],n,pv,hg=>by simp [alS,get] at hg
 | (m,(K,i))::r,n,pv,hg=>by
  rw[alS,q6q] at hg;split at hg
  · rename_i e;subst e;injection hg with hg
    exact⟨K,i,jf,hg.symm⟩
  · obtain ⟨K', i', h1, h2⟩ := qB6 hg;exact⟨K',i',je _ h1,h2⟩
theorem qsI {h:Hp} {K i:Nat} {pv:PV} (hc:qtC h K i=pv) (hp:pv≠.junk):(∃ l,h K=some (.box l)/\l[i]?=some pv)\/∃ t xs,h K=some (.rows t xs .lent)/\pv=.osl K 0 none:=by
 unfold qtC at hc;split at hc
 · rename_i l hl;refine .inl ⟨l,hl,?_⟩;cases hq:l[i]? with
   | none=>rw[hq] at hc;exact absurd hc.symm hp
   | some q=>rw[hq] at hc;simp at hc;rw[hc]
 · rename_i t xs hl;exact .inr ⟨t,xs,hl,hc.symm⟩
 · exact absurd hc.symm hp
theorem qrL:∀ {ks:List Nat} {l:List PV},qrf ks l=true->l=ks.map fun k=>.ptr k 0 0
 | [],[],_=>rfl
 | [],_::_,h=>by cases h
 | _::_,[],h=>by cases h
 | k::ks,v::vs,h=>by
  simp only[qrf,jg] at h;rw[qpY h.1,qrL h.2];rfl
theorem qy1 {f:FuncId} {ks:List Nat} {v:PV} (h:qwN f ks v=true):v=.clo f (ks.map fun k=>.ptr k 0 0):=by
 unfold qwN at h;split at h
 · simp only [jg] at h;rw[jh h.1,qrL h.2]
 · cases h
theorem qwr {s:St} {bs:List Nat}:∀ {l:List (Nat×(FuncId×List Nat))},qDt s bs l=true->∀ {n:Nat} {f:FuncId} {ks:List Nat},(n,(f,ks))∈l->(get s.e n).getD .junk=.clo f (ks.map fun k=>.ptr k 0 0)/\∀ k∈ks,k∈bs
 | (m,(f',ks'))::r,h,n,f,ks,hm=>by
  simp only[qDt,jg] at h;rcases j9.1 hm with e | hm
  · injection e with e1 e2
    injection e2 with e2 e3
    subst e1;subst e2;subst e3;exact⟨qy1 h.1.1,qxW.1 h.1.2⟩
  · exact qwr h.2 hm
theorem qBS:∀ {l:List (Nat×(FuncId×List Nat))} {n:Nat} {pv:PV},get (clS l) n=some pv->∃ f ks,(n,(f,ks))∈l/\pv=.clo f (ks.map fun k=>.ptr k 0 0)
 | [],n,pv,hg=>by simp [clS,get] at hg
 | (m,(f,ks))::r,n,pv,hg=>by
  rw[clS,q6q] at hg;split at hg
  · rename_i e;subst e;injection hg with hg
    exact⟨f,ks,jf,hg.symm⟩
  · obtain ⟨f', ks', h1, h2⟩ := qBS hg;exact⟨f',ks',je _ h1,h2⟩
theorem qvu {w w':World} {S S':Foot} {J J':Con} {g g':Hp}:∀ {ks:List Nat} {us:List Value},(∀ k∈ks,∀ u,qad w S J g (.ptr k 0 0) u->qad w' S' J' g' (.ptr k 0 0) u)->All2 (qad w S J g) (ks.map fun k=>.ptr k 0 0) us->All2 (qad w' S' J' g') (ks.map fun k=>.ptr k 0 0) us
 | [],[],_,_=>trivial
 | [],_::_,_,h=>h.elim
 | _::_,[],_,h=>h.elim
 | k::ks,u::us,hk,h=>⟨hk k jf u h.1,qvu (fun k' h'=>hk k' (je _ h')) h.2⟩
theorem qpM {B:Base} {w:World} {S:Foot} {J:Con} {s:St} {a:Act} (R:Rel T B w S J s a) {g:SG} {v:g.V} (h:qzV g s=some v):∃ S' J',Rel T B w S' J' (mkS g v) a:=by
 unfold qzV at h;obtain⟨hal,h⟩:=q8q h;simp only[jg] at hal;obtain⟨hal,hcl⟩:=hal;obtain⟨S',J',R',hc,hp,hL,hB⟩:=qzU R h;refine⟨S',J',⟨R'.defers,R'.size,fun n pv hn=>?_,R'.obs,R'.inj,R'.Slt,R'.S0,R'.Snew,R'.olds,R'.grow,R'.lent,R'.lentk,R'.told,R'.toldS,R'.ltinj,R'.sep,R'.calm,R'.boxk,R'.deep,R'.pbn⟩⟩;have hn:get (clS g.cls++(alS (get (mkS0 g v).h) g.als++(mkS0 g v).e)) n=some pv:=hn;rw[q2q] at hn;cases hcq:get (clS g.cls) n with
 | some pc =>
  rw[hcq] at hn;have hn:=Option.some.inj hn;subst hn;obtain⟨f,ks,h1,rfl⟩:=qBS hcq;obtain⟨e1,hks⟩:=qwr hcl h1;cases he:get s.e n with
  | none=>rw[he] at e1;cases e1
  | some pv0 =>
   rw[he] at e1;have e1:pv0=_:=e1;subst e1;obtain⟨u,hu1,hu2⟩:=R.tmps n _ he;obtain⟨us,hu3,hu4⟩:=hu2;exact⟨u,hu1,us,hu3,qvu (fun k hk u hu=>hp k (hks k hk) u hu) hu4⟩
 | none =>
 rw[hcq] at hn;have hn:get (alS (get (mkS0 g v).h) g.als++(mkS0 g v).e) n=some pv:=hn;rw[q2q] at hn;cases hq:get (alS (get (mkS0 g v).h) g.als) n with
 | none=>rw[hq] at hn;exact R'.tmps n pv hn
 | some pv' =>
  rw[hq] at hn;injection hn with hn
  subst hn;obtain⟨K,i,h1,h2⟩:=qB6 hq;obtain⟨k,e1,e2⟩:=qy0 (qyJ hal h1);have hcs:=qsI e2 (by simp);cases he:get s.e n with
  | none=>rw[he] at e1;cases e1
  | some pv0 =>
   rw[he] at e1;have e1:pv0=.osl k 0 none:=e1;subst e1;obtain⟨u,hu1,hu2⟩:=R.tmps n _ he;refine⟨u,hu1,?_⟩;by_cases hj:pv'=.junk
   · rw[hj];trivial
   · rcases qsI h2.symm hj with ⟨l', hl', hli'⟩ | ⟨t, xs, hl', rfl⟩
     · obtain ⟨l0, hl0⟩ := hB K l' hl';rcases hcs with ⟨l,hl,hli⟩ | ⟨t,xs,hl,_⟩
       · exact hc K l l' i _ _ hl hl' hli hli' u hu2
       · rw[hl0] at hl;cases hl
     · obtain ⟨q1, q2⟩ := hL K t xs hl';rcases hcs with ⟨l,hl,hli⟩ | ⟨t,xs,hl,q3⟩
       · rw[q1] at hl;cases hl
       · injection q3 with q3 _ _
         subst q3;exact(q2 u hu2).up
end Go.Proofs.YtiefddjokkihdaaGreatDoor.X
