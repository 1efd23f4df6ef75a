/- Own work: part of the proof; the first line of each part says what it tells. -/
import Derived.Test.YtmabkjhobhbfdaaGreatDoorLb7
import Derived.Test.YtmabkjhobhbfdaaGreatDoorLb12


namespace Go.Proofs.YtmabkjhobhbfdaaGreatDoor.X
open Go
set_option linter.unusedVariables false
set_option linter.unusedSimpArgs false
theorem Blk.setCell {w:World} {b j:Nat} {c:Array Value} {v:Value} (h:Blk w b c):Blk (w.setCell ⟨b,j,none⟩ v) b (c.setIfInBounds j v):=by
 obtain⟨e,h⟩:=h;refine⟨e,?_⟩;have hlt:b<w.heap.size:=Blk.lt ⟨e,h⟩;simp only[World.setCell];rw[Array.getElem?_modify];simp [h]
theorem qgX (w:World) (b j b':Nat) (v:Value) (h:b'≠b):(w.setCell ⟨b,j,none⟩ v).heap[b']?=w.heap[b']?:=by
 simp only[World.setCell];rw[Array.getElem?_modify];rw[if_neg (fun e=>h e.symm)]
theorem qgW (w:World) (a:Addr) (v:Value):(w.setCell a v).heap.size=w.heap.size:=by simp [World.setCell]
theorem qgY (w:World) (b j:Nat) (v:Value):Calm w (w.setCell ⟨b,j,none⟩ v):=by
 refine⟨rfl,rfl,fun a=>?_⟩;simp only[World.frozen?,World.setCell];rw[Array.getElem?_modify];by_cases h:b=a.block
 · rw [if_pos h];cases hq:w.heap[a.block]? with
   | none=>rfl
   | some o=>cases o<;>rfl
 · rw[if_neg h]
theorem qwR (w:World):Calm w w.drew:=⟨rfl,rfl,fun _=>rfl⟩
theorem qtW {cs us:List Value} {q:List Nat} (h:WC [] cs us q):cs=[]/\us=[]/\q=[]:=by
 match cs,us,q,h with
 | [],[],[],_=>exact⟨rfl,rfl,rfl⟩
theorem wc_x {ks:List CK} {cs us:List Value} {q:List Nat} (h:WC (.x::ks) cs us q):∃ a cs' us',cs=a::cs'/\us=a::us'/\WC ks cs' us' q:=by
 match cs,us,h with
 | a::cs,v::us,h=>obtain⟨rfl,h⟩:=h;exact⟨_,_,_,rfl,rfl,h⟩
theorem wc_b {ks:List CK} {cs us:List Value} {q:List Nat} (h:WC (.b::ks) cs us q):∃ b cs' q',cs=.pointer (some ⟨b,0,none⟩)::cs'/\q=b::q'/\WC ks cs' us q':=by
 match cs,q,h with
 | a::cs,b::q,h=>obtain⟨rfl,h⟩:=h;exact⟨_,_,_,rfl,rfl,h⟩
theorem qyy {w:World} {bs:List Nat} {us:List Value} {q:List Nat} (h:WB w [] bs us q):bs=[]/\us=[]/\q=[]:=by
 match bs,us,q,h with
 | [],[],[],_=>exact⟨rfl,rfl,rfl⟩
theorem qsR {w:World} {ks:List CK} {bx:List (List CK)} {bs:List Nat} {us:List Value} {q:List Nat} (h:WB w (ks::bx) bs us q) :
  ∃ b bs' c v1 v2 q1 q2,bs=b::bs'/\Blk w b c/\us=v1++v2/\q=q1++q2/\WC ks c.toList v1 q1/\WB w bx bs' v2 q2:=by
 match bs,h with
 | b::bs,h =>
  obtain⟨c,v1,v2,q1,q2,h1,h2,h3,h4,h5⟩:=h;exact⟨b,bs,c,v1,v2,q1,q2,rfl,h1,h2,h3,h4,h5⟩
structure Done (T:Told) (w:World) (S:Foot) (b:Nat) (d' st':Int) (sm:Int) (fact':List WH) (w2:World):Prop where
 S2:∃ (S2:Foot) (y:Value),Blk w2 b #[.int .u32 d',.int .i32 st',.int .u32 sm,y]/\Cell w2 S2 (.sl tWH) fact' [y]/\(∀ b,S b->S2 b)/\(∀ b,S2 b->S b\/w.heap.size<=b)/\(∀ b,S2 b->b<w2.heap.size) /\
  ¬ S2 b/\¬ S2 (w.heap.size)/\¬ S2 (w.heap.size+1)
 same:∀ b',b'<w.heap.size->b'≠b->w2.heap[b']?=w.heap[b']?
 grow:w.heap.size+2<=w2.heap.size
 told:T.G w2
 calm:Calm w w2
 t0:Blk w2 w.heap.size #[.pointer (some ⟨b,0,none⟩)]
 t1:∃ y0 y1,Blk w2 (w.heap.size+1) #[y0,y1]
set_option maxRecDepth 100000 in
theorem qzO {T:Told} (h73:qaf T Tryz.prog 105 c105):qaf T Tryz.prog 78 c78:=by
 refine⟨⟨Tryz.f78,Tryz.func78,by kernel_rfl,by rfl⟩,?_,rfl⟩;show qys T Tryz.prog 78 c78 w78;rintro⟨n,d,st,sm,fact,⟨⟩⟩ r hF w S J ars us q sq E;obtain⟨r,rfl⟩:∃ r':WH×Int×Int×Int×List WH,r=r':=⟨r,rfl⟩;obtain⟨cs,u1,u2,hgv,rfl,hWC,hWB⟩:=E.a;have hgv:cs=ars:=hgv;subst hgv;obtain⟨b,as1,qa,rfl,rfl,h1⟩:=wc_b hWC;obtain⟨a1,as2,ua,rfl,rfl,h2⟩:=wc_x h1;obtain⟨rfl,rfl,rfl⟩:=qtW h2;obtain⟨b',bs',c,v1',v2',q1,q2,hbb,hc,rfl,rfl,h3,h4⟩:=qsR hWB;obtain⟨rfl,rfl,rfl⟩:=qyy h4;obtain⟨y0,cs0,us0,hcl,rfl,h5⟩:=wc_x h3;obtain⟨y1,cs1,us1,rfl,rfl,h6⟩:=wc_x h5;obtain⟨y2,cs2,us2,rfl,rfl,h7⟩:=wc_x h6;obtain⟨y3,cs3,us3,rfl,rfl,h8⟩:=wc_x h7;obtain⟨rfl,rfl,rfl⟩:=qtW h8;have hbb:b=b':=by simpa using hbb
 subst hbb;have hcc:c=#[y0,y1,y2,y3]:=by apply Array.toList_inj.1;simpa using hcl
 subst hcc;obtain⟨e1,e2,e3,e4,e5,-⟩:=E.enter.args;have e1:[a1]=[Value.int .i64 n]:=e1;have e2:[y0]=[Value.int .u32 d]:=e2;have e3:[y1]=[Value.int .i32 st]:=e3;have e4:[y2]=[Value.int .u32 sm]:=e4;injection e1 with e1;injection e2 with e2;injection e3 with e3;injection e4 with e4
 subst e1;subst e2;subst e3;subst e4;have e5:Cell w S (.sl tWH) fact [y3]:=e5;have hbS:¬ S b:=E.nS b (by simp);have hblt:=hc.lt;have hk0:∀ k b' o,J k≠some (b',o):=fun k b' o hb=>by
   rcases E.enter.dom k b' o hb with h | h<;>simp [c78,ownK,qdZ] at h
 obtain⟨wa,ewa⟩:∃ wa,wa=((w.alloc (.cells #[.pointer (some ⟨b,0,none⟩)] 82)).alloc (.cells #[.bool false,.slice none 0 0] 29)):=⟨_,rfl⟩;have hwas:wa.heap.size=w.heap.size+2:=by rw[ewa];simp
 have hwao:∀ b',b'<w.heap.size->wa.heap[b']?=w.heap[b']?:=fun b' hb'=>by
   rw[ewa,qgu (by simp;omega),qgu hb']
 have hwa0:Blk wa w.heap.size #[.pointer (some ⟨b,0,none⟩)]:=by
   rw[ewa];exact(qdm w _ _).mono (qgu (by simp))
 have hwa1:Blk wa (w.heap.size+1) #[.bool false,.slice none 0 0]:=by
   rw[ewa];have:=qdm (w.alloc (.cells #[.pointer (some ⟨b,0,none⟩)] 82)) #[.bool false,.slice none 0 0] 29;simpa using this
 have hwab:Blk wa b #[.int .u32 d,.int .i32 st,.int .u32 sm,y3]:=hc.mono (hwao b hblt);have hwac:Calm w wa:=by rw[ewa];exact(qfU w _ _).trans (qfU _ _ _)
 have hSs:∀ k,¬ S (w.heap.size+k):=fun k h=>by have:=E.enter.Slt _ h;omega
 have hSw:∀ b',S b'->wa.heap[b']?=w.heap[b']?:=fun b' hb'=>hwao b' (E.enter.Slt b' hb')
 have hF:qht n d st sm fact=some r:=hF;have core:∀ (d' st':Int) (fact':List WH) (x:WH),r=(x,d',st',sm,fact')->0<=n->fact'[n.toNat]?=some x ->
     (Calls Tryz.prog 104 #[.pointer (some ⟨b,0,none⟩),.func (.func 105) #[] #[.pointer (some ⟨w.heap.size,0,none⟩)]] wa fun e w'=>e=.returned (.tuple #[])/\Done T w S b d' st' sm fact' w') ->
     Calls Tryz.prog 78 #[.pointer (some ⟨b,0,none⟩),.int .i64 n] w fun e w'=>match e with
       | .returned v=>∃ S' ρ,qxc T w S J w78 c78.ps c78.rs (n,d,st,sm,fact,()) (c78.enc r) v [b] [] w' S' ρ
       | _=>False:=by
   intro d' st' fact' x hr hn0 hx hDo;rw[ewa] at hDo;refine(s_at b n w (Done T w S b d' st' sm fact') (fun w2 v0 v1=>∃ S2 y,Blk w2 b #[.int .u32 d',.int .i32 st',.int .u32 sm,y]/\Cell w2 S2 (.sl tWH) fact' [y]/\(∀ b,S b->S2 b)/\(∀ b,S2 b->S b\/w.heap.size<=b)/\(∀ b,S2 b->b<w2.heap.size)/\¬ S2 b/\¬ S2 w.heap.size/\¬ S2 (w.heap.size+1)/\Cell w2 S2 tWH x [v0,v1]) hDo (fun w2 D=>?_) (fun w2 D=>?_)).mono ?_
   · obtain ⟨S2, y, g1, g2, g3, g4, g5, g6, g7, g8⟩ := D.S2;refine⟨by rw[D.t0.cell];rfl,?_⟩;have g2':=g2;obtain⟨A,cap,hy,hcap,hrow⟩:=g2;have hy:y=.slice A fact'.length cap:=by simpa using hy
     rcases hrow with h | ⟨fb,fo,rfl,hfS,hrow⟩
     · have h : fact' = [] := h;rw[h] at hx;simp at hx
     · obtain ⟨ds, h1, h2⟩ := hrow n.toNat x hx;have h1':=h1;obtain⟨c1,c2,rfl,k1,k2⟩:=h1;have k1:c1=[.bool x.1]:=k1;obtain⟨A2,cap2,k2,_⟩:=k2;subst k1;have k2:c2=[.slice A2 x.2.length cap2]:=k2;subst k2;have hlt:=(List.getElem?_eq_some_iff.1 hx).1;refine⟨fb,fo,fact'.length,cap,x.1,A2,x.2.length,cap2,by rw[g1.cell];simp [hy],hn0,by omega,?_,?_,S2,y,g1,g2',g3,g4,g5,g6,g7,g8,h1'⟩
       · exact h2 0 _ rfl
       · exact h2 1 _ rfl
   · obtain ⟨y0, y1, ht1⟩ := D.t1;exact⟨⟨y0,by rw[ht1.cell];rfl⟩,⟨y1,by rw[ht1.cell];rfl⟩,ht1.frozen _ rfl,ht1.frozen _ rfl⟩
   · rintro e w' ⟨w2, v0, v1, ⟨D, S2, y, g1, g2, g3, g4, g5, g6, g7, g8, hcx⟩, rfl, rfl⟩;obtain⟨w3,ew3⟩:∃ w3,w3=(w2.setCell ⟨w.heap.size+1,0,none⟩ v0).setCell ⟨w.heap.size+1,1,none⟩ v1:=⟨_,rfl⟩;rw[<- ew3];have hs3:∀ b',b'≠w.heap.size+1->w3.heap[b']?=w2.heap[b']?:=fun b' hb'=>by
       rw[ew3,qgX _ _ _ _ _ hb',qgX _ _ _ _ _ hb']
     have hsz:w3.heap.size=w2.heap.size:=by rw[ew3,qgW,qgW]
     have hS3:∀ b',S2 b'->w3.heap[b']?=w2.heap[b']?:=fun b' hb'=>hs3 b' (fun e=>g8 (e ▸ hb'))
     have hgrow:=D.grow;refine⟨S2,fun _=>none,⟨g3,fun b' hb'=>(g4 b' hb').imp id .inl,fun b' hb'=>by rw[hsz];exact g5 b' hb',fun b' hb' _ hnm=>?_,by rw[hsz];omega,T.hG w2 w3 (fun b' hb'=>hS3 b' (g3 b' (E.enter.toldS b' hb'))) D.told,?_,trivial,?_,fun k k' b o o' h=>(by cases h),fun j b o h=>(by cases h),fun b' hb'=>?_,fun b' hb' j o h=>(by cases h),fun i cs b' h1 h2 j h3=>?_,fun h=>Bool.noConfusion (show true=false from h)⟩⟩
     · have hne : b' ≠ b := fun e => hnm (by simp [e])
       rw[hs3 b' (by omega)];exact D.same b' hb' hne
     · rw [ew3];exact D.calm.trans ((qgY _ _ _ _).trans (qgY _ _ _ _))
     · subst hr;refine⟨[.agg #[v0,v1]],[.int .u32 d',.int .i32 st',.int .u32 sm,y],[],⟨⟨[v0,v1],rfl,hcx.mono (fun _ h=>h) hS3⟩,rfl,rfl,rfl,g2.mono (fun _ h=>h) hS3,trivial⟩,rfl,?_,[.agg #[v0,v1]],[.agg #[v0,v1]],rfl,rfl,rfl,rfl⟩;exact⟨_,[.int .u32 d',.int .i32 st',.int .u32 sm,y],[],[],[],g1.mono (hs3 b (by omega)),rfl,rfl,⟨rfl,rfl,rfl,rfl,trivial⟩,trivial⟩
     · have : b' = b := by simpa using hb'
       rw[this];exact g6
     · exfalso
       match i,h1 with
       | 0, h1 =>
         obtain rfl:=Option.some.inj h1
         match j,h3 with
         | 0,h3=>rcases h3 with h | h<;>cases h
         | 1,h3=>rcases h3 with h | h<;>cases h
         | 2,h3=>rcases h3 with h | h<;>cases h
         | 3,h3=>rcases h3 with h | h<;>cases h
         | j+4,h3=>rcases h3 with h | h<;>cases h
       | i+1,h1=>cases h1
 unfold qht at hF;obtain⟨hn0,hF⟩:=q8q hF;have hn0:0<=n:=by simpa using hn0
 by_cases hd:d=0
 · subst hd;simp only[decide_true,cond_true] at hF;obtain⟨hst,hF⟩:=q8q hF;have hst:st=0:=by simpa using hst
   subst hst;cases hp:qd4 with
   | none=>rw[hp] at hF;cases hF
   | some p =>
     rw[hp] at hF;simp only[Option.bind_some] at hF;cases hx:p[n.toNat]? with
     | none=>rw[hx] at hF;cases hF
     | some x =>
       rw[hx] at hF;have hF:(x,(1:Int),(0:Int),sm,p)=r:=Option.some.inj hF;refine core 1 0 p x hF.symm hn0 hx ?_;have hl1:Blk (wa.setCell ⟨b,1,none⟩ (.int .i32 1)) b #[.int .u32 0,.int .i32 1,.int .u32 sm,y3]:=hwab.setCell;obtain⟨wl,ewl⟩:∃ wl,wl=wa.setCell ⟨b,1,none⟩ (.int .i32 1):=⟨_,rfl⟩;rw[<- ewl] at hl1;have hwlo:∀ b',b'≠b->wl.heap[b']?=wa.heap[b']?:=fun b' hb'=>by rw[ewl,qgX _ _ _ _ _ hb']
       have hwls:wl.heap.size=w.heap.size+2:=by rw[ewl,qgW,hwas]
       have hSl:∀ b',S b'->wl.heap[b']?=w.heap[b']?:=fun b' hb'=>by rw[hwlo b' (fun e=>hbS (e ▸ hb')),hSw b' hb']
       have hl0:Blk wl w.heap.size #[.pointer (some ⟨b,0,none⟩)]:=hwa0.mono (hwlo _ (by omega));have hl2:Blk wl (w.heap.size+1) #[.bool false,.slice none 0 0]:=hwa1.mono (hwlo _ (by omega));have h73:=h73.does;have h73:qys T Tryz.prog 105 c105 w105:=h73;have hF73:c105.F ((0:Int),(1:Int),sm,fact,())=some ((0:Int),(1:Int),sm,p):=by
         have h0:qeI 0 1 sm fact=some (0,1,sm,p):=by
           unfold qeI;rw[hp];rfl
         exact h0
       have hEB:quI T wl S (fun _=>none) w105 c105.ps ((0:Int),(1:Int),sm,fact,()) [.pointer (some ⟨w.heap.size,0,none⟩)] [.int .u32 0,.int .i32 1,.int .u32 sm,y3] [w.heap.size] [b]:=by
         refine⟨⟨[.pointer (some ⟨w.heap.size,0,none⟩)],[],[.int .u32 0,.int .i32 1,.int .u32 sm,y3],rfl,rfl,⟨rfl,trivial⟩,?_⟩,⟨⟨rfl,rfl,rfl,e5.mono (fun _ h=>h) hSl,trivial⟩,fun k b o h=>(by cases h),fun k k' b o o' h=>(by cases h),fun b' hb'=>by rw[hwls];have:=E.enter.Slt b' hb';omega,T.hG w wl (fun b' hb'=>hSl b' (E.enter.toldS b' hb')) E.enter.told,E.enter.toldS⟩,?_,fun b' hb'=>?_,fun b' hb' k o h=>(by cases h)⟩
         · exact⟨_,[],[.int .u32 0,.int .i32 1,.int .u32 sm,y3],[b],[],hl0,rfl,rfl,⟨rfl,trivial⟩,_,[.int .u32 0,.int .i32 1,.int .u32 sm,y3],[],[],[],hl1,by simp,rfl,⟨rfl,rfl,rfl,rfl,trivial⟩,trivial⟩
         · simp;omega
         · simp only [List.cons_append, List.nil_append, List.mem_cons, List.not_mem_nil, or_false] at hb';rcases hb' with rfl | rfl
           · exact hSs 0
           · exact hbS
       have hcall:=h73 _ _ hF73 wl S _ _ _ _ _ hEB
       let R:World->Prop:=fun w2=>∃ (S2:Foot) (y:Value),Blk w2 b #[.int .u32 0,.int .i32 1,.int .u32 sm,y]/\Cell w2 S2 (.sl tWH) p [y]/\(∀ b,S b->S2 b)/\(∀ b,S2 b->S b\/w.heap.size<=b)/\(∀ b,S2 b->b<w2.heap.size) /\
         ¬ S2 b/\¬ S2 w.heap.size/\¬ S2 (w.heap.size+1)/\(∀ b',b'<w.heap.size->b'≠b->w2.heap[b']?=w.heap[b']?)/\w.heap.size+2<=w2.heap.size/\T.G w2/\Calm w w2/\Blk w2 w.heap.size #[.pointer (some ⟨b,0,none⟩)]/\Blk w2 (w.heap.size+1) #[.bool false,.slice none 0 0]
       have hfz:∀ {w':World} {c:Array Value},Blk w' b c->∀ j,w'.frozen? ⟨b,j,none⟩=false:=fun h j=>h.frozen _ rfl
       refine(qy7 b ⟨w.heap.size,0,none⟩ wa R (by rw[hwab.cell];rfl) (by rw[hwab.cell];rfl) (hfz hwab 1) (fun w' hR=>?_) ?_).mono ?_
       · obtain ⟨S2, y, g, _⟩ := hR;exact⟨by rw[g.cell];rfl,by rw[g.cell];rfl,hfz g 0,hfz g 1⟩
       · rw [<- ewl];refine hcall.mono fun e w' he=>?_
         cases e with
         | panicked c=>exact he.elim
         | outgrown=>exact he.elim
         | returned v =>
           obtain⟨S',ρ,L⟩:=he;obtain⟨k1,k2,k3,hres,hk1,hwb,rvs,rcs,hv,hgv,hk3,hrc⟩:=L.res;have hk1:k1.length=0:=hk1;have hk1:k1=[]:=List.eq_nil_of_length_eq_zero hk1;subst hk1;have hrc:rcs=[]:=hrc;subst hrc;have hgv:[]=rvs:=hgv;subst hgv;subst hk3;refine⟨by rw[hv];rfl,?_⟩;obtain⟨p1,ps1,c1,v1,v2,q1,q2,hp1,hb1,rfl,hq,hw1,hwb2⟩:=qsR hwb;obtain⟨p2,ps2,c2,v3,v4,q3,q4,rfl,hb2,rfl,rfl,hw2,hwb3⟩:=qsR hwb2;obtain⟨rfl,rfl,rfl⟩:=qyy hwb3;obtain⟨bq,cs4,q5,hc1,rfl,hw3⟩:=wc_b hw1;obtain⟨rfl,rfl,rfl⟩:=qtW hw3;have hp1:w.heap.size=p1/\b=p2:=by simpa using hp1
           obtain⟨rfl,rfl⟩:=hp1;obtain⟨z0,cz0,uz0,hc2,rfl,h5⟩:=wc_x hw2;obtain⟨z1,cz1,uz1,rfl,rfl,h6⟩:=wc_x h5;obtain⟨z2,cz2,uz2,rfl,rfl,h7⟩:=wc_x h6;obtain⟨z3,cz3,uz3,rfl,rfl,h8⟩:=wc_x h7;obtain⟨rfl,rfl,rfl⟩:=qtW h8;have hbq:b=bq:=by simpa using hq
           subst hbq;have hc1:c1=#[.pointer (some ⟨b,0,none⟩)]:=by apply Array.toList_inj.1;simpa using hc1
           subst hc1;have hc2:c2=#[z0,z1,z2,z3]:=by apply Array.toList_inj.1;simpa using hc2
           subst hc2;obtain⟨r0,r1,r2,r3,-⟩:=hres;have r0:[z0]=[Value.int .u32 0]:=r0;have r1:[z1]=[Value.int .i32 1]:=r1;have r2:[z2]=[Value.int .u32 sm]:=r2;injection r0 with r0;injection r1 with r1;injection r2 with r2
           subst r0;subst r1;subst r2;have r3:Cell w' S' (.sl tWH) p [z3]:=r3;have hnone:∀ k o b',(fun _=>none:Con) k≠some (b',o):=fun k o b' h=>by cases h
           have hgr:=L.grow;have hsame:∀ b',b'<w.heap.size+2->b'≠b->b'≠w.heap.size->w'.heap[b']?=wl.heap[b']?:=fun b' h1 h2 h3=>L.same b' (by omega) (fun k o h=>by cases h) (by simp [h2,h3])
           refine⟨S',z3,hb2,r3,L.sub,fun b' hb'=>?_,L.Slt,L.nS b (by simp),L.nS w.heap.size (by simp),fun hs=>?_,fun b' h1 h2=>?_,by omega,L.told,?_,hb1,?_⟩
           · rcases L.fresh b' hb' with h | h | ⟨k, _, o, h⟩
             · exact .inl h
             · exact .inr (by omega)
             · cases h
           · rcases L.fresh _ hs with h | h | ⟨k, _, o, h⟩
             · exact hSs 1 h
             · omega
             · cases h
           · rw[hsame b' (by omega) h2 (by omega),hwlo b' h2,hwao b' h1]
           · refine hwac.trans (Calm.trans ?_ L.calm);rw[ewl];exact qgY _ _ _ _
           · exact hl2.mono (hsame _ (by omega) (by omega) (by omega))
       · rintro e w' ⟨rfl, w2, ⟨S2, y, g1, g2, g3, g4, g5, g6, g7, g8, g9, g10, g11, g12, g13, g14⟩, rfl⟩;refine⟨rfl,?_⟩;obtain⟨w3,ew3⟩:∃ w3,w3=(w2.drew.setCell ⟨b,0,none⟩ (.int .u32 1)).setCell ⟨b,1,none⟩ (.int .i32 0):=⟨_,rfl⟩;rw[<- ew3];have hs3:∀ b',b'≠b->w3.heap[b']?=w2.heap[b']?:=fun b' hb'=>by
           rw[ew3,qgX _ _ _ _ _ hb',qgX _ _ _ _ _ hb'];rfl
         have hsz:w3.heap.size=w2.heap.size:=by rw[ew3,qgW,qgW];rfl
         have hb3:Blk w3 b #[.int .u32 1,.int .i32 0,.int .u32 sm,y]:=by
           rw[ew3];exact(Blk.setCell (j:=1) (v:=.int .i32 0) (Blk.setCell (j:=0) (v:=.int .u32 1) (show Blk w2.drew b _ from g1)))
         have hS3:∀ b',S2 b'->w3.heap[b']?=w2.heap[b']?:=fun b' hb'=>hs3 b' (fun e=>g6 (e ▸ hb'))
         exact⟨⟨S2,y,hb3,g2.mono (fun _ h=>h) hS3,g3,g4,fun b' hb'=>by rw[hsz];exact g5 b' hb',g6,g7,g8⟩,fun b' h1 h2=>by rw[hs3 b' h2,g9 b' h1 h2],by rw[hsz];exact g10,
           T.hG w2 w3 (fun b' hb'=>hS3 b' (g3 b' (E.enter.toldS b' hb'))) g11,by rw[ew3];exact g12.trans ((qwR w2).trans ((qgY _ _ _ _).trans (qgY _ _ _ _))),g13.mono (hs3 _ (by omega)),_,_,g14.mono (hs3 _ (by omega))⟩
 · have hd' : decide (d = 0) = false := by simp [hd]
   rw[hd'] at hF;simp only[cond_false] at hF;cases hx:fact[n.toNat]? with
   | none=>rw[hx] at hF;cases hF
   | some x =>
     rw[hx] at hF;have hF:(x,d,st,sm,fact)=r:=Option.some.inj hF;refine core d st fact x hF.symm hn0 hx ?_;refine(qz8 ⟨b,0,none⟩ d hd _ wa (by rw[hwab.cell];rfl)).mono ?_;rintro e w' ⟨rfl,rfl⟩;refine⟨rfl,⟨S,y3,hwab,e5.mono (fun _ h=>h) hSw,fun _ h=>h,fun _ h=>.inl h,fun b' hb'=>by rw[hwas];have:=E.enter.Slt b' hb';omega,hbS,hSs 0,hSs 1⟩,fun b' h1 _=>hwao b' h1,by omega,T.hG w w' (fun b' hb'=>hSw b' (E.enter.toldS b' hb')) E.enter.told,hwac,hwa0,_,_,hwa1⟩
end Go.Proofs.YtmabkjhobhbfdaaGreatDoor.X
