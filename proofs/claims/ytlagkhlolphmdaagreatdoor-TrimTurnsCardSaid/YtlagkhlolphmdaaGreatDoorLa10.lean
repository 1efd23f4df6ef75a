/- Own work: part of the proof; the first line of each part says what it tells. -/
import Derived.Test.YtlagkhlolphmdaaGreatDoorLa9


namespace Go.Proofs.YtlagkhlolphmdaaGreatDoor.X
open Go
set_option linter.unusedVariables false
set_option linter.unusedSimpArgs false
def trn1 (to:List Int) (x:NODE):NODE:=if qby x then x else (qby x,(to[(qaM x).toNat]?).getD 0,nCut x,nL x,nR x,qrI x,nVal x,nCov x)
def qsl (to:List Int) (t:List NODE):Prop:=∀ x∈t,qby x=false->0<=qaM x/\qaM x<(to.length:Int)
theorem qvy {t:List NODE} {to:List Int} (hl:t.length<4294967296) (hw:qsl to t) :
  qgc t to=some (t.map (trn1 to),to):=by
 have key:=qf3 (step:=qbP) (fun i=>(((t.take i).map (trn1 to)++t.drop i,((t.length:Nat):Int),(i:Int),()),((to,()),()))) t.length (r:=((t.map (trn1 to),()),((to,()),()))) (by omega) (by
  intro g i hi;have d0:(i:Int)<((t.length:Nat):Int):=by omega
  have d1:(0:Int)<=(i:Int):=by omega
  have pl:((t.take i).map (trn1 to)).length=i:=by simp;omega
  have dl:(i:Int)<(((((t.take i).map (trn1 to))++t.drop i).length:Nat):Int):=by rw[List.length_append,pl,List.length_drop];omega
  rw[qbP,cnd d0,cnd2 d1 dl,tN0,qzm pl hi,bS0];cases hleaf:qby t[i] with
  | true =>
   have ht:trn1 to t[i]=t[i]:=by rw[trn1,hleaf];rfl
   rw[show t[i].1=true from hleaf,Bool.not_true,cond_false,qbp (by omega),qcm _ hi,ht,List.append_assoc,List.singleton_append,<- List.drop_eq_getElem_cons hi];rfl
  | false =>
   obtain⟨w0,w1⟩:=hw _ (gM0 hi) hleaf;have hin:(qaM t[i]).toNat<to.length:=by omega
   have hg:to[(qaM t[i]).toNat]?=some to[(qaM t[i]).toNat]:=gE0 hin;have hg':to[t[i].2.1.toNat]?=some to[(qaM t[i]).toNat]:=hg;have ht:trn1 to t[i]=(t[i].1,to[(qaM t[i]).toNat],t[i].2.2):=by rw[trn1,if_neg (by rw[hleaf];decide),hg];rfl
   rw[show t[i].1=false from hleaf,Bool.not_false,cond_true,cnd2 d1 dl,bS0,cnd (show 0<=t[i].2.1 from w0),hg',bS0,cnd2 d1 dl,bS0,qtH _ pl hi,qbp (by omega),qcm _ hi,ht];rfl) (by
  intro g;rw[qbP,cnd' (by omega),List.take_length,List.drop_length,List.append_nil])
 have key':lp qbP K0 ((t,((t.length:Nat):Int),0,()),((to,()),()))=_:=key;rw[qgc,key'];rfl
theorem qsl.tidy {to:List Int} {t:List NODE} (h:qsl to t):qsl to (qcs t):=by
 intro x hx hl;obtain⟨y,hy,rfl⟩:=List.mem_map.1 hx;cases hly:qby y with
 | true=>rw[qjj hly] at hl;cases hl
 | false=>rw[qqM hly];exact h y hy hly
theorem qrZ {m:qak} {to:List Int} {k:Nat} (hv:qcA m=some true) (hl:m.2.length<4294967296) (ht:∀ t∈m.2,t.length<4294967296) (hs:MSz m k) (hk:k<1099511627776) (hw:∀ t∈m.2,qsl to t) :
  qcc m to=some (qfl (trn1 to) m,0,to):=by
 have tl:(qkR (m.2.map qcs)).length=m.2.length:=by simp [qkR]
 have key:=qf3 (step:=qaD) (fun i=>((List.replicate i none++(qkR (m.2.map qcs)).drop i,((m.2.length:Nat):Int),(i:Int),()),((0,[],()),(m.1,(m.2.take i).map (List.map fun n=>trn1 to (qaZ n)),()),(to,()),()))) m.2.length (r:=((),((0,[],()),(m.1,m.2.map (List.map fun n=>trn1 to (qaZ n)),()),(to,()),()))) (by omega) (by
  intro g i hi;have d0:(i:Int)<((m.2.length:Nat):Int):=by omega
  have d1:(0:Int)<=(i:Int):=by omega
  have hi':i<(qkR (m.2.map qcs)).length:=by omega
  have pl:(List.replicate i (none:Option (List NODE))).length=i:=List.length_replicate;have dl:(i:Int)<(((List.replicate i none++(qkR (m.2.map qcs)).drop i).length:Nat):Int):=by rw[List.length_append,pl,List.length_drop,tl];omega
  have hg:(qkR (m.2.map qcs))[i]=some (qcs m.2[i]):=by simp [qkR]
  have hc:=qvy (t:=qcs m.2[i]) (to:=to) (by rw[qcs,List.length_map];exact ht _ (gM0 hi)) (hw _ (gM0 hi)).tidy
  have d4:(((m.2.take i).map (List.map fun n=>trn1 to (qaZ n))).length+1)*24<=140737488355328:=by simp;omega
  rw[qaD,cnd d0,cnd2 d1 dl,tN0,qzm pl hi',bS0,hg,bS0,hc,bS0,blt d4,cond_true,qtH _ pl hi',qbp (by omega),qcm _ hi,qw2,<- List.replicate_succ'];rfl) (by
  intro g;rw[qaD,cnd' (by omega),List.take_length])
 have key1:lp qaD K0 ((qkR (m.2.map qcs),((m.2.length:Nat):Int),0,()),((0,[],()),(m.1,[],()),(to,()),()))=_:=key;have key':=key1;rw[<- tl] at key';rw[qcc,hv,bS0,Bool.not_true,cond_false,qyQ hl ht hs hk,bS0,key'];rfl
def qkO (order:List Int) (n j:Nat):Prop:=∃ x,order[j]?=some x/\0<=x/\x<(n:Int)/\x ∉ order.take j
structure qqz (order:List Int) (n j:Nat) (seen:List Bool) (to:List Int):Prop where
 sl:seen.length=n
 tl:to.length=n
 sv:∀ v,v<n->seen[v]?=some (decide ((v:Int)∈order.take j))
 tv:∀ i,i<j->∀ x,order[i]?=some x->to[x.toNat]?=some (i:Int)
theorem qqz.zero (order:List Int) (n:Nat):qqz order n 0 (List.replicate n false) (List.replicate n 0) :=
 ⟨by simp,by simp,fun v hv=>by rw[List.getElem?_replicate];simp [hv],fun i hi=>by omega⟩
theorem qqz.succ {order:List Int} {n j:Nat} {seen:List Bool} {to:List Int} (h:qqz order n j seen to) (hg:∀ i,i<=j->qkO order n i) {x:Int} (hx:order[j]?=some x):qqz order n (j+1) (seen.set x.toNat true) (to.set x.toNat (j:Int)):=by
 have hj:j<order.length:=by
   rcases Nat.lt_or_ge j order.length with h | h
   · exact h
   · rw[List.getElem?_eq_none h] at hx;cases hx
 obtain⟨x',hx',x0,x1,xn⟩:=hg j (Nat.le_refl _);rw[hx] at hx';obtain rfl:=Option.some.inj hx';have ex:order[j]=x:=by rw[gE0 hj] at hx;exact Option.some.inj hx
 have et:order.take (j+1)=order.take j++[x]:=by rw[List.take_succ_eq_append_getElem hj,ex]
 refine⟨by rw[List.length_set];exact h.sl,by rw[List.length_set];exact h.tl,fun v hv=>?_,fun i hi y hy=>?_⟩
 · rw [List.getElem?_set, et];by_cases e:x.toNat=v
   · rw [if_pos e, if_pos (by rw [h.sl]; omega)];have:(v:Int)∈order.take j++[x]:=by
       refine List.mem_append.2 (.inr ?_);rw[List.mem_singleton];omega
     rw[decide_eq_true this]
   · rw [if_neg e, h.sv v hv];congr 1;rw[decide_eq_decide,List.mem_append,List.mem_singleton];exact⟨fun h=>.inl h,fun h=>h.resolve_right (by omega)⟩
 · rw [List.getElem?_set];by_cases e:x.toNat=y.toNat
   · rw [if_pos e, if_pos (by rw [h.tl]; omega)];by_cases hij:i=j
     · rw[hij]
     · obtain ⟨y', hy', y0, y1, _⟩ := hg i (by omega);rw[hy] at hy';obtain rfl:=Option.some.inj hy';have exy:x=y:=by omega
       subst exy;exfalso;refine xn ?_;rw[List.mem_iff_getElem?];refine⟨i,?_⟩;rw[List.getElem?_take,if_pos (by omega)];exact hy
   · rw [if_neg e];have hij:i≠j:=by
       rintro rfl;rw[hx] at hy;obtain rfl:=Option.some.inj hy;exact e rfl
     exact h.tv i (by omega) y hy
theorem qv6 {order:List Int} {n k:Nat} (m:qak) (hm:m.1=(n:Int)) (hk:k<=order.length) (h64:order.length<1000000) (hg:∀ i,i<k->qkO order n i) {Q:_->Prop}
   (he:∀ seen to,qqz order n k seen to->∃ r,Q r/\∀ g,qcn g ((seen,order,(order.length:Int),(k:Int),()),((m.1,m.2,()),(0,[],()),(to,()),()))=some r) :
   ∃ r,Q r/\lp qcn K0 ((List.replicate n false,order,(order.length:Int),0,()),((m.1,m.2,()),(0,[],()),(List.replicate n 0,()),()))=some r:=by
 refine qkJ (step:=qcn) (fun j w=>∃ seen to,qqz order n j seen to/\w=((seen,order,(order.length:Int),(j:Int),()),((m.1,m.2,()),(0,[],()),(to,()),()))) Q k
   ⟨_,_,qqz.zero order n,rfl⟩ (by omega) ?_ ?_
 · rintro j w hj ⟨seen, to, hS, rfl⟩;obtain⟨x,hx,x0,x1,xn⟩:=hg j hj;refine⟨_,⟨_,_,hS.succ (fun i hi=>hg i (by omega)) hx,rfl⟩,fun g=>?_⟩;have d0:(j:Int)<(order.length:Int):=by omega
   have d1:(0:Int)<=(j:Int):=by omega
   have d2:x<(seen.length:Int):=by rw[hS.sl];exact x1
   have d3:x<(to.length:Int):=by rw[hS.tl];exact x1
   have hs:seen[x.toNat]?=some false:=by
    rw[hS.sv x.toNat (by omega),show((x.toNat:Nat):Int)=x by omega,decide_eq_false xn]
   have ht:to[x.toNat]?=some to[x.toNat]:=gE0 (by omega);rw[qcn,cnd d0,cnd d1,tN0,hx,bS0,cnd' (by omega),cnd' (by omega),cnd2 x0 d2,hs,bS0,cond_false,cnd2 x0 d2,bS0,cnd2 x0 d3,ht,bS0,qbp (by omega)];rfl
 · rintro w ⟨seen, to, hS, rfl⟩;exact he seen to hS
theorem qxq {m:qak} {order:List Int} {n k:Nat} (hv:qcA m=some true) (hm:m.1=(n:Int)) (hn:n<=64) (ho:order.length=n) (hg:∀ i,i<n->qkO order n i)
  (hl:m.2.length<4294967296) (ht:∀ t∈m.2,t.length<4294967296) (hs:MSz m k) (hk:k<1099511627776) (hw:∀ t∈m.2,∀ x∈t,qby x=false->0<=qaM x/\qaM x<(n:Int)) :
  ∃ to:List Int,to.length=n/\(∀ i,i<n->∀ x,order[i]?=some x->to[x.toNat]?=some (i:Int))/\qdz m order=some (qfl (trn1 to) m,0):=by
 obtain⟨r,⟨seen,to,hS,hr⟩,e⟩:=qv6 (order:=order) (n:=n) (k:=n) m hm (by omega) (by omega) hg (Q:=fun r=>∃ seen to,qqz order n n seen to/\r=.inl ((),((m.1,m.2,()),(0,[],()),(to,()),()))) (by
  intro seen to hS;refine⟨_,⟨seen,to,hS,rfl⟩,fun g=>?_⟩;rw[qcn,cnd' (by omega)])
 refine⟨to,hS.tl,hS.tv,?_⟩;have c1:∀ c:Nat,c<=8->(decide (m.1=m.1)&&decide (0<=m.1)&&decide ((c:Int)*m.1<=281474976710656)&&decide (m.1<=9223372036854775807))=true:=fun c hc=>by
  have:(c:Int)*m.1<=8*64:=Int.mul_le_mul (by omega) (by omega) (by omega) (by omega);rw[decide_eq_true rfl,decide_eq_true (by omega),decide_eq_true (by omega),decide_eq_true (by omega)];rfl
 have hE:=qrZ (m:=m) (to:=to) hv hl ht hs hk (fun t h x hx hlx=>by rw[hS.tl];exact hw t h x hx hlx);rw[qdz,hv,bS0,Bool.not_true,cond_false,c1 8 (by decide),cond_true,c1 1 (by decide),cond_true,decide_eq_true (show(order.length:Int)=m.1 by omega),Bool.not_true,cond_false,show m.1.toNat=n by omega,e,hr,bS0];show((qcc m to).bind fun r9=>some (r9.1,r9.2.1))=_;rw[hE];rfl
theorem qyP {m:qak} {order:List Int} {n:Nat} (hv:qcA m=some true) (hm:m.1=(n:Int)) (hn:n<=64) (ho:order.length=n) {k:Nat} (hkn:k<n) (hg:∀ i,i<k->qkO order n i) (hb:¬ qkO order n k) :
  qdz m order=some ((0,[]),8):=by
 obtain⟨r,hr,e⟩:=qv6 (order:=order) (n:=n) (k:=k) m hm (by omega) (by omega) hg (Q:=fun r=>r=.inr ((8,()),((0,[],()),()))) (by
  intro seen to hS;refine⟨_,rfl,fun g=>?_⟩;have hk:k<order.length:=by omega
  have d0:(k:Int)<(order.length:Int):=by omega
  have d1:(0:Int)<=(k:Int):=by omega
  rw[qcn,cnd d0,cnd d1,tN0,gE0 hk,bS0];by_cases x0:order[k]<0
  · rw[cnd x0]
  by_cases x1:order[k]>=m.1
  · rw[cnd' x0,cnd x1]
  have xm:order[k]∈order.take k:=by
    apply Classical.byContradiction;intro h;exact hb ⟨_,gE0 hk,by omega,by omega,h⟩
  have hs:seen[order[k].toNat]?=some true:=by
    rw[hS.sv _ (by omega),show((order[k].toNat:Nat):Int)=order[k] by omega,decide_eq_true xm]
  rw[cnd' x0,cnd' x1,cnd2 (by omega) (by rw[hS.sl];omega),hs,bS0,cond_true])
 have c1:∀ c:Nat,c<=8->(decide (m.1=m.1)&&decide (0<=m.1)&&decide ((c:Int)*m.1<=281474976710656)&&decide (m.1<=9223372036854775807))=true:=fun c hc=>by
  have:(c:Int)*m.1<=8*64:=Int.mul_le_mul (by omega) (by omega) (by omega) (by omega);rw[decide_eq_true rfl,decide_eq_true (by omega),decide_eq_true (by omega),decide_eq_true (by omega)];rfl
 rw[qdz,hv,bS0,Bool.not_true,cond_false,c1 8 (by decide),cond_true,c1 1 (by decide),cond_true,decide_eq_true (show(order.length:Int)=m.1 by omega),Bool.not_true,cond_false,show m.1.toNat=n by omega,e,hr];rfl
theorem quM (l:List Int) (v:Int) (hl:l.length<1000000):∃ r,qcZ l v=some r/\(v∈l->0<=r)/\(v ∉ l->r<0):=by
 obtain⟨r,⟨q1,q2⟩,e⟩:=qn8 (step:=qaH) (fun w=>∃ i:Nat,w=((l,v,(i:Int),()),())/\i<=l.length/\v ∉ l.take i) (fun w=>l.length-w.1.2.2.1.toNat)
   (fun r=>(v∈l->∃ i:Nat,r=.inr (((i:Int),()),()))/\(v ∉ l->r=.inl ((),()))) (v:=((l,v,0,()),())) ⟨0,rfl,Nat.zero_le _,by simp⟩ (by dsimp only;omega) (by
   rintro w ⟨i,rfl,hi,hn⟩;rcases Nat.lt_or_ge i l.length with h | h
   · have d0 : (i : Int) < (l.length : Int) := by omega
     have d1:(0:Int)<=(i:Int):=by omega
     by_cases e:l[i]=v
     · refine .inl ⟨_, ⟨fun _ => ⟨i, rfl⟩, fun hm => absurd (e ▸ gM0 h) hm⟩, fun g => ?_⟩;rw[qaH,cnd d0,cnd d1,tN0,gE0 h,bS0,cnd e]
     · refine .inr ⟨((l, v, ((i + 1 : Nat) : Int), ()), ()), ⟨i + 1, rfl, h, ?_⟩, ?_, fun g => ?_⟩
       · rw [List.take_succ_eq_append_getElem h, List.mem_append, List.mem_singleton];rintro(h | h)
         · exact hn h
         · exact e h.symm
       · dsimp only;rw[tN0,tN0];omega
       · rw [qaH, cnd d0, cnd d1, tN0, gE0 h, bS0, cnd' e, qbp (by omega)];rfl
   · refine .inl ⟨.inl ((), ()), ⟨fun hm => ?_, fun _ => rfl⟩, fun g => ?_⟩
     · rw [List.take_of_length_le h] at hn;exact absurd hm hn
     · rw[qaH,cnd' (by omega)])
 rw[qcZ,e,bS0];by_cases hm:v∈l
 · obtain ⟨i, rfl⟩ := q1 hm;exact⟨_,rfl,fun _=>by show(0:Int)<=(i:Int);omega,fun h=>absurd hm h⟩
 · rw [q2 hm];exact⟨_,rfl,fun h=>absurd h hm,fun _=>by decide⟩
theorem qAR {m M:qak} {row:List CELL} {order:List Int} {c why:Int} (hw:why≠0) :
  lp qae K0 ((row,order,c,why,0,()),((m.1,m.2,()),(M.1,M.2,()),()))=some ((row,order,c,why,()),((m.1,m.2,()),(M.1,M.2,()),())) :=
 qf3 (step:=qae) (fun _=>((row,order,c,why,0,()),((m.1,m.2,()),(M.1,M.2,()),()))) 0 (by omega) (fun g i hi=>absurd hi (Nat.not_lt_zero i)) (by
  intro g;rw[qae,cnd' hw];cases decide (0<m.1)<;>rfl)
theorem qt6 {m M:qak} {row:List CELL} {order:List Int} {c:Int} {n:Nat} (hm:m.1=(n:Int)) (hn:n<=64) (hl:order.length<1000000) :
  ∃ why:Int,lp qae K0 ((row,order,c,0,0,()),((m.1,m.2,()),(M.1,M.2,()),()))=some ((row,order,c,why,()),((m.1,m.2,()),(M.1,M.2,()),()))/\((why=0/\∀ v:Nat,v<n->(v:Int)∈order)\/(why=8/\∃ v:Nat,v<n/\(v:Int) ∉ order)):=by
 obtain⟨r,⟨why,rfl,q⟩,e⟩:=qn8 (step:=qae)
  (fun w=>∃ (i:Nat) (why:Int),w=((row,order,c,why,(i:Int),()),((m.1,m.2,()),(M.1,M.2,()),()))/\i<=n/\((why=0/\∀ v:Nat,v<i->(v:Int)∈order)\/(why=8/\∃ v:Nat,v<n/\(v:Int) ∉ order)))
  (fun w=>n-w.1.2.2.2.2.1.toNat)
  (fun r=>∃ why:Int,r=((row,order,c,why,()),((m.1,m.2,()),(M.1,M.2,()),()))/\((why=0/\∀ v:Nat,v<n->(v:Int)∈order)\/(why=8/\∃ v:Nat,v<n/\(v:Int) ∉ order)))
  (v:=((row,order,c,0,0,()),((m.1,m.2,()),(M.1,M.2,()),()))) ⟨0,0,rfl,Nat.zero_le _,.inl ⟨rfl,fun v hv=>by omega⟩⟩ (by dsimp only;omega) (by
  rintro w ⟨i,why,rfl,hi,h⟩;rcases h with ⟨rfl,h⟩ | ⟨rfl,h⟩
  · rcases Nat.lt_or_ge i n with hin | hin
    · have d0 : (i : Int) < m.1 := by omega
      obtain⟨r,hp,p1,p2⟩:=quM order (i:Int) hl;by_cases hmem:(i:Int)∈order
      · refine .inr ⟨((row, order, c, 0, ((i + 1 : Nat) : Int), ()), ((m.1, m.2, ()), (M.1, M.2, ()), ())), ⟨i + 1, 0, rfl, hin, .inl ⟨rfl, fun v hv => ?_⟩⟩, ?_, fun g => ?_⟩
        · by_cases e : v = i
          · rw[e];exact hmem
          · exact h v (by omega)
        · dsimp only;rw[tN0,tN0];omega
        · have := p1 hmem;rw[qae,cnd d0,cnd rfl,hp,bS0,cnd' (by omega),qbp (by omega)];rfl
      · refine .inr ⟨((row, order, c, 8, ((i + 1 : Nat) : Int), ()), ((m.1, m.2, ()), (M.1, M.2, ()), ())), ⟨i + 1, 8, rfl, hin, .inr ⟨rfl, i, hin, hmem⟩⟩, ?_, fun g => ?_⟩
        · dsimp only;rw[tN0,tN0];omega
        · have := p2 hmem;rw[qae,cnd d0,cnd rfl,hp,bS0,cnd (by omega),qbp (by omega)];rfl
    · refine .inl ⟨_, ⟨0, rfl, .inl ⟨rfl, fun v hv => h v (by omega)⟩⟩, fun g => ?_⟩;rw[qae,cnd' (by omega)]
  · refine .inl ⟨_, ⟨8, rfl, .inr ⟨rfl, h⟩⟩, fun g => ?_⟩;rw[qae,cnd' (show ¬ (8:Int)=0 by decide)];cases decide ((i:Int)<m.1)<;>rfl)
 exact⟨why,e,q⟩
theorem qzG {n:Nat} {s t:Nat->Nat} (hs:∀ i,i<n->s i<n) (hts:∀ i,i<n->t (s i)=i):((List.range n).map s).Perm (List.range n):=by
 have hnd:((List.range n).map s).Nodup:=by
  refine List.pairwise_iff_getElem.2 fun i j hi hj hij=>?_
  simp only[List.length_map,List.length_range] at hi hj;simp only[List.getElem_map,List.getElem_range];intro e;have:=hts i hi;rw[e,hts j hj] at this;omega
 obtain⟨R,hp,_⟩:=qkg hnd (n:=n) (fun j hj=>by
  obtain⟨i,hi,rfl⟩:=List.mem_map.1 hj;exact hs i (List.mem_range.1 hi))
 have hl:=hp.length_eq;simp only[List.length_range,List.length_append,List.length_map] at hl;have:R=[]:=List.eq_nil_of_length_eq_zero (by omega);rw[this,List.append_nil] at hp;exact hp.symm
def atI (l:List Int) (i:Nat):Nat:=((l[i]?).getD 0).toNat
theorem qzE {order to:List Int} {n:Nat} (ho:order.length=n) (hg:∀ i,i<n->qkO order n i) (hto:∀ i,i<n->∀ x,order[i]?=some x->to[x.toNat]?=some (i:Int)) :
   Turn n (atI order) (atI to)/\(∀ v:Nat,v<n->(v:Int)∈order)/\(∀ i,i<n->order[i]?=some ((atI order i:Nat):Int))/\(∀ f,f<n->to[f]?=some ((atI to f:Nat):Int)):=by
 have a1:∀ i,i<n->order[i]?=some ((atI order i:Nat):Int)/\atI order i<n:=fun i hi=>by
   obtain⟨x,hx,x0,x1,_⟩:=hg i hi;have e:atI order i=x.toNat:=by rw[atI,hx];rfl
   rw[e,hx];exact⟨by congr 1;omega,by omega⟩
 have ts:∀ i,i<n->atI to (atI order i)=i:=fun i hi=>by
   have:=hto i hi _ (a1 i hi).1;rw[tN0] at this;rw[atI,this];rfl
 have hp:=qzG (fun i hi=>(a1 i hi).2) ts;have sur:∀ v,v<n->∃ i,i<n/\atI order i=v:=fun v hv=>by
   obtain⟨i,hi,e⟩:=List.mem_map.1 (hp.mem_iff.2 (List.mem_range.2 hv));exact⟨i,List.mem_range.1 hi,e⟩
 refine⟨⟨fun i hi=>(a1 i hi).2,fun f hf=>?_,fun f hf=>?_,ts⟩,fun v hv=>?_,fun i hi=>(a1 i hi).1,fun f hf=>?_⟩
 · obtain ⟨i, hi, rfl⟩ := sur f hf;rw[ts i hi];exact hi
 · obtain ⟨i, hi, rfl⟩ := sur f hf;rw[ts i hi]
 · obtain ⟨i, hi, rfl⟩ := sur v hv;exact List.mem_of_getElem? (a1 i hi).1
 · obtain ⟨i, hi, rfl⟩ := sur f hf;rw[ts i hi];have:=hto i hi _ (a1 i hi).1;rw[tN0] at this;exact this
theorem qz7 {order:List Int} {n k:Nat} (ho:order.length=n) (hk:k<n) (hb:¬ qkO order n k):∃ v:Nat,v<n/\(v:Int) ∉ order:=by
 apply Classical.byContradiction;intro hc;have all:∀ v:Nat,v<n->(v:Int)∈order:=fun v hv=>Classical.byContradiction fun h=>hc ⟨v,hv,h⟩
 have:=qxa n (order.take k++order.drop (k+1)) (fun v hv=>by
  obtain⟨j,hj,e⟩:=List.mem_iff_getElem.1 (all v hv);rw[List.mem_append];by_cases h1:j<k
  · left
    rw[List.mem_iff_getElem];exact⟨j,by simp;omega,by rw[List.getElem_take];exact e⟩
  by_cases h2:j=k
  · subst h2
    left
    apply Classical.byContradiction;intro h;exact hb ⟨_,gE0 hj,by omega,by omega,by rw[e];exact h⟩
  · right
    rw[List.mem_iff_getElem];refine⟨j-(k+1),by simp;omega,?_⟩;rw[List.getElem_drop];simp only[show k+1+(j-(k+1))=j by omega];exact e)
 simp at this;omega
theorem qnb {to:List Int} {x:NODE} (h:qby x=true):trn1 to x=x:=by rw[trn1,if_pos h]
theorem qhH {to:List Int} {x:NODE} (h:qby x=false):trn1 to x=(qby x,(to[(qaM x).toNat]?).getD 0,nCut x,nL x,nR x,qrI x,nVal x,nCov x):=by rw[trn1,if_neg (by rw[h];decide)]
theorem quu (to:List Int) (x:NODE):qby (trn1 to x)=qby x:=by
 cases h:qby x with
 | true=>rw[qnb h,h]
 | false=>rw[qhH h,h]
theorem qzH (to:List Int) (x:NODE):nCov (trn1 to x)=nCov x:=by
 cases h:qby x with
 | true=>rw[qnb h]
 | false=>rw[qhH h]
theorem qeV (n:NODE):qby (qaZ n)=qby n:=by
 cases hl:qby n with
 | true=>rw[qjj hl];rfl
 | false=>rw[qgL hl]
theorem qxK (n:NODE):rv (nCov (qaZ n))=rv (nCov n):=by
 cases hl:qby n with
 | true=>rw[qjj hl];exact qas _
 | false=>rw[qgL hl];exact qas _
theorem qtz {to:List Int} {n:Nat} (ht:∀ f,f<n->to[f]?=some ((atI to f:Nat):Int)) {x:NODE} (hl:qby x=false) (h0:0<=qaM x) (h1:qaM x<(n:Int)):qaM (trn1 to (qaZ x))=((atI to (qaM x).toNat:Nat):Int):=by
 rw[qhH (by rw[qeV];exact hl),qqM hl,ht _ (by omega)];rfl
theorem qqG {to:List Int} {n:Nat} {f:Int} (hf:f=(n:Int)) (hn:n<=64) (ht:∀ f,f<n->to[f]?=some ((atI to f:Nat):Int)) (hlt:∀ f,f<n->atI to f<n):qm7 (fun x=>trn1 to (qaZ x)) f f 1 where
 leaf x:=by rw[quu,qeV]
 l x hl:=by rw[qhH (by rw[qeV];exact hl),qgL hl]
 r x hl:=by rw[qhH (by rw[qeV];exact hl),qgL hl]
 feat x hl a b:=by
  rw[qtz ht hl a (by omega)];have:=hlt (qaM x).toNat (by omega);omega
 fits x hl _:=by
  rw[qnb (by rw[qeV];exact hl),qjj hl];exact(show qgI (qzf (canQ (rv (nVal x))) (canQ (rv (nCov x)))) from⟨Int.le_refl 0,(by decide:(0:Int)<=64),Int.le_refl 0,(by decide:(0:Int)<=255),Int.le_refl 0,(by decide:(0:Int)<=255)⟩)
 cov x:=by rw[Rat.one_mul,qzH,qxK]
 pos:=by decide
 low:=by omega
 high:=by omega
theorem qxH {to:List Int} {x:NODE} (hl:qby x=false) (c:CELL):goes (trn1 to (qaZ x)) c=goes x c:=by
 rw[qhH (by rw[qeV];exact hl),<- qvW hl];rfl
theorem qy5 {to:List Int} (x:NODE) (h:NSz x 4):NSz (trn1 to x) 4:=by
 unfold trn1;split
 · exact h
 · exact h
def rowT (row:List CELL) (order:List Int) (n:Nat):List CELL:=(List.range n).map fun i=>qj9 row (atI order i)
theorem qkf (row:List CELL) (order:List Int) (n:Nat):(rowT row order n).length=n:=by simp [rowT]
theorem qzP (row:List CELL) (order:List Int) {n i:Nat} (h:i<n):qj9 (rowT row order n) i=qj9 row (atI order i):=by
 rw[qkl (by rw[qkf];exact h)];simp [rowT]
def qzF (m M:qak) (row:List CELL) (order:List Int):Option Bool :=
 (lp qag K0 ((row,order,[],0,()),((m.1,m.2,()),(M.1,M.2,()),()))).bind fun t14=>(qaX (t14.2.1.1,t14.2.1.2.1) t14.1.1).bind fun r15=>(qaX (t14.2.2.1.1,t14.2.2.1.2.1) t14.1.2.2.1).bind fun r16=>bif (!decide (r15.2=0)) then (some false) else (bif (!decide (r16.2=0)) then (some false) else (bif (!decide ((r15.1.length:Int)=(t14.1.1.length:Int))) then (some false) else (bif (!decide ((r16.1.length:Int)=(t14.1.1.length:Int))) then (some false) else ((qan (t14.2.1.1,t14.2.1.2.1) t14.1.1).bind fun r17=>(qan (t14.2.2.1.1,t14.2.2.1.2.1) t14.1.2.2.1).bind fun r18=>(qct r17 r18).bind fun r19=>bif (!r19) then (some false) else ((lp qaf K0 ((t14.1.2.1,r15.1,r16.1,0,()),())).bind fun t24=>(match t24 with | .inl t25=>(qah ).bind fun r27=>some r27 | .inr t26=>some t26.1.1))))))
def qxF (t7:(List CELL×List Int×Int×Int×Unit)×(Int×List (List NODE)×Unit)×(Int×List (List NODE)×Unit)×Unit):Option Bool :=
 bif (!decide (t7.1.2.2.2.1=0)) then (bif (decide (t7.1.2.2.1=t7.1.2.2.2.1)) then ((qbj (t7.2.2.1.1,t7.2.2.1.2.1) (0,[])).bind fun r8=>bif r8 then wake else (some false)) else (some false)) else (bif (!decide (t7.1.2.2.1=0)) then (some false) else ((qcA (t7.2.2.1.1,t7.2.2.1.2.1)).bind fun r10=>bif (!r10) then (some false) else (bif (!decide ((t7.1.1.length:Int)=t7.2.1.1)) then wake else qzF (t7.2.1.1,t7.2.1.2.1) (t7.2.2.1.1,t7.2.2.1.2.1) t7.1.1 t7.1.2.1)))
def qsv (m:qak) (row:List CELL) (order:List Int) (r4:qak×Int) (why:Int):Option Bool :=
 (lp qae K0 ((row,order,r4.2,why,0,()),((m.1,m.2,()),(r4.1.1,r4.1.2,()),()))).bind fun t7=>qxF t7
theorem qvO (m:qak) (row:List CELL) (a0:qak) (a1:List CELL) (order:List Int) (hs:qb1 a0 a1=some (m,row)) :
  qcb a0 a1 order=bif (decide ((order.length:Int)>70)) then wake else (bif (decide ((row.length:Int)>8)) then wake else ((qdz m order).bind fun r4=>(qcA m).bind fun r5=>bif (!r5) then qsv m row order r4 1 else (bif (!decide ((order.length:Int)=m.1)) then qsv m row order r4 14 else qsv m row order r4 0))):=by
 rw[qcb,hs,bS0];rfl
theorem qxE {m:qak} {row:List CELL} {order to:List Int} {n:Nat} (ha:Askd m row) (hn:row.length=n) (h8:n<=8) (ho:order.length=n)
  (hT:Turn n (atI order) (atI to)) (hoA:∀ i,i<n->order[i]?=some ((atI order i:Nat):Int)) (htA:∀ f,f<n->to[f]?=some ((atI to f:Nat):Int)) :
  qzF m (qfl (trn1 to) m) row order=some true:=by
 have hm:m.1=(n:Int):=by have:=ha.len;omega
 have hk:qm7 (fun x=>trn1 to (qaZ x)) m.1 m.1 1:=qqG hm (by omega) htA hT.tlt;have gM:Good (qfl (trn1 to) m):=ha.good.map hk;have e23:=qf3 (step:=qag) (fun i=>((row,order,rowT row order i,(i:Int),()),((m.1,m.2,()),((qfl (trn1 to) m).1,(qfl (trn1 to) m).2,()),()))) n
  (r:=((row,order,rowT row order n,()),((m.1,m.2,()),((qfl (trn1 to) m).1,(qfl (trn1 to) m).2,()),()))) (by omega) (by
  intro g i hi;have d0:(i:Int)<(order.length:Int):=by omega
  have d1:(0:Int)<=(i:Int):=by omega
  have hs:=hT.slt i hi;have d2:(0:Int)<=((atI order i:Nat):Int):=Int.natCast_nonneg _;have d3:((atI order i:Nat):Int)<(row.length:Int):=by omega
  have hr:row[atI order i]?=some (qj9 row (atI order i)):=by rw[qkl (by omega)];exact gE0 (by omega)
  have e:rowT row order (i+1)=rowT row order i++[qj9 row (atI order i)]:=by simp [rowT,List.range_succ]
  rw[qag,cnd d0,cnd d1,tN0,hoA i hi,bS0,cnd2 d2 d3,tN0,hr,bS0,blt (by rw[qkf];omega),cond_true,qbp (by omega),e];rfl) (by
  intro g;rw[qag,cnd' (by omega)])
 have e23:lp qag K0 ((row,order,[],0,()),((m.1,m.2,()),((qfl (trn1 to) m).1,(qfl (trn1 to) m).2,()),()))=_:=e23;have aM:Askd (qfl (trn1 to) m) (rowT row order n):=⟨gM,by rw[qkf];exact hm.symm,quc ha.ms (by decide) qy5,by rw[qsa];exact ha.ml,qpm ha.mt,fun c hc=>by
  obtain⟨i,hi,rfl⟩:=List.mem_map.1 hc;have:=hT.slt i (List.mem_range.1 hi);rw[qkl (by omega)];exact ha.cs _ (gM0 _)⟩
 have say:∀ S S':Nat,(∀ f,f<n->S'.testBit (atI to f)=S.testBit f)->sayM (qfl (trn1 to) m) (rowT row order n) S'=sayM m row S:=by
  intro S S' hS;have:=qxS (row:=row) (row':=rowT row order n) (set:=S) (set':=S') ha.good hk (v:=1) (fun x hl=>by
   rw[Rat.one_mul,qnb (by rw[qeV];exact hl),qjj hl];exact qas _) (fun x hl f0 f1=>by
   have hf:(qaM x).toNat<n:=by omega
   have e:=qtz htA hl f0 (by omega);show goes (trn1 to (qaZ x)) (qj9 (rowT row order n) (qaM (trn1 to (qaZ x))).toNat)=_/\S'.testBit (qaM (trn1 to (qaZ x))).toNat=_;rw[e,tN0,qxH hl,qzP _ _ (hT.tlt _ hf),hT.st _ hf];exact⟨rfl,hS _ hf⟩)
  rw[Rat.one_mul] at this;exact this
 have v0:=qot ha;have v1:=qot aM;have hV:∀ f,f<n->qkn (qfl (trn1 to) m) (rowT row order n) (-1) false (atI to f)=qkn m row (-1) false f:=fun f hf=>by
  rw[qo7 aM (by rw[qkf];exact hT.tlt f hf),qo7 ha (by omega),qkf,hn];exact quz hT (fun S _=>say S (ql0 (atI order) n S) fun f hf=>qli hT hf) hf
 have fz:∀ f,f<n->SzQ (qkn m row (-1) false f) 1500000000:=fun f hf=>qxW ha (-1) false (by omega)
 have hall:∀ j:Nat,(j:Int)<m.1->(18446744073709551615:Nat).testBit j=true:=by
  intro j hj;have e:(18446744073709551615:Nat)=2 ^ 64-1:=by decide
  rw[e,Nat.testBit_two_pow_sub_one];simp;omega
 have p0:=qm2 ha;have p1:=qm2 aM;have ep:qsJ (qfl (trn1 to) m) (rowT row order n)=qsJ m row:=by
  rw[<- qtI (row:=rowT row order n) (set:=18446744073709551615) gM hall,<- qtI (row:=row) ha.good hall];exact say _ _ fun f hf=>by
   have:=hT.tlt f hf;rw[hall _ (by omega),hall _ (by omega)]
 have pz:SzQ (qsJ m row) 31:=(qxZ (row:=row) ha.good ha.ms (n:=m.2.length) (Nat.le_refl _)).mono (by have:=ha.ml;omega);have hsP:=qzt (x:=canQ (qsJ m row)) (y:=canQ (qsJ m row)) (pz.sm (by decide)) (pz.sm (by decide)) rfl;rw[qkf] at v1;rw[hn] at v0;have e31:=qf3 (step:=qaf) (fun i=>((order,flo n (qkn m row (-1) false),flo n (qkn (qfl (trn1 to) m) (rowT row order n) (-1) false),(i:Int),()),())) n (r:=.inl ((),())) (by omega) (by
  intro g i hi;have d0:(i:Int)<(order.length:Int):=by omega
  have d1:(0:Int)<=(i:Int):=by omega
  have hs:=hT.slt i hi;have d2:(0:Int)<=((atI order i:Nat):Int):=Int.natCast_nonneg _;have e:qkn (qfl (trn1 to) m) (rowT row order n) (-1) false i=qkn m row (-1) false (atI order i):=by
   have:=hV (atI order i) hs;rw[hT.ts i hi] at this;exact this
  have hsame:=qzt (x:=canQ (qkn m row (-1) false (atI order i))) (y:=canQ (qkn m row (-1) false (atI order i))) ((fz _ hs).sm (by decide)) ((fz _ hs).sm (by decide)) rfl;rw[qaf,cnd d0,cnd2 d1 (by rw[qcJ];omega),tN0,qk0 _ hi,bS0,cnd d1,hoA i hi,bS0,cnd2 d2 (by rw[qcJ];omega),tN0,qk0 _ hs,bS0,e,hsame,bS0,Bool.not_true,cond_false,qbp (by omega)];rfl) (by
  intro g;rw[qaf,cnd' (by omega)])
 have e31:lp qaf K0 ((order,flo n (qkn m row (-1) false),flo n (qkn (qfl (trn1 to) m) (rowT row order n) (-1) false),0,()),())=_:=e31;rw[qzF,e23,bS0];dsimp only;rw[show((m.1,m.2):qak)=m from rfl,show(((qfl (trn1 to) m).1,(qfl (trn1 to) m).2):qak)=qfl (trn1 to) m from rfl,v0,bS0,v1,bS0];dsimp only;rw[decide_eq_true rfl,Bool.not_true,cond_false,cond_false,qcJ,qcJ,decide_eq_true (show(n:Int)=(row.length:Int) by omega),Bool.not_true,cond_false,cond_false,p0,bS0,p1,bS0,ep,hsP,bS0,Bool.not_true,cond_false,e31,bS0];dsimp only;rw[qkL];rfl
theorem qoY (m0:qak) (row0:List CELL) (order:List Int) (hl:m0.2.length<=9223372036854775807) (ht:∀ t∈m0.2,t.length<=9223372036854775807) (hr:row0.length<=9223372036854775807):qcb m0 row0 order=some true:=by
 obtain⟨m,row,hs,ms,ml,mt,cs⟩:=qyT m0 row0 hl ht hr;obtain⟨b,hv,hb⟩:=qAD (m:=m) (by omega) (fun t h=>by have:=mt t h;omega) ms (by decide);rw[qvO m row m0 row0 order hs];by_cases h70:(order.length:Int)>70
 · rw[cnd h70,qnn]
 by_cases h8:(row.length:Int)>8
 · rw[cnd' h70,cnd h8,qnn]
 rw[cnd' h70,cnd' h8];have bad:∀ c:Int,c≠0->qsv m row order ((0,[]),c) c=some true:=by
   intro c hc;have h:=qAR (m:=m) (M:=(0,[])) (row:=row) (order:=order) (c:=c) hc;rw[qsv];dsimp only;rw[h,bS0,qxF];dsimp only;rw[decide_eq_false hc,Bool.not_false,cond_true,cnd rfl,qsm,bS0,cond_true,qnn]
 cases b with
 | false =>
   have e:qdz m order=some ((0,[]),1):=by rw[qdz,hv];rfl
   rw[e,bS0,hv,bS0,Bool.not_false,cond_true,bad 1 (by decide)]
 | true =>
   have g:=hb.1 rfl;obtain⟨n,hn⟩:=Int.eq_ofNat_of_zero_le g.1.1;have h64:n<=64:=by have:=g.1.2.1;omega
   by_cases ho:(order.length:Int)=m.1
   · have ho' : order.length = n := by omega
     rw[hv];obtain⟨why,hlp,hq⟩:=qt6 (m:=m) (M:=(0,[])) (row:=row) (order:=order) (c:=8) hn h64 (by omega);by_cases hgood:∀ i,i<n->qkO order n i
     · have hw : ∀ t ∈ m.2, ∀ x ∈ t, qby x = false->0 <= qaM x /\ qaM x < (n : Int) := by
         intro t h x hx hlx;obtain⟨i,hi,rfl⟩:=List.mem_iff_getElem.1 h;obtain⟨j,hj,rfl⟩:=List.mem_iff_getElem.1 hx;obtain⟨q1,q2,_⟩:=g.ranges hi j hj hlx;exact⟨q1,by omega⟩
       obtain⟨to,tl,hto,hT⟩:=qxq hv hn h64 ho' hgood (by omega) (fun t h=>by have:=mt t h;omega) ms (by decide) hw;obtain⟨tt,tall,toA,ttA⟩:=qzE ho' hgood hto;obtain⟨why2,hlp2,hq2⟩:=qt6 (m:=m) (M:=qfl (trn1 to) m) (row:=row) (order:=order) (c:=0) hn h64 (by omega);have hk:qm7 (fun x=>trn1 to (qaZ x)) m.1 m.1 1:=qqG hn h64 ttA tt.tlt;have gM:Good (qfl (trn1 to) m):=g.map hk;obtain⟨b2,hv2,hb2⟩:=qAD (m:=qfl (trn1 to) m) (by rw[qsa];omega) (fun t h=>by have:=qpm mt t h;omega) (quc ms (by decide) qy5) (by decide);rw[hb2.2 gM] at hv2;rcases hq2 with ⟨rfl,_⟩ | ⟨_,v,hvn,hmiss⟩
       · rw [hT, bS0, bS0, Bool.not_true, cond_false, decide_eq_true ho, Bool.not_true, cond_false, qsv];dsimp only;rw[hlp2,bS0,qxF];dsimp only;rw[decide_eq_true rfl,Bool.not_true,cond_false,cond_false,show(((qfl (trn1 to) m).1,(qfl (trn1 to) m).2):qak)=qfl (trn1 to) m from rfl,hv2,bS0,Bool.not_true,cond_false];by_cases hrow:(row.length:Int)=m.1
         · have ha : Askd m row := ⟨g, hrow, ms, by omega, mt, cs⟩;rw[decide_eq_true hrow,Bool.not_true,cond_false,show((m.1,m.2):qak)=m from rfl];exact qxE ha (by omega) (by omega) ho' tt toA ttA
         · rw[decide_eq_false hrow,Bool.not_false,cond_true,qnn]
       · exact absurd (tall v hvn) hmiss
     · obtain ⟨k, hk, hkb, hkg⟩ : ∃ k, k < n /\ ¬ qkO order n k /\ ∀ i, i < k->qkO order n i := by
         apply Classical.byContradiction;intro hc;refine hgood fun i=>?_
         induction i using Nat.strongRecOn with
         | _ i ih =>
           intro hi;apply Classical.byContradiction;intro hb;exact hc ⟨i,hi,hb,fun j hj=>ih j hj (by omega)⟩
       have hT:=qyP hv hn h64 ho' hk hkg hkb;obtain⟨v,hvn,hmiss⟩:=qz7 ho' hk hkb;rcases hq with ⟨_,hall⟩ | ⟨rfl,_⟩
       · exact absurd (hall v hvn) hmiss
       · rw [hT, bS0, bS0, Bool.not_true, cond_false, decide_eq_true ho, Bool.not_true, cond_false, qsv];dsimp only;rw[hlp,bS0,qxF];dsimp only;rw[show(!decide ((8:Int)=0))=true by decide,cond_true,cnd rfl,qsm,bS0,cond_true,qnn]
   · have c1 : ∀ c : Nat, c <= 8->(decide (m.1 = m.1) && decide (0 <= m.1) && decide ((c : Int) * m.1 <= 281474976710656) && decide (m.1 <= 9223372036854775807)) = true := fun c hc => by
       have:(c:Int)*m.1<=8*64:=Int.mul_le_mul (by omega) (by omega) (by omega) (by omega);rw[decide_eq_true rfl,decide_eq_true (by omega),decide_eq_true (by omega),decide_eq_true (by omega)];rfl
     have e:qdz m order=some ((0,[]),14):=by
       rw[qdz,hv,bS0,Bool.not_true,cond_false,c1 8 (by decide),cond_true,c1 1 (by decide),cond_true,decide_eq_false ho];rfl
     rw[e,bS0,hv,bS0,Bool.not_true,cond_false,decide_eq_false ho,Bool.not_false,cond_true,bad 14 (by decide)]
end Go.Proofs.YtlagkhlolphmdaaGreatDoor.X
