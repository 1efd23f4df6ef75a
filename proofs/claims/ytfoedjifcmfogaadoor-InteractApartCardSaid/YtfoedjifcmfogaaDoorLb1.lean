/- Own work: part of the proof; the first line of each part says what it tells. -/
import Derived.Test.YtfoedjifcmfogaaDoorLb0
import Derived.Great.BuildSlice


namespace Go.Proofs.YtfoedjifcmfogaaDoor.X
open Go
set_option linter.unusedVariables false
set_option linter.unusedSimpArgs false
variable {T:Told} {P:Program} {tb:Tb}
section
variable {R:Type} {B:Base} {w:World} {S:Foot} {J:Con} {s:St} {a:Act}
theorem qw0 (m n:Nat):pl m n=m+n:=by cases m<;>simp [pl]
theorem qdS (R:Rel T B w S J s a) {k off:Nat} {len:Option Nat} {t:Ty} {xs:List t.den} {m:Md} {v:Value} (hk:get s.h k=some (.rows t xs m)) (hv:TRel w S J (get s.h) (.osl k off len) v) :
  qf1 xs off len/\((J k=none/\off=0/\wlen xs off len=0/\v=.slice none 0 0) \/
   ∃ b o x cap,J k=some (b,o)/\v=.slice (some ⟨b,x,none⟩) (wlen xs off len) cap/\wlen xs off len<=cap/\(cap=0\/x=o+off*t.size)/\(m=.own->∃ c,Blk w b c/\(off+cap)*t.size<=c.size)):=by
 have h0:qac w S J (get s.h) (.osl k off len) v:=hv;simp only[qac,hk] at h0;obtain⟨h1,h2⟩:=h0;refine⟨h1,?_⟩;unfold OslV at h2;cases hb:J k with
 | none=>rw[hb] at h2;exact .inl ⟨rfl,h2⟩
 | some p =>
  obtain⟨b,o⟩:=p;rw[hb] at h2;obtain⟨x,cap,e1,e2,e3,e4⟩:=h2;exact .inr ⟨b,o,x,cap,rfl,e1,e2,e3,e4⟩
theorem qny {h:Hp} {k off:Nat} {len:Option Nat} {n:Int} (hl:lenOf h (.osl k off len)=some n) :
  ∃ (t:Ty) (xs:List t.den) (m:Md),h k=some (.rows t xs m)/\n=(wlen xs off len:Nat):=by
 cases len with
 | none =>
  simp only[lenOf] at hl;split at hl
  · rename_i t xs m hk;injection hl with hl;exact⟨t,xs,m,hk,by rw[<- hl];simp [wlen]⟩
  · cases hl
 | some c =>
  simp only[lenOf] at hl;split at hl
  · rename_i t xs m hk;injection hl with hl;exact⟨t,xs,m,hk,by rw[<- hl];simp [wlen]⟩
  · cases hl
theorem qlN {O:Nat->List Nat} (D:Deep w S J (get s.h) B.w0.heap.size B.Mo B.LT O) {k i:Nat} {e:Ty} {xs:List (Ty.os e).den} (hk:get s.h k=some (.rows (.os e) xs .own)) {b:Nat} (hb:J k=some (b,0)) {ys:List e.den} (hx:xs[i]?=some (some ys)) {v:Value}
   (hv:w.cell? ⟨b,0+i,none⟩=some v) :
   e.flat=true/\((ys=[]/\v=.slice none 0 0)\/∃ bi o cap c,bi∈O k/\v=.slice (some ⟨bi,o,none⟩) ys.length cap/\ys.length<=cap/\(cap=0\/o=0)/\Blk w bi c/\cap*e.size<=c.size/\qdG (Cell w S e) e.size w bi 0 ys):=by
 obtain⟨Fs,f1,f2,f3,f4⟩:=(D.row k _ xs b 0 hk hb).resolve_left (by simp [Ty.flat]);have hil:i<xs.length:=(List.getElem?_eq_some_iff.1 hx).1;obtain⟨F,hF⟩:∃ F,Fs[i]?=some F:=⟨_,List.getElem?_eq_getElem (by omega)⟩;obtain⟨ds,d1,d2,d3⟩:=f4 i _ F hx hF;obtain⟨h0,u,rfl,h1⟩:=d3;have hu:=d2 0 u rfl;simp only[Ty.size,Nat.mul_one,Nat.add_zero] at hu;rw[Nat.zero_add,hu] at hv;injection hv with hv
 subst hv;refine⟨h0,?_⟩;rcases h1 with ⟨h2,h3,_⟩ | ⟨bi,o,cap,c,rfl,h3,h4,h5,h6,h7,h8⟩
 · exact .inl ⟨h2,h3⟩
 · exact .inr ⟨bi,o,cap,c,f3 bi (List.mem_flatten.2 ⟨_,List.mem_of_getElem? hF,by simp⟩),h3,h4,h5,h6,h7,h8⟩
theorem qmx (R:Rel T B w S J s a) {k i:Nat} {e:Ty} {xs:List (Ty.os e).den} (hk:get s.h k=some (.rows (.os e) xs .own)) {ys:List e.den} (hx:xs[i]?=some (some ys)) {v:Value} (hv:qac w S J (get s.h) (.vw k i) v) :
  e.flat=true/\∃ b,J k=some (b,0)/\w.cell? ⟨b,0+i,none⟩=some v/\((ys=[]/\v=.slice none 0 0)\/∃ bi o cap c,v=.slice (some ⟨bi,o,none⟩) ys.length cap/\ys.length<=cap/\(cap=0\/o=0)/\Blk w bi c/\cap*e.size<=c.size/\qdG (Cell w S e) e.size w bi 0 ys):=by
 simp only[qac,hk] at hv;obtain⟨e',b,o,he,h1,hb,hc,_⟩:=hv;injection he with he
 subst he;have h0:=R.obs k _ hk;simp only[ORel,hb] at h0;obtain⟨_,_,_,_,ho⟩:=h0;have ho:=ho trivial;subst ho;obtain⟨O,D⟩:=R.deep;obtain⟨g1,g2⟩:=qlN D hk hb hx hc;refine⟨g1,b,hb,hc,g2.imp id ?_⟩;rintro⟨bi,o,cap,c,_,h⟩;exact⟨bi,o,cap,c,h⟩
theorem qvr (R:Rel T B w S J s a) (hT:TbOk P tb) {hp:Hp} (hs:Sub hp s) {T':TypeId} {e:TypeId} {t:Ty} {b:Nat} (hg:get tb T'=some (.slc e t b)) {p:PV} {n:Int} {v:Value}
  (h:lenOf hp p=some n) (hv:TRel w S J (get s.h) p v) (ty:TypeId):(Builtin.len_ #[T'] ty #[v]).run P w=.ok (.int .i64 n) w:=by
 have hu:=(hT T' _ hg).2.1;have fin:∀ (A:Option Addr) (m cap:Nat),(Builtin.len_ #[T'] ty #[.slice A m cap]).run P w=.ok (.int .i64 (m:Nat)) w:=fun A m cap=>by
  simp [Builtin.len_,run_underlying hu,goInt]
 cases p with
 | val t x =>
  cases t with
  | sl e =>
    simp only[lenOf] at h;injection h with h;subst h
    obtain⟨A,cap,hx,_⟩:=(show Cell w S (.sl e) x [v] from hv);have:v=.slice A x.length cap:=by simpa using hx
    subst this;exact fin _ _ _
  | str | os _ | op _=>simp [lenOf] at h
  | int k=>simp [lenOf] at h
  | bool=>simp [lenOf] at h
  | unit=>simp [lenOf] at h
  | pair a b=>simp [lenOf] at h
 | nil =>
  simp only[lenOf] at h;injection h with h;subst h
  have:v=.slice none 0 0:=hv;subst this;exact fin _ _ _
 | osl k off len =>
  obtain⟨t',xs,m,hk,rfl⟩:=qny h;obtain⟨_,h2⟩:=qdS R (hs k _ hk) hv;rcases h2 with ⟨_,_,h3,rfl⟩ | ⟨b,o,x,cap,_,rfl,_⟩
  · rw[h3];exact fin _ _ _
  · exact fin _ _ _
 | junk=>simp [lenOf] at h
 | ptr _ _ _=>simp [lenOf] at h
 | iptr _ _ _=>simp [lenOf] at h
 | nilp=>simp [lenOf] at h
 | vp _ _ _ _=>simp [lenOf] at h
 | vw _ _=>simp [lenOf] at h
 | agg _=>simp [lenOf] at h
 | tup _=>simp [lenOf] at h
 | clo _ _=>simp [lenOf] at h
 | fx _=>simp [lenOf] at h
theorem qsb {hp:Hp} {k i:Nat} {K:PV->Option R} {out:R} (h:qsc hp k i K=some out) :
   ∃ n:Nat,K (.val (.int .i64) (n:Int))=some out/\∀ {T:Told} {B:Base} {w:World} {S:Foot} {J:Con} {s:St} {a:Act} (v:Value),Rel T B w S J s a->Sub hp s->TRel w S J (get s.h) (.vw k i) v->∃ A cap,v=.slice A n cap:=by
 unfold qsc at h;split at h
 · rename_i e xs hk;cases hx:xs[i]? with
   | none=>rw[hx] at h;cases h
   | some x =>
    rw[hx] at h;cases x with
    | none=>cases h
    | some ys =>
     simp only[Option.bind_some] at h;refine⟨_,h,fun {T B w S J s a} v R hs hv=>?_⟩;obtain⟨_,_,_,_,h2⟩:=qmx R (hs k _ hk) hx hv;rcases h2 with ⟨rfl,rfl⟩ | ⟨bi,o,cap,c,rfl,_⟩
     · exact⟨_,_,rfl⟩
     · exact⟨_,_,rfl⟩
 · cases h
theorem qnu {n:Int} {m:Nat} (h0:0<=n) (h:n.toNat<m):n<(m:Int):=by omega
theorem qxf {n:Int} {m:Nat} (h0:0<=n) (h:n<(m:Int)):n.toNat<m:=by omega
theorem not_lt_zero {n:Int} (h0:0<=n) {m:Nat} (h:n<(m:Int)) (hm:m=0):False:=by omega
theorem qho {T' e:TypeId} {t:Ty} (hu:P.underlying T'=some (.slice e)) (he:TyOk P e t) (b o n cap:Nat) (k:IntKind) (i:Int) (h0:0<=i) (h1:i<n) (w:World) :
  (Instr.indexAt T' (.slice (some ⟨b,o,none⟩) n cap) (.int k i)).run P w=.ok (.pointer (some ⟨b,o+i.toNat*t.size,none⟩)) w:=by
 have hs:=qfj he w;simp [Instr.indexAt,asIntOf,run_underlying hu,h0,h1,hs,Addr.add_mid]
theorem qeW {T' e:TypeId} {t t2:Ty} (hu:P.underlying T'=some (.slice e)) (he:TyOk P e t) (ht:t2.size=t.size) (b o n cap:Nat) (k:IntKind) (i:Int) (h0:0<=i) (h1:i<n) (w:World) :
  (Instr.indexAt T' (.slice (some ⟨b,o,none⟩) n cap) (.int k i)).run P w=.ok (.pointer (some ⟨b,o+i.toNat*t2.size,none⟩)) w:=by
 rw[ht];exact qho hu he b o n cap k i h0 h1 w
theorem qlO {w:World} {S:Foot} {J:Con} {g:Hp} {e:Ty} {xs:List e.den} {v:Value} (h:TRel w S J g (.val (.sl e) xs) v) :
  ∃ A cap,v=.slice A xs.length cap/\xs.length<=cap/\RowA (Cell w S e) e.size w S A xs:=by
 obtain⟨A,cap,h1,h2,h3⟩:=(show Cell w S (.sl e) xs [v] from h);exact⟨A,cap,by simpa using h1,h2,h3⟩
theorem qmt (hT:TbOk P tb) {hp:Hp} {T':TypeId} {et:TypeId} {t:Ty} {bb:Nat} (hg:get tb T'=some (.slc et t bb)) {p q:PV} {K:PV->Option R} {out:R} (h:qjk hp t p q K=some out) :
   ∃ pv,K pv=some out/\∀ {T:Told} {B:Base} {w:World} {S:Foot} {J:Con} {s:St} {a:Act} (u v:Value),Rel T B w S J s a->Sub hp s->TRel w S J (get s.h) p u->TRel w S J (get s.h) q v ->
     ∃ z,(Instr.indexAt T' u v).run P w=.ok z w/\TRel w S J (get s.h) pv z:=by
 obtain⟨_,hu,he,_⟩:=hT T' _ hg;unfold qjk at h;split at h
 · rename_i e xs k n;split at h
   · rename_i het;obtain⟨h0,h⟩:=q8q h;have h0:=of_decide_eq_true h0;cases hx:xs[n.toNat]? with
     | none=>rw[hx] at h;cases h
     | some x =>
       rw[hx] at h;refine⟨_,h,fun {T B w S J s a} u v R hs hu' hv'=>?_⟩;obtain⟨A,cap,rfl,hc,hr⟩:=qlO hu';rw[hv'.int];have hlt:n<(xs.length:Int):=qnu h0 (List.getElem?_eq_some_iff.1 hx).1;rcases hr with hr | ⟨b,o,rfl,hS,hr⟩
       · subst hr;simp at hx
       · obtain ⟨ds, hd1, hd2⟩ := hr _ x hx;exact⟨_,qeW hu he het b o xs.length cap k n h0 hlt w,b,o+n.toNat*e.size,ds,by simp,hS,hd1,hd2⟩
   · cases h
 · rename_i k off kk n;split at h
   · rename_i t' xs m hk;split at h
     · rename_i het;obtain⟨h0,h⟩:=q8q h;simp only[Bool.and_eq_true,decide_eq_true_eq] at h0;refine⟨_,h,fun {T B w S J s a} u v R hs hu' hv'=>?_⟩;obtain⟨hw,h2⟩:=qdS R (hs k _ hk) hu';rw[hv'.int,qw0];rcases h2 with ⟨_,_,h3,rfl⟩ | ⟨b,o,x,cap,hb,rfl,hcap,hx,_⟩
       · exact(not_lt_zero h0.1 h0.2 (by simpa [wlen] using h3)).elim
       · obtain rfl : x = o + off * t'.size := hx.resolve_left (fun h => not_lt_zero h0.1 h0.2 (by first | (have := hcap; simp only [wlen] at this; simp; omega) | (have := hcap; simp only [wlen] at this; omega)))
         refine⟨_,qeW hu he het b _ _ cap kk n h0.1 (by simpa [wlen] using h0.2) w,?_⟩;have:qac w S J (get s.h) (.ptr k (off+n.toNat) 0) (.pointer (some ⟨b,o+off*t'.size+n.toNat*t'.size,none⟩)):=by
          simp only[qac,hs k _ hk];exact⟨b,o,hb,by simp [Ob.sz,Nat.add_mul,Nat.add_assoc]⟩
         exact this.up
     · cases h
   · cases h
 · rename_i k off mm kk n;split at h
   · rename_i t' xs m hk;split at h
     · rename_i het;obtain⟨h0,h⟩:=q8q h;simp only[Bool.and_eq_true,decide_eq_true_eq] at h0;refine⟨_,h,fun {T B w S J s a} u v R hs hu' hv'=>?_⟩;obtain⟨hw,h2⟩:=qdS R (hs k _ hk) hu';rw[hv'.int,qw0];rcases h2 with ⟨_,_,h3,rfl⟩ | ⟨b,o,x,cap,hb,rfl,hcap,hx,_⟩
       · exact(not_lt_zero h0.1 h0.2 (by simpa [wlen] using h3)).elim
       · obtain rfl : x = o + off * t'.size := hx.resolve_left (fun h => not_lt_zero h0.1 h0.2 (by first | (have := hcap; simp only [wlen] at this; simp; omega) | (have := hcap; simp only [wlen] at this; omega)))
         refine⟨_,qeW hu he het b _ _ cap kk n h0.1 (by simpa [wlen] using h0.2) w,?_⟩;have:qac w S J (get s.h) (.ptr k (off+n.toNat) 0) (.pointer (some ⟨b,o+off*t'.size+n.toNat*t'.size,none⟩)):=by
          simp only[qac,hs k _ hk];exact⟨b,o,hb,by simp [Ob.sz,Nat.add_mul,Nat.add_assoc]⟩
         exact this.up
     · cases h
   · cases h
 · cases h
theorem qpz (hT:TbOk P tb) {hp:Hp} {T':TypeId} {et:TypeId} {t:Ty} {bb:Nat} (hg:get tb T'=some (.slc et t bb)) {p q:PV} {K:PV->Option R} {out:R} (h:qnG hp t p q K=some out) :
   ∃ pv,K pv=some out/\∀ {T:Told} {B:Base} {w:World} {S:Foot} {J:Con} {s:St} {a:Act} (u v:Value),Rel T B w S J s a->Sub hp s->TRel w S J (get s.h) p u->TRel w S J (get s.h) q v ->
     ∃ z,(Instr.indexAt T' u v).run P w=.ok z w/\TRel w S J (get s.h) pv z:=by
 obtain⟨_,hu,he,_⟩:=hT T' _ hg;unfold qnG at h;split at h
 · rename_i k m kk n;split at h
   · rename_i e xs hk;split at h
     · rename_i het;subst het;cases hx:xs[m]? with
       | none=>rw[hx] at h;cases h
       | some x =>
        rw[hx] at h;cases x with
        | none=>cases h
        | some ys =>
         simp only[Option.bind_some] at h;obtain⟨h0,h⟩:=q8q h;simp only[Bool.and_eq_true,decide_eq_true_eq] at h0;refine⟨_,h,fun {T B w S J s a} u v R hs hu' hv'=>?_⟩;obtain⟨_,b,hb,hc,h2⟩:=qmx R (hs k _ hk) hx hu';rw[hv'.int];rcases h2 with ⟨rfl,rfl⟩ | ⟨bi,o,cap,c,rfl,h3,h4,_⟩
         · exact(not_lt_zero h0.1 h0.2 rfl).elim
         · refine ⟨_, qho hu he bi o _ cap kk n h0.1 h0.2 w, ?_⟩;have:qac w S J (get s.h) (.vp k m n.toNat 0) (.pointer (some ⟨bi,o+n.toNat*e.size,none⟩)):=by
            simp only[qac,hs k _ hk];exact⟨e,b,0,bi,o,_,cap,rfl,(List.getElem?_eq_some_iff.1 hx).1,hb,hc,qxf h0.1 h0.2,by simp⟩
           exact this.up
     · cases h
   · cases h
 · exact qmt hT hg h
theorem qlH {w:World} {S:Foot} {t':Ty}:∀ {t:Ty} {x:t.den} {off:Nat} {y:t'.den} {ds:List Value},t'.getAt t x off=some y->Cell w S t x ds ->
  Cell w S t' y ((ds.drop off).take t'.size)/\off+t'.size<=ds.length:=by
 intro t;have base:∀ {t:Ty} {x:t.den} {off:Nat} {y:t'.den} {ds:List Value},(bif Nat.beq off 0 then cst (t':=t') x else none)=some y->Cell w S t x ds ->
   Cell w S t' y ((ds.drop off).take t'.size)/\off+t'.size<=ds.length:=by
  intro t x off y ds h hc;obtain⟨h0,h⟩:=q8q h;have h0:=Nat.eq_of_beq_eq_true h0;subst h0;obtain⟨rfl,rfl⟩:=qra h;have hl:=hc.length;exact⟨by simpa [<- hl] using hc,by omega⟩
 induction t with
 | pair a b iha ihb =>
  intro x off y ds h hc;simp only[Ty.getAt] at h;cases hq:(decide (Ty.pair a b=t')&&Nat.beq off 0) with
  | true =>
   rw[hq] at h;simp only[Bool.and_eq_true] at hq;exact base (t:=.pair a b) (off:=off) (by rw[hq.2];exact h) hc
  | false =>
   rw[hq] at h;simp only[cond_false] at h;obtain⟨c1,c2,rfl,h1,h2⟩:=hc;have hl1:=h1.length;have hl2:=h2.length;cases hb:Nat.blt off a.size with
   | true =>
    rw[hb] at h;obtain⟨e1,e2⟩:=iha h h1;refine⟨?_,by simp;omega⟩;rw[List.drop_append_of_le_length (by omega),List.take_append_of_le_length (by simp;omega)];exact e1
   | false =>
    rw[hb] at h;have hle:a.size<=off:=by
     cases hh:Nat.decLt off a.size with
     | isTrue hlt=>have:Nat.blt off a.size=true:=Nat.ble_eq_true_of_le hlt;rw[this] at hb;cases hb
     | isFalse hlt=>omega
    obtain⟨e1,e2⟩:=ihb h h2;refine⟨?_,by simp;omega⟩;rw[List.drop_append,List.drop_eq_nil_of_le (by omega:c1.length<=off),List.nil_append,hl1];exact e1
 | int k=>intro x off y ds h hc;exact base h hc
 | bool=>intro x off y ds h hc;exact base h hc
 | str | os _ _ | op _ _=>intro x off y ds h hc;exact base h hc
 | unit=>intro x off y ds h hc;exact base h hc
 | sl e ih=>intro x off y ds h hc;exact base h hc
theorem At.part {w:World} {b o off n:Nat} {ds:List Value} (h:At w b o ds):At w b (o+off) ((ds.drop off).take n):=fun j v hv=>by
 rw[List.getElem?_take] at hv;split at hv
 · rw [List.getElem?_drop] at hv;have:=h (off+j) v hv
   rwa [<- Nat.add_assoc] at this
 · cases hv
theorem All2.at {w:World} {b:Nat} {c:Array Value} (hb:Blk w b c) (off n:Nat):At w b off ((c.toList.drop off).take n):=fun j v hv=>by
 rw[List.getElem?_take] at hv;split at hv
 · rw [hb.cell];simpa using hv
 · cases hv
theorem qsa (hT:TbOk P tb) {hp:Hp} {T':TypeId} {p:PV} {K:PV->Option R} {out:R} (h:qkd tb hp T' p K=some out) :
   ∃ pv,K pv=some out/\∀ {T:Told} {B:Base} {w:World} {S:Foot} {J:Con} {s:St} {a:Act} (u:Value),Rel T B w S J s a->Sub hp s->TRel w S J (get s.h) p u ->
     ∃ z,(Instr.loadAt T' u).run P w=.ok z w/\TRel w S J (get s.h) pv z:=by
 unfold qkd at h;split at h
 · rename_i t x off;split at h
   · rename_i t' ht';split at h
     · rename_i y hy;refine⟨_,h,fun {T B w S J s a} u R hs hu=>?_⟩;obtain⟨b,o,ds,rfl,hS,hc,ha⟩:=(show qac w S J (get s.h) (.iptr t x off) u from hu);obtain⟨e1,e2⟩:=qlH hy hc;exact⟨_,qb8 (hT.ty ht') w b (o+off) _ e1.length ha.part,(qrp e1).up⟩
     · cases h
   · cases h
 · rename_i k i off;split at h
   · rename_i t xs m hk;split at h
     · rename_i t' ht';cases hx:xs[i]? with
       | none=>rw[hx] at h;cases h
       | some x =>
         rw[hx] at h;simp only[Option.bind_some] at h;split at h
         · rename_i y hy;refine⟨_,h,fun {T B w S J s a} u R hs hu=>?_⟩;have hk':=hs k _ hk;have hu':qac w S J (get s.h) (.ptr k i off) u:=hu;simp only[qac,hk'] at hu';obtain⟨b,o,hb,rfl⟩:=hu';obtain⟨ds,hd1,hd2⟩:=R.rows k t xs m b o hk' hb i x hx;obtain⟨e1,e2⟩:=qlH hy hd1;exact⟨_,qb8 (hT.ty ht') w b (o+i*t.size+off) _ e1.length hd2.part,(qrp e1).up⟩
         · cases h
     · cases h
   · rename_i l hk;have h2:=q8q h;clear h;obtain⟨hi,h⟩:=h2;have hi:=Nat.eq_of_beq_eq_true hi;subst hi;have box:∀ {T:Told} {B:Base} {w:World} {S:Foot} {J:Con} {s:St} {a:Act} {u:Value},Rel T B w S J s a->Sub hp s->TRel w S J (get s.h) (.ptr k 0 off) u ->
         ∃ b c,u=.pointer (some ⟨b,off,none⟩)/\Blk w b c/\All2 (qac w S J (get s.h)) l c.toList:=by
       intro T B w S J s a u R hs hu;have hk':=hs k _ hk;have hu':qac w S J (get s.h) (.ptr k 0 off) u:=hu;simp only[qac,hk'] at hu';obtain⟨b,o,hb,rfl⟩:=hu';obtain⟨b',c,hb',hc,hl,_⟩:=R.obs k _ hk';rw[hb] at hb';injection hb' with hb'
       injection hb' with hb' ho
       subst hb';subst ho;exact⟨b,c,by simp,hc,hl⟩
     split at h
     · rename_i t fs q hg;obtain⟨hle,h⟩:=q8q h;have hle:=Nat.le_of_ble_eq_true hle;refine⟨_,h,fun {T B w S J s a} u R hs hu=>?_⟩;obtain⟨b,c,rfl,hc,hl⟩:=box R hs hu;have hty:tb.ty T'=some t:=by unfold Tb.ty;rw[hg]
       have hall:=(hl.drop off).take t.size;have hag:t.isAgg=true:=(hT _ _ hg).2.1;have hlen:((c.toList.drop off).take t.size).length=t.size:=by rw[<- hall.length];simp;omega
       refine⟨_,qb8 (hT.ty hty) w b off _ hlen (All2.at hc off t.size),?_⟩;simp only[vOf,hag,if_true];exact⟨_,rfl,hall.map_left fun _ _ h=>h.unfx⟩
     · cases h
     · rename_i te hne hna hg;split at h
       · rename_i v hv;refine⟨_,h,fun {T B w S J s a} u R hs hu=>?_⟩;obtain⟨b,c,rfl,hc,hl⟩:=box R hs hu;obtain⟨x,hx,hr⟩:=hl.get hv;have hcell:w.cell? ⟨b,off,none⟩=some x:=by rw[hc.cell];simpa using hx
         have hia:(isAgg T').run P w=.ok false w:=by
           cases te with
           | sc t=>have:=qhn (hT.ty (T:=T') (t:=t) (by unfold Tb.ty;rw[hg])) w;rwa [(hT _ _ hg).2.1] at this
           | slc e t b'=>exact qhn (hT.ty (T:=T') (t:=.sl t) (by unfold Tb.ty;rw[hg])) w
           | stc t fs q=>exact absurd rfl (hne t fs q)
           | pt e l=>have hu:=(hT _ _ hg).2;unfold isAgg;rw[Sem.run_bind,run_underlying hu w];rfl
           | arr e t=>exact absurd rfl (hna e t)
         exact⟨x,by simp [Instr.loadAt,Instr.sureAddr,loadVar,hia,hcell],hr.unfx.up⟩
       · cases h
     · cases h
   · cases h
 · cases h
theorem qxN {o:Option PV} {r:Option Int} (h:bnd o=some r):(o=none/\r=none)\/∃ k n,o=some (.val (.int k) n)/\r=some n:=by
 unfold bnd at h;split at h
 · injection h with h;exact .inl ⟨rfl,h.symm⟩
 · injection h with h;exact .inr ⟨_,_,rfl,h.symm⟩
 · cases h
def BRel (w:World) (S:Foot) (J:Con) (g:Hp):Option PV->Option Value->Prop
 | none,none=>True
 | some p,some v=>TRel w S J g p v
 | _,_=>False
theorem qcZ {T' e:TypeId} {t:Ty} (hu:P.underlying T'=some (.slice e)) (he:TyOk P e t) (A:Option Addr) (len cap:Nat) (lo hi mx:Option Value) (l:Option Int) (u m:Option Int)
   (hlo:(lo=none/\l=none)\/∃ k n,lo=some (.int k n)/\l=some n) (hhi:(hi=none/\u=none)\/∃ k n,hi=some (.int k n)/\u=some n)
   (hmx:(mx=none/\m=none)\/∃ k n,mx=some (.int k n)/\m=some n) (hmu:m≠none->u≠none)
   (h0:0<=l.getD 0) (h1:l.getD 0<=u.getD len) (h2:u.getD len<=m.getD cap) (h3:m.getD cap<=cap) (w:World) :
   (Instr.sliceAt T' (.slice A len cap) lo hi mx).run P w=.ok (.slice (if (m.getD cap).toNat=(l.getD 0).toNat then A else A.map (·.add ((l.getD 0).toNat*t.size))) ((u.getD len).toNat-(l.getD 0).toNat) ((m.getD cap).toNat-(l.getD 0).toNat)) w:=by
 have hs:=qfj he w;have hu0:0<=u.getD len:=Int.le_trans h0 h1;have hm0:0<=m.getD cap:=Int.le_trans hu0 h2;have toNat:∀ x:Int,0<=x->(x.toNat:Int)=x:=fun x h=>Int.toNat_of_nonneg h
 rcases hlo with ⟨rfl,rfl⟩ | ⟨kl,nl,rfl,rfl⟩<;>rcases hhi with ⟨rfl,rfl⟩ | ⟨kh,nh,rfl,rfl⟩<;>rcases hmx with ⟨rfl,rfl⟩ | ⟨km,nm,rfl,rfl⟩ <;>
   simp only[Option.getD_none,Option.getD_some] at h0 h1 h2 h3 hu0 hm0 ⊢
 · simp [Instr.sliceAt,Instr.slice,run_underlying hu,Instr.sliceBounds,hs]
 · exact absurd rfl (hmu (by simp))
 · simp [Instr.sliceAt,Instr.slice,run_underlying hu,Instr.sliceBounds,run_sliceBound,hs,h1,h2]
 · simp [Instr.sliceAt,Instr.slice,run_underlying hu,Instr.sliceBounds,run_sliceBound,hs,h1,h2,h3,hm0,toNat _ hm0]
 · simp [Instr.sliceAt,Instr.slice,run_underlying hu,Instr.sliceBounds,run_sliceBound,hs,h0,h1]
 · exact absurd rfl (hmu (by simp))
 · simp [Instr.sliceAt,Instr.slice,run_underlying hu,Instr.sliceBounds,run_sliceBound,hs,h0,h1,h2,hu0,toNat _ hu0]
 · simp [Instr.sliceAt,Instr.slice,run_underlying hu,Instr.sliceBounds,run_sliceBound,hs,h0,h1,h2,h3,hu0,hm0,toNat _ hu0,toNat _ hm0]
theorem BRel.bnd {w:World} {S:Foot} {J:Con} {g:Hp} {o:Option PV} {v:Option Value} {r:Option Int} (h:BRel w S J g o v) (hb:bnd o=some r) :
   (v=none/\r=none)\/∃ k n,v=some (.int k n)/\r=some n:=by
 rcases qxN hb with ⟨rfl,rfl⟩ | ⟨k,n,rfl,rfl⟩
 · cases v with
   | none=>exact .inl ⟨rfl,rfl⟩
   | some v=>exact h.elim
 · cases v with
   | none=>exact h.elim
   | some v=>exact .inr ⟨k,n,by rw[TRel.int (show TRel w S J g (.val (.int k) n) v from h)],rfl⟩
theorem qoj (R:Rel T B w S J s a) {k off:Nat} {len len':Option Nat} {t:Ty} {xs:List t.den} {m:Md} {A:Option Addr} {n cap l:Nat} (hk:get s.h k=some (.rows t xs m))
  (hv:TRel w S J (get s.h) (.osl k off len) (.slice A n cap)) {u mm:Nat} (h1:l<=u) (h2:u<=mm) (h3:mm<=cap) (h4:u<=wlen xs off len)
  (hl':wlen xs (off+l) len'=u-l) (hw':qf1 xs (off+l) len') :
  TRel w S J (get s.h) (.osl k (off+l) len') (.slice (if mm=l then A else A.map (·.add (l*t.size))) (u-l) (mm-l)):=by
 obtain⟨hw,h⟩:=qdS R hk hv;have:qac w S J (get s.h) (.osl k (off+l) len') (.slice (if mm=l then A else A.map (·.add (l*t.size))) (u-l) (mm-l)):=by
  simp only[qac,hk];refine⟨hw',?_⟩;rw[hl'];unfold OslV;rcases h with ⟨hb,rfl,h0,he⟩ | ⟨b,o,x,c,hb,he,hc,hx,ho⟩
  · rw [hb];injection he with e1 e2 e3
    subst e1;have hl:l=0:=by omega
    have hu:u=0:=by omega
    have hm:mm=0:=by omega
    subst hl;subst hu;subst hm;exact⟨rfl,rfl,by simp⟩
  · rw [hb];injection he with e1 e2 e3
    subst e1;subst e3;by_cases hm:mm=l
    · refine ⟨x, mm - l, by simp [hm], by omega, .inl (by omega), fun hmo => ?_⟩;obtain⟨cc,hc1,hc2⟩:=ho hmo;exact⟨cc,hc1,Nat.le_trans (Nat.mul_le_mul_right _ (by omega)) hc2⟩
    · obtain rfl : x = o + off * t.size := hx.resolve_left (by omega);refine⟨o+(off+l)*t.size,mm-l,by simp [hm,Addr.add_mid,Nat.add_mul,Nat.add_assoc],by omega,.inr rfl,fun hmo=>?_⟩;obtain⟨cc,hc1,hc2⟩:=ho hmo;exact⟨cc,hc1,Nat.le_trans (Nat.mul_le_mul_right _ (by omega)) hc2⟩
 exact this.up
theorem qjx {w:World} {S:Foot} {J:Con} {g:Hp} {e:Ty} {xs:List e.den} {A:Option Addr} {cap l u mm:Nat} (hr:RowA (Cell w S e) e.size w S A xs)
   (h1:l<=u) (h2:u<=mm) (h3:mm<=cap) (h4:u<=xs.length) :
   TRel w S J g (.val (.sl e) ((xs.take u).drop l)) (.slice (if mm=l then A else A.map (·.add (l*e.size))) (u-l) (mm-l)):=by
 have hlen:((xs.take u).drop l).length=u-l:=by simp;omega
 refine⟨if mm=l then A else A.map (·.add (l*e.size)),mm-l,by rw[hlen],by rw[hlen];omega,?_⟩;by_cases hm:mm=l
 · exact .inl (List.eq_nil_of_length_eq_zero (by omega))
 · rcases hr with rfl | ⟨b, o, rfl, hS, hr⟩
   · exact .inl (by simp)
   · refine .inr ⟨b, o + l * e.size, by simp [hm, Addr.add_mid], hS, fun i x hx => ?_⟩;rw[List.getElem?_drop,List.getElem?_take] at hx;split at hx
     · obtain ⟨ds, hd1, hd2⟩ := hr _ x hx;exact⟨ds,hd1,by rw[Nat.add_mul,<- Nat.add_assoc] at hd2;exact hd2⟩
     · cases hx
end
variable {T:Told} {P:Program} {tb:Tb}
section
variable {R:Type}
theorem qjT {x:Int} (h:0<=x):∃ n:Nat,x=n:=⟨x.toNat,(Int.toNat_of_nonneg h).symm⟩
theorem qq1 (hT:TbOk P tb) {hp:Hp} {T':TypeId} {et:TypeId} {t:Ty} {bb:Nat} (hg:get tb T'=some (.slc et t bb)) {p:PV} {lo hi mx:Option PV} {K:PV->Option R} {out:R} (h:qmG hp t p lo hi mx K=some out) :
   ∃ pv,K pv=some out/\∀ {T:Told} {B:Base} {w:World} {S:Foot} {J:Con} {s:St} {a:Act} (u:Value) (lo' hi' mx':Option Value),Rel T B w S J s a->Sub hp s->TRel w S J (get s.h) p u ->
     BRel w S J (get s.h) lo lo'->BRel w S J (get s.h) hi hi'->BRel w S J (get s.h) mx mx' ->
     ∃ z,(Instr.sliceAt T' u lo' hi' mx').run P w=.ok z w/\TRel w S J (get s.h) pv z:=by
 obtain⟨_,hu,he,_⟩:=hT T' _ hg;unfold qmG at h;split at h
 · rename_i l k off len hbl hbh hbm;split at h
   · rename_i n hn;obtain⟨t',xs,m,hk,rfl⟩:=qny hn;rw[hk] at h;simp only at h;split at h
     · rename_i het;subst het;have hb:=q8q h;clear h;obtain⟨h0,h⟩:=hb;simp only[Bool.and_eq_true,decide_eq_true_eq] at h0;obtain⟨h0,h1⟩:=h0;obtain⟨ln,hln⟩:=qjT h0;have hln':(l.getD 0).toNat=ln:=by omega
       refine⟨_,h,fun {T B w S J s a} u lo' hi' mx' R hs hu' h4 h5 h6=>?_⟩;obtain⟨hw,h2⟩:=qdS R (hs k _ hk) hu';have hval:∃ A cap,u=.slice A (wlen xs off len) cap/\wlen xs off len<=cap:=by
         rcases h2 with ⟨_,_,h3,rfl⟩ | ⟨b,o,x,cap,hb,rfl,hcap,_⟩
         · exact⟨none,0,by rw[h3],by omega⟩
         · exact⟨_,cap,rfl,hcap⟩
       obtain⟨A,cap,rfl,hcap⟩:=hval;refine⟨_,qcZ hu he A _ cap lo' hi' mx' l none none (h4.bnd hbl) (h5.bnd hbh) (h6.bnd hbm) (fun h=>absurd rfl h) h0 (by simpa using h1) (by simpa using hcap) (by simp) w,?_⟩;simp only[Option.getD_none,Int.toNat_natCast,hln',qw0];refine qoj R (hs k _ hk) hu' (u:=wlen xs off len) (mm:=cap) (by omega) hcap (Nat.le_refl _) (Nat.le_refl _) ?_ ?_
       · cases len with
         | none=>simp [wlen];omega
         | some c=>simp only[wlen] at *;omega
       · have := qhh hw;cases len with
         | none=>simp only[qf1,wlen] at *;omega
         | some c=>simp only[qf1,wlen] at *;omega
     · cases h
   · cases h
 · rename_i l uu m k off len hbl hbh hbm;split at h
   · rename_i n hn;obtain⟨t',xs,md,hk,rfl⟩:=qny hn;rw[hk] at h;simp only at h;split at h
     · rename_i het;subst het;have hb:=q8q h;clear h;obtain⟨h0,h⟩:=hb;simp only[Bool.and_eq_true,decide_eq_true_eq] at h0;obtain⟨⟨⟨h0,h1⟩,h2⟩,h3⟩:=h0;obtain⟨ln,hln⟩:=qjT h0;obtain⟨un,rfl⟩:=qjT (Int.le_trans h0 h1);have hln':(l.getD 0).toNat=ln:=by omega
       refine⟨_,h,fun {T B w S J s a} u lo' hi' mx' R hs hu' h4 h5 h6=>?_⟩;obtain⟨hw,hv2⟩:=qdS R (hs k _ hk) hu';have hval:∃ A cap,u=.slice A (wlen xs off len) cap/\wlen xs off len<=cap:=by
         rcases hv2 with ⟨_,_,h3,rfl⟩ | ⟨b,o,x,cap,hb,rfl,hcap,_⟩
         · exact⟨none,0,by rw[h3],by omega⟩
         · exact⟨_,cap,rfl,hcap⟩
       obtain⟨A,cap,rfl,hcap⟩:=hval;have hmc:∃ mn:Nat,m.getD cap=mn/\un<=mn/\mn<=cap:=by
         cases m with
         | none=>exact⟨cap,rfl,by simp at h2 h3;omega,Nat.le_refl _⟩
         | some mi =>
           simp only[Option.getD_some] at h2 h3 ⊢;obtain⟨mn,rfl⟩:=qjT (Int.le_trans (Int.le_trans h0 h1) h2);exact⟨mn,rfl,by omega,by omega⟩
       obtain⟨mn,hmn,hm1,hm2⟩:=hmc;have hun:un<=wlen xs off len:=by
         cases m with
         | none=>simp at h3;omega
         | some mi=>simp at h2 h3;omega
       refine⟨_,qcZ hu he A _ cap lo' hi' mx' l (some (un:Int)) m (h4.bnd hbl) (h5.bnd hbh) (h6.bnd hbm) (fun _=>by simp) h0 (by simpa using h1) (by rw[hmn];simp;omega) (by rw[hmn];omega) w,?_⟩;simp only[Option.getD_some,hmn,Int.toNat_natCast,hln',qw0];refine qoj R (hs k _ hk) hu' (by omega) hm1 hm2 hun ?_ ?_
       · simp [wlen];omega
       · have := qhh hw;simp only[qf1];omega
     · cases h
   · cases h
 · rename_i uu e xs hbl hbh hbm;split at h
   · rename_i het;subst het;have hb:=q8q h;clear h;obtain⟨h0,h⟩:=hb;simp only[Bool.and_eq_true,decide_eq_true_eq] at h0;obtain⟨h0,h1⟩:=h0;obtain⟨un,rfl⟩:=qjT h0;refine⟨_,h,fun {T B w S J s a} u lo' hi' mx' R hs hu' h4 h5 h6=>?_⟩;obtain⟨A,cap,rfl,hc,hr⟩:=qlO hu';refine⟨_,qcZ hu he A _ cap lo' hi' mx' none (some (un:Int)) none (h4.bnd hbl) (h5.bnd hbh) (h6.bnd hbm) (fun _=>by simp) (by simp) (by simp) (by simp;omega) (by simp) w,?_⟩;have:=qjx (w:=w) (S:=S) (J:=J) (g:=get s.h) (l:=0) (u:=un) (mm:=cap) hr (by omega) (by omega) (Nat.le_refl _) (by omega);simpa using this
   · cases h
 · rename_i uu m e xs hbl hbh hbm;split at h
   · rename_i het;subst het;have hb:=q8q h;clear h;obtain⟨h0,h⟩:=hb;simp only[Bool.and_eq_true,decide_eq_true_eq] at h0;obtain⟨⟨h0,h1⟩,h2⟩:=h0;obtain⟨un,rfl⟩:=qjT h0;obtain⟨mn,rfl⟩:=qjT (Int.le_trans h0 h1);refine⟨_,h,fun {T B w S J s a} u lo' hi' mx' R hs hu' h4 h5 h6=>?_⟩;obtain⟨A,cap,rfl,hc,hr⟩:=qlO hu';refine⟨_,qcZ hu he A _ cap lo' hi' mx' none (some (un:Int)) (some (mn:Int)) (h4.bnd hbl) (h5.bnd hbh) (h6.bnd hbm) (fun _=>by simp) (by simp) (by simp) (by simp;omega) (by simp;omega) w,?_⟩;have:=qjx (w:=w) (S:=S) (J:=J) (g:=get s.h) (l:=0) (u:=un) (mm:=mn) (cap:=cap) hr (by omega) (by omega) (by omega) (by omega);simpa using this
   · cases h
 · rename_i l e xs hbl hbh hbm;split at h
   · rename_i het;subst het;have hb:=q8q h;clear h;obtain⟨h0,h⟩:=hb;simp only[Bool.and_eq_true,decide_eq_true_eq] at h0;obtain⟨h0,h1⟩:=h0;obtain⟨ln,rfl⟩:=qjT h0;refine⟨_,h,fun {T B w S J s a} u lo' hi' mx' R hs hu' h4 h5 h6=>?_⟩;obtain⟨A,cap,rfl,hc,hr⟩:=qlO hu';refine⟨_,qcZ hu he A _ cap lo' hi' mx' (some (ln:Int)) none none (h4.bnd hbl) (h5.bnd hbh) (h6.bnd hbm) (fun h=>absurd rfl h) (by simp) (by simpa using h1) (by simp;omega) (by simp) w,?_⟩;have:=qjx (w:=w) (S:=S) (J:=J) (g:=get s.h) (l:=ln) (u:=xs.length) (mm:=cap) hr (by omega) (by omega) (Nat.le_refl _) (Nat.le_refl _);simpa using this
   · cases h
 · rename_i l uu e xs hbl hbh hbm;split at h
   · rename_i het;subst het;have hb:=q8q h;clear h;obtain⟨h0,h⟩:=hb;simp only[Bool.and_eq_true,decide_eq_true_eq] at h0;obtain⟨⟨h0,h1⟩,h2⟩:=h0;obtain⟨ln,rfl⟩:=qjT h0;obtain⟨un,rfl⟩:=qjT (Int.le_trans h0 h1);refine⟨_,h,fun {T B w S J s a} u lo' hi' mx' R hs hu' h4 h5 h6=>?_⟩;obtain⟨A,cap,rfl,hc,hr⟩:=qlO hu';refine⟨_,qcZ hu he A _ cap lo' hi' mx' (some (ln:Int)) (some (un:Int)) none (h4.bnd hbl) (h5.bnd hbh) (h6.bnd hbm) (fun _=>by simp) (by simp) (by simpa using h1) (by simp;omega) (by simp) w,?_⟩;have:=qjx (w:=w) (S:=S) (J:=J) (g:=get s.h) (l:=ln) (u:=un) (mm:=cap) hr (by omega) (by omega) (Nat.le_refl _) (by omega);simpa using this
   · cases h
 · cases h
end
variable {T:Told} {P:Program} {tb:Tb}
theorem qvM (off:Nat):∀ (vs:List Value) (k:Nat) (c:Array Value),off+k+vs.length<=c.size ->
  (vs.zipIdx k).foldl (fun cs p=>cs.setIfInBounds (off+p.2) p.1) c=qaP c (off+k) vs:=by
 intro vs
 induction vs with
 | nil=>intro k c h;simp [qaP]
 | cons v vs ih =>
  intro k c h;simp only[List.length_cons] at h;simp only[List.zipIdx_cons,List.foldl_cons];rw[ih (k+1) _ (by simp;omega)];apply Array.ext
  · rw[qbo (by simp;omega),qbo (by simp;omega)];simp
  · intro j h1 h2;rw[qbo (by simp;omega)] at h1;have e1:(qaP (c.setIfInBounds (off+k) v) (off+(k+1)) vs)[j]?=(qaP c (off+k) (v::vs))[j]?:=by
     by_cases hj:j<off+k
     · rw[qbu (by simp;omega) (.inl (by omega)),qbu (by simp;omega) (.inl hj),Array.getElem?_setIfInBounds_ne (by omega)]
     · by_cases hj2 : j = off + k
       · subst hj2;rw[qbu (by simp;omega) (.inl (by omega))];have:=qej (c:=c) (o:=off+k) (vs:=v::vs) (by simp;omega) (j:=0) (by simp);rw[Nat.add_zero] at this;rw[this,Array.getElem?_setIfInBounds_self_of_lt (by omega)];rfl
       · by_cases hj3 : j < off + k + 1 + vs.length
         · have a1 := qej (c := c.setIfInBounds (off + k) v) (o := off + (k + 1)) (vs := vs) (by simp; omega) (j := j - (off + (k + 1))) (by omega);have a2:=qej (c:=c) (o:=off+k) (vs:=v::vs) (by simp;omega) (j:=j-(off+k)) (by simp;omega);rw[show off+(k+1)+(j-(off+(k+1)))=j by omega] at a1;rw[show off+k+(j-(off+k))=j by omega] at a2;rw[a1,a2,show j-(off+k)=(j-(off+(k+1)))+1 by omega];rfl
         · rw[qbu (by simp;omega) (.inr (by omega)),qbu (by simp;omega) (.inr (by simp;omega)),Array.getElem?_setIfInBounds_ne (by omega)]
    rw[Array.getElem?_eq_getElem (by rw[qbo (by simp;omega)];exact h1),Array.getElem?_eq_getElem h2] at e1;injection e1
theorem qlg (c:Array Value) (off:Nat) (v:Array Value) (h:off+v.size<=c.size) :
  v.zipIdx.foldl (fun cs p=>cs.setIfInBounds (off+p.2) p.1) c=qaP c off v.toList:=by
 rw[<- Array.foldl_toList,Array.toList_zipIdx];exact qvM off v.toList 0 c (by simpa using h)
section
variable {R:Type} {B:Base} {w:World} {S:Foot} {J:Con} {s:St} {a:Act} {g:Hp}
theorem All2.setCells {l:List PV} {c:Array Value} {off:Nat} {v:List PV} {vs:List Value} (h:All2 (qac w S J g) l c.toList) (hv:All2 (qac w S J g) v vs) :
  All2 (qac w S J g) (setCells l off v) (qaP c off vs).toList:=by
 simp only[X.setCells,qaP];rw[hv.length];simpa using ((h.take off).append hv).append (h.drop (off+vs.length))
theorem TRel.cells {pv:PV} {u:Value} (h:TRel w S J g pv u) (hn:qca pv.cells=true):∃ vs:List Value,u.cells=vs.toArray/\All2 (qac w S J g) pv.cells vs/\(∀ v∈vs,v.oneCell'=true):=by
 have nj:∀ l:List PV,qca l=true->∀ p∈l,p≠.junk:=by
  intro l
  induction l with
  | nil=>intro _ p hp;simp at hp
  | cons x l ih=>intro hl p hp;cases x<;>simp [qca] at hl<;>(rcases List.mem_cons.1 hp with rfl | hp;simp;exact ih hl p hp)
 have one:∀ {p:PV},qac w S J g p u->p≠.junk->∃ vs:List Value,u.cells=vs.toArray/\All2 (qac w S J g) [p] vs/\(∀ v∈vs,v.oneCell'=true):=by
  intro p hp hj;have h1:=hp.one hj;refine⟨[u],?_,⟨hp,trivial⟩,by simpa using h1⟩;cases u<;>first | rfl | (simp [Value.oneCell'] at h1)
 cases pv with
 | agg l =>
  obtain⟨vs,rfl,hl⟩:=h;refine⟨vs,rfl,hl,fun v hv=>?_⟩;obtain⟨p,hp,hr⟩:=hl.mem_right v hv;exact hr.one (nj l hn p hp)
 | tup l=>simp [PV.cells,qca] at hn
 | clo f l=>simp [PV.cells,qca] at hn
 | junk=>simp [PV.cells,qca] at hn
 | val t x=>exact one (p:=.val t x) h (by simp)
 | nil=>exact one (p:=.nil) h (by simp)
 | nilp=>exact one (p:=.nilp) h (by simp)
 | vw k i=>exact one (p:=.vw k i) h (by simp)
 | vp k i j off=>exact one (p:=.vp k i j off) h (by simp)
 | fx k=>simp [PV.cells,qca] at hn
 | iptr t x off=>exact one (p:=.iptr t x off) h (by simp)
 | osl k off len=>exact one (p:=.osl k off len) h (by simp)
 | ptr k i off=>exact one (p:=.ptr k i off) h (by simp)
theorem qob (w:World) (S:Foot) (J:Con) (g:Hp) (t:Ty):All2 (qac w S J g) (qoc t) (qlf t):=by
 have aux:∀ t:Ty,All2 (qac w S J g) ((t.split t.zero).map fun v=>match v with | .val (.sl _) _=>.nil | .val (.os _) _=>.nil | .val (.op _) _=>.nilp | v=>v) (qlf t):=by
  intro t
  induction t with
  | pair a b iha ihb =>
   simp only[Ty.split,Ty.zero,qlf,List.map_append];exact iha.append ihb
  | int k=>exact⟨rfl,trivial⟩
  | bool=>exact⟨rfl,trivial⟩
  | str | os _ _ | op _ _=>exact⟨rfl,trivial⟩
  | unit=>trivial
  | sl e ih=>exact⟨rfl,trivial⟩
 exact aux t
def qlc (w:World) (S:Foot) (J:Con) (g:Hp):List (Nat×PV)->List (Nat×Value)->Prop:=All2 fun p v=>p.1=v.1/\TRel w S J g p.2 v.2
theorem qva (hT:TbOk P tb):∀ (fields:List Field) (fs:List (Nat×TypeId)),fields.map (fun f=>(f.offset,f.type))=fs->(∀ off T',(off,T')∈fs->∃ t',tb.ty T'=some t') ->
  ∃ places:List (Nat×Nat),fields.mapM (fun f=>(P.info? f.type).map fun i=>(f.offset,i.size))=some places /\
   ∀ (i off:Nat) (T':TypeId) (t':Ty),fs[i]?=some (off,T')->tb.ty T'=some t'->places[i]?=some (off,t'.size):=by
 intro fields
 induction fields with
 | nil=>intro fs h _;subst h;exact⟨[],rfl,by simp⟩
 | cons f fields ih =>
  intro fs h hs;subst h;simp only[List.map_cons] at hs;obtain⟨t',ht'⟩:=hs f.offset f.type (by simp);obtain⟨i,z,h1,h2,_⟩:=(hT.ty ht').info;obtain⟨places,h3,h4⟩:=ih _ rfl (fun off T' hm=>hs off T' (List.mem_cons_of_mem _ hm));refine⟨(f.offset,i.size)::places,by simp [List.mapM_cons,h1,h3],?_⟩;intro j off T' t2 hj ht2;cases j with
  | zero=>simp at hj;obtain⟨rfl,rfl⟩:=hj;rw[ht'] at ht2;injection ht2 with ht2;subst ht2;simp [h2]
  | succ j=>simp at hj;simpa using h4 j off T' t2 (by simpa using hj) ht2
theorem qsh {fs:List (Nat×TypeId)} {places:List (Nat×Nat)} (hp:∀ (i off:Nat) (T':TypeId) (t':Ty),fs[i]?=some (off,T')->tb.ty T'=some t'->places[i]?=some (off,t'.size)) :
  ∀ {parts:List (Nat×PV)} {l l':List PV} {c:Array Value} {ps:List (Nat×Value)},qnK tb fs l parts=some l'->All2 (qac w S J g) l c.toList->qlc w S J g parts ps ->
   ∃ c':Array Value,Instr.fill (places.toArray[·]?) c ps=some c'/\All2 (qac w S J g) l' c'.toList:=by
 intro parts
 induction parts with
 | nil =>
  intro l l' c ps h hl hps;cases ps with
  | nil=>simp [qnK] at h;subst h;exact⟨c,rfl,hl⟩
  | cons _ _=>exact hps.elim
 | cons p parts ih =>
  intro l l' c ps h hl hps;obtain⟨f,v⟩:=p;cases ps with
  | nil=>exact hps.elim
  | cons q ps =>
   obtain⟨f',u⟩:=q;obtain⟨⟨hf,hv⟩,hps⟩:=hps;simp only at hf hv;subst hf;simp only[qnK] at h;split at h
   · rename_i off T' hfs;split at h
     · rename_i t' ht';obtain⟨hc,h⟩:=q8q h;simp only[Bool.and_eq_true] at hc;obtain⟨⟨hc1,hc2⟩,hc3⟩:=hc;have hc1:=Nat.eq_of_beq_eq_true hc1;have hc3:=Nat.le_of_ble_eq_true hc3;obtain⟨vs,hu,hvs,_⟩:=hv.cells hc2;have hlen:vs.length=t'.size:=by rw[<- hvs.length];exact hc1
       have hcl:off+vs.length<=c.size:=by have:=hl.length;simp at this;omega
       obtain⟨c',h1,h2⟩:=ih h (hl.setCells hvs) hps;refine⟨c',?_,h2⟩;simp only[Instr.fill,List.getElem?_toArray,hp _ _ _ _ hfs ht'];rw[hu];simp only[List.size_toArray,hlen];rw[if_neg (by simp;omega)];have:=qlg c off vs.toArray (by simpa using hcl);rw[this];simpa using h1
     · cases h
   · cases h
theorem qq7 (hT:TbOk P tb) {T':TypeId} {parts:List (Nat×PV)} {K:PV->Option R} {out:R} (h:qmI tb T' parts K=some out) :
   ∃ pv,K pv=some out/\∀ (w:World) (S:Foot) (J:Con) (g:Hp) (ps:List (Nat×Value)),qlc w S J g parts ps ->
     ∃ z,(Instr.build T' ps.toArray).run P w=.ok z w/\TRel w S J g pv z:=by
 unfold qmI at h;split at h
 · rename_i t fs q hg;split at h
   · rename_i l hl;refine⟨_,h,fun w S J g ps hps=>?_⟩;obtain⟨hty,hag,fields,hu,hfs,hsz,_⟩:=hT T' _ hg;obtain⟨i,z,h1,h2,h3,h4⟩:=hty.info;obtain⟨places,hpl,hp⟩:=qva hT fields.toList fs hfs hsz;obtain⟨c',e1,e2⟩:=qsh (w:=w) (S:=S) (J:=J) (g:=g) (c:=z.cells) hp hl (by rw[h4];exact qob w S J g t) hps;refine⟨.agg c',run_build w T' ps.toArray c' ?_,c'.toList,by simp,e2⟩;simp only[Program.built,h1,hu,h3,hpl];simpa using e1
   · cases h
 · rename_i e t hg;split at h
   · rename_i t1 x t2 y;split at h
     · rename_i e1;subst e1;split at h
       · rename_i e2;subst e2;refine⟨_,h,fun w S J g ps hps=>?_⟩;obtain⟨hty,hu,hte,hs1,hag⟩:=hT T' _ hg;obtain⟨i,z,h1,h2,h3,h4⟩:=hty.info;obtain⟨ie,ze,i1,i2,i3,i4⟩:=hte.info
         match ps,hps with
         | [(j0,u0),(j1,u1)],⟨⟨hj0,hv0⟩,⟨hj1,hv1⟩,_⟩ =>
          simp only at hj0 hj1 hv0 hv1;subst hj0;subst hj1;obtain⟨vs0,hu0,hvs0,_⟩:=hv0.cells rfl;obtain⟨vs1,hu1,hvs1,_⟩:=hv1.cells rfl;have hl0:vs0.length=1:=by rw[<- hvs0.length];rfl
          have hl1:vs1.length=1:=by rw[<- hvs1.length];rfl
          match vs0,hl0,vs1,hl1 with
          | [a0],_,[a1],_ =>
           have hz:z.cells.size=2:=by
             have:z.cells.toList.length=2:=by rw[h4,(qfg w S (.pair t2 (.pair t2 .unit))).length];simp [Ty.size,hs1]
             simpa using this
           obtain⟨c0,c1,hc⟩:∃ c0 c1,z.cells=#[c0,c1]:=by
             match hcz:z.cells,hz with
             | ⟨[c0,c1]⟩,_=>exact⟨c0,c1,rfl⟩
           refine⟨.agg #[a0,a1],run_build w T' _ #[a0,a1] ?_,[a0,a1],by simp,?_⟩
           · simp only [Program.built, h1, hu, h3, i1, i2, hs1];simp only[Instr.fill,hu0,hu1,hc];rfl
           · exact⟨hvs0.1,hvs1.1,trivial⟩
       · cases h
     · cases h
   · cases h
 · cases h
theorem qyn {t t':Ty} {x:t.den} {y:t'.den} (h:cst x=some y):∃ e:t=t',e ▸ x=y:=by
 unfold cst at h;split at h
 · rename_i e;injection h with h;exact⟨e,h⟩
 · cases h
theorem qq4 (hT:TbOk P tb) {T':TypeId} {p q:PV} {K:PV->Option R} {out:R} (h:qpA tb T' p q K=some out) :
   ∃ pv,K pv=some out/\∀ (w:World) (S:Foot) (J:Con) (g:Hp) (u v:Value),TRel w S J g p u->TRel w S J g q v ->
     ∃ z,(Instr.index T' u v).run P w=.ok z w/\TRel w S J g pv z:=by
 unfold qpA at h;split at h
 · rename_i e t t1 x t2 y k n hg;split at h
   · rename_i x' y' hx hy;obtain⟨e1,hx⟩:=qyn hx;obtain⟨e2,hy⟩:=qyn hy;subst e1;subst e2;subst hx;subst hy;obtain⟨h0,h⟩:=q8q h;have h0:=of_decide_eq_true h0;obtain⟨hty,hu,hte,hs1,hag⟩:=hT T' _ hg;cases hz:([x,y]:List t2.den)[n.toNat]? with
     | none=>rw[hz] at h;cases h
     | some z =>
      rw[hz] at h;refine⟨_,h,fun w S J g u v hu' hv'=>?_⟩;obtain⟨vs,rfl,hl⟩:=hu';obtain rfl:v=.int k n:=by
       have h2:Cell w S (.int k) n [v]:=hv';simpa [Cell] using h2
      have hln:n.toNat<2:=by have:=(List.getElem?_eq_some_iff.1 hz).1;simpa using this
      have hlt:n<((2:Nat):Int):=qnu h0 hln;obtain⟨a,ha,hr⟩:=hl.get (i:=n.toNat) (a:=PV.val t2 z) (by
       have:n.toNat=0\/n.toNat=1:=by omega
       rcases this with e | e<;>rw[e] at hz ⊢<;>simp at hz ⊢<;>exact hz)
      have hia:=qhn hte w;have hs:=qfj hte w;exact⟨a,by simp [Instr.index,asIntOf,run_underlying hu,part,hia,hag,hs,hs1,h0,ha];exact fun h2=>absurd h2 (Int.not_le.2 hlt),hr.up⟩
   · cases h
 · cases h
end
variable {T:Told} {P:Program} {tb:Tb}
theorem qcv {w:World} {o:Obj} {b:Nat} (h:b<w.heap.size):(w.alloc o).heap[b]?=w.heap[b]?:=heap_alloc_old w o h
theorem qbN (w:World) (c:Array Value) (e:TypeId):Blk (w.alloc (.cells c e)) w.heap.size c:=⟨e,heap_alloc_new w _⟩
section
variable {B:Base} {w w':World} {S:Foot} {J:Con} {s:St} {a:Act}
theorem qwt {B:Base} {o:Oper} {d:Nat} (h:qsd B.nt o.dst=true) (hd:o.dst=some d) {j:Nat} (hj:j<8):B.PB (d*8+j)=none:=by
 rw[hd] at h;have h:Nat.blt d B.nt=true:=h;have:d<B.nt:=Nat.blt_eq ▸ h;exact Base.PB_low (by omega)
theorem Rel.newBox (R:Rel T B w S J s a) {k:Nat} (hk:get s.h k=none) (hpb:B.PB k=none) {l:List PV} {vs:List Value} (hl:All2 (qac w S J (get s.h)) l vs) (e:TypeId) :
  Rel T B (w.alloc (.cells vs.toArray e)) S (fun k'=>if k'=k then some (w.heap.size,0) else J k') ⟨s.e,(k,.box l)::s.h⟩ a :=
 R.new (qdA w _ e) hk (.inr rfl) (fun b hb=>qcv hb) (by simp) (by simp) (fun _=>hpb) (by simp) fun E =>
  ⟨w.heap.size,vs.toArray,by simp,qbN w _ e,by simpa using hl.imp fun _ _ h=>h.evo E,fun h=>Nat.lt_irrefl _ (R.Slt _ h),.inl R.grow⟩
theorem Rel.newRows (R:Rel T B w S J s a) (h0:Calm w w') {k:Nat} (hk:get s.h k=none) {t:Ty} {xs:List t.den} {c:Array Value} (h1:∀ b,b<w.heap.size->w'.heap[b]?=w.heap[b]?) (hg:w.heap.size<=w'.heap.size)
  (hc:Blk w' w.heap.size c) (hs:xs.length*t.size<=c.size) (hr:qdG (Cell w S t) t.size w' w.heap.size 0 xs) (hfl:t.flat=true) :
  Rel T B w' S (fun k'=>if k'=k then some (w.heap.size,0) else J k') ⟨s.e,(k,.rows t xs .own)::s.h⟩ a :=
 R.new h0 hk (.inr rfl) h1 hg (by simp) (by simp) (fun t' xs' e=>by injection e with e1;subst e1;exact .inl hfl) fun E=>by
  simp only[ORel,if_true];refine⟨⟨c,hc,by simpa using hs⟩,fun i x hx=>?_,by simp,fun _=>⟨fun h=>Nat.lt_irrefl _ (R.Slt _ h),.inl R.grow⟩,fun _=>trivial⟩;obtain⟨ds,e1,e2⟩:=hr i x hx;exact⟨ds,e1.mono E.sub E.keep,e2⟩
theorem Rel.newNil (R:Rel T B w S J s a) {k:Nat} (hk:get s.h k=none) (t:Ty) :
  Rel T B w S (fun k'=>if k'=k then none else J k') ⟨s.e,(k,.rows t [] .own)::s.h⟩ a :=
 R.new (Calm.refl w) hk (.inl rfl) (fun _ _=>rfl) (Nat.le_refl _) (by simp) (by simp) (fun t' xs' e=>by injection e with e1 e2;subst e1;exact .inr (eq_of_heq e2).symm) fun E=>by
  simp [ORel]
theorem qnm {w':World} {S:Foot} {J:Con} {g:Hp} {k b:Nat} {t:Ty} {xs:List t.den} {cap:Nat} {c:Array Value} (hg:g k=some (.rows t xs .own)) (hb:J k=some (b,0)) (hc:Blk w' b c) (hl:xs.length<=cap) (hs:cap*t.size<=c.size) :
  TRel w' S J g (.osl k 0 none) (.slice (some ⟨b,0,none⟩) xs.length cap):=by
 have:qac w' S J g (.osl k 0 none) (.slice (some ⟨b,0,none⟩) xs.length cap):=by
  simp only[qac,hg];refine⟨by simp [qf1],?_⟩;simp only[OslV,hb];exact⟨0,cap,by simp [wlen],by simpa [wlen] using hl,.inr (by simp),fun _=>⟨c,hc,by simpa using hs⟩⟩
 exact this.up
theorem qve {w':World} {S:Foot} {J:Con} {g:Hp} {k:Nat} {t:Ty} (hg:g k=some (.rows t [] .own)) (hb:J k=none):TRel w' S J g (.osl k 0 none) (.slice none 0 0):=by
 have:qac w' S J g (.osl k 0 none) (.slice none 0 0):=by
  simp only[qac,hg];exact⟨by simp [qf1],by simp [OslV,hb,wlen]⟩
 exact this.up
theorem qhr {w:World} {S:Foot} {t:Ty}:∀ {xs:List t.den} {b o:Nat},qdG (Cell w S t) t.size w b o xs->∃ cs:List Value,cs.length=xs.length*t.size/\At w b o cs/\(∀ v∈cs,v.oneCell'=true) /\
  ∀ i x,xs[i]?=some x->Cell w S t x ((cs.drop (i*t.size)).take t.size):=by
 intro xs
 induction xs with
 | nil=>intro b o _;exact⟨[],by simp,fun j v h=>by simp at h,by simp,by simp⟩
 | cons x xs ih =>
  intro b o h;obtain⟨ds,e1,e2⟩:=h 0 x rfl;have e2:At w b o ds:=by simpa using e2
  obtain⟨cs,f1,f2,f3,f4⟩:=ih (b:=b) (o:=o+t.size) (fun i y hy=>by
    obtain⟨ds',g1,g2⟩:=h (i+1) y (by simpa using hy);refine⟨ds',g1,?_⟩;rw[Nat.add_mul,Nat.one_mul,Nat.add_comm (i*t.size),<- Nat.add_assoc] at g2;exact g2)
  have hl:=e1.length;refine⟨ds++cs,by simp [hl,f1,Nat.add_mul];omega,fun j v hv=>?_,?_,?_⟩
  · by_cases hj : j < ds.length
    · rw[List.getElem?_append_left hj] at hv;exact e2 j v hv
    · rw [List.getElem?_append_right (by omega)] at hv;have:=f2 _ v hv;rw[hl] at this hj
      rwa [show o+t.size+(j-t.size)=o+j by omega] at this
  · intro v hv;rcases List.mem_append.1 hv with hv | hv
    · exact e1.one v hv
    · exact f3 v hv
  · intro i y hy;cases i with
    | zero =>
      simp at hy;subst hy;simpa [<- hl] using e1
    | succ i =>
      have:=f4 i y (by simpa using hy);rw[Nat.add_mul,Nat.one_mul,Nat.add_comm,<- hl,List.drop_append];rw[hl,List.drop_eq_nil_of_le (by omega),List.nil_append,show t.size+i*t.size-t.size=i*t.size by omega];exact this
theorem qg8 {w w':World} {S:Foot} {t:Ty} {xs:List t.den} {cs:List Value} {b o:Nat} (hcell:∀ i x,xs[i]?=some x->Cell w S t x ((cs.drop (i*t.size)).take t.size)) (hat:At w' b o cs) :
 qdG (Cell w S t) t.size w' b o xs:=fun i x hx=>⟨_,hcell i x hx,by have:=hat.part (off:=i*t.size) (n:=t.size);exact this⟩
theorem qnN {w:World} {b:Nat} {c:Array Value} (hc:Blk w b c) {cs:List Value} (h:∀ (j:Nat) (v:Value),cs[j]?=some v->c[j]?=some v):At w b 0 cs:=fun j v hv=>by
 rw[Nat.zero_add,hc.cell];exact h j v hv
end
theorem qzw (hT:TbOk P tb) {o:Oper} {s:St} {T':TypeId} {x:Operand} {d:Nat} {t:Ty} {hp:Hp} {ef:Eff} (ho:o.op=.box T' x) (hd:o.dst=some d) (ht:tb.ty T'=some t)
  (hn:qca (s.pv x).cells=true) (hk:get s.h (d*8)=none) (hef:ef=⟨some (.ptr (d*8) 0 0),[(d*8,.box (s.pv x).cells)]⟩):qcb T P o s ef:=by
 intro B w S J a R hdo next Q hnx
 subst hef;obtain⟨vs,e1,e2,e3⟩:=(q14q R x).cells hn;unfold Oper.wp execOp;simp only[ho,Instr.box,newVar,newRow,Sem.run_bind,run_newObj,Result.andThen_ok,Sem.run_pure,e1];refine hnx _ _ _ _ (Rel.app (ef:=⟨some (.ptr (d*8) 0 0),[(d*8,.box (s.pv x).cells)]⟩) (R.newBox hk (qwt hdo hd (j:=0) (by decide)) e2 T') hdo fun pv hpv=>?_);injection hpv with hpv
 subst hpv;have:qac (w.alloc (.cells vs.toArray T')) S (fun k'=>if k'=d*8 then some (w.heap.size,0) else J k') (get ([(d*8,.box (s.pv x).cells)]++s.h)) (.ptr (d*8) 0 0) (.pointer (some ⟨w.heap.size,0,none⟩)):=by
  simp only[qac,List.singleton_append,q6q,if_true];exact⟨_,_,rfl,by simp [Ob.sz]⟩
 exact this.up
theorem qwq (hT:TbOk P tb) {o:Oper} {s:St} {T':TypeId} {d:Nat} {t:Ty} {ef:Eff} (ho:o.op=.alloc T') (hd:o.dst=some d) (ht:tb.ty T'=some t)
  (hk:get s.h (d*8)=none) (hef:ef=⟨some (.ptr (d*8) 0 0),[(d*8,.box (qoc t))]⟩):qcb T P o s ef:=by
 intro B w S J a R hdo next Q hnx
 subst hef;obtain⟨z,hz,hzc⟩:=qoV (hT.ty ht);have hzc':z.cells=(qlf t).toArray:=by rw[<- hzc]
 unfold Oper.wp execOp;simp only[ho,Instr.alloc,newVar,newRow,Sem.run_bind,hz,run_newObj,Result.andThen_ok,Sem.run_pure,hzc'];refine hnx _ _ _ _ (Rel.app (ef:=⟨some (.ptr (d*8) 0 0),[(d*8,.box (qoc t))]⟩) (R.newBox hk (qwt hdo hd (j:=0) (by decide)) (qob w S J (get s.h) t) T') hdo fun pv hpv=>?_);injection hpv with hpv
 subst hpv;have:qac (w.alloc (.cells (qlf t).toArray T')) S (fun k'=>if k'=d*8 then some (w.heap.size,0) else J k') (get ([(d*8,.box (qoc t))]++s.h)) (.ptr (d*8) 0 0) (.pointer (some ⟨w.heap.size,0,none⟩)):=by
  simp only[qac,List.singleton_append,q6q,if_true];exact⟨_,_,rfl,by simp [Ob.sz]⟩
 exact this.up
theorem qdN {α:Type} {xs:List α} {i j:Nat} {y x:α} (h:(xs.set i y)[j]?=some x):(i=j/\x=y/\j<xs.length)\/(i≠j/\xs[j]?=some x):=by
 rw[List.getElem?_set] at h;split at h
 · rename_i e;split at h
   · injection h with h;exact .inl ⟨e,h.symm,by omega⟩
   · cases h
 · rename_i e;exact .inr ⟨e,h⟩
theorem qvq {w:World} {S:Foot} {J:Con} {g:Hp} {S1:Foot} {hp:Hp} {e:Ty} (hsz:0<e.size) {all:List Nat}
  (hdec:∀ (pvs:List PV) (vs:List Value) (x:e.den),(∀ k∈qag pvs,k∈all)->All2 (qac w S J g) pvs vs->decA hp e pvs=some x->Cell w S1 e x vs) :
  ∀ (parts:List (Nat×PV)) (ps:List (Nat×Value)) (xs ys:List e.den) (c:Array Value),qoq hp e xs parts=some ys->(∀ k∈qev parts,k∈all)->qlc w S J g parts ps ->
   c.size=xs.length*e.size->(∀ (i:Nat) x,xs[i]?=some x->Cell w S1 e x ((c.toList.drop (i*e.size)).take e.size)) ->
   ∃ c':Array Value,Instr.fill (fun i=>some (i*e.size,e.size)) c ps=some c'/\c'.size=ys.length*e.size/\ys.length=xs.length/\∀ (i:Nat) x,ys[i]?=some x->Cell w S1 e x ((c'.toList.drop (i*e.size)).take e.size):=by
 intro parts
 induction parts with
 | nil =>
  intro ps xs ys c h _ hps hc hx;cases ps with
  | nil=>simp [qoq] at h;subst h;exact⟨c,rfl,hc,rfl,hx⟩
  | cons _ _=>exact hps.elim
 | cons p parts ih =>
  intro ps xs ys c h hk hps hc hx;obtain⟨f,v⟩:=p;cases ps with
  | nil=>exact hps.elim
  | cons q ps =>
   obtain⟨f',u⟩:=q;obtain⟨⟨hf,hv⟩,hps⟩:=hps;simp only at hf hv;subst hf;simp only[qoq] at h;split at h
   · rename_i y hy;have hb:=q8q h;clear h;obtain⟨hlt,h⟩:=hb;simp only[Bool.and_eq_true] at hlt;obtain⟨hna,hlt⟩:=hlt;have hlt:f<xs.length:=Nat.le_of_ble_eq_true hlt;obtain⟨vs,hu,hvs,_⟩:=hv.cells hna;have hcell:Cell w S1 e y vs:=hdec v.cells vs y (fun k hk'=>hk k (by simp [qev,hk'])) hvs hy;have hl:=hcell.length;have hfit:f*e.size+vs.length<=c.size:=by
      rw[hc,hl,<- Nat.succ_mul];exact Nat.mul_le_mul_right _ hlt
     obtain⟨c',h1,h2,h3,h4⟩:=ih ps (xs.set f y) ys (qaP c (f*e.size) vs) h (fun k hk'=>hk k (by simp [qev,hk'])) hps (by rw[qbo hfit,hc];simp) (fun i x hix=>by
      rcases qdN hix with ⟨rfl,rfl,_⟩ | ⟨hne,hix⟩
      · have : ((qaP c (f * e.size) vs).toList.drop (f * e.size)).take e.size = vs := by
         apply List.ext_getElem?;intro j;rw[List.getElem?_take,List.getElem?_drop,Array.getElem?_toList];split
         · rename_i hj;exact qej hfit (by omega)
         · rw[List.getElem?_eq_none (by omega)]
        rw[this];exact hcell
      · have : ((qaP c (f * e.size) vs).toList.drop (i * e.size)).take e.size = (c.toList.drop (i * e.size)).take e.size := by
         apply List.ext_getElem?;intro j;rw[List.getElem?_take,List.getElem?_take,List.getElem?_drop,List.getElem?_drop,Array.getElem?_toList,Array.getElem?_toList];split
         · rename_i hj;refine qbu hfit ?_;rw[hl];rcases Nat.lt_or_gt_of_ne hne with hlt | hgt
           · right
             have:=Nat.mul_le_mul_right e.size (show f+1<=i from hlt);rw[Nat.add_mul,Nat.one_mul] at this;omega
           · left
             have:=Nat.mul_le_mul_right e.size (show i+1<=f from hgt);rw[Nat.add_mul,Nat.one_mul] at this;omega
         · rfl
        rw[this];exact hx i x hix)
     refine⟨c',?_,h2,by rw[h3];simp,h4⟩;simp only[Instr.fill,hu,List.size_toArray,hl];rw[if_neg (by simp;omega)];have:=qlg c (f*e.size) vs.toArray (by simpa using hfit);rw[this];simpa using h1
   · cases h
theorem qg9 {w:World} {S:Foot} {e:Ty} (hsz:0<e.size) {z:Array Value} (hz:z.toList=qlf e) (n:Nat) :
   ((Array.range (n*e.size)).map (z[· % z.size]!)).size=n*e.size /\
   ∀ (i:Nat) x,(List.replicate n e.zero)[i]?=some x->Cell w S e x ((((Array.range (n*e.size)).map (z[· % z.size]!)).toList.drop (i*e.size)).take e.size):=by
 have hzl:z.size=e.size:=by
   have:=congrArg List.length hz;have h2:=(qfg w S e).length;simp at this;omega
 refine⟨by simp,fun i x hx=>?_⟩;rw[List.getElem?_replicate] at hx;split at hx
 · rename_i hi;injection hx with hx
   subst hx;have:(((Array.range (n*e.size)).map (z[· % z.size]!)).toList.drop (i*e.size)).take e.size=qlf e:=by
    apply List.ext_getElem?;intro j;rw[List.getElem?_take,List.getElem?_drop];split
    · rename_i hj;have hlt:i*e.size+j<n*e.size:=by
       have:=Nat.mul_le_mul_right e.size (show i+1<=n from hi);rw[Nat.add_mul,Nat.one_mul] at this;omega
      have hmod:(i*e.size+j) % z.size=j:=by
       rw[hzl,Nat.add_comm,Nat.add_mul_mod_self_right,Nat.mod_eq_of_lt hj]
      rw[<- hz];simp [hlt,hmod,show j<z.size by omega]
    · rename_i hj;rw[List.getElem?_eq_none];rw[<- hz];simp;omega
   rw[this];exact qfg w S e
 · cases hx
theorem qn9 (hT:TbOk P tb) {o:Oper} {s:St} {T':TypeId} {n:Nat} {ps:Array (Nat×Operand)} {d:Nat} {et:TypeId} {e:Ty} {bb:Nat} {hp:Hp} (hs:Sub hp s) {xs:List e.den} {parts:List (Nat×PV)} {ef:Eff}
  (ho:o.op=.buildSlice T' n ps) (hd:o.dst=some d) (hg:get tb T'=some (.slc et e bb)) (hparts:parts=ps.toList.map fun p=>(p.1,s.pv p.2))
  (hx:qoq hp e (List.replicate n e.zero) parts=some xs) (hle:n*e.size<=16777216) (hfl:e.flat=true) (hk:get s.h (d*8)=none) (hkp:hp (d*8)=none)
  (hef:ef=⟨some (.osl (d*8) 0 none),(d*8,.rows e xs .own)::frzW hp (qev parts)⟩):qcb T P o s ef:=by
 intro B w S J a R hdo next Q hnx
 subst hef;obtain⟨_,hu,hty,_,_,hsz⟩:=hT T' _ hg;obtain⟨ie,z,i1,i2,i3,i4⟩:=hty.info;obtain⟨S1,R1,hS1,_,hdec⟩:=R.frz hs (qev parts);have hprel:qlc w S J (get s.h) parts (ps.toList.map fun p=>(p.1,a.eval p.2)):=by
  subst hparts;generalize ps.toList=l
  induction l with
  | nil=>trivial
  | cons p l ih=>exact⟨⟨rfl,q14q R p.2⟩,ih⟩
 obtain⟨m1,m2⟩:=qg9 (w:=w) (S:=S1) hsz i4 n;obtain⟨c',f1,f2,f3,f4⟩:=qvq (S1:=S1) hsz (all:=qev parts) (fun pvs vs x hk hl hd=>hdec pvs vs e x hk hl hd) parts _ _ _ _ hx (fun k hk=>hk) hprel (by simp) m2;have hlen:xs.length=n:=by rw[f3];simp
 have hrun:(Instr.buildSlice T' n (ps.map fun p=>(p.1,a.eval p.2))).run P w=.ok (.slice (some ⟨w.heap.size,0,none⟩) n n) (w.alloc (.cells c' et)):=by
  by_cases hn:n=0
  · subst hn;have hc0:c'=#[]:=by apply Array.eq_empty_of_size_eq_zero;rw[f2,hlen];simp
    have hmp:(Array.range (0*e.size)).map (z.cells[· % z.cells.size]!)=#[]:=by simp
    rw[hmp] at f1;have f1':Instr.fill (fun i=>some (i*ie.size,ie.size)) #[] (ps.map fun p=>(p.1,a.eval p.2)).toList=some c':=by rw[i2];simpa using f1
    have f2':Instr.fill (fun i=>some (i*ie.size,ie.size)) (Array.map (fun x=>default) (Array.range 0)) (List.map (fun p=>(p.fst,a.eval p.snd)) ps.toList)=some c':=by
     have hr:Array.map (fun x=>(default:Value)) (Array.range 0)=#[]:=by simp
     rw[hr];simpa using f1'
    simp [Instr.buildSlice,run_underlying hu,sizeOf,typeInfo,i1,f2',Go.newRow]
  · have hpos : ¬ n * ie.size = 0 := by
     rw[i2];intro h;rcases Nat.mul_eq_zero.1 h with h | h<;>omega
    refine run_buildSlice (P:=P) w T' et n _ c' ie z hu i1 i3 (by rw[i2];omega) hpos ?_;rw[i2];simpa using f1
 unfold Oper.wp execOp;simp only[ho,Sem.run_bind,hrun,Result.andThen_ok,Sem.run_pure];have hk1:get (frzW hp (qev parts)++s.h) (d*8)=none:=by
  rw[q2q,hk];cases hq:get (frzW hp (qev parts)) (d*8) with
  | none=>rfl
  | some ob=>obtain⟨ob0,e1,_⟩:=qe8 hq;rw[hkp] at e1;cases e1
 have hat:At (w.alloc (.cells c' et)) w.heap.size 0 c'.toList:=qnN (qbN w c' et) (fun j v hv=>by simpa using hv);have R2:=R1.newRows (qdA w c' et) (k:=d*8) (w':=w.alloc (.cells c' et)) (t:=e) (xs:=xs) (c:=c') hk1 (fun b hb=>qcv hb) (by simp) (qbN w c' et) (by omega) (qg8 f4 hat) hfl;refine hnx _ _ _ _ (Rel.app (ef:=⟨some (.osl (d*8) 0 none),(d*8,.rows e xs .own)::frzW hp (qev parts)⟩) R2 hdo fun pv hpv=>?_);injection hpv with hpv
 subst hpv;have:=qnm (w':=w.alloc (.cells c' et)) (S:=S1) (J:=fun k'=>if k'=d*8 then some (w.heap.size,0) else J k') (g:=get ((d*8,.rows e xs .own)::frzW hp (qev parts)++s.h)) (k:=d*8) (b:=w.heap.size) (t:=e) (xs:=xs) (cap:=n) (c:=c')
  (by simp [q6q]) (by simp) (qbN w c' et) (by omega) (by rw[f2,hlen];exact Nat.le_refl _)
 rw[hlen] at this;exact this
variable {T:Told} {P:Program} {tb:Tb}
theorem qxe (hT:TbOk P tb) {o:Oper} {s:St} {T':TypeId} {x y:Operand} {d:Nat} {et:TypeId} {e:Ty} {bb:Nat} {n c:Int} {ef:Eff}
  (ho:o.op=.makeSlice T' x y) (hd:o.dst=some d) (hg:get tb T'=some (.slc et e bb)) (hx:s.pv x=.val (.int .i64) n) (hy:s.pv y=.val (.int .i64) c)
  (hnc:n=c) (h0:0<=n) (hb:(bb:Int)*n<=281474976710656) (h63:n<=9223372036854775807) (hfl:e.flat=true) (hk:get s.h (d*8)=none)
  (hef:ef=⟨some (.osl (d*8) 0 none),[(d*8,.rows e (List.replicate n.toNat e.zero) .own)]⟩):qcb T P o s ef:=by
 intro B w S J a R hdo next Q hnx
 subst hef;subst hnc;obtain⟨_,hu,hty,⟨ib,ib1,ib2⟩,_,hsz⟩:=hT T' _ hg;obtain⟨ie,z,i1,i2,i3,i4⟩:=hty.info;have hib:ie.bytes=bb:=by rw[i1] at ib1;injection ib1 with ib1;subst ib1;exact ib2
 have e1:a.eval x=.int .i64 n:=by have:=q14q R x;rw[hx] at this;exact this.int
 have e2:a.eval y=.int .i64 n:=by have:=q14q R y;rw[hy] at this;exact this.int
 have hrun:=run_make (P:=P) w T' et ie z hu i1 i3 .i64 .i64 n n h0 (Int.le_refl _) (by rw[hib];exact hb) h63;unfold Oper.wp execOp;simp only[ho,Sem.run_bind,e1,e2,hrun,Result.andThen_ok,Sem.run_pure];obtain⟨m1,m2⟩:=qg9 (w:=w) (S:=S) hsz i4 n.toNat;have hmc:madeCells z.cells (n.toNat*ie.size)=(Array.range (n.toNat*e.size)).map (z.cells[· % z.cells.size]!):=by rw[i2];rfl
 rw[hmc];generalize hc:(Array.range (n.toNat*e.size)).map (z.cells[· % z.cells.size]!)=c at m1 m2;have hat:At (w.alloc (.cells c et)) w.heap.size 0 c.toList:=qnN (qbN w c et) (fun j v hv=>by simpa using hv);have R2:=R.newRows (qdA w c et) (k:=d*8) (w':=w.alloc (.cells c et)) (t:=e) (xs:=List.replicate n.toNat e.zero) (c:=c) hk (fun b hb=>qcv hb) (by simp) (qbN w c et) (by rw[m1];simp) (qg8 m2 hat) hfl;refine hnx _ _ _ _ (Rel.app (ef:=⟨some (.osl (d*8) 0 none),[(d*8,.rows e (List.replicate n.toNat e.zero) .own)]⟩) R2 hdo fun pv hpv=>?_);injection hpv with hpv
 subst hpv;have:=qnm (w':=w.alloc (.cells c et)) (S:=S) (J:=fun k'=>if k'=d*8 then some (w.heap.size,0) else J k') (g:=get ([(d*8,.rows e (List.replicate n.toNat e.zero) .own)]++s.h)) (k:=d*8) (b:=w.heap.size) (t:=e) (xs:=List.replicate n.toNat e.zero) (cap:=n.toNat) (c:=c)
  (by simp [q6q]) (by simp) (qbN w c et) (by simp) (by rw[m1];exact Nat.le_refl _)
 simpa using this
theorem qjz {w:World} {S:Foot} {t':Ty} {y:t'.den} {vs:List Value} (hy:Cell w S t' y vs):∀ {t:Ty} {x z:t.den} {off:Nat} {ds:List Value},t'.setAt y t x off=some z->Cell w S t x ds ->
  Cell w S t z (ds.take off++vs++ds.drop (off+vs.length))/\off+vs.length<=ds.length:=by
 intro t;have base:∀ {t:Ty} {x z:t.den} {off:Nat} {ds:List Value},(bif Nat.beq off 0 then cst (t':=t) y else none)=some z->Cell w S t x ds ->
   Cell w S t z (ds.take off++vs++ds.drop (off+vs.length))/\off+vs.length<=ds.length:=by
  intro t x z off ds h hc;obtain⟨h0,h⟩:=q8q h;have h0:=Nat.eq_of_beq_eq_true h0;subst h0;obtain⟨rfl,rfl⟩:=qra h;have hl:=hc.length;have hl2:=hy.length;refine⟨?_,by omega⟩;rw[List.drop_eq_nil_of_le (by omega)];simpa using hy
 induction t with
 | pair a b iha ihb =>
  intro x z off ds h hc;simp only[Ty.setAt] at h;cases hq:(decide (t'=Ty.pair a b)&&Nat.beq off 0) with
  | true =>
   rw[hq] at h;simp only[Bool.and_eq_true] at hq;exact base (t:=.pair a b) (off:=off) (x:=x) (by rw[hq.2];exact h) hc
  | false =>
   rw[hq] at h;simp only[cond_false] at h;obtain⟨c1,c2,rfl,h1,h2⟩:=hc;have hl1:=h1.length;have hl2:=h2.length;cases hb:Nat.blt off a.size with
   | true =>
    rw[hb] at h;simp only[cond_true] at h;split at h
    · rename_i z1 hz1;injection h with h
      subst h;obtain⟨e1,e2⟩:=iha hz1 h1;refine⟨⟨_,c2,?_,e1,h2⟩,by simp;omega⟩;rw[List.take_append_of_le_length (by omega),List.drop_append_of_le_length (by omega)];simp
    · cases h
   | false =>
    rw[hb] at h;simp only[cond_false] at h;have hle:a.size<=off:=by
      cases hh:Nat.decLt off a.size with
      | isTrue hlt=>have:Nat.blt off a.size=true:=Nat.ble_eq_true_of_le hlt;rw[this] at hb;cases hb
      | isFalse hlt=>omega
    split at h
    · rename_i z1 hz1;injection h with h
      subst h;obtain⟨e1,e2⟩:=ihb hz1 h2;refine⟨⟨c1,_,?_,h1,e1⟩,by simp;omega⟩;rw[List.take_append,List.take_of_length_le (by omega),List.drop_append,List.drop_eq_nil_of_le (by omega:c1.length<=off+vs.length),hl1];rw[show off-a.size+vs.length=off+vs.length-a.size by omega];simp
    · cases h
 | int k=>intro x z off ds h hc;exact base h hc
 | bool=>intro x z off ds h hc;exact base h hc
 | str | os _ _ | op _ _=>intro x z off ds h hc;exact base h hc
 | unit=>intro x z off ds h hc;exact base h hc
 | sl e ih=>intro x z off ds h hc;exact base h hc
theorem qlY {w:World} {S:Foot} {t:Ty} {b o:Nat} {c:Array Value} (hc:Blk w b c) (hSb:¬ S b) {xs:List t.den} (hr:qdG (Cell w S t) t.size w b o xs) (hfit:o+xs.length*t.size<=c.size)
   {i:Nat} {x z:t.den} (hx:xs[i]?=some x) {off:Nat} {vs:List Value} (hoff:off+vs.length<=t.size) (hz:∀ ds,Cell w S t x ds->Cell w S t z (ds.take off++vs++ds.drop (off+vs.length))) :
   qdG (Cell (w.setRow b (qaP c (o+i*t.size+off) vs)) S t) t.size (w.setRow b (qaP c (o+i*t.size+off) vs)) b o (xs.set i z):=by
 have hi:i<xs.length:=(List.getElem?_eq_some_iff.1 hx).1;have hblk:=qdv (cs:=qaP c (o+i*t.size+off) vs) hc;have him:=Nat.mul_le_mul_right t.size (show i+1<=xs.length from hi);rw[Nat.add_mul,Nat.one_mul] at him;have hf2:o+i*t.size+off+vs.length<=c.size:=by omega
 have hkeep:∀ b',S b'->(w.setRow b (qaP c (o+i*t.size+off) vs)).heap[b']?=w.heap[b']?:=fun b' hb'=>setRow_other w b b' _ (fun e=>hSb (e ▸ hb'))
 intro j y hy;rcases qdN hy with ⟨rfl,rfl,_⟩ | ⟨hne,hy⟩
 · obtain ⟨ds, e1, e2⟩ := hr i x hx;have hl:=e1.length;refine⟨_,(hz ds e1).mono (fun _ h=>h) hkeep,fun q v hv=>?_⟩;rw[hblk.cell];have hql:q<t.size:=by
     have:=(List.getElem?_eq_some_iff.1 hv).1;simp at this;omega
   by_cases h1:q<off
   · rw [qbu hf2 (.inl (by omega)), <- hc.cell];refine e2 q v ?_;rw[List.append_assoc,List.getElem?_append_left (by simp;omega),List.getElem?_take,if_pos h1] at hv;exact hv
   · by_cases h2 : q < off + vs.length
     · have := qej hf2 (j := q - off) (by omega);rw[show o+i*t.size+off+(q-off)=o+i*t.size+q by omega] at this;rw[this];rw[List.append_assoc,List.getElem?_append_right (by simp;omega),List.getElem?_append_left (by simp;omega)] at hv;simp only[List.length_take] at hv
       rwa [show q-min off ds.length=q-off by omega] at hv
     · rw [qbu hf2 (.inr (by omega)), <- hc.cell];refine e2 q v ?_;rw[List.getElem?_append_right (by simp;omega),List.getElem?_drop] at hv;simp only[List.length_append,List.length_take] at hv
       rwa [show off+vs.length+(q-(min off ds.length+vs.length))=q by omega] at hv
 · obtain ⟨ds, e1, e2⟩ := hr j y hy;have hl:=e1.length;refine⟨ds,e1.mono (fun _ h=>h) hkeep,fun q v hv=>?_⟩;rw[hblk.cell];have hql:q<t.size:=by have:=(List.getElem?_eq_some_iff.1 hv).1;omega
   rw[qbu hf2 ?_,<- hc.cell]
   · exact e2 q v hv
   · rcases Nat.lt_or_gt_of_ne hne with h | h
     · right
       have:=Nat.mul_le_mul_right t.size (show i+1<=j from h);rw[Nat.add_mul,Nat.one_mul] at this;omega
     · left
       have:=Nat.mul_le_mul_right t.size (show j+1<=i from h);rw[Nat.add_mul,Nat.one_mul] at this;omega
section
variable {B:Base} {w:World} {S:Foot} {J:Con} {s:St} {a:Act}
theorem Rel.setElem (R:Rel T B w S J s a) {k:Nat} {t:Ty} {xs:List t.den} {m:Md} (hk:get s.h k=some (.rows t xs m)) (hm:m≠.frz) (hfl:t.flat=true) {b o:Nat} (hb:J k=some (b,o)) {i:Nat} {x z:t.den} (hx:xs[i]?=some x)
   {off:Nat} {vs:List Value} (hoff:off+vs.length<=t.size) (hz:∀ ds,Cell w S t x ds->Cell w S t z (ds.take off++vs++ds.drop (off+vs.length))) :
   ∃ c,Blk w b c/\o+i*t.size+off+vs.length<=c.size/\Rel T B (w.setRow b (qaP c (o+i*t.size+off) vs)) S J ⟨s.e,(k,.rows t (xs.set i z) m)::s.h⟩ a:=by
 have h0:=R.obs k _ hk;simp only[ORel,hb] at h0;obtain⟨⟨c,hc,hfit⟩,hr,h1,h2,h3⟩:=h0;have hi:i<xs.length:=(List.getElem?_eq_some_iff.1 hx).1;have him:=Nat.mul_le_mul_right t.size (show i+1<=xs.length from hi);rw[Nat.add_mul,Nat.one_mul] at him;have hf2:o+i*t.size+off+vs.length<=c.size:=by omega
 have hl:(Ob.rows t xs m).live=true:=by cases m<;>first | rfl | exact absurd rfl hm
 refine⟨c,hc,hf2,R.write (ob':=.rows t (xs.set i z) m) hk hl (show ObS (.rows t xs m) (.rows t (xs.set i z) m) from⟨rfl,by simp,rfl⟩) hb hc (qbo hf2) (by intro _ _ e;cases e) (fun t' xs' _ e=>by injection e with e1;subst e1;exact hfl) ?_ fun E hc'=>?_⟩
 · intro t' xs' e j hj;injection e with e1 e2 e3
   subst e1;have e2:=eq_of_heq e2;subst e2;refine qbu hf2 ?_;rcases hj with hj | hj
   · left;omega
   · right;omega
 · simp only [ORel, hb];exact⟨⟨_,hc',by rw[qbo hf2];simpa using hfit⟩,qlY hc (h2 hm).1 hr hfit hx hoff hz,h1,h2,h3⟩
end
theorem qoT {l:List PV} {off:Nat} {v:List PV} {vs:List Value} {c:Array Value} (hn:qca v=true) (hv:v.length=vs.length) (hl:off+v.length<=l.length) (hf:off+vs.length<=c.size) {i:Nat} {u:PV} (hi:(setCells l off v)[i]?=some u) (hu:u.stays=true) :
   l[i]?=some u/\(qaP c off vs)[i]?=c[i]?:=by
 have h1:(l.take off).length=off:=by rw[List.length_take];omega
 unfold X.setCells at hi;by_cases ha:i<off
 · rw [List.append_assoc, List.getElem?_append_left (by omega), List.getElem?_take, if_pos ha] at hi;exact⟨hi,qbu hf (.inl ha)⟩
 · by_cases hb : i < off + v.length
   · rw [List.append_assoc, List.getElem?_append_right (by omega), List.getElem?_append_left (by omega)] at hi;exact(qtH hn hi hu).elim
   · rw [List.getElem?_append_right (by rw [List.length_append]; omega), List.getElem?_drop, List.length_append, h1] at hi;rw[show off+v.length+(i-(off+v.length))=i by omega] at hi;exact⟨hi,qbu hf (.inr (by omega))⟩
theorem quS (hT:TbOk P tb) {o:Oper} {s:St} {T':TypeId} {x y:Operand} {hp:Hp} (hs:Sub hp s) {ef:Eff} (ho:o.op=.store T' x y) (hd:o.dst=none)
   (h:qjF tb hp T' (s.pv x) (s.pv y) some=some ef):qcb T P o s ef:=by
 intro B w S J a R hdo next Q hnx
 have hx:=q14q R x;have hy:=q14q R y;unfold qjF at h;split at h
 · rename_i k i off hpx;rw[hpx] at hx;split at h
   · cases h
   · rename_i t xs m hnf hk;have hm:m≠.frz:=hnf;split at h
     · rename_i t' ht';split at h
       · rename_i yv hyv;have hbe:=q8q h;clear h;obtain⟨hfl,h⟩:=hbe;have hbe:=qbg h;clear h;obtain⟨hcond,h⟩:=hbe
         · cases hxi : xs[i]? with
           | none=>rw[hxi] at h;cases h
           | some xv =>
            rw[hxi] at h;simp only[Option.bind_some] at h;split at h
            · rename_i z hz;injection h with h
              subst h;have hcond':memN k (qag (s.pv y).cells)=false/\qca (s.pv y).cells=true:=by
               revert hcond;cases memN k (qag (s.pv y).cells)<;>cases qca (s.pv y).cells<;>simp
              obtain⟨hkn,hna⟩:=hcond';obtain⟨vs,hu,hvs,hone⟩:=hy.cells hna;obtain⟨S1,R1,hS1,hS1n,hdec⟩:=R.frz hs (qag (s.pv y).cells);have hcell:Cell w S1 t' yv vs:=hdec _ vs t' yv (fun k hk=>hk) hvs hyv;have hk':=hs k _ hk;have hx0:qac w S J (get s.h) (.ptr k i off) (a.eval x):=hx;simp only[qac,hk'] at hx0;obtain⟨b,o',hb,he⟩:=hx0;have hk1:get (frzW hp (qag (s.pv y).cells)++s.h) k=some (.rows t xs m):=by
               rw[q2q];cases hq:get (frzW hp (qag (s.pv y).cells)) k with
               | none=>simpa using hk'
               | some ob =>
                exfalso;have hmem:=qar hq;have:∀ ks:List Nat,k∈qab (frzW hp ks)->k∈ks:=by
                 intro ks
                 induction ks with
                 | nil=>intro h;simp [frzW,qab] at h
                 | cons q ks ih =>
                  intro h;simp only[frzW] at h;split at h
                  · simp only [qab, List.map_cons, List.mem_cons] at h;rcases h with h | h
                    · subst h;exact List.mem_cons_self
                    · exact List.mem_cons_of_mem _ (ih h)
                  · exact List.mem_cons_of_mem _ (ih h)
                exact qbW.1 hkn (this _ hmem)
              obtain⟨ds0,hd1,_⟩:=R1.rows k t xs m b o' hk1 hb i xv hxi;obtain⟨_,hfit0⟩:=qjz hcell hz hd1;rw[hd1.length] at hfit0;obtain⟨c,hc,hf,R2⟩:=R1.setElem hk1 hm hfl hb hxi (off:=off) (vs:=vs) hfit0 (fun ds hds=>(qjz hcell hz hds).1);have hlen:vs.length=t'.size:=hcell.length;unfold Oper.wp execOp;simp only[ho,he,Sem.run_bind,Ob.sz,qgB (hT.ty ht') hc hu hlen hf hone,Result.andThen_ok,Sem.run_pure];have hdo':qsd B.nt o.dst=true:=hdo;exact hnx undef _ _ _ (Rel.app (ef:=⟨none,(k,.rows t (xs.set i z) m)::frzW hp (qag (s.pv y).cells)⟩) R2 hdo (fun pv h=>by cases h))
            · cases h
       · cases h
     · cases h
   · rename_i l hk;have h2:=q8q h;clear h;obtain⟨hi,h⟩:=h2;have hi:=Nat.eq_of_beq_eq_true hi;subst hi;split at h
     · rename_i t ht;have h2:=q8q h;clear h;obtain⟨hc0,h⟩:=h2;injection h with h
       subst h;simp only[Bool.and_eq_true] at hc0;obtain⟨⟨hc1,hc2⟩,hna⟩:=hc0;have hc1:=Nat.eq_of_beq_eq_true hc1;have hc2:=Nat.le_of_ble_eq_true hc2;obtain⟨vs,hu,hvs,hone⟩:=hy.cells hna;have hk':=hs k _ hk;have hx0:qac w S J (get s.h) (.ptr k 0 off) (a.eval x):=hx;simp only[qac,hk'] at hx0;obtain⟨b,o',hb,he⟩:=hx0;have hobs:=R.obs k _ hk';obtain⟨b',c,hb',hc,hl,hS,hM⟩:=hobs;rw[hb] at hb';injection hb' with hb'
       injection hb' with hb' ho'
       subst hb';subst ho';have hlen:vs.length=t.size:=by rw[<- hvs.length];exact hc1
       have hcl:=hl.length;simp only[Array.length_toList] at hcl;have hf:off+vs.length<=c.size:=by omega
       have R2:=R.write (ob':=.box (setCells l off (s.pv y).cells)) (c':=qaP c off vs) hk' rfl trivial hb hc (qbo hf) (fun l0 l1 e0 e1 i v hi hv=>by injection e0 with e0;injection e1 with e1;subst e0;subst e1;exact qoT hna hvs.length (by omega) hf hi hv) (by simp) (by simp) (fun E hc'=>⟨b,_,hb,hc',(hl.setCells hvs).imp fun _ _ h=>h.evo E,hS,hM⟩)
       unfold Oper.wp execOp;have he':a.eval x=.pointer (some ⟨b,off,none⟩):=by rw[he];simp
       simp only[ho,he',Sem.run_bind,qgB (hT.ty ht) hc hu hlen hf hone,Result.andThen_ok,Sem.run_pure];exact hnx undef _ _ _ (Rel.app (ef:=⟨none,[(k,.box (setCells l off (s.pv y).cells))]⟩) R2 hdo (fun pv h=>by cases h))
     · cases h
   · cases h
 · cases h
variable {T:Told} {P:Program} {tb:Tb}
section
variable {B:Base} {w w':World} {S:Foot} {J:Con} {s:St} {a:Act}
theorem qoA (R:Rel T B w S J s a) {hp:Hp} (hs:Sub hp s) {e:Ty} {p:PV} {ys:List e.den} {v:Value} (h:qoB hp e p=some ys) (hv:TRel w S J (get s.h) p v) :
   ∃ A cap,v=.slice A ys.length cap/\ys.length<=cap/\(ys=[]\/∃ b o,A=some ⟨b,o,none⟩/\qdG (Cell w S e) e.size w b o ys):=by
 unfold qoB at h;split at h
 · injection h with h; subst h
   have:v=.slice none 0 0:=hv;exact⟨none,0,this,Nat.le_refl _,.inl rfl⟩
 · rename_i k off len;unfold qyM at h;split at h
   · rename_i t xs m hk;split at h
     · rename_i zs hz;obtain⟨rfl,rfl⟩:=qda hz;injection h with h
       subst h;have hk':=hs k _ hk;obtain⟨hw,h2⟩:=qdS R hk' hv;have hl:=qbt hw;rcases h2 with ⟨_,_,h3,rfl⟩ | ⟨b,o,x,cap,hb,rfl,hcap,hx,_⟩
       · exact⟨none,0,by rw[hl,h3],by rw[hl,h3];exact Nat.le_refl _,.inl (List.eq_nil_of_length_eq_zero (by omega))⟩
       · refine ⟨_, cap, by rw [hl], by rw [hl]; exact hcap, ?_⟩;by_cases hz:win zs off len=[]
         · exact .inl hz
         · have : (win zs off len).length ≠ 0 := fun h => hz (List.eq_nil_of_length_eq_zero h)
           obtain rfl:x=o+off*t.size:=hx.resolve_left (by omega);refine .inr ⟨b,_,rfl,fun i y hy=>?_⟩;obtain⟨ds,e1,e2⟩:=R.rows k t zs m b o hk' hb (off+i) y (qhY hy);refine⟨ds,e1,?_⟩;rw[Nat.add_mul,<- Nat.add_assoc] at e2;exact e2
     · cases h
   · cases h
 · rename_i t xs;obtain⟨rfl,rfl⟩:=qda h;obtain⟨A,cap,rfl,hc,hr⟩:=qlO hv;refine⟨A,cap,rfl,hc,?_⟩;rcases hr with hr | ⟨b,o,hA,_,hr⟩
   · exact .inl hr
   · exact .inr ⟨b,o,hA,hr⟩
 · cases h
theorem Rel.drew (R:Rel T B w S J s a):Rel T B w.drew S J s a:=R.heap rfl ⟨rfl,rfl,fun _=>rfl⟩
theorem qm5 {w w':World} {S:Foot} {t:Ty} {xs ys:List t.den} {cs ds:List Value} {c:Array Value} {b:Nat}
   (hx:∀ (i:Nat) x,xs[i]?=some x->Cell w S t x ((cs.drop (i*t.size)).take t.size)) (hy:∀ (i:Nat) y,ys[i]?=some y->Cell w S t y ((ds.drop (i*t.size)).take t.size))
   (hc:cs.length=xs.length*t.size) (hd:ds.length=ys.length*t.size) (hb:Blk w' b c) (hfront:∀ (j:Nat) (v:Value),(cs++ds)[j]?=some v->c[j]?=some v) :
   qdG (Cell w S t) t.size w' b 0 (xs++ys):=by
 refine qg8 (cs:=cs++ds) (fun i x hix=>?_) (qnN hb hfront);by_cases hi:i<xs.length
 · rw [List.getElem?_append_left hi] at hix;have:=hx i x hix;have hm:=Nat.mul_le_mul_right t.size (show i+1<=xs.length from hi);rw[Nat.add_mul,Nat.one_mul] at hm;rw[List.drop_append_of_le_length (by omega),List.take_append_of_le_length (by simp;omega)];exact this
 · rw [List.getElem?_append_right (by omega)] at hix;have:=hy _ x hix;have hm:i*t.size=xs.length*t.size+(i-xs.length)*t.size:=by rw[<- Nat.add_mul];congr 1;omega
   rw[List.drop_append,List.drop_eq_nil_of_le (by rw[hc,hm];omega),List.nil_append,hc,hm,Nat.add_sub_cancel_left];exact this
theorem qjw (R:Rel T B w S J s a) (h0:Calm w w') {K:Nat} (hK:get s.h K=none) (hS:∀ b,b<w.heap.size->w'.heap[b]?=w.heap[b]?) {e:Ty} (hfl:e.flat=true) {rows:List e.den} {v:Value}
   (h:(w'=w/\rows=[]/\v=.slice none 0 0)\/∃ c cap,w.heap.size<=w'.heap.size/\v=.slice (some ⟨w.heap.size,0,none⟩) rows.length cap/\Blk w' w.heap.size c/\rows.length<=cap/\cap*e.size<=c.size/\qdG (Cell w S e) e.size w' w.heap.size 0 rows) :
   ∃ J',Rel T B w' S J' ⟨s.e,(K,.rows e rows .own)::s.h⟩ a/\TRel w' S J' (get ((K,.rows e rows .own)::s.h)) (.osl K 0 none) v:=by
 rcases h with ⟨rfl,rfl,rfl⟩ | ⟨c,cap,hg,rfl,hc,hl,hsz,hr⟩
 · exact⟨_,R.newNil hK e,qve (t:=e) (by simp [q6q]) (by simp)⟩
 · have hle : rows.length * e.size <= cap * e.size := Nat.mul_le_mul_right _ hl;exact⟨_,R.newRows h0 hK hS hg hc (by omega) hr hfl,qnm (t:=e) (by simp [q6q]) (by simp) hc hl hsz⟩
end
theorem qf3 {P:Program} (w:World) (t ty e:TypeId) (i:TypeInfo) (ht:P.underlying t=some (.slice e)) (hi:P.info? e=some i)
  {b sLen sCap:Nat} {c:Array Value} (hb:Blk w b c) (A:Option Addr) (m cap:Nat) (news:List Value) (hl:news.length=m*i.size) (hnews:m=0\/∃ a:Addr,A=some a/\∀ j u,news[j]?=some u->w.cell? (a.add j)=some u) (h1:∀ u∈news,u.oneCell'=true)
  (hroom:sLen+m<=sCap) (hfit:sLen*i.size+news.length<=c.size) :
  (Builtin.append_ #[t,t] ty #[.slice (some ⟨b,0,none⟩) sLen sCap,.slice A m cap]).run P w =
    .ok (.slice (some ⟨b,0,none⟩) (sLen+m) sCap) (w.setRow b (qaP c (sLen*i.size) news)):=by
 have hf:(Builtin.firstCells i.size m (.slice A m cap)).run P w=.ok news.toArray w:=by
  rcases hnews with rfl | ⟨a,rfl,hn⟩
  · have : news = [] := List.eq_nil_of_length_eq_zero (by simpa using hl);subst this;cases A<;>simp [Builtin.firstCells,loadCells,loadCellsFrom]
  · exact run_firstCells_some (P:=P) w i.size m a m cap news hl hn
 have hst:=qeV (P:=P) hb (o:=sLen*i.size) (vs:=news) hfit h1;simp [Builtin.append_,run_underlying ht,sizeOf,typeInfo,hi,Builtin.lenOf,hroom,hf,Addr.add_lit,hst]
theorem qcz {P:Program} (w:World) (t ty e:TypeId) (i:TypeInfo) (ht:P.underlying t=some (.slice e)) (hi:P.info? e=some i) (A0 A:Option Addr) (n sCap cap:Nat) (hn:n<=sCap) :
  (Builtin.append_ #[t,t] ty #[.slice A0 n sCap,.slice A 0 cap]).run P w=.ok (.slice A0 n sCap) w:=by
 have hf:(Builtin.firstCells i.size 0 (.slice A 0 cap)).run P w=.ok #[] w:=by
  cases A<;>simp [Builtin.firstCells,loadCells,loadCellsFrom]
 cases A0<;>simp [Builtin.append_,run_underlying ht,sizeOf,typeInfo,hi,Builtin.lenOf,hn,hf,storeCells]
section
variable {B:Base} {w w':World} {S:Foot} {J:Con} {s:St} {a:Act}
theorem Rel.inplace (R:Rel T B w S J s a) {k K:Nat} {t:Ty} (hfl:t.flat=true) {xs rows:List t.den} (hk:get s.h k=some (.rows t xs .own)) (hK:get s.h K=none) {b:Nat} (hb:J k=some (b,0)) {c c':Array Value} (hc:Blk w b c) (hsz:c'.size=c.size)
   (hr:qdG (Cell w S t) t.size (w.setRow b c') b 0 rows) (hl:rows.length*t.size<=c.size) :
   Rel T B (w.setRow b c') S (fun k'=>if k'=K then some (b,0) else J k') ⟨s.e,(K,.rows t rows .own)::(k,.gone)::s.h⟩ a:=by
 have hKk:K≠k:=by rintro rfl;rw[hk] at hK;cases hK
 have hc':Blk (w.setRow b c') b c':=qdv hc;have kw:∀ k',k'∈qab [(K,.rows t rows .own),(k,Ob.gone)]->k'=K\/k'=k:=fun k' h=>by simpa [qab] using h
 have gK:get ([(K,.rows t rows .own),(k,Ob.gone)]++s.h) K=some (.rows t rows .own):=by simp [q6q]
 have gk:get ([(K,.rows t rows .own),(k,Ob.gone)]++s.h) k=some .gone:=by simp [q6q,hKk]
 have gne:∀ k',k'≠K->k'≠k->get ([(K,.rows t rows .own),(k,Ob.gone)]++s.h) k'=get s.h k':=fun k' h1 h2=>by simp [q6q,Ne.symm h1,Ne.symm h2]
 have hne:∀ k' ob',get s.h k'=some ob'->k'≠K:=fun k' ob' h e=>by rw[e,hK] at h;cases h
 have hlv:=R.liveS hk rfl hb;refine R.gen (w':=w.setRow b c') (S':=S) (J':=fun k'=>if k'=K then some (b,0) else J k') (qgW hc) [(K,.rows t rows .own),(k,.gone)] (fun b'=>b'=b) (fun b' _ hn=>setRow_other w b b' c' hn) (by simp) ?_ ?_ (fun _ h=>h) (fun b h=>.inl h) (fun b' hb'=>by simpa using R.Slt b' hb') ?_ ?_ ?_ ?_ ?_ ?_ ?_ ?_ (fun b h=>.inl h) ?_ ?_
 · rintro b' rfl;exact⟨k,_,0,by simp [qab],hk,rfl,hb⟩
 · intro k' ob' h _;simp [hne k' ob' h]
 · intro k' ob2 b2 o2 h _ hl2 hb2;exact(R.liveS h hl2 hb2).1
 · intro k' ob2 hm hk' E;rcases kw k' hm with rfl | rfl
   · rw [gK] at hk'; injection hk' with hk'; subst hk'
     simp only[ORel,if_true];refine⟨⟨c',hc',by omega⟩,fun i x hx=>?_,by simp,fun _=>hlv,fun _=>trivial⟩;obtain⟨ds,e1,e2⟩:=hr i x hx;exact⟨ds,e1.mono E.sub E.keep,e2⟩
   · rw[gk] at hk';injection hk' with hk';subst hk';trivial
 · intro k' ob2 hm h;rcases kw k' hm with rfl | rfl
   · exact absurd rfl (hne k' ob2 h)
   · exact⟨.gone,gk,by cases ob2<;>trivial⟩
 · intro k1 k2 ob1 ob2 b1 o1 o2 hm hk1 hl1 hk2 hl2 hb1 hb2;rcases kw k1 hm with rfl | rfl
   · by_cases e : k2 = k1
     · exact e.symm
     · by_cases e2 : k2 = k
       · subst e2;rw[gk] at hk2;injection hk2 with hk2;subst hk2;cases hl2
       · rw [gne k2 e e2] at hk2;simp only[if_true] at hb1;simp only[if_neg e] at hb2;injection hb1 with hb1;injection hb1 with hb1 _;subst hb1
         exact absurd (R.inj k k2 _ ob2 b 0 o2 hk rfl hk2 hl2 hb hb2).symm e2
   · rw[gk] at hk1;injection hk1 with hk1;subst hk1;cases hl1
 · rintro k2 b2 o2 n2 hL rfl c2 hc2;exact absurd hL (R.sep k _ b2 0 hk rfl (by simp) hb k2 o2 n2)
 · intro k' t' xs' hm h;rcases kw k' hm with rfl | rfl
   · rw[gK] at h;cases h
   · rw[gk] at h;cases h
 · intro k' ob2 b2 o2 hm h hl2 hnl hb2;rcases kw k' hm with rfl | rfl
   · simp only [if_true] at hb2;injection hb2 with hb2;injection hb2 with hb2 _;subst hb2
     exact R.sep k _ b 0 hk rfl (by simp) hb
   · rw[gk] at h;injection h with h;subst h;cases hl2
 · intro k' l hm h;rcases kw k' hm with rfl | rfl
   · rw[gK] at h;cases h
   · rw[gk] at h;cases h
 · intro k' ob2 b2 o2 hm h hl2 hb2;rcases kw k' hm with rfl | rfl
   · simp only [if_true] at hb2;injection hb2 with hb2;injection hb2 with hb2 _;subst hb2
     exact .inl ⟨k,_,0,hk,rfl,hb⟩
   · rw[gk] at h;injection h with h;subst h;cases hl2
 · intro k' t' xs' hm h;rcases kw k' hm with rfl | rfl
   · rw[gK] at h;injection h with h;injection h with h;subst h;exact .inl hfl
   · rw[gk] at h;cases h
end
theorem qus (hT:TbOk P tb) {o:Oper} {s:St} {c:Call} {x y:Operand} {T':TypeId} {d:Nat} {hp:Hp} (hs:Sub hp s) (hkk:hp (d*8)=none->get s.h (d*8)=none) {ef:Eff} (ho:o.op=.call c) (hd:o.dst=some d)
   (hcal:c.callee=.builtin .append) (hargs:c.args=#[x,y]) (htys:c.argTypes=#[T',T']) (hflt:∀ et e bb,get tb T'=some (.slc et e bb)->e.flat=true) (h:qfa tb hp (some d) T' (s.pv x) (s.pv y) some=some ef):qcb T P o s ef:=by
 intro B w S J a R hdo next Q hnx
 have hx:=q14q R x;have hy:=q14q R y;have hexec:(execOp a.eval o).run P w=((Builtin.append_ #[T',T'] o.type #[a.eval x,a.eval y]).run P w).andThen fun v w'=>.ok (.value v) w':=by
   unfold execOp;simp [ho,resolve,hcal,hargs,htys,invoke,builtin]
 unfold Oper.wp;rw[hexec];unfold qfa at h;split at h
 · rename_i et e bb d' hg hd';injection hd' with hd'
   subst hd';obtain⟨_,hu,hty,⟨ib,ib1,ib2⟩,hbb,hsz⟩:=hT T' _ hg;obtain⟨ie,z,i1,i2,i3,i4⟩:=hty.info;have hib:ie.bytes=bb:=by rw[i1] at ib1;injection ib1 with ib1;subst ib1;exact ib2
   have hzsz:z.cells.size=e.size:=by
     have h1:=congrArg List.length i4;have h2:=(qfg w S e).length;simp at h1;omega
   split at h
   · rename_i ys hys;obtain⟨A,cap2,hyv,hcap2,hycells⟩:=qoA R hs hys hy;rw[hyv];have hnews:∃ news:List Value,news.length=ys.length*e.size/\(∀ v∈news,v.oneCell'=true)/\(∀ (i:Nat) q,ys[i]?=some q->Cell w S e q ((news.drop (i*e.size)).take e.size)) /\
         (ys.length=0\/∃ a2:Addr,A=some a2/\∀ (j:Nat) u,news[j]?=some u->w.cell? (a2.add j)=some u):=by
       rcases hycells with rfl | ⟨b2,o2,rfl,hr⟩
       · exact⟨[],by simp,by simp,by simp,.inl rfl⟩
       · obtain ⟨cs, c1, c2, c3, c4⟩ := qhr hr;exact⟨cs,c1,c3,c4,.inr ⟨_,rfl,fun j u hj=>by rw[Addr.add_mid];exact c2 j u hj⟩⟩
     obtain⟨news,n1,n2,n3,n4⟩:=hnews;have fresh:∀ {s1:St} (R1:Rel T B w S J s1 a) (hfl:e.flat=true) (hK:get s1.h (d*8)=none) (rows:List e.den) (olds:List Value) (ho1:olds.length=rows.length*e.size) (ho2:∀ (i:Nat) q,rows[i]?=some q->Cell w S e q ((olds.drop (i*e.size)).take e.size))
         (sc:Nat) (hge:rows.length+ys.length<=grownCap w (rows.length+ys.length) sc et),
         ∃ J',Rel T B (w.drew.alloc (.cells (olds.toArray++news.toArray++Builtin.zeroCells z.cells (grownCap w (rows.length+ys.length) sc et-(rows.length+ys.length))) et)) S J' ⟨s1.e,(d*8,.rows e (rows++ys) .own)::s1.h⟩ a /\
           TRel (w.drew.alloc (.cells (olds.toArray++news.toArray++Builtin.zeroCells z.cells (grownCap w (rows.length+ys.length) sc et-(rows.length+ys.length))) et)) S J' (get ((d*8,.rows e (rows++ys) .own)::s1.h)) (.osl (d*8) 0 none) (.slice (some ⟨w.heap.size,0,none⟩) (rows.length+ys.length) (grownCap w (rows.length+ys.length) sc et)):=by
       intro s1 R1 hfl hK rows olds ho1 ho2 sc hge;generalize hcap:grownCap w (rows.length+ys.length) sc et=cap' at hge;generalize hcc:olds.toArray++news.toArray++Builtin.zeroCells z.cells (cap'-(rows.length+ys.length))=cc;have hblk:Blk (w.drew.alloc (.cells cc et)) w.heap.size cc:=qbN w.drew cc et;have hccs:cc.size=cap'*e.size:=by
         rw[<- hcc];simp only[Array.size_append,List.size_toArray,size_zeroCells,hzsz,ho1,n1,<- Nat.add_mul];congr 1;omega
       have hfront:∀ (j:Nat) (v:Value),(olds++news)[j]?=some v->cc[j]?=some v:=by
         intro j v hv;rw[<- hcc];have hj:=(List.getElem?_eq_some_iff.1 hv).1;rw[Array.getElem?_append_left (by simpa using hj)];simpa using hv
       have hrow:=qm5 ho2 n3 ho1 n1 hblk hfront;have:=qjw (w':=w.drew.alloc (.cells cc et)) R1 (Calm.trans (w':=w.drew) ⟨rfl,rfl,fun _=>rfl⟩ (qdA w.drew cc et)) hK (fun b hb=>qcv (w:=w.drew) hb) (e:=e) hfl (rows:=rows++ys) (v:=.slice (some ⟨w.heap.size,0,none⟩) (rows.length+ys.length) cap')
         (.inr ⟨cc,cap',by simp,by simp,hblk,by simpa using hge,by rw[hccs];exact Nat.le_refl _,hrow⟩)
       exact this
     have bound:∀ {n:Nat},n*bb<=140737488355328->(n:Int)<=9223372036854775807:=by
       intro n hn;have:=Nat.le_mul_of_pos_right n hbb;omega
     have nilcase:∀ {s1:St} (R1:Rel T B w S J s1 a) (hfl:e.flat=true) (hK:get s1.h (d*8)=none) (hbnd:ys.length*bb<=140737488355328),
         ∃ v w' J',(Builtin.append_ #[T',T'] o.type #[.slice none 0 0,.slice A ys.length cap2]).run P w=.ok v w'/\Rel T B w' S J' ⟨s1.e,(d*8,.rows e ys .own)::s1.h⟩ a/\TRel w' S J' (get ((d*8,.rows e ys .own)::s1.h)) (.osl (d*8) 0 none) v:=by
       intro s1 R1 hfl hK hbnd;rcases n4 with hm | ⟨a2,rfl,hn⟩
       · have hy0 : ys = [] := List.eq_nil_of_length_eq_zero hm;subst hy0;obtain⟨J',e1,e2⟩:=qjw (w':=w) R1 (Calm.refl w) hK (fun _ _=>rfl) (e:=e) hfl (rows:=[]) (v:=.slice none 0 0) (.inl ⟨rfl,rfl,rfl⟩);exact⟨_,_,J',qcz w T' _ et ie hu i1 none A 0 0 cap2 (Nat.le_refl _),e1,e2⟩
       · by_cases hm : ys.length = 0
         · have hy0 : ys = [] := List.eq_nil_of_length_eq_zero hm;subst hy0;obtain⟨J',e1,e2⟩:=qjw (w':=w) R1 (Calm.refl w) hK (fun _ _=>rfl) (e:=e) hfl (rows:=[]) (v:=.slice none 0 0) (.inl ⟨rfl,rfl,rfl⟩);exact⟨_,_,J',qcz w T' _ et ie hu i1 none (some a2) 0 0 cap2 (Nat.le_refl _),e1,e2⟩
         · have hr := run_append_nil (P := P) w T' o.type et ie z hu i1 i3 a2 ys.length cap2 news (by rw [i2]; exact n1) hn (by omega) (bound hbnd) (by rw [hib]; omega);obtain⟨J',e1,e2⟩:=fresh R1 hfl hK [] [] (by simp) (by simp) 0 (by simpa using grownCap_ge w ys.length 0 et);simp only[List.length_nil,Nat.zero_add,List.nil_append,Array.empty_append] at e1 e2;exact⟨_,_,J',hr,e1,e2⟩
     split at h
     · rename_i hpx;obtain⟨hfl,h⟩:=q8q h;obtain⟨hbnd,h⟩:=q8q h;have hbnd:=Nat.le_of_ble_eq_true hbnd;unfold qj6 at h;split at h
       · rename_i hnone;injection h with h
         subst h;have hxv:a.eval x=.slice none 0 0:=by rw[hpx] at hx;exact hx
         rw[hxv];obtain⟨v,w',J',hr,R2,hv2⟩:=nilcase R hfl (hkk hnone) hbnd;rw[hr];refine hnx v w' S J' (Rel.app (ef:=⟨some (.osl (d*8) 0 none),(d*8,.rows e ys .own)::[]⟩) R2 hdo fun pv hpv=>?_);injection hpv with hpv
         subst hpv;exact hv2
       · cases h
     · rename_i k len hpx;split at h
       · rename_i t xs hk;split at h
         · rename_i zs hz;obtain⟨rfl,rfl⟩:=qda hz;have hfl:=hflt _ _ _ hg;obtain⟨hcond,h⟩:=q8q h;simp only[hfl,cond_true] at h;simp only[Bool.and_eq_true] at hcond;have hbnd:=Nat.le_of_ble_eq_true hcond.1;unfold qj6 at h;split at h
           · rename_i hnone;injection h with h
             subst h;have hk':=hs k _ hk;have hKn:=hkk hnone;rw[hpx] at hx;obtain⟨hw,hx2⟩:=qdS R hk' hx;have hl:=qbt hw;obtain⟨S1,R1,hS1,_,hS2⟩:=R.ghost [(k,Ob.gone)] (fun k1 ob1 h1=>by
               rw[q6q] at h1;split at h1
               · rename_i e1;subst e1;injection h1 with h1;exact⟨_,hk',.inr h1.symm⟩
               · cases h1)
             have hSS:S1=S:=funext fun b=>propext ⟨fun h=>(hS2 b h).resolve_right (by
               rintro⟨k1,t1,x1,o1,h1,_⟩;rw[q6q] at h1;split at h1
               · injection h1 with h1;cases h1
               · cases h1),hS1 b⟩
             subst hSS;have hK1:get ([(k,Ob.gone)]++s.h) (d*8)=none:=by
               have hne:k≠d*8:=by rintro rfl;rw[hk'] at hKn;cases hKn
               simp [q6q,hne,hKn]
             have fin:∀ v w' S' J',Rel T B w' S' J' ⟨s.e,(d*8,.rows t (win zs 0 len++ys) .own)::(k,.gone)::s.h⟩ a->TRel w' S' J' (get ((d*8,.rows t (win zs 0 len++ys) .own)::(k,.gone)::s.h)) (.osl (d*8) 0 none) v->next (a.put o.dst v) w':=by
               intro v w' S' J' R2 hv2;refine hnx v w' S' J' (Rel.app (ef:=⟨some (.osl (d*8) 0 none),(d*8,.rows t (win zs 0 len++ys) .own)::[(k,.gone)]⟩) R2 hdo fun pv hpv=>?_);injection hpv with hpv
               subst hpv;exact hv2
             rcases hx2 with ⟨hb0,_,hwl0,hxv⟩ | ⟨b,o0,x0,cap,hb,hxv,hcap,hx0,hown⟩
             · have hW : win zs 0 len = [] := List.eq_nil_of_length_eq_zero (by omega);rw[hW] at fin hbnd;simp only[List.nil_append,List.length_nil,Nat.zero_add] at fin hbnd;obtain⟨v,w',J',hr,R2,hv2⟩:=nilcase R1 hfl hK1 hbnd;rw[hxv,hr];exact fin v w' _ J' R2 hv2
             · have hor := R.obs k _ hk';simp only[ORel,hb] at hor;obtain⟨⟨c,hc,hcsz⟩,hrow,_,_,ho0⟩:=hor;obtain rfl:=ho0 trivial;obtain⟨c2,hc2,hcapsz⟩:=hown rfl;have:=hc.inj hc2;subst this;simp only[Nat.zero_add,Nat.zero_mul,Nat.add_zero] at hx0 hcapsz hcsz;have hrowW:qdG (Cell w S1 t) t.size w b 0 (win zs 0 len):=fun i q hq=>by
                 have:=hrow i q (by have:=qhY hq;rwa [Nat.zero_add] at this)
                 exact this
               obtain⟨olds,p1,p2,p3,p4⟩:=qhr hrowW;rw[hxv];have inv:∀ (c':Array Value),c'.size=c.size->qdG (Cell w S1 t) t.size (w.setRow b c') b 0 (win zs 0 len++ys)->(win zs 0 len++ys).length<=cap->∀ x1,(cap=0\/x1=0) ->
                   next (a.put o.dst (.slice (some ⟨b,x1,none⟩) ((win zs 0 len++ys).length) cap)) (w.setRow b c'):=by
                 intro c' hs' hr' hle x1 hx1;have hle2:(win zs 0 len++ys).length*t.size<=cap*t.size:=Nat.mul_le_mul_right _ hle;refine fin _ _ _ _ (R.inplace hfl hk' hKn hb hc hs' hr' (by omega)) ?_;have:qac (w.setRow b c') S1 (fun k'=>if k'=d*8 then some (b,0) else J k') (get ((d*8,.rows t (win zs 0 len++ys) .own)::(k,.gone)::s.h)) (.osl (d*8) 0 none) (.slice (some ⟨b,x1,none⟩) ((win zs 0 len++ys).length) cap):=by
                   simp only[qac,q6q,if_true];refine⟨by simp [qf1],?_⟩;simp only[OslV];exact⟨x1,cap,by simp [wlen],by simpa [wlen] using hle,by simpa using hx1,fun _=>⟨c',qdv hc,by rw[hs'];simpa using hcapsz⟩⟩
                 exact this.up
               by_cases hm:ys.length=0
               · have hy0 : ys = [] := List.eq_nil_of_length_eq_zero hm;subst hy0;have hr:=qcz (P:=P) w T' o.type et ie hu i1 (some ⟨b,x0,none⟩) A (wlen zs 0 len) cap cap2 hcap;simp only[List.length_nil] at hr ⊢;rw[hr];obtain⟨e0,he0⟩:=hc;have hself:=setRow_self w b c e0 _ he0;have:=inv c rfl (by rw[hself];simpa using hrowW) (by simp only[List.append_nil];omega) x0 hx0;rw[hself] at this;show next (a.put o.dst _) _
                 simpa [hl] using this
               · rcases n4 with n4 | ⟨a2, rfl, hn⟩
                 · exact absurd n4 hm
                 · by_cases hroom : wlen zs 0 len + ys.length <= cap
                   · obtain rfl : x0 = 0 := hx0.resolve_left (by omega);have hfit:wlen zs 0 len*t.size+news.length<=c.size:=by
                      rw[n1,<- Nat.add_mul];exact Nat.le_trans (Nat.mul_le_mul_right _ hroom) hcapsz
                     have hr:=qf3 (P:=P) w T' o.type et ie hu i1 hc (some a2) ys.length cap2 news (by rw[i2];exact n1) (.inr ⟨a2,rfl,hn⟩) n2 hroom (by rw[i2];exact hfit);rw[hr,i2];have hs':=qbo hfit;have hblk':Blk (w.setRow b (qaP c (wlen zs 0 len*t.size) news)) b (qaP c (wlen zs 0 len*t.size) news):=qdv hc;have hlenW:olds.length=wlen zs 0 len*t.size:=by rw[p1,hl]
                     have hfront:∀ (j:Nat) (v:Value),(olds++news)[j]?=some v->(qaP c (wlen zs 0 len*t.size) news)[j]?=some v:=by
                      intro j v hv;by_cases hj:j<olds.length
                      · rw [List.getElem?_append_left hj] at hv;rw[qbu hfit (.inl (by omega)),<- hc.cell];have:=p2 j v hv
                        rwa [Nat.zero_add] at this
                      · rw [List.getElem?_append_right (by omega)] at hv;have h3:=(List.getElem?_eq_some_iff.1 hv).1;have:=qej hfit (j:=j-olds.length) h3;rw[<- hlenW,show olds.length+(j-olds.length)=j by omega] at this;rw[<- hlenW,this];exact hv
                     have hrow':=qm5 p4 n3 p1 n1 hblk' hfront;have:=inv _ hs' hrow' (by simp [hl];omega) 0 (.inr rfl);show next (a.put o.dst _) _
                     simpa [hl] using this
                   · have hold : ∀ (j : Nat) (u : Value), olds[j]? = some u->w.cell? ((⟨b, x0, none⟩ : Addr).add j) = some u := by
                      intro j u hu';have h3:=(List.getElem?_eq_some_iff.1 hu').1;have hx00:x0=0:=by
                        refine hx0.resolve_left fun h0=>?_
                        have:wlen zs 0 len=0:=by omega
                        rw[p1,hl,this] at h3;omega
                      subst hx00;rw[Addr.add_mid];exact p2 j u hu'
                     have hbnd':(wlen zs 0 len+ys.length)*ie.bytes<=140737488355328:=by rw[hib,<- hl];exact hbnd
                     have hr:=run_append_grow (P:=P) w T' o.type et ie z hu i1 i3 ⟨b,x0,none⟩ (wlen zs 0 len) cap olds (by rw[p1,hl,i2]) hold a2 ys.length cap2 news (by rw[i2];exact n1) hn (by omega)
                      (bound (n:=wlen zs 0 len+ys.length) (by rw[<- hib];exact hbnd')) (growslice_fits (by omega) hbnd')
                     rw[hr];obtain⟨J',e1,e2⟩:=fresh R1 hfl hK1 (win zs 0 len) olds p1 p4 cap (by simpa using grownCap_ge w ((win zs 0 len).length+ys.length) cap et);rw[hl] at e1 e2;exact fin _ _ _ J' e1 e2
           · cases h
         · cases h
       · cases h
     · cases h
   · cases h
 · cases h
variable {T:Told} {P:Program} {tb:Tb}
abbrev qAG (t:Ty):=List PV×List (Nat×Ob)×Nat×t.den
def qgF (t:Ty) (x:t.den) (q:Nat):Option (qAG t):=qiY t x q fun c w q' r=>some (c,w,q',r)
theorem qgs {R:Type}:∀ (t:Ty) (x:t.den) (q:Nat) (K:List PV->List (Nat×Ob)->Nat->t.den->Option R),
  qiY t x q K=(qgF t x q).bind fun p=>K p.1 p.2.1 p.2.2.1 p.2.2.2:=by
 intro t
 induction t generalizing R with
 | pair a b iha ihb =>
  intro x q K;unfold qgF;simp only[qiY];rw[iha x.1 q,iha x.1 q];cases qgF a x.1 q with
  | none=>rfl
  | some p =>
   simp only[Option.bind_some];rw[ihb,ihb];cases qgF b x.2 p.2.2.1 with
   | none=>rfl
   | some p'=>rfl
 | os e _ =>
  intro x q K;unfold qgF;simp only[qiY];cases x with
  | none=>rfl
  | some xs=>rfl
 | op l ih =>
  intro x q K;unfold qgF;simp only[qiY];cases x with
  | none=>rfl
  | some y =>
   simp only[Option.bind_some];rw[ih y (q+1),ih y (q+1)];cases qgF l y (q+1) with
   | none=>rfl
   | some p=>rfl
 | int _ | bool | str | unit | sl _ _=>intro x q K;rfl
def ObOk (w:World) (S:Foot) (n0:Nat) (J:Con) (g:Hp):Ob->Option Nat->Prop
 | .rows e xs .own,none=>xs=[]
 | .rows e xs .own,some b=>e.flat=true/\∃ c,Blk w b c/\xs.length*e.size<=c.size/\qdG (Cell w S e) e.size w b 0 xs
 | .box l,some b=>n0<=b/\∃ c,Blk w b c/\All2 (qac w S J g) l c.toList
 | _,_=>False
abbrev Zs:=List (Nat×(Ob×Option Nat))
def Zs.ws (zs:Zs):List (Nat×Ob):=zs.map fun z=>(z.1,z.2.1)
def Zs.bs (zs:Zs):List Nat:=zs.filterMap fun z=>z.2.2
theorem qw5 {w:World} {S:Foot} {n0:Nat}:∀ {t:Ty} {x:t.den} {q:Nat} {cs:List PV} {ws:List (Nat×Ob)} {q':Nat} {r:t.den} {ds:List Value} {F:List Nat},
  qgF t x q=some (cs,ws,q',r)->Cell w S t x ds->qiL w S n0 t x ds F ->
  ∃ zs:Zs,ws=zs.ws/\F=zs.bs/\q<=q'/\(zs.map (·.1)).Nodup/\(∀ z∈zs,q<=z.1/\z.1<q')/\Cell w S t r ds/\qiL w S n0 t r ds [] /\
   ∀ (J':Con) (g':Hp),(∀ z∈zs,g' z.1=some z.2.1/\J' z.1=z.2.2.map fun b=>(b,0))->All2 (qac w S J' g') cs ds/\∀ z∈zs,ObOk w S n0 J' g' z.2.1 z.2.2:=by
 intro t
 induction t with
 | pair a b iha ihb =>
  intro x q cs ws q' r ds F h hc ho;obtain⟨c1,c2,rfl,hc1,hc2⟩:=hc;obtain⟨d1,d2,F1,F2,e1,e2,rfl,ho1,ho2⟩:=ho;obtain⟨rfl,rfl⟩:=List.append_inj e1 (by rw[hc1.length,e2]);unfold qgF at h;simp only[qiY] at h;rw[qgs] at h;cases h1:qgF a x.1 q with
  | none=>rw[h1] at h;cases h
  | some p1 =>
   obtain⟨cs1,ws1,q1,r1⟩:=p1;rw[h1] at h;simp only[Option.bind_some] at h;rw[qgs] at h;cases h2:qgF b x.2 q1 with
   | none=>rw[h2] at h;cases h
   | some p2 =>
     obtain⟨cs2,ws2,q2,r2⟩:=p2;rw[h2] at h;simp only[Option.bind_some,Option.some.injEq,Prod.mk.injEq] at h;obtain⟨rfl,rfl,rfl,rfl⟩:=h;obtain⟨z1,a1,a2,a3,a4,a5,a6,a7,a8⟩:=iha h1 hc1 ho1;obtain⟨z2,b1,b2,b3,b4,b5,b6,b7,b8⟩:=ihb h2 hc2 ho2;refine⟨z1++z2,by rw[a1,b1];simp [Zs.ws],by rw[a2,b2];simp [Zs.bs],Nat.le_trans a3 b3,?_,?_,⟨_,_,rfl,a6,b6⟩,⟨_,_,[],[],rfl,e2,rfl,a7,b7⟩,fun J' g' hz=>?_⟩
     · rw [List.map_append];refine List.nodup_append.2 ⟨a4,b4,fun n hn m hm=>?_⟩;obtain⟨z,hz,rfl⟩:=List.mem_map.1 hn;obtain⟨z',hz',rfl⟩:=List.mem_map.1 hm;have:=a5 z hz;have:=b5 z' hz';omega
     · intro z hz;rcases List.mem_append.1 hz with hz | hz
       · have:=a5 z hz;omega
       · have:=b5 z hz;omega
     · obtain ⟨g1, g2⟩ := a8 J' g' fun z h => hz z (List.mem_append.2 (.inl h))
       obtain⟨g3,g4⟩:=b8 J' g' fun z h=>hz z (List.mem_append.2 (.inr h))
       exact⟨All2.append g1 g3,fun z h=>(List.mem_append.1 h).elim (g2 z) (g4 z)⟩
 | os e _ =>
  intro x q cs ws q' r ds F h hc ho;unfold qgF at h;simp only[qiY] at h;cases x with
  | none=>cases h
  | some xs =>
   simp only[Option.bind_some,Option.some.injEq,Prod.mk.injEq] at h;obtain⟨rfl,rfl,rfl,rfl⟩:=h;obtain⟨hfl,v,rfl,ho⟩:=ho;have hc':Cell w S (.os e) (none:(Ty.os e).den) [v]:=by
     obtain⟨v',e1,e2⟩:=hc;exact⟨v',e1,e2⟩
   rcases ho with ⟨hx0,rfl,rfl⟩ | ⟨b,o,cap,c,rfl,rfl,hle,hco,hb,hcs,hr⟩
   · refine ⟨[(q, (.rows e xs .own, none))], rfl, rfl, by omega, by simp, by simp, hc', rfl, fun J' g' hz => ?_⟩;obtain⟨z1,z2⟩:=hz _ List.mem_cons_self;refine⟨⟨?_,trivial⟩,fun z hz=>?_⟩
     · simp only [qac, z1];simp only[Option.map_none] at z2;rw[hx0];exact⟨by simp [qf1],by simp [OslV,z2,wlen]⟩
     · simp only [List.mem_singleton] at hz;subst hz;exact hx0
   · refine ⟨[(q, (.rows e xs .own, some b))], rfl, rfl, by omega, by simp, by simp, hc', rfl, fun J' g' hz => ?_⟩;obtain⟨z1,z2⟩:=hz _ List.mem_cons_self;refine⟨⟨?_,trivial⟩,fun z hz=>?_⟩
     · simp only [qac, z1];simp only[Option.map_some] at z2;refine⟨by simp [qf1],?_⟩;simp only[OslV,z2];exact⟨o,cap,by simp [wlen],by simpa [wlen] using hle,by simpa using hco,fun _=>⟨c,hb,by simpa using hcs⟩⟩
     · simp only [List.mem_singleton] at hz;subst hz;exact⟨hfl,c,hb,Nat.le_trans (Nat.mul_le_mul_right _ hle) hcs,hr⟩
 | op l ih =>
  intro x q cs ws q' r ds F h hc ho;unfold qgF at h;simp only[qiY] at h;cases x with
  | none=>cases h
  | some y =>
   simp only[Option.bind_some] at h;rw[qgs] at h;cases h1:qgF l y (q+1) with
   | none=>rw[h1] at h;cases h
   | some p =>
     obtain⟨cs1,ws1,q1,r1⟩:=p;rw[h1] at h;simp only[Option.bind_some,Option.some.injEq,Prod.mk.injEq] at h;obtain⟨rfl,rfl,rfl,rfl⟩:=h;obtain⟨b,c,F',hn0,rfl,rfl,hb,hcc,hoo⟩:=ho;obtain⟨zs,a1,a2,a3,a4,a5,a6,a7,a8⟩:=ih h1 hcc hoo;refine⟨(q,(.box cs1,some b))::zs,by rw[a1];rfl,by rw[a2];rfl,by omega,?_,?_,⟨_,rfl,rfl⟩,rfl,fun J' g' hz=>?_⟩
     · rw [List.map_cons];refine List.nodup_cons.2 ⟨fun hm=>?_,a4⟩;obtain⟨z,hz,e⟩:=List.mem_map.1 hm;have:=a5 z hz;simp only at e;omega
     · intro z hz;rcases List.mem_cons.1 hz with rfl | hz
       · simp only;omega
       · have:=a5 z hz;omega
     · obtain ⟨z1, z2⟩ := hz _ List.mem_cons_self;obtain⟨g1,g2⟩:=a8 J' g' fun z h=>hz z (List.mem_cons_of_mem _ h)
       refine⟨⟨?_,trivial⟩,fun z hz=>?_⟩
       · simp only [qac, z1];exact⟨b,0,by simpa using z2,by simp⟩
       · rcases List.mem_cons.1 hz with rfl | hz
         · exact⟨hn0,c,hb,g1⟩
         · exact g2 z hz
 | unit =>
  intro x q cs ws q' r ds F h hc ho;unfold qgF at h;simp only[qiY,Option.some.injEq,Prod.mk.injEq] at h;obtain⟨rfl,rfl,rfl,_⟩:=h;have hF:F=[]:=ho;have hd:ds=[]:=hc;subst hd;exact⟨[],rfl,hF,Nat.le_refl _,by simp,by simp,rfl,rfl,fun J' g' _=>⟨trivial,by simp⟩⟩
 | int k =>
  intro x q cs ws q' r ds F h hc ho;unfold qgF at h;simp only[qiY,Option.some.injEq,Prod.mk.injEq] at h;obtain⟨rfl,rfl,rfl,rfl⟩:=h;have hF:F=[]:=ho;have hd:ds=[.int k x]:=hc;subst hd;exact⟨[],rfl,hF,Nat.le_refl _,by simp,by simp,rfl,rfl,fun J' g' _=>⟨⟨rfl,trivial⟩,by simp⟩⟩
 | bool =>
  intro x q cs ws q' r ds F h hc ho;unfold qgF at h;simp only[qiY,Option.some.injEq,Prod.mk.injEq] at h;obtain⟨rfl,rfl,rfl,rfl⟩:=h;have hF:F=[]:=ho;have hd:ds=[.bool x]:=hc;subst hd;exact⟨[],rfl,hF,Nat.le_refl _,by simp,by simp,rfl,rfl,fun J' g' _=>⟨⟨rfl,trivial⟩,by simp⟩⟩
 | str =>
  intro x q cs ws q' r ds F h hc ho;unfold qgF at h;simp only[qiY,Option.some.injEq,Prod.mk.injEq] at h;obtain⟨rfl,rfl,rfl,rfl⟩:=h;have hF:F=[]:=ho;have hd:ds=[.string x]:=hc;subst hd;exact⟨[],rfl,hF,Nat.le_refl _,by simp,by simp,rfl,rfl,fun J' g' _=>⟨⟨rfl,trivial⟩,by simp⟩⟩
 | sl e _ =>
  intro x q cs ws q' r ds F h hc ho;unfold qgF at h;simp only[qiY,Option.some.injEq,Prod.mk.injEq] at h;obtain⟨rfl,rfl,rfl,rfl⟩:=h;have hF:F=[]:=ho;have hc0:=hc;obtain⟨A,cap,rfl,_⟩:=hc;exact⟨[],rfl,hF,Nat.le_refl _,by simp,by simp,hc0,rfl,fun J' g' _=>⟨⟨hc0,trivial⟩,by simp⟩⟩
theorem At.unique {w:World} {b o:Nat} {cs ds:List Value} (h1:At w b o cs) (h2:At w b o ds) (hl:cs.length=ds.length):cs=ds:=by
 refine List.ext_getElem? fun j=>?_
 by_cases hj:j<cs.length
 · have e1 := h1 j _ (List.getElem?_eq_getElem hj);have e2:=h2 j _ (List.getElem?_eq_getElem (by omega));rw[e1] at e2;rw[List.getElem?_eq_getElem hj,List.getElem?_eq_getElem (by omega),e2]
 · rw[List.getElem?_eq_none (by omega),List.getElem?_eq_none (by omega)]
theorem qx3 {zs:Zs} (h:(zs.map (·.1)).Nodup) {z:Nat×(Ob×Option Nat)} (hz:z∈zs):get zs z.1=some z.2:=by
 induction zs with
 | nil=>simp at hz
 | cons y zs ih =>
  obtain⟨m,v⟩:=y;rw[q6q];rw[List.map_cons] at h;obtain⟨h1,h2⟩:=List.nodup_cons.1 h;rcases List.mem_cons.1 hz with rfl | hz
  · simp
  · rw [if_neg (fun e => h1 (List.mem_map.2 ⟨z, hz, e.symm⟩))];exact ih h2 hz
theorem qAz {zs:Zs} (n:Nat):get zs.ws n=(get zs n).map (·.1):=by
 induction zs with
 | nil=>rfl
 | cons y zs ih =>
  obtain⟨m,v⟩:=y;simp only[Zs.ws,List.map_cons,q6q] at ih ⊢;split<;>simp_all
theorem qys (zs:Zs):qab zs.ws=zs.map (·.1):=by simp [qab,Zs.ws]
theorem qyt {zs:Zs} {z:Nat×(Ob×Option Nat)} (hz:z∈zs) {b:Nat} (hb:z.2.2=some b):b∈zs.bs:=List.mem_filterMap.2 ⟨z,hz,hb⟩
theorem qzO {zs:Zs} (h:zs.bs.Nodup) {z z':Nat×(Ob×Option Nat)} (hz:z∈zs) (hz':z'∈zs) {b:Nat} (hb:z.2.2=some b) (hb':z'.2.2=some b):z=z':=by
 induction zs with
 | nil=>simp at hz
 | cons y zs ih =>
  have hcons:Zs.bs (y::zs)=(match y.2.2 with | some k=>[k] | none=>[])++Zs.bs zs:=by
    unfold Zs.bs;cases hy:y.2.2<;>simp [List.filterMap_cons,hy]
  rw[hcons] at h;have h2:Zs.bs zs |>.Nodup:=(List.nodup_append.1 h).2.1
  rcases List.mem_cons.1 hz with e1 | m1
  · rcases List.mem_cons.1 hz' with e2 | m2
    · rw[e1,e2]
    · rw [<- e1, hb] at h;exact absurd rfl ((List.nodup_append.1 h).2.2 b (by simp) b (qyt m2 hb'))
  · rcases List.mem_cons.1 hz' with e2 | m2
    · rw [<- e2, hb'] at h;exact absurd rfl ((List.nodup_append.1 h).2.2 b (by simp) b (qyt m1 hb))
    · exact ih h2 m1 m2
theorem qnC {Fs:List (List Nat)} {i:Nat} {F:List Nat} (hi:Fs[i]?=some F) (hn:Fs.flatten.Nodup):(Fs.set i []).flatten.Nodup/\F.Nodup/\(∀ b∈F,b∈Fs.flatten)/\∀ b∈(Fs.set i []).flatten,b∈Fs.flatten/\b ∉ F:=by
 induction Fs generalizing i with
 | nil=>simp at hi
 | cons G Fs ih =>
  rw[List.flatten_cons] at hn;obtain⟨n1,n2,n3⟩:=List.nodup_append.1 hn;cases i with
  | zero =>
   simp only[List.getElem?_cons_zero,Option.some.injEq] at hi;subst hi;refine⟨by simpa using n2,n1,fun b hb=>by simp [hb],fun b hb=>?_⟩;have hb:b∈Fs.flatten:=by simpa using hb
   exact⟨by rw[List.flatten_cons];exact List.mem_append.2 (.inr hb),fun hF=>n3 b hF b hb rfl⟩
  | succ i =>
   obtain⟨a1,a2,a3,a4⟩:=ih (by simpa using hi) n2;rw[List.set_cons_succ,List.flatten_cons,List.flatten_cons];refine⟨List.nodup_append.2 ⟨n1,a1,fun x hx y hy=>n3 x hx y (a4 y hy).1⟩,a2,fun b hb=>List.mem_append.2 (.inr (a3 b hb)),fun b hb=>?_⟩;rcases List.mem_append.1 hb with hb | hb
   · exact⟨List.mem_append.2 (.inl hb),fun hF=>n3 b hb b (a3 b hF) rfl⟩
   · exact⟨List.mem_append.2 (.inr (a4 b hb).1),(a4 b hb).2⟩
theorem qpt {Fs:List (List Nat)} {i j:Nat} {F G:List Nat} (hn:Fs.flatten.Nodup) (hi:Fs[i]?=some F) (hj:Fs[j]?=some G) (hne:i≠j) {b:Nat} (h1:b∈F) (h2:b∈G):False:=by
 obtain⟨_,_,_,h⟩:=qnC hi hn;refine(h b ?_).2 h1;exact List.mem_flatten.2 ⟨G,List.mem_of_getElem? (i:=j) (by rw[List.getElem?_set_ne hne];exact hj),h2⟩
theorem qxu {h:Hp}:∀ {n k:Nat},qvL h k n=true->∀ j,k<=j->j<k+n->h j=none:=by
 intro n
 induction n with
 | zero=>intro k _ j h1 h2;omega
 | succ n ih =>
  intro k hf j h1 h2;simp only[qvL] at hf;split at hf
  · rename_i hk;by_cases e:j=k
    · subst e;exact hk
    · exact ih hf j (by omega) (by omega)
  · cases hf
section
variable {B:Base} {w:World} {S:Foot} {J:Con} {s:St} {a:Act}
theorem Rel.openE (R:Rel T B w S J s a) {k:Nat} {t:Ty} {xs:List t.den} (hk:get s.h k=some (.rows t xs .own)) {b o:Nat} (hb:J k=some (b,o)) {i:Nat} {x:t.den} (hx:xs[i]?=some x) (hnf:t.flat=false)
   {q q':Nat} {cs:List PV} {ws:List (Nat×Ob)} {r:t.den} (hop:qgF t x q=some (cs,ws,q',r)) (hfree:∀ j,q<=j->j<q'->get s.h j=none) (hlow:q'<=B.nt*8) :
   ∃ J' ds,ds.length=t.size/\At w b (o+i*t.size) ds/\Rel T B w S J' ⟨s.e,((k,.rows t (xs.set i r) .own)::ws)++s.h⟩ a/\All2 (qac w S J' (get (((k,.rows t (xs.set i r) .own)::ws)++s.h))) cs ds/\Evo w w S S J J' (get s.h) (get (((k,.rows t (xs.set i r) .own)::ws)++s.h)):=by
 obtain⟨O,D⟩:=R.deep;have h0:=R.obs k _ hk;simp only[ORel,hb] at h0;obtain⟨⟨c,hc,hsz⟩,hr,_,hlv,ho⟩:=h0;have ho:=ho trivial;subst ho;obtain⟨hlvS,hlvM⟩:=hlv (by simp);obtain⟨Fs,f1,f2,f3,f4⟩:=(D.row k t xs b 0 hk hb).resolve_left (by rw[hnf];simp);have hil:i<xs.length:=(List.getElem?_eq_some_iff.1 hx).1;obtain⟨F,hF⟩:∃ F,Fs[i]?=some F:=⟨_,List.getElem?_eq_getElem (by omega)⟩;obtain⟨ds,d1,d2,d3⟩:=f4 i x F hx hF;obtain⟨ds',e1,e2⟩:=hr i x hx;have hds:ds'=ds:=At.unique (by simpa using e2) (by simpa using d2) (by rw[e1.length,d1]);subst hds;obtain⟨p1,p2,p3,p4⟩:=qnC hF f2;have hFφ:∀ b∈F,b∈O k:=fun b hb=>f3 b (p3 b hb)
 obtain⟨zs,z1,z2,z3,z4,z5,z6,z7,z8⟩:=qw5 hop e1 d3;subst z1;have hzk:∀ z∈zs,get s.h z.1=none:=fun z hz=>hfree _ (z5 z hz).1 (z5 z hz).2
 have hkz:∀ z∈zs,z.1≠k:=fun z hz e=>by have:=hzk z hz;rw[e,hk] at this;cases this
 let J':Con:=fun n=>match get zs n with | some (_,ob)=>ob.map fun b=>(b,0) | none=>J n
 have hβz:∀ z∈zs,J' z.1=z.2.2.map fun b=>(b,0):=fun z hz=>by
   simp only[J',qx3 z4 hz]
 have hβo:∀ n,n ∉ zs.map (·.1)->J' n=J n:=fun n hn=>by
   have:get zs n=none:=q11q hn;simp only[J',this]
 have hβs:∀ n ob,get s.h n=some ob->J' n=J n:=fun n ob hn=>hβo n fun hm=>by
   obtain⟨z,hz,rfl⟩:=List.mem_map.1 hm;rw[hzk z hz] at hn;cases hn
 have hkw:∀ n,n∈qab ((k,Ob.rows t (xs.set i r) .own)::zs.ws) ↔ n=k\/∃ z∈zs,z.1=n:=fun n=>by
   simp only[qab,List.map_cons,List.mem_cons];have:=qys zs;simp only[qab] at this;rw[this,List.mem_map]
 have gk:get (((k,Ob.rows t (xs.set i r) .own)::zs.ws)++s.h) k=some (.rows t (xs.set i r) .own):=by simp [q6q]
 have gz:∀ z∈zs,get (((k,Ob.rows t (xs.set i r) .own)::zs.ws)++s.h) z.1=some z.2.1:=fun z hz=>by
   rw[List.cons_append,q6q,if_neg (fun e=>hkz z hz e.symm),q2q,qAz,qx3 z4 hz];rfl
 obtain⟨y1,y2⟩:=z8 J' (get (((k,Ob.rows t (xs.set i r) .own)::zs.ws)++s.h)) fun z hz=>⟨gz z hz,hβz z hz⟩
 have hoff:∀ z∈zs,∀ b,z.2.2=some b->b∈F:=fun z hz b hb=>by rw[z2];exact qyt hz hb
 have hlive:∀ n ob bb oo,get s.h n=some ob->ob.live=true->J n=some (bb,oo)->bb ∉ F:=fun n ob bb oo h1 h2 h3 hm=>(D.off k bb (hFφ bb hm)).2.2.2.1 n ob oo h1 h2 h3
 have main:Rel T B w S J' ⟨s.e,((k,.rows t (xs.set i r) .own)::zs.ws)++s.h⟩ a/\Evo w w S S J J' (get s.h) (get (((k,.rows t (xs.set i r) .own)::zs.ws)++s.h)):=?_
 · exact⟨J',ds',d1,by simpa using e2,main.1,y1,main.2⟩
 refine R.genDE D (w':=w) (S':=S) (J':=J') (Calm.refl w) ((k,.rows t (xs.set i r) .own)::zs.ws) (fun _=>False) (fun _ _ _=>rfl) (Nat.le_refl _) (fun _ h=>h.elim) ?_ (fun _ h=>h) (fun _ h=>.inl h) R.Slt ?_ ?_ ?_ ?_ (fun _ _ _ _ _ h=>h.elim) ?_ ?_ ?_ ?_
 · intro n ob hn _;exact hβs n ob hn
 · intro n ob b2 o2 hn _ hl hb2;exact(R.liveS hn hl hb2).1
 · intro n ob hm hn E;rcases(hkw n).1 hm with rfl | ⟨z,hz,rfl⟩
   · rw [gk] at hn; injection hn with hn; subst hn
     simp only[ORel,hβs n _ hk,hb];refine⟨⟨c,hc,by simpa using hsz⟩,fun j y hy=>?_,by simp,fun _=>⟨hlvS,hlvM⟩,fun _=>trivial⟩;rcases qdN hy with ⟨rfl,rfl,_⟩ | ⟨_,hy⟩
     · exact⟨ds',z6,e2⟩
     · exact hr j y hy
   · rw [gz z hz] at hn; injection hn with hn; subst hn
     have hy:=y2 z hz;have hβ:=hβz z hz;have hblk:∀ bb,z.2.2=some bb->¬ S bb/\B.Mo bb:=fun bb hbb=>by
       obtain⟨q1,q2,_⟩:=D.off k bb (hFφ bb (hoff z hz bb hbb));exact⟨q1,q2⟩
     obtain⟨n,ob,obn⟩:=z;simp only at hy hβ hblk ⊢;cases ob with
     | gone=>exact hy.elim
     | rows e ys m =>
       cases m with
       | lent=>exact hy.elim
       | frz=>exact hy.elim
       | own =>
         cases obn with
         | none=>simp only[ORel,hβ,Option.map_none];exact hy
         | some bb =>
           obtain⟨_,c2,q1,q2,q3⟩:=hy;simp only[ORel,hβ,Option.map_some];exact⟨⟨c2,q1,by omega⟩,q3,by simp,fun _=>hblk bb rfl,fun _=>trivial⟩
     | box l =>
       cases obn with
       | none=>exact hy.elim
       | some bb =>
         obtain⟨_,c2,q1,q2⟩:=hy;obtain⟨g1,g2⟩:=hblk bb rfl;exact⟨bb,c2,by rw[hβ];rfl,q1,q2,g1,g2⟩
 · intro n ob hm hn;rcases(hkw n).1 hm with rfl | ⟨z,hz,rfl⟩
   · rw [hk] at hn; injection hn with hn; subst hn
     exact⟨_,gk,rfl,by simp,hβs n _ hk,fun hm=>⟨hm,fun b o c _ hb=>⟨c,hb,rfl⟩⟩,fun _ _ _ _=>rfl⟩
   · rw[hzk z hz] at hn;cases hn
 · intro n n' ob ob' bb o1 o2 hm hn hl hn' hl' hb1 hb2;have src:∀ n ob bb oo,get (((k,Ob.rows t (xs.set i r) .own)::zs.ws)++s.h) n=some ob->ob.live=true->J' n=some (bb,oo)->(∃ ob0,get s.h n=some ob0/\ob0.live=true/\J n=some (bb,oo))\/∃ z∈zs,z.1=n/\z.2.2=some bb:=by
     intro n ob bb oo hn hl hb';by_cases hmm:n∈qab ((k,Ob.rows t (xs.set i r) .own)::zs.ws)
     · rcases (hkw n).1 hmm with rfl | ⟨z, hz, rfl⟩
       · exact .inl ⟨_,hk,rfl,by rw[<- hβs n _ hk];exact hb'⟩
       · refine .inr ⟨z, hz, rfl, ?_⟩;rw[hβz z hz] at hb';cases hq:z.2.2 with
         | none=>rw[hq] at hb';cases hb'
         | some b3=>rw[hq] at hb';simp only[Option.map_some,Option.some.injEq,Prod.mk.injEq] at hb';rw[hb'.1]
     · have hn0 : get s.h n = some ob := by rw [q2q, q11q hmm] at hn; simpa using hn
       exact .inl ⟨ob,hn0,hl,by rw[<- hβs n _ hn0];exact hb'⟩
   rcases src n ob bb o1 hn hl hb1 with ⟨ob0,a1,a2,a3⟩ | ⟨z,hz,rfl,a1⟩
   · rcases src n' ob' bb o2 hn' hl' hb2 with ⟨ob0', c1, c2, c3⟩ | ⟨z', hz', rfl, c1⟩
     · exact R.inj n n' ob0 ob0' bb o1 o2 a1 a2 c1 c2 a3 c3
     · exact absurd (hoff z' hz' bb c1) (hlive n ob0 bb o1 a1 a2 a3)
   · rcases src n' ob' bb o2 hn' hl' hb2 with ⟨ob0', c1, c2, c3⟩ | ⟨z', hz', rfl, c1⟩
     · exact absurd (hoff z hz bb a1) (hlive n' ob0' bb o2 c1 c2 c3)
     · rw[qzO (by rw[<- z2];exact p2) hz hz' a1 c1]
 · intro n t2 ys hm hn;rcases(hkw n).1 hm with rfl | ⟨z,hz,rfl⟩
   · rw[gk] at hn;cases hn
   · rw [gz z hz] at hn; injection hn with hn
     have hy:=y2 z hz;rw[hn] at hy;exact hy.elim
 · intro n ob bb oo hm hn hl hnl hb2 k' o' n';rcases(hkw n).1 hm with rfl | ⟨z,hz,rfl⟩
   · rw [hβs n _ hk] at hb2;exact R.sep n _ bb oo hk rfl (by simp) hb2 k' o' n'
   · rw [hβz z hz] at hb2;cases hq:z.2.2 with
     | none=>rw[hq] at hb2;cases hb2
     | some b3 =>
       rw[hq] at hb2;simp only[Option.map_some,Option.some.injEq,Prod.mk.injEq] at hb2;rw[<- hb2.1];exact(D.off k b3 (hFφ b3 (hoff z hz b3 hq))).2.2.2.2 k' o' n'
 · intro n l hm hn;rcases(hkw n).1 hm with rfl | ⟨z,hz,rfl⟩
   · rw[gk] at hn;cases hn
   · rw [gz z hz] at hn; injection hn with hn
     have hy:=y2 z hz;have hlt:=(z5 z hz).2;refine⟨fun p hp=>?_,fun _ bb oo hb2=>?_⟩
     · rw[Base.PB_low (by omega)] at hp;cases hp
     · rw [hβz z hz] at hb2;cases hq:z.2.2 with
       | none=>rw[hq] at hb2;cases hb2
       | some b3 =>
         rw[hq] at hb2 hy;rw[hn] at hy;simp only[Option.map_some,Option.some.injEq,Prod.mk.injEq] at hb2;rw[<- hb2.1];exact hy.1
 · intro E hblk;refine D.gen2 ((k,.rows t (xs.set i r) .own)::zs.ws) (fun _=>False) (fun n=>if n=k then (O k).filter fun b=>!(F.contains b) else []) (fun _ _ _=>rfl) (Nat.le_refl _) (fun _ h=>h.elim) (fun n ob hn _=>hβs n ob hn) E hblk (fun b h=>.inl h) ?_ ?_ ?_ ?_
   · intro n ob bb oo hm hn hl hb2;rcases(hkw n).1 hm with rfl | ⟨z,hz,rfl⟩
     · exact .inl ⟨n,_,oo,hk,rfl,by rw[<- hβs n _ hk];exact hb2⟩
     · rw [hβz z hz] at hb2;cases hq:z.2.2 with
       | none=>rw[hq] at hb2;cases hb2
       | some b3 =>
         rw[hq] at hb2;simp only[Option.map_some,Option.some.injEq,Prod.mk.injEq] at hb2;rw[<- hb2.1];exact .inr (.inr ⟨k,(hkw k).2 (.inl rfl),hFφ b3 (hoff z hz b3 hq)⟩)
   · intro n t2 ys bb oo hm hn hb2;rcases(hkw n).1 hm with rfl | ⟨z,hz,rfl⟩
     · rw [gk] at hn;injection hn with hn
       injection hn with q1 q2 _
       subst q1;have q2:=eq_of_heq q2;subst q2;rw[hβs n _ hk,hb] at hb2;injection hb2 with hb2
       injection hb2 with hb2 _
       subst hb2;simp only[if_true];refine .inr ⟨Fs.set i [],by simp [f1],p1,fun b hb=>?_,fun j y Fj hy hj=>?_⟩
       · obtain ⟨q1, q2⟩ := p4 b hb;simp only[List.mem_filter,Bool.not_eq_true',List.contains_eq_mem,decide_eq_false_iff_not];exact⟨f3 b q1,q2⟩
       · rcases qdN hy with ⟨rfl, rfl, _⟩ | ⟨hne, hy⟩
         · rw [List.getElem?_set_self (by omega)] at hj;injection hj with hj
           subst hj;exact⟨ds',d1,d2,z7⟩
         · rw [List.getElem?_set_ne hne] at hj;exact f4 j y Fj hy hj
     · rw [gz z hz] at hn; injection hn with hn
       have hy:=y2 z hz;rw[hn] at hy;cases hq:z.2.2 with
       | none=>rw[hβz z hz,hq] at hb2;cases hb2
       | some b3=>rw[hq] at hy;exact .inl hy.1
   · intro n bb hm hbb;by_cases e:n=k
     · subst e;simp only[if_true,List.mem_filter,Bool.not_eq_true',List.contains_eq_mem,decide_eq_false_iff_not] at hbb;obtain⟨q1,q2⟩:=hbb;obtain⟨a1,a2,a3,a4,a5⟩:=D.off n bb q1;refine⟨⟨a1,a2,a3,fun k' ob oo hk' hl hb2=>?_,a5⟩,fun k' hk' hm'=>?_⟩
       · by_cases hmm : k' ∈ qab ((n, Ob.rows t (xs.set i r) .own) :: zs.ws)
         · rcases (hkw k').1 hmm with rfl | ⟨z, hz, rfl⟩
           · exact a4 k' _ oo hk rfl (by rw[<- hβs k' _ hk];exact hb2)
           · rw [hβz z hz] at hb2;cases hq:z.2.2 with
             | none=>rw[hq] at hb2;cases hb2
             | some b3 =>
              rw[hq] at hb2;simp only[Option.map_some,Option.some.injEq,Prod.mk.injEq] at hb2;exact q2 (by rw[<- hb2.1];exact hoff z hz b3 hq)
         · have hn0 : get s.h k' = some ob := by rw [q2q, q11q hmm] at hk'; simpa using hk'
           exact a4 k' ob oo hn0 hl (by rw[<- hβs k' _ hn0];exact hb2)
       · have := D.one n k' bb q1 hm';subst this;exact hk' hm
     · simp only [if_neg e] at hbb;simp at hbb
   · intro n n' bb _ _ h1 h2;by_cases e:n=k
     · by_cases e' : n' = k
       · rw[e,e']
       · simp only[if_neg e'] at h2;simp at h2
     · simp only[if_neg e] at h1;simp at h1
theorem Rel.open (R:Rel T B w S J s a) {k:Nat} {t:Ty} {xs:List t.den} (hk:get s.h k=some (.rows t xs .own)) {b o:Nat} (hb:J k=some (b,o)) {i:Nat} {x:t.den} (hx:xs[i]?=some x) (hnf:t.flat=false)
  {q q':Nat} {cs:List PV} {ws:List (Nat×Ob)} {r:t.den} (hop:qgF t x q=some (cs,ws,q',r)) (hfree:∀ j,q<=j->j<q'->get s.h j=none) (hlow:q'<=B.nt*8) :
  ∃ J' ds,ds.length=t.size/\At w b (o+i*t.size) ds/\Rel T B w S J' ⟨s.e,((k,.rows t (xs.set i r) .own)::ws)++s.h⟩ a/\All2 (qac w S J' (get (((k,.rows t (xs.set i r) .own)::ws)++s.h))) cs ds:=by
 obtain⟨J',ds,h1,h2,h3,h4,_⟩:=R.openE hk hb hx hnf hop hfree hlow;exact⟨J',ds,h1,h2,h3,h4⟩
end
theorem qqm (hT:TbOk P tb) {o:Oper} {s:St} {hp:Hp} (hs:Sub hp s) {T':TypeId} {y:Operand} {d k i:Nat} {t:Ty} {xs:List t.den} {ef:Eff} (ho:o.op=.load T' y) (hd:o.dst=some d) (hty:tb.ty T'=some t) (hpv:s.pv y=.ptr k i 0)
  (hk:hp k=some (.rows t xs .own)) (hnf:t.flat=false) (hn:∀ j,j<8->hp (d*8+j)=none->get s.h (d*8+j)=none) (h:qlK hp d k i t xs some=some ef):qcb T P o s ef:=by
 intro B w S J a R hdo next Q hnx
 have hy:=q14q R y;rw[hpv] at hy;unfold qlK at h;cases hx:xs[i]? with
 | none=>rw[hx] at h;cases h
 | some x =>
  rw[hx] at h;simp only[Option.bind_some] at h;rw[qgs] at h;cases hq:qgF t x (d*8+4) with
  | none=>rw[hq] at h;cases h
  | some p =>
   obtain⟨cs,ws,q',r⟩:=p;rw[hq] at h;simp only[Option.bind_some] at h;obtain⟨hc,h⟩:=q8q h;simp only[Bool.and_eq_true] at hc;obtain⟨⟨hle,hfr⟩,hag⟩:=hc;have hle:=Nat.le_of_ble_eq_true hle;injection h with h
   subst h;have hk':=hs k _ hk;have hy0:qac w S J (get s.h) (.ptr k i 0) (a.eval y):=hy;simp only[qac,hk'] at hy0;obtain⟨b,o',hb,he⟩:=hy0;have hdlt:d<B.nt:=by rw[hd] at hdo;exact Nat.le_of_ble_eq_true hdo
   have hf:=qxu hfr;obtain⟨J',ds,e1,e2,R2,hcs⟩:=R.open hk' hb hx hnf hq (fun j h1 h2=>by
    have:=hn (j-d*8) (by omega);rw[show d*8+(j-d*8)=j by omega] at this;exact this (hf j h1 (by omega))) (by omega)
   unfold Oper.wp;have hrun:(execOp a.eval o).run P w=.ok (.value (.agg ds.toArray)) w:=by
    simp only[execOp,ho];rw[Sem.run_bind,he];have:=qb8 (hT.ty hty) w b (o'+i*t.size) ds e1 e2;simp only[Ob.sz,Nat.add_zero];rw[this];simp [vOf,hag]
   rw[hrun];refine hnx _ w S J' (Rel.app (ef:=⟨some (.agg cs),(k,.rows t (xs.set i r) .own)::ws⟩) R2 hdo fun pv hpv=>?_);injection hpv with hpv
   subst hpv;exact⟨ds,rfl,hcs⟩
theorem qq2 {R:Type} (h:Hp) (d k i:Nat) (t:Ty) (xs:List t.den) (K:Eff->Option R):qlK h d k i t xs K=(qlK h d k i t xs some).bind K:=by
 unfold qlK;cases xs[i]? with
 | none=>rfl
 | some x =>
  simp only[Option.bind_some];rw[qgs,qgs];cases qgF t x (d*8+4) with
  | none=>rfl
  | some p =>
   simp only[Option.bind_some];cases (Nat.ble p.2.2.1 (d*8+8)&&qvL h (d*8+4) (p.2.2.1-(d*8+4))&&t.isAgg)<;>rfl
variable {T:Told} {P:Program} {tb:Tb}
def blks (J:Con) (ks:List Nat):List Nat:=ks.filterMap fun k=>(J k).map (·.1)
theorem qsj (J:Con) (a b:List Nat):blks J (a++b)=blks J a++blks J b:=List.filterMap_append
theorem qmC {J:Con} {ks:List Nat} {b:Nat} (h:b∈blks J ks):∃ k∈ks,∃ o,J k=some (b,o):=by
 obtain⟨k,hk,h2⟩:=List.mem_filterMap.1 h;cases hb:J k with
 | none=>rw[hb] at h2;cases h2
 | some p=>obtain⟨b',o⟩:=p;rw[hb] at h2;simp only[Option.map_some,Option.some.injEq] at h2;subst h2;exact⟨k,hk,o,hb⟩
theorem qjo:∀ {l:List Nat},qjp l=true->l.Nodup
 | [],_=>List.nodup_nil
 | n::r,h=>by
  simp only[qjp,Bool.and_eq_true,Bool.not_eq_true'] at h;exact List.nodup_cons.2 ⟨qbW.1 h.1,qjo h.2⟩
theorem qlG:∀ ks:List Nat,qab (qhc ks)=ks
 | []=>rfl
 | k::ks=>by simp only[qhc,qab,List.map_cons];rw[show(qhc ks).map (·.1)=ks from qlG ks]
theorem qqR:∀ {ks:List Nat} {k:Nat} {ob:Ob},get (qhc ks) k=some ob->ob=.gone
 | [],_,_,h=>by simp [qhc,get] at h
 | q::ks,k,ob,h=>by
  rw[qhc,q6q] at h;split at h
  · injection h with h;exact h.symm
  · exact qqR h
section
variable {B:Base} {w w':World} {S:Foot} {J:Con} {s:St} {a:Act}
def Free (s:St) (k:Nat):Prop:=∃ ob,get s.h k=some ob/\ob.live=true/\∀ t xs,ob≠.rows t xs .lent
theorem qup (R:Rel T B w S J s a) {ks:List Nat} (hd:ks.Nodup) (hf:∀ k∈ks,Free s k):(blks J ks).Nodup:=by
 induction ks with
 | nil=>simp [blks]
 | cons k ks ih =>
  obtain⟨h1,h2⟩:=List.nodup_cons.1 hd;have ih:=ih h2 fun k hk=>hf k (List.mem_cons_of_mem _ hk)
  cases hb:J k with
  | none =>
   have:blks J (k::ks)=blks J ks:=by simp [blks,List.filterMap_cons,hb]
   rw[this];exact ih
  | some p =>
   obtain⟨b,o⟩:=p;have:blks J (k::ks)=b::blks J ks:=by simp [blks,List.filterMap_cons,hb]
   rw[this];refine List.nodup_cons.2 ⟨fun hm=>?_,ih⟩;obtain⟨k',hk',o',hb'⟩:=qmC hm;obtain⟨ob,q1,q2,_⟩:=hf k List.mem_cons_self;obtain⟨ob',q1',q2',_⟩:=hf k' (List.mem_cons_of_mem _ hk');have:=R.inj k k' ob ob' b o o' q1 q2 q1' q2' hb hb';subst this;exact h1 hk'
theorem qzE (R:Rel T B w S J s a) {k:Nat} (h:4<=k % 8):B.PB k=none:=by
 unfold Base.PB;split
 · rename_i h1;have:=R.pbn;rw[List.getElem?_eq_none];omega
 · rfl
theorem qzt (R:Rel T B w S J s a) {hp:Hp} (hs:Sub hp s):∀ {t:Ty} {l:List PV} {x:t.den} {r:List PV} {ks:List Nat} {vs:List Value},decD hp t l=some (x,r,ks)->All2 (qac w S J (get s.h)) l vs ->
  ∃ v1 v2,vs=v1++v2/\All2 (qac w S J (get s.h)) r v2/\Cell w S t x v1/\qiL w S B.w0.heap.size t x v1 (blks J ks)/\∀ k∈ks,Free s k:=by
 intro t
 induction t with
 | pair ta tc iha ihb =>
  intro l x r ks vs h hl;simp only[decD] at h;split at h
  · rename_i x1 r1 k1 h1;split at h
    · rename_i x2 r2 k2 h2;simp only[Option.some.injEq,Prod.mk.injEq] at h;obtain⟨rfl,rfl,rfl⟩:=h;obtain⟨v1,v2,rfl,a1,a2,a3,a4⟩:=iha h1 hl;obtain⟨v3,v4,rfl,b1,b2,b3,b4⟩:=ihb h2 a1;refine⟨v1++v3,v4,by simp,b1,⟨_,_,rfl,a2,b2⟩,⟨_,_,_,_,rfl,a2.length,qsj J k1 k2,a3,b3⟩,fun k hk=>(List.mem_append.1 hk).elim (a4 k) (b4 k)⟩
    · cases h
  · cases h
 | unit =>
  intro l x r ks vs h hl;simp only[decD,Option.some.injEq,Prod.mk.injEq] at h;obtain⟨_,rfl,rfl⟩:=h;exact⟨[],vs,rfl,hl,rfl,rfl,by simp⟩
 | os e _ =>
  intro l x r ks vs h hl;cases l with
  | nil=>simp [decD] at h
  | cons v l =>
  cases vs with
  | nil=>exact hl.elim
  | cons u vs =>
  obtain⟨hu,hl⟩:=hl;cases v with
  | nil =>
    simp only[decD] at h;obtain⟨hfl,h⟩:=q8q h;simp only[Option.some.injEq,Prod.mk.injEq] at h;obtain⟨rfl,rfl,rfl⟩:=h;have hu:u=.slice none 0 0:=hu;subst hu;exact⟨[_],vs,rfl,hl,⟨_,rfl,rfl⟩,⟨hfl,_,rfl,.inl ⟨rfl,rfl,rfl⟩⟩,by simp⟩
  | osl k off len =>
    cases off with
    | succ off=>simp [decD] at h
    | zero =>
      simp only[decD] at h;split at h
      · rename_i t' xs hk;have hbe:=q8q h;clear h;obtain⟨hfl,h⟩:=hbe;split at h
        · rename_i ys hys;obtain⟨rfl,rfl⟩:=qda hys;simp only[Option.some.injEq,Prod.mk.injEq] at h;obtain⟨rfl,rfl,rfl⟩:=h;have hk':=hs k _ hk;obtain⟨hw,hx2⟩:=qdS R hk' hu.up;have hwl:=qbt hw;have hfree:∀ k'∈[k],Free s k':=fun k' h=>by
            simp only[List.mem_singleton] at h;subst h;exact⟨_,hk',rfl,by simp⟩
          rcases hx2 with ⟨hb0,_,hwl0,hv⟩ | ⟨b,o0,x0,cap,hb,hv,hcap,hx0,hown⟩
          · have hW : win ys 0 len = [] := List.eq_nil_of_length_eq_zero (by omega);refine⟨[u],vs,rfl,hl,⟨_,rfl,by rw[hv];rfl⟩,?_,hfree⟩;refine⟨hfl,u,rfl,.inl ⟨hW,hv,by simp [blks,hb0]⟩⟩
          · have hor := R.obs k _ hk';simp only[ORel,hb] at hor;obtain⟨⟨c,hc,hcsz⟩,hrow,_,_,ho0⟩:=hor;obtain rfl:=ho0 trivial;obtain⟨c2,hc2,hcapsz⟩:=hown rfl;have:=hc.inj hc2;subst this;simp only[Nat.zero_add,Nat.zero_mul,Nat.add_zero] at hx0 hcapsz;refine⟨[u],vs,rfl,hl,⟨_,rfl,by rw[hv];rfl⟩,?_,hfree⟩;refine⟨hfl,u,rfl,.inr ⟨b,x0,cap,c,by simp [blks,hb],by rw[hv,<- hwl],by rw[<- hwl] at hcap;exact hcap,hx0,hc,hcapsz,fun i q hq=>?_⟩⟩;have:=hrow i q (by have:=qhY hq;rwa [Nat.zero_add] at this)
            exact this
        · cases h
      · cases h
  | val t' y=>simp [decD,Ty.flat] at h
  | _=>simp [decD] at h
 | op lt ih =>
  intro l x r ks vs h hl;cases l with
  | nil=>simp [decD] at h
  | cons v l =>
  cases vs with
  | nil=>exact hl.elim
  | cons u vs =>
  obtain⟨hu,hl⟩:=hl;cases v with
  | ptr k i off =>
    cases i with
    | succ i=>simp [decD] at h
    | zero =>
      cases off with
      | succ off=>simp [decD] at h
      | zero =>
        simp only[decD] at h;have hbe:=q8q h;clear h;obtain⟨hk8,h⟩:=hbe;have hk8:=Nat.le_of_ble_eq_true hk8;split at h
        · rename_i c hk;split at h
          · rename_i y ks1 h1;simp only[Option.some.injEq,Prod.mk.injEq] at h;obtain⟨rfl,rfl,rfl⟩:=h;have hk':=hs k _ hk;obtain⟨b,c1,q1,q2,q3,_⟩:=R.obs k _ hk';obtain⟨v1,v2,e,a1,a2,a3,a4⟩:=ih h1 q3;cases v2 with
            | cons _ _=>exact a1.elim
            | nil =>
             rw[List.append_nil] at e;subst e;have hu0:qac w S J (get s.h) (.ptr k 0 0) u:=hu;simp only[qac,hk'] at hu0;obtain⟨b',o',hb',rfl⟩:=hu0;rw[q1] at hb';injection hb' with hb'
             injection hb' with e1 e2
             subst e1;subst e2;have hn0:=(R.boxk k c hk').2 (qzE R hk8) b 0 q1;refine⟨[_],vs,rfl,hl,⟨_,rfl,rfl⟩,⟨b,c1,blks J ks1,hn0,by simp [blks,List.filterMap_cons,q1],by simp,q2,a2,a3⟩,fun k' hk1=>?_⟩;rcases List.mem_cons.1 hk1 with rfl | hk1
             · exact⟨_,hk',rfl,by simp⟩
             · exact a4 k' hk1
          · cases h
        · cases h
  | val t' y=>simp [decD,Ty.flat] at h
  | _=>simp [decD] at h
 | sl e _ =>
  intro l x r ks vs h hl;cases l with
  | nil=>simp [decD] at h
  | cons v l =>
  cases vs with
  | nil=>exact hl.elim
  | cons u vs =>
  obtain⟨hu,hl⟩:=hl;cases v with
  | nil =>
    simp only[decD,Option.some.injEq,Prod.mk.injEq] at h;obtain⟨rfl,rfl,rfl⟩:=h;have hu:u=.slice none 0 0:=hu;subst hu;exact⟨[_],vs,rfl,hl,⟨none,0,rfl,Nat.le_refl _,.inl rfl⟩,rfl,by simp⟩
  | val t' y =>
    simp only[decD] at h;have hbe:=q8q h;clear h;obtain⟨_,h⟩:=hbe;split at h
    · rename_i z hz;simp only[Option.some.injEq,Prod.mk.injEq] at h;obtain⟨rfl,rfl,rfl⟩:=h;obtain⟨rfl,rfl⟩:=qra hz;exact⟨[u],vs,rfl,hl,hu,rfl,by simp⟩
    · cases h
  | _=>simp [decD] at h
 | int _ | bool | str =>
  intro l x r ks vs h hl;cases l with
  | nil=>simp [decD] at h
  | cons v l =>
  cases vs with
  | nil=>exact hl.elim
  | cons u vs =>
  obtain⟨hu,hl⟩:=hl;cases v with
  | val t' y =>
    simp only[decD] at h;have hbe:=q8q h;clear h;obtain⟨_,h⟩:=hbe;split at h
    · rename_i z hz;simp only[Option.some.injEq,Prod.mk.injEq] at h;obtain⟨rfl,rfl,rfl⟩:=h;obtain⟨rfl,rfl⟩:=qra hz;exact⟨[u],vs,rfl,hl,hu,rfl,by simp⟩
    · cases h
  | _=>simp [decD] at h
theorem Rel.newDeep (R:Rel T B w S J s a) {D:Nat} (hD:get s.h D=none) {t:Ty} {x:t.den} {vs:List Value} {ks:List Nat} (hc:Cell w S t x vs) (ho:qiL w S B.w0.heap.size t x vs (blks J ks)) (hf:∀ k∈ks,Free s k) (hd:ks.Nodup) (h0:Calm w w')
   (h1:∀ b,b<w.heap.size->w'.heap[b]?=w.heap[b]?) (hg:w.heap.size<=w'.heap.size) {c:Array Value} (hb:Blk w' w.heap.size c) (hat:At w' w.heap.size 0 vs) (hsz:t.size<=c.size) :
   Rel T B w' S (fun n=>if n=D then some (w.heap.size,0) else J n) ⟨s.e,((D,.rows t [x] .own)::qhc ks)++s.h⟩ a:=by
 have hDk:D ∉ ks:=fun h=>by obtain⟨ob,q,_⟩:=hf D h;rw[hD] at q;cases q
 have hkw:∀ n,n∈qab ((D,Ob.rows t [x] .own)::qhc ks) ↔ n=D\/n∈ks:=fun n=>by
   have:=qlG ks;simp only[qab,List.map_cons,List.mem_cons] at this ⊢;rw[this]
 have gD:get (((D,Ob.rows t [x] .own)::qhc ks)++s.h) D=some (.rows t [x] .own):=by simp [q6q]
 have gk:∀ k∈ks,get (((D,Ob.rows t [x] .own)::qhc ks)++s.h) k=some .gone:=fun k hk=>by
   rw[List.cons_append,q6q,if_neg (fun e:D=k=>hDk (by rw[e];exact hk)),q2q];obtain⟨ob,h2⟩:=q13q (hw:=qhc ks) (k:=k) (by rw[qlG];exact hk);rw[h2,qqR h2];rfl
 have hne:∀ n ob,get s.h n=some ob->n≠D:=fun n ob h e=>by rw[e,hD] at h;cases h
 have hlt:∀ k,k∈ks->∀ b o,J k=some (b,o)->b<w.heap.size:=fun k hk b o hb=>by
   obtain⟨ob,q1,q2,_⟩:=hf k hk;obtain⟨c,hc⟩:=R.blk q1 (by rintro rfl;cases q2) hb;exact hc.lt
 refine R.genD (w':=w') (S':=S) (J':=fun n=>if n=D then some (w.heap.size,0) else J n) h0 ((D,.rows t [x] .own)::qhc ks) (fun _=>False) (fun b hb _=>h1 b hb) hg (fun _ h=>h.elim) ?_ (fun _ h=>h) (fun _ h=>.inl h) (fun b hb=>Nat.lt_of_lt_of_le (R.Slt b hb) hg) ?_ ?_ ?_ ?_ (fun _ _ _ _ _ h=>h.elim) ?_ ?_ ?_ ?_
 · intro n ob hn _;simp [hne n ob hn]
 · intro n ob b2 o2 hn _ hl hb2;exact(R.liveS hn hl hb2).1
 · intro n ob hm hn E;rcases(hkw n).1 hm with rfl | hk
   · rw [gD] at hn; injection hn with hn; subst hn
     simp only[ORel,if_true];refine⟨⟨c,hb,by simpa using hsz⟩,fun i y hy=>?_,by simp,fun _=>⟨fun h=>Nat.lt_irrefl _ (R.Slt _ h),.inl R.grow⟩,fun _=>trivial⟩
     match i,hy with
     | 0, hy =>
       simp only[List.getElem?_cons_zero,Option.some.injEq] at hy;subst hy;exact⟨vs,hc.mono E.sub E.keep,by simpa using hat⟩
     | i+1,hy=>simp at hy
   · rw[gk n hk] at hn;injection hn with hn;subst hn;trivial
 · intro n ob hm hn;rcases(hkw n).1 hm with rfl | hk
   · rw[hD] at hn;cases hn
   · exact⟨.gone,gk n hk,by cases ob<;>trivial⟩
 · intro n n' ob ob' bb o1 o2 hm hn hl hn' hl' hb1 hb2;rcases(hkw n).1 hm with rfl | hk
   · by_cases e : n' = n
     · exact e.symm
     · simp only [if_true] at hb1;simp only[if_neg e] at hb2;injection hb1 with hb1
       injection hb1 with hb1 _
       by_cases hmm:n'∈qab ((n,Ob.rows t [x] .own)::qhc ks)
       · rcases (hkw n').1 hmm with rfl | hk'
         · rfl
         · rw[gk n' hk'] at hn';injection hn' with hn';subst hn';cases hl'
       · have hn0 : get s.h n' = some ob' := by rw [q2q, q11q hmm] at hn'; simpa using hn'
         obtain⟨c2,hc2⟩:=R.blk hn0 (by rintro rfl;cases hl') hb2;have:=hc2.lt;omega
   · rw[gk n hk] at hn;injection hn with hn;subst hn;cases hl
 · intro n t2 ys hm hn;rcases(hkw n).1 hm with rfl | hk
   · rw[gD] at hn;cases hn
   · rw[gk n hk] at hn;cases hn
 · intro n ob bb oo hm hn hl hnl hb2 k' o' n';rcases(hkw n).1 hm with rfl | hk
   · simp only [if_true] at hb2;injection hb2 with hb2
     injection hb2 with hb2 _
     intro hL;obtain⟨c0,c1,hc0,_⟩:=R.lent k' bb o' n' hL;have:=hc0.lt;have:=R.grow;omega
   · rw[gk n hk] at hn;injection hn with hn;subst hn;cases hl
 · intro n l hm hn;rcases(hkw n).1 hm with rfl | hk
   · rw[gD] at hn;cases hn
   · rw[gk n hk] at hn;cases hn
 · intro O D0 E hblk;have hbnew:∀ bb∈blks J ks,∀ k' ob oo,get (((D,Ob.rows t [x] .own)::qhc ks)++s.h) k'=some ob->ob.live=true->(if k'=D then some (w.heap.size,0) else J k')≠some (bb,oo):=by
     intro bb hbb k' ob oo hk' hl hb2;obtain⟨k,hk,o,hbk⟩:=qmC hbb;by_cases e:k'=D
     · subst e;simp only[if_true] at hb2;injection hb2 with hb2
       injection hb2 with hb2 _
       have:=hlt k hk bb o hbk;omega
     · simp only [if_neg e] at hb2;by_cases hmm:k'∈qab ((D,Ob.rows t [x] .own)::qhc ks)
       · rcases (hkw k').1 hmm with rfl | hk2
         · exact e rfl
         · rw[gk k' hk2] at hk';injection hk' with hk';subst hk';cases hl
       · have hn0 : get s.h k' = some ob := by rw [q2q, q11q hmm] at hk'; simpa using hk'
         obtain⟨ob0,q1,q2,_⟩:=hf k hk;have:=R.inj k k' ob0 ob bb o oo q1 q2 hn0 hl hbk hb2;subst this;exact hmm ((hkw k).2 (.inr hk))
   refine D0.gen2 ((D,.rows t [x] .own)::qhc ks) (fun _=>False) (fun n=>if n=D then blks J ks else []) (fun b hb _=>h1 b hb) hg (fun _ h=>h.elim) (fun n ob hn _=>by simp [hne n ob hn]) E hblk (fun b h=>.inl h) ?_ ?_ ?_ ?_
   · intro n ob bb oo hm hn hl hb2;rcases(hkw n).1 hm with rfl | hk
     · simp only [if_true] at hb2;injection hb2 with hb2
       injection hb2 with hb2 _
       exact .inr (.inl (by omega))
     · rw[gk n hk] at hn;injection hn with hn;subst hn;cases hl
   · intro n t2 ys bb oo hm hn hb2;rcases(hkw n).1 hm with rfl | hk
     · rw [gD] at hn;injection hn with hn
       injection hn with q1 q2 _
       subst q1;have q2:=eq_of_heq q2;subst q2;simp only[if_true] at hb2 ⊢;injection hb2 with hb2
       injection hb2 with hb2 _
       subst hb2;refine .inr ⟨[blks J ks],rfl,by simpa using qup R hd hf,by simp,fun i y Fi hy hi=>?_⟩
       match i,hy,hi with
       | 0, hy, hi =>
         simp only[List.getElem?_cons_zero,Option.some.injEq] at hy hi;subst hy;subst hi;refine⟨vs,hc.length,by simpa using hat,ho.mono E.sub E.keep fun b hb=>?_⟩;obtain⟨k,hk,o,hbk⟩:=qmC hb;exact h1 b (hlt k hk b o hbk)
       | i+1,hy,_=>simp at hy
     · rw[gk n hk] at hn;cases hn
   · intro n bb hm hbb;by_cases e:n=D
     · subst e;simp only[if_true] at hbb;obtain⟨k,hk,o,hbk⟩:=qmC hbb;obtain⟨ob0,q1,q2,q3⟩:=hf k hk;obtain⟨l1,l2⟩:=R.liveS q1 q2 hbk;refine⟨⟨l1,l2,Nat.lt_of_lt_of_le (hlt k hk bb o hbk) hg,hbnew bb hbb,R.sep k ob0 bb o q1 q2 q3 hbk⟩,fun k' _ hm'=>?_⟩;exact(D0.off k' bb hm').2.2.2.1 k ob0 o q1 q2 hbk
     · simp only [if_neg e] at hbb;simp at hbb
   · intro n n' bb _ _ h1 h2;by_cases e:n=D
     · by_cases e' : n' = D
       · rw[e,e']
       · simp only[if_neg e'] at h2;simp at h2
     · simp only[if_neg e] at h1;simp at h1
end
theorem qn8 (hT:TbOk P tb) {o:Oper} {s:St} {T':TypeId} {ps:Array (Nat×Operand)} {d:Nat} {et:TypeId} {e:Ty} {bb:Nat} {hp:Hp} (hs:Sub hp s) {v:PV} {x:e.den} {ks:List Nat} {ef:Eff}
  (ho:o.op=.buildSlice T' 1 ps) (hd:o.dst=some d) (hg:get tb T'=some (.slc et e bb)) (hparts:[(0,v)]=ps.toList.map fun p=>(p.1,s.pv p.2))
  (hx:decD hp e v.cells=some (x,[],ks)) (hna:qca v.cells=true) (hdk:qjp ks=true) (hle:e.size<=16777216) (hk:get s.h (d*8)=none)
  (hef:ef=⟨some (.osl (d*8) 0 none),(d*8,.rows e [x] .own)::qhc ks⟩):qcb T P o s ef:=by
 intro B w S J a R hdo next Q hnx
 subst hef;obtain⟨_,hu,hty,_,_,hsz⟩:=hT T' _ hg;obtain⟨ie,z,i1,i2,i3,i4⟩:=hty.info;obtain⟨y,hy⟩:∃ y,ps.toList=[(0,y)]/\s.pv y=v:=by
  cases hq:ps.toList with
  | nil=>rw[hq] at hparts;simp at hparts
  | cons p l =>
   rw[hq] at hparts;cases l with
   | nil =>
    simp only[List.map_cons,List.map_nil,List.cons.injEq,and_true,Prod.mk.injEq] at hparts;obtain⟨q1,q2⟩:=hparts;exact⟨p.2,by rw[q1],q2.symm⟩
   | cons _ _=>simp at hparts
 obtain⟨hps,rfl⟩:=hy;have hv:=q14q R y;obtain⟨vs,hcs,hvs,hone⟩:=hv.cells hna;obtain⟨v1,v2,e1,e2,e3,e4,e5⟩:=qzt R hs hx hvs;cases v2 with
 | cons _ _=>exact e2.elim
 | nil =>
 rw[List.append_nil] at e1;subst e1;have hl:=e3.length;obtain⟨m1,_⟩:=qg9 (w:=w) (S:=S) hsz i4 1;obtain⟨c0,ec0⟩:∃ c0,c0=(Array.range (1*e.size)).map (z.cells[· % z.cells.size]!):=⟨_,rfl⟩;rw[<- ec0] at m1;have hfit:0*e.size+vs.length<=c0.size:=by omega
 have hfill:Instr.fill (fun i=>some (i*e.size,e.size)) c0 [(0,a.eval y)]=some (qaP c0 (0*e.size) vs):=by
  simp only[Instr.fill,hcs,List.size_toArray,hl];rw[if_neg (by simp;omega)];have:=qlg c0 (0*e.size) vs.toArray (by simpa using hfit);rw[this]
 have hrun:(Instr.buildSlice T' 1 (ps.map fun p=>(p.1,a.eval p.2))).run P w=.ok (.slice (some ⟨w.heap.size,0,none⟩) 1 1) (w.alloc (.cells (qaP c0 (0*e.size) vs) et)):=by
  have hpos:¬ 1*ie.size=0:=by rw[i2];omega
  refine run_buildSlice (P:=P) w T' et 1 _ _ ie z hu i1 i3 (by rw[i2];omega) hpos ?_;rw[i2,<- ec0];have:(ps.map fun p=>(p.1,a.eval p.2)).toList=[(0,a.eval y)]:=by simp [hps]
  rw[this];exact hfill
 unfold Oper.wp execOp;simp only[ho,Sem.run_bind,hrun,Result.andThen_ok,Sem.run_pure];obtain⟨c',ec'⟩:∃ c',c'=qaP c0 (0*e.size) vs:=⟨_,rfl⟩;rw[<- ec'];have hcs':c'.size=e.size:=by rw[ec',qbo hfit,m1];omega
 have hat:At (w.alloc (.cells c' et)) w.heap.size 0 vs:=fun j u hj=>by
  rw[(qbN w c' et).cell];have:=qej (c:=c0) (o:=0*e.size) (vs:=vs) hfit (j:=j) (List.getElem?_eq_some_iff.1 hj).1;rw[<- ec'] at this;rw[show 0+j=0*e.size+j by omega,this];exact hj
 have R2:=R.newDeep hk e3 e4 e5 (qjo hdk) (qdA w c' et) (fun b hb=>qcv hb) (by simp) (qbN w c' et) hat (by omega);refine hnx _ _ _ _ (Rel.app (ef:=⟨some (.osl (d*8) 0 none),(d*8,.rows e [x] .own)::qhc ks⟩) R2 hdo fun pv hpv=>?_);injection hpv with hpv
 subst hpv;exact qnm (w':=w.alloc (.cells c' et)) (S:=S) (J:=fun k'=>if k'=d*8 then some (w.heap.size,0) else J k') (g:=get (((d*8,.rows e [x] .own)::qhc ks)++s.h)) (k:=d*8) (b:=w.heap.size) (t:=e) (xs:=[x]) (cap:=1) (c:=c')
  (by simp [q6q]) (by simp) (qbN w c' et) (by simp) (by omega)
variable {T:Told} {P:Program} {tb:Tb}
section
variable {B:Base} {w w':World} {S:Foot} {J:Con} {s:St} {a:Act}
theorem qoi {olds news:List Value} {n sz i:Nat} (o1:olds.length=n*sz) (hi:i<n):((olds++news).drop (i*sz)).take sz=(olds.drop (i*sz)).take sz:=by
 have hm:=Nat.mul_le_mul_right sz (show i+1<=n from hi);rw[Nat.add_mul,Nat.one_mul] at hm;rw[List.drop_append_of_le_length (by omega),List.take_append_of_le_length (by simp;omega)]
theorem qqk {olds news:List Value} {n sz i:Nat} (o1:olds.length=n*sz) (hi:n<=i):((olds++news).drop (i*sz)).take sz=(news.drop ((i-n)*sz)).take sz:=by
 have hm:i*sz=n*sz+(i-n)*sz:=by rw[<- Nat.add_mul];congr 1;omega
 rw[List.drop_append,List.drop_eq_nil_of_le (by rw[o1,hm];omega),List.nil_append,o1,hm,Nat.add_sub_cancel_left]
theorem qo9 {cs:List Value} {n sz i:Nat} (o1:cs.length=n*sz) (hi:i<n):((cs.drop (i*sz)).take sz).length=sz:=by
 have hm:=Nat.mul_le_mul_right sz (show i+1<=n from hi);rw[Nat.add_mul,Nat.one_mul] at hm;simp;omega
theorem DRow.cells {n0:Nat} {t:Ty} (hnf:t.flat=false) {xs:List t.den} {F:List Nat} {b:Nat} (h:DRow w S n0 t b xs F) {cs:List Value} (o1:cs.length=xs.length*t.size) (o3:At w b 0 cs) :
  ∃ Fs:List (List Nat),Fs.length=xs.length/\Fs.flatten.Nodup/\(∀ b∈Fs.flatten,b∈F)/\∀ i x Fi,xs[i]?=some x->Fs[i]?=some Fi->qiL w S n0 t x ((cs.drop (i*t.size)).take t.size) Fi:=by
 obtain⟨Fs,f1,f2,f3,f4⟩:=h.resolve_left (by rw[hnf];simp);refine⟨Fs,f1,f2,f3,fun i x Fi hx hi=>?_⟩;obtain⟨ds,d1,d2,d3⟩:=f4 i x Fi hx hi;have hil:=(List.getElem?_eq_some_iff.1 hx).1;have:ds=(cs.drop (i*t.size)).take t.size:=At.unique d2 (by have:=o3.part (off:=i*t.size) (n:=t.size);rwa [Nat.zero_add] at this) (by rw[d1,qo9 o1 hil])
 rw[<- this];exact d3
theorem Rel.joinD (R:Rel T B w S J s a) {D k k2:Nat} {t:Ty} {xs zs ys:List t.den} (hk:get s.h k=some (.rows t zs .own)) (hk2:get s.h k2=some (.rows t ys .own)) (hne:k2≠k) (hD:get s.h D=none) (hnf:t.flat=false) {len:Option Nat} (hxs:xs=win zs 0 len)
   (βD:Option (Nat×Nat)) (W:Nat->Prop) (h0:Calm w w') (h1:∀ b,b<w.heap.size->¬ W b->w'.heap[b]?=w.heap[b]?) (hg:w.heap.size<=w'.heap.size)
   (hW:∀ b,W b->J k=some (b,0)) (hβ:∀ b o,βD=some (b,o)->o=0/\(J k=some (b,0)\/b=w.heap.size)) (h00:βD=none->xs++ys=[])
   {olds news:List Value} (o1:olds.length=xs.length*t.size) (n1:news.length=ys.length*t.size)
   (o2:∀ (i:Nat) q,xs[i]?=some q->Cell w S t q ((olds.drop (i*t.size)).take t.size)) (n2:∀ (i:Nat) q,ys[i]?=some q->Cell w S t q ((news.drop (i*t.size)).take t.size))
   (o3:∀ b,J k=some (b,0)->At w b 0 olds) (n3:∀ b,J k2=some (b,0)->At w b 0 news)
   (hb:∀ b,βD=some (b,0)->∃ c,Blk w' b c/\(xs++ys).length*t.size<=c.size/\At w' b 0 (olds++news)) :
   Rel T B w' S (fun n=>if n=D then βD else J n) ⟨s.e,((D,.rows t (xs++ys) .own)::(k2,.gone)::[(k,.gone)])++s.h⟩ a:=by
 have hnD:∀ n ob,get s.h n=some ob->n≠D:=fun n ob h e=>by rw[e,hD] at h;cases h
 have hkD:=hnD k _ hk;have hk2D:=hnD k2 _ hk2;have kw:∀ n,n∈qab ((D,Ob.rows t (xs++ys) .own)::(k2,.gone)::[(k,.gone)]) ↔ n=D\/n=k2\/n=k:=fun n=>by simp [qab]
 have gD:get (((D,Ob.rows t (xs++ys) .own)::(k2,.gone)::[(k,.gone)])++s.h) D=some (.rows t (xs++ys) .own):=by simp [q6q]
 have gk:get (((D,Ob.rows t (xs++ys) .own)::(k2,.gone)::[(k,.gone)])++s.h) k=some .gone:=by simp [q6q,Ne.symm hkD,hne]
 have gk2:get (((D,Ob.rows t (xs++ys) .own)::(k2,.gone)::[(k,.gone)])++s.h) k2=some .gone:=by simp [q6q,Ne.symm hk2D]
 have gone:∀ n ob,n=k2\/n=k->get (((D,Ob.rows t (xs++ys) .own)::(k2,.gone)::[(k,.gone)])++s.h) n=some ob->ob=.gone:=by
   rintro n ob (rfl | rfl) h
   · rw[gk2] at h;injection h with h;exact h.symm
   · rw[gk] at h;injection h with h;exact h.symm
 have old:∀ n ob,n ∉ qab ((D,Ob.rows t (xs++ys) .own)::(k2,.gone)::[(k,.gone)])->get (((D,Ob.rows t (xs++ys) .own)::(k2,.gone)::[(k,.gone)])++s.h) n=some ob->get s.h n=some ob:=fun n ob hn h=>by
   rw[q2q,q11q hn] at h;simpa using h
 have ho0:∀ b o,J k=some (b,o)->o=0:=fun b o hb=>by
   have:=R.obs k _ hk;simp only[ORel,hb] at this;exact this.2.2.2.2 trivial
 have ho2:∀ b o,J k2=some (b,o)->o=0:=fun b o hb=>by
   have:=R.obs k2 _ hk2;simp only[ORel,hb] at this;exact this.2.2.2.2 trivial
 have hlt:∀ b o,J k=some (b,o)->b<w.heap.size:=fun b o hb=>by
   obtain⟨c,hc⟩:=R.blk hk (by simp) hb;exact hc.lt
 have hDo:∀ b o,βD=some (b,o)->∀ n ob oo,get s.h n=some ob->ob.live=true->n≠k->J n≠some (b,oo):=fun b o hβD n ob oo hn hl hnk hbn=>by
   rcases(hβ b o hβD).2 with h | h
   · exact hnk (R.inj n k ob _ b oo 0 hn hl hk rfl hbn h)
   · obtain ⟨c, hc⟩ := R.blk hn (by rintro rfl; cases hl) hbn;have:=hc.lt;omega
 refine R.genD (w':=w') (S':=S) (J':=fun n=>if n=D then βD else J n) h0 ((D,.rows t (xs++ys) .own)::(k2,.gone)::[(k,.gone)]) W h1 hg ?_ ?_ (fun _ h=>h) (fun _ h=>.inl h) (fun b hb=>Nat.lt_of_lt_of_le (R.Slt b hb) hg) ?_ ?_ ?_ ?_ ?_ ?_ ?_ ?_ ?_
 · intro b hWb;exact⟨k,_,0,(kw k).2 (.inr (.inr rfl)),hk,rfl,hW b hWb⟩
 · intro n ob hn _;simp [hnD n ob hn]
 · intro n ob b2 o2 hn _ hl hb2;exact(R.liveS hn hl hb2).1
 · intro n ob hm hn E;rcases(kw n).1 hm with rfl | hg'
   · rw [gD] at hn; injection hn with hn; subst hn
     simp only[ORel,if_true];cases hq:βD with
     | none=>exact h00 hq
     | some p =>
       obtain⟨b,o⟩:=p;obtain⟨rfl,hwh⟩:=hβ b o hq;obtain⟨c,c1,c2,c3⟩:=hb b hq;refine⟨⟨c,c1,by omega⟩,fun i y hy=>?_,by simp,fun _=>?_,fun _=>rfl⟩
       · by_cases hi : i < xs.length
         · rw [List.getElem?_append_left hi] at hy;refine⟨_,(o2 i y hy).mono E.sub E.keep,?_⟩;have:=c3.part (off:=i*t.size) (n:=t.size)
           rwa [qoi o1 hi] at this
         · rw [List.getElem?_append_right (by omega)] at hy;refine⟨_,(n2 _ y hy).mono E.sub E.keep,?_⟩;have:=c3.part (off:=i*t.size) (n:=t.size)
           rwa [qqk o1 (by omega)] at this
       · rcases hwh with h | h
         · exact R.liveS hk rfl h
         · exact⟨fun hS=>by have:=R.Slt b hS;omega,.inl (by have:=R.grow;omega)⟩
   · have := gone n ob hg' hn;subst this;trivial
 · intro n ob hm hn;rcases(kw n).1 hm with rfl | rfl | rfl
   · rw[hD] at hn;cases hn
   · exact⟨.gone,gk2,by cases ob<;>trivial⟩
   · exact⟨.gone,gk,by cases ob<;>trivial⟩
 · intro n n' ob ob' bb oo1 oo2 hm hn hl hn' hl' hb1 hb2;rcases(kw n).1 hm with rfl | hg'
   · by_cases e : n' = n
     · exact e.symm
     · simp only [if_true] at hb1;simp only[if_neg e] at hb2;by_cases hmm:n'∈qab ((n,Ob.rows t (xs++ys) .own)::(k2,.gone)::[(k,.gone)])
       · have h := ((kw n').1 hmm).resolve_left e;have:=gone n' ob' h hn';subst this;cases hl'
       · have hn0 := old n' ob' hmm hn';exact absurd hb2 (hDo bb oo1 hb1 n' ob' oo2 hn0 hl' (fun e=>hmm ((kw n').2 (.inr (.inr e)))))
   · have := gone n ob hg' hn;subst this;cases hl
 · intro n bb o n' hL hWb c hc;exact absurd hL (R.sep k _ bb 0 hk rfl (by simp) (hW bb hWb) n o n')
 · intro n t2 zs2 hm hn;rcases(kw n).1 hm with rfl | hg'
   · rw[gD] at hn;cases hn
   · have:=gone n _ hg' hn;cases this
 · intro n ob bb oo hm hn hl hnl hb2 k' o' n';rcases(kw n).1 hm with rfl | hg'
   · simp only [if_true] at hb2;rcases(hβ bb oo hb2).2 with h | h
     · exact R.sep k _ bb 0 hk rfl (by simp) h k' o' n'
     · intro hL;obtain⟨c0,c1,hc0,_⟩:=R.lent k' bb o' n' hL;have:=hc0.lt;have:=R.grow;omega
   · have := gone n _ hg' hn;subst this;cases hl
 · intro n l hm hn;rcases(kw n).1 hm with rfl | hg'
   · rw[gD] at hn;cases hn
   · have:=gone n _ hg' hn;cases this
 · intro O D0 E hblk;have hsame:∀ k' b,b∈O k'->w'.heap[b]?=w.heap[b]?:=fun k' b hb=>by
     obtain⟨a1,a2,a3,a4,a5⟩:=D0.off k' b hb;exact h1 b a3 fun hWb=>a4 k _ 0 hk rfl (hW b hWb)
   have hF1:∃ Fs:List (List Nat),Fs.length=xs.length/\Fs.flatten.Nodup/\(∀ b∈Fs.flatten,b∈O k)/\∀ i x Fi,xs[i]?=some x->Fs[i]?=some Fi->qiL w S B.w0.heap.size t x ((olds.drop (i*t.size)).take t.size) Fi:=by
     cases hq:J k with
     | none =>
       have h:=R.obs k _ hk;simp only[ORel,hq] at h;have hx0:xs=[]:=by rw[hxs,h];cases len<;>simp [win]
       exact⟨[],by simp [hx0],List.nodup_nil,by simp,fun i x Fi _ h=>by simp at h⟩
     | some p =>
       obtain⟨b,o⟩:=p;obtain rfl:=ho0 b o hq;have h:=(D0.row k t zs b 0 hk hq).win len;rw[<- hxs] at h;exact h.cells hnf o1 (o3 b hq)
   have hF2:∃ Fs:List (List Nat),Fs.length=ys.length/\Fs.flatten.Nodup/\(∀ b∈Fs.flatten,b∈O k2)/\∀ i x Fi,ys[i]?=some x->Fs[i]?=some Fi->qiL w S B.w0.heap.size t x ((news.drop (i*t.size)).take t.size) Fi:=by
     cases hq:J k2 with
     | none =>
       have h:=R.obs k2 _ hk2;simp only[ORel,hq] at h;exact⟨[],by simp [h],List.nodup_nil,by simp,fun i x Fi _ h=>by simp at h⟩
     | some p =>
       obtain⟨b,o⟩:=p;obtain rfl:=ho2 b o hq;exact(D0.row k2 t ys b 0 hk2 hq).cells hnf n1 (n3 b hq)
   obtain⟨Fs1,p1,p2,p3,p4⟩:=hF1;obtain⟨Fs2,q1,q2,q3,q4⟩:=hF2;refine D0.gen2 ((D,.rows t (xs++ys) .own)::(k2,.gone)::[(k,.gone)]) W (fun n=>if n=D then O k++O k2 else []) h1 hg (fun b hWb=>⟨k,_,0,(kw k).2 (.inr (.inr rfl)),hk,rfl,hW b hWb⟩) (fun n ob hn _=>by simp [hnD n ob hn]) E hblk (fun b h=>.inl h) ?_ ?_ ?_ ?_
   · intro n ob bb oo hm hn hl hb2;rcases(kw n).1 hm with rfl | hg'
     · simp only [if_true] at hb2;rcases(hβ bb oo hb2).2 with h | h
       · exact .inl ⟨k,_,0,hk,rfl,h⟩
       · exact .inr (.inl (by omega))
     · have := gone n _ hg' hn;subst this;cases hl
   · intro n t2 zs2 bb oo hm hn hb2;rcases(kw n).1 hm with rfl | hg'
     · rw [gD] at hn;injection hn with hn
       injection hn with r1 r2 _
       subst r1;have r2:=eq_of_heq r2;subst r2;simp only[if_true] at hb2 ⊢;obtain⟨rfl,_⟩:=hβ bb oo hb2;obtain⟨c,c1,c2,c3⟩:=hb bb hb2;refine .inr ⟨Fs1++Fs2,by simp [p1,q1],?_,fun b hb=>?_,fun i y Fi hy hi=>?_⟩
       · rw [List.flatten_append];refine List.nodup_append.2 ⟨p2,q2,fun x hx y hy e=>?_⟩;subst e;exact hne (D0.one k k2 x (p3 x hx) (q3 x hy)).symm
       · rw [List.flatten_append] at hb;exact(List.mem_append.1 hb).elim (fun h=>List.mem_append.2 (.inl (p3 b h))) (fun h=>List.mem_append.2 (.inr (q3 b h)))
       · have hpart := c3.part (off := i * t.size) (n := t.size);rw[Nat.zero_add] at hpart;by_cases hil:i<xs.length
         · rw [List.getElem?_append_left hil] at hy;rw[List.getElem?_append_left (by omega)] at hi;rw[qoi o1 hil] at hpart;exact⟨_,qo9 o1 hil,hpart,(p4 i y Fi hy hi).mono E.sub E.keep fun b hb=>hsame k b (p3 b (List.mem_flatten.2 ⟨Fi,List.mem_of_getElem? hi,hb⟩))⟩
         · rw [List.getElem?_append_right (by omega)] at hy;rw[List.getElem?_append_right (by omega),p1] at hi;rw[qqk o1 (by omega)] at hpart;exact⟨_,qo9 n1 (List.getElem?_eq_some_iff.1 hy).1,hpart,(q4 _ y Fi hy hi).mono E.sub E.keep fun b hb=>hsame k2 b (q3 b (List.mem_flatten.2 ⟨Fi,List.mem_of_getElem? hi,hb⟩))⟩
     · have:=gone n _ hg' hn;cases this
   · intro n bb hm hbb;by_cases e:n=D
     · subst e;simp only[if_true] at hbb;have key:∀ kk,kk=k\/kk=k2->bb∈O kk->(¬ S bb/\B.Mo bb/\bb<w'.heap.size/\(∀ k' ob o,get (((n,Ob.rows t (xs++ys) .own)::(k2,.gone)::[(k,.gone)])++s.h) k'=some ob->ob.live=true->(if k'=n then βD else J k')≠some (bb,o))/\∀ k' o n,B.LT k'≠some (bb,o,n))/\∀ k',k' ∉ qab ((n,Ob.rows t (xs++ys) .own)::(k2,.gone)::[(k,.gone)])->bb ∉ O k':=by
         intro kk hkk hin;obtain⟨a1,a2,a3,a4,a5⟩:=D0.off kk bb hin;refine⟨⟨a1,a2,Nat.lt_of_lt_of_le a3 hg,fun k' ob oo hk' hl hb2=>?_,a5⟩,fun k' hk' hm'=>?_⟩
         · by_cases e : k' = n
           · simp only [if_pos e] at hb2;rcases(hβ bb oo hb2).2 with h | h
             · exact a4 k _ 0 hk rfl h
             · omega
           · simp only [if_neg e] at hb2;by_cases hmm:k'∈qab ((n,Ob.rows t (xs++ys) .own)::(k2,.gone)::[(k,.gone)])
             · have := gone k' ob (((kw k').1 hmm).resolve_left e) hk';subst this;cases hl
             · exact a4 k' ob oo (old k' ob hmm hk') hl hb2
         · have := D0.one kk k' bb hin hm';subst this;exact hk' ((kw kk).2 (.inr (by rcases hkk with h | h;exact .inr h;exact .inl h)))
       rcases List.mem_append.1 hbb with h | h
       · exact key k (.inl rfl) h
       · exact key k2 (.inr rfl) h
     · simp only [if_neg e] at hbb;simp at hbb
   · intro n n' bb _ _ h1 h2;by_cases e:n=D
     · by_cases e' : n' = D
       · rw[e,e']
       · simp only[if_neg e'] at h2;simp at h2
     · simp only[if_neg e] at h1;simp at h1
end
theorem qn3 (hT:TbOk P tb) {o:Oper} {s:St} {c:Call} {x y:Operand} {T':TypeId} {d:Nat} {hp:Hp} (hs:Sub hp s) (hkk:hp (d*8)=none->get s.h (d*8)=none) (ho:o.op=.call c) (hd:o.dst=some d)
   (hcal:c.callee=.builtin .append) (hargs:c.args=#[x,y]) (htys:c.argTypes=#[T',T']) {et:TypeId} {t:Ty} {bb:Nat} (hg:get tb T'=some (.slc et t bb)) {k k2:Nat} {len:Option Nat} {zs ys:List t.den} (hpx:s.pv x=.osl k 0 len) (hpy:s.pv y=.osl k2 0 none)
   (hk:hp k=some (.rows t zs .own)) (hk2:hp k2=some (.rows t ys .own)) (hne:k2≠k) (hnf:t.flat=false) (hbnd:((win zs 0 len).length+ys.length)*bb<=140737488355328) (hnone:hp (d*8)=none) :
   qcb T P o s ⟨some (.osl (d*8) 0 none),(d*8,.rows t (win zs 0 len++ys) .own)::(k2,.gone)::[(k,.gone)]⟩:=by
 intro B w S J a R hdo next Q hnx
 have hx:=q14q R x;have hy:=q14q R y;have hexec:(execOp a.eval o).run P w=((Builtin.append_ #[T',T'] o.type #[a.eval x,a.eval y]).run P w).andThen fun v w'=>.ok (.value v) w':=by
   unfold execOp;simp [ho,resolve,hcal,hargs,htys,invoke,builtin]
 unfold Oper.wp;rw[hexec];obtain⟨_,hu,hty,⟨ib,ib1,ib2⟩,hbb,hsz⟩:=hT T' _ hg;obtain⟨ie,z,i1,i2,i3,i4⟩:=hty.info;have hib:ie.bytes=bb:=by rw[i1] at ib1;injection ib1 with ib1;subst ib1;exact ib2
 have hzsz:z.cells.size=t.size:=by
   have h1:=congrArg List.length i4;have h2:=(qfg w S t).length;simp at h1;omega
 have hk':=hs k _ hk;have hk2':=hs k2 _ hk2;have hKn:=hkk hnone;rw[hpx] at hx;rw[hpy] at hy;obtain⟨hw,hx2⟩:=qdS R hk' hx;have hl:=qbt hw;obtain⟨hw2,hy2⟩:=qdS R hk2' hy;have hwl2:wlen ys 0 none=ys.length:=by simp [wlen]
 rw[hwl2] at hy2;have hY:∃ A cap2 news,a.eval y=.slice A ys.length cap2/\news.length=ys.length*t.size/\(∀ v∈news,v.oneCell'=true)/\(∀ (i:Nat) q,ys[i]?=some q->Cell w S t q ((news.drop (i*t.size)).take t.size)) /\
     (∀ b,J k2=some (b,0)->At w b 0 news)/\(ys.length=0\/∃ a2:Addr,A=some a2/\∀ (j:Nat) u,news[j]?=some u->w.cell? (a2.add j)=some u):=by
   rcases hy2 with ⟨hb0,_,h0,hv⟩ | ⟨b,o0,x0,cap,hb,hv,hcap,hx0,_⟩
   · have : ys = [] := List.eq_nil_of_length_eq_zero h0;subst this;exact⟨none,0,[],hv,by simp,by simp,by simp,fun b hb=>(by rw[hb0] at hb;cases hb),.inl rfl⟩
   · have hor := R.obs k2 _ hk2';simp only[ORel,hb] at hor;obtain⟨_,hrow,_,_,ho0⟩:=hor;obtain rfl:=ho0 trivial;obtain⟨cs,c1,c2,c3,c4⟩:=qhr hrow;refine⟨_,cap,cs,hv,c1,c3,c4,fun b' hb'=>?_,?_⟩
     · rw [hb] at hb';injection hb' with hb'
       injection hb' with hb' _
       subst hb';exact c2
     · by_cases h0 : ys.length = 0
       · exact .inl h0
       · have : x0 = 0 := by
          have:=hx0.resolve_left (by omega);simpa using this
         subst this;exact .inr ⟨_,rfl,fun j u hj=>by rw[Addr.add_mid];exact c2 j u hj⟩
 obtain⟨A,cap2,news,hyv,n1,none1,n2,n3,n4⟩:=hY;rw[hyv];have hX:∃ olds:List Value,olds.length=(win zs 0 len).length*t.size/\(∀ (i:Nat) q,(win zs 0 len)[i]?=some q->Cell w S t q ((olds.drop (i*t.size)).take t.size))/\∀ b,J k=some (b,0)->At w b 0 olds:=by
   cases hb:J k with
   | none =>
     have h:=R.obs k _ hk';simp only[ORel,hb] at h;subst h;exact⟨[],by cases len<;>simp [win],by cases len<;>simp [win],by simp⟩
   | some p =>
     obtain⟨b,o0⟩:=p;have hor:=R.obs k _ hk';simp only[ORel,hb] at hor;obtain⟨_,hrow,_,_,ho0⟩:=hor;obtain rfl:=ho0 trivial;have hrowW:qdG (Cell w S t) t.size w b 0 (win zs 0 len):=fun i q hq=>hrow i q (by have:=qhY hq;rwa [Nat.zero_add] at this)
     obtain⟨cs,c1,c2,c3,c4⟩:=qhr hrowW;exact⟨cs,c1,c4,fun b' hb'=>by injection hb' with hb';injection hb' with hb' _;subst hb';exact c2⟩
 obtain⟨olds,o1,o2,o3⟩:=hX;have fin:∀ v w' J',Rel T B w' S J' ⟨s.e,((d*8,.rows t (win zs 0 len++ys) .own)::(k2,.gone)::[(k,.gone)])++s.h⟩ a->TRel w' S J' (get (((d*8,.rows t (win zs 0 len++ys) .own)::(k2,.gone)::[(k,.gone)])++s.h)) (.osl (d*8) 0 none) v->next (a.put o.dst v) w':=by
   intro v w' J' R2 hv2;refine hnx v w' S J' (Rel.app (ef:=⟨some (.osl (d*8) 0 none),(d*8,.rows t (win zs 0 len++ys) .own)::(k2,.gone)::[(k,.gone)]⟩) R2 hdo fun pv hpv=>?_);injection hpv with hpv
   subst hpv;exact hv2
 have gD:get (((d*8,Ob.rows t (win zs 0 len++ys) .own)::(k2,.gone)::[(k,.gone)])++s.h) (d*8)=some (.rows t (win zs 0 len++ys) .own):=by simp [q6q]
 have bound:∀ {n:Nat},n*bb<=140737488355328->(n:Int)<=9223372036854775807:=by
   intro n hn;have:=Nat.le_mul_of_pos_right n hbb;omega
 have fresh:∀ (sc:Nat),(win zs 0 len).length+ys.length<=grownCap w ((win zs 0 len).length+ys.length) sc et ->
     next (a.put o.dst (.slice (some ⟨w.heap.size,0,none⟩) ((win zs 0 len).length+ys.length) (grownCap w ((win zs 0 len).length+ys.length) sc et)))
       (w.drew.alloc (.cells (olds.toArray++news.toArray++Builtin.zeroCells z.cells (grownCap w ((win zs 0 len).length+ys.length) sc et-((win zs 0 len).length+ys.length))) et)):=by
   intro sc hge;generalize hcap:grownCap w ((win zs 0 len).length+ys.length) sc et=cap' at hge;generalize hcc:olds.toArray++news.toArray++Builtin.zeroCells z.cells (cap'-((win zs 0 len).length+ys.length))=cc;have hblk:Blk (w.drew.alloc (.cells cc et)) w.heap.size cc:=qbN w.drew cc et;have hccs:cc.size=cap'*t.size:=by
     rw[<- hcc];simp only[Array.size_append,List.size_toArray,size_zeroCells,hzsz,o1,n1,<- Nat.add_mul];congr 1;omega
   have hfront:At (w.drew.alloc (.cells cc et)) w.heap.size 0 (olds++news):=by
     intro j v hv;rw[hblk.cell,Nat.zero_add,<- hcc];have hj:=(List.getElem?_eq_some_iff.1 hv).1;rw[Array.getElem?_append_left (by simpa using hj)];simpa using hv
   have hle:((win zs 0 len)++ys).length*t.size<=cc.size:=by
     rw[hccs,List.length_append];exact Nat.mul_le_mul_right _ hge
   have R2:=R.joinD (w':=w.drew.alloc (.cells cc et)) hk' hk2' hne hKn hnf rfl (some (w.heap.size,0)) (fun _=>False) (Calm.trans (w':=w.drew) ⟨rfl,rfl,fun _=>rfl⟩ (qdA w.drew cc et)) (fun b hb _=>qcv (w:=w.drew) hb) (by simp) (fun _ h=>h.elim)
     (fun b o h=>by injection h with h;injection h with h1 h2;exact⟨h2.symm,.inr h1.symm⟩) (by simp) o1 n1 o2 n2 o3 n3 (fun b h=>by injection h with h;injection h with h1 _;subst h1;exact⟨cc,hblk,hle,hfront⟩)
   refine fin _ _ _ R2 ?_;have:=qnm (w':=w.drew.alloc (.cells cc et)) (S:=S) (J:=fun n=>if n=d*8 then some (w.heap.size,0) else J n) (g:=get (((d*8,.rows t (win zs 0 len++ys) .own)::(k2,.gone)::[(k,.gone)])++s.h)) (k:=d*8) (b:=w.heap.size) (t:=t) (xs:=win zs 0 len++ys) (cap:=cap') (c:=cc)
     gD (by simp) hblk (by rw[List.length_append];exact hge) (by omega)
   rw[List.length_append] at this;exact this
 rcases hx2 with ⟨hb0,_,hwl0,hxv⟩ | ⟨b,o0,x0,cap,hb,hxv,hcap,hx0,hown⟩
 · have hW : win zs 0 len = [] := List.eq_nil_of_length_eq_zero (by omega);rw[hxv];by_cases hm:ys.length=0
   · have hy0 : ys = [] := List.eq_nil_of_length_eq_zero hm;have hr:=qcz (P:=P) w T' o.type et ie hu i1 none A 0 0 cap2 (Nat.le_refl _);rw[hm,hr];have R2:=R.joinD (w':=w) hk' hk2' hne hKn hnf rfl none (fun _=>False) (Calm.refl w) (fun b hb _=>rfl) (Nat.le_refl _) (fun _ h=>h.elim)
       (fun b o h=>by cases h) (fun _=>by rw[hW,hy0];rfl) o1 n1 o2 n2 o3 n3 (fun b h=>by cases h)
     refine fin _ _ _ R2 ?_;have gD':=gD;rw[show win zs 0 len++ys=[] by rw[hW,hy0];rfl] at gD' ⊢;exact qve (t:=t) gD' (by simp)
   · rcases n4 with h | ⟨a2, rfl, hn⟩
     · exact absurd h hm
     · have hbnd' : ys.length * bb <= 140737488355328 := by rw [hW] at hbnd; simpa using hbnd
       have hr:=run_append_nil (P:=P) w T' o.type et ie z hu i1 i3 a2 ys.length cap2 news (by rw[i2];exact n1) hn (by omega) (bound hbnd') (by rw[hib];omega);rw[hr];have h:=fresh 0 (by rw[hW];simpa using grownCap_ge w ys.length 0 et);have ho0:olds=[]:=List.eq_nil_of_length_eq_zero (by rw[o1,hW];simp);rw[hW,ho0] at h;simp only[List.length_nil,Nat.zero_add,Array.empty_append] at h;exact h
 · have hor := R.obs k _ hk';simp only[ORel,hb] at hor;obtain⟨⟨c,hc,hcsz⟩,hrow,_,_,ho0⟩:=hor;obtain rfl:=ho0 trivial;obtain⟨c2,hc2,hcapsz⟩:=hown rfl;have:=hc.inj hc2;subst this;simp only[Nat.zero_add,Nat.zero_mul,Nat.add_zero] at hx0 hcapsz hcsz;have hAt:=o3 b hb;rw[hxv];have inv:∀ (c':Array Value),c'.size=c.size->At (w.setRow b c') b 0 (olds++news)->(win zs 0 len++ys).length<=cap->∀ x1,(cap=0\/x1=0) ->
       next (a.put o.dst (.slice (some ⟨b,x1,none⟩) ((win zs 0 len++ys).length) cap)) (w.setRow b c'):=by
     intro c' hs' hr' hle x1 hx1;have hle2:(win zs 0 len++ys).length*t.size<=cap*t.size:=Nat.mul_le_mul_right _ hle;have R2:=R.joinD (w':=w.setRow b c') hk' hk2' hne hKn hnf rfl (some (b,0)) (fun b'=>b'=b) (qgW hc) (fun b' _ hn=>setRow_other w b b' c' hn) (by simp) (fun b' h=>by rw[h];exact hb)
       (fun b' o h=>by injection h with h;injection h with h1 h2;exact⟨h2.symm,.inl (by rw[<- h1];exact hb)⟩) (by simp) o1 n1 o2 n2 o3 n3 (fun b' h=>by injection h with h;injection h with h1 _;subst h1;exact⟨c',qdv hc,by omega,hr'⟩)
     refine fin _ _ _ R2 ?_;have:qac (w.setRow b c') S (fun n=>if n=d*8 then some (b,0) else J n) (get (((d*8,.rows t (win zs 0 len++ys) .own)::(k2,.gone)::[(k,.gone)])++s.h)) (.osl (d*8) 0 none) (.slice (some ⟨b,x1,none⟩) ((win zs 0 len++ys).length) cap):=by
       simp only[qac,gD,if_true];refine⟨by simp [qf1],?_⟩;simp only[OslV];exact⟨x1,cap,by simp [wlen],by simpa [wlen] using hle,by simpa using hx1,fun _=>⟨c',qdv hc,by rw[hs'];simpa using hcapsz⟩⟩
     exact this.up
   by_cases hm:ys.length=0
   · have hy0 : ys = [] := List.eq_nil_of_length_eq_zero hm;have hn0:news=[]:=List.eq_nil_of_length_eq_zero (by rw[n1,hm];simp);have hr:=qcz (P:=P) w T' o.type et ie hu i1 (some ⟨b,x0,none⟩) A (wlen zs 0 len) cap cap2 hcap;rw[hm,hr];obtain⟨e0,he0⟩:=hc;have hself:=setRow_self w b c e0 _ he0;have:=inv c rfl (by rw[hself,hn0];simpa using hAt) (by rw[hy0];simp only[List.append_nil];omega) x0 hx0
     rw[hself] at this;show next (a.put o.dst _) _
     simpa [hl,hy0] using this
   · rcases n4 with n4 | ⟨a2, rfl, hn⟩
     · exact absurd n4 hm
     · by_cases hroom : wlen zs 0 len + ys.length <= cap
       · obtain rfl : x0 = 0 := hx0.resolve_left (by omega);have hfit:wlen zs 0 len*t.size+news.length<=c.size:=by
          rw[n1,<- Nat.add_mul];exact Nat.le_trans (Nat.mul_le_mul_right _ hroom) hcapsz
         have hr:=qf3 (P:=P) w T' o.type et ie hu i1 hc (some a2) ys.length cap2 news (by rw[i2];exact n1) (.inr ⟨a2,rfl,hn⟩) none1 hroom (by rw[i2];exact hfit);rw[hr,i2];have hs':=qbo hfit;have hblk':Blk (w.setRow b (qaP c (wlen zs 0 len*t.size) news)) b (qaP c (wlen zs 0 len*t.size) news):=qdv hc;have hlenW:olds.length=wlen zs 0 len*t.size:=by rw[o1,hl]
         have hfront:At (w.setRow b (qaP c (wlen zs 0 len*t.size) news)) b 0 (olds++news):=by
          intro j v hv;rw[hblk'.cell,Nat.zero_add];by_cases hj:j<olds.length
          · rw [List.getElem?_append_left hj] at hv;rw[qbu hfit (.inl (by omega)),<- hc.cell];have:=hAt j v hv
            rwa [Nat.zero_add] at this
          · rw [List.getElem?_append_right (by omega)] at hv;have h3:=(List.getElem?_eq_some_iff.1 hv).1;have:=qej hfit (j:=j-olds.length) h3;rw[<- hlenW,show olds.length+(j-olds.length)=j by omega] at this;rw[<- hlenW,this];exact hv
         have:=inv _ hs' hfront (by simp [hl];omega) 0 (.inr rfl);show next (a.put o.dst _) _
         simpa [hl] using this
       · have hold : ∀ (j : Nat) (u : Value), olds[j]? = some u->w.cell? ((⟨b, x0, none⟩ : Addr).add j) = some u := by
          intro j u hu';have h3:=(List.getElem?_eq_some_iff.1 hu').1;have hx00:x0=0:=by
            refine hx0.resolve_left fun h0=>?_
            have:wlen zs 0 len=0:=by omega
            rw[o1,hl,this] at h3;omega
          subst hx00;rw[Addr.add_mid];exact hAt j u hu'
         have hbnd':(wlen zs 0 len+ys.length)*ie.bytes<=140737488355328:=by rw[hib,<- hl];exact hbnd
         have hr:=run_append_grow (P:=P) w T' o.type et ie z hu i1 i3 ⟨b,x0,none⟩ (wlen zs 0 len) cap olds (by rw[o1,hl,i2]) hold a2 ys.length cap2 news (by rw[i2];exact n1) hn (by omega)
          (bound (n:=wlen zs 0 len+ys.length) (by rw[<- hib];exact hbnd')) (growslice_fits (by omega) hbnd')
         rw[hr];have h:=fresh cap (by simpa using grownCap_ge w ((win zs 0 len).length+ys.length) cap et);rw[hl] at h;exact h
theorem qsm (hT:TbOk P tb) {o:Oper} {s:St} {c:Call} {x y:Operand} {T':TypeId} {d:Nat} {hp:Hp} (hs:Sub hp s) (hkk:hp (d*8)=none->get s.h (d*8)=none) {ef:Eff} (ho:o.op=.call c) (hd:o.dst=some d)
   (hcal:c.callee=.builtin .append) (hargs:c.args=#[x,y]) (htys:c.argTypes=#[T',T']) (h:qfa tb hp (some d) T' (s.pv x) (s.pv y) some=some ef):qcb T P o s ef:=by
 by_cases hflt:∀ et e bb,get tb T'=some (.slc et e bb)->e.flat=true
 · exact qus hT hs hkk ho hd hcal hargs htys hflt h
 · have h0 := h;unfold qfa at h;split at h
   · rename_i et e bb d' hg hd';injection hd' with hd'
     subst hd';have hnf:e.flat=false:=by
       cases hq:e.flat with
       | false=>rfl
       | true=>exact absurd (fun et' e' bb' h'=>by rw[hg] at h';injection h' with h';injection h' with _ h' _;rw[<- h'];exact hq) hflt
     split at h
     · rename_i ys hys;split at h
       · rename_i hpx;simp only[hnf,cond_false] at h;cases h
       · rename_i k len hpx;split at h
         · rename_i t xs hk;split at h
           · rename_i zs hz;obtain⟨rfl,rfl⟩:=qda hz;obtain⟨hcond,h⟩:=q8q h;simp only[hnf,cond_false] at h;simp only[Bool.and_eq_true] at hcond;have hbnd:=Nat.le_of_ble_eq_true hcond.1;unfold qnF at h;split at h
             · rename_i k2 hpy;split at h
               · rename_i t2 xs2 hk2;have hys2:∃ e2:t2=t,ys=e2 ▸ xs2:=by
                   rw[hpy] at hys;simp only[qoB,qyM,hk2] at hys;split at hys
                   · rename_i q hq;obtain⟨e2,rfl⟩:=qda hq;injection hys with hys
                     refine⟨e2,?_⟩;rw[<- hys];simp [win]
                   · cases hys
                 obtain⟨rfl,rfl⟩:=hys2;have hne:k2≠k:=by
                   have:=hcond.2;rw[hpy] at this;rintro rfl;simp [qag,memN,Nat.beq_refl] at this
                 unfold qj6 at h;split at h
                 · rename_i hnone;injection h with h
                   subst h;exact qn3 hT hs hkk ho hd hcal hargs htys hg hpx hpy hk hk2 hne hnf hbnd hnone
                 · cases h
               · cases h
             · cases h
           · cases h
         · cases h
       · cases h
     · cases h
   · cases h
end Go.Proofs.YtfoedjifcmfogaaDoor.X
