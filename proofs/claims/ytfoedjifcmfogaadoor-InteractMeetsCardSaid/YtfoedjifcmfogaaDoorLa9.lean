/- Own work: part of the proof; the first line of each part says what it tells. -/
import Derived.Test.YtfoedjifcmfogaaDoorLa8


namespace Go.Proofs.YtfoedjifcmfogaaDoor.X
open Go
set_option linter.unusedVariables false
set_option linter.unusedSimpArgs false
theorem qtq {a b:Nat} (h:a+b<4611686018427387904):iadd .i64 (a:Int) (b:Int)=((a+b:Nat):Int):=by rw[qfO (by omega) (by omega)];omega
theorem qf0:qaR=some true:=by decide +kernel
def rowB (n:Nat) (h:Nat->Bool):List Bool:=(List.range n).map h
theorem qsU (n:Nat) (h:Nat->Bool):(rowB n h).length=n:=by simp [rowB]
theorem qsV {n k:Nat} (h:Nat->Bool) (hk:k<n):(rowB n h)[k]?=some (h k):=by simp [rowB,hk]
def grb (n:Nat) (g:Nat->Nat->Bool):List (List Bool):=(List.range n).map fun i=>rowB n (g i)
theorem qjV (n:Nat) (g:Nat->Nat->Bool):(grb n g).length=n:=by simp [grb]
theorem qr6 {n i:Nat} (g:Nat->Nat->Bool) (h:i<n):(grb n g)[i]?=some (rowB n (g i)):=by simp [grb,h]
def ftN (t:List NODE) (i:Nat):Nat:=(qfS (qmc t i)).toNat
def recP (t:List NODE):TR->List Nat->Nat->Nat->Bool
 | .leaf _,_,_,_=>false
 | .split i l r,A,a,b=>(A.any fun f=>hitB f (ftN t i) a b) || (recP t l (A++[ftN t i]) a b || recP t r (A++[ftN t i]) a b)
theorem qtc {t:List NODE} {n:Nat}:∀ (k:Nat) (T:TR),Is t (n:Int) T->T.deep<=k->∀ (A:List Nat),A.length+k<500000->∀ g:Nat->Nat->Bool,
  qjS (n:Int) t k (T.top:Int) A g=some (fun a b=>g a b || recP t T A a b):=by
 intro k
 induction k with
 | zero=>intro T _ hd;have:=T.deep_pos;omega
 | succ k ih =>
  intro T hT hd A hl g;have d0:(0:Int)<=(T.top:Int):=Int.natCast_nonneg _;rw[qjS];dsimp only;rw[decide_eq_true d0,cond_true,tN0];cases T with
  | leaf i =>
   obtain⟨h1,h2⟩:=hT;rw[show(TR.leaf i).top=i from rfl,gE0 h1,bS0,show t[i].1=true from h2,cond_true];congr 1;funext a b;rw[recP,Bool.or_false]
  | split i l r =>
   obtain⟨h1,h2,f0,f1,h3,h4,h5,h6⟩:=hT;simp only[TR.deep] at hd;obtain⟨c,ec⟩:∃ c,c=ftN t i:=⟨_,rfl⟩;have efc:qfS t[i]=(c:Int):=by rw[ec,ftN,qgo h1];omega
   have efc':t[i].2.1=(c:Int):=efc;have hl':(A++[c]).length+k<500000:=by simp;omega
   have e3:t[i].2.2.2.1=(l.top:Int):=h3;have e4:t[i].2.2.2.2.1=(r.top:Int):=h4;have hg1:(decide ((0:Int)<=(c:Int))&&(decide ((c:Int)<(n:Int))&&decide (A.length<=1000000)))=true:=by
    rw[decide_eq_true (Int.natCast_nonneg _),decide_eq_true (by omega),decide_eq_true (by omega)];rfl
   rw[show(TR.split i l r).top=i from rfl,gE0 h1,bS0,show t[i].1=false from h2,cond_false,efc',hg1,cond_true,tN0,e3,e4,ih l h5 (by omega) _ hl',bS0,ih r h6 (by omega) _ hl'];congr 1;funext a b;rw[recP,<- ec];simp only[Bool.or_assoc]
def qdL (t:List NODE):TR->Nat->Bool
 | .leaf _,_=>false
 | .split i l r,a=>decide (ftN t i=a) || (qdL t l a || qdL t r a)
def qhu (t:List NODE):TR->Nat->Nat->Bool
 | .leaf _,_,_=>false
 | .split i l r,a,b=>(decide (ftN t i=a)&&(qdL t l b || qdL t r b)) || ((decide (ftN t i=b)&&(qdL t l a || qdL t r a)) || (qhu t l a b || qhu t r a b))
theorem quR {f c a b:Nat} (h:a≠b):hitB f c a b=((decide (a=f)&&decide (b=c)) || (decide (b=f)&&decide (a=c))):=by
 unfold hitB;by_cases e:f=c
 · subst e;simp;constructor
   · intro q;subst q;exact fun r=>h r.symm
   · intro q;subst q;exact h
 · simp [e,Bool.and_comm]
theorem quy (t:List NODE) {a b:Nat} (h:a≠b):∀ (T:TR) (A:List Nat),recP t T A a b=(((decide (a∈A)&&qdL t T b) || (decide (b∈A)&&qdL t T a)) || qhu t T a b):=by
 intro T
 induction T with
 | leaf i=>intro A;simp [recP,qdL,qhu]
 | split i l r ihl ihr =>
  intro A;have e1:(A.any fun f=>hitB f (ftN t i) a b)=((decide (a∈A)&&decide (ftN t i=b)) || (decide (b∈A)&&decide (ftN t i=a))):=by
   rw[Bool.eq_iff_iff];simp only[List.any_eq_true,quR h,Bool.or_eq_true,Bool.and_eq_true,decide_eq_true_eq];constructor
   · rintro ⟨f, hf, ⟨rfl, q⟩ | ⟨rfl, q⟩⟩
     · exact .inl ⟨hf,q.symm⟩
     · exact .inr ⟨hf,q.symm⟩
   · rintro (⟨hf, q⟩ | ⟨hf, q⟩)
     · exact⟨a,hf,.inl ⟨rfl,q.symm⟩⟩
     · exact⟨b,hf,.inr ⟨rfl,q.symm⟩⟩
  rw[recP,e1,ihl,ihr];simp only[qdL,qhu];rw[Bool.eq_iff_iff];simp only[Bool.or_eq_true,Bool.and_eq_true,decide_eq_true_eq,List.mem_append,List.mem_singleton]
  grind
theorem qrE (t:List NODE) {a b:Nat}:∀ T:TR,qhu t T a b=true ↔ ∃ i l r,InT (.split i l r) T/\((ftN t i=a/\(qdL t l b=true\/qdL t r b=true))\/(ftN t i=b/\(qdL t l a=true\/qdL t r a=true))):=by
 intro T
 induction T with
 | leaf i =>
  simp only[qhu,InT];constructor
  · intro h;cases h
  · rintro⟨_,_,_,h,_⟩;cases h
 | split i l r ihl ihr =>
  simp only[qhu,InT,Bool.or_eq_true,Bool.and_eq_true,decide_eq_true_eq,ihl,ihr];constructor
  · rintro (h | h | ⟨j, l', r', h1, h2⟩ | ⟨j, l', r', h1, h2⟩)
    · exact⟨i,l,r,.inl rfl,.inl h⟩
    · exact⟨i,l,r,.inl rfl,.inr h⟩
    · exact⟨j,l',r',.inr (.inl h1),h2⟩
    · exact⟨j,l',r',.inr (.inr h1),h2⟩
  · rintro ⟨j, l', r', h1 | h1 | h1, h2⟩
    · injection h1 with e1 e2 e3
      subst e1;subst e2;subst e3;rcases h2 with h2 | h2
      · exact .inl h2
      · exact .inr (.inl h2)
    · exact .inr (.inr (.inl ⟨j,l',r',h1,h2⟩))
    · exact .inr (.inr (.inr ⟨j,l',r',h1,h2⟩))
theorem qmr {t:List NODE} {n:Nat} {a:Nat}:∀ (k:Nat) (T:TR),Is t (n:Int) T->T.deep<=k->qar k t (T.top:Int) (a:Int)=some (qdL t T a):=by
 intro k
 induction k with
 | zero=>intro T _ hd;have:=T.deep_pos;omega
 | succ k ih =>
  intro T hT hd;show qcd (qar k) t (T.top:Int) (a:Int)=_;cases T with
  | leaf i =>
   obtain⟨h1,h2⟩:=hT;have d0:(0:Int)<=(i:Int):=by omega
   rw[qcd,show((TR.leaf i).top:Int)=(i:Int) from rfl,cnd d0,tN0,gE0 h1,bS0,show t[i].1=true from h2,cond_true];rfl
  | split i l r =>
   obtain⟨h1,h2,f0,f1,h3,h4,h5,h6⟩:=hT;have d0:(0:Int)<=(i:Int):=by omega
   simp only[TR.deep] at hd;have efc:t[i].2.1=((ftN t i:Nat):Int):=by
     have:qfS t[i]=((ftN t i:Nat):Int):=by rw[ftN,qgo h1];omega
     exact this
   have e3:t[i].2.2.2.1=(l.top:Int):=h3;have e4:t[i].2.2.2.2.1=(r.top:Int):=h4;rw[qcd,show((TR.split i l r).top:Int)=(i:Int) from rfl,cnd d0,tN0,gE0 h1,bS0,show t[i].1=false from h2,cond_false,efc,e3,e4,ih l h5 (by omega),bS0,ih r h6 (by omega),bS0,qdL];by_cases e:ftN t i=a
   · rw[decide_eq_true (show((ftN t i:Nat):Int)=(a:Int) by omega),cond_true,decide_eq_true e,Bool.true_or]
   · rw [decide_eq_false (show ¬ ((ftN t i : Nat) : Int) = (a : Int) by omega), cond_false, decide_eq_false e, Bool.false_or];cases qdL t l a<;>rfl
theorem qtd {m:qbs} (hg:Good m) {n:Nat} (hn:m.1=(n:Int)) {i:Nat} (hi:i<m.2.length) (hl:m.2[i].length<=15) {a b:Nat} (ha:a<n) (hb:b<n) (hab:a≠b) (h64:n<=64) (v7:Int) :
   lp qah K0 (((a:Int),(b:Int),v7,m.2[i],0,()),((m.1,m.2,()),())) =
    some (if qhu m.2[i] (treeOf m.2[i]) a b=true then .inr ((true,()),()) else .inl (((a:Int),(b:Int),v7,()),((m.1,m.2,()),()))):=by
 obtain⟨t,et⟩:∃ t,t=m.2[i]:=⟨_,rfl⟩;obtain⟨g1,g2,g3⟩:=hg.treeOf hi;have hreach:=hg.reach hi;rw[hn] at g1;rw[<- et] at g1 g2 g3 hreach hl ⊢;obtain⟨ok,eok⟩:∃ ok:Nat->Prop,ok=fun j=>¬ ∃ p l r,InT (.split p l r) (treeOf t)/\p=j/\((ftN t p=a/\(qdL t l b=true\/qdL t r b=true))\/(ftN t p=b/\(qdL t l a=true\/qdL t r a=true))):=⟨_,rfl⟩
 have step:∀ g j,(hj:j<t.length)->(ok j/\qah g (((a:Int),(b:Int),v7,t,(j:Int),()),((m.1,m.2,()),()))=g (((a:Int),(b:Int),v7,t,((j+1:Nat):Int),()),((m.1,m.2,()),()))) \/
    (¬ ok j/\qah g (((a:Int),(b:Int),v7,t,(j:Int),()),((m.1,m.2,()),()))=some (.inr ((true,()),()))):=by
   intro g j hj;obtain⟨U,hU,hUt⟩:=hreach j hj;have hIs:=hU.is g1;have d0:(j:Int)<(t.length:Int):=by omega
   have d1:(0:Int)<=(j:Int):=by omega
   have hfind:∀ p l r,InT (.split p l r) (treeOf t)->p=j->U=.split p l r:=fun p l r h e=>hU.uniq h g1 (by rw[hUt,<- e];rfl)
   cases U with
   | leaf q =>
    have hq:q=j:=hUt;subst hq;obtain⟨h1,h2⟩:=hIs;refine .inl ⟨?_,?_⟩
    · rw [eok];rintro⟨p,l,r,h,e,_⟩;have:=hfind p l r h e;cases this
    · rw [qah, cnd d0, cnd d1, tN0, gE0 h1, bS0, show t[q].1 = true from h2, cond_true, qcp (by omega)];rfl
   | split q l r =>
    have hq:q=j:=hUt;subst hq;have hdeep:=hU.deep;obtain⟨h1,h2,f0,f1,h3,h4,h5,h6⟩:=hIs;simp only[TR.deep] at hdeep;have efc:t[q].2.1=((ftN t q:Nat):Int):=by
      have:qfS t[q]=((ftN t q:Nat):Int):=by rw[ftN,qgo h1];omega
      exact this
    have e3:t[q].2.2.2.1=(l.top:Int):=h3;have e4:t[q].2.2.2.2.1=(r.top:Int):=h4;have i1:iadd .i64 (a:Int) (b:Int)=((a+b:Nat):Int):=qtq (by omega);have bl:∀ c,qar R0 t (l.top:Int) ((c:Nat):Int)=some (qdL t l c):=fun c=>qmr R0 l h5 (by unfold R0;omega)
    have br:∀ c,qar R0 t (r.top:Int) ((c:Nat):Int)=some (qdL t r c):=fun c=>qmr R0 r h6 (by unfold R0;omega)
    have hok:ok q ↔ ¬ ((ftN t q=a/\(qdL t l b=true\/qdL t r b=true))\/(ftN t q=b/\(qdL t l a=true\/qdL t r a=true))):=by
      rw[eok];constructor
      · intro h q2;exact h ⟨q,l,r,hU,rfl,q2⟩
      · rintro h ⟨p, l', r', h', e, q2⟩;have:=hfind p l' r' h' e;injection this with e1 e2 e3
        subst e1;subst e2;subst e3;exact h q2
    rw[qah,cnd d0,cnd d1,tN0,gE0 h1,bS0,show t[q].1=false from h2,cond_false,efc,e3,e4,i1];by_cases ea:ftN t q=a
    · have s1 : isub .i64 ((a + b : Nat) : Int) ((ftN t q : Nat) : Int) = (b : Int) := by rw [qeW (by omega) (by omega)]; omega
      rw[decide_eq_true (show((ftN t q:Nat):Int)=(a:Int) by omega),Bool.not_true,cond_false,s1,bl,bS0,br,bS0];have hne:ftN t q≠b:=by omega
      cases e1:qdL t l b with
      | true=>exact .inr ⟨fun h=>(hok.1 h) (.inl ⟨ea,.inl e1⟩),rfl⟩
      | false =>
        cases e2:qdL t r b with
        | true=>exact .inr ⟨fun h=>(hok.1 h) (.inl ⟨ea,.inr e2⟩),rfl⟩
        | false =>
          refine .inl ⟨hok.2 ?_,by rw[cond_false,cond_false,qcp (by omega)];rfl⟩;rintro(⟨_,h⟩ | ⟨h,_⟩)
          · rw[e1,e2] at h;rcases h with h | h<;>cases h
          · exact hne h
    · rw [decide_eq_false (show ¬ ((ftN t q : Nat) : Int) = (a : Int) by omega), Bool.not_false, cond_true];by_cases eb:ftN t q=b
      · have s1 : isub .i64 ((a + b : Nat) : Int) ((ftN t q : Nat) : Int) = (a : Int) := by rw [qeW (by omega) (by omega)]; omega
        rw[decide_eq_true (show((ftN t q:Nat):Int)=(b:Int) by omega),Bool.not_true,cond_false,s1,bl,bS0,br,bS0];cases e1:qdL t l a with
        | true=>exact .inr ⟨fun h=>(hok.1 h) (.inr ⟨eb,.inl e1⟩),rfl⟩
        | false =>
          cases e2:qdL t r a with
          | true=>exact .inr ⟨fun h=>(hok.1 h) (.inr ⟨eb,.inr e2⟩),rfl⟩
          | false =>
            refine .inl ⟨hok.2 ?_,by rw[cond_false,cond_false,qcp (by omega)];rfl⟩;rintro(⟨h,_⟩ | ⟨_,h⟩)
            · exact ea h
            · rw[e1,e2] at h;rcases h with h | h<;>cases h
      · rw [decide_eq_false (show ¬ ((ftN t q : Nat) : Int) = (b : Int) by omega), Bool.not_false, cond_true, qcp (by omega)];refine .inl ⟨hok.2 ?_,rfl⟩;rintro(⟨h,_⟩ | ⟨h,_⟩)
        · exact ea h
        · exact eb h
 have hp:=qrE t (a:=a) (b:=b) (treeOf t);rcases qiu (step:=qah) (fun j=>(((a:Int),(b:Int),v7,t,(j:Int),()),((m.1,m.2,()),()))) t.length ok (fun j=>.inr ((true,()),())) (.inl (((a:Int),(b:Int),v7,()),((m.1,m.2,()),()))) (by omega) (by
    intro j hj;by_cases h:ok j
    · refine .inl ⟨h, fun g => ?_⟩;rcases step g j hj with ⟨_,e⟩ | ⟨h',_⟩
      · exact e
      · exact absurd h h'
    · refine .inr ⟨h, fun g => ?_⟩;rcases step g j hj with ⟨h',_⟩ | ⟨_,e⟩
      · exact absurd h' h
      · exact e) (by
    intro g;rw[qah,cnd' (by omega)]) with ⟨h,hlp⟩ | ⟨j,hj,h,hlp⟩
 · have hlp : lp qah K0 (((a : Int), (b : Int), v7, t, 0, ()), ((m.1, m.2, ()), ())) = _ := hlp;rw[hlp,if_neg];intro hpp;obtain⟨p,l,r,h1,h2⟩:=hp.1 hpp;have hpl:p<t.length:=(h1.is g1).top_lt;have:=h p hpl;rw[eok] at this;exact this ⟨p,l,r,h1,rfl,h2⟩
 · have hlp : lp qah K0 (((a : Int), (b : Int), v7, t, 0, ()), ((m.1, m.2, ()), ())) = _ := hlp;rw[hlp,if_pos];rw[eok] at h;have h:=Classical.not_not.1 h;obtain⟨p,l,r,h1,_,h2⟩:=h;exact hp.2 ⟨p,l,r,h1,h2⟩
def qlt (m:qbs) (k:Nat) (a b:Nat):Bool:=(List.range k).any fun i=>qhu (qd4 m i) (treeOf (qd4 m i)) a b
theorem qqX (m:qbs) (k:Nat) (a b:Nat):qlt m (k+1) a b=(qlt m k a b || qhu (qd4 m k) (treeOf (qd4 m k)) a b):=by
 simp [qlt,List.range_succ,List.any_append]
theorem qpm {m:qbs} {k:Nat} {a b:Nat} (h:∀ i,i<k->qhu (qd4 m i) (treeOf (qd4 m i)) a b=false):qlt m k a b=false:=by
 rw[qlt,List.any_eq_false];intro i hi;rw[h i (List.mem_range.1 hi)]
 decide
theorem qqW {m:qbs} {k i:Nat} {a b:Nat} (hi:i<k) (h:qhu (qd4 m i) (treeOf (qd4 m i)) a b=true):qlt m k a b=true:=by
 rw[qlt,List.any_eq_true];exact⟨i,List.mem_range.2 hi,h⟩
theorem qrQ {m:qbs} (hg:Good m) {n:Nat} (hn:m.1=(n:Int)) (hl:∀ t∈m.2,t.length<=15) (ml:m.2.length<=6) {a b:Nat} (ha:a<n) (hb:b<n) (hab:a≠b) (h64:n<=64) :
   qbz m (a:Int) (b:Int)=some (qlt m m.2.length a b):=by
 rcases qiu (step:=qak) (fun j=>(((a:Int),(b:Int),(j:Int),()),((m.1,m.2,()),()))) m.2.length (fun j=>qhu (qd4 m j) (treeOf (qd4 m j)) a b=false) (fun j=>.inr ((true,()),())) (.inl ((),())) (by omega) (by
    intro j hj;have d0:(j:Int)<(m.2.length:Int):=by omega
    have d1:(0:Int)<=(j:Int):=by omega
    have h6:=qtd hg hn hj (hl _ (gM0 hj)) ha hb hab h64 (j:Int);rw[<- qjB hj] at h6;have ht:m.2[j]?=some (qd4 m j):=by rw[qjB hj];exact gE0 hj
    cases hp:qhu (qd4 m j) (treeOf (qd4 m j)) a b with
    | false =>
     refine .inl ⟨rfl,fun g=>?_⟩;rw[hp,if_neg (by decide)] at h6;rw[qak,cnd d0,cnd d1,tN0,ht,bS0,h6,bS0];dsimp only;rw[qcp (by omega)];rfl
    | true =>
     refine .inr ⟨by decide,fun g=>?_⟩;rw[hp,if_pos rfl] at h6;rw[qak,cnd d0,cnd d1,tN0,ht,bS0,h6,bS0]) (by
    intro g;rw[qak,cnd' (by omega)]) with ⟨h,hlp⟩ | ⟨j,hj,h,hlp⟩
 · have hlp : lp qak K0 (((a : Int), (b : Int), 0, ()), ((m.1, m.2, ()), ())) = _ := hlp;rw[qbz,hlp,bS0,qpm h]
 · have hlp : lp qak K0 (((a : Int), (b : Int), 0, ()), ((m.1, m.2, ()), ())) = _ := hlp;have hp:qhu (qd4 m j) (treeOf (qd4 m j)) a b=true:=by
    cases hq:qhu (qd4 m j) (treeOf (qd4 m j)) a b with
    | true=>rfl
    | false=>exact absurd hq h
   rw[qbz,hlp,bS0,qqW hj hp]
theorem qry (t:List NODE) (a:Nat):∀ (T:TR) (A:List Nat),recP t T A a a=false:=by
 intro T
 induction T with
 | leaf i=>intro A;rfl
 | split i l r ihl ihr =>
  intro A;rw[recP,ihl,ihr,Bool.or_false,Bool.or_false,List.any_eq_false];intro f _;unfold hitB;by_cases e:f=ftN t i
  · simp [e]
  · simp [e];constructor
    · intro q r;exact e (q.symm.trans r)
    · intro q r;exact e (r.symm.trans q)
def qjR (m:qbs) (k:Nat) (a b:Nat):Bool:=if a=b then false else qlt m k a b
theorem qtb {m:qbs} (hg:Good m) {n:Nat} (hn:m.1=(n:Int)) (mt:∀ t∈m.2,t.length<=15):∀ j,j<=m.2.length->qlV (n:Int) (m.2.drop j) (qjR m j)=some (qjR m m.2.length):=by
 intro j
 induction hk:m.2.length-j generalizing j with
 | zero=>intro hj;rw[show j=m.2.length by omega,List.drop_length];rfl
 | succ k ih =>
  intro hj;have hj':j<m.2.length:=by omega
  obtain⟨g1,g2,g3⟩:=hg.treeOf hj';rw[hn] at g1;have ht:=mt _ (gM0 hj');have hm:=qtc (n:=n) R0 (treeOf m.2[j]) g1 (by unfold R0;omega) [] (by unfold R0;decide) (qjR m j);rw[g2] at hm;have hm:qjS (n:Int) m.2[j] R0 0 [] (qjR m j)=_:=hm;rw[List.drop_eq_getElem_cons hj',qlV,hm,bS0];have e:(fun a b=>qjR m j a b || recP m.2[j] (treeOf m.2[j]) [] a b)=qjR m (j+1):=by
   funext a b;unfold qjR;by_cases e:a=b
   · subst e;rw[if_pos rfl,if_pos rfl,qry];rfl
   · rw [if_neg e, if_neg e, quy _ e, qqX, qjB hj'];simp
  rw[e];exact ih (j+1) (by omega) (by omega)
theorem qu7 {m:qbs} (hv:qdE m=some true) (hg:Good m) {n:Nat} (hn:m.1=(n:Int)) (h64:n<=64) (ml:m.2.length<=6) (mt:∀ t∈m.2,t.length<=15):qb3 m=some (grb n (qjR m m.2.length),0):=by
 have h0:=qtb hg hn mt 0 (Nat.zero_le _);have e1:qjR m 0=fun _ _=>false:=by
  funext a b;unfold qjR qlt;split<;>rfl
 rw[e1,List.drop_zero] at h0;rw[qb3,hv,bS0,Bool.not_true,cond_false,hn,decide_eq_true (Int.natCast_nonneg _),decide_eq_true (by omega),decide_eq_true (by omega),Bool.and_self,Bool.and_self,cond_true,h0,bS0,tN0];rfl
theorem qjy (m0:qbs) (hl:m0.2.length<=9223372036854775807) (ht:∀ t∈m0.2,t.length<=9223372036854775807):qbu m0=some true:=by
 have hf:=qtQ m0 hl ht;have ms:=qu2 m0;have mt:=qsl m0;have ml:=qtB m0;obtain⟨m,em⟩:∃ m,m=cutM m0:=⟨_,rfl⟩;rw[<- em] at hf ms mt ml;obtain⟨b,hv,hb⟩:=qvM (m:=m) (by omega) (fun t h=>by have:=mt t h;omega) ms (by decide);rw[qbu,hf,bS0];by_cases h8:m.1>8
 · rw[cnd h8,qf0];rfl
 rw[cnd' h8];cases b with
 | false =>
   have e:qb3 m=some ([],1):=by rw[qb3,hv];rfl
   rw[e,bS0,hv,bS0,Bool.not_false,cond_true,qf0];rfl
 | true =>
   have hg:=hb.1 rfl;obtain⟨n,hn⟩:=Int.eq_ofNat_of_zero_le hg.1.1;have h64:n<=64:=by omega
   have hM:=qu7 hv hg hn h64 ml mt;obtain⟨G,eG⟩:∃ G,G=qjR m m.2.length:=⟨_,rfl⟩;rw[<- eG] at hM;have k1:∀ i,i<n->lp qae K0 ((grb n G,(i:Int),0,()),((m.1,m.2,()),()))=some (.inl ((grb n G,(i:Int),()),((m.1,m.2,()),()))):=by
    intro i hi;refine qpn (step:=qae) (fun k=>((grb n G,(i:Int),(k:Int),()),((m.1,m.2,()),()))) n (by omega) (by
     intro K k hk;have d0:(k:Int)<((grb n G).length:Int):=by rw[qjV];omega
     rw[qae,cnd d0,cnd (by omega),tN0,qr6 _ hi,bS0,cnd (by omega),tN0,qsV _ hk,bS0];have bb:∀ x:Bool,(!(x == x))=false:=by intro x;cases x<;>rfl
     by_cases e:i=k
     · have e2 : G i k = false := by rw [eG, qjR, if_pos e]
       rw[decide_eq_true (show(i:Int)=(k:Int) by omega),Bool.not_true,cond_false,e2,bb,cond_false,qcp (by omega)];rfl
     · have e2 : G i k = qlt m m.2.length i k := by rw [eG, qjR, if_neg e]
       have hm:=qrQ hg hn mt ml hi hk e h64;have hm:qbz (m.1,m.2) (i:Int) (k:Int)=_:=hm;rw[decide_eq_false (show ¬ (i:Int)=(k:Int) by omega),Bool.not_false,cond_true,hm,bS0,e2,bb,cond_false,qcp (by omega)];rfl) (by
     intro K;rw[qae,cnd' (by rw[qjV];omega)])
   have k2:=qpn (step:=qaf) (fun i=>((grb n G,(i:Int),()),((m.1,m.2,()),()))) n (r:=.inl ((),())) (by omega) (by
    intro K i hi;have d0:(i:Int)<((grb n G).length:Int):=by rw[qjV];omega
    rw[qaf,cnd d0,cnd (by omega),tN0,qr6 _ hi,bS0,qsU,qjV,decide_eq_true rfl,Bool.not_true,cond_false,k1 i hi,bS0];dsimp only;rw[qcp (by omega)];rfl) (by
    intro K;rw[qaf,cnd' (by rw[qjV];omega)])
   have k2:lp qaf K0 ((grb n G,0,()),((m.1,m.2,()),()))=_:=k2;rw[hM,bS0,hv,bS0,Bool.not_true,cond_false];dsimp only;rw[show(!decide ((0:Int)=0))=false by decide,cond_false,qjV,decide_eq_true hn.symm,Bool.not_true,cond_false,k2,bS0];dsimp only;rw[qf0];rfl
end Go.Proofs.YtfoedjifcmfogaaDoor.X
