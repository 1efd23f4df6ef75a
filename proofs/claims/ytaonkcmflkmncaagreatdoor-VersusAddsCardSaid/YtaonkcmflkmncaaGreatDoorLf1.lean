/- Own work: part of the proof; the first line of each part says what it tells. -/
import Derived.Test.YtaonkcmflkmncaaGreatDoorLf0
import Derived.Great.BuildSlice


namespace Go.Proofs.YtaonkcmflkmncaaGreatDoor.X
open Go
set_option linter.unusedVariables false
set_option linter.unusedSimpArgs false
variable {T : Told} {P : Program} {tb : Tb}
section
variable {R : Type}
theorem nat_of {x : Int} (h : 0 ≤ x) : ∃ n : Nat, x = n := ⟨x.toNat, (Int.toNat_of_nonneg h).symm⟩
theorem effSlice_sim (hT : TbOk P tb) {hp : Hp} {T' : TypeId} {et : TypeId} {t : Ty} {bb : Nat} (hg : get tb T' = some (.slc et t bb)) {p : PV} {lo hi mx : Option PV} {K : PV → Option R} {out : R} (h : effSlice hp t p lo hi mx K = some out) :
   ∃ pv, K pv = some out ∧ ∀ {T : Told} {B : Base} {w : World} {S : Foot} {β : Con} {s : St} {a : Act} (u : Value) (lo' hi' mx' : Option Value), Rel T B w S β s a → Sub hp s → TRel w S β (get s.h) p u →
     BRel w S β (get s.h) lo lo' → BRel w S β (get s.h) hi hi' → BRel w S β (get s.h) mx mx' →
     ∃ z, (Instr.sliceAt T' u lo' hi' mx').run P w = .ok z w ∧ TRel w S β (get s.h) pv z := by
 obtain ⟨_, hu, he, _⟩ := hT T' _ hg
 unfold effSlice at h
 split at h
 · rename_i l k off len hbl hbh hbm
   split at h
   · rename_i n hn
     obtain ⟨t', xs, m, hk, rfl⟩ := lenOf_osl hn
     rw [hk] at h
     simp only at h
     split at h
     · rename_i het
       subst het
       have hb := bif_some h
       clear h
       obtain ⟨h0, h⟩ := hb
       simp only [Bool.and_eq_true, decide_eq_true_eq] at h0
       obtain ⟨h0, h1⟩ := h0
       obtain ⟨ln, hln⟩ := nat_of h0
       have hln' : (l.getD 0).toNat = ln := by omega
       refine ⟨_, h, fun {T B w S β s a} u lo' hi' mx' R hs hu' h4 h5 h6 => ?_⟩
       obtain ⟨hw, h2⟩ := osl_val R (hs k _ hk) hu'
       have hval : ∃ A cap, u = .slice A (wlen xs off len) cap ∧ wlen xs off len ≤ cap := by
         rcases h2 with ⟨_, _, h3, rfl⟩ | ⟨b, o, x, cap, hb, rfl, hcap, _⟩
         · exact ⟨none, 0, by rw [h3], by omega⟩
         · exact ⟨_, cap, rfl, hcap⟩
       obtain ⟨A, cap, rfl, hcap⟩ := hval
       refine ⟨_, run_sliceAt_gen hu he A _ cap lo' hi' mx' l none none (h4.bnd hbl) (h5.bnd hbh) (h6.bnd hbm) (fun h => absurd rfl h) h0 (by simpa using h1) (by simpa using hcap) (by simp) w, ?_⟩
       simp only [Option.getD_none, Int.toNat_natCast, hln', pl_eq]
       refine osl_sliced R (hs k _ hk) hu' (u := wlen xs off len) (mm := cap) (by omega) hcap (Nat.le_refl _) (Nat.le_refl _) ?_ ?_
       · cases len with
         | none => simp [wlen]; omega
         | some c => simp only [wlen] at *; omega
       · have := winOk_len hw
         cases len with
         | none => simp only [winOk, wlen] at *; omega
         | some c => simp only [winOk, wlen] at *; omega
     · cases h
   · cases h
 · rename_i l uu m k off len hbl hbh hbm
   split at h
   · rename_i n hn
     obtain ⟨t', xs, md, hk, rfl⟩ := lenOf_osl hn
     rw [hk] at h
     simp only at h
     split at h
     · rename_i het
       subst het
       have hb := bif_some h
       clear h
       obtain ⟨h0, h⟩ := hb
       simp only [Bool.and_eq_true, decide_eq_true_eq] at h0
       obtain ⟨⟨⟨h0, h1⟩, h2⟩, h3⟩ := h0
       obtain ⟨ln, hln⟩ := nat_of h0
       obtain ⟨un, rfl⟩ := nat_of (Int.le_trans h0 h1)
       have hln' : (l.getD 0).toNat = ln := by omega
       refine ⟨_, h, fun {T B w S β s a} u lo' hi' mx' R hs hu' h4 h5 h6 => ?_⟩
       obtain ⟨hw, hv2⟩ := osl_val R (hs k _ hk) hu'
       have hval : ∃ A cap, u = .slice A (wlen xs off len) cap ∧ wlen xs off len ≤ cap := by
         rcases hv2 with ⟨_, _, h3, rfl⟩ | ⟨b, o, x, cap, hb, rfl, hcap, _⟩
         · exact ⟨none, 0, by rw [h3], by omega⟩
         · exact ⟨_, cap, rfl, hcap⟩
       obtain ⟨A, cap, rfl, hcap⟩ := hval
       have hmc : ∃ mn : Nat, m.getD cap = mn ∧ un ≤ mn ∧ mn ≤ cap := by
         cases m with
         | none => exact ⟨cap, rfl, by simp at h2 h3; omega, Nat.le_refl _⟩
         | some mi =>
           simp only [Option.getD_some] at h2 h3 ⊢
           obtain ⟨mn, rfl⟩ := nat_of (Int.le_trans (Int.le_trans h0 h1) h2)
           exact ⟨mn, rfl, by omega, by omega⟩
       obtain ⟨mn, hmn, hm1, hm2⟩ := hmc
       have hun : un ≤ wlen xs off len := by
         cases m with
         | none => simp at h3; omega
         | some mi => simp at h2 h3; omega
       refine ⟨_, run_sliceAt_gen hu he A _ cap lo' hi' mx' l (some (un : Int)) m (h4.bnd hbl) (h5.bnd hbh) (h6.bnd hbm) (fun _ => by simp) h0 (by simpa using h1) (by rw [hmn]; simp; omega) (by rw [hmn]; omega) w, ?_⟩
       simp only [Option.getD_some, hmn, Int.toNat_natCast, hln', pl_eq]
       refine osl_sliced R (hs k _ hk) hu' (by omega) hm1 hm2 hun ?_ ?_
       · simp [wlen]; omega
       · have := winOk_len hw
         simp only [winOk]; omega
     · cases h
   · cases h
 · rename_i uu e xs hbl hbh hbm
   split at h
   · rename_i het
     subst het
     have hb := bif_some h
     clear h
     obtain ⟨h0, h⟩ := hb
     simp only [Bool.and_eq_true, decide_eq_true_eq] at h0
     obtain ⟨h0, h1⟩ := h0
     obtain ⟨un, rfl⟩ := nat_of h0
     refine ⟨_, h, fun {T B w S β s a} u lo' hi' mx' R hs hu' h4 h5 h6 => ?_⟩
     obtain ⟨A, cap, rfl, hc, hr⟩ := cell_sl hu'
     refine ⟨_, run_sliceAt_gen hu he A _ cap lo' hi' mx' none (some (un : Int)) none (h4.bnd hbl) (h5.bnd hbh) (h6.bnd hbm) (fun _ => by simp) (by simp) (by simp) (by simp; omega) (by simp) w, ?_⟩
     have := val_sliced (w := w) (S := S) (β := β) (g := get s.h) (l := 0) (u := un) (mm := cap) hr (by omega) (by omega) (Nat.le_refl _) (by omega)
     simpa using this
   · cases h
 · rename_i uu m e xs hbl hbh hbm
   split at h
   · rename_i het
     subst het
     have hb := bif_some h
     clear h
     obtain ⟨h0, h⟩ := hb
     simp only [Bool.and_eq_true, decide_eq_true_eq] at h0
     obtain ⟨⟨h0, h1⟩, h2⟩ := h0
     obtain ⟨un, rfl⟩ := nat_of h0
     obtain ⟨mn, rfl⟩ := nat_of (Int.le_trans h0 h1)
     refine ⟨_, h, fun {T B w S β s a} u lo' hi' mx' R hs hu' h4 h5 h6 => ?_⟩
     obtain ⟨A, cap, rfl, hc, hr⟩ := cell_sl hu'
     refine ⟨_, run_sliceAt_gen hu he A _ cap lo' hi' mx' none (some (un : Int)) (some (mn : Int)) (h4.bnd hbl) (h5.bnd hbh) (h6.bnd hbm) (fun _ => by simp) (by simp) (by simp) (by simp; omega) (by simp; omega) w, ?_⟩
     have := val_sliced (w := w) (S := S) (β := β) (g := get s.h) (l := 0) (u := un) (mm := mn) (cap := cap) hr (by omega) (by omega) (by omega) (by omega)
     simpa using this
   · cases h
 · rename_i l e xs hbl hbh hbm
   split at h
   · rename_i het
     subst het
     have hb := bif_some h
     clear h
     obtain ⟨h0, h⟩ := hb
     simp only [Bool.and_eq_true, decide_eq_true_eq] at h0
     obtain ⟨h0, h1⟩ := h0
     obtain ⟨ln, rfl⟩ := nat_of h0
     refine ⟨_, h, fun {T B w S β s a} u lo' hi' mx' R hs hu' h4 h5 h6 => ?_⟩
     obtain ⟨A, cap, rfl, hc, hr⟩ := cell_sl hu'
     refine ⟨_, run_sliceAt_gen hu he A _ cap lo' hi' mx' (some (ln : Int)) none none (h4.bnd hbl) (h5.bnd hbh) (h6.bnd hbm) (fun h => absurd rfl h) (by simp) (by simpa using h1) (by simp; omega) (by simp) w, ?_⟩
     have := val_sliced (w := w) (S := S) (β := β) (g := get s.h) (l := ln) (u := xs.length) (mm := cap) hr (by omega) (by omega) (Nat.le_refl _) (Nat.le_refl _)
     simpa using this
   · cases h
 · rename_i l uu e xs hbl hbh hbm
   split at h
   · rename_i het
     subst het
     have hb := bif_some h
     clear h
     obtain ⟨h0, h⟩ := hb
     simp only [Bool.and_eq_true, decide_eq_true_eq] at h0
     obtain ⟨⟨h0, h1⟩, h2⟩ := h0
     obtain ⟨ln, rfl⟩ := nat_of h0
     obtain ⟨un, rfl⟩ := nat_of (Int.le_trans h0 h1)
     refine ⟨_, h, fun {T B w S β s a} u lo' hi' mx' R hs hu' h4 h5 h6 => ?_⟩
     obtain ⟨A, cap, rfl, hc, hr⟩ := cell_sl hu'
     refine ⟨_, run_sliceAt_gen hu he A _ cap lo' hi' mx' (some (ln : Int)) (some (un : Int)) none (h4.bnd hbl) (h5.bnd hbh) (h6.bnd hbm) (fun _ => by simp) (by simp) (by simpa using h1) (by simp; omega) (by simp) w, ?_⟩
     have := val_sliced (w := w) (S := S) (β := β) (g := get s.h) (l := ln) (u := un) (mm := cap) hr (by omega) (by omega) (Nat.le_refl _) (by omega)
     simpa using this
   · cases h
 · cases h
end
variable {T : Told} {P : Program} {tb : Tb}
theorem foldl_set (off : Nat) : ∀ (vs : List Value) (k : Nat) (c : Array Value), off + k + vs.length ≤ c.size →
  (vs.zipIdx k).foldl (fun cs p => cs.setIfInBounds (off + p.2) p.1) c = splice c (off + k) vs := by
 intro vs
 induction vs with
 | nil => intro k c h; simp [splice]
 | cons v vs ih =>
  intro k c h
  simp only [List.length_cons] at h
  simp only [List.zipIdx_cons, List.foldl_cons]
  rw [ih (k + 1) _ (by simp; omega)]
  apply Array.ext
  · rw [splice_size (by simp; omega), splice_size (by simp; omega)]; simp
  · intro j h1 h2
    rw [splice_size (by simp; omega)] at h1
    have e1 : (splice (c.setIfInBounds (off + k) v) (off + (k + 1)) vs)[j]? = (splice c (off + k) (v :: vs))[j]? := by
     by_cases hj : j < off + k
     · rw [splice_out (by simp; omega) (.inl (by omega)), splice_out (by simp; omega) (.inl hj), Array.getElem?_setIfInBounds_ne (by omega)]
     · by_cases hj2 : j = off + k
       · subst hj2
         rw [splice_out (by simp; omega) (.inl (by omega))]
         have := splice_in (c := c) (o := off + k) (vs := v :: vs) (by simp; omega) (j := 0) (by simp)
         rw [Nat.add_zero] at this
         rw [this, Array.getElem?_setIfInBounds_self_of_lt (by omega)]; rfl
       · by_cases hj3 : j < off + k + 1 + vs.length
         · have a1 := splice_in (c := c.setIfInBounds (off + k) v) (o := off + (k + 1)) (vs := vs) (by simp; omega) (j := j - (off + (k + 1))) (by omega)
           have a2 := splice_in (c := c) (o := off + k) (vs := v :: vs) (by simp; omega) (j := j - (off + k)) (by simp; omega)
           rw [show off + (k + 1) + (j - (off + (k + 1))) = j by omega] at a1
           rw [show off + k + (j - (off + k)) = j by omega] at a2
           rw [a1, a2, show j - (off + k) = (j - (off + (k + 1))) + 1 by omega]; rfl
         · rw [splice_out (by simp; omega) (.inr (by omega)), splice_out (by simp; omega) (.inr (by simp; omega)), Array.getElem?_setIfInBounds_ne (by omega)]
    rw [Array.getElem?_eq_getElem (by rw [splice_size (by simp; omega)]; exact h1), Array.getElem?_eq_getElem h2] at e1
    injection e1
theorem zip_splice (c : Array Value) (off : Nat) (v : Array Value) (h : off + v.size ≤ c.size) :
  v.zipIdx.foldl (fun cs p => cs.setIfInBounds (off + p.2) p.1) c = splice c off v.toList := by
 rw [← Array.foldl_toList, Array.toList_zipIdx]
 exact foldl_set off v.toList 0 c (by simpa using h)
section
variable {R : Type} {B : Base} {w : World} {S : Foot} {β : Con} {s : St} {a : Act} {g : Hp}
theorem All2.setCells {l : List PV} {c : Array Value} {off : Nat} {v : List PV} {vs : List Value} (h : All2 (TRel0 w S β g) l c.toList) (hv : All2 (TRel0 w S β g) v vs) :
  All2 (TRel0 w S β g) (setCells l off v) (splice c off vs).toList := by
 simp only [X.setCells, splice]
 rw [hv.length]
 simpa using ((h.take off).append hv).append (h.drop (off + vs.length))
theorem TRel.cells {pv : PV} {u : Value} (h : TRel w S β g pv u) (hn : noAgg pv.cells = true) : ∃ vs : List Value, u.cells = vs.toArray ∧ All2 (TRel0 w S β g) pv.cells vs ∧ (∀ v ∈ vs, v.oneCell' = true) := by
 have nj : ∀ l : List PV, noAgg l = true → ∀ p ∈ l, p ≠ .junk := by
  intro l
  induction l with
  | nil => intro _ p hp; simp at hp
  | cons x l ih => intro hl p hp; cases x <;> simp [noAgg] at hl <;> (rcases List.mem_cons.1 hp with rfl | hp; simp; exact ih hl p hp)
 have one : ∀ {p : PV}, TRel0 w S β g p u → p ≠ .junk → ∃ vs : List Value, u.cells = vs.toArray ∧ All2 (TRel0 w S β g) [p] vs ∧ (∀ v ∈ vs, v.oneCell' = true) := by
  intro p hp hj
  have h1 := hp.one hj
  refine ⟨[u], ?_, ⟨hp, trivial⟩, by simpa using h1⟩
  cases u <;> first | rfl | (simp [Value.oneCell'] at h1)
 cases pv with
 | agg l =>
  obtain ⟨vs, rfl, hl⟩ := h
  refine ⟨vs, rfl, hl, fun v hv => ?_⟩
  obtain ⟨p, hp, hr⟩ := hl.mem_right v hv
  exact hr.one (nj l hn p hp)
 | tup l => simp [PV.cells, noAgg] at hn
 | clo f l => simp [PV.cells, noAgg] at hn
 | junk => simp [PV.cells, noAgg] at hn
 | val t x => exact one (p := .val t x) h (by simp)
 | nil => exact one (p := .nil) h (by simp)
 | nilp => exact one (p := .nilp) h (by simp)
 | iptr t x off => exact one (p := .iptr t x off) h (by simp)
 | osl k off len => exact one (p := .osl k off len) h (by simp)
 | ptr k i off => exact one (p := .ptr k i off) h (by simp)
theorem zcells_rel (w : World) (S : Foot) (β : Con) (g : Hp) (t : Ty) : All2 (TRel0 w S β g) (zcells t) (zvals t) := by
 have aux : ∀ t : Ty, All2 (TRel0 w S β g) ((t.split t.zero).map fun v => match v with | .val (.sl _) _ => .nil | .val (.os _) _ => .nil | .val (.op _) _ => .nilp | v => v) (zvals t) := by
  intro t
  induction t with
  | pair a b iha ihb =>
   simp only [Ty.split, Ty.zero, zvals, List.map_append]
   exact iha.append ihb
  | int k => exact ⟨rfl, trivial⟩
  | bool => exact ⟨rfl, trivial⟩
  | str | os _ _ | op _ _ => exact ⟨rfl, trivial⟩
  | unit => trivial
  | sl e ih => exact ⟨rfl, trivial⟩
 exact aux t
def PartsRel (w : World) (S : Foot) (β : Con) (g : Hp) : List (Nat × PV) → List (Nat × Value) → Prop := All2 fun p v => p.1 = v.1 ∧ TRel w S β g p.2 v.2
theorem places_ok (hT : TbOk P tb) : ∀ (fields : List Field) (fs : List (Nat × TypeId)), fields.map (fun f => (f.offset, f.type)) = fs → (∀ off T', (off, T') ∈ fs → ∃ t', tb.ty T' = some t') →
  ∃ places : List (Nat × Nat), fields.mapM (fun f => (P.info? f.type).map fun i => (f.offset, i.size)) = some places ∧
   ∀ (i off : Nat) (T' : TypeId) (t' : Ty), fs[i]? = some (off, T') → tb.ty T' = some t' → places[i]? = some (off, t'.size) := by
 intro fields
 induction fields with
 | nil => intro fs h _; subst h; exact ⟨[], rfl, by simp⟩
 | cons f fields ih =>
  intro fs h hs
  subst h
  simp only [List.map_cons] at hs
  obtain ⟨t', ht'⟩ := hs f.offset f.type (by simp)
  obtain ⟨i, z, h1, h2, _⟩ := (hT.ty ht').info
  obtain ⟨places, h3, h4⟩ := ih _ rfl (fun off T' hm => hs off T' (List.mem_cons_of_mem _ hm))
  refine ⟨(f.offset, i.size) :: places, by simp [List.mapM_cons, h1, h3], ?_⟩
  intro j off T' t2 hj ht2
  cases j with
  | zero => simp at hj; obtain ⟨rfl, rfl⟩ := hj; rw [ht'] at ht2; injection ht2 with ht2; subst ht2; simp [h2]
  | succ j => simp at hj; simpa using h4 j off T' t2 (by simpa using hj) ht2
theorem buildGo_sim {fs : List (Nat × TypeId)} {places : List (Nat × Nat)} (hp : ∀ (i off : Nat) (T' : TypeId) (t' : Ty), fs[i]? = some (off, T') → tb.ty T' = some t' → places[i]? = some (off, t'.size)) :
  ∀ {parts : List (Nat × PV)} {l l' : List PV} {c : Array Value} {ps : List (Nat × Value)}, buildGo tb fs l parts = some l' → All2 (TRel0 w S β g) l c.toList → PartsRel w S β g parts ps →
   ∃ c' : Array Value, Instr.fill (places.toArray[·]?) c ps = some c' ∧ All2 (TRel0 w S β g) l' c'.toList := by
 intro parts
 induction parts with
 | nil =>
  intro l l' c ps h hl hps
  cases ps with
  | nil => simp [buildGo] at h; subst h; exact ⟨c, rfl, hl⟩
  | cons _ _ => exact hps.elim
 | cons p parts ih =>
  intro l l' c ps h hl hps
  obtain ⟨f, v⟩ := p
  cases ps with
  | nil => exact hps.elim
  | cons q ps =>
   obtain ⟨f', u⟩ := q
   obtain ⟨⟨hf, hv⟩, hps⟩ := hps
   simp only at hf hv
   subst hf
   simp only [buildGo] at h
   split at h
   · rename_i off T' hfs
     split at h
     · rename_i t' ht'
       obtain ⟨hc, h⟩ := bif_some h
       simp only [Bool.and_eq_true] at hc
       obtain ⟨⟨hc1, hc2⟩, hc3⟩ := hc
       have hc1 := Nat.eq_of_beq_eq_true hc1
       have hc3 := Nat.le_of_ble_eq_true hc3
       obtain ⟨vs, hu, hvs, _⟩ := hv.cells hc2
       have hlen : vs.length = t'.size := by rw [← hvs.length]; exact hc1
       have hcl : off + vs.length ≤ c.size := by have := hl.length; simp at this; omega
       obtain ⟨c', h1, h2⟩ := ih h (hl.setCells hvs) hps
       refine ⟨c', ?_, h2⟩
       simp only [Instr.fill, List.getElem?_toArray, hp _ _ _ _ hfs ht']
       rw [hu]
       simp only [List.size_toArray, hlen]
       rw [if_neg (by simp; omega)]
       have := zip_splice c off vs.toArray (by simpa using hcl)
       rw [this]; simpa using h1
     · cases h
   · cases h
theorem effBuild_sim (hT : TbOk P tb) {T' : TypeId} {parts : List (Nat × PV)} {K : PV → Option R} {out : R} (h : effBuild tb T' parts K = some out) :
   ∃ pv, K pv = some out ∧ ∀ (w : World) (S : Foot) (β : Con) (g : Hp) (ps : List (Nat × Value)), PartsRel w S β g parts ps →
     ∃ z, (Instr.build T' ps.toArray).run P w = .ok z w ∧ TRel w S β g pv z := by
 unfold effBuild at h
 split at h
 · rename_i t fs q hg
   split at h
   · rename_i l hl
     refine ⟨_, h, fun w S β g ps hps => ?_⟩
     obtain ⟨hty, hag, fields, hu, hfs, hsz, _⟩ := hT T' _ hg
     obtain ⟨i, z, h1, h2, h3, h4⟩ := hty.info
     obtain ⟨places, hpl, hp⟩ := places_ok hT fields.toList fs hfs hsz
     obtain ⟨c', e1, e2⟩ := buildGo_sim (w := w) (S := S) (β := β) (g := g) (c := z.cells) hp hl (by rw [h4]; exact zcells_rel w S β g t) hps
     refine ⟨.agg c', run_build w T' ps.toArray c' ?_, c'.toList, by simp, e2⟩
     simp only [Program.built, h1, hu, h3, hpl]
     simpa using e1
   · cases h
 · cases h
end
variable {T : Told} {P : Program} {tb : Tb}
theorem alloc_old {w : World} {o : Obj} {b : Nat} (h : b < w.heap.size) : (w.alloc o).heap[b]? = w.heap[b]? := heap_alloc_old w o h
theorem alloc_blk (w : World) (c : Array Value) (e : TypeId) : Blk (w.alloc (.cells c e)) w.heap.size c := ⟨e, heap_alloc_new w _⟩
section
variable {B : Base} {w w' : World} {S : Foot} {β : Con} {s : St} {a : Act}
theorem PB_dst {B : Base} {o : Oper} {d : Nat} (h : dstOk B.nt o.dst = true) (hd : o.dst = some d) {j : Nat} (hj : j < 8) : B.PB (d * 8 + j) = none := by
 rw [hd] at h
 have h : Nat.blt d B.nt = true := h
 have : d < B.nt := Nat.blt_eq ▸ h
 exact Base.PB_low (by omega)
theorem Rel.newBox (R : Rel T B w S β s a) {k : Nat} (hk : get s.h k = none) (hpb : B.PB k = none) {l : List PV} {vs : List Value} (hl : All2 (TRel0 w S β (get s.h)) l vs) (e : TypeId) :
  Rel T B (w.alloc (.cells vs.toArray e)) S (fun k' => if k' = k then some (w.heap.size, 0) else β k') ⟨s.e, (k, .box l) :: s.h⟩ a :=
 R.new (calm_alloc w _ e) hk (.inr rfl) (fun b hb => alloc_old hb) (by simp) (by simp) (fun _ => hpb) (by simp) fun E =>
  ⟨w.heap.size, vs.toArray, by simp, alloc_blk w _ e, by simpa using hl.imp fun _ _ h => h.evo E, fun h => Nat.lt_irrefl _ (R.Slt _ h), .inl R.grow⟩
theorem Rel.newRows (R : Rel T B w S β s a) (h0 : Calm w w') {k : Nat} (hk : get s.h k = none) {t : Ty} {xs : List t.den} {c : Array Value} (h1 : ∀ b, b < w.heap.size → w'.heap[b]? = w.heap[b]?) (hg : w.heap.size ≤ w'.heap.size)
  (hc : Blk w' w.heap.size c) (hs : xs.length * t.size ≤ c.size) (hr : RowAt (Cell w S t) t.size w' w.heap.size 0 xs) (hfl : t.flat = true) :
  Rel T B w' S (fun k' => if k' = k then some (w.heap.size, 0) else β k') ⟨s.e, (k, .rows t xs .own) :: s.h⟩ a :=
 R.new h0 hk (.inr rfl) h1 hg (by simp) (by simp) (fun t' xs' e => by injection e with e1; subst e1; exact .inl hfl) fun E => by
  simp only [ORel, if_true]
  refine ⟨⟨c, hc, by simpa using hs⟩, fun i x hx => ?_, by simp, fun _ => ⟨fun h => Nat.lt_irrefl _ (R.Slt _ h), .inl R.grow⟩, fun _ => trivial⟩
  obtain ⟨ds, e1, e2⟩ := hr i x hx
  exact ⟨ds, e1.mono E.sub E.keep, e2⟩
theorem Rel.newNil (R : Rel T B w S β s a) {k : Nat} (hk : get s.h k = none) (t : Ty) :
  Rel T B w S (fun k' => if k' = k then none else β k') ⟨s.e, (k, .rows t [] .own) :: s.h⟩ a :=
 R.new (Calm.refl w) hk (.inl rfl) (fun _ _ => rfl) (Nat.le_refl _) (by simp) (by simp) (fun t' xs' e => by injection e with e1 e2; subst e1; exact .inr (eq_of_heq e2).symm) fun E => by
  simp [ORel]
theorem osl_new {w' : World} {S : Foot} {β : Con} {g : Hp} {k b : Nat} {t : Ty} {xs : List t.den} {cap : Nat} {c : Array Value} (hg : g k = some (.rows t xs .own)) (hb : β k = some (b, 0)) (hc : Blk w' b c) (hl : xs.length ≤ cap) (hs : cap * t.size ≤ c.size) :
  TRel w' S β g (.osl k 0 none) (.slice (some ⟨b, 0, none⟩) xs.length cap) := by
 have : TRel0 w' S β g (.osl k 0 none) (.slice (some ⟨b, 0, none⟩) xs.length cap) := by
  simp only [TRel0, hg]
  refine ⟨by simp [winOk], ?_⟩
  simp only [OslV, hb]
  exact ⟨0, cap, by simp [wlen], by simpa [wlen] using hl, .inr (by simp), fun _ => ⟨c, hc, by simpa using hs⟩⟩
 exact this.up
theorem osl_nil {w' : World} {S : Foot} {β : Con} {g : Hp} {k : Nat} {t : Ty} (hg : g k = some (.rows t [] .own)) (hb : β k = none) : TRel w' S β g (.osl k 0 none) (.slice none 0 0) := by
 have : TRel0 w' S β g (.osl k 0 none) (.slice none 0 0) := by
  simp only [TRel0, hg]
  exact ⟨by simp [winOk], by simp [OslV, hb, wlen]⟩
 exact this.up
theorem rows_cells {w : World} {S : Foot} {t : Ty} : ∀ {xs : List t.den} {b o : Nat}, RowAt (Cell w S t) t.size w b o xs → ∃ cs : List Value, cs.length = xs.length * t.size ∧ At w b o cs ∧ (∀ v ∈ cs, v.oneCell' = true) ∧
  ∀ i x, xs[i]? = some x → Cell w S t x ((cs.drop (i * t.size)).take t.size) := by
 intro xs
 induction xs with
 | nil => intro b o _; exact ⟨[], by simp, fun j v h => by simp at h, by simp, by simp⟩
 | cons x xs ih =>
  intro b o h
  obtain ⟨ds, e1, e2⟩ := h 0 x rfl
  have e2 : At w b o ds := by simpa using e2
  obtain ⟨cs, f1, f2, f3, f4⟩ := ih (b := b) (o := o + t.size) (fun i y hy => by
    obtain ⟨ds', g1, g2⟩ := h (i + 1) y (by simpa using hy)
    refine ⟨ds', g1, ?_⟩
    rw [Nat.add_mul, Nat.one_mul, Nat.add_comm (i * t.size), ← Nat.add_assoc] at g2
    exact g2)
  have hl := e1.length
  refine ⟨ds ++ cs, by simp [hl, f1, Nat.add_mul]; omega, fun j v hv => ?_, ?_, ?_⟩
  · by_cases hj : j < ds.length
    · rw [List.getElem?_append_left hj] at hv; exact e2 j v hv
    · rw [List.getElem?_append_right (by omega)] at hv
      have := f2 _ v hv
      rw [hl] at this hj
      rwa [show o + t.size + (j - t.size) = o + j by omega] at this
  · intro v hv
    rcases List.mem_append.1 hv with hv | hv
    · exact e1.one v hv
    · exact f3 v hv
  · intro i y hy
    cases i with
    | zero =>
      simp at hy; subst hy
      simpa [← hl] using e1
    | succ i =>
      have := f4 i y (by simpa using hy)
      rw [Nat.add_mul, Nat.one_mul, Nat.add_comm, ← hl, List.drop_append]
      rw [hl, List.drop_eq_nil_of_le (by omega), List.nil_append, show t.size + i * t.size - t.size = i * t.size by omega]
      exact this
theorem rowAt_of_cells {w w' : World} {S : Foot} {t : Ty} {xs : List t.den} {cs : List Value} {b o : Nat} (hcell : ∀ i x, xs[i]? = some x → Cell w S t x ((cs.drop (i * t.size)).take t.size)) (hat : At w' b o cs) :
 RowAt (Cell w S t) t.size w' b o xs := fun i x hx => ⟨_, hcell i x hx, by have := hat.part (off := i * t.size) (n := t.size); exact this⟩
theorem at_toList {w : World} {b : Nat} {c : Array Value} (hc : Blk w b c) {cs : List Value} (h : ∀ (j : Nat) (v : Value), cs[j]? = some v → c[j]? = some v) : At w b 0 cs := fun j v hv => by
 rw [Nat.zero_add, hc.cell]; exact h j v hv
end
theorem box_sim (hT : TbOk P tb) {o : Oper} {s : St} {T' : TypeId} {x : Operand} {d : Nat} {t : Ty} {hp : Hp} {ef : Eff} (ho : o.op = .box T' x) (hd : o.dst = some d) (ht : tb.ty T' = some t)
  (hn : noAgg (s.pv x).cells = true) (hk : get s.h (d * 8) = none) (hef : ef = ⟨some (.ptr (d * 8) 0 0), [(d * 8, .box (s.pv x).cells)]⟩) : OpSim T P o s ef := by
 intro B w S β a R hdo next Q hnx
 subst hef
 obtain ⟨vs, e1, e2, e3⟩ := (eval_tmp R x).cells hn
 unfold Oper.wp execOp
 simp only [ho, Instr.box, newVar, newRow, Sem.run_bind, run_newObj, Result.andThen_ok, Sem.run_pure, e1]
 refine hnx _ _ _ _ (Rel.app (ef := ⟨some (.ptr (d * 8) 0 0), [(d * 8, .box (s.pv x).cells)]⟩) (R.newBox hk (PB_dst hdo hd (j := 0) (by decide)) e2 T') hdo fun pv hpv => ?_)
 injection hpv with hpv
 subst hpv
 have : TRel0 (w.alloc (.cells vs.toArray T')) S (fun k' => if k' = d * 8 then some (w.heap.size, 0) else β k') (get ([(d * 8, .box (s.pv x).cells)] ++ s.h)) (.ptr (d * 8) 0 0) (.pointer (some ⟨w.heap.size, 0, none⟩)) := by
  simp only [TRel0, List.singleton_append, get_cons, if_true]
  exact ⟨_, _, rfl, by simp [Ob.sz]⟩
 exact this.up
theorem alloc_sim (hT : TbOk P tb) {o : Oper} {s : St} {T' : TypeId} {d : Nat} {t : Ty} {ef : Eff} (ho : o.op = .alloc T') (hd : o.dst = some d) (ht : tb.ty T' = some t)
  (hk : get s.h (d * 8) = none) (hef : ef = ⟨some (.ptr (d * 8) 0 0), [(d * 8, .box (zcells t))]⟩) : OpSim T P o s ef := by
 intro B w S β a R hdo next Q hnx
 subst hef
 obtain ⟨z, hz, hzc⟩ := run_zeroValue (hT.ty ht)
 have hzc' : z.cells = (zvals t).toArray := by rw [← hzc]
 unfold Oper.wp execOp
 simp only [ho, Instr.alloc, newVar, newRow, Sem.run_bind, hz, run_newObj, Result.andThen_ok, Sem.run_pure, hzc']
 refine hnx _ _ _ _ (Rel.app (ef := ⟨some (.ptr (d * 8) 0 0), [(d * 8, .box (zcells t))]⟩) (R.newBox hk (PB_dst hdo hd (j := 0) (by decide)) (zcells_rel w S β (get s.h) t) T') hdo fun pv hpv => ?_)
 injection hpv with hpv
 subst hpv
 have : TRel0 (w.alloc (.cells (zvals t).toArray T')) S (fun k' => if k' = d * 8 then some (w.heap.size, 0) else β k') (get ([(d * 8, .box (zcells t))] ++ s.h)) (.ptr (d * 8) 0 0) (.pointer (some ⟨w.heap.size, 0, none⟩)) := by
  simp only [TRel0, List.singleton_append, get_cons, if_true]
  exact ⟨_, _, rfl, by simp [Ob.sz]⟩
 exact this.up
theorem set_getElem {α : Type} {xs : List α} {i j : Nat} {y x : α} (h : (xs.set i y)[j]? = some x) : (i = j ∧ x = y ∧ j < xs.length) ∨ (i ≠ j ∧ xs[j]? = some x) := by
 rw [List.getElem?_set] at h
 split at h
 · rename_i e
   split at h
   · injection h with h; exact .inl ⟨e, h.symm, by omega⟩
   · cases h
 · rename_i e; exact .inr ⟨e, h⟩
theorem litRow_ok {w : World} {S : Foot} {β : Con} {g : Hp} {S1 : Foot} {hp : Hp} {e : Ty} (hsz : 0 < e.size) {all : List Nat}
  (hdec : ∀ (pvs : List PV) (vs : List Value) (x : e.den), (∀ k ∈ keysOf pvs, k ∈ all) → All2 (TRel0 w S β g) pvs vs → decA hp e pvs = some x → Cell w S1 e x vs) :
  ∀ (parts : List (Nat × PV)) (ps : List (Nat × Value)) (xs ys : List e.den) (c : Array Value), litRow hp e xs parts = some ys → (∀ k ∈ partKeys parts, k ∈ all) → PartsRel w S β g parts ps →
   c.size = xs.length * e.size → (∀ (i : Nat) x, xs[i]? = some x → Cell w S1 e x ((c.toList.drop (i * e.size)).take e.size)) →
   ∃ c' : Array Value, Instr.fill (fun i => some (i * e.size, e.size)) c ps = some c' ∧ c'.size = ys.length * e.size ∧ ys.length = xs.length ∧ ∀ (i : Nat) x, ys[i]? = some x → Cell w S1 e x ((c'.toList.drop (i * e.size)).take e.size) := by
 intro parts
 induction parts with
 | nil =>
  intro ps xs ys c h _ hps hc hx
  cases ps with
  | nil => simp [litRow] at h; subst h; exact ⟨c, rfl, hc, rfl, hx⟩
  | cons _ _ => exact hps.elim
 | cons p parts ih =>
  intro ps xs ys c h hk hps hc hx
  obtain ⟨f, v⟩ := p
  cases ps with
  | nil => exact hps.elim
  | cons q ps =>
   obtain ⟨f', u⟩ := q
   obtain ⟨⟨hf, hv⟩, hps⟩ := hps
   simp only at hf hv
   subst hf
   simp only [litRow] at h
   split at h
   · rename_i y hy
     have hb := bif_some h
     clear h
     obtain ⟨hlt, h⟩ := hb
     simp only [Bool.and_eq_true] at hlt
     obtain ⟨hna, hlt⟩ := hlt
     have hlt : f < xs.length := Nat.le_of_ble_eq_true hlt
     obtain ⟨vs, hu, hvs, _⟩ := hv.cells hna
     have hcell : Cell w S1 e y vs := hdec v.cells vs y (fun k hk' => hk k (by simp [partKeys, hk'])) hvs hy
     have hl := hcell.length
     have hfit : f * e.size + vs.length ≤ c.size := by
      rw [hc, hl, ← Nat.succ_mul]; exact Nat.mul_le_mul_right _ hlt
     obtain ⟨c', h1, h2, h3, h4⟩ := ih ps (xs.set f y) ys (splice c (f * e.size) vs) h (fun k hk' => hk k (by simp [partKeys, hk'])) hps (by rw [splice_size hfit, hc]; simp) (fun i x hix => by
      rcases set_getElem hix with ⟨rfl, rfl, _⟩ | ⟨hne, hix⟩
      · have : ((splice c (f * e.size) vs).toList.drop (f * e.size)).take e.size = vs := by
         apply List.ext_getElem?
         intro j
         rw [List.getElem?_take, List.getElem?_drop, Array.getElem?_toList]
         split
         · rename_i hj
           exact splice_in hfit (by omega)
         · rw [List.getElem?_eq_none (by omega)]
        rw [this]; exact hcell
      · have : ((splice c (f * e.size) vs).toList.drop (i * e.size)).take e.size = (c.toList.drop (i * e.size)).take e.size := by
         apply List.ext_getElem?
         intro j
         rw [List.getElem?_take, List.getElem?_take, List.getElem?_drop, List.getElem?_drop, Array.getElem?_toList, Array.getElem?_toList]
         split
         · rename_i hj
           refine splice_out hfit ?_
           rw [hl]
           rcases Nat.lt_or_gt_of_ne hne with hlt | hgt
           · right
             have := Nat.mul_le_mul_right e.size (show f + 1 ≤ i from hlt)
             rw [Nat.add_mul, Nat.one_mul] at this; omega
           · left
             have := Nat.mul_le_mul_right e.size (show i + 1 ≤ f from hgt)
             rw [Nat.add_mul, Nat.one_mul] at this; omega
         · rfl
        rw [this]; exact hx i x hix)
     refine ⟨c', ?_, h2, by rw [h3]; simp, h4⟩
     simp only [Instr.fill, hu, List.size_toArray, hl]
     rw [if_neg (by simp; omega)]
     have := zip_splice c (f * e.size) vs.toArray (by simpa using hfit)
     rw [this]; simpa using h1
   · cases h
theorem madeCells_cell {w : World} {S : Foot} {e : Ty} (hsz : 0 < e.size) {z : Array Value} (hz : z.toList = zvals e) (n : Nat) :
   ((Array.range (n * e.size)).map (z[· % z.size]!)).size = n * e.size ∧
   ∀ (i : Nat) x, (List.replicate n e.zero)[i]? = some x → Cell w S e x ((((Array.range (n * e.size)).map (z[· % z.size]!)).toList.drop (i * e.size)).take e.size) := by
 have hzl : z.size = e.size := by
   have := congrArg List.length hz
   have h2 := (zvals_cell w S e).length
   simp at this; omega
 refine ⟨by simp, fun i x hx => ?_⟩
 rw [List.getElem?_replicate] at hx
 split at hx
 · rename_i hi
   injection hx with hx
   subst hx
   have : (((Array.range (n * e.size)).map (z[· % z.size]!)).toList.drop (i * e.size)).take e.size = zvals e := by
    apply List.ext_getElem?
    intro j
    rw [List.getElem?_take, List.getElem?_drop]
    split
    · rename_i hj
      have hlt : i * e.size + j < n * e.size := by
       have := Nat.mul_le_mul_right e.size (show i + 1 ≤ n from hi)
       rw [Nat.add_mul, Nat.one_mul] at this; omega
      have hmod : (i * e.size + j) % z.size = j := by
       rw [hzl, Nat.add_comm, Nat.add_mul_mod_self_right, Nat.mod_eq_of_lt hj]
      rw [← hz]
      simp [hlt, hmod, show j < z.size by omega]
    · rename_i hj
      rw [List.getElem?_eq_none]
      rw [← hz]; simp; omega
   rw [this]
   exact zvals_cell w S e
 · cases hx
theorem buildSlice_sim (hT : TbOk P tb) {o : Oper} {s : St} {T' : TypeId} {n : Nat} {ps : Array (Nat × Operand)} {d : Nat} {et : TypeId} {e : Ty} {bb : Nat} {hp : Hp} (hs : Sub hp s) {xs : List e.den} {parts : List (Nat × PV)} {ef : Eff}
  (ho : o.op = .buildSlice T' n ps) (hd : o.dst = some d) (hg : get tb T' = some (.slc et e bb)) (hparts : parts = ps.toList.map fun p => (p.1, s.pv p.2))
  (hx : litRow hp e (List.replicate n e.zero) parts = some xs) (hle : n * e.size ≤ 16777216) (hfl : e.flat = true) (hk : get s.h (d * 8) = none) (hkp : hp (d * 8) = none)
  (hef : ef = ⟨some (.osl (d * 8) 0 none), (d * 8, .rows e xs .own) :: frzW hp (partKeys parts)⟩) : OpSim T P o s ef := by
 intro B w S β a R hdo next Q hnx
 subst hef
 obtain ⟨_, hu, hty, _, _, hsz⟩ := hT T' _ hg
 obtain ⟨ie, z, i1, i2, i3, i4⟩ := hty.info
 obtain ⟨S1, R1, hS1, _, hdec⟩ := R.frz hs (partKeys parts)
 have hprel : PartsRel w S β (get s.h) parts (ps.toList.map fun p => (p.1, a.eval p.2)) := by
  subst hparts
  generalize ps.toList = l
  induction l with
  | nil => trivial
  | cons p l ih => exact ⟨⟨rfl, eval_tmp R p.2⟩, ih⟩
 obtain ⟨m1, m2⟩ := madeCells_cell (w := w) (S := S1) hsz i4 n
 obtain ⟨c', f1, f2, f3, f4⟩ := litRow_ok (S1 := S1) hsz (all := partKeys parts) (fun pvs vs x hk hl hd => hdec pvs vs e x hk hl hd) parts _ _ _ _ hx (fun k hk => hk) hprel (by simp) m2
 have hlen : xs.length = n := by rw [f3]; simp
 have hrun : (Instr.buildSlice T' n (ps.map fun p => (p.1, a.eval p.2))).run P w = .ok (.slice (some ⟨w.heap.size, 0, none⟩) n n) (w.alloc (.cells c' et)) := by
  by_cases hn : n = 0
  · subst hn
    have hc0 : c' = #[] := by apply Array.eq_empty_of_size_eq_zero; rw [f2, hlen]; simp
    have hmp : (Array.range (0 * e.size)).map (z.cells[· % z.cells.size]!) = #[] := by simp
    rw [hmp] at f1
    have f1' : Instr.fill (fun i => some (i * ie.size, ie.size)) #[] (ps.map fun p => (p.1, a.eval p.2)).toList = some c' := by rw [i2]; simpa using f1
    have f2' : Instr.fill (fun i => some (i * ie.size, ie.size)) (Array.map (fun x => default) (Array.range 0)) (List.map (fun p => (p.fst, a.eval p.snd)) ps.toList) = some c' := by
     have hr : Array.map (fun x => (default : Value)) (Array.range 0) = #[] := by simp
     rw [hr]; simpa using f1'
    simp [Instr.buildSlice, run_underlying hu, sizeOf, typeInfo, i1, f2', Go.newRow]
  · have hpos : ¬ n * ie.size = 0 := by
     rw [i2]; intro h; rcases Nat.mul_eq_zero.1 h with h | h <;> omega
    refine run_buildSlice (P := P) w T' et n _ c' ie z hu i1 i3 (by rw [i2]; omega) hpos ?_
    rw [i2]
    simpa using f1
 unfold Oper.wp execOp
 simp only [ho, Sem.run_bind, hrun, Result.andThen_ok, Sem.run_pure]
 have hk1 : get (frzW hp (partKeys parts) ++ s.h) (d * 8) = none := by
  rw [get_append, hk]
  cases hq : get (frzW hp (partKeys parts)) (d * 8) with
  | none => rfl
  | some ob => obtain ⟨ob0, e1, _⟩ := get_frzW hq; rw [hkp] at e1; cases e1
 have hat : At (w.alloc (.cells c' et)) w.heap.size 0 c'.toList := at_toList (alloc_blk w c' et) (fun j v hv => by simpa using hv)
 have R2 := R1.newRows (calm_alloc w c' et) (k := d * 8) (w' := w.alloc (.cells c' et)) (t := e) (xs := xs) (c := c') hk1 (fun b hb => alloc_old hb) (by simp) (alloc_blk w c' et) (by omega) (rowAt_of_cells f4 hat) hfl
 refine hnx _ _ _ _ (Rel.app (ef := ⟨some (.osl (d * 8) 0 none), (d * 8, .rows e xs .own) :: frzW hp (partKeys parts)⟩) R2 hdo fun pv hpv => ?_)
 injection hpv with hpv
 subst hpv
 have := osl_new (w' := w.alloc (.cells c' et)) (S := S1) (β := fun k' => if k' = d * 8 then some (w.heap.size, 0) else β k') (g := get ((d * 8, .rows e xs .own) :: frzW hp (partKeys parts) ++ s.h)) (k := d * 8) (b := w.heap.size) (t := e) (xs := xs) (cap := n) (c := c')
  (by simp [get_cons]) (by simp) (alloc_blk w c' et) (by omega) (by rw [f2, hlen]; exact Nat.le_refl _)
 rw [hlen] at this
 exact this
variable {T : Told} {P : Program} {tb : Tb}
theorem make_sim (hT : TbOk P tb) {o : Oper} {s : St} {T' : TypeId} {x y : Operand} {d : Nat} {et : TypeId} {e : Ty} {bb : Nat} {n c : Int} {ef : Eff}
  (ho : o.op = .makeSlice T' x y) (hd : o.dst = some d) (hg : get tb T' = some (.slc et e bb)) (hx : s.pv x = .val (.int .i64) n) (hy : s.pv y = .val (.int .i64) c)
  (hnc : n = c) (h0 : 0 ≤ n) (hb : (bb : Int) * n ≤ 281474976710656) (h63 : n ≤ 9223372036854775807) (hfl : e.flat = true) (hk : get s.h (d * 8) = none)
  (hef : ef = ⟨some (.osl (d * 8) 0 none), [(d * 8, .rows e (List.replicate n.toNat e.zero) .own)]⟩) : OpSim T P o s ef := by
 intro B w S β a R hdo next Q hnx
 subst hef
 subst hnc
 obtain ⟨_, hu, hty, ⟨ib, ib1, ib2⟩, _, hsz⟩ := hT T' _ hg
 obtain ⟨ie, z, i1, i2, i3, i4⟩ := hty.info
 have hib : ie.bytes = bb := by rw [i1] at ib1; injection ib1 with ib1; subst ib1; exact ib2
 have e1 : a.eval x = .int .i64 n := by have := eval_tmp R x; rw [hx] at this; exact this.int
 have e2 : a.eval y = .int .i64 n := by have := eval_tmp R y; rw [hy] at this; exact this.int
 have hrun := run_make (P := P) w T' et ie z hu i1 i3 .i64 .i64 n n h0 (Int.le_refl _) (by rw [hib]; exact hb) h63
 unfold Oper.wp execOp
 simp only [ho, Sem.run_bind, e1, e2, hrun, Result.andThen_ok, Sem.run_pure]
 obtain ⟨m1, m2⟩ := madeCells_cell (w := w) (S := S) hsz i4 n.toNat
 have hmc : madeCells z.cells (n.toNat * ie.size) = (Array.range (n.toNat * e.size)).map (z.cells[· % z.cells.size]!) := by rw [i2]; rfl
 rw [hmc]
 generalize hc : (Array.range (n.toNat * e.size)).map (z.cells[· % z.cells.size]!) = c at m1 m2
 have hat : At (w.alloc (.cells c et)) w.heap.size 0 c.toList := at_toList (alloc_blk w c et) (fun j v hv => by simpa using hv)
 have R2 := R.newRows (calm_alloc w c et) (k := d * 8) (w' := w.alloc (.cells c et)) (t := e) (xs := List.replicate n.toNat e.zero) (c := c) hk (fun b hb => alloc_old hb) (by simp) (alloc_blk w c et) (by rw [m1]; simp) (rowAt_of_cells m2 hat) hfl
 refine hnx _ _ _ _ (Rel.app (ef := ⟨some (.osl (d * 8) 0 none), [(d * 8, .rows e (List.replicate n.toNat e.zero) .own)]⟩) R2 hdo fun pv hpv => ?_)
 injection hpv with hpv
 subst hpv
 have := osl_new (w' := w.alloc (.cells c et)) (S := S) (β := fun k' => if k' = d * 8 then some (w.heap.size, 0) else β k') (g := get ([(d * 8, .rows e (List.replicate n.toNat e.zero) .own)] ++ s.h)) (k := d * 8) (b := w.heap.size) (t := e) (xs := List.replicate n.toNat e.zero) (cap := n.toNat) (c := c)
  (by simp [get_cons]) (by simp) (alloc_blk w c et) (by simp) (by rw [m1]; exact Nat.le_refl _)
 simpa using this
theorem setAt_cell {w : World} {S : Foot} {t' : Ty} {y : t'.den} {vs : List Value} (hy : Cell w S t' y vs) : ∀ {t : Ty} {x z : t.den} {off : Nat} {ds : List Value}, t'.setAt y t x off = some z → Cell w S t x ds →
  Cell w S t z (ds.take off ++ vs ++ ds.drop (off + vs.length)) ∧ off + vs.length ≤ ds.length := by
 intro t
 have base : ∀ {t : Ty} {x z : t.den} {off : Nat} {ds : List Value}, (bif Nat.beq off 0 then cst (t' := t) y else none) = some z → Cell w S t x ds →
   Cell w S t z (ds.take off ++ vs ++ ds.drop (off + vs.length)) ∧ off + vs.length ≤ ds.length := by
  intro t x z off ds h hc
  obtain ⟨h0, h⟩ := bif_some h
  have h0 := Nat.eq_of_beq_eq_true h0
  subst h0
  obtain ⟨rfl, rfl⟩ := cst_eq h
  have hl := hc.length
  have hl2 := hy.length
  refine ⟨?_, by omega⟩
  rw [List.drop_eq_nil_of_le (by omega)]
  simpa using hy
 induction t with
 | pair a b iha ihb =>
  intro x z off ds h hc
  simp only [Ty.setAt] at h
  cases hq : (decide (t' = Ty.pair a b) && Nat.beq off 0) with
  | true =>
   rw [hq] at h
   simp only [Bool.and_eq_true] at hq
   exact base (t := .pair a b) (off := off) (x := x) (by rw [hq.2]; exact h) hc
  | false =>
   rw [hq] at h
   simp only [cond_false] at h
   obtain ⟨c1, c2, rfl, h1, h2⟩ := hc
   have hl1 := h1.length
   have hl2 := h2.length
   cases hb : Nat.blt off a.size with
   | true =>
    rw [hb] at h
    simp only [cond_true] at h
    split at h
    · rename_i z1 hz1
      injection h with h
      subst h
      obtain ⟨e1, e2⟩ := iha hz1 h1
      refine ⟨⟨_, c2, ?_, e1, h2⟩, by simp; omega⟩
      rw [List.take_append_of_le_length (by omega), List.drop_append_of_le_length (by omega)]
      simp
    · cases h
   | false =>
    rw [hb] at h
    simp only [cond_false] at h
    have hle : a.size ≤ off := by
      cases hh : Nat.decLt off a.size with
      | isTrue hlt => have : Nat.blt off a.size = true := Nat.ble_eq_true_of_le hlt; rw [this] at hb; cases hb
      | isFalse hlt => omega
    split at h
    · rename_i z1 hz1
      injection h with h
      subst h
      obtain ⟨e1, e2⟩ := ihb hz1 h2
      refine ⟨⟨c1, _, ?_, h1, e1⟩, by simp; omega⟩
      rw [List.take_append, List.take_of_length_le (by omega), List.drop_append, List.drop_eq_nil_of_le (by omega : c1.length ≤ off + vs.length), hl1]
      rw [show off - a.size + vs.length = off + vs.length - a.size by omega]
      simp
    · cases h
 | int k => intro x z off ds h hc; exact base h hc
 | bool => intro x z off ds h hc; exact base h hc
 | str | os _ _ | op _ _ => intro x z off ds h hc; exact base h hc
 | unit => intro x z off ds h hc; exact base h hc
 | sl e ih => intro x z off ds h hc; exact base h hc
theorem rowAt_splice {w : World} {S : Foot} {t : Ty} {b o : Nat} {c : Array Value} (hc : Blk w b c) (hSb : ¬ S b) {xs : List t.den} (hr : RowAt (Cell w S t) t.size w b o xs) (hfit : o + xs.length * t.size ≤ c.size)
   {i : Nat} {x z : t.den} (hx : xs[i]? = some x) {off : Nat} {vs : List Value} (hoff : off + vs.length ≤ t.size) (hz : ∀ ds, Cell w S t x ds → Cell w S t z (ds.take off ++ vs ++ ds.drop (off + vs.length))) :
   RowAt (Cell (w.setRow b (splice c (o + i * t.size + off) vs)) S t) t.size (w.setRow b (splice c (o + i * t.size + off) vs)) b o (xs.set i z) := by
 have hi : i < xs.length := (List.getElem?_eq_some_iff.1 hx).1
 have hblk := setRow_blk (cs := splice c (o + i * t.size + off) vs) hc
 have him := Nat.mul_le_mul_right t.size (show i + 1 ≤ xs.length from hi)
 rw [Nat.add_mul, Nat.one_mul] at him
 have hf2 : o + i * t.size + off + vs.length ≤ c.size := by omega
 have hkeep : ∀ b', S b' → (w.setRow b (splice c (o + i * t.size + off) vs)).heap[b']? = w.heap[b']? := fun b' hb' => setRow_other w b b' _ (fun e => hSb (e ▸ hb'))
 intro j y hy
 rcases set_getElem hy with ⟨rfl, rfl, _⟩ | ⟨hne, hy⟩
 · obtain ⟨ds, e1, e2⟩ := hr i x hx
   have hl := e1.length
   refine ⟨_, (hz ds e1).mono (fun _ h => h) hkeep, fun q v hv => ?_⟩
   rw [hblk.cell]
   have hql : q < t.size := by
     have := (List.getElem?_eq_some_iff.1 hv).1
     simp at this; omega
   by_cases h1 : q < off
   · rw [splice_out hf2 (.inl (by omega)), ← hc.cell]
     refine e2 q v ?_
     rw [List.append_assoc, List.getElem?_append_left (by simp; omega), List.getElem?_take, if_pos h1] at hv
     exact hv
   · by_cases h2 : q < off + vs.length
     · have := splice_in hf2 (j := q - off) (by omega)
       rw [show o + i * t.size + off + (q - off) = o + i * t.size + q by omega] at this
       rw [this]
       rw [List.append_assoc, List.getElem?_append_right (by simp; omega), List.getElem?_append_left (by simp; omega)] at hv
       simp only [List.length_take] at hv
       rwa [show q - min off ds.length = q - off by omega] at hv
     · rw [splice_out hf2 (.inr (by omega)), ← hc.cell]
       refine e2 q v ?_
       rw [List.getElem?_append_right (by simp; omega), List.getElem?_drop] at hv
       simp only [List.length_append, List.length_take] at hv
       rwa [show off + vs.length + (q - (min off ds.length + vs.length)) = q by omega] at hv
 · obtain ⟨ds, e1, e2⟩ := hr j y hy
   have hl := e1.length
   refine ⟨ds, e1.mono (fun _ h => h) hkeep, fun q v hv => ?_⟩
   rw [hblk.cell]
   have hql : q < t.size := by have := (List.getElem?_eq_some_iff.1 hv).1; omega
   rw [splice_out hf2 ?_, ← hc.cell]
   · exact e2 q v hv
   · rcases Nat.lt_or_gt_of_ne hne with h | h
     · right
       have := Nat.mul_le_mul_right t.size (show i + 1 ≤ j from h)
       rw [Nat.add_mul, Nat.one_mul] at this; omega
     · left
       have := Nat.mul_le_mul_right t.size (show j + 1 ≤ i from h)
       rw [Nat.add_mul, Nat.one_mul] at this; omega
section
variable {B : Base} {w : World} {S : Foot} {β : Con} {s : St} {a : Act}
theorem Rel.setElem (R : Rel T B w S β s a) {k : Nat} {t : Ty} {xs : List t.den} {m : Md} (hk : get s.h k = some (.rows t xs m)) (hm : m ≠ .frz) (hfl : t.flat = true) {b o : Nat} (hb : β k = some (b, o)) {i : Nat} {x z : t.den} (hx : xs[i]? = some x)
   {off : Nat} {vs : List Value} (hoff : off + vs.length ≤ t.size) (hz : ∀ ds, Cell w S t x ds → Cell w S t z (ds.take off ++ vs ++ ds.drop (off + vs.length))) :
   ∃ c, Blk w b c ∧ o + i * t.size + off + vs.length ≤ c.size ∧ Rel T B (w.setRow b (splice c (o + i * t.size + off) vs)) S β ⟨s.e, (k, .rows t (xs.set i z) m) :: s.h⟩ a := by
 have h0 := R.obs k _ hk
 simp only [ORel, hb] at h0
 obtain ⟨⟨c, hc, hfit⟩, hr, h1, h2, h3⟩ := h0
 have hi : i < xs.length := (List.getElem?_eq_some_iff.1 hx).1
 have him := Nat.mul_le_mul_right t.size (show i + 1 ≤ xs.length from hi)
 rw [Nat.add_mul, Nat.one_mul] at him
 have hf2 : o + i * t.size + off + vs.length ≤ c.size := by omega
 have hl : (Ob.rows t xs m).live = true := by cases m <;> first | rfl | exact absurd rfl hm
 refine ⟨c, hc, hf2, R.write (ob' := .rows t (xs.set i z) m) hk hl (show ObS (.rows t xs m) (.rows t (xs.set i z) m) from ⟨rfl, by simp, rfl⟩) hb hc (splice_size hf2) (fun t' xs' e => by injection e with e1; subst e1; exact hfl) ?_ fun E hc' => ?_⟩
 · intro t' xs' e j hj
   injection e with e1 e2 e3
   subst e1
   have e2 := eq_of_heq e2
   subst e2
   refine splice_out hf2 ?_
   rcases hj with hj | hj
   · left; omega
   · right; omega
 · simp only [ORel, hb]
   exact ⟨⟨_, hc', by rw [splice_size hf2]; simpa using hfit⟩, rowAt_splice hc (h2 hm).1 hr hfit hx hoff hz, h1, h2, h3⟩
end
theorem store_sim (hT : TbOk P tb) {o : Oper} {s : St} {T' : TypeId} {x y : Operand} {hp : Hp} (hs : Sub hp s) {ef : Eff} (ho : o.op = .store T' x y) (hd : o.dst = none)
   (h : effStore tb hp T' (s.pv x) (s.pv y) some = some ef) : OpSim T P o s ef := by
 intro B w S β a R hdo next Q hnx
 have hx := eval_tmp R x
 have hy := eval_tmp R y
 unfold effStore at h
 split at h
 · rename_i k i off hpx
   rw [hpx] at hx
   split at h
   · cases h
   · rename_i t xs m hnf hk
     have hm : m ≠ .frz := hnf
     split at h
     · rename_i t' ht'
       split at h
       · rename_i yv hyv
         have hbe := bif_some h
         clear h
         obtain ⟨hfl, h⟩ := hbe
         have hbe := bif_else h
         clear h
         obtain ⟨hcond, h⟩ := hbe
         · cases hxi : xs[i]? with
           | none => rw [hxi] at h; cases h
           | some xv =>
            rw [hxi] at h
            simp only [Option.bind_some] at h
            split at h
            · rename_i z hz
              injection h with h
              subst h
              have hcond' : memN k (keysOf (s.pv y).cells) = false ∧ noAgg (s.pv y).cells = true := by
               revert hcond
               cases memN k (keysOf (s.pv y).cells) <;> cases noAgg (s.pv y).cells <;> simp
              obtain ⟨hkn, hna⟩ := hcond'
              obtain ⟨vs, hu, hvs, hone⟩ := hy.cells hna
              obtain ⟨S1, R1, hS1, hS1n, hdec⟩ := R.frz hs (keysOf (s.pv y).cells)
              have hcell : Cell w S1 t' yv vs := hdec _ vs t' yv (fun k hk => hk) hvs hyv
              have hk' := hs k _ hk
              have hx0 : TRel0 w S β (get s.h) (.ptr k i off) (a.eval x) := hx
              simp only [TRel0, hk'] at hx0
              obtain ⟨b, o', hb, he⟩ := hx0
              have hk1 : get (frzW hp (keysOf (s.pv y).cells) ++ s.h) k = some (.rows t xs m) := by
               rw [get_append]
               cases hq : get (frzW hp (keysOf (s.pv y).cells)) k with
               | none => simpa using hk'
               | some ob =>
                exfalso
                have hmem := mem_keysW_of_get hq
                have : ∀ ks : List Nat, k ∈ keysW (frzW hp ks) → k ∈ ks := by
                 intro ks
                 induction ks with
                 | nil => intro h; simp [frzW, keysW] at h
                 | cons q ks ih =>
                  intro h
                  simp only [frzW] at h
                  split at h
                  · simp only [keysW, List.map_cons, List.mem_cons] at h
                    rcases h with h | h
                    · subst h; exact List.mem_cons_self
                    · exact List.mem_cons_of_mem _ (ih h)
                  · exact List.mem_cons_of_mem _ (ih h)
                exact memN_false.1 hkn (this _ hmem)
              obtain ⟨ds0, hd1, _⟩ := R1.rows k t xs m b o' hk1 hb i xv hxi
              obtain ⟨_, hfit0⟩ := setAt_cell hcell hz hd1
              rw [hd1.length] at hfit0
              obtain ⟨c, hc, hf, R2⟩ := R1.setElem hk1 hm hfl hb hxi (off := off) (vs := vs) hfit0 (fun ds hds => (setAt_cell hcell hz hds).1)
              have hlen : vs.length = t'.size := hcell.length
              unfold Oper.wp execOp
              simp only [ho, he, Sem.run_bind, Ob.sz, run_storeAt_blk (hT.ty ht') hc hu hlen hf hone, Result.andThen_ok, Sem.run_pure]
              have hdo' : dstOk B.nt o.dst = true := hdo
              exact hnx undef _ _ _ (Rel.app (ef := ⟨none, (k, .rows t (xs.set i z) m) :: frzW hp (keysOf (s.pv y).cells)⟩) R2 hdo (fun pv h => by cases h))
            · cases h
       · cases h
     · cases h
   · rename_i l hk
     have h2 := bif_some h
     clear h
     obtain ⟨hi, h⟩ := h2
     have hi := Nat.eq_of_beq_eq_true hi
     subst hi
     split at h
     · rename_i t ht
       have h2 := bif_some h
       clear h
       obtain ⟨hc0, h⟩ := h2
       injection h with h
       subst h
       simp only [Bool.and_eq_true] at hc0
       obtain ⟨⟨hc1, hc2⟩, hna⟩ := hc0
       have hc1 := Nat.eq_of_beq_eq_true hc1
       have hc2 := Nat.le_of_ble_eq_true hc2
       obtain ⟨vs, hu, hvs, hone⟩ := hy.cells hna
       have hk' := hs k _ hk
       have hx0 : TRel0 w S β (get s.h) (.ptr k 0 off) (a.eval x) := hx
       simp only [TRel0, hk'] at hx0
       obtain ⟨b, o', hb, he⟩ := hx0
       have hobs := R.obs k _ hk'
       obtain ⟨b', c, hb', hc, hl, hS, hM⟩ := hobs
       rw [hb] at hb'
       injection hb' with hb'
       injection hb' with hb' ho'
       subst hb'; subst ho'
       have hlen : vs.length = t.size := by rw [← hvs.length]; exact hc1
       have hcl := hl.length
       simp only [Array.length_toList] at hcl
       have hf : off + vs.length ≤ c.size := by omega
       have R2 := R.write (ob' := .box (setCells l off (s.pv y).cells)) (c' := splice c off vs) hk' rfl trivial hb hc (splice_size hf) (by simp) (by simp) (fun E hc' => ⟨b, _, hb, hc', (hl.setCells hvs).imp fun _ _ h => h.evo E, hS, hM⟩)
       unfold Oper.wp execOp
       have he' : a.eval x = .pointer (some ⟨b, off, none⟩) := by rw [he]; simp
       simp only [ho, he', Sem.run_bind, run_storeAt_blk (hT.ty ht) hc hu hlen hf hone, Result.andThen_ok, Sem.run_pure]
       exact hnx undef _ _ _ (Rel.app (ef := ⟨none, [(k, .box (setCells l off (s.pv y).cells))]⟩) R2 hdo (fun pv h => by cases h))
     · cases h
   · cases h
 · cases h
variable {T : Told} {P : Program} {tb : Tb}
section
variable {B : Base} {w w' : World} {S : Foot} {β : Con} {s : St} {a : Act}
theorem anyRow_val (R : Rel T B w S β s a) {hp : Hp} (hs : Sub hp s) {e : Ty} {p : PV} {ys : List e.den} {v : Value} (h : anyRow hp e p = some ys) (hv : TRel w S β (get s.h) p v) :
   ∃ A cap, v = .slice A ys.length cap ∧ ys.length ≤ cap ∧ (ys = [] ∨ ∃ b o, A = some ⟨b, o, none⟩ ∧ RowAt (Cell w S e) e.size w b o ys) := by
 unfold anyRow at h
 split at h
 · injection h with h; subst h
   have : v = .slice none 0 0 := hv
   exact ⟨none, 0, this, Nat.le_refl _, .inl rfl⟩
 · rename_i k off len
   unfold rowOf at h
   split at h
   · rename_i t xs m hk
     split at h
     · rename_i zs hz
       obtain ⟨rfl, rfl⟩ := cstl_eq hz
       injection h with h
       subst h
       have hk' := hs k _ hk
       obtain ⟨hw, h2⟩ := osl_val R hk' hv
       have hl := win_length hw
       rcases h2 with ⟨_, _, h3, rfl⟩ | ⟨b, o, x, cap, hb, rfl, hcap, hx, _⟩
       · exact ⟨none, 0, by rw [hl, h3], by rw [hl, h3]; exact Nat.le_refl _, .inl (List.eq_nil_of_length_eq_zero (by omega))⟩
       · refine ⟨_, cap, by rw [hl], by rw [hl]; exact hcap, ?_⟩
         by_cases hz : win zs off len = []
         · exact .inl hz
         · have : (win zs off len).length ≠ 0 := fun h => hz (List.eq_nil_of_length_eq_zero h)
           obtain rfl : x = o + off * t.size := hx.resolve_left (by omega)
           refine .inr ⟨b, _, rfl, fun i y hy => ?_⟩
           obtain ⟨ds, e1, e2⟩ := R.rows k t zs m b o hk' hb (off + i) y (win_get hy)
           refine ⟨ds, e1, ?_⟩
           rw [Nat.add_mul, ← Nat.add_assoc] at e2
           exact e2
     · cases h
   · cases h
 · rename_i t xs
   obtain ⟨rfl, rfl⟩ := cstl_eq h
   obtain ⟨A, cap, rfl, hc, hr⟩ := cell_sl hv
   refine ⟨A, cap, rfl, hc, ?_⟩
   rcases hr with hr | ⟨b, o, hA, _, hr⟩
   · exact .inl hr
   · exact .inr ⟨b, o, hA, hr⟩
 · cases h
theorem Rel.drew (R : Rel T B w S β s a) : Rel T B w.drew S β s a := R.heap rfl ⟨rfl, rfl, fun _ => rfl⟩
theorem rowAt_front {w w' : World} {S : Foot} {t : Ty} {xs ys : List t.den} {cs ds : List Value} {c : Array Value} {b : Nat}
   (hx : ∀ (i : Nat) x, xs[i]? = some x → Cell w S t x ((cs.drop (i * t.size)).take t.size)) (hy : ∀ (i : Nat) y, ys[i]? = some y → Cell w S t y ((ds.drop (i * t.size)).take t.size))
   (hc : cs.length = xs.length * t.size) (hd : ds.length = ys.length * t.size) (hb : Blk w' b c) (hfront : ∀ (j : Nat) (v : Value), (cs ++ ds)[j]? = some v → c[j]? = some v) :
   RowAt (Cell w S t) t.size w' b 0 (xs ++ ys) := by
 refine rowAt_of_cells (cs := cs ++ ds) (fun i x hix => ?_) (at_toList hb hfront)
 by_cases hi : i < xs.length
 · rw [List.getElem?_append_left hi] at hix
   have := hx i x hix
   have hm := Nat.mul_le_mul_right t.size (show i + 1 ≤ xs.length from hi)
   rw [Nat.add_mul, Nat.one_mul] at hm
   rw [List.drop_append_of_le_length (by omega), List.take_append_of_le_length (by simp; omega)]
   exact this
 · rw [List.getElem?_append_right (by omega)] at hix
   have := hy _ x hix
   have hm : i * t.size = xs.length * t.size + (i - xs.length) * t.size := by rw [← Nat.add_mul]; congr 1; omega
   rw [List.drop_append, List.drop_eq_nil_of_le (by rw [hc, hm]; omega), List.nil_append, hc, hm, Nat.add_sub_cancel_left]
   exact this
theorem append_fresh (R : Rel T B w S β s a) (h0 : Calm w w') {K : Nat} (hK : get s.h K = none) (hS : ∀ b, b < w.heap.size → w'.heap[b]? = w.heap[b]?) {e : Ty} (hfl : e.flat = true) {rows : List e.den} {v : Value}
   (h : (w' = w ∧ rows = [] ∧ v = .slice none 0 0) ∨ ∃ c cap, w.heap.size ≤ w'.heap.size ∧ v = .slice (some ⟨w.heap.size, 0, none⟩) rows.length cap ∧ Blk w' w.heap.size c ∧ rows.length ≤ cap ∧ cap * e.size ≤ c.size ∧ RowAt (Cell w S e) e.size w' w.heap.size 0 rows) :
   ∃ β', Rel T B w' S β' ⟨s.e, (K, .rows e rows .own) :: s.h⟩ a ∧ TRel w' S β' (get ((K, .rows e rows .own) :: s.h)) (.osl K 0 none) v := by
 rcases h with ⟨rfl, rfl, rfl⟩ | ⟨c, cap, hg, rfl, hc, hl, hsz, hr⟩
 · exact ⟨_, R.newNil hK e, osl_nil (t := e) (by simp [get_cons]) (by simp)⟩
 · have hle : rows.length * e.size ≤ cap * e.size := Nat.mul_le_mul_right _ hl
   exact ⟨_, R.newRows h0 hK hS hg hc (by omega) hr hfl, osl_new (t := e) (by simp [get_cons]) (by simp) hc hl hsz⟩
end
theorem run_append_room' {P : Program} (w : World) (t ty e : TypeId) (i : TypeInfo) (ht : P.underlying t = some (.slice e)) (hi : P.info? e = some i)
  {b sLen sCap : Nat} {c : Array Value} (hb : Blk w b c) (A : Option Addr) (m cap : Nat) (news : List Value) (hl : news.length = m * i.size) (hnews : m = 0 ∨ ∃ a : Addr, A = some a ∧ ∀ j u, news[j]? = some u → w.cell? (a.add j) = some u) (h1 : ∀ u ∈ news, u.oneCell' = true)
  (hroom : sLen + m ≤ sCap) (hfit : sLen * i.size + news.length ≤ c.size) :
  (Builtin.append_ #[t, t] ty #[.slice (some ⟨b, 0, none⟩) sLen sCap, .slice A m cap]).run P w =
    .ok (.slice (some ⟨b, 0, none⟩) (sLen + m) sCap) (w.setRow b (splice c (sLen * i.size) news)) := by
 have hf : (Builtin.firstCells i.size m (.slice A m cap)).run P w = .ok news.toArray w := by
  rcases hnews with rfl | ⟨a, rfl, hn⟩
  · have : news = [] := List.eq_nil_of_length_eq_zero (by simpa using hl)
    subst this
    cases A <;> simp [Builtin.firstCells, loadCells, loadCellsFrom]
  · exact run_firstCells_some (P := P) w i.size m a m cap news hl hn
 have hst := run_storeCells_blk (P := P) hb (o := sLen * i.size) (vs := news) hfit h1
 simp [Builtin.append_, run_underlying ht, sizeOf, typeInfo, hi, Builtin.lenOf, hroom, hf, Addr.add_lit, hst]
theorem run_append_nothing {P : Program} (w : World) (t ty e : TypeId) (i : TypeInfo) (ht : P.underlying t = some (.slice e)) (hi : P.info? e = some i) (A0 A : Option Addr) (n sCap cap : Nat) (hn : n ≤ sCap) :
  (Builtin.append_ #[t, t] ty #[.slice A0 n sCap, .slice A 0 cap]).run P w = .ok (.slice A0 n sCap) w := by
 have hf : (Builtin.firstCells i.size 0 (.slice A 0 cap)).run P w = .ok #[] w := by
  cases A <;> simp [Builtin.firstCells, loadCells, loadCellsFrom]
 cases A0 <;> simp [Builtin.append_, run_underlying ht, sizeOf, typeInfo, hi, Builtin.lenOf, hn, hf, storeCells]
section
variable {B : Base} {w w' : World} {S : Foot} {β : Con} {s : St} {a : Act}
theorem Rel.inplace (R : Rel T B w S β s a) {k K : Nat} {t : Ty} (hfl : t.flat = true) {xs rows : List t.den} (hk : get s.h k = some (.rows t xs .own)) (hK : get s.h K = none) {b : Nat} (hb : β k = some (b, 0)) {c c' : Array Value} (hc : Blk w b c) (hsz : c'.size = c.size)
   (hr : RowAt (Cell w S t) t.size (w.setRow b c') b 0 rows) (hl : rows.length * t.size ≤ c.size) :
   Rel T B (w.setRow b c') S (fun k' => if k' = K then some (b, 0) else β k') ⟨s.e, (K, .rows t rows .own) :: (k, .gone) :: s.h⟩ a := by
 have hKk : K ≠ k := by rintro rfl; rw [hk] at hK; cases hK
 have hc' : Blk (w.setRow b c') b c' := setRow_blk hc
 have kw : ∀ k', k' ∈ keysW [(K, .rows t rows .own), (k, Ob.gone)] → k' = K ∨ k' = k := fun k' h => by simpa [keysW] using h
 have gK : get ([(K, .rows t rows .own), (k, Ob.gone)] ++ s.h) K = some (.rows t rows .own) := by simp [get_cons]
 have gk : get ([(K, .rows t rows .own), (k, Ob.gone)] ++ s.h) k = some .gone := by simp [get_cons, hKk]
 have gne : ∀ k', k' ≠ K → k' ≠ k → get ([(K, .rows t rows .own), (k, Ob.gone)] ++ s.h) k' = get s.h k' := fun k' h1 h2 => by simp [get_cons, Ne.symm h1, Ne.symm h2]
 have hne : ∀ k' ob', get s.h k' = some ob' → k' ≠ K := fun k' ob' h e => by rw [e, hK] at h; cases h
 have hlv := R.liveS hk rfl hb
 refine R.gen (w' := w.setRow b c') (S' := S) (β' := fun k' => if k' = K then some (b, 0) else β k') (calm_setRow hc) [(K, .rows t rows .own), (k, .gone)] (fun b' => b' = b) (fun b' _ hn => setRow_other w b b' c' hn) (by simp) ?_ ?_ (fun _ h => h) (fun b h => .inl h) (fun b' hb' => by simpa using R.Slt b' hb') ?_ ?_ ?_ ?_ ?_ ?_ ?_ ?_ (fun b h => .inl h) ?_ ?_
 · rintro b' rfl; exact ⟨k, _, 0, by simp [keysW], hk, rfl, hb⟩
 · intro k' ob' h _; simp [hne k' ob' h]
 · intro k' ob2 b2 o2 h _ hl2 hb2; exact (R.liveS h hl2 hb2).1
 · intro k' ob2 hm hk' E
   rcases kw k' hm with rfl | rfl
   · rw [gK] at hk'; injection hk' with hk'; subst hk'
     simp only [ORel, if_true]
     refine ⟨⟨c', hc', by omega⟩, fun i x hx => ?_, by simp, fun _ => hlv, fun _ => trivial⟩
     obtain ⟨ds, e1, e2⟩ := hr i x hx
     exact ⟨ds, e1.mono E.sub E.keep, e2⟩
   · rw [gk] at hk'; injection hk' with hk'; subst hk'; trivial
 · intro k' ob2 hm h
   rcases kw k' hm with rfl | rfl
   · exact absurd rfl (hne k' ob2 h)
   · exact ⟨.gone, gk, by cases ob2 <;> trivial⟩
 · intro k1 k2 ob1 ob2 b1 o1 o2 hm hk1 hl1 hk2 hl2 hb1 hb2
   rcases kw k1 hm with rfl | rfl
   · by_cases e : k2 = k1
     · exact e.symm
     · by_cases e2 : k2 = k
       · subst e2; rw [gk] at hk2; injection hk2 with hk2; subst hk2; cases hl2
       · rw [gne k2 e e2] at hk2
         simp only [if_true] at hb1
         simp only [if_neg e] at hb2
         injection hb1 with hb1; injection hb1 with hb1 _; subst hb1
         exact absurd (R.inj k k2 _ ob2 b 0 o2 hk rfl hk2 hl2 hb hb2).symm e2
   · rw [gk] at hk1; injection hk1 with hk1; subst hk1; cases hl1
 · rintro k2 b2 o2 n2 hL rfl c2 hc2
   exact absurd hL (R.sep k _ b2 0 hk rfl (by simp) hb k2 o2 n2)
 · intro k' t' xs' hm h
   rcases kw k' hm with rfl | rfl
   · rw [gK] at h; cases h
   · rw [gk] at h; cases h
 · intro k' ob2 b2 o2 hm h hl2 hnl hb2
   rcases kw k' hm with rfl | rfl
   · simp only [if_true] at hb2
     injection hb2 with hb2; injection hb2 with hb2 _; subst hb2
     exact R.sep k _ b 0 hk rfl (by simp) hb
   · rw [gk] at h; injection h with h; subst h; cases hl2
 · intro k' l hm h
   rcases kw k' hm with rfl | rfl
   · rw [gK] at h; cases h
   · rw [gk] at h; cases h
 · intro k' ob2 b2 o2 hm h hl2 hb2
   rcases kw k' hm with rfl | rfl
   · simp only [if_true] at hb2
     injection hb2 with hb2; injection hb2 with hb2 _; subst hb2
     exact .inl ⟨k, _, 0, hk, rfl, hb⟩
   · rw [gk] at h; injection h with h; subst h; cases hl2
 · intro k' t' xs' hm h
   rcases kw k' hm with rfl | rfl
   · rw [gK] at h; injection h with h; injection h with h; subst h; exact .inl hfl
   · rw [gk] at h; cases h
end
theorem append_sim (hT : TbOk P tb) {o : Oper} {s : St} {c : Call} {x y : Operand} {T' : TypeId} {d : Nat} {hp : Hp} (hs : Sub hp s) (hkk : hp (d * 8) = none → get s.h (d * 8) = none) {ef : Eff} (ho : o.op = .call c) (hd : o.dst = some d)
   (hcal : c.callee = .builtin .append) (hargs : c.args = #[x, y]) (htys : c.argTypes = #[T', T']) (h : effAppend tb hp (some d) T' (s.pv x) (s.pv y) some = some ef) : OpSim T P o s ef := by
 intro B w S β a R hdo next Q hnx
 have hx := eval_tmp R x
 have hy := eval_tmp R y
 have hexec : (execOp a.eval o).run P w = ((Builtin.append_ #[T', T'] o.type #[a.eval x, a.eval y]).run P w).andThen fun v w' => .ok (.value v) w' := by
   unfold execOp
   simp [ho, resolve, hcal, hargs, htys, invoke, builtin]
 unfold Oper.wp
 rw [hexec]
 unfold effAppend at h
 split at h
 · rename_i et e bb d' hg hd'
   injection hd' with hd'
   subst hd'
   obtain ⟨_, hu, hty, ⟨ib, ib1, ib2⟩, hbb, hsz⟩ := hT T' _ hg
   obtain ⟨ie, z, i1, i2, i3, i4⟩ := hty.info
   have hib : ie.bytes = bb := by rw [i1] at ib1; injection ib1 with ib1; subst ib1; exact ib2
   have hzsz : z.cells.size = e.size := by
     have h1 := congrArg List.length i4
     have h2 := (zvals_cell w S e).length
     simp at h1; omega
   split at h
   · rename_i ys hys
     obtain ⟨A, cap2, hyv, hcap2, hycells⟩ := anyRow_val R hs hys hy
     rw [hyv]
     have hnews : ∃ news : List Value, news.length = ys.length * e.size ∧ (∀ v ∈ news, v.oneCell' = true) ∧ (∀ (i : Nat) q, ys[i]? = some q → Cell w S e q ((news.drop (i * e.size)).take e.size)) ∧
         (ys.length = 0 ∨ ∃ a2 : Addr, A = some a2 ∧ ∀ (j : Nat) u, news[j]? = some u → w.cell? (a2.add j) = some u) := by
       rcases hycells with rfl | ⟨b2, o2, rfl, hr⟩
       · exact ⟨[], by simp, by simp, by simp, .inl rfl⟩
       · obtain ⟨cs, c1, c2, c3, c4⟩ := rows_cells hr
         exact ⟨cs, c1, c3, c4, .inr ⟨_, rfl, fun j u hj => by rw [Addr.add_mid]; exact c2 j u hj⟩⟩
     obtain ⟨news, n1, n2, n3, n4⟩ := hnews
     have fresh : ∀ {s1 : St} (R1 : Rel T B w S β s1 a) (hfl : e.flat = true) (hK : get s1.h (d * 8) = none) (rows : List e.den) (olds : List Value) (ho1 : olds.length = rows.length * e.size) (ho2 : ∀ (i : Nat) q, rows[i]? = some q → Cell w S e q ((olds.drop (i * e.size)).take e.size))
         (sc : Nat) (hge : rows.length + ys.length ≤ grownCap w (rows.length + ys.length) sc et),
         ∃ β', Rel T B (w.drew.alloc (.cells (olds.toArray ++ news.toArray ++ Builtin.zeroCells z.cells (grownCap w (rows.length + ys.length) sc et - (rows.length + ys.length))) et)) S β' ⟨s1.e, (d * 8, .rows e (rows ++ ys) .own) :: s1.h⟩ a ∧
           TRel (w.drew.alloc (.cells (olds.toArray ++ news.toArray ++ Builtin.zeroCells z.cells (grownCap w (rows.length + ys.length) sc et - (rows.length + ys.length))) et)) S β' (get ((d * 8, .rows e (rows ++ ys) .own) :: s1.h)) (.osl (d * 8) 0 none) (.slice (some ⟨w.heap.size, 0, none⟩) (rows.length + ys.length) (grownCap w (rows.length + ys.length) sc et)) := by
       intro s1 R1 hfl hK rows olds ho1 ho2 sc hge
       generalize hcap : grownCap w (rows.length + ys.length) sc et = cap' at hge
       generalize hcc : olds.toArray ++ news.toArray ++ Builtin.zeroCells z.cells (cap' - (rows.length + ys.length)) = cc
       have hblk : Blk (w.drew.alloc (.cells cc et)) w.heap.size cc := alloc_blk w.drew cc et
       have hccs : cc.size = cap' * e.size := by
         rw [← hcc]
         simp only [Array.size_append, List.size_toArray, size_zeroCells, hzsz, ho1, n1, ← Nat.add_mul]
         congr 1; omega
       have hfront : ∀ (j : Nat) (v : Value), (olds ++ news)[j]? = some v → cc[j]? = some v := by
         intro j v hv
         rw [← hcc]
         have hj := (List.getElem?_eq_some_iff.1 hv).1
         rw [Array.getElem?_append_left (by simpa using hj)]
         simpa using hv
       have hrow := rowAt_front ho2 n3 ho1 n1 hblk hfront
       have := append_fresh (w' := w.drew.alloc (.cells cc et)) R1 (Calm.trans (w' := w.drew) ⟨rfl, rfl, fun _ => rfl⟩ (calm_alloc w.drew cc et)) hK (fun b hb => alloc_old (w := w.drew) hb) (e := e) hfl (rows := rows ++ ys) (v := .slice (some ⟨w.heap.size, 0, none⟩) (rows.length + ys.length) cap')
         (.inr ⟨cc, cap', by simp, by simp, hblk, by simpa using hge, by rw [hccs]; exact Nat.le_refl _, hrow⟩)
       exact this
     have bound : ∀ {n : Nat}, n * bb ≤ 140737488355328 → (n : Int) ≤ 9223372036854775807 := by
       intro n hn
       have := Nat.le_mul_of_pos_right n hbb
       omega
     have nilcase : ∀ {s1 : St} (R1 : Rel T B w S β s1 a) (hfl : e.flat = true) (hK : get s1.h (d * 8) = none) (hbnd : ys.length * bb ≤ 140737488355328),
         ∃ v w' β', (Builtin.append_ #[T', T'] o.type #[.slice none 0 0, .slice A ys.length cap2]).run P w = .ok v w' ∧ Rel T B w' S β' ⟨s1.e, (d * 8, .rows e ys .own) :: s1.h⟩ a ∧ TRel w' S β' (get ((d * 8, .rows e ys .own) :: s1.h)) (.osl (d * 8) 0 none) v := by
       intro s1 R1 hfl hK hbnd
       rcases n4 with hm | ⟨a2, rfl, hn⟩
       · have hy0 : ys = [] := List.eq_nil_of_length_eq_zero hm
         subst hy0
         obtain ⟨β', e1, e2⟩ := append_fresh (w' := w) R1 (Calm.refl w) hK (fun _ _ => rfl) (e := e) hfl (rows := []) (v := .slice none 0 0) (.inl ⟨rfl, rfl, rfl⟩)
         exact ⟨_, _, β', run_append_nothing w T' _ et ie hu i1 none A 0 0 cap2 (Nat.le_refl _), e1, e2⟩
       · by_cases hm : ys.length = 0
         · have hy0 : ys = [] := List.eq_nil_of_length_eq_zero hm
           subst hy0
           obtain ⟨β', e1, e2⟩ := append_fresh (w' := w) R1 (Calm.refl w) hK (fun _ _ => rfl) (e := e) hfl (rows := []) (v := .slice none 0 0) (.inl ⟨rfl, rfl, rfl⟩)
           exact ⟨_, _, β', run_append_nothing w T' _ et ie hu i1 none (some a2) 0 0 cap2 (Nat.le_refl _), e1, e2⟩
         · have hr := run_append_nil (P := P) w T' o.type et ie z hu i1 i3 a2 ys.length cap2 news (by rw [i2]; exact n1) hn (by omega) (bound hbnd) (by rw [hib]; omega)
           obtain ⟨β', e1, e2⟩ := fresh R1 hfl hK [] [] (by simp) (by simp) 0 (by simpa using grownCap_ge w ys.length 0 et)
           simp only [List.length_nil, Nat.zero_add, List.nil_append, Array.empty_append] at e1 e2
           exact ⟨_, _, β', hr, e1, e2⟩
     split at h
     · rename_i hpx
       obtain ⟨hfl, h⟩ := bif_some h
       obtain ⟨hbnd, h⟩ := bif_some h
       have hbnd := Nat.le_of_ble_eq_true hbnd
       unfold mkRow at h
       split at h
       · rename_i hnone
         injection h with h
         subst h
         have hxv : a.eval x = .slice none 0 0 := by rw [hpx] at hx; exact hx
         rw [hxv]
         obtain ⟨v, w', β', hr, R2, hv2⟩ := nilcase R hfl (hkk hnone) hbnd
         rw [hr]
         refine hnx v w' S β' (Rel.app (ef := ⟨some (.osl (d * 8) 0 none), (d * 8, .rows e ys .own) :: []⟩) R2 hdo fun pv hpv => ?_)
         injection hpv with hpv
         subst hpv
         exact hv2
       · cases h
     · rename_i k len hpx
       split at h
       · rename_i t xs hk
         split at h
         · rename_i zs hz
           obtain ⟨rfl, rfl⟩ := cstl_eq hz
           obtain ⟨hfl, h⟩ := bif_some h
           obtain ⟨hcond, h⟩ := bif_some h
           simp only [Bool.and_eq_true] at hcond
           have hbnd := Nat.le_of_ble_eq_true hcond.1
           unfold mkRow at h
           split at h
           · rename_i hnone
             injection h with h
             subst h
             have hk' := hs k _ hk
             have hKn := hkk hnone
             rw [hpx] at hx
             obtain ⟨hw, hx2⟩ := osl_val R hk' hx
             have hl := win_length hw
             obtain ⟨S1, R1, hS1, _, hS2⟩ := R.ghost [(k, Ob.gone)] (fun k1 ob1 h1 => by
               rw [get_cons] at h1
               split at h1
               · rename_i e1; subst e1; injection h1 with h1; exact ⟨_, hk', .inr h1.symm⟩
               · cases h1)
             have hSS : S1 = S := funext fun b => propext ⟨fun h => (hS2 b h).resolve_right (by
               rintro ⟨k1, t1, x1, o1, h1, _⟩
               rw [get_cons] at h1
               split at h1
               · injection h1 with h1; cases h1
               · cases h1), hS1 b⟩
             subst hSS
             have hK1 : get ([(k, Ob.gone)] ++ s.h) (d * 8) = none := by
               have hne : k ≠ d * 8 := by rintro rfl; rw [hk'] at hKn; cases hKn
               simp [get_cons, hne, hKn]
             have fin : ∀ v w' S' β', Rel T B w' S' β' ⟨s.e, (d * 8, .rows t (win zs 0 len ++ ys) .own) :: (k, .gone) :: s.h⟩ a → TRel w' S' β' (get ((d * 8, .rows t (win zs 0 len ++ ys) .own) :: (k, .gone) :: s.h)) (.osl (d * 8) 0 none) v → next (a.put o.dst v) w' := by
               intro v w' S' β' R2 hv2
               refine hnx v w' S' β' (Rel.app (ef := ⟨some (.osl (d * 8) 0 none), (d * 8, .rows t (win zs 0 len ++ ys) .own) :: [(k, .gone)]⟩) R2 hdo fun pv hpv => ?_)
               injection hpv with hpv
               subst hpv
               exact hv2
             rcases hx2 with ⟨hb0, _, hwl0, hxv⟩ | ⟨b, o0, x0, cap, hb, hxv, hcap, hx0, hown⟩
             · have hW : win zs 0 len = [] := List.eq_nil_of_length_eq_zero (by omega)
               rw [hW] at fin hbnd
               simp only [List.nil_append, List.length_nil, Nat.zero_add] at fin hbnd
               obtain ⟨v, w', β', hr, R2, hv2⟩ := nilcase R1 hfl hK1 hbnd
               rw [hxv, hr]
               exact fin v w' _ β' R2 hv2
             · have hor := R.obs k _ hk'
               simp only [ORel, hb] at hor
               obtain ⟨⟨c, hc, hcsz⟩, hrow, _, _, ho0⟩ := hor
               obtain rfl := ho0 trivial
               obtain ⟨c2, hc2, hcapsz⟩ := hown rfl
               have := hc.inj hc2
               subst this
               simp only [Nat.zero_add, Nat.zero_mul, Nat.add_zero] at hx0 hcapsz hcsz
               have hrowW : RowAt (Cell w S1 t) t.size w b 0 (win zs 0 len) := fun i q hq => by
                 have := hrow i q (by have := win_get hq; rwa [Nat.zero_add] at this)
                 exact this
               obtain ⟨olds, p1, p2, p3, p4⟩ := rows_cells hrowW
               rw [hxv]
               have inv : ∀ (c' : Array Value), c'.size = c.size → RowAt (Cell w S1 t) t.size (w.setRow b c') b 0 (win zs 0 len ++ ys) → (win zs 0 len ++ ys).length ≤ cap → ∀ x1, (cap = 0 ∨ x1 = 0) →
                   next (a.put o.dst (.slice (some ⟨b, x1, none⟩) ((win zs 0 len ++ ys).length) cap)) (w.setRow b c') := by
                 intro c' hs' hr' hle x1 hx1
                 have hle2 : (win zs 0 len ++ ys).length * t.size ≤ cap * t.size := Nat.mul_le_mul_right _ hle
                 refine fin _ _ _ _ (R.inplace hfl hk' hKn hb hc hs' hr' (by omega)) ?_
                 have : TRel0 (w.setRow b c') S1 (fun k' => if k' = d * 8 then some (b, 0) else β k') (get ((d * 8, .rows t (win zs 0 len ++ ys) .own) :: (k, .gone) :: s.h)) (.osl (d * 8) 0 none) (.slice (some ⟨b, x1, none⟩) ((win zs 0 len ++ ys).length) cap) := by
                   simp only [TRel0, get_cons, if_true]
                   refine ⟨by simp [winOk], ?_⟩
                   simp only [OslV]
                   exact ⟨x1, cap, by simp [wlen], by simpa [wlen] using hle, by simpa using hx1, fun _ => ⟨c', setRow_blk hc, by rw [hs']; simpa using hcapsz⟩⟩
                 exact this.up
               by_cases hm : ys.length = 0
               · have hy0 : ys = [] := List.eq_nil_of_length_eq_zero hm
                 subst hy0
                 have hr := run_append_nothing (P := P) w T' o.type et ie hu i1 (some ⟨b, x0, none⟩) A (wlen zs 0 len) cap cap2 hcap
                 simp only [List.length_nil] at hr ⊢
                 rw [hr]
                 obtain ⟨e0, he0⟩ := hc
                 have hself := setRow_self w b c e0 _ he0
                 have := inv c rfl (by rw [hself]; simpa using hrowW) (by simp only [List.append_nil]; omega) x0 hx0
                 rw [hself] at this
                 show next (a.put o.dst _) _
                 simpa [hl] using this
               · rcases n4 with n4 | ⟨a2, rfl, hn⟩
                 · exact absurd n4 hm
                 · by_cases hroom : wlen zs 0 len + ys.length ≤ cap
                   · obtain rfl : x0 = 0 := hx0.resolve_left (by omega)
                     have hfit : wlen zs 0 len * t.size + news.length ≤ c.size := by
                      rw [n1, ← Nat.add_mul]
                      exact Nat.le_trans (Nat.mul_le_mul_right _ hroom) hcapsz
                     have hr := run_append_room' (P := P) w T' o.type et ie hu i1 hc (some a2) ys.length cap2 news (by rw [i2]; exact n1) (.inr ⟨a2, rfl, hn⟩) n2 hroom (by rw [i2]; exact hfit)
                     rw [hr, i2]
                     have hs' := splice_size hfit
                     have hblk' : Blk (w.setRow b (splice c (wlen zs 0 len * t.size) news)) b (splice c (wlen zs 0 len * t.size) news) := setRow_blk hc
                     have hlenW : olds.length = wlen zs 0 len * t.size := by rw [p1, hl]
                     have hfront : ∀ (j : Nat) (v : Value), (olds ++ news)[j]? = some v → (splice c (wlen zs 0 len * t.size) news)[j]? = some v := by
                      intro j v hv
                      by_cases hj : j < olds.length
                      · rw [List.getElem?_append_left hj] at hv
                        rw [splice_out hfit (.inl (by omega)), ← hc.cell]
                        have := p2 j v hv
                        rwa [Nat.zero_add] at this
                      · rw [List.getElem?_append_right (by omega)] at hv
                        have h3 := (List.getElem?_eq_some_iff.1 hv).1
                        have := splice_in hfit (j := j - olds.length) h3
                        rw [← hlenW, show olds.length + (j - olds.length) = j by omega] at this
                        rw [← hlenW, this]; exact hv
                     have hrow' := rowAt_front p4 n3 p1 n1 hblk' hfront
                     have := inv _ hs' hrow' (by simp [hl]; omega) 0 (.inr rfl)
                     show next (a.put o.dst _) _
                     simpa [hl] using this
                   · have hold : ∀ (j : Nat) (u : Value), olds[j]? = some u → w.cell? ((⟨b, x0, none⟩ : Addr).add j) = some u := by
                      intro j u hu'
                      have h3 := (List.getElem?_eq_some_iff.1 hu').1
                      have hx00 : x0 = 0 := by
                        refine hx0.resolve_left fun h0 => ?_
                        have : wlen zs 0 len = 0 := by omega
                        rw [p1, hl, this] at h3; omega
                      subst hx00
                      rw [Addr.add_mid]; exact p2 j u hu'
                     have hbnd' : (wlen zs 0 len + ys.length) * ie.bytes ≤ 140737488355328 := by rw [hib, ← hl]; exact hbnd
                     have hr := run_append_grow (P := P) w T' o.type et ie z hu i1 i3 ⟨b, x0, none⟩ (wlen zs 0 len) cap olds (by rw [p1, hl, i2]) hold a2 ys.length cap2 news (by rw [i2]; exact n1) hn (by omega)
                      (bound (n := wlen zs 0 len + ys.length) (by rw [← hib]; exact hbnd')) (growslice_fits (by omega) hbnd')
                     rw [hr]
                     obtain ⟨β', e1, e2⟩ := fresh R1 hfl hK1 (win zs 0 len) olds p1 p4 cap (by simpa using grownCap_ge w ((win zs 0 len).length + ys.length) cap et)
                     rw [hl] at e1 e2
                     exact fin _ _ _ β' e1 e2
           · cases h
         · cases h
       · cases h
     · cases h
   · cases h
 · cases h
variable {T : Told} {P : Program} {tb : Tb}
section
variable {B : Base} {w w' : World} {S : Foot} {β : Con} {s s' : St} {a : Act}
theorem Rel.ext (R : Rel T B w S β s a) (h1 : ∀ n, get s'.e n = get s.e n) (h2 : ∀ k, get s'.h k = get s.h k) : Rel T B w S β s' a := by
 have e1 : get s'.e = get s.e := funext h1
 have e2 : get s'.h = get s.h := funext h2
 refine ⟨R.defers, R.size, ?_, ?_, ?_, R.Slt, R.S0, R.Snew, R.olds, R.grow, R.lent, ?_, R.told, R.toldS, R.ltinj, ?_, R.calm, ?_, ?_⟩
 · rw [e1, e2]; exact R.tmps
 · rw [e2]; exact R.obs
 · rw [e2]; exact R.inj
 · rw [e2]; exact R.lentk
 · rw [e2]; exact R.sep
 · rw [e2]; exact R.boxk
 · rw [e2]; exact R.deep
theorem Rel.again (R : Rel T B w S β s a) {k : Nat} {ob : Ob} (h : get s.h k = some ob) : Rel T B w S β ⟨s.e, (k, ob) :: s.h⟩ a :=
 R.ext (fun _ => rfl) (fun k' => by
  rw [get_cons]
  by_cases e : k = k'
  · subst e; rw [if_pos rfl, h]
  · rw [if_neg e])
end
theorem run_copy_gen {P : Program} (w : World) (dT sT ty e : TypeId) (i : TypeInfo) (ht : P.underlying dT = some (.slice e)) (hi : P.info? e = some i)
  {b o n cap : Nat} {c : Array Value} (hb : Blk w b c) (A : Option Addr) (m cap2 : Nat) (news : List Value) (hl : news.length = Nat.min m n * i.size)
  (hnews : Nat.min m n = 0 ∨ ∃ a : Addr, A = some a ∧ ∀ j u, news[j]? = some u → w.cell? (a.add j) = some u) (h1 : ∀ u ∈ news, u.oneCell' = true) (hfit : o + news.length ≤ c.size) :
  (Builtin.copy_ #[dT, sT] ty #[.slice (some ⟨b, o, none⟩) n cap, .slice A m cap2]).run P w = .ok (goInt (Nat.min m n)) (w.setRow b (splice c o news)) := by
 have hf : (Builtin.firstCells i.size (Nat.min m n) (.slice A m cap2)).run P w = .ok news.toArray w := by
  rcases hnews with hz | ⟨a, rfl, hn⟩
  · have : news = [] := List.eq_nil_of_length_eq_zero (by rw [hl, hz]; simp)
    subst this
    rw [hz]
    cases A <;> simp [Builtin.firstCells, loadCells, loadCellsFrom]
  · exact run_firstCells_some (P := P) w i.size _ a m cap2 news hl hn
 have hst := run_storeCells_blk (P := P) hb (o := o) (vs := news) hfit h1
 simp [Builtin.copy_, run_underlying ht, sizeOf, typeInfo, hi, Builtin.lenOf, hf, hst]
theorem run_copy_zero {P : Program} (w : World) (dT sT ty e : TypeId) (i : TypeInfo) (ht : P.underlying dT = some (.slice e)) (hi : P.info? e = some i) (D A : Option Addr) (n cap m cap2 : Nat) (h : Nat.min m n = 0) :
  (Builtin.copy_ #[dT, sT] ty #[.slice D n cap, .slice A m cap2]).run P w = .ok (goInt 0) w := by
 have hf : (Builtin.firstCells i.size (Nat.min m n) (.slice A m cap2)).run P w = .ok #[] w := by
  rw [h]; cases A <;> simp [Builtin.firstCells, loadCells, loadCellsFrom]
 rw [h] at hf
 cases D <;> simp [Builtin.copy_, run_underlying ht, sizeOf, typeInfo, hi, Builtin.lenOf, hf, storeCells, h]
theorem over_nil {α : Type} (xs : List α) (off : Nat) : over xs off [] = xs := by simp [over]
theorem over_length {α : Type} {xs ys : List α} {off : Nat} (h : off + ys.length ≤ xs.length) : (over xs off ys).length = xs.length := by simp [over]; omega
theorem over_get {α : Type} {xs ys : List α} {off : Nat} (h : off + ys.length ≤ xs.length) {i : Nat} {x : α} (hx : (over xs off ys)[i]? = some x) :
   ((i < off ∨ off + ys.length ≤ i) ∧ xs[i]? = some x) ∨ (off ≤ i ∧ i < off + ys.length ∧ ys[i - off]? = some x) := by
 have h1 : (xs.take off).length = off := by simp; omega
 unfold over at hx
 by_cases h2 : i < off
 · rw [List.append_assoc, List.getElem?_append_left (by omega), List.getElem?_take, if_pos h2] at hx
   exact .inl ⟨.inl h2, hx⟩
 · by_cases h3 : i < off + ys.length
   · rw [List.append_assoc, List.getElem?_append_right (by omega), h1, List.getElem?_append_left (by omega)] at hx
     exact .inr ⟨by omega, h3, hx⟩
   · rw [List.getElem?_append_right (by simp; omega)] at hx
     simp only [List.length_append, h1, List.getElem?_drop] at hx
     rw [show off + ys.length + (i - (off + ys.length)) = i by omega] at hx
     exact .inl ⟨.inr (by omega), hx⟩
section
variable {B : Base} {w w' : World} {S : Foot} {β : Con} {s s' : St} {a : Act}
theorem rowAt_over {t : Ty} {xs ys : List t.den} {b o off : Nat} {c : Array Value} {news : List Value} (hc : Blk w b c) (hnS : ¬ S b) (hr : RowAt (Cell w S t) t.size w b o xs) (hfit : o + xs.length * t.size ≤ c.size)
   (hl : news.length = ys.length * t.size) (hn : ∀ (i : Nat) y, ys[i]? = some y → Cell w S t y ((news.drop (i * t.size)).take t.size)) (hoff : off + ys.length ≤ xs.length) :
   RowAt (Cell (w.setRow b (splice c (o + off * t.size) news)) S t) t.size (w.setRow b (splice c (o + off * t.size) news)) b o (over xs off ys) := by
 have hkeep : ∀ b', S b' → (w.setRow b (splice c (o + off * t.size) news)).heap[b']? = w.heap[b']? := fun b' hb' => setRow_other w b b' _ (fun e => hnS (e ▸ hb'))
 have hm := Nat.mul_le_mul_right t.size hoff
 rw [Nat.add_mul] at hm
 have hf : o + off * t.size + news.length ≤ c.size := by omega
 have hblk : Blk (w.setRow b (splice c (o + off * t.size) news)) b (splice c (o + off * t.size) news) := setRow_blk hc
 intro i x hx
 rcases over_get hoff hx with ⟨hi, hx⟩ | ⟨hi1, hi2, hx⟩
 · obtain ⟨ds, e1, e2⟩ := hr i x hx
   refine ⟨ds, e1.mono (fun _ h => h) hkeep, fun j v hv => ?_⟩
   have hj := (List.getElem?_eq_some_iff.1 hv).1
   rw [e1.length] at hj
   have h3 := e2 j v hv
   rw [hc.cell] at h3
   rw [hblk.cell, splice_out hf ?_]
   · exact h3
   · rcases hi with hi | hi
     · left
       have := Nat.mul_le_mul_right t.size (show i + 1 ≤ off from hi)
       rw [Nat.add_mul, Nat.one_mul] at this; omega
     · right
       have := Nat.mul_le_mul_right t.size hi
       rw [Nat.add_mul] at this; omega
 · have e1 := hn _ x hx
   refine ⟨_, e1.mono (fun _ h => h) hkeep, fun j v hv => ?_⟩
   have hj := (List.getElem?_eq_some_iff.1 hv).1
   rw [e1.length] at hj
   rw [List.getElem?_take, if_pos hj, List.getElem?_drop] at hv
   have hj2 := (List.getElem?_eq_some_iff.1 hv).1
   have := splice_in hf hj2
   rw [hblk.cell]
   have hmm : i * t.size = off * t.size + (i - off) * t.size := by rw [← Nat.add_mul]; congr 1; omega
   rw [show o + i * t.size + j = o + off * t.size + ((i - off) * t.size + j) by omega, this]
   exact hv
end
theorem copy_sim (hT : TbOk P tb) {o : Oper} {s : St} {T' ety : TypeId} {x y : Operand} {hp : Hp} (hs : Sub hp s) {e0 : TypeId} {t0 : Ty} {b0 : Nat} (hg : get tb T' = some (.slc e0 t0 b0)) {ef : Eff}
   (hrun : ∀ (a : Act) (w : World), (execOp a.eval o).run P w = ((Builtin.copy_ #[T', T'] o.type #[a.eval x, a.eval y]).run P w).andThen fun v w => .ok (.value v) w)
   (h : effCopy hp t0 (s.pv x) (s.pv y) some = some ef) : OpSim T P o s ef := by
 intro B w S β a R hdo next Q hnx
 obtain ⟨_, hu, he, _, _, hsz0⟩ := hT T' _ hg
 obtain ⟨ie, z, i1, i2, i3, i4⟩ := he.info
 have hx := eval_tmp R x
 have hy := eval_tmp R y
 unfold Oper.wp
 rw [hrun]
 unfold effCopy at h
 split at h
 · rename_i k off len hpx
   have hmm : ∃ xs0 m0, hp k = some (.rows t0 xs0 m0) ∧ (m0 ≠ .frz ∧ t0.flat = true) ∧ ∃ ys, anyRow hp t0 (s.pv y) = some ys ∧ ef = ⟨some .junk, [(k, .rows t0 (over xs0 off (ys.take (win xs0 off len).length)) m0)]⟩ := by
     split at h
     · cases h
     · rename_i t xs m hnf hk
       split at h
       · rename_i zs hz
         obtain ⟨rfl, rfl⟩ := cstl_eq hz
         split at h
         · rename_i ys hys
           obtain ⟨hfl, h⟩ := bif_some h
           injection h with h
           exact ⟨_, m, hk, ⟨hnf, hfl⟩, ys, hys, h.symm⟩
         · cases h
       · cases h
     · cases h
   obtain ⟨xs0, m0, hk0, ⟨hmf, hfl⟩, ys, hys, rfl⟩ := hmm
   clear h
   have hk' := hs k _ hk0
   rw [hpx] at hx
   obtain ⟨hw, hx2⟩ := osl_val R hk' hx
   have hl := win_length hw
   have hwl := winOk_len hw
   obtain ⟨A, cap2, hyv, hcap2, hycells⟩ := anyRow_val R hs hys hy
   rw [hl] at hnx
   rw [hyv]
   have fin : ∀ v w', Rel T B w' S β ⟨s.e, (k, .rows t0 (over xs0 off (ys.take (wlen xs0 off len))) m0) :: s.h⟩ a → next (a.put o.dst v) w' := fun v w' R2 =>
     hnx v w' S β (Rel.app (ef := ⟨some .junk, [(k, .rows t0 (over xs0 off (ys.take (wlen xs0 off len))) m0)]⟩) R2 hdo fun pv hpv => by injection hpv with hpv; subst hpv; trivial)
   by_cases hz : Nat.min ys.length (wlen xs0 off len) = 0
   · have hzz : ys.take (wlen xs0 off len) = [] := List.eq_nil_of_length_eq_zero (by rw [List.length_take, Nat.min_comm]; exact hz)
     rw [hzz, over_nil] at fin
     rcases hx2 with ⟨_, _, h3, hxv⟩ | ⟨b, o', x', cap, hb, hxv, _⟩
     · rw [hxv]
       rw [h3] at hz
       rw [run_copy_zero w T' T' o.type _ ie hu i1 none A 0 0 ys.length cap2 hz]
       exact fin _ _ (R.again hk')
     · rw [hxv, run_copy_zero w T' T' o.type _ ie hu i1 _ A _ _ ys.length cap2 hz]
       exact fin _ _ (R.again hk')
   · rcases hx2 with ⟨_, _, h3, hxv⟩ | ⟨b, o', x', cap, hb, hxv, hcap, hx', _⟩
     · rw [h3] at hz; simp at hz
     · have hmin : Nat.min ys.length (wlen xs0 off len) ≤ wlen xs0 off len := Nat.min_le_right _ _
       obtain rfl : x' = o' + off * t0.size := hx'.resolve_left (by omega)
       have hor := R.obs k _ hk'
       simp only [ORel, hb] at hor
       obtain ⟨⟨c, hc, hcsz⟩, hrow, _, hlv, hown⟩ := hor
       have hyl : (ys.take (wlen xs0 off len)).length = Nat.min ys.length (wlen xs0 off len) := by rw [List.length_take, Nat.min_comm]
       have hnews : ∃ news : List Value, news.length = (ys.take (wlen xs0 off len)).length * t0.size ∧ (∀ v ∈ news, v.oneCell' = true) ∧ (∀ (i : Nat) q, (ys.take (wlen xs0 off len))[i]? = some q → Cell w S t0 q ((news.drop (i * t0.size)).take t0.size)) ∧
           ∃ a2 : Addr, A = some a2 ∧ ∀ (j : Nat) u, news[j]? = some u → w.cell? (a2.add j) = some u := by
         rcases hycells with rfl | ⟨b2, o2, rfl, hr⟩
         · simp at hz
         · have hr' : RowAt (Cell w S t0) t0.size w b2 o2 (ys.take (wlen xs0 off len)) := fun i q hq => hr i q (by rw [List.getElem?_take] at hq; split at hq; exact hq; cases hq)
           obtain ⟨cs, c1, c2, c3, c4⟩ := rows_cells hr'
           exact ⟨cs, c1, c3, c4, _, rfl, fun j u hj => by rw [Addr.add_mid]; exact c2 j u hj⟩
       obtain ⟨news, n1, n2, n3, a2, rfl, n4⟩ := hnews
       have hoff : off + (ys.take (wlen xs0 off len)).length ≤ xs0.length := by omega
       have hm := Nat.mul_le_mul_right t0.size hoff
       rw [Nat.add_mul] at hm
       have hfit : o' + off * t0.size + news.length ≤ c.size := by omega
       have hnSb := (hlv hmf).1
       rw [hxv, run_copy_gen w T' T' o.type _ ie hu i1 hc (some a2) ys.length cap2 news (by rw [i2, n1, hyl]) (.inr ⟨a2, rfl, n4⟩) n2 hfit]
       have hlive : (Ob.rows t0 xs0 m0).live = true := by cases m0 <;> first | rfl | exact absurd rfl hmf
       refine fin _ _ (R.write (ob' := .rows t0 (over xs0 off (ys.take (wlen xs0 off len))) m0) (c' := splice c (o' + off * t0.size) news) hk' hlive (show ObS (.rows t0 xs0 m0) (.rows t0 _ m0) from ⟨rfl, over_length hoff, rfl⟩) hb hc (splice_size hfit) (fun t' xs' e => by injection e with e1; subst e1; exact hfl) ?_ fun E hc' => ?_)
       · intro t' xs' e j hj
         injection e with e1 e2 e3
         subst e1
         have e2 := eq_of_heq e2
         subst e2
         refine splice_out hfit ?_
         rcases hj with hj | hj
         · left; omega
         · right; omega
       · simp only [ORel, hb]
         refine ⟨⟨_, hc', by rw [splice_size hfit, over_length hoff]; exact hcsz⟩, rowAt_over hc hnSb hrow hcsz n1 n3 hoff, fun e => absurd e hmf, hlv, hown⟩
 · cases h
def OwnV (w : World) (S : Foot) (p : Option (Nat × Nat)) (e : Ty) (xs : List e.den) (v : Value) : Prop :=
 match p with
 | none => xs = [] ∧ v = .slice none 0 0
 | some (b, o) => o = 0 ∧ ¬ S b ∧ ∃ x cap c, v = .slice (some ⟨b, x, none⟩) xs.length cap ∧ xs.length ≤ cap ∧ (cap = 0 ∨ x = 0) ∧ Blk w b c ∧ cap * e.size ≤ c.size ∧ RowAt (Cell w S e) e.size w b 0 xs
def LentV (w : World) (S : Foot) (p : Option (Nat × Nat)) (e : Ty) (xs : List e.den) (v : Value) : Prop :=
 match p with
 | none => xs = [] ∧ v = .slice none 0 0
 | some (b, o) => ¬ S b ∧ ∃ x cap c, v = .slice (some ⟨b, x, none⟩) xs.length cap ∧ xs.length ≤ cap ∧ (cap = 0 ∨ x = o) ∧ Blk w b c ∧ o + xs.length * e.size ≤ c.size ∧ RowAt (Cell w S e) e.size w b o xs
def ArgsV (w : World) (S : Foot) (β : Con) : (ps : List (Ty × PM)) → Nat → HL (fsts ps) → List Value → Prop
 | [], _, _, [] => True
 | (t, .imm) :: ps, i, (x, r), v :: vs => VRel w S t x v ∧ ArgsV w S β ps (i + 1) r vs
 | (.sl e, .own) :: ps, i, (x, r), v :: vs => OwnV w S (β (i * 8)) e x v ∧ ArgsV w S β ps (i + 1) r vs
 | (.sl e, .lent) :: ps, i, (x, r), v :: vs => LentV w S (β (i * 8)) e x v ∧ ArgsV w S β ps (i + 1) r vs
 | _, _, _, _ => False
def LentO (w w' : World) (S' : Foot) (p : Option (Nat × Nat)) (e : Ty) (xs ys : List e.den) : Prop :=
 ys.length = xs.length ∧
 match p with
 | none => True
 | some (b, o) => ¬ S' b ∧ ∃ c0 c, Blk w b c0 ∧ Blk w' b c ∧ c.size = c0.size ∧ (∀ j, (j < o ∨ o + xs.length * e.size ≤ j) → c[j]? = c0[j]?) ∧ RowAt (Cell w' S' e) e.size w' b o ys
def LentsO (w w' : World) (S' : Foot) (β : Con) : (ps : List (Ty × PM)) → Nat → HL (fsts ps) → HL (lents ps) → Prop
 | [], _, _, _ => True
 | (.sl e, .lent) :: ps, i, (x, r), (y, q) => LentO w w' S' (β (i * 8)) e x y ∧ LentsO w w' S' β ps (i + 1) r q
 | (_, .imm) :: ps, i, (_, r), q => LentsO w w' S' β ps (i + 1) r q
 | (_, .own) :: ps, i, (_, r), q => LentsO w w' S' β ps (i + 1) r q
 | _, _, _, _ => False
def ResV (w : World) (S : Foot) (ρ : Con) : (rs : List (Ty × Bool)) → Nat → HL (fsts rs) → List Value → Prop
 | [], _, _, [] => True
 | (.sl e, true) :: rs, j, (x, r), v :: vs => OwnV w S (ρ j) e x v ∧ ResV w S ρ rs (j + 1) r vs
 | (t, false) :: rs, j, (x, r), v :: vs => VRel w S t x v ∧ ResV w S ρ rs (j + 1) r vs
 | _, _, _, _ => False
def Con.inj (β : Con) : Prop := ∀ k k' b o o', β k = some (b, o) → β k' = some (b, o') → k = k'
structure Enter (T : Told) (w : World) (S : Foot) (β : Con) (ps : List (Ty × PM)) (x : HL (fsts ps)) (vs : List Value) : Prop where
 args : ArgsV w S β ps 0 x vs
 dom : ∀ k b o, β k = some (b, o) → k ∈ ownK ps 0 ∨ k ∈ lentK ps 0
 inj : β.inj
 Slt : ∀ b, S b → b < w.heap.size
 told : T.G w
 toldS : ∀ b ∈ T.gb, S b
def resOf : List Value → Value
 | [v] => v
 | vs => .tuple vs.toArray
structure Leave (T : Told) (w : World) (S : Foot) (β : Con) (ps : List (Ty × PM)) (rs : List (Ty × Bool)) (x : HL (fsts ps)) (y : HL (lents ps) × HL (fsts rs)) (v : Value) (w' : World) (S' : Foot) (ρ : Con) : Prop where
 sub : ∀ b, S b → S' b
 fresh : ∀ b, S' b → S b ∨ w.heap.size ≤ b ∨ ∃ k ∈ ownK ps 0, ∃ o, β k = some (b, o)
 Slt : ∀ b, S' b → b < w'.heap.size
 same : ∀ b, b < w.heap.size → (∀ k o, β k ≠ some (b, o)) → w'.heap[b]? = w.heap[b]?
 grow : w.heap.size ≤ w'.heap.size
 told : T.G w'
 calm : Calm w w'
 outs : LentsO w w' S' β ps 0 x y.1
 res : ∃ vs, v = resOf vs ∧ ResV w' S' ρ rs 0 y.2 vs
 rinj : ρ.inj
 rdom : ∀ j b o, ρ j = some (b, o) → w.heap.size ≤ b ∨ ∃ k ∈ ownK ps 0, ∃ o, β k = some (b, o)
def WC : List CK → List Value → List Value → List Nat → Prop
 | [], [], [], [] => True
 | .x :: cs, a :: as, v :: vs, bs => a = v ∧ WC cs as vs bs
 | .b :: cs, a :: as, vs, b :: bs => a = .pointer (some ⟨b, 0, none⟩) ∧ WC cs as vs bs
 | _, _, _, _ => False
def WB (w : World) : List (List CK) → List Nat → List Value → List Nat → Prop
 | [], [], [], [] => True
 | cs :: bx, b :: bs, vs, st => ∃ (c : Array Value) (v1 v2 : List Value) (q1 q2 : List Nat), Blk w b c ∧ vs = v1 ++ v2 ∧ st = q1 ++ q2 ∧ WC cs c.toList v1 q1 ∧ WB w bx bs v2 q2
 | _, _, _, _ => False
def GV1 : List GK → List Value → List Value → Prop
 | [], [], [] => True
 | .x :: gs, a :: as, c :: cs => c = a ∧ GV1 gs as cs
 | .g n :: gs, a :: as, cs => ∃ vs cs', vs.length = n ∧ a = .agg vs.toArray ∧ cs = vs ++ cs' ∧ GV1 gs as cs'
 | .f fid n :: gs, a :: as, cs => ∃ vs cs', vs.length = n ∧ a = .func (.func fid) #[] vs.toArray ∧ cs = vs ++ cs' ∧ GV1 gs as cs'
 | _, _, _ => False
def GV : List GK → List Value → List Value → Prop
 | [], as, cs => cs = as
 | g :: gs, as, cs => GV1 (g :: gs) as cs
structure EnterB (T : Told) (w : World) (S : Foot) (β : Con) (wi : Wir) (ps : List (Ty × PM)) (x : HL (fsts ps)) (as us : List Value) (q st : List Nat) : Prop where
 a : ∃ cs u1 u2, GV wi.ga as cs ∧ us = u1 ++ u2 ∧ WC wi.args cs u1 q ∧ WB w wi.boxes (q ++ st) u2 st
 enter : Enter T w S β ps x us
 nd : (q ++ st).Nodup
 nS : ∀ b ∈ q ++ st, ¬ S b
 apart : ∀ b ∈ q ++ st, ∀ k o, β k ≠ some (b, o)
def BackB (w w' : World) (S' : Foot) (ρ : Con) (wi : Wir) (q st : List Nat) (v : Value) (u1 u2 u3 : List Value) : Prop :=
 u1.length = wi.nres ∧ WB w' wi.boxes (q ++ st) u2 st ∧ ∃ rvs cs, v = resOf rvs ∧ GV wi.gr rvs cs ∧
 (match wi.nb with
 | none => u3 = [] ∧ cs = u1
 | some n => u3.length = n ∧ ∃ b, cs = u1.take wi.np ++ .pointer (some ⟨b, 0, none⟩) :: u1.drop wi.np ∧ Blk w' b u3.toArray ∧ w.heap.size ≤ b ∧ ¬ S' b ∧ ∀ j o, ρ j ≠ some (b, o))
structure LeaveB (T : Told) (w : World) (S : Foot) (β : Con) (wi : Wir) (ps : List (Ty × PM)) (rs : List (Ty × Bool)) (x : HL (fsts ps)) (y : HL (lents ps) × HL (fsts rs)) (v : Value) (q st : List Nat) (w' : World) (S' : Foot) (ρ : Con) : Prop where
 sub : ∀ b, S b → S' b
 fresh : ∀ b, S' b → S b ∨ w.heap.size ≤ b ∨ ∃ k ∈ ownK ps 0, ∃ o, β k = some (b, o)
 Slt : ∀ b, S' b → b < w'.heap.size
 same : ∀ b, b < w.heap.size → (∀ k o, β k ≠ some (b, o)) → b ∉ q ++ st → w'.heap[b]? = w.heap[b]?
 grow : w.heap.size ≤ w'.heap.size
 told : T.G w'
 calm : Calm w w'
 outs : LentsO w w' S' β ps 0 x y.1
 res : ∃ u1 u2 u3, ResV w' S' ρ rs 0 y.2 (u1 ++ (u2 ++ u3)) ∧ BackB w w' S' ρ wi q st v u1 u2 u3
 rinj : ρ.inj
 rdom : ∀ j b o, ρ j = some (b, o) → w.heap.size ≤ b ∨ ∃ k ∈ ownK ps 0, ∃ o, β k = some (b, o)
 nS : ∀ b ∈ q ++ st, ¬ S' b
 apart : ∀ b ∈ q ++ st, ∀ j o, ρ j ≠ some (b, o)
def DoesV (T : Told) (P : Program) (f : FuncId) (c : Ctr) : Prop :=
 ∀ (x : HL (fsts c.ps)) (r : c.T), c.F x = some r → ∀ (w : World) (S : Foot) (β : Con) (vs : List Value), Enter T w S β c.ps x vs →
  Calls P f vs.toArray w fun e w' => match e with
   | .returned v => ∃ S' ρ, Leave T w S β c.ps c.rs x (c.enc r) v w' S' ρ
   | _ => False
def DoesB (T : Told) (P : Program) (f : FuncId) (c : Ctr) (wi : Wir) : Prop :=
 ∀ (x : HL (fsts c.ps)) (r : c.T), c.F x = some r → ∀ (w : World) (S : Foot) (β : Con) (as us : List Value) (q st : List Nat), EnterB T w S β wi c.ps x as us q st →
  Calls P f as.toArray w fun e w' => match e with
   | .returned v => ∃ S' ρ, LeaveB T w S β wi c.ps c.rs x (c.enc r) v q st w' S' ρ
   | _ => False
structure CtrOk (T : Told) (P : Program) (f : FuncId) (c : Ctr) : Prop where
 fn : ∃ fn, P.funcs[f]? = some fn ∧ (fn.name == "runtime.NumGoroutine") = false ∧ fn.body.isNone = false
 does : match c.wi with
  | none => DoesV T P f c
  | some wi => DoesB T P f c wi
 flat : c.flat = true
def EnvOk (T : Told) (P : Program) (env : Env) : Prop := ∀ f c, env f = some c → CtrOk T P f c
variable {T : Told} {P : Program} {tb : Tb}
def immKeys : List (Ty × PM) → List PV → List Nat
 | (_, .imm) :: ps, v :: vs => keysOf v.cells ++ immKeys ps vs
 | _ :: ps, _ :: vs => immKeys ps vs
 | _, _ => []
def uses : List (Ty × PM) → List PV → Nat → List (Nat × (Nat × Nat))
 | (.sl e, .own) :: ps, .osl k _ _ :: vs, i => (i * 8, (k, 0)) :: uses ps vs (i + 1)
 | (.sl e, .lent) :: ps, .osl k off _ :: vs, i => (i * 8, (k, off * e.size)) :: uses ps vs (i + 1)
 | _ :: ps, _ :: vs, i => uses ps vs (i + 1)
 | _, _, _ => []
def useK (l : List (Nat × (Nat × Nat))) : List Nat := l.map fun x => x.2.1
def goneW : List (Ty × PM) → List PV → List (Nat × Ob)
 | (.sl e, .own) :: ps, .osl k _ _ :: vs => (k, .gone) :: goneW ps vs
 | _ :: ps, _ :: vs => goneW ps vs
 | _, _ => []
def conOf (β : Con) (l : List (Nat × (Nat × Nat))) : Con := fun n =>
 match get l n with
 | some (k, off) => (β k).map fun p => (p.1, p.2 + off)
 | none => none
theorem frzW_append (h : Hp) (a b : List Nat) : frzW h (a ++ b) = frzW h a ++ frzW h b := by
 induction a with
 | nil => rfl
 | cons x a ih => simp only [List.cons_append, frzW]; split <;> simp [ih]
theorem frzW_mem {h : Hp} {ks : List Nat} {k : Nat} (hm : k ∈ keysW (frzW h ks)) : k ∈ ks := by
 induction ks with
 | nil => simp [frzW, keysW] at hm
 | cons q ks ih =>
  simp only [frzW] at hm
  split at hm
  · simp only [keysW, List.map_cons, List.mem_cons] at hm
    rcases hm with hm | hm
    · subst hm; exact List.mem_cons_self
    · exact List.mem_cons_of_mem _ (ih hm)
  · exact List.mem_cons_of_mem _ (ih hm)
theorem frzW_none {h : Hp} {ks : List Nat} {k : Nat} (hm : k ∉ ks) : get (frzW h ks) k = none :=
 get_none_of_not_mem fun h' => hm (frzW_mem h')
theorem or_assoc' {α : Type} (a b c : Option α) : (a.or b).or c = a.or (b.or c) := by cases a <;> simp
theorem callArgs_keys {h : Hp} : ∀ {ps : List (Ty × PM)} {vs : List PV} {used seen : List Nat} {x : HL (fsts ps)} {w : List (Nat × Ob)}, callArgs h ps vs used seen = some (x, w) → ∀ i,
  (useK (uses ps vs i)).Nodup ∧ (∀ k ∈ useK (uses ps vs i), k ∉ used ∧ k ∉ seen ∧ k ∉ immKeys ps vs) ∧ (∀ k ∈ immKeys ps vs, k ∉ used) ∧
  (∀ k ∈ keysW (goneW ps vs), k ∈ useK (uses ps vs i)) ∧
  (∀ k, get w k = (get (goneW ps vs) k).or (get (frzW h (immKeys ps vs)) k)) := by
 intro ps
 induction ps with
 | nil =>
  intro vs used seen x w hh i
  cases vs with
  | nil => simp only [callArgs, Option.some.injEq, Prod.mk.injEq] at hh; obtain ⟨_, rfl⟩ := hh; simp [uses, useK, immKeys, goneW, keysW, get, frzW]
  | cons v vs => simp [callArgs] at hh
 | cons p ps ih =>
  intro vs used seen x w hh i
  obtain ⟨t, m⟩ := p
  cases vs with
  | nil => cases t <;> cases m <;> simp [callArgs] at hh
  | cons v vs =>
   cases m with
   | imm =>
    have hh : (bif anyN (keysOf v.cells) used || !fits t v then none else
        (match decA h t v.cells with
        | some x => (match callArgs h ps vs used (keysOf v.cells ++ seen) with | some (xs, w) => some ((x, xs), frzW h (keysOf v.cells) ++ w) | none => none)
        | none => none) : Option (HL (fsts ((t, PM.imm) :: ps)) × List (Nat × Ob))) = some (x, w) := by
      cases t <;> exact hh
    obtain ⟨h1, hh⟩ := bif_else hh
    simp only [Bool.or_eq_false_iff] at h1
    have h1 := anyN_false.1 h1.1
    split at hh
    · split at hh
      · rename_i y hy xs w' hw
        injection hh with hh
        injection hh with _ hh
        subst hh
        obtain ⟨a1, a2, a3, a4, a5⟩ := ih hw (i + 1)
        have eu : uses ((t, PM.imm) :: ps) (v :: vs) i = uses ps vs (i + 1) := by cases t <;> cases v <;> rfl
        have eg : goneW ((t, PM.imm) :: ps) (v :: vs) = goneW ps vs := by cases t <;> cases v <;> rfl
        have ei : immKeys ((t, PM.imm) :: ps) (v :: vs) = keysOf v.cells ++ immKeys ps vs := rfl
        rw [eu, eg, ei]
        refine ⟨a1, fun k hk => ?_, fun k hk => ?_, a4, fun k => ?_⟩
        · obtain ⟨b1, b2, b3⟩ := a2 k hk
          exact ⟨b1, fun h => b2 (List.mem_append.2 (.inr h)), fun h => (List.mem_append.1 h).elim (fun h => b2 (List.mem_append.2 (.inl h))) b3⟩
        · exact (List.mem_append.1 hk).elim (h1 k) (a3 k)
        · rw [get_append, a5, frzW_append, get_append]
          cases hf : get (frzW h (keysOf v.cells)) k with
          | none => simp
          | some ob =>
            have hm := frzW_mem (mem_keysW_of_get hf)
            have : get (goneW ps vs) k = none := get_none_of_not_mem fun hg => (a2 k (a4 k hg)).2.1 (List.mem_append.2 (.inl hm))
            simp [this]
      · cases hh
    · cases hh
   | own =>
    cases t with
    | sl e =>
      cases v with
      | nil =>
        simp only [callArgs] at hh
        split at hh
        · rename_i xs w' hw
          injection hh with hh
          injection hh with _ hh
          subst hh
          exact ih hw (i + 1)
        · cases hh
      | osl k off len =>
        cases off with
        | succ off => simp [callArgs] at hh
        | zero =>
          simp only [callArgs] at hh
          obtain ⟨h1, hh⟩ := bif_else hh
          simp only [Bool.or_eq_false_iff, memN_false] at h1
          split at hh
          · split at hh
            · split at hh
              · rename_i zs w' hw
                injection hh with hh
                injection hh with _ hh
                subst hh
                obtain ⟨a1, a2, a3, a4, a5⟩ := ih hw (i + 1)
                simp only [uses, goneW, immKeys, useK, List.map_cons, List.nodup_cons, List.mem_cons, keysW] at a1 a2 a3 a4 a5 ⊢
                refine ⟨⟨fun h => (a2 k h).1 (.inl rfl), a1⟩, fun k' hk' => ?_, fun k' hk' h => a3 k' hk' (.inr h), fun k' hk' => ?_, fun k' => ?_⟩
                · rcases hk' with rfl | hk'
                  · exact ⟨h1.1, h1.2, fun h => a3 _ h (.inl rfl)⟩
                  · obtain ⟨b1, b2, b3⟩ := a2 k' hk'
                    exact ⟨fun h => b1 (.inr h), b2, b3⟩
                · rcases hk' with rfl | hk'
                  · exact .inl rfl
                  · exact .inr (a4 k' hk')
                · rw [get_cons, get_cons, a5]
                  split <;> simp
              · cases hh
            · cases hh
          · cases hh
      | junk => simp [callArgs] at hh
      | val _ _ => simp [callArgs] at hh
      | ptr _ _ _ => simp [callArgs] at hh
      | iptr _ _ _ => simp [callArgs] at hh
      | nilp => simp [callArgs] at hh
      | agg _ => simp [callArgs] at hh
      | tup _ => simp [callArgs] at hh
      | clo _ _ => simp [callArgs] at hh
    | int _ => simp [callArgs] at hh
    | bool => simp [callArgs] at hh
    | str | os _ | op _ => simp [callArgs] at hh
    | unit => simp [callArgs] at hh
    | pair _ _ => simp [callArgs] at hh
   | lent =>
    cases t with
    | sl e =>
      cases v with
      | osl k off len =>
        simp only [callArgs] at hh
        obtain ⟨h1, hh⟩ := bif_else hh
        simp only [Bool.or_eq_false_iff, memN_false] at h1
        split at hh
        · cases hh
        · split at hh
          · split at hh
            · rename_i zs w' hw
              injection hh with hh
              injection hh with _ hh
              subst hh
              obtain ⟨a1, a2, a3, a4, a5⟩ := ih hw (i + 1)
              simp only [uses, goneW, immKeys, useK, List.map_cons, List.nodup_cons, List.mem_cons, keysW] at a1 a2 a3 a4 a5 ⊢
              refine ⟨⟨fun h => (a2 k h).1 (.inl rfl), a1⟩, fun k' hk' => ?_, fun k' hk' h => a3 k' hk' (.inr h), fun k' hk' => .inr (a4 k' hk'), a5⟩
              rcases hk' with rfl | hk'
              · exact ⟨h1.1, h1.2, fun h => a3 _ h (.inl rfl)⟩
              · obtain ⟨b1, b2, b3⟩ := a2 k' hk'
                exact ⟨fun h => b1 (.inr h), b2, b3⟩
            · cases hh
          · cases hh
        · cases hh
      | nil => simp [callArgs] at hh
      | junk => simp [callArgs] at hh
      | val _ _ => simp [callArgs] at hh
      | ptr _ _ _ => simp [callArgs] at hh
      | iptr _ _ _ => simp [callArgs] at hh
      | nilp => simp [callArgs] at hh
      | agg _ => simp [callArgs] at hh
      | tup _ => simp [callArgs] at hh
      | clo _ _ => simp [callArgs] at hh
    | int _ => simp [callArgs] at hh
    | bool => simp [callArgs] at hh
    | str | os _ | op _ => simp [callArgs] at hh
    | unit => simp [callArgs] at hh
    | pair _ _ => simp [callArgs] at hh
variable {T : Told} {P : Program} {tb : Tb}
section
variable {B : Base} {w w' : World} {S : Foot} {β : Con} {s s' : St} {a : Act}
theorem arg_val {S1 : Foot} {g hp : Hp} {t : Ty} {x : t.den} {v : PV} {u : Value} (hd : decA hp t v.cells = some x) (hf : fits t v = true) (hu : TRel w S β g v u)
  (D : ∀ vs : List Value, All2 (TRel0 w S β g) v.cells vs → Cell w S1 t x vs) : VRel w S1 t x u := by
 have one : ∀ (hv : TRel0 w S β g v u) (hc : v.cells = [v]), t.isAgg = false → VRel w S1 t x u := by
  intro hv hc ht
  have := D [u] (by rw [hc]; exact ⟨hv, trivial⟩)
  cases t <;> first | exact this | cases ht
 cases v with
 | agg l =>
  obtain ⟨vs, rfl, hl⟩ := hu
  have := D vs hl
  cases t with
  | pair a b => exact ⟨vs, rfl, this⟩
  | unit => cases this; rfl
  | int k => cases hf
  | bool => cases hf
  | str | os _ | op _ => cases hf
  | sl e => cases hf
 | tup l => exfalso; revert hd; cases t <;> first | (simp [PV.cells, decA, dec]; done) | (simp [fits, Ty.isAgg] at hf)
 | clo f l => exfalso; revert hd; cases t <;> first | (simp [PV.cells, decA, dec]; done) | (simp [fits, Ty.isAgg] at hf)
 | junk => exact one hu rfl (by simpa [fits] using hf)
 | val t x => exact one hu rfl (by simpa [fits] using hf)
 | nil => exact one hu rfl (by simpa [fits] using hf)
 | nilp => exact one hu rfl (by simpa [fits] using hf)
 | iptr t x off => exact one hu rfl (by simpa [fits] using hf)
 | osl k off len => exact one hu rfl (by simpa [fits] using hf)
 | ptr k i off => exact one hu rfl (by simpa [fits] using hf)
theorem uses_ge : ∀ {ps : List (Ty × PM)} {vs : List PV} {i n : Nat} {p : Nat × Nat}, get (uses ps vs i) n = some p → i * 8 ≤ n ∧ (n ∈ ownK ps i ∨ n ∈ lentK ps i) := by
 intro ps
 induction ps with
 | nil => intro vs i n p h; cases vs <;> simp [uses, get] at h
 | cons q ps ih =>
  intro vs i n p h
  obtain ⟨t, m⟩ := q
  cases vs with
  | nil => cases m <;> simp [uses, get] at h
  | cons v vs =>
   have tail : get (uses ps vs (i + 1)) n = some p → i * 8 ≤ n ∧ (n ∈ ownK ((t, m) :: ps) i ∨ n ∈ lentK ((t, m) :: ps) i) := by
    intro h
    obtain ⟨h1, h2⟩ := ih h
    refine ⟨by omega, ?_⟩
    cases m with
    | imm => exact h2
    | own => exact h2.imp (fun h => List.mem_cons_of_mem _ h) id
    | lent => exact h2.imp id fun h => List.mem_cons_of_mem _ h
   have hd : ∀ q, (m = .own ∨ m = .lent) → get ((i * 8, q) :: uses ps vs (i + 1)) n = some p → i * 8 ≤ n ∧ (n ∈ ownK ((t, m) :: ps) i ∨ n ∈ lentK ((t, m) :: ps) i) := by
    intro q hm h
    rw [get_cons] at h
    split at h
    · rename_i e; subst e
      refine ⟨Nat.le_refl _, ?_⟩
      rcases hm with rfl | rfl
      · exact .inl List.mem_cons_self
      · exact .inr List.mem_cons_self
    · exact tail h
   cases m with
   | imm => cases t <;> cases v <;> exact tail h
   | own => cases t <;> cases v <;> first | exact tail h | exact hd _ (.inl rfl) h
   | lent => cases t <;> cases v <;> first | exact tail h | exact hd _ (.inr rfl) h
theorem callArgs_args (R : Rel T B w S β s a) {hp : Hp} (hs : Sub hp s) {S1 : Foot} (hS1 : ∀ b, S b → S1 b) {K : List Nat}
  (hdec : ∀ (pvs : List PV) (vs : List Value) (t : Ty) (x : t.den), (∀ k ∈ keysOf pvs, k ∈ K) → All2 (TRel0 w S β (get s.h)) pvs vs → decA hp t pvs = some x → Cell w S1 t x vs) {βc : Con} :
  ∀ {ps : List (Ty × PM)} {vs : List PV} {us : List Value} {used seen : List Nat} {x : HL (fsts ps)} {w1 : List (Nat × Ob)} {i : Nat},
   callArgs hp ps vs used seen = some (x, w1) → All2 (TRel w S β (get s.h)) vs us → (∀ k ∈ immKeys ps vs, k ∈ K) →
   (∀ k ∈ useK (uses ps vs i), ∀ b o, β k = some (b, o) → ¬ S1 b) → (∀ n, i * 8 ≤ n → βc n = conOf β (uses ps vs i) n) → ArgsV w S1 βc ps i x us := by
 intro ps
 induction ps with
 | nil =>
  intro vs us used seen x w1 i hh hl hK hU hβ
  cases vs with
  | nil => cases us with
   | nil => trivial
   | cons _ _ => exact hl.elim
  | cons v vs => simp [callArgs] at hh
 | cons p ps ih =>
  intro vs us used seen x w1 i hh hl hK hU hβ
  obtain ⟨t, m⟩ := p
  cases vs with
  | nil => cases t <;> cases m <;> simp [callArgs] at hh
  | cons v vs =>
   cases us with
   | nil => exact hl.elim
   | cons u us =>
   obtain ⟨hu, hl⟩ := hl
   have tailβ : ∀ q, (∀ n, i * 8 ≤ n → βc n = conOf β ((i * 8, q) :: uses ps vs (i + 1)) n) → ∀ n, (i + 1) * 8 ≤ n → βc n = conOf β (uses ps vs (i + 1)) n := by
    intro q hq n hn
    rw [hq n (by omega)]
    simp only [conOf, get_cons, if_neg (show ¬ i * 8 = n by omega)]
   cases m with
   | imm =>
    have hh : (bif anyN (keysOf v.cells) used || !fits t v then none else
        (match decA hp t v.cells with
        | some x => (match callArgs hp ps vs used (keysOf v.cells ++ seen) with | some (xs, w) => some ((x, xs), frzW hp (keysOf v.cells) ++ w) | none => none)
        | none => none) : Option (HL (fsts ((t, PM.imm) :: ps)) × List (Nat × Ob))) = some (x, w1) := by
      cases t <;> exact hh
    obtain ⟨h1, hh⟩ := bif_else hh
    simp only [Bool.or_eq_false_iff] at h1
    have hf : fits t v = true := by simpa using h1.2
    split at hh
    · rename_i y hy
      split at hh
      · rename_i xs w' hw
        injection hh with hh
        injection hh with hh1 hh
        subst hh1
        have eu : uses ((t, PM.imm) :: ps) (v :: vs) i = uses ps vs (i + 1) := by cases t <;> cases v <;> rfl
        have ei : immKeys ((t, PM.imm) :: ps) (v :: vs) = keysOf v.cells ++ immKeys ps vs := rfl
        rw [eu] at hU hβ
        rw [ei] at hK
        have hv := arg_val hy hf hu (fun vs hvs => hdec _ vs t y (fun k hk => hK k (List.mem_append.2 (.inl hk))) hvs hy)
        have ht := ih hw hl (fun k hk => hK k (List.mem_append.2 (.inr hk))) hU (fun n hn => hβ n (by omega))
        cases t <;> exact ⟨hv, ht⟩
      · cases hh
    · cases hh
   | own =>
    cases t with
    | sl e =>
      cases v with
      | nil =>
        simp only [callArgs] at hh
        split at hh
        · rename_i xs w' hw
          injection hh with hh
          injection hh with hh1 hh
          subst hh1
          have e0 : βc (i * 8) = none := by
            rw [hβ _ (Nat.le_refl _)]
            show conOf β (uses ps vs (i + 1)) (i * 8) = none
            unfold conOf
            cases hg : get (uses ps vs (i + 1)) (i * 8) with
            | none => rfl
            | some p => have := (uses_ge hg).1; omega
          refine ⟨?_, ih hw hl hK hU (fun n hn => hβ n (by omega))⟩
          simp only [OwnV, e0]
          exact ⟨trivial, hu⟩
        · cases hh
      | osl k off len =>
        cases off with
        | succ off => simp [callArgs] at hh
        | zero =>
          simp only [callArgs] at hh
          obtain ⟨h1, hh⟩ := bif_else hh
          split at hh
          · rename_i t' xs hk
            split at hh
            · rename_i ys hys
              obtain ⟨rfl, rfl⟩ := cstl_eq hys
              split at hh
              · rename_i zs w' hw
                injection hh with hh
                injection hh with hh1 hh
                subst hh1
                refine ⟨?_, ih hw hl hK (fun k hk => hU k (List.mem_cons_of_mem _ hk)) (tailβ (k, 0) hβ)⟩
                have hk' := hs k _ hk
                obtain ⟨hwin, h2⟩ := osl_val R hk' hu
                have hlen := win_length hwin
                have e0 : βc (i * 8) = (β k).map fun p => (p.1, p.2 + 0) := by
                  rw [hβ _ (Nat.le_refl _)]
                  show conOf β ((i * 8, (k, 0)) :: uses ps vs (i + 1)) (i * 8) = _
                  simp [conOf, get_cons]
                rcases h2 with ⟨hb, _, h3, rfl⟩ | ⟨b, o, x0, cap, hb, rfl, hcap, hx, hown⟩
                · simp only [OwnV, e0, hb, Option.map_none]
                  exact ⟨List.eq_nil_of_length_eq_zero (by rw [hlen, h3]), trivial⟩
                · have hor := R.obs k _ hk'
                  simp only [ORel, hb] at hor
                  obtain ⟨⟨c, hc, hcsz⟩, hrow, _, _, ho0⟩ := hor
                  obtain rfl := ho0 trivial
                  obtain ⟨c2, hc2, hcapsz⟩ := hown rfl
                  simp only [OwnV, e0, hb, Option.map_some]
                  refine ⟨trivial, hU k List.mem_cons_self b 0 hb, x0, cap, c2, by rw [hlen], by rw [hlen]; exact hcap, by simpa using hx, hc2, by simpa using hcapsz, fun j y hy => ?_⟩
                  obtain ⟨ds, d1, d2⟩ := hrow j y (by have := win_get hy; rwa [Nat.zero_add] at this)
                  exact ⟨ds, d1.mono hS1 (fun _ _ => rfl), d2⟩
              · cases hh
            · cases hh
          · cases hh
      | junk => simp [callArgs] at hh
      | val _ _ => simp [callArgs] at hh
      | ptr _ _ _ => simp [callArgs] at hh
      | iptr _ _ _ => simp [callArgs] at hh
      | nilp => simp [callArgs] at hh
      | agg _ => simp [callArgs] at hh
      | tup _ => simp [callArgs] at hh
      | clo _ _ => simp [callArgs] at hh
    | int _ => simp [callArgs] at hh
    | bool => simp [callArgs] at hh
    | str | os _ | op _ => simp [callArgs] at hh
    | unit => simp [callArgs] at hh
    | pair _ _ => simp [callArgs] at hh
   | lent =>
    cases t with
    | sl e =>
      cases v with
      | osl k off len =>
        simp only [callArgs] at hh
        obtain ⟨h1, hh⟩ := bif_else hh
        split at hh
        · cases hh
        · rename_i t' xs md hnf hk
          split at hh
          · rename_i ys hys
            obtain ⟨rfl, rfl⟩ := cstl_eq hys
            split at hh
            · rename_i zs w' hw
              injection hh with hh
              injection hh with hh1 hh
              subst hh1
              refine ⟨?_, ih hw hl hK (fun k hk => hU k (List.mem_cons_of_mem _ hk)) (tailβ _ hβ)⟩
              have hk' := hs k _ hk
              obtain ⟨hwin, h2⟩ := osl_val R hk' hu
              have hlen := win_length hwin
              have hwl := winOk_len hwin
              have e0 : βc (i * 8) = (β k).map fun p => (p.1, p.2 + off * t'.size) := by
                rw [hβ _ (Nat.le_refl _)]
                show conOf β ((i * 8, (k, off * t'.size)) :: uses ps vs (i + 1)) (i * 8) = _
                simp [conOf, get_cons]
              rcases h2 with ⟨hb, _, h3, rfl⟩ | ⟨b, o, x0, cap, hb, rfl, hcap, hx, hown⟩
              · simp only [LentV, e0, hb, Option.map_none]
                exact ⟨List.eq_nil_of_length_eq_zero (by rw [hlen, h3]), trivial⟩
              · have hor := R.obs k _ hk'
                simp only [ORel, hb] at hor
                obtain ⟨⟨c, hc, hcsz⟩, hrow, _, _, ho0⟩ := hor
                simp only [LentV, e0, hb, Option.map_some]
                have hm := Nat.mul_le_mul_right t'.size hwl
                rw [Nat.add_mul] at hm
                refine ⟨hU k List.mem_cons_self b o hb, x0, cap, c, by rw [hlen], by rw [hlen]; exact hcap, hx, hc, by rw [hlen]; omega, fun j y hy => ?_⟩
                obtain ⟨ds, d1, d2⟩ := hrow (off + j) y (win_get hy)
                refine ⟨ds, d1.mono hS1 (fun _ _ => rfl), ?_⟩
                rw [Nat.add_mul, ← Nat.add_assoc] at d2
                exact d2
            · cases hh
          · cases hh
        · cases hh
      | nil => simp [callArgs] at hh
      | junk => simp [callArgs] at hh
      | val _ _ => simp [callArgs] at hh
      | ptr _ _ _ => simp [callArgs] at hh
      | iptr _ _ _ => simp [callArgs] at hh
      | nilp => simp [callArgs] at hh
      | agg _ => simp [callArgs] at hh
      | tup _ => simp [callArgs] at hh
      | clo _ _ => simp [callArgs] at hh
    | int _ => simp [callArgs] at hh
    | bool => simp [callArgs] at hh
    | str | os _ | op _ => simp [callArgs] at hh
    | unit => simp [callArgs] at hh
    | pair _ _ => simp [callArgs] at hh
end
variable {T : Told} {P : Program} {tb : Tb}
theorem ownK_ge : ∀ {ps : List (Ty × PM)} {i n : Nat}, n ∈ ownK ps i → i * 8 ≤ n := by
 intro ps
 induction ps with
 | nil => intro i n h; simp [ownK] at h
 | cons p ps ih =>
  intro i n h
  obtain ⟨t, m⟩ := p
  cases m <;> simp only [ownK, List.mem_cons] at h
  · have := ih h; omega
  · rcases h with rfl | h
    · exact Nat.le_refl _
    · have := ih h; omega
  · have := ih h; omega
theorem lentK_ge : ∀ {ps : List (Ty × PM)} {i n : Nat}, n ∈ lentK ps i → i * 8 ≤ n := by
 intro ps
 induction ps with
 | nil => intro i n h; simp [lentK] at h
 | cons p ps ih =>
  intro i n h
  obtain ⟨t, m⟩ := p
  cases m <;> simp only [lentK, List.mem_cons] at h
  · have := ih h; omega
  · have := ih h; omega
  · rcases h with rfl | h
    · exact Nat.le_refl _
    · have := ih h; omega
theorem ownK_lentK : ∀ {ps : List (Ty × PM)} {i n : Nat}, n ∈ ownK ps i → n ∉ lentK ps i := by
 intro ps
 induction ps with
 | nil => intro i n h; simp [ownK] at h
 | cons p ps ih =>
  intro i n h h'
  obtain ⟨t, m⟩ := p
  cases m <;> simp only [ownK, lentK, List.mem_cons] at h h'
  · exact ih h h'
  · rcases h with rfl | h
    · have := lentK_ge h'; omega
    · exact ih h h'
  · rcases h' with rfl | h'
    · have := ownK_ge h; omega
    · exact ih h h'
theorem nodup_get {l : List (Nat × (Nat × Nat))} (hn : (useK l).Nodup) : ∀ {n n' k o o' : Nat}, get l n = some (k, o) → get l n' = some (k, o') → n = n' := by
 induction l with
 | nil => intro n n' k o o' h; simp [get] at h
 | cons x l ih =>
  intro n n' k o o' h h'
  obtain ⟨m, k0, o0⟩ := x
  simp only [useK, List.map_cons, List.nodup_cons] at hn
  rw [get_cons] at h h'
  have mem : ∀ {n o}, get l n = some (k, o) → k ∈ useK l := fun h => List.mem_map.2 ⟨_, get_mem h, rfl⟩
  split at h
  · split at h'
    · omega
    · injection h with h; injection h with h _; subst h; exact absurd (mem h') hn.1
  · split at h'
    · injection h' with h'; injection h' with h' _; subst h'; exact absurd (mem h) hn.1
    · exact ih hn.2 h h'
theorem callArgs_uses {h : Hp} : ∀ {ps : List (Ty × PM)} {vs : List PV} {used seen : List Nat} {x : HL (fsts ps)} {w1 : List (Nat × Ob)} {i : Nat}, callArgs h ps vs used seen = some (x, w1) →
  ∀ {n k off : Nat}, (n, (k, off)) ∈ uses ps vs i →
   (k ∈ keysW (goneW ps vs) ∧ n ∈ ownK ps i ∧ off = 0 ∧ ∃ t xs, h k = some (.rows t xs .own)) ∨ (n ∈ lentK ps i ∧ ∃ t xs m, h k = some (.rows t xs m) ∧ m ≠ .frz) := by
 intro ps
 induction ps with
 | nil =>
  intro vs used seen x w1 i hh n k off hg
  cases vs <;> simp [uses] at hg
 | cons p ps ih =>
  intro vs used seen x w1 i hh n k off hg
  obtain ⟨t, m⟩ := p
  cases vs with
  | nil => cases m <;> simp [uses] at hg
  | cons v vs =>
   cases m with
   | imm =>
    have hh : (bif anyN (keysOf v.cells) used || !fits t v then none else
        (match decA h t v.cells with
        | some x => (match callArgs h ps vs used (keysOf v.cells ++ seen) with | some (xs, w) => some ((x, xs), frzW h (keysOf v.cells) ++ w) | none => none)
        | none => none) : Option (HL (fsts ((t, PM.imm) :: ps)) × List (Nat × Ob))) = some (x, w1) := by
      cases t <;> exact hh
    obtain ⟨h1, hh⟩ := bif_else hh
    split at hh
    · split at hh
      · rename_i xs w' hw
        have eu : uses ((t, PM.imm) :: ps) (v :: vs) i = uses ps vs (i + 1) := by cases t <;> cases v <;> rfl
        have eg : goneW ((t, PM.imm) :: ps) (v :: vs) = goneW ps vs := by cases t <;> cases v <;> rfl
        rw [eu] at hg
        rw [eg]
        exact ih hw hg
      · cases hh
    · cases hh
   | own =>
    cases t with
    | sl e =>
      cases v with
      | nil =>
        simp only [callArgs] at hh
        split at hh
        · rename_i xs w' hw
          exact (ih hw hg).imp (fun ⟨h1, h2, h3⟩ => ⟨h1, List.mem_cons_of_mem _ h2, h3⟩) id
        · cases hh
      | osl k0 off0 len =>
        cases off0 with
        | succ off => simp [callArgs] at hh
        | zero =>
          simp only [callArgs] at hh
          obtain ⟨h1, hh⟩ := bif_else hh
          split at hh
          · rename_i t' xs hk
            split at hh
            · split at hh
              · rename_i zs w' hw
                rcases List.mem_cons.1 hg with hg | hg
                · injection hg with e1 hg
                  injection hg with g1 g2
                  subst g1; subst g2; subst e1
                  exact .inl ⟨by simp [goneW, keysW], List.mem_cons_self, rfl, t', xs, hk⟩
                · exact (ih hw hg).imp (fun ⟨h1, h2, h3⟩ => ⟨List.mem_cons_of_mem _ h1, List.mem_cons_of_mem _ h2, h3⟩) id
              · cases hh
            · cases hh
          · cases hh
      | junk => simp [callArgs] at hh
      | val _ _ => simp [callArgs] at hh
      | ptr _ _ _ => simp [callArgs] at hh
      | iptr _ _ _ => simp [callArgs] at hh
      | nilp => simp [callArgs] at hh
      | agg _ => simp [callArgs] at hh
      | tup _ => simp [callArgs] at hh
      | clo _ _ => simp [callArgs] at hh
    | int _ => simp [callArgs] at hh
    | bool => simp [callArgs] at hh
    | str | os _ | op _ => simp [callArgs] at hh
    | unit => simp [callArgs] at hh
    | pair _ _ => simp [callArgs] at hh
   | lent =>
    cases t with
    | sl e =>
      cases v with
      | osl k0 off0 len =>
        simp only [callArgs] at hh
        obtain ⟨h1, hh⟩ := bif_else hh
        split at hh
        · cases hh
        · rename_i t' xs md hnf hk
          split at hh
          · split at hh
            · rename_i zs w' hw
              rcases List.mem_cons.1 hg with hg | hg
              · injection hg with e1 hg
                injection hg with g1 g2
                subst g1; subst e1
                exact .inr ⟨List.mem_cons_self, t', xs, md, hk, hnf⟩
              · exact (ih hw hg).imp id (fun ⟨h1, h2⟩ => ⟨List.mem_cons_of_mem _ h1, h2⟩)
            · cases hh
          · cases hh
        · cases hh
      | nil => simp [callArgs] at hh
      | junk => simp [callArgs] at hh
      | val _ _ => simp [callArgs] at hh
      | ptr _ _ _ => simp [callArgs] at hh
      | iptr _ _ _ => simp [callArgs] at hh
      | nilp => simp [callArgs] at hh
      | agg _ => simp [callArgs] at hh
      | tup _ => simp [callArgs] at hh
      | clo _ _ => simp [callArgs] at hh
    | int _ => simp [callArgs] at hh
    | bool => simp [callArgs] at hh
    | str | os _ | op _ => simp [callArgs] at hh
    | unit => simp [callArgs] at hh
    | pair _ _ => simp [callArgs] at hh
theorem callOuts_w {h : Hp} {w w' : World} {S' : Foot} {β βc : Con} : ∀ {ps : List (Ty × PM)} {vs : List PV} {used seen : List Nat} {x : HL (fsts ps)} {w1 : List (Nat × Ob)} {i : Nat} {y : HL (lents ps)} {w2 : List (Nat × Ob)},
  callArgs h ps vs used seen = some (x, w1) → callOuts h ps vs y = some w2 → LentsO w w' S' βc ps i x y → (∀ n, i * 8 ≤ n → βc n = conOf β (uses ps vs i) n) →
  (∀ n k off, get (uses ps vs i) n = some (k, off) → n ∈ lentK ps i → k ∈ keysW w2) ∧
  ∀ k ob, get w2 k = some ob → ∃ (n off : Nat) (len : Option Nat) (t : Ty) (xs ys : List t.den) (m : Md), get (uses ps vs i) n = some (k, off * t.size) ∧ n ∈ lentK ps i ∧ h k = some (.rows t xs m) ∧ ob = .rows t (over xs off ys) m ∧
   LentO w w' S' ((β k).map fun p => (p.1, p.2 + off * t.size)) t (win xs off len) ys ∧ ∃ j : Nat, vs[j]? = some (PV.osl k off len) := by
 intro ps
 induction ps with
 | nil =>
  intro vs used seen x w1 i y w2 hh ho hl hβ
  cases vs with
  | nil =>
   simp only [callOuts] at ho
   injection ho with ho
   subst ho
   exact ⟨fun n k off h => by simp [uses, get] at h, fun k ob h => by simp [get] at h⟩
  | cons v vs => simp [callArgs] at hh
 | cons p ps ih =>
  intro vs used seen x w1 i y w2 hh ho hl hβ
  obtain ⟨t, m⟩ := p
  cases vs with
  | nil => cases t <;> cases m <;> simp [callArgs] at hh
  | cons v vs =>
   cases m with
   | imm =>
    have hh : (bif anyN (keysOf v.cells) used || !fits t v then none else
        (match decA h t v.cells with
        | some x => (match callArgs h ps vs used (keysOf v.cells ++ seen) with | some (xs, w) => some ((x, xs), frzW h (keysOf v.cells) ++ w) | none => none)
        | none => none) : Option (HL (fsts ((t, PM.imm) :: ps)) × List (Nat × Ob))) = some (x, w1) := by
      cases t <;> exact hh
    obtain ⟨h1, hh⟩ := bif_else hh
    split at hh
    · split at hh
      · rename_i xs wq hw
        injection hh with hh
        injection hh with hh1 hh
        subst hh1
        have eu : uses ((t, PM.imm) :: ps) (v :: vs) i = uses ps vs (i + 1) := by cases t <;> cases v <;> rfl
        rw [eu] at hβ ⊢
        have ho' : callOuts h ps vs y = some w2 := by cases t <;> exact ho
        have hl' : LentsO w w' S' βc ps (i + 1) xs y := by cases t <;> exact hl
        obtain ⟨r1, r2⟩ := ih hw ho' hl' (fun n hn => hβ n (by omega))
        refine ⟨r1, fun k ob hk => ?_⟩
        obtain ⟨n, off, len, t, xs, ys, m, q1, q2, q3, q4, q5, j, q6⟩ := r2 k ob hk
        exact ⟨n, off, len, t, xs, ys, m, q1, q2, q3, q4, q5, j + 1, q6⟩
      · cases hh
    · cases hh
   | own =>
    cases t with
    | sl e =>
      cases v with
      | nil =>
        simp only [callArgs] at hh
        split at hh
        · rename_i xs wq hw
          injection hh with hh
          injection hh with hh1 hh
          subst hh1
          obtain ⟨r1, r2⟩ := ih (i := i + 1) hw ho hl (fun n hn => hβ n (by omega))
          refine ⟨r1, fun k ob hk => ?_⟩
          obtain ⟨n, off, len, t, xs, ys, m, q1, q2, q3, q4, q5, j, q6⟩ := r2 k ob hk
          exact ⟨n, off, len, t, xs, ys, m, q1, q2, q3, q4, q5, j + 1, q6⟩
        · cases hh
      | osl k0 off0 len =>
        cases off0 with
        | succ off => simp [callArgs] at hh
        | zero =>
          simp only [callArgs] at hh
          obtain ⟨h1, hh⟩ := bif_else hh
          split at hh
          · split at hh
            · split at hh
              · rename_i zs wq hw
                injection hh with hh
                injection hh with hh1 hh
                subst hh1
                have hβ' : ∀ n, (i + 1) * 8 ≤ n → βc n = conOf β (uses ps vs (i + 1)) n := fun n hn => by
                  rw [hβ n (by omega)]
                  simp only [uses, conOf, get_cons, if_neg (show ¬ i * 8 = n by omega)]
                obtain ⟨r1, r2⟩ := ih (i := i + 1) hw ho hl hβ'
                have hne : ∀ n, n ∈ lentK ps (i + 1) → ¬ i * 8 = n := fun n hn => by have := lentK_ge hn; omega
                refine ⟨fun n k off hg hn => r1 n k off ?_ hn, fun k ob hk => ?_⟩
                · simp only [uses, get_cons, if_neg (hne n hn)] at hg; exact hg
                · obtain ⟨n, off, len, t, xs, ys, m, q1, q2, q3, q4, q5, j, q6⟩ := r2 k ob hk
                  exact ⟨n, off, len, t, xs, ys, m, by simp only [uses, get_cons, if_neg (hne n q2)]; exact q1, q2, q3, q4, q5, j + 1, q6⟩
              · cases hh
            · cases hh
          · cases hh
      | junk => simp [callArgs] at hh
      | val _ _ => simp [callArgs] at hh
      | ptr _ _ _ => simp [callArgs] at hh
      | iptr _ _ _ => simp [callArgs] at hh
      | nilp => simp [callArgs] at hh
      | agg _ => simp [callArgs] at hh
      | tup _ => simp [callArgs] at hh
      | clo _ _ => simp [callArgs] at hh
    | int _ => simp [callArgs] at hh
    | bool => simp [callArgs] at hh
    | str | os _ | op _ => simp [callArgs] at hh
    | unit => simp [callArgs] at hh
    | pair _ _ => simp [callArgs] at hh
   | lent =>
    cases t with
    | sl e =>
      cases v with
      | osl k0 off0 len =>
        simp only [callArgs] at hh
        obtain ⟨h1, hh⟩ := bif_else hh
        split at hh
        · cases hh
        · rename_i t' xs md hnf hk
          split at hh
          · rename_i us hus
            obtain ⟨rfl, rfl⟩ := cstl_eq hus
            split at hh
            · rename_i zs wq hw
              injection hh with hh
              injection hh with hh1 hh
              subst hh1
              obtain ⟨y0, y⟩ := y
              simp only [callOuts, hk] at ho
              split at ho
              · rename_i z0 hz0
                obtain ⟨e0, rfl⟩ := cstl_eq hz0
                split at ho
                · rename_i w3 hw3
                  injection ho with ho
                  subst ho
                  obtain ⟨hl0, hl⟩ := hl
                  have hβ' : ∀ n, (i + 1) * 8 ≤ n → βc n = conOf β (uses ps vs (i + 1)) n := fun n hn => by
                    rw [hβ n (by omega)]
                    simp only [uses, conOf, get_cons, if_neg (show ¬ i * 8 = n by omega)]
                  obtain ⟨r1, r2⟩ := ih (i := i + 1) hw hw3 hl hβ'
                  have hne : ∀ n, n ∈ lentK ps (i + 1) → ¬ i * 8 = n := fun n hn => by have := lentK_ge hn; omega
                  have e1 : βc (i * 8) = (β k0).map fun p => (p.1, p.2 + off0 * t'.size) := by
                    rw [hβ _ (Nat.le_refl _)]
                    show conOf β ((i * 8, (k0, off0 * t'.size)) :: uses ps vs (i + 1)) (i * 8) = _
                    simp [conOf, get_cons]
                  refine ⟨fun n k off hg hn => ?_, fun k ob hk' => ?_⟩
                  · simp only [uses, get_cons] at hg
                    simp only [keysW, List.map_cons, List.mem_cons]
                    split at hg
                    · injection hg with hg; injection hg with hg _; exact .inl hg.symm
                    · refine .inr (r1 n k off hg ?_)
                      rename_i hh
                      rcases List.mem_cons.1 hn with h | h
                      · exact absurd h.symm hh
                      · exact h
                  · rw [get_cons] at hk'
                    split at hk'
                    · rename_i e2
                      subst e2
                      injection hk' with hk'
                      subst hk'
                      rw [e1] at hl0
                      exact ⟨i * 8, off0, len, t', _, _, md, by simp [uses, get_cons], List.mem_cons_self, hk, rfl, hl0, 0, rfl⟩
                    · obtain ⟨n, off, len', t, xs, ys, m, q1, q2, q3, q4, q5, j, q6⟩ := r2 k ob hk'
                      exact ⟨n, off, len', t, xs, ys, m, by simp only [uses, get_cons, if_neg (hne n q2)]; exact q1, List.mem_cons_of_mem _ q2, q3, q4, q5, j + 1, q6⟩
                · cases ho
              · cases ho
            · cases hh
          · cases hh
        · cases hh
      | nil => simp [callArgs] at hh
      | junk => simp [callArgs] at hh
      | val _ _ => simp [callArgs] at hh
      | ptr _ _ _ => simp [callArgs] at hh
      | iptr _ _ _ => simp [callArgs] at hh
      | nilp => simp [callArgs] at hh
      | agg _ => simp [callArgs] at hh
      | tup _ => simp [callArgs] at hh
      | clo _ _ => simp [callArgs] at hh
    | int _ => simp [callArgs] at hh
    | bool => simp [callArgs] at hh
    | str | os _ | op _ => simp [callArgs] at hh
    | unit => simp [callArgs] at hh
    | pair _ _ => simp [callArgs] at hh
theorem callRes_w {h : Hp} {w' : World} {S' : Foot} {ρ : Con} : ∀ {rs : List (Ty × Bool)} {y : HL (fsts rs)} {k j : Nat} {l : List PV} {w3 : List (Nat × Ob)} {vs : List Value}, callRes h rs y k = some (l, w3) → ResV w' S' ρ rs j y vs →
  l.length = rs.length ∧ ∀ n ob, get w3 n = some ob → k ≤ n ∧ n < k + rs.length ∧ h n = none ∧ ∃ (e : Ty) (xs : List e.den) (v : Value), ob = .rows e xs .own ∧ OwnV w' S' (ρ (j + (n - k))) e xs v := by
 intro rs
 induction rs with
 | nil =>
  intro y k j l w3 vs hh hr
  simp only [callRes] at hh
  injection hh with hh
  injection hh with h1 h2
  subst h1; subst h2
  exact ⟨rfl, fun n ob h => by simp [get] at h⟩
 | cons r rs ih =>
  intro y k j l w3 vs hh hr
  obtain ⟨t, m⟩ := r
  obtain ⟨x, q⟩ := y
  cases m with
  | false =>
   have hh : (match callRes h rs q (k + 1) with | some (l, w) => some (toPV t x :: l, w) | none => none) = some (l, w3) := by cases t <;> exact hh
   cases vs with
   | nil => exfalso; cases t <;> exact hr
   | cons v vs =>
    have hr : VRel w' S' t x v ∧ ResV w' S' ρ rs (j + 1) q vs := by cases t <;> exact hr
    split at hh
    · rename_i l0 w0 h0
      injection hh with hh
      injection hh with h1 h2
      subst h1; subst h2
      obtain ⟨a1, a2⟩ := ih h0 hr.2
      refine ⟨by simp [a1], fun n ob hn => ?_⟩
      obtain ⟨b1, b2, b3, e, xs, v', b4, b5⟩ := a2 n ob hn
      exact ⟨by omega, by simp; omega, b3, e, xs, v', b4, by rwa [show j + (n - k) = j + 1 + (n - (k + 1)) by omega]⟩
    · cases hh
  | true =>
   cases t with
   | sl e =>
    cases vs with
    | nil => exact hr.elim
    | cons v vs =>
      obtain ⟨hr0, hr⟩ := hr
      simp only [callRes] at hh
      split at hh
      · rename_i hkn
        split at hh
        · rename_i l0 w0 h0
          injection hh with hh
          injection hh with h1 h2
          subst h1; subst h2
          obtain ⟨a1, a2⟩ := ih h0 hr
          refine ⟨by simp [a1], fun n ob hn => ?_⟩
          rw [get_cons] at hn
          split at hn
          · rename_i e1
            subst e1
            injection hn with hn
            subst hn
            exact ⟨Nat.le_refl _, by simp, hkn, e, x, v, rfl, by simpa using hr0⟩
          · obtain ⟨b1, b2, b3, e, xs, v', b4, b5⟩ := a2 n ob hn
            exact ⟨by omega, by simp; omega, b3, e, xs, v', b4, by rwa [show j + (n - k) = j + 1 + (n - (k + 1)) by omega]⟩
        · cases hh
      · cases hh
   | int _ => simp [callRes] at hh
   | bool => simp [callRes] at hh
   | str | os _ | op _ => simp [callRes] at hh
   | unit => simp [callRes] at hh
   | pair _ _ => simp [callRes] at hh
theorem callRes_v {h : Hp} {w' : World} {S' : Foot} {ρ β' : Con} {g' : Hp} : ∀ {rs : List (Ty × Bool)} {y : HL (fsts rs)} {k j : Nat} {l : List PV} {w3 : List (Nat × Ob)} {vs : List Value}, callRes h rs y k = some (l, w3) → ResV w' S' ρ rs j y vs →
  (∀ n ob, get w3 n = some ob → g' n = some ob ∧ β' n = ρ (j + (n - k))) → All2 (TRel1 w' S' β' g') l vs := by
 intro rs
 induction rs with
 | nil =>
  intro y k j l w3 vs hh hr hg
  simp only [callRes] at hh
  injection hh with hh
  injection hh with h1 h2
  subst h1
  cases vs with
  | nil => trivial
  | cons _ _ => exact hr.elim
 | cons r rs ih =>
  intro y k j l w3 vs hh hr hg
  obtain ⟨t, m⟩ := r
  obtain ⟨x, q⟩ := y
  cases m with
  | false =>
   have hh : (match callRes h rs q (k + 1) with | some (l, w) => some (toPV t x :: l, w) | none => none) = some (l, w3) := by cases t <;> exact hh
   cases vs with
   | nil => exfalso; cases t <;> exact hr
   | cons v vs =>
    have hr : VRel w' S' t x v ∧ ResV w' S' ρ rs (j + 1) q vs := by cases t <;> exact hr
    split at hh
    · rename_i l0 w0 h0
      injection hh with hh
      injection hh with h1 h2
      subst h1; subst h2
      refine ⟨hr.1.rel, ih h0 hr.2 fun n ob hn => ?_⟩
      have := (callRes_w h0 hr.2).2 n ob hn
      obtain ⟨g1, g2⟩ := hg n ob hn
      exact ⟨g1, by rw [g2]; congr 1; omega⟩
    · cases hh
  | true =>
   cases t with
   | sl e =>
    cases vs with
    | nil => exact hr.elim
    | cons v vs =>
      obtain ⟨hr0, hr⟩ := hr
      simp only [callRes] at hh
      split at hh
      · rename_i hkn
        split at hh
        · rename_i l0 w0 h0
          injection hh with hh
          injection hh with h1 h2
          subst h1; subst h2
          refine ⟨?_, ih h0 hr fun n ob hn => ?_⟩
          · obtain ⟨g1, g2⟩ := hg k (.rows e x .own) (by simp [get_cons])
            have : TRel0 w' S' β' g' (.osl k 0 none) v := by
             simp only [TRel0, g1]
             refine ⟨by simp [winOk], ?_⟩
             rw [Nat.sub_self, Nat.add_zero] at g2
             simp only [OslV, g2]
             simp only [OwnV] at hr0
             cases hρ : ρ j with
             | none => rw [hρ] at hr0; obtain ⟨rfl, rfl⟩ := hr0; simp [wlen]
             | some p =>
              obtain ⟨b, o⟩ := p
              rw [hρ] at hr0
              obtain ⟨rfl, _, x0, cap, c, rfl, h1, h2, h3, h4, _⟩ := hr0
              exact ⟨x0, cap, by simp [wlen], by simpa [wlen] using h1, by simpa using h2, fun _ => ⟨c, h3, by simpa using h4⟩⟩
            exact this.up1
          · have hb := (callRes_w h0 hr).2 n ob hn
            obtain ⟨g1, g2⟩ := hg n ob (by rw [get_cons, if_neg (by omega)]; exact hn)
            exact ⟨g1, by rw [g2]; congr 1; omega⟩
        · cases hh
      · cases hh
   | int _ => simp [callRes] at hh
   | bool => simp [callRes] at hh
   | str | os _ | op _ => simp [callRes] at hh
   | unit => simp [callRes] at hh
   | pair _ _ => simp [callRes] at hh
theorem callRes_flat {h : Hp} : ∀ {rs : List (Ty × Bool)} {y : HL (fsts rs)} {k : Nat} {l : List PV} {w3 : List (Nat × Ob)}, callRes h rs y k = some (l, w3) → flatR rs = true →
  ∀ n t xs m, get w3 n = some (.rows t xs m) → t.flat = true := by
 intro rs
 induction rs with
 | nil => intro y k l w3 h1 _ n t xs m hg; simp only [callRes, Option.some.injEq, Prod.mk.injEq] at h1; obtain ⟨_, rfl⟩ := h1; simp [get] at hg
 | cons p rs ih =>
  intro y k l w3 h1 hf n t xs m hg
  obtain ⟨t0, b0⟩ := p
  obtain ⟨x, q⟩ := y
  cases b0 with
  | false =>
   have hh : (match callRes h rs q (k + 1) with | some (l, w) => some (toPV t0 x :: l, w) | none => none) = some (l, w3) := by cases t0 <;> exact h1
   have hf' : flatR rs = true := by cases t0 <;> exact hf
   split at hh
   · rename_i l' w' hw
     injection hh with hh
     injection hh with _ hh
     subst hh
     exact ih hw hf' n t xs m hg
   · cases hh
  | true =>
   cases t0 with
   | sl e =>
     simp only [callRes] at h1
     simp only [flatR, Bool.and_eq_true] at hf
     split at h1
     · split at h1
       · rename_i l' w' hw
         injection h1 with h1
         injection h1 with _ h1
         subst h1
         rw [get_cons] at hg
         split at hg
         · injection hg with hg; injection hg with hg; subst hg; exact hf.1
         · exact ih hw hf.2 n t xs m hg
       · cases h1
     · cases h1
   | int _ => simp [callRes] at h1
   | bool => simp [callRes] at h1
   | str => simp [callRes] at h1
   | unit => simp [callRes] at h1
   | pair _ _ => simp [callRes] at h1
   | os _ => simp [callRes] at h1
   | op _ => simp [callRes] at h1
theorem callOuts_flat {h : Hp} : ∀ {ps : List (Ty × PM)} {vs : List PV} {y : HL (lents ps)} {w2 : List (Nat × Ob)}, callOuts h ps vs y = some w2 → flatP ps = true →
  ∀ n t xs m, get w2 n = some (.rows t xs m) → t.flat = true := by
 intro ps
 induction ps with
 | nil =>
  intro vs y w2 h1 _ n t xs m hg
  cases vs with
  | nil => simp only [callOuts, Option.some.injEq] at h1; subst h1; simp [get] at hg
  | cons _ _ => simp [callOuts] at h1
 | cons p ps ih =>
  intro vs y w2 h1 hf n t xs m hg
  obtain ⟨t0, m0⟩ := p
  cases vs with
  | nil => cases t0 <;> cases m0 <;> simp [callOuts] at h1
  | cons v vs =>
   cases m0 with
   | imm =>
    have h2 : ∃ y' : HL (lents ps), callOuts h ps vs y' = some w2 := by cases t0 <;> exact ⟨y, h1⟩
    obtain ⟨y', h2⟩ := h2
    exact ih h2 (by cases t0 <;> exact hf) n t xs m hg
   | own =>
    have h2 : ∃ y' : HL (lents ps), callOuts h ps vs y' = some w2 := by cases t0 <;> exact ⟨y, h1⟩
    obtain ⟨y', h2⟩ := h2
    exact ih h2 (by cases t0 <;> first | exact hf | (simp only [flatP, Bool.and_eq_true] at hf; exact hf.2)) n t xs m hg
   | lent =>
    cases t0 with
    | sl e =>
     simp only [flatP, Bool.and_eq_true] at hf
     cases v with
     | osl k off len =>
      obtain ⟨ys, r⟩ := y
      simp only [callOuts] at h1
      split at h1
      · rename_i t1 xs1 m1 hk
        split at h1
        · rename_i zs hz
          obtain ⟨e1, _⟩ := cstl_eq hz
          split at h1
          · rename_i w' hw
            injection h1 with h1
            subst h1
            rw [get_cons] at hg
            split at hg
            · injection hg with hg; injection hg with hg; subst hg; rw [← e1]; exact hf.1
            · exact ih hw hf.2 n t xs m hg
          · cases h1
        · cases h1
      · cases h1
     | junk => simp [callOuts] at h1
     | val _ _ => simp [callOuts] at h1
     | nil => simp [callOuts] at h1
     | ptr _ _ _ => simp [callOuts] at h1
     | iptr _ _ _ => simp [callOuts] at h1
     | nilp => simp [callOuts] at h1
     | agg _ => simp [callOuts] at h1
     | tup _ => simp [callOuts] at h1
     | clo _ _ => simp [callOuts] at h1
    | int _ => simp [callOuts] at h1
    | bool => simp [callOuts] at h1
    | str => simp [callOuts] at h1
    | unit => simp [callOuts] at h1
    | pair _ _ => simp [callOuts] at h1
    | os _ => simp [callOuts] at h1
    | op _ => simp [callOuts] at h1
variable {T : Told} {P : Program} {tb : Tb}
theorem run_callFunc {f : FuncId} {fn : Func} (h1 : P.funcs[f]? = some fn) (h2 : (fn.name == "runtime.NumGoroutine") = false) (h3 : fn.body.isNone = false) (args : Array Value) (w : World) :
  (callFunc f args).run P w = .ok (.enter f args) w := by
 have h2' : ¬ fn.name = "runtime.NumGoroutine" := by simpa using h2
 have h3' : ¬ fn.body = none := by intro e; rw [e] at h3; cases h3
 unfold callFunc
 simp [Sem.run_bind, h1, h2', h3']
theorem rowAt_over' {w w' : World} {S S' : Foot} (hS : ∀ b, S b → S' b) (hw : ∀ b, S b → w'.heap[b]? = w.heap[b]?) {t : Ty} {xs ys : List t.den} {b o off : Nat} {c0 c : Array Value} (hc0 : Blk w b c0) (hc : Blk w' b c)
   (hr : RowAt (Cell w S t) t.size w b o xs) (hoff : off + ys.length ≤ xs.length) (hout : ∀ j, (j < o + off * t.size ∨ o + off * t.size + ys.length * t.size ≤ j) → c[j]? = c0[j]?)
   (hn : RowAt (Cell w' S' t) t.size w' b (o + off * t.size) ys) : RowAt (Cell w' S' t) t.size w' b o (over xs off ys) := by
 intro i x hx
 rcases over_get hoff hx with ⟨hi, hx⟩ | ⟨hi1, hi2, hx⟩
 · obtain ⟨ds, e1, e2⟩ := hr i x hx
   refine ⟨ds, e1.mono hS hw, fun j v hv => ?_⟩
   have hj := (List.getElem?_eq_some_iff.1 hv).1
   rw [e1.length] at hj
   have h3 := e2 j v hv
   rw [hc0.cell] at h3
   rw [hc.cell, hout]
   · exact h3
   · rcases hi with hi | hi
     · left
       have := Nat.mul_le_mul_right t.size (show i + 1 ≤ off from hi)
       rw [Nat.add_mul, Nat.one_mul] at this; omega
     · right
       have := Nat.mul_le_mul_right t.size hi
       rw [Nat.add_mul] at this; omega
 · obtain ⟨ds, e1, e2⟩ := hn _ x hx
   refine ⟨ds, e1, ?_⟩
   rwa [show o + i * t.size = o + off * t.size + (i - off) * t.size by
     have : i * t.size = off * t.size + (i - off) * t.size := by rw [← Nat.add_mul]; congr 1; omega
     omega]
theorem goneW_gone : ∀ {ps : List (Ty × PM)} {vs : List PV} {k : Nat} {ob : Ob}, get (goneW ps vs) k = some ob → ob = .gone := by
 intro ps
 induction ps with
 | nil => intro vs k ob h; cases vs <;> simp [goneW, get] at h
 | cons p ps ih =>
  intro vs k ob h
  obtain ⟨t, m⟩ := p
  cases vs with
  | nil => cases t <;> cases m <;> simp [goneW, get] at h
  | cons v vs =>
   have hd : ∀ q, get ((q, Ob.gone) :: goneW ps vs) k = some ob → ob = .gone := by
    intro q h
    rw [get_cons] at h
    split at h
    · injection h with h; exact h.symm
    · exact ih h
   cases m with
   | own => cases t <;> cases v <;> first | exact ih h | exact hd _ h
   | imm => cases t <;> cases v <;> exact ih h
   | lent => cases t <;> cases v <;> exact ih h
theorem goneW_uses : ∀ {ps : List (Ty × PM)} {vs : List PV} {i k : Nat}, k ∈ keysW (goneW ps vs) → ∃ n off, (n, (k, off)) ∈ uses ps vs i ∧ n ∈ ownK ps i := by
 intro ps
 induction ps with
 | nil => intro vs i k h; cases vs <;> simp [goneW, keysW] at h
 | cons p ps ih =>
  intro vs i k h
  obtain ⟨t, m⟩ := p
  cases vs with
  | nil => cases t <;> cases m <;> simp [goneW, keysW] at h
  | cons v vs =>
   cases m with
   | own =>
    have tl : k ∈ keysW (goneW ps vs) → ∃ n off, (n, (k, off)) ∈ uses ps vs (i + 1) ∧ n ∈ ownK ((t, PM.own) :: ps) i := fun h => by
     obtain ⟨n, off, h1, h2⟩ := ih (i := i + 1) h
     exact ⟨n, off, h1, List.mem_cons_of_mem _ h2⟩
    have hd : ∀ q, k ∈ keysW ((q, Ob.gone) :: goneW ps vs) → ∃ n off, (n, (k, off)) ∈ (i * 8, (q, 0)) :: uses ps vs (i + 1) ∧ n ∈ ownK ((t, PM.own) :: ps) i := by
     intro q h
     simp only [keysW, List.map_cons, List.mem_cons] at h
     rcases h with rfl | h
     · exact ⟨i * 8, 0, List.mem_cons_self, List.mem_cons_self⟩
     · obtain ⟨n, off, h1, h2⟩ := tl h
       exact ⟨n, off, List.mem_cons_of_mem _ h1, h2⟩
    cases t <;> cases v <;> first | exact tl h | exact hd _ h
   | imm => cases t <;> cases v <;> exact ih h
   | lent =>
    have hh : k ∈ keysW (goneW ps vs) := by cases t <;> cases v <;> exact h
    obtain ⟨n, off, h1, h2⟩ := ih (i := i + 1) hh
    refine ⟨n, off, ?_, h2⟩
    cases t <;> cases v <;> first | exact h1 | exact List.mem_cons_of_mem _ h1
theorem nodup_mem {l : List (Nat × (Nat × Nat))} (hn : (useK l).Nodup) : ∀ {n n' k o o' : Nat}, (n, (k, o)) ∈ l → (n', (k, o')) ∈ l → n = n' := by
 induction l with
 | nil => intro n n' k o o' h; simp at h
 | cons x l ih =>
  intro n n' k o o' h h'
  simp only [useK, List.map_cons, List.nodup_cons] at hn
  have mem : ∀ {n o}, (n, (k, o)) ∈ l → k ∈ useK l := fun h => List.mem_map.2 ⟨_, h, rfl⟩
  rcases List.mem_cons.1 h with e | g
  · subst e
    rcases List.mem_cons.1 h' with e' | g'
    · injection e' with e' _; exact e'.symm
    · exact absurd (mem g') hn.1
  · rcases List.mem_cons.1 h' with e' | g'
    · subst e'; exact absurd (mem g) hn.1
    · exact ih hn.2 g g'
theorem call_sim0 {env : Env} (hE : EnvOk T P env) {o : Oper} {s : St} {hp : Hp} (hs : Sub hp s) {f : FuncId} {ct : Ctr} (hf : env f = some ct) (hwi : ct.wi = none) {args : List PV} {d : Nat} (hd : o.dst = some d)
   (hn : ∀ k, d * 8 ≤ k → k < d * 8 + 8 → hp k = none → get s.h k = none) {ef : Eff}
   (hrun : ∀ (B : Base) (w : World) (S : Foot) (β : Con) (a : Act), Rel T B w S β s a → ∃ us : List Value, (execOp a.eval o).run P w = (callFunc f us.toArray).run P w ∧ All2 (TRel w S β (get s.h)) args us)
   (h : effCall0 hp o.dst ct args some = some ef) : OpSim T P o s ef := by
 intro B w S β a R hdo next Q hnx
 obtain ⟨us, hrun, hus⟩ := hrun B w S β a R
 obtain ⟨⟨fn, f1, f2, f3⟩, hdoes, hflat⟩ := hE f ct hf
 simp only [Ctr.flat, Bool.and_eq_true] at hflat
 rw [hwi] at hdoes
 unfold Oper.wp
 rw [hrun, run_callFunc f1 f2 f3]
 rw [hd] at h
 unfold effCall0 at h
 simp only at h
 split at h
 · rename_i x w1 hca
   cases hF : ct.F x with
   | none => rw [hF] at h; cases h
   | some r =>
    rw [hF] at h
    simp only [Option.bind_some] at h
    split at h
    · rename_i w2 hco
      have hres : ∃ l w3, callRes hp ct.rs (ct.enc r).2 (d * 8) = some (l, w3) ∧ l.length ≤ 8 ∧ ef.hw = w3 ++ w2 ++ w1 ∧ ((∃ v, l = [v] ∧ ef.v = some v) ∨ ((∀ v, l ≠ [v]) ∧ ef.v = some (.tup l))) := by
       split at h
       · rename_i v w3 hr; injection h with h; subst h; exact ⟨[v], w3, hr, by simp, rfl, .inl ⟨v, rfl, rfl⟩⟩
       · rename_i l w3 hne hr
         obtain ⟨h1, h⟩ := bif_some h
         injection h with h; subst h
         exact ⟨l, w3, hr, Nat.le_of_ble_eq_true h1, rfl, .inr ⟨fun v e => hne v (by rw [e]), rfl⟩⟩
       · cases h
      clear h
      obtain ⟨l, w3, hcr, hl8, hhw, hv⟩ := hres
      obtain ⟨k1, k2, k3, k4, k5⟩ := callArgs_keys hca 0
      obtain ⟨S1, R1, hS1, hS1n, hdec⟩ := R.frz hs (immKeys ct.ps args)
      generalize hK : immKeys ct.ps args = K at *
      have hfz : ∀ k, k ∉ K → get (frzW hp K ++ s.h) k = get s.h k := fun k hk => by rw [get_append, frzW_none hk]; rfl
      have huse : ∀ {n k off : Nat}, (n, (k, off)) ∈ uses ct.ps args 0 → k ∉ K ∧ ∃ t xs m, hp k = some (.rows t xs m) ∧ m ≠ .frz := by
       intro n k off hg
       refine ⟨(k2 k (List.mem_map.2 ⟨_, hg, rfl⟩)).2.2, ?_⟩
       rcases callArgs_uses hca hg with ⟨_, _, _, t, xs, h⟩ | ⟨_, t, xs, m, h1, h2⟩
       · exact ⟨t, xs, _, h, by simp⟩
       · exact ⟨t, xs, m, h1, h2⟩
      have hlive : ∀ {n k off : Nat}, (n, (k, off)) ∈ uses ct.ps args 0 → ∃ ob, get s.h k = some ob ∧ ob.live = true ∧ get (frzW hp K ++ s.h) k = some ob := by
       intro n k off hg
       obtain ⟨h1, t, xs, m, h2, h3⟩ := huse hg
       exact ⟨_, hs k _ h2, by cases m <;> first | rfl | exact absurd rfl h3, by rw [hfz k h1]; exact hs k _ h2⟩
      have huS : ∀ k ∈ useK (uses ct.ps args 0), ∀ b o', β k = some (b, o') → ¬ S1 b := by
       intro k hk b o' hb
       obtain ⟨⟨n, k', off⟩, hm, rfl⟩ := List.mem_map.1 hk
       obtain ⟨ob, _, h2, h3⟩ := hlive hm
       exact (R1.liveS h3 h2 hb).1
      have hcon : ∀ {n b o' : Nat}, conOf β (uses ct.ps args 0) n = some (b, o') → ∃ k off o1, get (uses ct.ps args 0) n = some (k, off) ∧ β k = some (b, o1) ∧ o' = o1 + off := by
       intro n b o' hc
       unfold conOf at hc
       split at hc
       · rename_i k off hg
         cases hb : β k with
         | none => rw [hb] at hc; cases hc
         | some p =>
           obtain ⟨b1, o1⟩ := p
           rw [hb] at hc
           simp only [Option.map_some] at hc
           injection hc with hc
           injection hc with h1 h2
           subst h1
           exact ⟨k, off, o1, hg, hb, h2.symm⟩
       · cases hc
      have hsame : ∀ {k k' b o1 o2 n n' off off' : Nat}, (n, (k, off)) ∈ uses ct.ps args 0 → (n', (k', off')) ∈ uses ct.ps args 0 → β k = some (b, o1) → β k' = some (b, o2) → k = k' := by
       intro k k' b o1 o2 n n' off off' hg hg' hb hb'
       obtain ⟨ob, h1, h2, _⟩ := hlive hg
       obtain ⟨ob', h1', h2', _⟩ := hlive hg'
       exact R.inj k k' ob ob' b o1 o2 h1 h2 h1' h2' hb hb'
      have hen : Enter T w S1 (conOf β (uses ct.ps args 0)) ct.ps x us := by
       refine ⟨callArgs_args R hs hS1 hdec hca hus (fun k hk => by rw [← hK]; exact hk) huS (fun _ _ => rfl), fun n b o' hc => ?_, fun n n' b o1 o2 h1 h2 => ?_, R1.Slt, R1.told, fun b hb => R1.S0 b (R1.toldS b hb)⟩
       · obtain ⟨k, off, o1, hg, _⟩ := hcon hc
         exact (uses_ge hg).2
       · obtain ⟨k, off, o1', hg, hb, _⟩ := hcon h1
         obtain ⟨k', off', o2', hg', hb', _⟩ := hcon h2
         have := hsame (get_mem hg) (get_mem hg') hb hb'
         subst this
         exact nodup_get k1 hg hg'
      refine Calls.mono (hdoes x r hF w S1 _ us hen) fun e w' he => ?_
      cases e with
      | panicked c => exact he.elim
      | outgrown => exact he.elim
      | returned v =>
       obtain ⟨S', ρ, L⟩ := he
       obtain ⟨vs, rfl, hrs⟩ := L.res
       obtain ⟨hll, hw3⟩ := callRes_w hcr hrs
       obtain ⟨o1, o2⟩ := callOuts_w (β := β) hca hco L.outs (fun _ _ => rfl)
       have hnew : ∀ n ob, get w3 n = some ob → get s.h n = none := fun n ob hg => by
         obtain ⟨a1, a2, a3, _⟩ := hw3 n ob hg
         exact hn n a1 (by omega) a3
       have hnew' : ∀ n ob, get w3 n = some ob → get (frzW hp K ++ s.h) n = none := fun n ob hg => by
         have h1 := hnew n ob hg
         rw [get_append, h1]
         cases hq : get (frzW hp K) n with
         | none => rfl
         | some ob' =>
           obtain ⟨ob0, q1, _⟩ := get_frzW hq
           rw [hs n _ q1] at h1; cases h1
       let β' : Con := fun n => if n ∈ keysW w3 then ρ (n - d * 8) else β n
       have hβ3 : ∀ n ob, get w3 n = some ob → β' n = ρ (n - d * 8) := fun n ob hg => by simp only [β', if_pos (mem_keysW_of_get hg)]
       have hβo : ∀ n ob, get s.h n = some ob → β' n = β n := fun n ob hg => by
         have : n ∉ keysW w3 := fun hm => by
           obtain ⟨ob', h'⟩ := get_of_mem_keysW hm
           rw [hnew n ob' h'] at hg; cases hg
         simp only [β', if_neg this]
       have hownk : ∀ {n b o' : Nat}, n ∈ ownK ct.ps 0 → conOf β (uses ct.ps args 0) n = some (b, o') → ∃ k t xs, get s.h k = some (.rows t xs .own) ∧ k ∈ keysW (goneW ct.ps args) ∧ β k = some (b, 0) ∧ o' = 0 := by
         intro n b o' hm hc
         obtain ⟨k, off, o1', hg, hb, rfl⟩ := hcon hc
         rcases callArgs_uses hca (get_mem hg) with ⟨g1, _, rfl, t, xs, g2⟩ | ⟨g1, _⟩
         · have g3 := hs k _ g2
           have := R.obs k _ g3
           simp only [ORel, hb] at this
           have h0 := this.2.2.2.2 trivial
           subst h0
           exact ⟨k, t, xs, g3, g1, hb, rfl⟩
         · exact absurd g1 (ownK_lentK hm)
       have hWk : ∀ {n b o' : Nat}, conOf β (uses ct.ps args 0) n = some (b, o') → ∃ k off o1' ob, (n, (k, off)) ∈ uses ct.ps args 0 ∧ k ∈ keysW (w2 ++ goneW ct.ps args) ∧ get s.h k = some ob ∧ ob.live = true ∧ get (frzW hp K ++ s.h) k = some ob ∧ β k = some (b, o1') := by
         intro n b o' hc
         obtain ⟨k, off, o1', hg, hb, rfl⟩ := hcon hc
         obtain ⟨ob, q1, q2, q3⟩ := hlive (get_mem hg)
         refine ⟨k, off, o1', ob, get_mem hg, ?_, q1, q2, q3, hb⟩
         simp only [keysW, List.map_append, List.mem_append]
         rcases callArgs_uses hca (get_mem hg) with ⟨g1, _⟩ | ⟨g1, _⟩
         · exact .inr g1
         · exact .inl (o1 n k off hg g1)
       have hS'no : ∀ k ob b o', get (frzW hp K ++ s.h) k = some ob → k ∉ keysW (goneW ct.ps args) → ob.live = true → β k = some (b, o') → ¬ S' b := by
         intro k ob b o' hk hm hl hb hS'
         rcases L.fresh b hS' with h | h | ⟨n, h1, o2', h2⟩
         · exact (R1.liveS hk hl hb).1 h
         · obtain ⟨c, hc⟩ := R1.blk hk (by rintro rfl; cases hl) hb
           have := hc.lt
           omega
         · obtain ⟨k', t, xs, q1, q2, q3, _⟩ := hownk h1 h2
           have q4 : get (frzW hp K ++ s.h) k' = some (.rows t xs .own) := by
             rw [hfz]; exact q1
             obtain ⟨ku, hku, hke⟩ := List.mem_map.1 (k4 k' q2)
             obtain ⟨n1, k1', off1⟩ := ku
             simp only at hke
             subst hke
             exact (huse hku).1
           have := R1.inj k k' _ _ b _ _ hk hl q4 rfl hb q3
           subst this
           exact hm q2
       have hw2 : ∀ k ob, get w2 k = some ob → ∃ (t : Ty) (xs ys : List t.den) (m : Md) (off : Nat), get s.h k = some (.rows t xs m) ∧ m ≠ .frz ∧ get (frzW hp K ++ s.h) k = some (.rows t xs m) ∧ k ∉ keysW (goneW ct.ps args) ∧
           ob = .rows t (over xs off ys) m ∧ off + ys.length ≤ xs.length ∧ ∀ b o', β k = some (b, o') → ¬ S' b ∧ ∃ c0 c, Blk w b c0 ∧ Blk w' b c ∧ c.size = c0.size ∧
             (∀ j, (j < o' + off * t.size ∨ o' + off * t.size + ys.length * t.size ≤ j) → c[j]? = c0[j]?) ∧ RowAt (Cell w' S' t) t.size w' b (o' + off * t.size) ys := by
         intro k ob hk
         obtain ⟨n, off, len, t, xs, ys, m, q1, q2, q3, q4, q5, j, q6⟩ := o2 k ob hk
         have hk' := hs k _ q3
         have hmf : m ≠ .frz := by
           obtain ⟨_, t', xs', m', g1, g2⟩ := huse (get_mem q1)
           rw [q3] at g1; injection g1 with g1; injection g1 with g1 g3 g4
           subst g4; exact g2
         obtain ⟨u, hu1, hu2⟩ := hus.get q6
         obtain ⟨hwin, _⟩ := osl_val R hk' hu2
         have hwl := winOk_len hwin
         have hlen := win_length hwin
         obtain ⟨q5, q7⟩ := q5
         refine ⟨t, xs, ys, m, off, hk', hmf, by rw [hfz k (huse (get_mem q1)).1]; exact hk', ?_, q4, by omega, fun b o' hb => ?_⟩
         · intro hg
           obtain ⟨n', off', h1, h2⟩ := goneW_uses (i := 0) hg
           have := nodup_mem k1 h1 (get_mem q1)
           subst this
           exact ownK_lentK h2 q2
         · rw [hb] at q7
           simp only [Option.map_some] at q7
           obtain ⟨q7, c0, c, q8, q9, q10, q11, q12⟩ := q7
           exact ⟨q7, c0, c, q8, q9, q10, by rw [q5]; exact q11, q12⟩
       have hgw : ∀ k ob, get ((w3 ++ (w2 ++ goneW ct.ps args)) ++ (frzW hp K ++ s.h)) k = some ob → get w3 k = some ob ∨ (get w3 k = none ∧ get w2 k = some ob) ∨ (k ∈ keysW (w3 ++ (w2 ++ goneW ct.ps args)) ∧ ob = .gone) ∨ (k ∉ keysW (w3 ++ (w2 ++ goneW ct.ps args)) ∧ get (frzW hp K ++ s.h) k = some ob) := by
         intro k ob hk
         cases e3 : get w3 k with
         | some ob3 =>
           rw [get_append, get_append, e3] at hk
           exact .inl hk
         | none =>
           cases e2 : get w2 k with
           | some ob2 =>
             rw [get_append, get_append, get_append, e3, e2] at hk
             exact .inr (.inl ⟨rfl, hk⟩)
           | none =>
             cases e1 : get (goneW ct.ps args) k with
             | some ob1 =>
               rw [get_append, get_append, get_append, e3, e2, e1] at hk
               injection hk with hk
               subst hk
               exact .inr (.inr (.inl ⟨by simp only [keysW, List.map_append, List.mem_append]; exact .inr (.inr (mem_keysW_of_get e1)), goneW_gone e1⟩))
             | none =>
               by_cases hm : k ∈ keysW (w3 ++ (w2 ++ goneW ct.ps args))
               · obtain ⟨ob', h'⟩ := get_of_mem_keysW hm
                 rw [get_append, get_append, e3, e2, e1] at h'; cases h'
               · rw [get_append, get_append, get_append, e3, e2, e1] at hk
                 exact .inr (.inr (.inr ⟨hm, hk⟩))
       have hold : ∀ k ob, get ((w3 ++ (w2 ++ goneW ct.ps args)) ++ (frzW hp K ++ s.h)) k = some ob → ob.live = true → get w3 k = some ob ∨ (k ∉ keysW (goneW ct.ps args) ∧ β' k = β k ∧ ∃ ob0, get (frzW hp K ++ s.h) k = some ob0 ∧ ob0.live = true) := by
         intro k ob hk hl
         rcases hgw k ob hk with h | ⟨h0, h⟩ | ⟨_, rfl⟩ | ⟨h0, h⟩
         · exact .inl h
         · obtain ⟨t, xs, ys, m, off, p1, p2, p3, p4, _⟩ := hw2 k ob h
           exact .inr ⟨p4, hβo k _ p1, _, p3, by cases m <;> first | rfl | exact absurd rfl p2⟩
         · cases hl
         · refine .inr ⟨fun hm => h0 ?_, ?_, ob, h, hl⟩
           · simp only [keysW, List.map_append, List.mem_append]; exact .inr (.inr hm)
           · have : k ∉ keysW w3 := fun hm => h0 (by simp only [keysW, List.map_append, List.mem_append]; exact .inl hm)
             simp only [β', if_neg this]
       have hw3b : ∀ k ob, get w3 k = some ob → ∀ b o', β' k = some (b, o') → ∀ k' ob' o2, get (frzW hp K ++ s.h) k' = some ob' → ob'.live = true → k' ∉ keysW (goneW ct.ps args) → β k' ≠ some (b, o2) := by
         intro k ob hk b o' hb k' ob' o2 hk' hl' hm hb'
         rw [hβ3 k ob hk] at hb
         rcases L.rdom _ _ _ hb with h | ⟨n, h1, o3, h2⟩
         · obtain ⟨c, hc⟩ := R1.blk hk' (by rintro rfl; cases hl') hb'
           have := hc.lt; omega
         · obtain ⟨k2, t, xs, p1, p2, p3, _⟩ := hownk h1 h2
           have q4 : get (frzW hp K ++ s.h) k2 = some (.rows t xs .own) := by
             rw [hfz]; exact p1
             obtain ⟨ku, hku, hke⟩ := List.mem_map.1 (k4 k2 p2)
             obtain ⟨n1, k1', off1⟩ := ku
             simp only at hke
             subst hke
             exact (huse hku).1
           have := R1.inj k' k2 _ _ b _ _ hk' hl' q4 rfl hb' p3
           subst this
           exact hm p2
       have R2 : Rel T B w' S' β' ⟨s.e, (w3 ++ (w2 ++ goneW ct.ps args)) ++ (frzW hp K ++ s.h)⟩ a := by
         refine R1.gen (w' := w') (S' := S') (β' := β') L.calm (w3 ++ (w2 ++ goneW ct.ps args)) (fun b => ∃ n o', conOf β (uses ct.ps args 0) n = some (b, o')) ?_ L.grow ?_ ?_ L.sub ?_ L.Slt ?_ ?_ ?_ ?_ ?_ ?_ ?_ ?_ ?_ ?_ ?_
         · exact fun b hb hnW => L.same b hb fun k o' h => hnW ⟨k, o', h⟩
         · rintro b ⟨n, o', hc⟩
           obtain ⟨k, off, o1', ob, _, q1, q2, q3, q4, q5⟩ := hWk hc
           exact ⟨k, ob, o1', by simp only [keysW, List.map_append, List.mem_append] at q1 ⊢; exact .inr q1, q4, q3, q5⟩
         · intro k ob hk hm
           have : k ∉ keysW w3 := fun h => hm (by simp only [keysW, List.map_append, List.mem_append]; exact .inl h)
           simp only [β', if_neg this]
         · intro b hb
           rcases L.fresh b hb with h | h | ⟨n, h1, o', h2⟩
           · exact .inl h
           · exact .inr (.inl (Nat.le_trans R.grow h))
           · obtain ⟨k, t, xs, p1, _, p3, _⟩ := hownk h1 h2
             exact .inr (R.liveS p1 rfl p3).2
         · intro k ob b o' hk hm hl hb
           exact hS'no k ob b o' hk (fun h => hm (by simp only [keysW, List.map_append, List.mem_append]; exact .inr (.inr h))) hl hb
         · intro k ob hm hk E
           rcases hgw k ob hk with h | ⟨h0, h⟩ | ⟨_, rfl⟩ | ⟨h0, h⟩
           · obtain ⟨a1, a2, a3, e, xs, v, rfl, hO⟩ := hw3 k ob h
             rw [Nat.zero_add] at hO
             simp only [ORel, hβ3 k _ h]
             simp only [OwnV] at hO
             cases hρ : ρ (k - d * 8) with
             | none => rw [hρ] at hO; exact hO.1
             | some p =>
               obtain ⟨b, o'⟩ := p
               rw [hρ] at hO
               obtain ⟨rfl, p1, x0, cap, c, _, p2, p3, p4, p5, p6⟩ := hO
               have hmul := Nat.mul_le_mul_right e.size p2
               refine ⟨⟨c, p4, by omega⟩, p6, by simp, fun _ => ⟨p1, ?_⟩, fun _ => rfl⟩
               rcases L.rdom _ _ _ hρ with h | ⟨n, h1, o3, h2⟩
               · exact .inl (Nat.le_trans R.grow h)
               · obtain ⟨k2, t, xs2, q1, _, q3, _⟩ := hownk h1 h2
                 exact (R.liveS q1 rfl q3).2
           · obtain ⟨t, xs, ys, m, off, p1, p2, p3, p4, rfl, p5, p6⟩ := hw2 k ob h
             have hob := R1.obs k _ p3
             simp only [ORel, hβo k _ p1] at hob ⊢
             cases hb : β k with
             | none =>
               rw [hb] at hob
               simp only at hob
               subst hob
               have : ys = [] := List.eq_nil_of_length_eq_zero (by have p5 : off + ys.length ≤ 0 := p5; omega)
               subst this
               simp [over]
             | some p =>
               obtain ⟨b, o'⟩ := p
               rw [hb] at hob
               obtain ⟨⟨c1, hc1, hsz⟩, hrow, _, hlv, ho0⟩ := hob
               obtain ⟨hnS, c0, c, q1, q2, q3, q4, q5⟩ := p6 b o' hb
               have := hc1.inj q1
               subst this
               exact ⟨⟨c, q2, by rw [q3, over_length p5]; exact hsz⟩, rowAt_over' E.sub E.keep q1 q2 hrow p5 q4 q5, fun e => absurd e p2, fun _ => ⟨hnS, (hlv p2).2⟩, ho0⟩
           · trivial
           · exact absurd hm h0
         · intro k ob hm hk
           obtain ⟨ob', h'⟩ := get_of_mem_keysW hm
           have h'' : get ((w3 ++ (w2 ++ goneW ct.ps args)) ++ (frzW hp K ++ s.h)) k = some ob' := by rw [get_append, h']; rfl
           refine ⟨ob', h'', ?_⟩
           rcases hgw k ob' h'' with h | ⟨h0, h⟩ | ⟨_, rfl⟩ | ⟨h0, h⟩
           · have := hnew' k ob' h
             rw [this] at hk; cases hk
           · obtain ⟨t, xs, ys, m, off, p1, p2, p3, p4, rfl, p5, p6⟩ := hw2 k ob' h
             rw [p3] at hk
             injection hk with hk
             subst hk
             refine ⟨rfl, over_length p5, hβo k _ p1, fun hmo => ⟨hmo, fun b o' c1 hb hc1 => ?_⟩⟩
             obtain ⟨hnS, c0, c, q1, q2, q3, _⟩ := p6 b o' hb
             have := hc1.inj q1
             subst this
             exact ⟨c, q2, q3⟩
           · cases ob <;> trivial
           · exact absurd hm h0
         · intro k k' ob ob' b o1' o2' hm hk hl hk' hl' hb hb'
           rcases hold k ob hk hl with h | ⟨g1, g2, ob0, g3, g4⟩
           · rcases hold k' ob' hk' hl' with h' | ⟨g1', g2', ob0', g3', g4'⟩
             · rw [hβ3 k _ h] at hb
               rw [hβ3 k' _ h'] at hb'
               have := L.rinj _ _ _ _ _ hb hb'
               have := (hw3 k _ h).1
               have := (hw3 k' _ h').1
               omega
             · rw [g2'] at hb'
               exact absurd hb' (hw3b k ob h b o1' hb k' ob0' o2' g3' g4' g1')
           · rw [g2] at hb
             rcases hold k' ob' hk' hl' with h' | ⟨g1', g2', ob0', g3', g4'⟩
             · exact absurd hb (hw3b k' ob' h' b o2' hb' k ob0 o1' g3 g4 g1)
             · rw [g2'] at hb'
               exact R1.inj k k' ob0 ob0' b o1' o2' g3 g4 g3' g4' hb hb'
         · rintro k b o' n hL ⟨n1, o1', hc⟩ c hcb
           obtain ⟨k1', off1, o2', hg, hb, rfl⟩ := hcon hc
           obtain ⟨ob, q1, q2, q3⟩ := hlive (get_mem hg)
           by_cases hlt : ∃ t xs, ob = .rows t xs .lent
           · obtain ⟨t, xs, rfl⟩ := hlt
             have hk2 : k1' ∈ keysW w2 := by
               rcases callArgs_uses hca (get_mem hg) with ⟨_, _, _, t', xs', h⟩ | ⟨h1, _⟩
               · have := hs k1' _ h; rw [q1] at this; cases this
               · exact o1 n1 k1' off1 hg h1
             obtain ⟨ob2, h2⟩ := get_of_mem_keysW hk2
             obtain ⟨t', xs', ys, m, off, p1, p2, p3, p4, p4', p5, p6⟩ := hw2 k1' ob2 h2
             rw [q1] at p1
             injection p1 with p1
             injection p1 with e1 e2 e3
             subst e1
             have e2 := eq_of_heq e2
             subst e2
             obtain ⟨hnS, c0, c', r1, r2, r3, r4, _⟩ := p6 b o2' hb
             have := hcb.inj r1
             subst this
             obtain ⟨b3, o3, hL3, hb3⟩ := (R.lentk k1' t xs q1).resolve_left (by rw [hb]; simp)
             rw [hb] at hb3
             injection hb3 with hb3
             injection hb3 with hb3 ho3
             subst hb3; subst ho3
             have := R.ltinj k k1' _ _ _ _ _ hL hL3
             subst this
             rw [hL] at hL3
             injection hL3 with hL3
             injection hL3 with _ hL3
             injection hL3 with e4 e5
             subst e4; subst e5
             have hmul := Nat.mul_le_mul_right t.size p5
             rw [Nat.add_mul] at hmul
             exact ⟨c', r2, r3, fun j hj => r4 j (by rcases hj with hj | hj; left; omega; right; omega)⟩
           · exact absurd hL (R.sep k1' ob b o2' q1 q2 (fun t xs h => hlt ⟨t, xs, h⟩) hb k o' n)
         · intro k t xs hm hk
           rcases hgw k _ hk with h | ⟨h0, h⟩ | ⟨_, h⟩ | ⟨h0, h⟩
           · obtain ⟨_, _, _, e, xs', v, h', _⟩ := hw3 k _ h
             cases h'
           · obtain ⟨t', xs', ys, m, off, p1, p2, p3, p4, p4', p5, p6⟩ := hw2 k _ h
             injection p4' with e1 e2 e3
             subst e1
             have e2 := eq_of_heq e2
             subst e2; subst e3
             exact ⟨xs', p3, over_length p5, hβo k _ p1⟩
           · cases h
           · exact absurd hm h0
         · intro k ob b o' hm hk hl hnl hb k' o2' n hL
           rcases hgw k ob hk with h | ⟨h0, h⟩ | ⟨_, rfl⟩ | ⟨h0, h⟩
           · rw [hβ3 k ob h] at hb
             rcases L.rdom _ _ _ hb with h | ⟨n1, h1, o3, h2⟩
             · obtain ⟨c0, c, hc0, _⟩ := R.lent k' b o2' n hL
               have := hc0.lt
               have := R.grow
               omega
             · obtain ⟨k2, t, xs, q1, _, q3, _⟩ := hownk h1 h2
               exact R.sep k2 _ b 0 q1 rfl (by simp) q3 k' o2' n hL
           · obtain ⟨t, xs, ys, m, off, p1, p2, p3, p4, rfl, p5, p6⟩ := hw2 k ob h
             rw [hβo k _ p1] at hb
             refine R.sep k _ b o' p1 (by cases m <;> first | rfl | exact absurd rfl p2) (fun t' xs' e => ?_) hb k' o2' n hL
             injection e with e1 e2 e3
             subst e3
             exact hnl t _ rfl
           · cases hl
           · exact absurd hm h0
         · intro k l' hm hk
           rcases hgw k _ hk with h | ⟨h0, h⟩ | ⟨_, h⟩ | ⟨h0, h⟩
           · obtain ⟨_, _, _, e, xs', v, h', _⟩ := hw3 k _ h
             cases h'
           · obtain ⟨t', xs', ys, m, off, p1, p2, p3, p4, p4', p5, p6⟩ := hw2 k _ h
             cases p4'
           · cases h
           · exact absurd hm h0
         · intro b hb
           rcases L.fresh b hb with h | h | ⟨n, h1, o', h2⟩
           · exact .inl h
           · exact .inr (.inr h)
           · obtain ⟨k2, t, xs, p1, p2, p3, _⟩ := hownk h1 h2
             have q4 : get (frzW hp K ++ s.h) k2 = some (.rows t xs .own) := by
               rw [hfz]; exact p1
               obtain ⟨ku, hku, hke⟩ := List.mem_map.1 (k4 k2 p2)
               obtain ⟨n1, k1', off1⟩ := ku
               simp only at hke
               subst hke
               exact (huse hku).1
             exact .inr (.inl ⟨k2, _, _, q4, rfl, p3⟩)
         · intro k ob b o' hm hk hl hb
           rcases hgw k ob hk with h | ⟨h0, h⟩ | ⟨_, rfl⟩ | ⟨h0, h⟩
           · rw [hβ3 k ob h] at hb
             rcases L.rdom _ _ _ hb with h | ⟨n, h1, o3, h2⟩
             · exact .inr h
             · obtain ⟨k2, t, xs, p1, p2, p3, _⟩ := hownk h1 h2
               have q4 : get (frzW hp K ++ s.h) k2 = some (.rows t xs .own) := by
                 rw [hfz]; exact p1
                 obtain ⟨ku, hku, hke⟩ := List.mem_map.1 (k4 k2 p2)
                 obtain ⟨n1, k1', off1⟩ := ku
                 simp only at hke
                 subst hke
                 exact (huse hku).1
               exact .inl ⟨k2, _, _, q4, rfl, p3⟩
           · obtain ⟨t, xs, ys, m, off, p1, p2, p3, p4, rfl, p5, p6⟩ := hw2 k ob h
             rw [hβo k _ p1] at hb
             exact .inl ⟨k, _, o', p3, by cases m <;> first | rfl | exact absurd rfl p2, hb⟩
           · cases hl
           · exact absurd hm h0
         · intro k t xs hm hk
           rcases hgw k _ hk with h | ⟨h0, h⟩ | ⟨_, h⟩ | ⟨h0, h⟩
           · exact .inl (callRes_flat hcr hflat.2 k t xs _ h)
           · exact .inl (callOuts_flat hco hflat.1 k t xs _ h)
           · cases h
           · exact absurd hm h0
       have R3 : Rel T B w' S' β' ⟨s.e, ef.hw ++ s.h⟩ a := by
         refine R2.ext (fun _ => rfl) fun k => ?_
         rw [hhw]
         simp only [get_append, k5 k]
         simp only [or_assoc']
       have hall : All2 (TRel1 w' S' β' (get (ef.hw ++ s.h))) l vs := callRes_v hcr hrs fun n ob hg => ⟨by rw [hhw, get_append, get_append, get_append, hg]; rfl, by rw [hβ3 n ob hg, Nat.zero_add]⟩
       refine hnx _ w' S' β' (Rel.app R3 hdo fun pv hpv => ?_)
       rcases hv with ⟨v, rfl, hv⟩ | ⟨hne, hv⟩
       · rw [hv] at hpv
         injection hpv with hpv
         subst hpv
         cases vs with
         | nil => exact hall.elim
         | cons u vs =>
           cases vs with
           | nil =>
             refine hall.1.up fun q e => ?_
             subst e
             exact hall.1.elim
           | cons _ _ => exact hall.2.elim
       · rw [hv] at hpv
         injection hpv with hpv
         subst hpv
         refine ⟨vs, ?_, hall⟩
         match vs, hall with
         | [], _ => rfl
         | [u], hall =>
           exfalso
           match l, hall, hne with
           | [v], _, hne => exact hne v rfl
         | _ :: _ :: _, _ => rfl
    · cases h
 · cases h
end Go.Proofs.YtaonkcmflkmncaaGreatDoor.X
