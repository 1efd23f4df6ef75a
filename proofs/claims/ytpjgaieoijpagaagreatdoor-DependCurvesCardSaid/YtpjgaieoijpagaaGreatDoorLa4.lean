/- The abstract run: words for the printed texts. -/
import Derived.Test.YtpjgaieoijpagaaGreatDoorLa3
import Derived.Lib.Strings
import Derived.Lib.Slices
import Derived.Lib.Small
import Derived.Lib.Walk
import Derived.Lib.BitFns

namespace Go.Proofs.YtpjgaieoijpagaaGreatDoor.X
open Go
set_option linter.unusedVariables false
set_option linter.unusedSimpArgs false

def iadd (k : IntKind) (x y : Int) : Int := k.wrap (x + y)
def isub (k : IntKind) (x y : Int) : Int := k.wrap (x - y)
def imul (k : IntKind) (x y : Int) : Int := k.wrap (x * y)
def iquo (k : IntKind) (x y : Int) : Int := k.wrap (x.tdiv y)
def irem (x y : Int) : Int := x.tmod y
def ineg (k : IntKind) (x : Int) : Int := k.wrap (0 - x)
def iand (k : IntKind) (x y : Int) : Int := k.wrap (BitVec.ofInt k.bits x &&& BitVec.ofInt k.bits y).toNat
def ior (k : IntKind) (x y : Int) : Int := k.wrap (BitVec.ofInt k.bits x ||| BitVec.ofInt k.bits y).toNat
/-- How many rounds a loop is given: more than it takes. -/
def K0 : Nat := 18446744073709551616

def bodyOf (f : Func) : Code := f.body.getD .skip
def loopAt (key : Nat) : Code → Code → Code
  | .seq a b, d => loopAt key a (loopAt key b d)
  | .cond _ a b, d => loopAt key a (loopAt key b d)
  | .block _ b, d => loopAt key b d
  | .loop b, d => bif Nat.beq (firstReg b) key then b else loopAt key b d
  | _, d => d

def pieces (lh : LH) : Code → List (Code × LC)
  | .seq a b => pieces lh a ++ pieces lh b
  | .cond c a b => match lh (cutKey (.cond c a b)) with
    | some lc => [(.cond c a b, lc)]
    | none => pieces lh a ++ pieces lh b
  | .block id b => match lh (cutKey (.block id b)) with
    | some lc => [(.block id b, lc)]
    | none => pieces lh b
  | .loop b => match lh (cutKey (.loop b)) with
    | some lc => [(.loop b, lc)]
    | none => []
  | _ => []

def AllP (p : Code → LC → Prop) : List (Code × LC) → Prop
  | [] => True
  | x :: r => p x.1 x.2 ∧ AllP p r
theorem AllP.append {p : Code → LC → Prop} {a b : List (Code × LC)} (h : AllP p (a ++ b)) : AllP p a ∧ AllP p b := by
  induction a with
  | nil => exact ⟨trivial, h⟩
  | cons x a ih => exact ⟨⟨h.1, (ih h.2).1⟩, (ih h.2).2⟩

theorem LHok_of' {T : Told} {P : Program} {nt : Nat} {lh : LH} : ∀ {c : Code}, AllP (PieceOk T P nt) (pieces lh c) → LHok T P nt lh c := by
  intro c
  induction c with
  | seq a b iha ihb => intro h; obtain ⟨h1, h2⟩ := AllP.append h; exact ⟨iha h1, ihb h2⟩
  | cond c a b iha ihb =>
    intro h
    simp only [pieces] at h
    simp only [LHok]
    split at h
    · rename_i lc hl; rw [hl]; exact h.1
    · rename_i hl; rw [hl]; obtain ⟨h1, h2⟩ := AllP.append h; exact ⟨iha h1, ihb h2⟩
  | block id b ih =>
    intro h
    simp only [pieces] at h
    simp only [LHok]
    split at h
    · rename_i lc hl; rw [hl]; exact h.1
    · rename_i hl; rw [hl]; exact ih h
  | loop b ih =>
    intro h
    simp only [pieces] at h
    simp only [LHok]
    split at h
    · rename_i lc hl; rw [hl]; exact h.1
    · rename_i hl; rw [hl]; trivial
  | _ => intro _; trivial
theorem LHok_of {T : Told} {P : Program} {nt : Nat} {lh : LH} {c : Code} {l : List (Code × LC)} (h : pieces lh c = l) (hl : AllP (PieceOk T P nt) l) : LHok T P nt lh c := LHok_of' (by rw [h]; exact hl)

def envL : List (Nat × Ctr) → Env
  | [], _ => none
  | (m, c) :: r, f => bif Nat.beq m f then some c else envL r f
def AllC (T : Told) (P : Program) : List (Nat × Ctr) → Prop
  | [] => True
  | x :: r => CtrOk T P x.1 x.2 ∧ AllC T P r
theorem envL_ok {T : Told} {P : Program} : ∀ {l : List (Nat × Ctr)}, AllC T P l → EnvOk T P (envL l)
  | [], _, f, c, hf => by cases hf
  | (m, c0) :: r, h, f, c, hf => by
    simp only [envL] at hf
    cases hb : Nat.beq m f with
    | true =>
      rw [hb] at hf
      have := Nat.eq_of_beq_eq_true hb
      subst this
      injection hf with hf
      subst hf
      exact h.1
    | false =>
      rw [hb] at hf
      exact envL_ok h.2 f c hf

end Go.Proofs.YtpjgaieoijpagaaGreatDoor.X


/- The abstract run: the table of types, checked. -/
namespace Go.Proofs.YtpjgaieoijpagaaGreatDoor.X
open Go
set_option linter.unusedVariables false
set_option linter.unusedSimpArgs false

def zB : Value → Value → Bool
  | .int k n, .int k' n' => decide (k = k') && decide (n = n')
  | .bool b, .bool b' => b == b'
  | .string s, .string s' => Nat.beq s.size 0 && Nat.beq s'.size 0
  | .slice none 0 0, .slice none 0 0 => true
  | _, _ => false

theorem zB_eq {a b : Value} (h : zB a b = true) : a = b := by
  unfold zB at h
  split at h
  · simp only [Bool.and_eq_true, decide_eq_true_eq] at h; rw [h.1, h.2]
  · simp only [beq_iff_eq] at h; rw [h]
  · simp only [Bool.and_eq_true] at h
    rename_i s s'
    have h1 := Nat.eq_of_beq_eq_true h.1
    have h2 := Nat.eq_of_beq_eq_true h.2
    obtain ⟨d⟩ := s
    obtain ⟨d'⟩ := s'
    have e1 : d = #[] := Array.eq_empty_of_size_eq_zero h1
    have e2 : d' = #[] := Array.eq_empty_of_size_eq_zero h2
    rw [e1, e2]
  · rfl
  · cases h

def zsB : List Value → List Value → Bool
  | [], [] => true
  | a :: l, b :: r => zB a b && zsB l r
  | _, _ => false
theorem zsB_eq : ∀ {l r : List Value}, zsB l r = true → l = r
  | [], [], _ => rfl
  | a :: l, b :: r, h => by
    simp only [zsB, Bool.and_eq_true] at h
    rw [zB_eq h.1, zsB_eq h.2]

def tyB (P : Program) (T : TypeId) (t : Ty) : Bool :=
  match P.info? T, P.underlying T with
  | some i, some d => Nat.beq i.size t.size && (match i.zero with | some z => zsB z.cells.toList (zvals t) | none => false) && (d.isRow == t.isAgg)
  | _, _ => false
theorem tyB_ok {P : Program} {T : TypeId} {t : Ty} (h : tyB P T t = true) : TyOk P T t := by
  unfold tyB at h
  split at h
  · rename_i i d hi hd
    simp only [Bool.and_eq_true, beq_iff_eq] at h
    obtain ⟨⟨h1, h2⟩, h3⟩ := h
    split at h2
    · rename_i z hz
      exact ⟨⟨i, z, hi, Nat.eq_of_beq_eq_true h1, hz, zsB_eq h2⟩, ⟨d, hd, h3⟩⟩
    · cases h2
  · cases h

def undB (P : Program) (T : TypeId) : Ty → Bool
  | .int k => (match P.underlying T with | some (.int k') => decide (k = k') | _ => false)
  | .bool => (match P.underlying T with | some .bool => true | _ => false)
  | _ => true
def fsB : List Field → List (Nat × TypeId) → Bool
  | [], [] => true
  | f :: l, (o, T') :: r => Nat.beq f.offset o && Nat.beq f.type T' && fsB l r
  | _, _ => false
theorem fsB_eq : ∀ {l : List Field} {r : List (Nat × TypeId)}, fsB l r = true → l.map (fun f => (f.offset, f.type)) = r
  | [], [], _ => rfl
  | f :: l, (o, T') :: r, h => by
    simp only [fsB, Bool.and_eq_true] at h
    rw [List.map_cons, fsB_eq h.2, Nat.eq_of_beq_eq_true h.1.1]
    have : f.type = T' := Nat.eq_of_beq_eq_true h.1.2
    rw [this]
def posB (tb : Tb) : List (Nat × TypeId) → Bool
  | [] => true
  | (_, T') :: r => (match tb.ty T' with | some t => Nat.blt 0 t.size | none => false) && posB tb r
theorem posB_ok {tb : Tb} : ∀ {r : List (Nat × TypeId)}, posB tb r = true → ∀ off T', (off, T') ∈ r → ∃ t', tb.ty T' = some t' ∧ 0 < t'.size
  | (o, T1) :: r, h, off, T', hm => by
    simp only [posB, Bool.and_eq_true] at h
    rcases List.mem_cons.1 hm with e | hm
    · injection e with _ e
      subst e
      have h1 := h.1
      split at h1
      · rename_i t ht; exact ⟨t, ht, Nat.le_of_ble_eq_true h1⟩
      · cases h1
    · exact posB_ok h.2 off T' hm
def intsB (P : Program) : Nat → List Field → Bool
  | _, [] => true
  | n, f :: r => !(f.name == "_") && Nat.beq f.offset n && (match P.underlying f.type with | some (.int _) => true | _ => false) && intsB P (n + 1) r
theorem intsB_ok {P : Program} : ∀ {l : List Field} {n : Nat}, intsB P n l = true → ∀ (i : Nat) (f : Field), l[i]? = some f → f.name ≠ "_" ∧ f.offset = n + i ∧ ∃ k, P.underlying f.type = some (.int k)
  | f0 :: r, n, h, i, f, hi => by
    simp only [intsB, Bool.and_eq_true, Bool.not_eq_true', beq_eq_false_iff_ne] at h
    obtain ⟨⟨⟨h1, h2⟩, h3⟩, h4⟩ := h
    cases i with
    | zero =>
      simp at hi
      subst hi
      refine ⟨h1, Nat.eq_of_beq_eq_true h2, ?_⟩
      split at h3
      · rename_i k hk; exact ⟨k, hk⟩
      · cases h3
    | succ i =>
      obtain ⟨a1, a2, a3⟩ := intsB_ok h4 i f (by simpa using hi)
      exact ⟨a1, by omega, a3⟩

def teB (P : Program) (tb : Tb) (T : TypeId) : TE → Bool
  | .sc t => tyB P T t && !t.isAgg && undB P T t
  | .slc e t by_ => tyB P T (.sl t) && (match P.underlying T with | some (.slice e') => Nat.beq e' e | _ => false) && tyB P e t && (match P.info? e with | some i => Nat.beq i.bytes by_ | none => false) && Nat.blt 0 by_ && Nat.blt 0 t.size
  | .stc t fs q => tyB P T t && t.isAgg && (match P.underlying T with
      | some (.struct fields) => fsB fields.toList fs && posB tb fs && (!q || (!(P.stoodInHeld T) && !(P.eqGuardType P.depth T) && intsB P 0 fields.toList))
      | _ => false)
  | .pt e => (match P.underlying T with | some (.pointer e') => Nat.beq e' e | _ => false)
def tbB (P : Program) (tb : Tb) : List (TypeId × TE) → Bool
  | [] => true
  | (T, te) :: r => teB P tb T te && tbB P tb r

theorem teB_ok {P : Program} {tb : Tb} {T : TypeId} {te : TE} (h : teB P tb T te = true) : TEOk P tb T te := by
  cases te with
  | sc t =>
    simp only [teB, Bool.and_eq_true, Bool.not_eq_true'] at h
    refine ⟨tyB_ok h.1.1, h.1.2, fun k e => ?_, fun e => ?_⟩
    · have h2 := h.2
      subst e
      simp only [undB] at h2
      split at h2
      · rename_i k' hk; simp only [decide_eq_true_eq] at h2; rw [hk, h2]
      · cases h2
    · have h2 := h.2
      subst e
      simp only [undB] at h2
      split at h2
      · rename_i hk; exact hk
      · cases h2
  | slc e t by_ =>
    simp only [teB, Bool.and_eq_true] at h
    obtain ⟨⟨⟨⟨⟨h1, h2⟩, h3⟩, h4⟩, h5⟩, h6⟩ := h
    refine ⟨tyB_ok h1, ?_, tyB_ok h3, ?_, Nat.le_of_ble_eq_true h5, Nat.le_of_ble_eq_true h6⟩
    · split at h2
      · rename_i e' he; rw [he, Nat.eq_of_beq_eq_true h2]
      · cases h2
    · split at h4
      · rename_i i hi; exact ⟨i, hi, Nat.eq_of_beq_eq_true h4⟩
      · cases h4
  | stc t fs q =>
    simp only [teB, Bool.and_eq_true] at h
    obtain ⟨⟨h1, h2⟩, h3⟩ := h
    split at h3
    · rename_i fields hf
      simp only [Bool.and_eq_true] at h3
      obtain ⟨⟨h4, h5⟩, h6⟩ := h3
      refine ⟨tyB_ok h1, h2, fields, hf, fsB_eq h4, posB_ok h5, fun hq => ?_⟩
      subst hq
      simp only [Bool.not_true, Bool.false_or, Bool.and_eq_true, Bool.not_eq_true'] at h6
      obtain ⟨⟨h7, h8⟩, h9⟩ := h6
      refine ⟨h7, h8, fun i f hi => ?_⟩
      have := intsB_ok h9 i f (by rw [Array.getElem?_toList]; exact hi)
      rw [Nat.zero_add] at this
      exact this
    · cases h3
  | pt e =>
    simp only [teB] at h
    show P.underlying T = some (.pointer e)
    split at h
    · rename_i e' he; rw [he, Nat.eq_of_beq_eq_true h]
    · cases h

theorem tbB_ok {P : Program} {tb : Tb} : ∀ {l : List (TypeId × TE)}, tbB P tb l = true → ∀ T te, (T, te) ∈ l → TEOk P tb T te
  | (T1, te1) :: r, h, T, te, hm => by
    simp only [tbB, Bool.and_eq_true] at h
    rcases List.mem_cons.1 hm with e | hm
    · injection e with e1 e2; subst e1; subst e2; exact teB_ok h.1
    · exact tbB_ok h.2 T te hm
theorem tbOk_of {P : Program} {tb : Tb} (h : tbB P tb tb = true) : TbOk P tb := fun T te hg => tbB_ok h T te (get_mem hg)

end Go.Proofs.YtpjgaieoijpagaaGreatDoor.X


/- The abstract run: a function of one number that looks at nothing but what is told. -/
namespace Go.Proofs.YtpjgaieoijpagaaGreatDoor.X
open Go
set_option linter.unusedVariables false
set_option linter.unusedSimpArgs false

theorem CtrOk.scalar {T : Told} {P : Program} {f : FuncId} {k k' : IntKind} {F : Int → Option Int} {fn : Func} (hfn : P.funcs[f]? = some fn) (hn : (fn.name == "runtime.NumGoroutine") = false) (hb : fn.body.isNone = false)
    (h : ∀ (x r : Int), F x = some r → ∀ w : World, T.G w → Calls P f #[.int k x] w fun e w' => e = .returned (.int k' r) ∧ w' = w) :
    CtrOk T P f ⟨[(.int k, .imm)], [(.int k', false)], Int, fun x => F x.1, fun r => ((), (r, ())), none⟩ := by
  refine ⟨⟨fn, hfn, hn, hb⟩, ?_⟩
  rintro ⟨x, u⟩ r hF w S β vs E
  have ha := E.args
  match vs, ha with
  | [v], ha =>
    have hv : [v] = [Value.int k x] := ha.1
    injection hv with hv
    subst hv
    refine Calls.mono (h x r hF w E.told) fun e w' he => ?_
    obtain ⟨rfl, rfl⟩ := he
    refine ⟨S, fun _ => none, ⟨fun b hb => hb, fun b hb => .inl hb, E.Slt, fun _ _ _ => rfl, Nat.le_refl _, E.told, Calm.refl _, trivial, ⟨[.int k' r], rfl, ⟨rfl, trivial⟩⟩, fun k k' b o o' h => (by cases h), fun j b o h => (by cases h)⟩⟩
  | _ :: _ :: _, ha => exact ha.2.elim
  | [], ha => exact ha.elim

/-- A function of which nothing is said. -/
theorem CtrOk.never {T : Told} {P : Program} {f : FuncId} {c : Ctr} {fn : Func} (hfn : P.funcs[f]? = some fn) (hn : (fn.name == "runtime.NumGoroutine") = false) (hb : fn.body.isNone = false) (h : ∀ x, c.F x = none) : CtrOk T P f c :=
  ⟨⟨fn, hfn, hn, hb⟩, by
    cases c.wi with
    | none => intro x r hx; rw [h x] at hx; cases hx
    | some wi => intro x r hx; rw [h x] at hx; cases hx⟩

/-- How deep a function may call itself: more than it does. -/
def R0 : Nat := 100000

/-- A table of bytes at the beginning of memory. -/
def tabG (tab : List Nat) : Told := ⟨[0], fun w => ∀ (i n : Nat), tab[i]? = some n → w.cell? ⟨0, i, none⟩ = some (.int .u8 (n : Int)), fun w w' h hG i n hi => by
  rw [World.cell?_of_block (w := w) (h 0 (by simp))]; exact hG i n hi⟩

end Go.Proofs.YtpjgaieoijpagaaGreatDoor.X


/- Words of math/bits: how many zeros a number ends with, how many bits it has. -/
namespace Go.Proofs.YtpjgaieoijpagaaGreatDoor.X
open Go
set_option linter.unusedVariables false
set_option linter.unusedSimpArgs false

/-! Names of types. -/
abbrev WH := Bool × List Int
abbrev RAT := WH × List Int
abbrev CELL := Bool × RAT
abbrev NODE := Bool × Int × RAT × Int × Int × Bool × RAT × RAT
abbrev MODEL := Int × List (List NODE)
abbrev tWH : Ty := .pair .bool (.sl (.int .u64))
abbrev tRAT : Ty := .pair tWH (.sl (.int .u64))
abbrev tCELL : Ty := .pair .bool tRAT
abbrev tNODE : Ty := .pair .bool (.pair (.int .i64) (.pair tRAT (.pair (.int .i64) (.pair (.int .i64) (.pair .bool (.pair tRAT tRAT))))))
abbrev tMODEL : Ty := .pair (.int .i64) (.sl (.sl tNODE))
/-- How many bits 0 a number ends with; how many bits it has. -/
def tzN : Nat → Nat → Nat
  | 0, _ => 0
  | f + 1, n => bif Nat.beq (n % 2) 1 then 0 else tzN f (n / 2) + 1
def lenN (n : Nat) : Nat := if n = 0 then 0 else n.log2 + 1
theorem tzN_spec : ∀ (f n : Nat), 0 < n → n < 2 ^ f → ∃ m, n = 2 ^ tzN f n * m ∧ m % 2 = 1 ∧ tzN f n < f
  | 0, n, h, h' => by simp at h'; omega
  | f + 1, n, h, h' => by
    by_cases h1 : n % 2 = 1
    · exact ⟨n, by simp [tzN, h1], h1, by simp [tzN, h1]⟩
    · have e : Nat.beq (n % 2) 1 = false := by cases h2 : Nat.beq (n % 2) 1 with
        | false => rfl
        | true => exact absurd (Nat.eq_of_beq_eq_true h2) h1
      obtain ⟨m, h2, h3, h4⟩ := tzN_spec f (n / 2) (by omega) (by rw [Nat.pow_succ] at h'; omega)
      refine ⟨m, ?_, h3, by simp only [tzN, e, cond_false]; omega⟩
      simp only [tzN, e, cond_false, Nat.pow_succ]
      have : n = 2 * (n / 2) := by omega
      rw [this]
      conv => lhs; rw [h2]
      rw [show 2 * (n / 2) / 2 = n / 2 by omega]
      grind

theorem bitLenAux_len : ∀ (f n : Nat), n < 2 ^ f → Lib.bitLenAux f n = lenN n
  | 0, n, h => by
    have : n = 0 := by simpa using h
    subst this; rfl
  | f + 1, n, h => by
    by_cases h0 : n = 0
    · subst h0; rfl
    · have ih := bitLenAux_len f (n / 2) (by rw [Nat.pow_succ] at h; omega)
      simp only [Lib.bitLenAux, if_neg h0, ih, lenN]
      by_cases h1 : n / 2 = 0
      · rw [if_pos h1, Nat.log2_def, if_neg (by omega)]
      · rw [if_neg h1]
        conv => rhs; rw [Nat.log2_def]
        rw [if_pos (by omega)]; omega
theorem bitLen_len {n : Nat} (h : n < 18446744073709551616) : Lib.bitLen n = lenN n := bitLenAux_len 64 n h

/-- The lowest bit alone. -/
theorem and_low {t m : Nat} (hm : m % 2 = 1) (h : 2 ^ t * m < 2 ^ 64) : (2 ^ t * m) &&& (2 ^ 64 - 2 ^ t * m) = 2 ^ t := by
  obtain ⟨q, rfl⟩ : ∃ q, m = 2 * q + 1 := ⟨m / 2, by omega⟩
  have hp : 0 < 2 ^ t := Nat.pow_pos (by decide)
  have ht : t < 64 := by
    rcases Nat.lt_or_ge t 64 with h1 | h1
    · exact h1
    · have := Nat.pow_le_pow_right (n := 2) (by decide) h1
      have h2 : 2 ^ t * 1 ≤ 2 ^ t * (2 * q + 1) := Nat.mul_le_mul_left _ (by omega)
      omega
  have e1 : 2 ^ t * (2 * q + 1) = (2 ^ t * (2 * q) + (2 ^ t - 1)) + 1 := by rw [Nat.mul_add, Nat.mul_one]; omega
  have hlt : 2 ^ t * (2 * q) + (2 ^ t - 1) < 2 ^ 64 := by omega
  apply Nat.eq_of_testBit_eq
  intro i
  rw [Nat.testBit_and]
  conv => lhs; rhs; rw [e1, Nat.testBit_two_pow_sub_succ hlt, Nat.testBit_two_pow_mul_add _ (by omega : 2 ^ t - 1 < 2 ^ t)]
  rw [Nat.testBit_two_pow_mul, Nat.testBit_two_pow, Nat.testBit_two_pow_sub_one]
  by_cases h1 : i < t
  · have : ¬ i ≥ t := by omega
    have h2 : ¬ t = i := by omega
    simp [this, h2]
  · by_cases h2 : i = t
    · subst h2
      simp [ht]
    · have h3 : i ≥ t := by omega
      have h4 : ¬ t = i := by omega
      obtain ⟨j, hj⟩ : ∃ j, i - t = j + 1 := ⟨i - t - 1, by omega⟩
      simp only [h1, if_false, hj, Nat.testBit_succ, h4]
      have : (2 * q + 1) / 2 = 2 * q / 2 := by omega
      rw [this]
      cases (2 * q / 2).testBit j <;> simp

def tabN : List Nat := [0, 1, 56, 2, 57, 49, 28, 3, 61, 58, 42, 50, 38, 29, 17, 4, 62, 47, 59, 36, 45, 43, 51, 22, 53, 39, 33, 30, 24, 18, 12, 5, 63, 55, 48, 27, 60, 41, 37, 16, 46, 35, 44, 21, 52, 32, 23, 11, 54, 26, 40, 15, 34, 20, 31, 10, 25, 14, 19, 9, 13, 8, 7, 6]
theorem deB : ∀ t : Fin 64, tabN[(2 ^ t.val * 285870213051353865 % 18446744073709551616) / 288230376151711744]? = some t.val := by decide +kernel

end Go.Proofs.YtpjgaieoijpagaaGreatDoor.X

