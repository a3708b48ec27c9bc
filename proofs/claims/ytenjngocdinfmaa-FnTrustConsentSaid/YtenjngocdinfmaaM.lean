/- Plain mathematics about rows of numbers, crowds as bits and trust, used by the pure statements of this seat. No condition beyond those that each lemma names. -/
import Derived.RowKit
import Derived.Laws.BitsLemmas
import Derived.Test.YtenjngocdinfmaaV
namespace Go.Proofs.Ytenjngocdinfmaa.M
open Go.RowKit Go.Proofs.YtenjngocdinfmaaW.PrintWords Go.Proofs.YtenjngocdinfmaaW.PrintLast Go.Proofs.YtenjngocdinfmaaW.PrintMore
set_option linter.unusedVariables false
set_option linter.unusedSimpArgs false

theorem w64 {x : Int} (h1 : -9223372036854775808 ≤ x) (h2 : x < 9223372036854775808) : wrap64 x = x := by
  unfold wrap64; omega
theorem w64s (i : Nat) (h : i < 4611686018427387904) : wrap64 ((i : Int) + 1) = ((i + 1 : Nat) : Int) := by
  unfold wrap64; omega
theorem rd_lt {xs : List Int} {i : Nat} (h : i < xs.length) : rd xs (i : Int) = xs[i] := by
  unfold rd; simp [List.getD_eq_getElem?_getD, List.getElem?_eq_getElem h]
theorem rd_mem {xs : List Int} {w : Int} (h0 : 0 ≤ w) (h : w < xs.length) : rd xs w ∈ xs := by
  obtain ⟨n, rfl⟩ := Int.eq_ofNat_of_zero_le h0
  have hn : n < xs.length := by omega
  have e : rd xs ((n : Nat) : Int) = xs[n] := rd_lt hn
  rw [e]; exact List.getElem_mem hn
theorem u8_wf {x : Int} (h : (Lit.int .u8 x).wf = true) : 0 ≤ x ∧ x < 256 := by
  have h' : (decide (IntKind.u8.min ≤ x) && decide (x ≤ IntKind.u8.max)) = true := h
  rw [Bool.and_eq_true, decide_eq_true_eq, decide_eq_true_eq] at h'
  have e1 : IntKind.u8.min = 0 := by decide
  have e2 : IntKind.u8.max = 255 := by decide
  omega
theorem bnd {α β : Type} {x : Option α} {a : α} {f : α → Option β} (h : x = some a) : x.bind f = f a := by rw [h]; rfl
theorem p62 : (2 : Nat) ^ 62 = 4611686018427387904 := by decide
theorem fuel {k d : Nat} (h : d < k) : ∃ m, k = m + 1 ∧ d ≤ m := ⟨k - 1, by omega, by omega⟩

/-! ### crowds as bits -/
theorem wraps_i64 (n : Int) (h0 : 0 ≤ n) (h1 : n < 2 ^ 62) : IntKind.i64.wrap n = n := by
  rw [IntKind.wrap_i64]
  have : (2 : Int) ^ 62 = 4611686018427387904 := by decide
  omega
theorem bor {a b : Nat} (ha : a < 2 ^ 62) (hb : b < 2 ^ 62) : Go.bits .or .i64 (a : Int) (b : Int) = ((a ||| b : Nat) : Int) :=
  (bits_nat .i64 62 (by decide) wraps_i64 a b ha hb).2
theorem band {a b : Nat} (ha : a < 2 ^ 62) (hb : b < 2 ^ 62) : Go.bits .and .i64 (a : Int) (b : Int) = ((a &&& b : Nat) : Int) :=
  (bits_nat .i64 62 (by decide) wraps_i64 a b ha hb).1
theorem bxor {a b : Nat} (ha : a < 2 ^ 62) (hb : b < 2 ^ 62) : Go.bits .xor .i64 (a : Int) (b : Int) = ((a ^^^ b : Nat) : Int) := by
  have hp : 2 ^ 62 ≤ 2 ^ IntKind.i64.bits := Nat.pow_le_pow_right (by decide) (by decide)
  have ha' : a % 2 ^ IntKind.i64.bits = a := Nat.mod_eq_of_lt (Nat.lt_of_lt_of_le ha hp)
  have hb' : b % 2 ^ IntKind.i64.bits = b := Nat.mod_eq_of_lt (Nat.lt_of_lt_of_le hb hp)
  simp only [bits, BitVec.ofInt_natCast, BitVec.toNat_xor, BitVec.toNat_ofNat, ha', hb']
  exact wraps_i64 _ (Int.natCast_nonneg _) (by exact_mod_cast Nat.xor_lt_two_pow ha hb)
theorem shl_one {i : Nat} (h : i < 62) : shl .i64 1 (i : Int) = ((2 ^ i : Nat) : Int) := by
  unfold shl
  have e : min ((i : Int)).toNat IntKind.i64.bits = i := by
    have : IntKind.i64.bits = 64 := rfl
    omega
  rw [e, Int.one_mul]
  have h1 : 2 ^ i < 2 ^ 62 := Nat.pow_lt_pow_right (by decide) h
  have h2 : ((2 : Int) ^ i) = ((2 ^ i : Nat) : Int) := by simp
  rw [h2]
  exact wraps_i64 _ (Int.natCast_nonneg _) (by exact_mod_cast h1)
theorem shr_nat {a i : Nat} (h : i < 64) : shr .i64 (a : Int) (i : Int) = ((a >>> i : Nat) : Int) := by
  unfold shr
  have e : min ((i : Int)).toNat IntKind.i64.bits = i := by
    have : IntKind.i64.bits = 64 := rfl
    omega
  rw [e, Nat.shiftRight_eq_div_pow]
  simp
theorem shr_and {a i : Nat} (h : i < 64) (ha : a < 2 ^ 62) : Go.bits .and .i64 (shr .i64 (a : Int) (i : Int)) 1 = if a.testBit i then 1 else 0 := by
  rw [shr_nat h, show (1 : Int) = ((1 : Nat) : Int) from rfl, band (Nat.lt_of_le_of_lt (Nat.shiftRight_le a i) ha) (by decide)]
  unfold Nat.testBit
  rw [Nat.and_comm 1, Nat.and_one_is_mod]
  rcases Nat.mod_two_eq_zero_or_one (a >>> i) with e | e <;> simp [e]

/-- The crowd of those before n of whom something is so. -/
def crN (p : Nat → Bool) : Nat → Nat
  | 0 => 0
  | n + 1 => if p n then crN p n ||| 2 ^ n else crN p n
theorem crN_bit (p : Nat → Bool) (n i : Nat) : (crN p n).testBit i = (decide (i < n) && p i) := by
  induction n with
  | zero => simp [crN]
  | succ n ih =>
    unfold crN
    by_cases h : p n = true
    · rw [if_pos h, Nat.testBit_or, ih, Nat.testBit_two_pow]
      by_cases e : i = n
      · subst e; simp [h]
      · have e2 : ¬ n = i := fun x => e x.symm
        have : (i < n + 1) ↔ (i < n) := by omega
        simp [e2, this]
    · rw [if_neg h, ih]
      by_cases e : i = n
      · subst e; simp [h]
      · have : (i < n + 1) ↔ (i < n) := by omega
        simp [this]
theorem crN_lt (p : Nat → Bool) (n : Nat) : crN p n < 2 ^ n := by
  apply Nat.lt_pow_two_of_testBit
  intro i hi
  rw [crN_bit]
  simp; omega
theorem pow6 {n : Nat} (h : n ≤ 6) : 2 ^ n ≤ 64 := by
  have := Nat.pow_le_pow_right (show 0 < 2 by decide) h
  simpa using this
theorem lt62 {a n : Nat} (h : a < 2 ^ n) (hn : n ≤ 6) : a < 2 ^ 62 := Nat.lt_of_lt_of_le h (Nat.pow_le_pow_right (by decide) (by omega))
/-- How many before n are so. -/
def ctN (p : Nat → Bool) : Nat → Nat
  | 0 => 0
  | n + 1 => ctN p n + if p n then 1 else 0
theorem ctN_le (p : Nat → Bool) (n : Nat) : ctN p n ≤ n := by
  induction n with
  | zero => exact Nat.le_refl _
  | succ n ih => simp only [ctN]; split <;> omega

/-! ### trust -/
def tOk (t : List Int) : Bool := t.all (fun x => decide (0 ≤ x) && decide (x < (t.length : Int))) && (decide (1 ≤ t.length) && decide (t.length ≤ 6))
theorem tOk_len {t : List Int} (h : tOk t = true) : 1 ≤ t.length ∧ t.length ≤ 6 := by
  simp only [tOk, Bool.and_eq_true, decide_eq_true_eq] at h; exact h.2
theorem tOk_mem {t : List Int} (h : tOk t = true) {x : Int} (hx : x ∈ t) : 0 ≤ x ∧ x < t.length := by
  simp only [tOk, Bool.and_eq_true, List.all_eq_true, decide_eq_true_eq] at h; exact h.1 x hx
/-- A person of so many. -/
def inT (t : List Int) (w : Int) : Prop := 0 ≤ w ∧ w < (t.length : Int)
instance (t : List Int) (w : Int) : Decidable (inT t w) := by unfold inT; infer_instance
theorem tOk_rd {t : List Int} (h : tOk t = true) {w : Int} (hw : inT t w) : inT t (rd t w) := tOk_mem h (rd_mem hw.1 hw.2)
/-- So many steps of trust. -/
def itT (t : List Int) : Nat → Int → Int
  | 0, w => w
  | n + 1, w => itT t n (rd t w)
theorem itT_in {t : List Int} (h : tOk t = true) : ∀ (n : Nat) {w : Int}, inT t w → inT t (itT t n w)
  | 0, _, hw => hw
  | n + 1, _, hw => itT_in h n (tOk_rd h hw)
theorem itT_add (t : List Int) : ∀ (a b : Nat) (w : Int), itT t (a + b) w = itT t b (itT t a w)
  | 0, b, w => by rw [Nat.zero_add]; rfl
  | a + 1, b, w => by rw [Nat.add_right_comm]; exact itT_add t a b (rd t w)
theorem itT_fix {t : List Int} {w : Int} (h : rd t w = w) : ∀ n, itT t n w = w
  | 0 => rfl
  | n + 1 => by show itT t n (rd t w) = w; rw [h]; exact itT_fix h n
/-- The voice; -1 for none. -/
def vo (t : List Int) (w : Int) : Int := if rd t (itT t t.length w) = itT t t.length w then itT t t.length w else -1
theorem pigeon : ∀ (n : Nat) (f : Nat → Nat), (∀ i, i ≤ n → f i < n) → ∃ i j, i < j ∧ j ≤ n ∧ f i = f j := by
  intro n
  induction n with
  | zero => intro f h; have := h 0 (Nat.le_refl _); omega
  | succ n ih =>
    intro f h
    by_cases hx : ∃ i, i ≤ n ∧ f i = f (n + 1)
    · obtain ⟨i, hi, e⟩ := hx; exact ⟨i, n + 1, by omega, Nat.le_refl _, e⟩
    · have hx' : ∀ i, i ≤ n → f i ≠ f (n + 1) := fun i hi e => hx ⟨i, hi, e⟩
      obtain ⟨i, j, hij, hj, e⟩ := ih (fun i => if f i = n then f (n + 1) else f i) (by
        intro i hi
        have h1 := h i (by omega)
        have h2 := h (n + 1) (Nat.le_refl _)
        have h3 := hx' i hi
        show (if f i = n then f (n + 1) else f i) < n
        split <;> omega)
      refine ⟨i, j, hij, by omega, ?_⟩
      have a := hx' i (by omega)
      have b := hx' j (by omega)
      have e' : (if f i = n then f (n + 1) else f i) = (if f j = n then f (n + 1) else f j) := e
      split at e' <;> split at e' <;> omega
theorem fix_within {t : List Int} (h : tOk t = true) {w : Int} (hw : inT t w) : ∀ m, rd t (itT t m w) = itT t m w → (∀ j, j < m → rd t (itT t j w) ≠ itT t j w) → m < t.length := by
  intro m hm hmin
  refine Nat.lt_of_not_le fun hge => ?_
  obtain ⟨i, j, hij, hj, e⟩ := pigeon t.length (fun i => (itT t i w).toNat) (fun i _ => by
    have := itT_in h i hw; unfold inT at this; show (itT t i w).toNat < _; omega)
  have hi1 := itT_in h i hw
  have hj1 := itT_in h j hw
  have e2 : itT t i w = itT t j w := by
    have e' : (itT t i w).toNat = (itT t j w).toNat := e
    unfold inT at hi1 hj1; omega
  apply hmin (i + (m - j)) (by omega)
  have e3 : itT t (i + (m - j)) w = itT t m w := by
    rw [itT_add, e2, ← itT_add, show j + (m - j) = m from by omega]
  rw [e3]; exact hm
/-- If any number of steps ends in a voice, so do as many as there are people, in the same. -/
theorem fix_any {t : List Int} (h : tOk t = true) {w : Int} (hw : inT t w) {m : Nat} (hm : rd t (itT t m w) = itT t m w) :
    itT t t.length w = itT t m w := by
  have key : ∀ n, (∃ m, m ≤ n ∧ rd t (itT t m w) = itT t m w) → ∃ m, rd t (itT t m w) = itT t m w ∧ ∀ j, j < m → rd t (itT t j w) ≠ itT t j w := by
    intro n
    induction n with
    | zero => rintro ⟨m, hm0, hm⟩; obtain rfl : m = 0 := by omega
              exact ⟨0, hm, fun j hj => absurd hj (Nat.not_lt_zero j)⟩
    | succ n ih =>
      rintro ⟨m, hm0, hm⟩
      by_cases hx : ∃ m, m ≤ n ∧ rd t (itT t m w) = itT t m w
      · exact ih hx
      · obtain rfl : m = n + 1 := by
          refine Nat.le_antisymm hm0 (Nat.le_of_not_lt fun hlt => hx ⟨m, by omega, hm⟩)
        exact ⟨n + 1, hm, fun j hj e => hx ⟨j, by omega, e⟩⟩
  obtain ⟨q, hq, hmin⟩ := key m ⟨m, Nat.le_refl _, hm⟩
  have hlt := fix_within h hw q hq hmin
  have up : ∀ r, q ≤ r → itT t r w = itT t q w := by
    intro r hr
    rw [show r = q + (r - q) from by omega, itT_add, itT_fix hq]
  have hqm : q ≤ m := by
    refine Nat.le_of_not_lt fun hlt2 => hmin m hlt2 hm
  rw [up _ (by omega), up m hqm]
theorem vo_cases {t : List Int} (h : tOk t = true) {w : Int} (hw : inT t w) :
    (inT t (vo t w) ∧ rd t (vo t w) = vo t w ∧ itT t t.length w = vo t w) ∨ (vo t w = -1 ∧ ∀ m, rd t (itT t m w) ≠ itT t m w) := by
  by_cases e : rd t (itT t t.length w) = itT t t.length w
  · have e2 : vo t w = itT t t.length w := by unfold vo; rw [if_pos e]
    left; rw [e2]; exact ⟨itT_in h _ hw, e, rfl⟩
  · right
    refine ⟨by unfold vo; rw [if_neg e], fun m hm => e ?_⟩
    rw [fix_any h hw hm]; exact hm
theorem vo_ge {t : List Int} (h : tOk t = true) {w : Int} (hw : inT t w) : -1 ≤ vo t w ∧ vo t w < t.length := by
  rcases vo_cases h hw with ⟨h1, _, _⟩ | ⟨h1, _⟩
  · unfold inT at h1; omega
  · have := tOk_len h; omega
end Go.Proofs.Ytenjngocdinfmaa.M
