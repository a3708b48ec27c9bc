/- Apart is the same both ways. Condition: the code is of bytes. -/
import Derived.Test.YtojoblllgddckaaCAll60
import Derived.Test.YtojoblllgddckaaM
namespace Go.Proofs.Ytojoblllgddckaa.Pure
open Go.RowKit Go.Proofs.Ytojoblllgddckaa.PAll Go.Proofs.YtojoblllgddckaaW.PrintWords Go.Proofs.YtojoblllgddckaaW.PrintMore Go.Proofs.Ytojoblllgddckaa.M
set_option linter.unusedVariables false
set_option linter.unusedSimpArgs false

theorem alive_f : laws_alive.f = some true := by decide

/-! ### draws -/
/-- A code: bytes, at most 2000. -/
def okB (b : List Int) : Prop := b.length ≤ 2000 ∧ ∀ x ∈ b, 0 ≤ x ∧ x < 256
theorem okB_rd {b : List Int} (h : okB b) {i : Int} (h0 : 0 ≤ i) (h1 : i < b.length) : 0 ≤ rd b i ∧ rd b i < 256 := h.2 _ (rd_mem h0 h1)
theorem tmod_in {a : Int} {n : Int} (ha : 0 ≤ a) (hn : 0 < n) : 0 ≤ Int.tmod a n ∧ Int.tmod a n < n :=
  ⟨Int.tmod_nonneg n ha, Int.tmod_lt_of_pos a hn⟩
theorem pick_f {b : List Int} (hb : okB b) {p : Int} (hp0 : 0 ≤ p) (hp : p < 1099511627776) (n : Int) {k : Nat} (hk : 0 < k) :
    ∃ v, spec_l20Rd_pick.f k b p n = some (v, p + 1) ∧ 0 ≤ v ∧ (v < n ∨ v = 0) := by
  obtain ⟨k, rfl, _⟩ := fuel hk
  unfold spec_l20Rd_pick.f
  simp only [spec_l20Rd_pick.j0]
  rw [w64 (x := p + 1) (by omega) (by omega), show p + 1 - 1 = p from by omega, w64 (x := p) (by omega) (by omega)]
  by_cases h1 : n < 1
  · rw [if_pos h1]; exact ⟨0, by simp, by omega, .inr rfl⟩
  · rw [if_neg h1]
    by_cases h2 : (b.length : Int) = 0
    · rw [h2]; exact ⟨0, by simp, by omega, .inr rfl⟩
    · have h2' : ((b.length : Int) == 0) = false := by simpa using h2
      rw [h2', if_neg (by simp)]
      have hb1 := hb.1
      by_cases h3 : p < (b.length : Int)
      · have hr := okB_rd hb hp0 h3
        rw [if_pos h3, if_pos hp0, if_neg (by omega), w64 (x := rd b p) (by omega) (by omega)]
        have := tmod_in hr.1 (show 0 < n by omega)
        exact ⟨_, rfl, this.1, .inl this.2⟩
      · have m1 := tmod_in hp0 (show (0 : Int) < (b.length : Int) by omega)
        have m2 := tmod_in (show (0 : Int) ≤ p * 7 + 3 by omega) (show (0 : Int) < (b.length : Int) by omega)
        have r1 := okB_rd hb m1.1 m1.2
        have r2 := okB_rd hb m2.1 m2.2
        have d1 : 0 ≤ Int.tdiv p (b.length : Int) := Int.tdiv_nonneg hp0 (by omega)
        have d2 : Int.tdiv p (b.length : Int) ≤ p := Int.tdiv_le_self _ hp0
        rw [if_neg h3, if_neg h2]
        rw [w64 (x := p * 7) (by omega) (by omega), w64 (x := p * 7 + 3) (by omega) (by omega)]
        rw [if_pos m1.1, if_pos m1.2, if_pos m2.1, if_pos m2.2, if_neg (by omega)]
        generalize rd b (Int.tmod p (b.length : Int)) = x1 at *
        generalize rd b (Int.tmod (p * 7 + 3) (b.length : Int)) = x2 at *
        generalize Int.tdiv p (b.length : Int) = q at *
        rw [w64 (x := x1) (by omega) (by omega), w64 (x := x2) (by omega) (by omega), w64 (x := x1 * 131) (by omega) (by omega), w64 (x := x2 * 1117) (by omega) (by omega), w64 (x := p * 29) (by omega) (by omega), w64 (x := q) (by omega) (by omega), w64 (x := q * 53) (by omega) (by omega), w64 (x := x1 * 131 + x2 * 1117) (by omega) (by omega), w64 (x := x1 * 131 + x2 * 1117 + p * 29) (by omega) (by omega), w64 (x := x1 * 131 + x2 * 1117 + p * 29 + q * 53) (by omega) (by omega)]
        obtain ⟨X, eX⟩ := Int.eq_ofNat_of_zero_le (show 0 ≤ x1 * 131 + x2 * 1117 + p * 29 + q * 53 by omega)
        have hX : X < 4611686018427387904 := by omega
        rw [eX]
        have e64 : Int.tdiv (X : Int) 64 = ((X / 64 : Nat) : Int) := by rw [show (64 : Int) = ((64 : Nat) : Int) from rfl, ← Int.ofNat_tdiv]
        rw [e64, w64 (by omega) (by omega), bxor (by rw [p62]; omega) (by rw [p62]; omega)]
        have := tmod_in (Int.natCast_nonneg (X ^^^ (X / 64))) (show 0 < n by omega)
        exact ⟨_, rfl, this.1, .inl this.2⟩
theorem open_f {l : List Int} (hb : ∀ x ∈ l, (Lit.int .u8 x).wf = true) : ∃ b, spec_l20Open.f l = some (b, 0) ∧ okB b := by
  have hw : ∀ x ∈ l, 0 ≤ x ∧ x < 256 := by
    exact fun x hx => u8_wf (hb x hx)
  unfold spec_l20Open.f
  by_cases h : (l.length : Int) > 2000
  · rw [if_pos h, if_pos (by omega)]
    exact ⟨_, rfl, by simp; omega, fun x hx => hw x (List.mem_of_mem_take hx)⟩
  · rw [if_neg h]; exact ⟨_, rfl, by omega, hw⟩

/-! ### crowds -/
/-- A crowd of so many people, 1 to 6. -/
def isC (n : Nat) (a : Int) : Bool := decide (1 ≤ n) && decide (n ≤ 6) && (decide (0 ≤ a) && decide (a < ((2 ^ n : Nat) : Int)))
theorem iCrowd_f {n : Nat} {a : Int} : impl_isCrowd.f (n : Int) a = some (isC n a) := by
  unfold impl_isCrowd.f impl_arePeople.f isC
  by_cases h1 : 1 ≤ n
  · rw [if_pos (by omega), decide_eq_true h1]
    by_cases h2 : n ≤ 6
    · simp only [decide_eq_true (by omega : (n : Int) ≤ 6), Option.bind_some, if_true, decide_eq_true h2, Bool.true_and]
      by_cases h3 : a ≥ 0
      · rw [if_pos h3, if_pos (by omega), shl_one (by omega), decide_eq_true (by omega : 0 ≤ a)]; simp
      · rw [if_neg h3, decide_eq_false (by omega : ¬ 0 ≤ a)]; simp
    · simp only [decide_eq_false (by omega : ¬ (n : Int) ≤ 6), Option.bind_some, decide_eq_false h2]; simp
  · rw [if_neg (by omega), decide_eq_false h1]; simp

theorem sCrowd_f {n : Nat} {a : Int} : spec_CrowdOk.f (n : Int) a = some (isC n a) := by
  unfold spec_CrowdOk.f spec_l1In.f isC
  by_cases h1 : 1 ≤ n
  · rw [if_pos (by omega), decide_eq_true h1]
    by_cases h2 : n ≤ 6
    · have h62 : 2 ^ n ≤ 64 := pow6 h2
      have hpos := Nat.two_pow_pos n
      simp only [decide_eq_true (by omega : (n : Int) ≤ 6), Option.bind_some, if_true, decide_eq_true h2, Bool.true_and]
      rw [if_pos (by omega), shl_one (by omega), w64 (by omega) (by omega)]
      by_cases h3 : a ≥ 0
      · rw [if_pos h3, decide_eq_true (by omega : 0 ≤ a)]
        simp only [Option.bind_some, Bool.true_and]
        congr 1
        exact decide_eq_decide.2 (by omega)
      · rw [if_neg h3, decide_eq_false (by omega : ¬ 0 ≤ a)]; simp
    · simp only [decide_eq_false (by omega : ¬ (n : Int) ≤ 6), Option.bind_some, decide_eq_false h2]; simp
  · rw [if_neg (by omega), decide_eq_false h1]; simp

/-! ### heads of a crowd -/
def hd (c : Nat) : Nat := ctN (fun i => c.testBit i) 6
set_option maxRecDepth 100000 in
theorem heads_all : ∀ c : Fin 64, impl_headsOf.f ((c.val : Nat) : Int) = some ((hd c.val : Nat) : Int) := by decide +kernel
theorem heads_f {c : Nat} (h : c < 64) : impl_headsOf.f (c : Int) = some (hd c : Int) := heads_all ⟨c, h⟩
/-! ### houses -/
def isCI (P a : Int) : Bool := decide (1 ≤ P) && decide (P ≤ 6) && (decide (0 ≤ a) && decide (a < ((2 ^ P.toNat : Nat) : Int)))
theorem isCI_nat (n : Nat) (a : Int) : isCI (n : Int) a = isC n a := by
  unfold isCI isC
  rw [show ((n : Int)).toNat = n from by omega, show decide (1 ≤ (n : Int)) = decide (1 ≤ n) from decide_eq_decide.2 (by omega), show decide ((n : Int) ≤ 6) = decide (n ≤ 6) from decide_eq_decide.2 (by omega)]
theorem iCI_f (P a : Int) : impl_isCrowd.f P a = some (isCI P a) := by
  by_cases h : 0 ≤ P
  · obtain ⟨n, rfl⟩ := Int.eq_ofNat_of_zero_le h
    rw [iCrowd_f, isCI_nat]
  · unfold impl_isCrowd.f impl_arePeople.f isCI
    rw [if_neg (by omega), decide_eq_false (by omega : ¬ 1 ≤ P)]; simp
def hTail (P : Int) (B : List Int) : Bool := decide (1 ≤ P) && decide (P ≤ 6) && decide (B.length ≤ 4)
def hOk (P : Int) (B : List Int) : Bool := B.all (fun b => isCI P b && !(b == 0)) && hTail P B
theorem isHouse_l (P : Int) (B : List Int) (hl : B.length < 4611686018427387904) : ∀ (d i k : Nat), i + d = B.length → d < k →
    impl_isHouse.l0 k B (B.length : Int) (i : Int) P B = some ((B.drop i).all (fun b => isCI P b && !(b == 0)) && hTail P B) := by
  intro d
  induction d with
  | zero =>
    intro i k hi hk
    obtain ⟨k, rfl, _⟩ := fuel hk
    have e : B.drop i = [] := List.drop_eq_nil_of_le (by omega)
    have h4 : decide ((B.length : Int) ≤ 4) = decide (B.length ≤ 4) := decide_eq_decide.2 (by omega)
    rw [impl_isHouse.l0, if_neg (by omega), e]
    unfold impl_arePeople.f hTail
    by_cases h : P ≥ 1
    · rw [if_pos h, bnd rfl, decide_eq_true (by omega : 1 ≤ P)]
      by_cases h2 : P ≤ 6
      · rw [decide_eq_true h2, if_pos rfl, h4]; simp
      · rw [decide_eq_false h2, if_neg (by simp)]; simp
    · rw [if_neg h, bnd rfl, if_neg (by simp), decide_eq_false (by omega : ¬ 1 ≤ P)]; simp
  | succ d ih =>
    intro i k hi hk
    obtain ⟨k, rfl, hk'⟩ := fuel hk
    have hlt : i < B.length := by omega
    rw [impl_isHouse.l0, if_pos (by omega), if_pos (by omega), if_pos (by omega), rd_lt hlt, iCI_f, bnd rfl, w64s i (by omega), ih (i + 1) k (by omega) (by omega), List.drop_eq_getElem_cons hlt, List.all_cons]
    by_cases h1 : isCI P B[i] = true
    · rw [if_pos h1, h1]
      by_cases h2 : B[i] = 0
      · rw [if_pos h2, beq_iff_eq.2 h2]; simp
      · rw [if_neg h2, beq_eq_false_iff_ne.2 h2]; simp
    · rw [if_neg h1, show isCI P B[i] = false from by simpa using h1]; simp
theorem isHouse_f (P : Int) (B : List Int) (hl : B.length < 4611686018427387904) {k : Nat} (hk : B.length < k) : impl_isHouse.f k P B = some (hOk P B) := by
  unfold impl_isHouse.f
  have := isHouse_l P B hl B.length 0 k (by omega) hk
  simpa [hOk] using this
theorem hOk_P {P : Int} {B : List Int} (h : hOk P B = true) : ∃ n : Nat, P = (n : Int) ∧ 1 ≤ n ∧ n ≤ 6 := by
  simp only [hOk, hTail, Bool.and_eq_true, decide_eq_true_eq] at h
  exact ⟨P.toNat, by omega, by omega, by omega⟩
theorem hOk_len {P : Int} {B : List Int} (h : hOk P B = true) : B.length ≤ 4 := by
  simp only [hOk, hTail, Bool.and_eq_true, decide_eq_true_eq] at h; exact h.2.2
theorem hOk_mem {P : Int} {B : List Int} (h : hOk P B = true) {b : Int} (hb : b ∈ B) : 0 < b ∧ b < 64 := by
  obtain ⟨n, rfl, h1, h6⟩ := hOk_P h
  simp only [hOk, Bool.and_eq_true, List.all_eq_true] at h
  have := h.1 b hb
  rw [isCI_nat] at this
  simp only [isC, decide_eq_true_eq, Bool.not_eq_true', beq_eq_false_iff_ne, Bool.and_eq_true] at this
  have := pow6 h6
  omega

theorem sCI_f (P a : Int) : spec_CrowdOk.f P a = some (isCI P a) := by
  by_cases h : 0 ≤ P
  · obtain ⟨n, rfl⟩ := Int.eq_ofNat_of_zero_le h
    rw [sCrowd_f, isCI_nat]
  · unfold spec_CrowdOk.f spec_l1In.f isCI
    rw [if_neg (by omega), decide_eq_false (by omega : ¬ 1 ≤ P)]; simp
theorem sHouse_l (P : Int) (B : List Int) (hl : B.length < 4611686018427387904) : ∀ (d i k : Nat), i + d = B.length → d < k →
    spec_HouseOk.l0 k (i : Int) P B = some ((B.drop i).all (fun b => isCI P b && !(b == 0)) && hTail P B) := by
  intro d
  induction d with
  | zero =>
    intro i k hi hk
    obtain ⟨k, rfl, _⟩ := fuel hk
    have e : B.drop i = [] := List.drop_eq_nil_of_le (by omega)
    have h4 : decide ((B.length : Int) ≤ 4) = decide (B.length ≤ 4) := decide_eq_decide.2 (by omega)
    rw [spec_HouseOk.l0, if_neg (by omega), e]
    unfold spec_l1In.f hTail
    by_cases h : P ≥ 1
    · rw [if_pos h, bnd rfl, decide_eq_true (by omega : 1 ≤ P)]
      by_cases h2 : P ≤ 6
      · rw [decide_eq_true h2, if_pos rfl, h4]; simp
      · rw [decide_eq_false h2, if_neg (by simp)]; simp
    · rw [if_neg h, bnd rfl, if_neg (by simp), decide_eq_false (by omega : ¬ 1 ≤ P)]; simp
  | succ d ih =>
    intro i k hi hk
    obtain ⟨k, rfl, hk'⟩ := fuel hk
    have hlt : i < B.length := by omega
    rw [spec_HouseOk.l0, if_pos (by omega), if_pos (by omega), rd_lt hlt, sCI_f, bnd rfl, w64s i (by omega), ih (i + 1) k (by omega) (by omega), List.drop_eq_getElem_cons hlt, List.all_cons]
    by_cases h1 : isCI P B[i] = true
    · rw [if_pos h1, h1]
      by_cases h2 : B[i] = 0
      · rw [if_pos h2, beq_iff_eq.2 h2]; simp
      · rw [if_neg h2, beq_eq_false_iff_ne.2 h2]; simp
    · rw [if_neg h1, show isCI P B[i] = false from by simpa using h1]; simp
theorem sHouse_f (P : Int) (B : List Int) (hl : B.length < 4611686018427387904) {k : Nat} (hk : B.length < k) : spec_HouseOk.f k P B = some (hOk P B) := by
  unfold spec_HouseOk.f
  have := sHouse_l P B hl B.length 0 k (by omega) hk
  simpa [hOk] using this

/-! ### terms -/
theorem rdM {l : List S35} {i : Nat} (h : i < l.length) : rd_T35 l (i : Int) = l[i] := by
  unfold rd_T35; simp [List.getD_eq_getElem?_getD, List.getElem?_eq_getElem h]
/-- Heads of a body that is told by a number. -/
def hdI (b : Int) : Int := (hd b.toNat : Int)
def aOk (B : List Int) (m : S35) : Bool := decide (m.f0 = 0) && (decide (0 ≤ m.f1) && (decide (m.f1 < (B.length : Int)) && (decide (1 ≤ m.f2) && decide (m.f2 ≤ hdI (rd B m.f1)))))
def oOk (m : S35) : Bool := (decide (m.f0 = 1) || decide (m.f0 = 2)) && (decide (m.f1 = 0) && decide (m.f2 = 0))
theorem aOk_iff {B : List Int} {m : S35} : aOk B m = true ↔ m.f0 = 0 ∧ 0 ≤ m.f1 ∧ m.f1 < (B.length : Int) ∧ 1 ≤ m.f2 ∧ m.f2 ≤ hdI (rd B m.f1) := by
  simp only [aOk, Bool.and_eq_true, decide_eq_true_eq]
theorem oOk_iff {m : S35} : oOk m = true ↔ (m.f0 = 1 ∨ m.f0 = 2) ∧ m.f1 = 0 ∧ m.f2 = 0 := by
  simp only [oOk, Bool.and_eq_true, Bool.or_eq_true, decide_eq_true_eq]
theorem bfalse {b : Bool} (h : ¬ b = true) : b = false := by simpa using h
/-- Parts are counted mark by mark. -/
def scan (B : List Int) : Nat → List S35 → Option Nat
  | p, [] => some p
  | p, m :: ms => if aOk B m = true then scan B (p + 1) ms else if oOk m = true ∧ 2 ≤ p then scan B (p - 1) ms else none
def tmOk (P : Int) (B : List Int) (t : List S35) : Bool := hOk P B && (decide (t.length ≤ 9) && (scan B 0 t == some 1))
inductive TR where
  | at (m : S35)
  | op (m : S35) (l r : TR)
theorem headsI_f {P : Int} {B : List Int} (h : hOk P B = true) {i : Int} (h0 : 0 ≤ i) (h1 : i < (B.length : Int)) : impl_headsOf.f (rd B i) = some (hdI (rd B i)) := by
  have hm := hOk_mem h (rd_mem h0 h1)
  have e := heads_f (c := (rd B i).toNat) (by omega)
  rw [show (((rd B i).toNat : Nat) : Int) = rd B i from by omega] at e
  exact e
theorem isTerm_l {P : Int} {B : List Int} (h : hOk P B = true) (t : List S35) (hl : t.length ≤ 9) : ∀ (d i p k : Nat), i + d = t.length → p ≤ i → 2 * d < k →
    impl_isTerm.l0 k (p : Int) t (t.length : Int) (i : Int) P B = some (scan B p (t.drop i) == some 1) := by
  intro d
  induction d with
  | zero =>
    intro i p k hi hp hk
    obtain ⟨k, rfl, _⟩ := fuel hk
    rw [impl_isTerm.l0, if_neg (by omega), List.drop_eq_nil_of_le (by omega)]
    simp only [scan]
    by_cases e : p = 1
    · subst e; rfl
    · rw [beq_eq_false_iff_ne.2 (show (p : Int) ≠ 1 by omega), beq_eq_false_iff_ne.2 (show some p ≠ some 1 by simpa using e)]
  | succ d ih =>
    intro i p k hi hp hk
    obtain ⟨k, rfl, hk1⟩ := fuel hk
    obtain ⟨k, rfl, hk2⟩ := fuel (show 2 * d + 1 < k by omega)
    have hlt : i < t.length := by omega
    rw [impl_isTerm.l0, if_pos (by omega), if_pos (by omega), if_pos (by omega), rdM hlt, List.drop_eq_getElem_cons hlt]
    generalize hm : t[i] = m
    simp only [scan]
    by_cases e0 : m.f0 = 0
    · have ho : ¬ (oOk m = true ∧ 2 ≤ p) := by rintro ⟨x, _⟩; rw [oOk_iff] at x; omega
      rw [if_pos e0, if_neg ho]
      by_cases e1 : m.f1 < 0
      · rw [if_pos e1, if_neg (fun x => by rw [aOk_iff] at x; omega)]; rfl
      · rw [if_neg e1]
        by_cases e2 : m.f1 ≥ (B.length : Int)
        · rw [if_pos e2, if_neg (fun x => by rw [aOk_iff] at x; omega)]; rfl
        · rw [if_neg e2]
          by_cases e3 : m.f2 < 1
          · rw [if_pos e3, if_neg (fun x => by rw [aOk_iff] at x; omega)]; rfl
          · rw [if_neg e3, if_pos (by omega), if_pos (by omega), headsI_f h (by omega) (by omega), bnd rfl]
            by_cases e4 : m.f2 > hdI (rd B m.f1)
            · rw [if_pos e4, if_neg (fun x => by rw [aOk_iff] at x; omega)]; rfl
            · have ha : aOk B m = true := by rw [aOk_iff]; omega
              rw [if_neg e4, if_pos ha, w64s i (by omega), w64s p (by omega)]
              exact ih (i + 1) (p + 1) (k + 1) (by omega) (by omega) (by omega)
    · have ha : ¬ aOk B m = true := by intro x; rw [aOk_iff] at x; omega
      rw [if_neg e0, if_neg ha]
      have key : ∀ b : Bool, (b = true ↔ m.f0 = 1 ∨ m.f0 = 2) → impl_isTerm.j2 (k + 1) (p : Int) t (t.length : Int) (i : Int) b P B m.f0 m.f1 m.f2 = some ((if oOk m = true ∧ 2 ≤ p then scan B (p - 1) (t.drop (i + 1)) else none) == some 1) := by
        intro b hb
        rw [impl_isTerm.j2]
        by_cases h1 : b = true
        · rw [if_pos h1]
          by_cases h2 : m.f1 = 0
          · rw [if_pos h2]
            by_cases h3 : m.f2 = 0
            · rw [if_pos h3]
              have ho : oOk m = true := by rw [oOk_iff]; exact ⟨hb.1 h1, h2, h3⟩
              by_cases h4 : (p : Int) < 2
              · rw [if_pos h4, if_neg (by omega)]; rfl
              · rw [if_neg h4, if_pos ⟨ho, by omega⟩, w64s i (by omega), w64 (by omega) (by omega), show (p : Int) - 1 = ((p - 1 : Nat) : Int) from by omega]
                exact ih (i + 1) (p - 1) k (by omega) (by omega) (by omega)
            · rw [if_neg h3, if_neg (fun x => by rw [oOk_iff] at x; exact h3 x.1.2.2)]; rfl
          · rw [if_neg h2, if_neg (fun x => by rw [oOk_iff] at x; exact h2 x.1.2.1)]; rfl
        · rw [if_neg h1, if_neg (fun x => by rw [oOk_iff] at x; exact h1 (hb.2 x.1.1))]; rfl
      by_cases e1 : m.f0 = 1
      · rw [if_pos e1]; exact key _ (by rw [beq_iff_eq]; omega)
      · rw [if_neg e1]; exact key _ (by rw [beq_iff_eq]; omega)
theorem isTerm_f (P : Int) (B : List Int) (t : List S35) (hB : B.length < 4611686018427387904) (hl : t.length < 4611686018427387904) {k : Nat} (hk : B.length + 40 < k) : impl_isTerm.f k P B t = some (tmOk P B t) := by
  unfold impl_isTerm.f
  rw [isHouse_f P B hB (by omega), bnd rfl]
  obtain ⟨k, rfl, hk'⟩ := fuel hk
  unfold tmOk
  by_cases h : hOk P B = true
  · rw [if_pos h, h]
    by_cases h1 : (t.length : Int) < 1
    · have : t = [] := List.length_eq_zero_iff.1 (by omega)
      subst this
      rw [if_pos h1, impl_isTerm.j0, if_pos rfl]; rfl
    · rw [if_neg h1, impl_isTerm.j0]
      by_cases h2 : (t.length : Int) > 9
      · rw [if_pos (decide_eq_true h2), decide_eq_false (by omega)]; rfl
      · rw [if_neg (by simpa using h2), decide_eq_true (by omega)]
        have := isTerm_l h t (by omega) t.length 0 0 k (by omega) (by omega) (by omega)
        simpa using this
  · rw [if_neg h, bfalse h, impl_isTerm.j0, if_pos rfl]; rfl

/-! ### consent, mark by mark -/
/-! ### heads and terms, as the reference has them -/
set_option maxRecDepth 100000 in
theorem l1Heads_all : ∀ c : Fin 64, spec_l1Heads.f 8 ((c.val : Nat) : Int) = some ((hd c.val : Nat) : Int) := by decide +kernel
theorem l1Heads_f {c : Nat} (h : c < 64) {k : Nat} (hk : 8 ≤ k) : spec_l1Heads.f k (c : Int) = some (hd c : Int) :=
  at_rounds (fun j => spec_l1Heads.mono _ j) hk (l1Heads_all ⟨c, h⟩)
theorem l1Heads_l : ∀ (d : Nat) (x n : Int) (k : Nat), x < ((2 ^ d : Nat) : Int) → x < 9223372036854775808 → 0 ≤ n → n + d < 1000 → d < k → ∃ r, spec_l1Heads.l0 k x n = some r ∧ 0 ≤ r ∧ r < 1000 := by
  intro d
  induction d with
  | zero =>
    intro x n k hx _ h0 hn hk
    obtain ⟨k, rfl, _⟩ := fuel hk
    have hx0 : x < 1 := hx
    rw [spec_l1Heads.l0, if_neg (by omega)]
    exact ⟨n, rfl, h0, by omega⟩
  | succ d ih =>
    intro x n k hx hb h0 hn hk
    obtain ⟨k, rfl, _⟩ := fuel hk
    rw [spec_l1Heads.l0]
    by_cases h : x > 0
    · have e1 : Int.tdiv x 2 = x / 2 := Int.tdiv_eq_ediv_of_nonneg (by omega)
      have e2 : Int.tmod x 2 = x % 2 := Int.tmod_eq_emod_of_nonneg (by omega)
      rw [if_pos h, e1, e2, w64 (x := x / 2) (by omega) (by omega), w64 (by omega) (by omega)]
      refine ih _ _ k ?_ (by omega) (by omega) (by omega) (by omega)
      rw [Nat.pow_succ] at hx
      omega
    · rw [if_neg h]; exact ⟨n, rfl, h0, by omega⟩
theorem l1Heads_any {x : Int} (hx : x < 9223372036854775808) {k : Nat} (hk : 64 < k) : ∃ r, spec_l1Heads.f k x = some r ∧ 0 ≤ r ∧ r < 1000 :=
  l1Heads_l 63 x 0 k (by have : ((2 ^ 63 : Nat) : Int) = 9223372036854775808 := by decide
                         rw [this]; exact hx) hx (by omega) (by omega) (by omega)
theorem l1HeadsI_f {P : Int} {B : List Int} (h : hOk P B = true) {i : Int} (h0 : 0 ≤ i) (h1 : i < (B.length : Int)) {k : Nat} (hk : 8 ≤ k) : spec_l1Heads.f k (rd B i) = some (hdI (rd B i)) := by
  have hm := hOk_mem h (rd_mem h0 h1)
  have e := l1Heads_f (c := (rd B i).toNat) (by omega) hk
  rw [show (((rd B i).toNat : Nat) : Int) = rd B i from by omega] at e
  exact e
theorem oOk_eq (m : S35) : ((m.f0 == 1 && (m.f1 == 0 && (m.f2 == 0))) = true ∨ (m.f0 == 2 && (m.f1 == 0 && (m.f2 == 0))) = true) ↔ oOk m = true := by
  rw [oOk_iff]
  simp only [Bool.and_eq_true, beq_iff_eq]
  omega
theorem sTerm_end {P : Int} {B : List Int} {t : List S35} {p i k : Nat} (hB : B.length < 1152921504606846976) (hi : i = t.length) (hl : t.length < 1152921504606846976) (hk : B.length + 1 < k) :
    spec_TermOk.l0 k t (p : Int) (i : Int) P B = some (hOk P B && (decide (p = 1) && decide (t.length ≤ 9))) := by
  obtain ⟨k, rfl, hk'⟩ := fuel hk
  rw [spec_TermOk.l0, if_neg (by omega), sHouse_f P B (by omega) (by omega), bnd rfl]
  by_cases h : hOk P B = true
  · rw [if_pos h, h]
    by_cases e : p = 1
    · rw [if_pos (by omega), decide_eq_true e, show decide ((t.length : Int) ≤ 9) = decide (t.length ≤ 9) from decide_eq_decide.2 (by omega)]; simp
    · rw [if_neg (by omega), decide_eq_false e]; simp
  · rw [if_neg h, bfalse h]; rfl
theorem sTerm_l {P : Int} {B : List Int} (h : hOk P B = true) (t : List S35) (hl : t.length < 1152921504606846976) : ∀ (d i p k : Nat), i + d = t.length → p ≤ i → 2 * d + 60 < k →
    spec_TermOk.l0 k t (p : Int) (i : Int) P B = some ((scan B p (t.drop i) == some 1) && decide (t.length ≤ 9)) := by
  have hB := hOk_len h
  intro d
  induction d with
  | zero =>
    intro i p k hi hp hk
    rw [sTerm_end (by omega) (by omega) hl (by omega), h, List.drop_eq_nil_of_le (by omega)]
    simp only [scan]
    by_cases e : p = 1
    · subst e; rfl
    · rw [decide_eq_false e, beq_eq_false_iff_ne.2 (show some p ≠ some 1 by simpa using e)]; rfl
  | succ d ih =>
    intro i p k hi hp hk
    obtain ⟨k, rfl, hk1⟩ := fuel hk
    obtain ⟨k, rfl, hk2⟩ := fuel (show 2 * d + 61 < k by omega)
    have hlt : i < t.length := by omega
    rw [spec_TermOk.l0, if_pos (by omega), if_pos (by omega), rdM hlt, List.drop_eq_getElem_cons hlt]
    have hr : rd_T35 t (i : Int) = t[i] := rdM hlt
    generalize t[i] = m at *
    simp only [scan]
    have no : aOk B m = false → spec_TermOk.j1 (k + 1) t (p : Int) (i : Int) false P B = some (((if aOk B m = true then scan B (p + 1) (t.drop (i + 1)) else if oOk m = true ∧ 2 ≤ p then scan B (p - 1) (t.drop (i + 1)) else none) == some 1) && decide (t.length ≤ 9)) := by
      intro ha
      rw [spec_TermOk.j1, if_neg (by simp), if_pos (by omega), if_pos (by omega), hr, if_neg (show ¬ aOk B m = true by rw [ha]; simp)]
      have hoe := oOk_eq m
      have go : oOk m = true → (if (p : Int) ≥ 2 then spec_TermOk.l0 k t (wrap64 ((p : Int) - 1)) (wrap64 ((i : Int) + 1)) P B else some false) = some (((if oOk m = true ∧ 2 ≤ p then scan B (p - 1) (t.drop (i + 1)) else none) == some 1) && decide (t.length ≤ 9)) := by
        intro ho
        by_cases hp2 : (p : Int) ≥ 2
        · rw [if_pos hp2, if_pos ⟨ho, by omega⟩, w64s i (by omega), w64 (by omega) (by omega), show (p : Int) - 1 = ((p - 1 : Nat) : Int) from by omega]
          exact ih (i + 1) (p - 1) k (by omega) (by omega) (by omega)
        · rw [if_neg hp2, if_neg (fun x => hp2 (by omega))]; rfl
      by_cases h1 : (m.f0 == 1 && (m.f1 == 0 && (m.f2 == 0))) = true
      · rw [if_pos h1]; exact go (hoe.1 (.inl h1))
      · rw [if_neg h1]
        by_cases h2 : (m.f0 == 2 && (m.f1 == 0 && (m.f2 == 0))) = true
        · rw [if_pos h2]; exact go (hoe.1 (.inr h2))
        · rw [if_neg h2, if_neg (show ¬ (oOk m = true ∧ 2 ≤ p) from fun x => (hoe.2 x.1).elim h1 h2)]; rfl
    by_cases e0 : m.f0 = 0
    · rw [if_pos e0]
      unfold spec_l1In.f
      rw [w64 (x := (B.length : Int) - 1) (by omega) (by omega)]
      by_cases e1 : m.f1 ≥ 0
      · rw [if_pos e1, bnd rfl]
        by_cases e2 : m.f1 ≤ (B.length : Int) - 1
        · rw [decide_eq_true e2, if_pos rfl, if_pos e1, if_pos (by omega), l1HeadsI_f h e1 (by omega) (by omega), bnd rfl]
          by_cases e3 : m.f2 ≥ 1
          · rw [if_pos e3, bnd rfl]
            by_cases e4 : m.f2 ≤ hdI (rd B m.f1)
            · have ha : aOk B m = true := by rw [aOk_iff]; omega
              rw [decide_eq_true e4, spec_TermOk.j1, if_pos rfl, if_pos ha, w64s i (by omega), w64s p (by omega)]
              exact ih (i + 1) (p + 1) k (by omega) (by omega) (by omega)
            · rw [decide_eq_false e4]; exact no (bfalse (fun x => by rw [aOk_iff] at x; omega))
          · rw [if_neg e3, bnd rfl]; exact no (bfalse (fun x => by rw [aOk_iff] at x; omega))
        · rw [decide_eq_false e2, if_neg (by simp)]; exact no (bfalse (fun x => by rw [aOk_iff] at x; omega))
      · rw [if_neg e1, bnd rfl, if_neg (by simp)]; exact no (bfalse (fun x => by rw [aOk_iff] at x; omega))
    · rw [if_neg e0]; exact no (bfalse (fun x => by rw [aOk_iff] at x; omega))
/-- Of no house there is no term. -/
theorem sTerm_no {P : Int} {B : List Int} (h : hOk P B = false) (hB : B.length < 1152921504606846976) (hw : ∀ b ∈ B, b < 9223372036854775808) (t : List S35) (hl : t.length < 1152921504606846976) : ∀ (d i p k : Nat), i + d = t.length → p ≤ i → 2 * d + B.length + 70 < k →
    spec_TermOk.l0 k t (p : Int) (i : Int) P B = some false := by
  intro d
  induction d with
  | zero =>
    intro i p k hi hp hk
    rw [sTerm_end hB (by omega) hl (by omega), h]; rfl
  | succ d ih =>
    intro i p k hi hp hk
    obtain ⟨k, rfl, hk1⟩ := fuel hk
    obtain ⟨k, rfl, hk2⟩ := fuel (show 2 * d + B.length + 71 < k by omega)
    have hlt : i < t.length := by omega
    have hr : rd_T35 t (i : Int) = t[i] := rdM hlt
    rw [spec_TermOk.l0, if_pos (by omega), if_pos (by omega), hr]
    generalize t[i] = m at *
    have no : ∀ b : Bool, spec_TermOk.j1 (k + 1) t (p : Int) (i : Int) b P B = some false := by
      intro b
      rw [spec_TermOk.j1]
      by_cases hb : b = true
      · rw [if_pos hb, w64s i (by omega), w64s p (by omega)]
        exact ih (i + 1) (p + 1) k (by omega) (by omega) (by omega)
      · rw [if_neg hb, if_pos (by omega), if_pos (by omega), hr]
        have go : (if (p : Int) ≥ 2 then spec_TermOk.l0 k t (wrap64 ((p : Int) - 1)) (wrap64 ((i : Int) + 1)) P B else some false) = some false := by
          by_cases hp2 : (p : Int) ≥ 2
          · rw [if_pos hp2, w64s i (by omega), w64 (by omega) (by omega), show (p : Int) - 1 = ((p - 1 : Nat) : Int) from by omega]
            exact ih (i + 1) (p - 1) k (by omega) (by omega) (by omega)
          · rw [if_neg hp2]
        split
        · exact go
        · split
          · exact go
          · rfl
    by_cases e0 : m.f0 = 0
    · rw [if_pos e0]
      unfold spec_l1In.f
      rw [w64 (x := (B.length : Int) - 1) (by omega) (by omega)]
      by_cases e1 : m.f1 ≥ 0
      · rw [if_pos e1, bnd rfl]
        by_cases e2 : m.f1 ≤ (B.length : Int) - 1
        · obtain ⟨r, er, _, _⟩ := l1Heads_any (hw _ (rd_mem e1 (show m.f1 < (B.length : Int) by omega))) (k := k + 1) (by omega)
          rw [decide_eq_true e2, if_pos rfl, if_pos e1, if_pos (by omega), er, bnd rfl]
          split
          · rw [bnd rfl]; exact no _
          · rw [bnd rfl]; exact no _
        · rw [decide_eq_false e2, if_neg (by simp)]; exact no _
      · rw [if_neg e1, bnd rfl, if_neg (by simp)]; exact no _
    · rw [if_neg e0]; exact no _
theorem sTerm_f (P : Int) (B : List Int) (t : List S35) (hB : B.length < 1152921504606846976) (hw : ∀ b ∈ B, b < 9223372036854775808) (hl : t.length < 1152921504606846976) {k : Nat} (hk : 2 * t.length + B.length + 70 < k) : spec_TermOk.f k P B t = some (tmOk P B t) := by
  unfold spec_TermOk.f tmOk
  by_cases h : hOk P B = true
  · have := sTerm_l h t hl t.length 0 0 k (by omega) (by omega) (by omega)
    have e : spec_TermOk.l0 k t 0 0 P B = _ := this
    rw [e, h, List.drop_zero, Bool.and_comm (decide _)]; rfl
  · have := sTerm_no (bfalse h) hB hw t hl t.length 0 0 k (by omega) (by omega) (by omega)
    have e : spec_TermOk.l0 k t 0 0 P B = _ := this
    rw [e, bfalse h]; rfl

/-! ### charters and states, as the program has them -/
theorem rdV {l : List S91} {i : Nat} (h : i < l.length) : rd_T91 l (i : Int) = l[i] := by
  unfold rd_T91; simp [List.getD_eq_getElem?_getD, List.getElem?_eq_getElem h]
theorem rdC {l : List (List S91)} {i : Nat} (h : i < l.length) : rd_L5 l (i : Int) = l[i] := by
  unfold rd_L5; simp [List.getD_eq_getElem?_getD, List.getElem?_eq_getElem h]
/-- What a variant asks for is another clause's variant, or nothing. -/
def ifOk (C : List (List S91)) (i : Nat) (v : S91) : Bool :=
  (decide (v.f1 = -1) && decide (v.f2 = 0)) || (decide (0 ≤ v.f1) && (decide (v.f1 < (C.length : Int)) && (!decide (v.f1 = (i : Int)) && (decide (0 ≤ v.f2) && decide (v.f2 < ((rd_L5 C v.f1).length : Int))))))
def vOk (P : Int) (B : List Int) (C : List (List S91)) (i : Nat) (v : S91) : Bool := tmOk P B v.f0 && ifOk C i v
def clOk (P : Int) (B : List Int) (C : List (List S91)) (i : Nat) (L : List S91) : Bool := (decide (1 ≤ L.length) && decide (L.length ≤ 3)) && L.all (vOk P B C i)
/-- The clauses from the place i on. -/
def clsOk (P : Int) (B : List Int) (C : List (List S91)) : Nat → List (List S91) → Bool
  | _, [] => true
  | i, L :: r => clOk P B C i L && clsOk P B C (i + 1) r
def chOk (P : Int) (B : List Int) (C : List (List S91)) : Bool := hOk P B && ((decide (1 ≤ C.length) && decide (C.length ≤ 3)) && clsOk P B C 0 C)
theorem isCh_l1 {P : Int} {B : List Int} (hB : B.length < 1152921504606846976) {C L : List (List S91)} {X : List S91} (hC : C.length ≤ 3) (hX : X.length ≤ 3) (hm : ∀ v ∈ X, v.f0.length < 1152921504606846976) {n : Int} {i : Nat} (R : Bool) (b : Nat)
    (hR : ∀ k, b < k → impl_isCharter.l0 k L n (wrap64 ((i : Int) + 1)) P B C = some R) : ∀ (d j k : Nat), j + d = X.length → b + B.length + 60 + 3 * d < k →
    impl_isCharter.l1 k (i : Int) L n (i : Int) X (X.length : Int) (j : Int) P B C = some ((X.drop j).all (vOk P B C i) && R) := by
  intro d
  induction d with
  | zero =>
    intro j k hj hk
    obtain ⟨k, rfl, _⟩ := fuel hk
    rw [impl_isCharter.l1, if_neg (by omega), hR k (by omega), List.drop_eq_nil_of_le (by omega)]; rfl
  | succ d ih =>
    intro j k hj hk
    obtain ⟨k, rfl, hk1⟩ := fuel hk
    obtain ⟨k, rfl, hk2⟩ := fuel (show b + B.length + 60 + 3 * d + 1 < k by omega)
    have hlt : j < X.length := by omega
    have ih' := ih (j + 1) k (by omega) (by omega)
    rw [impl_isCharter.l1, if_pos (by omega), if_pos (by omega), if_pos (by omega), rdV hlt, List.drop_eq_getElem_cons hlt, List.all_cons]
    have hv := hm X[j] (List.getElem_mem hlt)
    generalize X[j] = v at *
    rw [isTerm_f P B v.f0 (by omega) (by omega) (by omega), bnd rfl]
    by_cases ht : tmOk P B v.f0 = true
    · rw [if_pos ht]
      have e : vOk P B C i v = ifOk C i v := by unfold vOk; rw [ht]; rfl
      rw [e]
      have key : impl_isCharter.j4 (k + 1) (i : Int) L n (i : Int) X (X.length : Int) (j : Int) (decide (v.f1 = -1) && (v.f2 == 0)) P B C v.f0 v.f1 v.f2 = some (ifOk C i v && (X.drop (j + 1)).all (vOk P B C i) && R) := by
        rw [impl_isCharter.j4, w64s j (by omega), ih']
        unfold ifOk
        by_cases h1 : (decide (v.f1 = -1) && (v.f2 == 0)) = true
        · rw [if_pos h1]
          simp only [Bool.and_eq_true, decide_eq_true_eq, beq_iff_eq] at h1
          simp [h1]
        · rw [if_neg h1]
          have hz : (decide (v.f1 = -1) && decide (v.f2 = 0)) = false := by
            apply bfalse; intro x; apply h1
            simp only [Bool.and_eq_true, decide_eq_true_eq, beq_iff_eq] at x ⊢; exact x
          rw [hz, Bool.false_or]
          by_cases a1 : v.f1 < 0
          · rw [if_pos a1, decide_eq_false (by omega : ¬ 0 ≤ v.f1)]; simp
          · rw [if_neg a1, decide_eq_true (by omega : 0 ≤ v.f1)]
            by_cases a2 : v.f1 ≥ (C.length : Int)
            · rw [if_pos a2, decide_eq_false (by omega : ¬ v.f1 < (C.length : Int))]; simp
            · rw [if_neg a2, decide_eq_true (by omega : v.f1 < (C.length : Int))]
              by_cases a3 : v.f1 = (i : Int)
              · rw [if_pos a3, decide_eq_true a3]; simp
              · rw [if_neg a3, decide_eq_false a3]
                by_cases a4 : v.f2 < 0
                · rw [if_pos a4, decide_eq_false (by omega : ¬ 0 ≤ v.f2)]; simp
                · rw [if_neg a4, if_pos (by omega), if_pos (by omega), decide_eq_true (by omega : 0 ≤ v.f2)]
                  by_cases a5 : v.f2 ≥ ((rd_L5 C v.f1).length : Int)
                  · rw [if_pos a5, decide_eq_false (by omega)]; simp
                  · rw [if_neg a5, decide_eq_true (by omega)]; simp
      by_cases h1 : v.f1 = -1
      · rw [if_pos h1]; rw [decide_eq_true h1, Bool.true_and] at key; exact key
      · rw [if_neg h1]; rw [decide_eq_false h1, Bool.false_and] at key; exact key
    · rw [if_neg ht]
      have e : vOk P B C i v = false := by unfold vOk; rw [bfalse ht]; rfl
      rw [e]; rfl
theorem isCh_l0 {P : Int} {B : List Int} (hB : B.length < 1152921504606846976) {C : List (List S91)} (hC : C.length ≤ 3) (hm : ∀ L ∈ C, ∀ v ∈ L, v.f0.length < 1152921504606846976) : ∀ (d i k : Nat), i + d = C.length → (d + 1) * (B.length + 100) < k →
    impl_isCharter.l0 k C (C.length : Int) (i : Int) P B C = some (clsOk P B C i (C.drop i)) := by
  intro d
  induction d with
  | zero =>
    intro i k hi hk
    obtain ⟨k, rfl, _⟩ := fuel hk
    rw [impl_isCharter.l0, if_neg (by omega), List.drop_eq_nil_of_le (by omega)]; rfl
  | succ d ih =>
    intro i k hi hk
    have hmul : (d + 1 + 1) * (B.length + 100) = (d + 1) * (B.length + 100) + (B.length + 100) := Nat.succ_mul _ _
    rw [hmul] at hk
    obtain ⟨k, rfl, hk1⟩ := fuel hk
    obtain ⟨k, rfl, hk2⟩ := fuel (show (d + 1) * (B.length + 100) + (B.length + 99) < k by omega)
    have hlt : i < C.length := by omega
    have hmi := hm C[i] (List.getElem_mem hlt)
    rw [impl_isCharter.l0, if_pos (by omega), if_pos (by omega), if_pos (by omega), rdC hlt, List.drop_eq_getElem_cons hlt]
    simp only [clsOk, clOk]
    have go : ∀ b : Bool, (b = true ↔ ¬ (1 ≤ C[i].length ∧ C[i].length ≤ 3)) → impl_isCharter.j2 (k + 1) (i : Int) C[i] C (C.length : Int) (i : Int) b P B C = some (((decide (1 ≤ C[i].length) && decide (C[i].length ≤ 3)) && C[i].all (vOk P B C i)) && clsOk P B C (i + 1) (C.drop (i + 1))) := by
      intro b hb
      rw [impl_isCharter.j2]
      by_cases h1 : b = true
      · have : (decide (1 ≤ C[i].length) && decide (C[i].length ≤ 3)) = false := by
          apply bfalse; intro x; simp only [Bool.and_eq_true, decide_eq_true_eq] at x; exact hb.1 h1 x
        rw [if_pos h1, this]; rfl
      · have hx : 1 ≤ C[i].length ∧ C[i].length ≤ 3 := Decidable.byContradiction fun x => h1 (hb.2 x)
        have hy : (decide (1 ≤ C[i].length) && decide (C[i].length ≤ 3)) = true := by simp only [Bool.and_eq_true, decide_eq_true_eq]; exact hx
        rw [if_neg h1, hy]
        have := isCh_l1 (P := P) (B := B) hB (C := C) (L := C) (X := C[i]) hC hx.2 hmi (n := (C.length : Int)) (i := i) (clsOk P B C (i + 1) (C.drop (i + 1))) ((d + 1) * (B.length + 100)) (by
          intro k' hk'
          rw [w64s i (by omega)]
          exact ih (i + 1) k' (by omega) hk') C[i].length 0 k (by omega) (by omega)
        simpa using this
    by_cases h1 : ((C[i]).length : Int) < 1
    · rw [if_pos h1]; exact go true ⟨fun _ => by omega, fun _ => rfl⟩
    · rw [if_neg h1]; exact go _ (by rw [decide_eq_true_iff]; omega)
/-- Lists of such lengths as memory may hold. -/
def cLen (C : List (List S91)) : Prop := ∀ L ∈ C, ∀ v ∈ L, v.f0.length < 1152921504606846976
theorem isCh_f (P : Int) (B : List Int) (C : List (List S91)) (hB : B.length < 1152921504606846976) (hC : C.length < 1152921504606846976) (hm : cLen C) {k : Nat} (hk : 4 * (B.length + 100) + 1 < k) : impl_isCharter.f k P B C = some (chOk P B C) := by
  obtain ⟨k, rfl, hk'⟩ := fuel hk
  unfold impl_isCharter.f chOk
  rw [isHouse_f P B (by omega) (by omega), bnd rfl]
  by_cases h : hOk P B = true
  · rw [if_pos h, h]
    by_cases h1 : (C.length : Int) < 1
    · rw [if_pos h1, impl_isCharter.j0, if_pos rfl, decide_eq_false (by omega : ¬ 1 ≤ C.length)]; rfl
    · rw [if_neg h1, impl_isCharter.j0, decide_eq_true (by omega : 1 ≤ C.length)]
      by_cases h2 : (C.length : Int) > 3
      · rw [if_pos (decide_eq_true h2), decide_eq_false (by omega : ¬ C.length ≤ 3)]; rfl
      · rw [if_neg (by simpa using h2), decide_eq_true (by omega : C.length ≤ 3)]
        have hmul : (C.length + 1) * (B.length + 100) ≤ 4 * (B.length + 100) := Nat.mul_le_mul_right _ (by omega)
        have := isCh_l0 (P := P) hB (by omega) hm C.length 0 k (by omega) (by omega)
        simpa using this
  · rw [if_neg h, bfalse h, impl_isCharter.j0, if_pos rfl]; rfl
/-! ### charters and states, as the reference has them -/
theorem in_f (a lo hi : Int) : spec_l1In.f a lo hi = some (decide (lo ≤ a) && decide (a ≤ hi)) := by
  unfold spec_l1In.f
  by_cases h : a ≥ lo
  · rw [if_pos h, decide_eq_true (show lo ≤ a from h)]; rfl
  · rw [if_neg h, decide_eq_false (show ¬ lo ≤ a from h)]; rfl
/-- Lists of such lengths as a law hands on. -/
def hLen (C : List (List S91)) : Prop := ∀ L ∈ C, L.length ≤ 1048576 ∧ ∀ x ∈ L, x.f0.length ≤ 1048576
theorem rdCl {C : List (List S91)} {a : Int} (h0 : 0 ≤ a) (h1 : a < (C.length : Int)) : rd_L5 C a ∈ C := by
  obtain ⟨i, rfl⟩ := Int.eq_ofNat_of_zero_le h0
  rw [rdC (by omega)]; exact List.getElem_mem _
theorem sCh_l1 {P : Int} {B : List Int} (hB : B.length ≤ 1048576) (hw : ∀ b ∈ B, b < 9223372036854775808) {C : List (List S91)} (hC : C.length ≤ 1048576) (hm : hLen C) {i : Nat} (hi : i < C.length) (R : Bool) (b : Nat) (hb : 4000000 ≤ b)
    (hR : ∀ k, b < k → spec_CharterOk.l0 k (wrap64 ((i : Int) + 1)) P B C = some R) : ∀ (d j k : Nat), j + d = C[i].length → b + 2 + 2 * d < k →
    spec_CharterOk.l1 k (i : Int) (j : Int) P B C = some ((C[i].drop j).all (vOk P B C i) && R) := by
  have hmi := hm C[i] (List.getElem_mem hi)
  intro d
  induction d with
  | zero =>
    intro j k hj hk
    obtain ⟨k, rfl, _⟩ := fuel hk
    rw [spec_CharterOk.l1, if_pos (by omega), if_pos (by omega), rdC hi, if_neg (by omega), hR k (by omega), List.drop_eq_nil_of_le (by omega)]; rfl
  | succ d ih =>
    intro j k hj hk
    obtain ⟨k, rfl, hk1⟩ := fuel hk
    obtain ⟨k, rfl, hk2⟩ := fuel (show b + 2 + 2 * d + 1 < k by omega)
    have hlt : j < C[i].length := by omega
    have ih' := ih (j + 1) k (by omega) (by omega)
    have hv := hmi.2 C[i][j] (List.getElem_mem hlt)
    rw [spec_CharterOk.l1, if_pos (by omega), if_pos (by omega), rdC hi, if_pos (by omega), if_pos (by omega), rdV hlt, List.drop_eq_getElem_cons hlt, List.all_cons]
    generalize C[i][j] = v at *
    have key : ∀ x : Bool, (x = true ↔ v.f1 = -1 ∧ v.f2 = 0) → spec_CharterOk.j2 (k + 1) (i : Int) (j : Int) x P B C v.f0 v.f1 v.f2 = some (vOk P B C i v && (C[i].drop (j + 1)).all (vOk P B C i) && R) := by
      intro x hx
      rw [spec_CharterOk.j2, sTerm_f P B v.f0 (by omega) hw (by omega) (by omega), bnd rfl, w64s j (by omega), ih']
      by_cases ht : tmOk P B v.f0 = true
      · rw [if_pos ht]
        have e : vOk P B C i v = ifOk C i v := by unfold vOk; rw [ht]; rfl
        rw [e]
        unfold ifOk
        by_cases h1 : x = true
        · rw [if_pos h1]
          have := hx.1 h1
          simp [this]
        · rw [if_neg h1]
          have hz : (decide (v.f1 = -1) && decide (v.f2 = 0)) = false := by
            apply bfalse; intro y; apply h1
            simp only [Bool.and_eq_true, decide_eq_true_eq] at y; exact hx.2 y
          rw [hz, Bool.false_or]
          by_cases a3 : v.f1 = (i : Int)
          · rw [if_pos a3, decide_eq_true a3]; simp
          · rw [if_neg a3, decide_eq_false a3, in_f, bnd rfl, w64 (by omega) (by omega)]
            by_cases a1 : 0 ≤ v.f1
            · rw [decide_eq_true a1]
              by_cases a2 : v.f1 < (C.length : Int)
              · have hq := hm _ (rdCl a1 a2)
                rw [decide_eq_true a2, decide_eq_true (by omega : v.f1 ≤ (C.length : Int) - 1), if_pos (show (true && true) = true from rfl), if_pos a1, if_pos a2, in_f, bnd rfl, w64 (by omega) (by omega)]
                by_cases a4 : 0 ≤ v.f2
                · by_cases a5 : v.f2 < ((rd_L5 C v.f1).length : Int)
                  · rw [decide_eq_true a4, decide_eq_true a5, decide_eq_true (by omega)]; simp
                  · rw [decide_eq_true a4, decide_eq_false a5, decide_eq_false (by omega)]; simp
                · rw [decide_eq_false a4]; simp
              · rw [decide_eq_false a2, decide_eq_false (by omega : ¬ v.f1 ≤ (C.length : Int) - 1)]; simp
            · rw [decide_eq_false a1]; simp
      · rw [if_neg ht]
        have e : vOk P B C i v = false := by unfold vOk; rw [bfalse ht]; rfl
        rw [e]; rfl
    by_cases h1 : v.f1 = -1
    · rw [if_pos h1]; exact key _ (by simp [h1])
    · rw [if_neg h1]; exact key _ (by simp [h1])
theorem sCh_l0 {P : Int} {B : List Int} (hB : B.length ≤ 1048576) (hw : ∀ b ∈ B, b < 9223372036854775808) {C : List (List S91)} (hC : C.length ≤ 1048576) (hm : hLen C) : ∀ (d i k : Nat), i + d = C.length → 10 * d + 4000000 < k →
    spec_CharterOk.l0 k (i : Int) P B C = some (clsOk P B C i (C.drop i) && (hOk P B && (decide (1 ≤ C.length) && decide (C.length ≤ 3)))) := by
  intro d
  induction d with
  | zero =>
    intro i k hi hk
    obtain ⟨k, rfl, _⟩ := fuel hk
    rw [spec_CharterOk.l0, if_neg (by omega), List.drop_eq_nil_of_le (by omega), sHouse_f P B (by omega) (by omega), bnd rfl, in_f]
    by_cases h : hOk P B = true
    · rw [if_pos h, bnd rfl, h]
      by_cases h1 : 1 ≤ C.length
      · by_cases h2 : C.length ≤ 3
        · rw [decide_eq_true h1, decide_eq_true h2, decide_eq_true (by omega), decide_eq_true (by omega)]; rfl
        · rw [decide_eq_false h2, decide_eq_false (by omega : ¬ (C.length : Int) ≤ 3)]; simp [clsOk]
      · rw [decide_eq_false h1, decide_eq_false (by omega : ¬ (1 : Int) ≤ (C.length : Int))]; rfl
    · rw [if_neg h, bfalse h]; simp
  | succ d ih =>
    intro i k hi hk
    obtain ⟨k, rfl, hk1⟩ := fuel hk
    have hlt : i < C.length := by omega
    rw [spec_CharterOk.l0, if_pos (by omega), if_pos (by omega), rdC hlt, List.drop_eq_getElem_cons hlt, in_f, bnd rfl]
    simp only [clsOk, clOk]
    by_cases h1 : 1 ≤ C[i].length
    · by_cases h2 : C[i].length ≤ 3
      · rw [decide_eq_true h1, decide_eq_true h2, decide_eq_true (by omega), decide_eq_true (by omega), if_pos (show (true && true) = true from rfl)]
        have := sCh_l1 (P := P) hB hw hC hm hlt _ (10 * d + 4000000) (by omega) (fun k' hk' => by
          rw [w64s i (by omega)]
          exact ih (i + 1) k' (by omega) hk') C[i].length 0 k (by omega) (by omega)
        simpa [Bool.and_assoc] using this
      · rw [decide_eq_false h2, decide_eq_false (by omega : ¬ (C[i].length : Int) ≤ 3)]; simp
    · rw [decide_eq_false h1, decide_eq_false (by omega : ¬ (1 : Int) ≤ (C[i].length : Int))]; simp
theorem sCh_f (P : Int) (B : List Int) (C : List (List S91)) (hB : B.length ≤ 1048576) (hw : ∀ b ∈ B, b < 9223372036854775808) (hC : C.length ≤ 1048576) (hm : hLen C) {k : Nat} (hk : 15000000 < k) : spec_CharterOk.f k P B C = some (chOk P B C) := by
  unfold spec_CharterOk.f chOk
  have : spec_CharterOk.l0 k 0 P B C = _ := sCh_l0 (P := P) hB hw hC hm C.length 0 k (by omega) (by omega)
  rw [this, List.drop_zero]
  congr 1
  rw [Bool.and_comm, Bool.and_assoc]

/-! ### acts that have nothing to do with each other -/
theorem hcl_f (P : Int) (B : List Int) (C : List (List S91)) (a : Int) : impl_hasClause.f P B C a = some (decide (0 ≤ a) && decide (a < (C.length : Int))) := by
  unfold impl_hasClause.f
  by_cases h : 0 ≤ a
  · rw [if_pos h]; simp [h]
  · rw [if_neg h]; simp [h]
theorem in_cl {n : Nat} (hn : n ≤ 1048576) (a : Int) : spec_l1In.f a 0 (wrap64 ((n : Int) - 1)) = some (decide (0 ≤ a) && decide (a < (n : Int))) := by
  rw [in_f, w64 (by omega) (by omega)]
  congr 2
  by_cases h : a < (n : Int)
  · rw [decide_eq_true h, decide_eq_true (by omega)]
  · rw [decide_eq_false h, decide_eq_false (by omega)]
theorem ap_l1 {P : Int} {B : List Int} {C : List (List S91)} {a b a1 a2 b1 b2 : Int} (h0 : 0 ≤ b) (h1 : b < (C.length : Int)) {X : List S91} (hX : rd_L5 C b = X) (hl : X.length ≤ 1048576) : ∀ (d i k : Nat), i + d = X.length → d < k →
    spec_ApartOk.l1 k (i : Int) P B C a a1 a2 b b1 b2 = some (!(X.drop i).any fun x => x.f1 == a) := by
  intro d
  induction d with
  | zero =>
    intro i k hi hk
    obtain ⟨k, rfl, _⟩ := fuel hk
    rw [spec_ApartOk.l1, if_pos h0, if_pos h1, hX, if_neg (by omega), List.drop_of_length_le (by omega)]; rfl
  | succ d ih =>
    intro i k hi hk
    obtain ⟨k, rfl, hk'⟩ := fuel hk
    have hlt : i < X.length := by omega
    rw [spec_ApartOk.l1, if_pos h0, if_pos h1, hX, if_pos (by omega), if_pos (by omega), rdV hlt, List.drop_eq_getElem_cons hlt, List.any_cons]
    by_cases h : X[i].f1 = a
    · rw [if_pos h]; simp [h]
    · rw [if_neg h, w64s i (by omega), ih (i + 1) k (by omega) (by omega)]
      simp [h]
theorem ap_l0 {P : Int} {B : List Int} {C : List (List S91)} {a b a1 a2 b1 b2 : Int} (h0 : 0 ≤ a) (h1 : a < (C.length : Int)) {X : List S91} (hX : rd_L5 C a = X) (hl : X.length ≤ 1048576) (R : Bool) (q : Nat)
    (hR : ∀ k, q < k → spec_ApartOk.l1 k 0 P B C a a1 a2 b b1 b2 = some R) : ∀ (d i k : Nat), i + d = X.length → d + q + 1 < k →
    spec_ApartOk.l0 k (i : Int) P B C a a1 a2 b b1 b2 = some ((!(X.drop i).any fun x => x.f1 == b) && R) := by
  intro d
  induction d with
  | zero =>
    intro i k hi hk
    obtain ⟨k, rfl, _⟩ := fuel hk
    rw [spec_ApartOk.l0, if_pos h0, if_pos h1, hX, if_neg (by omega), List.drop_of_length_le (by omega), hR k (by omega)]; rfl
  | succ d ih =>
    intro i k hi hk
    obtain ⟨k, rfl, hk'⟩ := fuel hk
    have hlt : i < X.length := by omega
    rw [spec_ApartOk.l0, if_pos h0, if_pos h1, hX, if_pos (by omega), if_pos (by omega), rdV hlt, List.drop_eq_getElem_cons hlt, List.any_cons]
    by_cases h : X[i].f1 = b
    · rw [if_pos h]; simp [h]
    · rw [if_neg h, w64s i (by omega), ih (i + 1) k (by omega) (by omega)]
      have : (X[i].f1 == b) = false := by simp [h]
      rw [this, Bool.false_or]
theorem ap_same (P : Int) (B : List Int) (C : List (List S91)) (a0 a1 a2 b0 b1 b2 : Int) (hB : B.length ≤ 1048576) (hw : ∀ b ∈ B, b < 9223372036854775808) (hC : C.length ≤ 1048576) (hm : hLen C) {k : Nat} (hk : 22000000 < k) :
    ∃ r, impl_ApartOk.f k P B C a0 a1 a2 b0 b1 b2 = some r ∧ spec_ApartOk.f k P B C a0 a1 a2 b0 b1 b2 = some r := by
  unfold impl_ApartOk.f spec_ApartOk.f
  rw [isCh_f P B C (by omega) (by omega) (fun L hL x hx => Nat.lt_of_le_of_lt ((hm L hL).2 x hx) (by decide)) (by omega), bnd rfl, sCh_f P B C hB hw hC hm (by omega), bnd rfl]
  obtain ⟨k, rfl, hk'⟩ := fuel hk
  have jt : spec_ApartOk.j0 (k + 1) true P B C a0 a1 a2 b0 b1 b2 = some false := by rw [spec_ApartOk.j0, if_pos rfl]
  by_cases h : chOk P B C = true
  · rw [if_pos h, if_pos h, hcl_f, bnd rfl, hcl_f, bnd rfl, in_cl hC, bnd rfl, in_cl hC, bnd rfl]
    by_cases ha : 0 ≤ a0 ∧ a0 < (C.length : Int)
    · obtain ⟨ha0, ha1⟩ := ha
      have hA : (decide (0 ≤ a0) && decide (a0 < (C.length : Int))) = true := by simp [ha0, ha1]
      rw [if_pos hA, if_pos hA]
      by_cases hb : 0 ≤ b0 ∧ b0 < (C.length : Int)
      · obtain ⟨hb0, hb1⟩ := hb
        have hB' : (decide (0 ≤ b0) && decide (b0 < (C.length : Int))) = true := by simp [hb0, hb1]
        rw [if_pos hB', if_pos hB']
        by_cases e : a0 = b0
        · rw [if_pos e, show (a0 == b0) = true from by simp [e], jt]; exact ⟨_, rfl, rfl⟩
        · rw [if_neg e, show (a0 == b0) = false from by simp [e]]
          unfold impl_asksFor.f
          rw [if_pos ha0, if_pos ha1, bnd rfl, if_pos hb0, if_pos hb1, bnd rfl]
          have hx1 := (hm _ (rdCl ha0 ha1)).1
          have hx2 := (hm _ (rdCl hb0 hb1)).1
          have r1 := fun k hk => ap_l1 (P := P) (B := B) (a := a0) (a1 := a1) (a2 := a2) (b1 := b1) (b2 := b2) hb0 hb1 rfl hx2 (rd_L5 C b0).length 0 k (by omega) hk
          have r0 := ap_l0 (P := P) (B := B) (b := b0) (a1 := a1) (a2 := a2) (b1 := b1) (b2 := b2) ha0 ha1 rfl hx1 _ _ r1 (rd_L5 C a0).length 0 k (by omega) (by omega)
          have j1 : spec_ApartOk.j0 (k + 1) false P B C a0 a1 a2 b0 b1 b2 = _ := (by rw [spec_ApartOk.j0, if_neg (by simp)] : _ = spec_ApartOk.l0 k 0 P B C a0 a1 a2 b0 b1 b2).trans r0
          refine ⟨_, ?_, j1⟩
          rw [List.drop_zero, List.drop_zero]
          generalize ((rd_L5 C a0).any fun x => x.f1 == b0) = u
          cases u <;> rfl
      · have hB' : ¬ (decide (0 ≤ b0) && decide (b0 < (C.length : Int))) = true := by simp only [Bool.and_eq_true, decide_eq_true_eq]; exact hb
        rw [if_neg hB', if_neg hB', jt]; exact ⟨_, rfl, rfl⟩
    · have hA : ¬ (decide (0 ≤ a0) && decide (a0 < (C.length : Int))) = true := by simp only [Bool.and_eq_true, decide_eq_true_eq]; exact ha
      rw [if_neg hA, if_neg hA, jt]; exact ⟨_, rfl, rfl⟩
  · rw [if_neg h, if_neg h, jt]; exact ⟨_, rfl, rfl⟩

/-! ### draws: what is drawn, and within which bounds -/
/-- It answers, and so that P holds. -/
def Dr {α : Type} (x : Option α) (P : α → Prop) : Prop := ∃ r, x = some r ∧ P r
theorem Dr.some {α : Type} {a : α} {P : α → Prop} (h : P a) : Dr (Option.some a) P := ⟨a, rfl, h⟩
theorem Dr.bind {α β : Type} {x : Option α} {P : α → Prop} {f : α → Option β} {Q : β → Prop} (h : Dr x P) (hf : ∀ a, P a → Dr (f a) Q) : Dr (x.bind f) Q := by
  obtain ⟨a, rfl, ha⟩ := h
  exact hf a ha
theorem Dr.mono {α : Type} {x : Option α} {P Q : α → Prop} (h : Dr x P) (hpq : ∀ a, P a → Q a) : Dr x Q := by
  obtain ⟨a, e, ha⟩ := h
  exact ⟨a, e, hpq a ha⟩
theorem Dr.bnd {α β : Type} {a : α} {f : α → Option β} {Q : β → Prop} (h : Dr (f a) Q) : Dr ((Option.some a).bind f) Q := h
theorem Dr.ite {α : Type} {c : Prop} [Decidable c] {x y : Option α} {P : α → Prop} (h1 : c → Dr x P) (h2 : ¬ c → Dr y P) : Dr (if c then x else y) P := by
  by_cases h : c
  · rw [if_pos h]; exact h1 h
  · rw [if_neg h]; exact h2 h
theorem Dr.pos {α : Type} {c : Prop} [Decidable c] {x y : Option α} {P : α → Prop} (h : c) (h1 : Dr x P) : Dr (if c then x else y) P := by rw [if_pos h]; exact h1
theorem pick_d {b : List Int} (hb : okB b) {p : Int} (hp0 : 0 ≤ p) (hp : p < 1000000) (n : Int) {k : Nat} (hk : 0 < k) :
    Dr (spec_l20Rd_pick.f k b p n) (fun r => r.2 = p + 1 ∧ 0 ≤ r.1 ∧ (r.1 < n ∨ r.1 = 0)) := by
  obtain ⟨v, e, h1, h2⟩ := pick_f hb hp0 (by omega) n hk
  exact ⟨_, e, rfl, h1, h2⟩
theorem odd_d {b : List Int} (hb : okB b) {p : Int} (hp0 : 0 ≤ p) (hp : p < 1000000) (n : Int) {k : Nat} (hk : 0 < k) :
    Dr (spec_l20Rd_odd.f k b p n) (fun r => p ≤ r.2 ∧ r.2 ≤ p + 1 ∧ (n ≤ 0 → r.1 = false)) := by
  unfold spec_l20Rd_odd.f
  refine Dr.ite (fun h => ?_) (fun h => ?_)
  · exact Dr.bind (pick_d hb hp0 hp n hk) (fun r ⟨h1, _, _⟩ => Dr.some ⟨by omega, by omega, fun hn => by omega⟩)
  · exact Dr.some ⟨by dsimp only; omega, by dsimp only; omega, fun _ => rfl⟩
/-- Bodies as they are drawn. -/
def bOk (m : Nat) (B : List Int) : Prop := B.length ≤ m ∧ ∀ x ∈ B, 0 ≤ x ∧ x < 64
theorem bOk_app {m : Nat} {B : List Int} (h : bOk m B) {v : Int} (h0 : 0 ≤ v) (h1 : v < 64) : bOk (m + 1) (B ++ [v]) := by
  refine ⟨by have := h.1; simp; omega, fun x hx => ?_⟩
  rcases List.mem_append.1 hx with hx | hx
  · exact h.2 x hx
  · rw [List.mem_singleton.1 hx]; exact ⟨h0, h1⟩
theorem bOk_mono {m m' : Nat} {B : List Int} (h : bOk m B) (hm : m ≤ m') : bOk m' B := ⟨Nat.le_trans h.1 hm, h.2⟩
theorem house_l {b : List Int} (hb : okB b) (n : Int) {P : Nat} (hP1 : 1 ≤ P) (hP : P ≤ 6) : ∀ (d k m : Nat) (B : List Int) (p : Int), d + 3 < k → 0 ≤ p → p + d + 10 < 1000000 → bOk m B → m + d ≤ 3 →
    Dr (spec_l20House.l0 k n (d : Int) b p (P : Int) B) (fun r => 0 ≤ r.1 ∧ r.1 ≤ 7 ∧ bOk 4 r.2.1 ∧ p ≤ r.2.2 ∧ r.2.2 ≤ p + d + 5 ∧ (n ≤ 0 → r.1 = (P : Int) ∧ bOk 3 r.2.1 ∧ (1 ≤ B.length + d → 1 ≤ r.2.1.length))) := by
  intro d
  induction d with
  | zero =>
    intro k m B p hk hp0 hp hB hm
    obtain ⟨k, rfl, _⟩ := fuel hk
    rw [spec_l20House.l0, if_neg (by omega)]
    refine Dr.bind (odd_d hb hp0 (by omega) n (by omega)) (fun r ⟨h1, h2, h3⟩ => ?_)
    refine Dr.ite (fun h => ?_) (fun h => ?_)
    · refine Dr.bind (pick_d hb (by omega) (by omega) 3 (by omega)) (fun u ⟨g1, g2, g3⟩ => ?_)
      have hn : ¬ n ≤ 0 := fun hn => by rw [h3 hn] at h; exact absurd h (by simp)
      refine Dr.ite (fun h => ?_) (fun h => Dr.ite (fun h => ?_) (fun h => ?_))
      · refine Dr.bnd (Dr.bind (pick_d hb (by omega) (by omega) 2 (by omega)) (fun v ⟨f1, f2, f3⟩ => ?_))
        refine Dr.pos f2 (Dr.pos (by simp; omega) (Dr.some ?_))
        have hv : v.1 = 0 ∨ v.1 = 1 := by omega
        refine ⟨?_, ?_, bOk_mono hB (by omega), by dsimp only; omega, by dsimp only; omega, fun h => absurd h hn⟩
        · rcases hv with e | e <;> rw [e] <;> simp [rd]
        · rcases hv with e | e <;> rw [e] <;> simp [rd]
      · refine Dr.pos (by have := hB.1; omega) (Dr.some ?_)
        exact ⟨by dsimp only; omega, by dsimp only; omega, bOk_mono (bOk_app hB (by omega) (by omega)) (by omega), by dsimp only; omega, by dsimp only; omega, fun h => absurd h hn⟩
      · exact Dr.some ⟨by dsimp only; omega, by dsimp only; omega, ⟨by simp, by simp⟩, by dsimp only; omega, by dsimp only; omega, fun h => absurd h hn⟩
    · exact Dr.some ⟨by dsimp only; omega, by dsimp only; omega, bOk_mono hB (by omega), by dsimp only; omega, by dsimp only; omega, fun _ => ⟨rfl, bOk_mono hB (by omega), fun h => by simpa using h⟩⟩
  | succ d ih =>
    intro k m B p hk hp0 hp hB hm
    obtain ⟨k, rfl, _⟩ := fuel hk
    have hP2 : 2 ^ P ≤ 64 := pow6 hP
    have hpp : 1 ≤ 2 ^ P := Nat.one_le_two_pow
    rw [spec_l20House.l0, if_pos (by omega), if_pos (by omega), shl_one (by omega)]
    generalize 2 ^ P = T at hP2 hpp ⊢
    refine Dr.bind (pick_d hb hp0 (by omega) _ (by omega)) (fun r ⟨h1, h2, h3⟩ => ?_)
    rw [w64 (x := (T : Int) - 1) (by omega) (by omega)] at h3
    refine Dr.pos (by have := hB.1; omega) ?_
    rw [w64 (x := ((d + 1 : Nat) : Int) - 1) (by omega) (by omega), w64 (x := 1 + r.1) (by omega) (by omega), show ((d + 1 : Nat) : Int) - 1 = (d : Int) from by omega, h1]
    refine (ih k (m + 1) (B ++ [1 + r.1]) (p + 1) (by omega) (by omega) (by omega) (bOk_app hB (by omega) (by omega)) (by omega)).mono (fun u ⟨a1, a2, a3, a4, a5, a6⟩ => ⟨a1, a2, a3, by omega, by omega, fun hn => ⟨(a6 hn).1, (a6 hn).2.1, fun _ => (a6 hn).2.2 (by rw [List.length_append]; simp; omega)⟩⟩)
/-- A house, as it is drawn. -/
theorem house_d {b : List Int} (hb : okB b) (n : Int) {p : Int} (hp0 : 0 ≤ p) (hp : p < 900000) {k : Nat} (hk : 10 ≤ k) :
    Dr (spec_l20House.f k b p n) (fun r => 0 ≤ r.1 ∧ r.1 ≤ 7 ∧ bOk 4 r.2.1 ∧ p ≤ r.2.2 ∧ r.2.2 ≤ p + 20 ∧ (n ≤ 0 → 1 ≤ r.1 ∧ r.1 ≤ 6 ∧ bOk 3 r.2.1 ∧ 1 ≤ r.2.1.length)) := by
  unfold spec_l20House.f
  refine Dr.bind (pick_d hb hp0 (by omega) 5 (by omega)) (fun r ⟨h1, h2, h3⟩ => ?_)
  refine Dr.bind (pick_d hb (by omega) (by omega) 9 (by omega)) (fun s ⟨f1, f2, f3⟩ => ?_)
  refine Dr.bind (pick_d hb (by omega) (by omega) 3 (by omega)) (fun t ⟨g1, g2, g3⟩ => ?_)
  have hs : Int.tdiv s.1 8 = 0 ∨ Int.tdiv s.1 8 = 1 := by
    rw [Int.tdiv_eq_ediv_of_nonneg f2]; omega
  rw [w64 (x := 1 + r.1) (by omega) (by omega), w64 (x := Int.tdiv s.1 8) (by omega) (by omega), w64 (x := 1 + t.1) (by omega) (by omega), w64 (by omega) (by omega)]
  obtain ⟨P, eP⟩ := Int.eq_ofNat_of_zero_le (show 0 ≤ 1 + r.1 + Int.tdiv s.1 8 by omega)
  obtain ⟨d, ed⟩ := Int.eq_ofNat_of_zero_le (show 0 ≤ 1 + t.1 by omega)
  rw [eP, ed]
  refine (house_l hb n (P := P) (by omega) (by omega) d k 0 [] t.2 (by omega) (by omega) (by omega) ⟨by simp, by simp⟩ (by omega)).mono (fun u ⟨a1, a2, a3, a4, a5, a6⟩ => ⟨a1, a2, a3, by omega, by omega, fun hn => ⟨by have := (a6 hn).1; omega, by have := (a6 hn).1; omega, (a6 hn).2.1, (a6 hn).2.2 (by simp; omega)⟩⟩)
theorem heads_d {a : Int} (h0 : 0 ≤ a) (h1 : a < 64) {k : Nat} (hk : 100 < k) : Dr (spec_l1Heads.f k a) (fun r => 0 ≤ r ∧ r ≤ 6) := by
  obtain ⟨c, rfl⟩ := Int.eq_ofNat_of_zero_le h0
  exact ⟨_, l1Heads_f (by omega) (by omega), by omega, by have : hd c ≤ 6 := ctN_le _ _; omega⟩
/-- A term of one body or two. -/
theorem atom_d {b : List Int} (hb : okB b) (P : Int) {B : List Int} (hB : bOk 4 B) {p : Int} (hp0 : 0 ≤ p) (hp : p < 900000) {k : Nat} (hk : 120 ≤ k) :
    Dr (spec_l20Atom.f k b p P B) (fun r => r.1.length ≤ 3 ∧ p ≤ r.2 ∧ r.2 ≤ p + 10) := by
  unfold spec_l20Atom.f
  refine Dr.ite (fun h => Dr.some ⟨by simp, by simp, by dsimp only; omega⟩) (fun h => ?_)
  refine Dr.bind (pick_d hb hp0 (by omega) _ (by omega)) (fun r ⟨h1, h2, h3⟩ => ?_)
  have hr : r.1 < (B.length : Int) := by omega
  refine Dr.pos h2 (Dr.pos hr ?_)
  have hx := hB.2 _ (rd_mem h2 hr)
  have hmx : mx (rd B r.1) 0 = rd B r.1 := by unfold mx; split <;> omega
  rw [hmx]
  refine Dr.bind (heads_d hx.1 hx.2 (by omega)) (fun t ⟨t1, t2⟩ => ?_)
  refine Dr.bind (pick_d hb (by omega) (by omega) _ (by omega)) (fun s ⟨f1, f2, f3⟩ => ?_)
  refine Dr.bnd ?_
  refine Dr.bind (pick_d hb (by omega) (by omega) 5 (by omega)) (fun u ⟨g1, g2, g3⟩ => ?_)
  refine Dr.ite (fun h => ?_) (fun h => Dr.some ⟨by simp, by dsimp only; omega, by dsimp only; omega⟩)
  refine Dr.bind (pick_d hb (by omega) (by omega) _ (by omega)) (fun v ⟨q1, q2, q3⟩ => ?_)
  refine Dr.bind (pick_d hb (by omega) (by omega) 2 (by omega)) (fun z ⟨z1, z2, z3⟩ => ?_)
  exact Dr.bnd (Dr.pos (by simp) (Dr.some ⟨by simp, by dsimp only; omega, by dsimp only; omega⟩))

/-! ### a charter, as it is drawn -/
def rOk (X : List S91) : Prop := 1 ≤ X.length ∧ X.length ≤ 3 ∧ ∀ x ∈ X, x.f0.length ≤ 3
def cI (m : Nat) (C : List (List S91)) : Prop := C.length = m ∧ ∀ X ∈ C, rOk X
theorem cI_row {m : Nat} {C : List (List S91)} (h : cI m C) {a : Int} (h0 : 0 ≤ a) (h1 : a < (m : Int)) : rOk (rd_L5 C a) := h.2 _ (rdCl h0 (by rw [h.1]; exact h1))
theorem rOk_el {X : List S91} (h : rOk X) {j : Nat} (hj : j < X.length) : (rd_T91 X (j : Int)).f0.length ≤ 3 := by
  rw [rdV hj]; exact h.2.2 _ (List.getElem_mem _)
theorem rOk_set {X : List S91} (h : rOk X) {j : Nat} {v : S91} (hv : v.f0.length ≤ 3) : rOk (X.set j v) := by
  refine ⟨by rw [List.length_set]; exact h.1, by rw [List.length_set]; exact h.2.1, fun x hx => ?_⟩
  rcases List.mem_or_eq_of_mem_set hx with hx | rfl
  · exact h.2.2 x hx
  · exact hv
theorem cI_set {m : Nat} {C : List (List S91)} (h : cI m C) {i : Nat} {X : List S91} (hX : rOk X) : cI m (C.set i X) := by
  refine ⟨by rw [List.length_set]; exact h.1, fun x hx => ?_⟩
  rcases List.mem_or_eq_of_mem_set hx with hx | rfl
  · exact h.2 x hx
  · exact hX
theorem rd_setC {C : List (List S91)} {i : Nat} (h : i < C.length) (X : List S91) : rd_L5 (C.set i X) (i : Int) = X := by
  rw [rdC (by rw [List.length_set]; exact h), List.getElem_set_self]
theorem cI_app {m : Nat} {C : List (List S91)} (h : cI m C) {X : List S91} (hX : rOk X) : cI (m + 1) (C ++ [X]) := by
  refine ⟨by rw [List.length_append, h.1]; rfl, fun x hx => ?_⟩
  rcases List.mem_append.1 hx with hx | hx
  · exact h.2 x hx
  · rw [List.mem_singleton.1 hx]; exact hX
/-- What is known of a drawn charter. -/
def cQ (P : Int) (B : List Int) (M : Int) (r : Int × List Int × List (List S91) × Int) : Prop :=
  r.1 = P ∧ r.2.1 = B ∧ (r.2.2.1.length ≤ 3 ∧ ∀ X ∈ r.2.2.1, X.length ≤ 3 ∧ ∀ x ∈ X, x.f0.length ≤ 3) ∧ 0 ≤ r.2.2.2 ∧ r.2.2.2 ≤ M
theorem cQ_of {P : Int} {B : List Int} {M p : Int} {m : Nat} {C : List (List S91)} (h : cI m C) (hm : m ≤ 3) (h0 : 0 ≤ p) (h1 : p ≤ M) : cQ P B M (P, B, C, p) :=
  ⟨rfl, rfl, ⟨by rw [h.1]; exact hm, fun X hX => (h.2 X hX).2⟩, h0, h1⟩
theorem charter_j {b : List Int} (hb : okB b) (n : Int) {m : Nat} (hm1 : 1 ≤ m) (hm : m ≤ 3) (i P : Int) (B : List Int) {M : Int} (hM : M < 900000) {C : List (List S91)} (hC : cI m C) {p : Int} (h0 : 0 ≤ p) (h1 : p + 5 ≤ M) {k : Nat} (hk : 2 ≤ k) :
    Dr (spec_l20Charter.j3 k n (m : Int) i false b p P B C) (cQ P B M) := by
  obtain ⟨k, rfl, _⟩ := fuel (show 1 < k by omega)
  rw [spec_l20Charter.j3, if_neg (by simp)]
  refine Dr.bind (odd_d hb h0 (by omega) n (by omega)) (fun r ⟨h1, h2, _⟩ => ?_)
  refine Dr.ite (fun h => ?_) (fun h => Dr.some (cQ_of hC hm (by omega) (by omega)))
  refine Dr.bind (pick_d hb (by omega) (by omega) 3 (by omega)) (fun u ⟨g1, g2, g3⟩ => ?_)
  have hr : rOk (rd_L5 C 0) := cI_row hC (by omega) (by omega)
  have hl : 0 < (rd_L5 C 0).length := hr.1
  have he : (rd_T91 (rd_L5 C 0) 0).f0.length ≤ 3 := rOk_el hr hl
  have hc := hC.1
  refine Dr.ite (fun h => ?_) (fun h => Dr.ite (fun h => ?_) (fun h => ?_))
  · exact Dr.pos (by omega) (Dr.pos (by omega) (Dr.some (cQ_of (cI_set hC (rOk_set hr he)) hm (by omega) (by omega))))
  · exact Dr.some ⟨rfl, rfl, ⟨by simp, by simp⟩, by dsimp only; omega, by dsimp only; omega⟩
  · exact Dr.pos (by omega) (Dr.pos (by omega) (Dr.some (cQ_of (cI_set hC (rOk_set hr (by simp))) hm (by omega) (by omega))))
theorem charter_l3 {b : List Int} (hb : okB b) (n : Int) {m : Nat} (hm1 : 1 ≤ m) (hm : m ≤ 3) {i : Nat} (hi : i < m) (P : Int) (B : List Int) {M : Int} (hM : M < 900000) (K : Nat) (c : Int) (hc0 : 0 ≤ c)
    (HN : ∀ k p C, K < k → cI m C → 0 ≤ p → p + c ≤ M → Dr (spec_l20Charter.l2 k n (m : Int) ((i + 1 : Nat) : Int) b p P B C) (cQ P B M)) : ∀ (d j k : Nat) (p : Int) (C : List (List S91)), K + d + 1 < k → cI m C → (rd_L5 C (i : Int)).length = j + d → 0 ≤ p → p + 3 * d + c ≤ M →
    Dr (spec_l20Charter.l3 k n (m : Int) (i : Int) (j : Int) b p P B C) (cQ P B M) := by
  intro d
  induction d with
  | zero =>
    intro j k p C hk hC hl h0 h1
    obtain ⟨k, rfl, _⟩ := fuel hk
    have hc := hC.1
    rw [spec_l20Charter.l3, if_pos (by omega), if_pos (by omega), if_neg (by omega), w64s i (by omega)]
    exact HN k p C (by omega) hC h0 (by omega)
  | succ d ih =>
    intro j k p C hk hC hl h0 h1
    obtain ⟨k, rfl, _⟩ := fuel hk
    have hc := hC.1
    have hX := cI_row hC (a := (i : Int)) (by omega) (by omega)
    have hj : j < 3 := by have := hX.2.1; omega
    rw [spec_l20Charter.l3, if_pos (by omega), if_pos (by omega), if_pos (by omega)]
    refine Dr.bind (pick_d hb h0 (by omega) _ (by omega)) (fun r ⟨f1, f2, f3⟩ => ?_)
    rw [w64 (x := (m : Int) - 1) (by omega) (by omega)] at f3
    rw [if_neg (by omega)]
    refine Dr.bind (pick_d hb (by omega) (by omega) 3 (by omega)) (fun u ⟨g1, g2, g3⟩ => ?_)
    rw [w64s i (by omega), w64s j (by omega), w64 (x := ((i + 1 : Nat) : Int) + r.1) (by omega) (by omega)]
    refine Dr.ite (fun h => ?_) (fun h => ih (j + 1) k u.2 C (by omega) hC (by omega) (by omega) (by omega))
    have ho := tmod_in (a := ((i + 1 : Nat) : Int) + r.1) (n := (m : Int)) (by omega) (by omega)
    generalize Int.tmod (((i + 1 : Nat) : Int) + r.1) (m : Int) = o at ho ⊢
    have he := rOk_el hX (j := j) (by omega)
    generalize hXe : rd_L5 C (i : Int) = X at *
    refine Dr.pos (by omega) (Dr.bnd (Dr.pos ho.1 (Dr.pos (by omega) ?_)))
    rw [Int.toNat_natCast, Int.toNat_natCast]
    have hX1 : rOk (X.set j (⟨(rd_T91 X (j : Int)).f0, o, (rd_T91 X (j : Int)).f2⟩ : S91)) := rOk_set hX he
    have hYl : (X.set j (⟨(rd_T91 X (j : Int)).f0, o, (rd_T91 X (j : Int)).f2⟩ : S91)).length = X.length := List.length_set
    generalize (X.set j (⟨(rd_T91 X (j : Int)).f0, o, (rd_T91 X (j : Int)).f2⟩ : S91)) = Y at *
    refine Dr.bind (pick_d hb (by omega) (by omega) _ (by omega)) (fun v ⟨q1, q2, q3⟩ => ?_)
    rw [rd_setC (by omega) Y]
    refine Dr.pos (by omega) ?_
    have hZ : rOk (Y.set j (⟨(rd_T91 Y (j : Int)).f0, (rd_T91 Y (j : Int)).f1, v.1⟩ : S91)) := rOk_set hX1 (rOk_el hX1 (by omega))
    refine ih (j + 1) k v.2 _ (by omega) (cI_set (cI_set hC hX1) hZ) ?_ (by omega) (by omega)
    rw [rd_setC (by rw [List.length_set]; omega), List.length_set]; omega
theorem charter_l2 {b : List Int} (hb : okB b) (n : Int) {m : Nat} (hm1 : 1 ≤ m) (hm : m ≤ 3) (P : Int) (B : List Int) {M : Int} (hM : M < 900000) : ∀ (d i k : Nat) (p : Int) (C : List (List S91)), i + d = m → 10 * d + 20 < k → cI m C → 0 ≤ p → p + 10 * d + 5 ≤ M →
    Dr (spec_l20Charter.l2 k n (m : Int) (i : Int) b p P B C) (cQ P B M) := by
  intro d
  induction d with
  | zero =>
    intro i k p C hi hk hC h0 h1
    obtain ⟨k, rfl, _⟩ := fuel hk
    rw [spec_l20Charter.l2, if_neg (by omega)]
    exact charter_j hb n hm1 hm _ P B hM hC h0 (by omega) (by omega)
  | succ d ih =>
    intro i k p C hi hk hC h0 h1
    obtain ⟨k, rfl, _⟩ := fuel hk
    rw [spec_l20Charter.l2, if_pos (by omega)]
    by_cases hmm : 1 < m
    · rw [decide_eq_true (show (m : Int) > 1 by omega)]
      obtain ⟨k, rfl, _⟩ := fuel (show 10 * d + 28 < k by omega)
      rw [spec_l20Charter.j3, if_pos rfl]
      have hr := cI_row hC (a := (i : Int)) (by omega) (by omega)
      exact charter_l3 hb n hm1 hm (by omega) P B hM (10 * d + 20) (10 * d + 5) (by omega) (fun k p C hk hC h0 h1 => ih (i + 1) k p C (by omega) hk hC h0 (by omega)) (rd_L5 C (i : Int)).length 0 k p C (by have := hr.2.1; omega) hC (by omega) h0 (by have := hr.2.1; omega)
    · rw [decide_eq_false (show ¬ (m : Int) > 1 by omega)]
      exact charter_j hb n hm1 hm _ P B hM hC h0 (by omega) (by omega)
theorem charter_l1 {b : List Int} (hb : okB b) (n : Int) {m i : Nat} (hm : m ≤ 3) (hi : i < m) (P : Int) {B : List Int} (hB : bOk 4 B) {M : Int} (hM : M < 900000) (K : Nat) (c : Int) (hc0 : 0 ≤ c) {C : List (List S91)} (hC : cI i C)
    (HN : ∀ k p C, K < k → cI (i + 1) C → 0 ≤ p → p + c ≤ M → Dr (spec_l20Charter.l0 k n (m : Int) ((i + 1 : Nat) : Int) b p P B C) (cQ P B M)) : ∀ (d k : Nat) (p : Int) (X : List S91), K + d + 150 < k → X.length + d ≤ 3 → 1 ≤ X.length + d → (∀ x ∈ X, x.f0.length ≤ 3) → 0 ≤ p → p + 10 * d + c ≤ M →
    Dr (spec_l20Charter.l1 k n (m : Int) (i : Int) X (d : Int) b p P B C) (cQ P B M) := by
  intro d
  induction d with
  | zero =>
    intro k p X hk hX hX1 hx h0 h1
    obtain ⟨k, rfl, _⟩ := fuel hk
    have hc := hC.1
    rw [spec_l20Charter.l1, if_neg (by omega), if_pos (by omega), w64s i (by omega)]
    exact HN k p _ (by omega) (cI_app hC ⟨by omega, by omega, hx⟩) h0 (by omega)
  | succ d ih =>
    intro k p X hk hX hX1 hx h0 h1
    obtain ⟨k, rfl, _⟩ := fuel hk
    rw [spec_l20Charter.l1, if_pos (by omega), w64 (x := ((d + 1 : Nat) : Int) - 1) (by omega) (by omega), show ((d + 1 : Nat) : Int) - 1 = (d : Int) from by omega]
    refine Dr.bind (atom_d hb P hB h0 (by omega) (by omega)) (fun r ⟨f1, f2, f3⟩ => ?_)
    refine Dr.pos (by omega) ?_
    refine ih k r.2 _ (by omega) (by rw [List.length_append]; simp; omega) (by rw [List.length_append]; simp; omega) (fun x hx' => ?_) (by omega) (by omega)
    rcases List.mem_append.1 hx' with h | h
    · exact hx x h
    · rw [List.mem_singleton.1 h]; exact f1
theorem charter_l0 {b : List Int} (hb : okB b) (n : Int) {m : Nat} (hm1 : 1 ≤ m) (hm : m ≤ 3) (P : Int) {B : List Int} (hB : bOk 4 B) {M : Int} (hM : M < 900000) : ∀ (d i k : Nat) (p : Int) (C : List (List S91)), i + d = m → 200 * d + 100 < k → cI i C → 0 ≤ p → p + 40 * d + 40 ≤ M →
    Dr (spec_l20Charter.l0 k n (m : Int) (i : Int) b p P B C) (cQ P B M) := by
  intro d
  induction d with
  | zero =>
    intro i k p C hi hk hC h0 h1
    obtain ⟨k, rfl, _⟩ := fuel hk
    obtain rfl : i = m := by omega
    rw [spec_l20Charter.l0, if_neg (by omega)]
    exact charter_l2 hb n hm1 hm P B hM i 0 k p C (by omega) (by omega) hC h0 (by omega)
  | succ d ih =>
    intro i k p C hi hk hC h0 h1
    obtain ⟨k, rfl, _⟩ := fuel hk
    rw [spec_l20Charter.l0, if_pos (by omega)]
    refine Dr.bind (pick_d hb h0 (by omega) 3 (by omega)) (fun r ⟨f1, f2, f3⟩ => ?_)
    rw [w64 (x := 1 + r.1) (by omega) (by omega)]
    obtain ⟨e, he⟩ := Int.eq_ofNat_of_zero_le (show 0 ≤ 1 + r.1 by omega)
    rw [he]
    exact charter_l1 hb n hm (by omega) P hB hM (200 * d + 100) (40 * d + 40) (by omega) hC (fun k p C hk hC h0 h1 => ih (i + 1) k p C (by omega) hk hC h0 (by omega)) e k r.2 [] (by omega) (by simp; omega) (by simp; omega) (by simp) (by omega) (by omega)
/-- A charter, as it is drawn: its house is one (but for one body too many), it is short. -/
theorem charter_d {b : List Int} (hb : okB b) (n : Int) {p : Int} (hp0 : 0 ≤ p) (hp : p < 800000) {k : Nat} (hk : 1000 ≤ k) :
    Dr (spec_l20Charter.f k b p n) (fun r => 1 ≤ r.1 ∧ r.1 ≤ 6 ∧ bOk 3 r.2.1 ∧ (r.2.2.1.length ≤ 3 ∧ ∀ X ∈ r.2.2.1, X.length ≤ 3 ∧ ∀ x ∈ X, x.f0.length ≤ 3) ∧ 0 ≤ r.2.2.2 ∧ r.2.2.2 ≤ p + 300) := by
  unfold spec_l20Charter.f
  refine Dr.bind (house_d hb 0 hp0 (by omega) (by omega)) (fun r ⟨h1, h2, h3, h4, h5, h6⟩ => ?_)
  obtain ⟨g1, g2, g3, _⟩ := h6 (by omega)
  refine Dr.bind (pick_d hb (by omega) (by omega) 3 (by omega)) (fun s ⟨f1, f2, f3⟩ => ?_)
  rw [w64 (x := 1 + s.1) (by omega) (by omega)]
  obtain ⟨m, hm⟩ := Int.eq_ofNat_of_zero_le (show 0 ≤ 1 + s.1 by omega)
  rw [hm]
  refine (charter_l0 hb n (m := m) (by omega) (by omega) r.1 (B := r.2.1) h3 (M := p + 300) (by omega) m 0 k s.2 [] (by omega) (by omega) ⟨rfl, by simp⟩ (by omega) (by omega)).mono (fun u ⟨q1, q2, q3, q4, q5⟩ => ?_)
  exact ⟨by omega, by omega, by rw [q2]; exact g3, q3, q4, q5⟩

/-! ### crowds and acts, as they are drawn -/
theorem mx_le {a b c : Int} (h1 : a ≤ c) (h2 : b ≤ c) : mx a b ≤ c := by unfold mx; split <;> omega
theorem mx_ge {a b : Int} : b ≤ mx a b ∧ a ≤ mx a b := by unfold mx; split <;> omega
theorem mn_le {a b : Int} : mn a b ≤ b ∧ mn a b ≤ a := by unfold mn; split <;> omega
theorem mn_ge {a b c : Int} (h1 : c ≤ a) (h2 : c ≤ b) : c ≤ mn a b := by unfold mn; split <;> omega
theorem crowd_d {b : List Int} (hb : okB b) (P : Int) (B : List Int) {p : Int} (hp0 : 0 ≤ p) (hp : p < 900000) {k : Nat} (hk : 0 < k) :
    Dr (spec_l20Crowd.f k b p P B) (fun r => 0 ≤ r.1 ∧ r.1 < 128 ∧ p ≤ r.2 ∧ r.2 ≤ p + 4) := by
  unfold spec_l20Crowd.f
  have h1 : 1 ≤ mn (mx P 1) 6 := mn_ge mx_ge.1 (by omega)
  have h2 : mn (mx P 1) 6 ≤ 6 := mn_le.1
  obtain ⟨e, he⟩ := Int.eq_ofNat_of_zero_le (show 0 ≤ mn (mx P 1) 6 by omega)
  have hT : (2 : Int) ^ (mn (mx P 1) 6).toNat = ((2 ^ e : Nat) : Int) := by rw [he, Int.toNat_natCast]; norm_cast
  have hT1 : 2 ^ e ≤ 64 := pow6 (by omega)
  have hT2 : 1 ≤ 2 ^ e := Nat.one_le_two_pow
  rw [hT]
  generalize hg : 2 ^ e = T at *
  rw [w64 (x := (T : Int)) (by omega) (by omega)]
  refine Dr.bind (pick_d hb hp0 (by omega) _ hk) (fun r ⟨f1, f2, f3⟩ => ?_)
  refine Dr.bind (pick_d hb (by omega) (by omega) 3 hk) (fun s ⟨g1, g2, g3⟩ => ?_)
  have hd : ∀ x : Int, 0 ≤ x → (x < 60 ∨ x = 0) → Int.tdiv x 59 = 0 ∨ Int.tdiv x 59 = 1 := fun x h0 h1 => by
    rw [Int.tdiv_eq_ediv_of_nonneg h0]; omega
  refine Dr.ite (fun h => ?_) (fun h => ?_)
  · refine Dr.bind (pick_d hb (by omega) (by omega) _ hk) (fun u ⟨q1, q2, q3⟩ => ?_)
    refine Dr.bind (pick_d hb (by omega) (by omega) _ hk) (fun v ⟨z1, z2, z3⟩ => ?_)
    have hv := hd v.1 z2 z3
    generalize Int.tdiv v.1 59 = y at hv ⊢
    obtain ⟨x1, e1⟩ := Int.eq_ofNat_of_zero_le f2
    obtain ⟨x2, e2⟩ := Int.eq_ofNat_of_zero_le q2
    rw [e1, e2, bor (by rw [p62]; omega) (by rw [p62]; omega), w64 (x := y) (by omega) (by omega), w64 (x := y * 64) (by omega) (by omega)]
    have ho : x1 ||| x2 < 2 ^ 6 := Nat.or_lt_two_pow (by omega) (by omega)
    rw [w64 (by omega) (by omega)]
    exact Dr.some ⟨by dsimp only; omega, by dsimp only; omega, by dsimp only; omega, by dsimp only; omega⟩
  · refine Dr.bind (pick_d hb (by omega) (by omega) _ hk) (fun v ⟨z1, z2, z3⟩ => ?_)
    have hv := hd v.1 z2 z3
    generalize Int.tdiv v.1 59 = y at hv ⊢
    rw [w64 (x := y) (by omega) (by omega), w64 (x := y * 64) (by omega) (by omega), w64 (by omega) (by omega)]
    exact Dr.some ⟨by dsimp only; omega, by dsimp only; omega, by dsimp only; omega, by dsimp only; omega⟩
theorem act_j {b : List Int} (hb : okB b) (c t w : Int) (hc0 : 0 ≤ c) (hc : c ≤ 3) (ht0 : 0 ≤ t) (ht : t ≤ 3) (hw0 : 0 ≤ w) (hw : w < 128) {p : Int} (hp0 : 0 ≤ p) (hp : p < 900000) {k : Nat} (hk : 1 < k) :
    Dr (spec_l20Act.j1 k b p c t w) (fun r => -1 ≤ r.1 ∧ r.1 ≤ 3 ∧ 0 ≤ r.2.1 ∧ r.2.1 ≤ 3 ∧ 0 ≤ r.2.2.1 ∧ r.2.2.1 < 128 ∧ p ≤ r.2.2.2 ∧ r.2.2.2 ≤ p + 2) := by
  obtain ⟨k, rfl, _⟩ := fuel hk
  rw [spec_l20Act.j1]
  refine Dr.bind (odd_d hb hp0 (by omega) 30 (by omega)) (fun r ⟨h1, h2, _⟩ => ?_)
  refine Dr.ite (fun h => Dr.bnd ?_) (fun h => Dr.some ⟨by dsimp only; omega, by dsimp only; omega, ht0, ht, hw0, hw, by dsimp only; omega, by dsimp only; omega⟩)
  refine Dr.bind (pick_d hb (by omega) (by omega) 2 (by omega)) (fun u ⟨q1, q2, q3⟩ => ?_)
  refine Dr.pos q2 (Dr.pos (by simp; omega) (Dr.some ?_))
  have hv : u.1 = 0 ∨ u.1 = 1 := by omega
  refine ⟨?_, ?_, ht0, ht, hw0, hw, by dsimp only; omega, by dsimp only; omega⟩
  · rcases hv with e | e <;> rw [e] <;> simp [rd]
  · rcases hv with e | e <;> rw [e] <;> simp [rd]
/-- Of so many clauses and variants at most 3. -/
def cS (C : List (List S91)) : Prop := C.length ≤ 3 ∧ ∀ X ∈ C, X.length ≤ 3 ∧ ∀ x ∈ X, x.f0.length ≤ 3
theorem act_d {b : List Int} (hb : okB b) (P : Int) (B : List Int) {C : List (List S91)} (hC : cS C) {p : Int} (hp0 : 0 ≤ p) (hp : p < 800000) {k : Nat} (hk : 4 ≤ k) :
    Dr (spec_l20Act.f k b p P B C) (fun r => -1 ≤ r.1 ∧ r.1 ≤ 3 ∧ 0 ≤ r.2.1 ∧ r.2.1 ≤ 3 ∧ 0 ≤ r.2.2.1 ∧ r.2.2.1 < 128 ∧ p ≤ r.2.2.2 ∧ r.2.2.2 ≤ p + 12) := by
  unfold spec_l20Act.f
  have hc := hC.1
  have hm : mx (C.length : Int) 1 ≤ 3 := mx_le (by omega) (by omega)
  refine Dr.bind (pick_d hb hp0 (by omega) _ (by omega)) (fun r ⟨f1, f2, f3⟩ => ?_)
  refine Dr.bind (crowd_d hb P B (by omega) (by omega) (by omega)) (fun w ⟨g1, g2, g3, g4⟩ => ?_)
  refine Dr.bind (pick_d hb (by omega) (by omega) 3 (by omega)) (fun t ⟨h1, h2, h3⟩ => ?_)
  refine Dr.bind (pick_d hb (by omega) (by omega) 3 (by omega)) (fun u ⟨q1, q2, q3⟩ => ?_)
  obtain ⟨k, rfl, _⟩ := fuel (show 3 < k by omega)
  have jf : Dr (spec_l20Act.j0 (k + 1) false b u.2 P B C r.1 t.1 w.1) (fun r => -1 ≤ r.1 ∧ r.1 ≤ 3 ∧ 0 ≤ r.2.1 ∧ r.2.1 ≤ 3 ∧ 0 ≤ r.2.2.1 ∧ r.2.2.1 < 128 ∧ p ≤ r.2.2.2 ∧ r.2.2.2 ≤ p + 12) := by
    rw [spec_l20Act.j0, if_neg (by simp)]
    exact (act_j hb r.1 t.1 w.1 f2 (by omega) h2 (by omega) g1 g2 (by omega) (by omega) (by omega)).mono (fun y ⟨y1, y2, y3, y4, y5, y6, y7, y8⟩ => ⟨y1, y2, y3, y4, y5, y6, by omega, by omega⟩)
  refine Dr.ite (fun h => ?_) (fun h => jf)
  by_cases hl : (C.length : Int) > 0
  · rw [decide_eq_true hl, spec_l20Act.j0, if_pos rfl]
    have hr : r.1 < (C.length : Int) := by
      rcases f3 with f3 | f3
      · have : mx (C.length : Int) 1 = C.length := by unfold mx; split <;> omega
        omega
      · omega
    refine Dr.pos f2 (Dr.pos hr ?_)
    have hX := (hC.2 _ (rdCl f2 hr)).1
    have hm2 : mx ((rd_L5 C r.1).length : Int) 1 ≤ 3 := mx_le (by omega) (by omega)
    refine Dr.bind (pick_d hb (by omega) (by omega) _ (by omega)) (fun v ⟨v1, v2, v3⟩ => ?_)
    exact (act_j hb r.1 v.1 w.1 f2 (by omega) v2 (by omega) g1 g2 (by omega) (by omega) (by omega)).mono (fun y ⟨y1, y2, y3, y4, y5, y6, y7, y8⟩ => ⟨y1, y2, y3, y4, y5, y6, by omega, by omega⟩)
  · rw [decide_eq_false hl]; exact jf
theorem cS_h {C : List (List S91)} (h : cS C) : C.length ≤ 1048576 ∧ hLen C := ⟨by have := h.1; omega, fun X hX => ⟨by have := (h.2 X hX).1; omega, fun x hx => by have := (h.2 X hX).2 x hx; omega⟩⟩
theorem bOk_h {m : Nat} {B : List Int} (h : bOk m B) (hm : m ≤ 4) : B.length ≤ 1048576 ∧ ∀ x ∈ B, x < 9223372036854775808 := ⟨by have := h.1; omega, fun x hx => by have := h.2 x hx; omega⟩

/-! ### what ApartOk answers -/
def asks (C : List (List S91)) (a c : Int) : Bool := (rd_L5 C a).any fun x => x.f1 == c
def inC (C : List (List S91)) (a : Int) : Bool := decide (0 ≤ a) && decide (a < (C.length : Int))
def apV (P : Int) (B : List Int) (C : List (List S91)) (a c : Int) : Bool := chOk P B C && (inC C a && inC C c) && !(a == c) && !(asks C a c) && !(asks C c a)
theorem ap_v (P : Int) (B : List Int) (C : List (List S91)) (a0 a1 a2 b0 b1 b2 : Int) (hB : B.length ≤ 1048576) (hC : C.length ≤ 1048576) (hm : hLen C) {k : Nat} (hk : 5000000 < k) :
    impl_ApartOk.f k P B C a0 a1 a2 b0 b1 b2 = some (apV P B C a0 b0) := by
  unfold impl_ApartOk.f apV
  rw [isCh_f P B C (by omega) (by omega) (fun L hL x hx => Nat.lt_of_le_of_lt ((hm L hL).2 x hx) (by decide)) (by omega), bnd rfl]
  cases h : chOk P B C with
  | false => rfl
  | true =>
    rw [if_pos rfl, hcl_f, bnd rfl, hcl_f, bnd rfl]
    cases ha : inC C a0 with
    | false => rw [if_neg (by unfold inC at ha; rw [ha]; simp)]; rfl
    | true =>
      rw [if_pos (by unfold inC at ha; exact ha)]
      cases hb : inC C b0 with
      | false => rw [if_neg (by unfold inC at hb; rw [hb]; simp)]; rfl
      | true =>
        rw [if_pos (by unfold inC at hb; exact hb)]
        have ha' : 0 ≤ a0 ∧ a0 < (C.length : Int) := by simpa [inC] using ha
        have hb' : 0 ≤ b0 ∧ b0 < (C.length : Int) := by simpa [inC] using hb
        by_cases e : a0 = b0
        · rw [if_pos e]; simp [e]
        · rw [if_neg e]
          unfold impl_asksFor.f
          rw [if_pos ha'.1, if_pos ha'.2, bnd rfl, if_pos hb'.1, if_pos hb'.2, bnd rfl]
          have e' : (a0 == b0) = false := by simp [e]
          rw [e']
          show (if asks C a0 b0 = true then _ else some (!asks C b0 a0)) = _
          cases asks C a0 b0 <;> simp
theorem apV_symm (P : Int) (B : List Int) (C : List (List S91)) (a c : Int) : apV P B C c a = apV P B C a c := by
  unfold apV
  have : (c == a) = (a == c) := by
    by_cases h : a = c
    · rw [h]
    · rw [show (a == c) = false by simp [h], show (c == a) = false by simp [Ne.symm h]]
  rw [this]
  cases chOk P B C <;> cases inC C a <;> cases inC C c <;> cases (a == c) <;> cases asks C a c <;> cases asks C c a <;> rfl
theorem apV_self (P : Int) (B : List Int) (C : List (List S91)) (a : Int) : apV P B C a a = false := by
  unfold apV; simp

theorem FnApartOk : laws_FnApartOk.Pure := by
  intro l0 _ _ hb8
  obtain ⟨K, hK⟩ : ∃ K, K = 23000000 := ⟨_, rfl⟩
  refine ⟨K + 20, ?_⟩
  unfold laws_FnApartOk.f
  by_cases h : (l0.length : Int) > 1048576
  · rw [if_pos h]
  · rw [if_neg h, laws_FnApartOk.j0]
    obtain ⟨b, eo, hb⟩ := open_f hb8
    obtain ⟨ch, ec, c1, c2, c3, c4, c5, c6⟩ := charter_d hb 14 (p := 0) (by omega) (by omega) (k := K + 19) (by omega)
    obtain ⟨P, B, C, q⟩ := ch
    dsimp only at c1 c2 c3 c4 c5 c6
    obtain ⟨a, ea, a1, a2, a3, a4, a5, a6, a7, a8⟩ := act_d hb P B c4 (p := q) (by omega) (by omega) (k := K + 19) (by omega)
    obtain ⟨x0, x1, x2, q1⟩ := a
    dsimp only at a1 a2 a3 a4 a5 a6 a7 a8
    obtain ⟨d, ed, d1, d2, d3, d4, d5, d6, d7, d8⟩ := act_d hb P B c4 (p := q1) (by omega) (by omega) (k := K + 19) (by omega)
    obtain ⟨y0, y1, y2, q2⟩ := d
    have eD : spec_DrawApartOk.f (K + 19) l0 = some (P, B, C, x0, x1, x2, y0, y1, y2) := by
      unfold spec_DrawApartOk.f
      rw [bnd eo, bnd ec, bnd ea, bnd ed]
    rw [bnd eD]
    obtain ⟨hB1, hB2⟩ := bOk_h c3 (by omega)
    obtain ⟨hC1, hC2⟩ := cS_h c4
    obtain ⟨r, e1, e2⟩ := ap_same P B C x0 x1 x2 y0 y1 y2 hB1 hB2 hC1 hC2 (k := K + 19) (by omega)
    have e3 := ap_v P B C x0 x1 x2 y0 y1 y2 hB1 hC1 hC2 (k := K + 19) (by omega)
    obtain rfl := Option.some.inj (e1.symm.trans e3)
    rw [bnd e1, bnd e2, if_neg (by simp), laws_FnApartOk.j1, bnd (ap_v P B C y0 y1 y2 x0 x1 x2 hB1 hC1 hC2 (by omega)), if_pos (by rw [apV_symm]; simp)]
    rw [bnd (ap_v P B C x0 x1 x2 x0 x1 x2 hB1 hC1 hC2 (by omega)), apV_self, if_neg (by simp), bnd (ap_v P B C x0 x1 x2 y0 0 0 hB1 hC1 hC2 (by omega)), if_pos (by simp), bnd alive_f]

end Go.Proofs.Ytojoblllgddckaa.Pure
