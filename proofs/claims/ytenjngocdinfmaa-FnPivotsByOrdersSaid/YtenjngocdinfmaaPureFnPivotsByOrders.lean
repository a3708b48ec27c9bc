/- A person's pivots are as many as the orders of the people in which this person is the first with whom those in front bring the consent about. Condition: the code is of bytes. -/
import Derived.Test.YtenjngocdinfmaaCAll15
import Derived.Test.YtenjngocdinfmaaM
namespace Go.Proofs.Ytenjngocdinfmaa.Pure
open Go.RowKit Go.Proofs.Ytenjngocdinfmaa.PAll Go.Proofs.YtenjngocdinfmaaW.PrintWords Go.Proofs.YtenjngocdinfmaaW.PrintMore Go.Proofs.Ytenjngocdinfmaa.M
set_option linter.unusedVariables false
set_option linter.unusedSimpArgs false

/-! ### crowds -/
/-- A crowd of so many people, 1 to 6. -/
def isC (n : Nat) (a : Int) : Bool := decide (1 ≤ n) && decide (n ≤ 6) && (decide (0 ≤ a) && decide (a < ((2 ^ n : Nat) : Int)))
theorem iCrowd_f {n : Nat} {a : Int} : impl_isCrowd.f (n : Int) a = some (isC n a) := by
  unfold impl_isCrowd.f impl_arePeople.f isC
  by_cases h1 : 1 ≤ n
  · rw [if_pos (by omega), decide_eq_true h1]
    by_cases h2 : n ≤ 6
    · simp only [decide_eq_true (by omega : (n : Int) ≤ 6), Option.bind_some, if_true, decide_eq_true h2, Bool.true_and]
      by_cases h3 : a ≥ 0
      · rw [if_pos h3, if_pos (by omega), shl_one (by omega), decide_eq_true (by omega : 0 ≤ a)]; simp
      · rw [if_neg h3, decide_eq_false (by omega : ¬ 0 ≤ a)]; simp
    · simp only [decide_eq_false (by omega : ¬ (n : Int) ≤ 6), Option.bind_some, decide_eq_false h2]; simp
  · rw [if_neg (by omega), decide_eq_false h1]; simp

theorem sCrowd_f {n : Nat} {a : Int} : spec_CrowdOk.f (n : Int) a = some (isC n a) := by
  unfold spec_CrowdOk.f spec_l1In.f isC
  by_cases h1 : 1 ≤ n
  · rw [if_pos (by omega), decide_eq_true h1]
    by_cases h2 : n ≤ 6
    · have h62 : 2 ^ n ≤ 64 := pow6 h2
      have hpos := Nat.two_pow_pos n
      simp only [decide_eq_true (by omega : (n : Int) ≤ 6), Option.bind_some, if_true, decide_eq_true h2, Bool.true_and]
      rw [if_pos (by omega), shl_one (by omega), w64 (by omega) (by omega)]
      by_cases h3 : a ≥ 0
      · rw [if_pos h3, decide_eq_true (by omega : 0 ≤ a)]
        simp only [Option.bind_some, Bool.true_and]
        congr 1
        exact decide_eq_decide.2 (by omega)
      · rw [if_neg h3, decide_eq_false (by omega : ¬ 0 ≤ a)]; simp
    · simp only [decide_eq_false (by omega : ¬ (n : Int) ≤ 6), Option.bind_some, decide_eq_false h2]; simp
  · rw [if_neg (by omega), decide_eq_false h1]; simp

theorem alive_f : laws_alive.f = some true := by decide

/-! ### draws -/
/-- A code: bytes, at most 2000. -/
def okB (b : List Int) : Prop := b.length ≤ 2000 ∧ ∀ x ∈ b, 0 ≤ x ∧ x < 256
theorem okB_rd {b : List Int} (h : okB b) {i : Int} (h0 : 0 ≤ i) (h1 : i < b.length) : 0 ≤ rd b i ∧ rd b i < 256 := h.2 _ (rd_mem h0 h1)
theorem tmod_in {a : Int} {n : Int} (ha : 0 ≤ a) (hn : 0 < n) : 0 ≤ Int.tmod a n ∧ Int.tmod a n < n :=
  ⟨Int.tmod_nonneg n ha, Int.tmod_lt_of_pos a hn⟩
theorem pick_f {b : List Int} (hb : okB b) {p : Int} (hp0 : 0 ≤ p) (hp : p < 1099511627776) (n : Int) {k : Nat} (hk : 0 < k) :
    ∃ v, spec_l20Rd_pick.f k b p n = some (v, p + 1) ∧ 0 ≤ v ∧ (v < n ∨ v = 0) := by
  obtain ⟨k, rfl, _⟩ := fuel hk
  unfold spec_l20Rd_pick.f
  simp only [spec_l20Rd_pick.j0]
  rw [w64 (x := p + 1) (by omega) (by omega), show p + 1 - 1 = p from by omega, w64 (x := p) (by omega) (by omega)]
  by_cases h1 : n < 1
  · rw [if_pos h1]; exact ⟨0, by simp, by omega, .inr rfl⟩
  · rw [if_neg h1]
    by_cases h2 : (b.length : Int) = 0
    · rw [h2]; exact ⟨0, by simp, by omega, .inr rfl⟩
    · have h2' : ((b.length : Int) == 0) = false := by simpa using h2
      rw [h2', if_neg (by simp)]
      have hb1 := hb.1
      by_cases h3 : p < (b.length : Int)
      · have hr := okB_rd hb hp0 h3
        rw [if_pos h3, if_pos hp0, if_neg (by omega), w64 (x := rd b p) (by omega) (by omega)]
        have := tmod_in hr.1 (show 0 < n by omega)
        exact ⟨_, rfl, this.1, .inl this.2⟩
      · have m1 := tmod_in hp0 (show (0 : Int) < (b.length : Int) by omega)
        have m2 := tmod_in (show (0 : Int) ≤ p * 7 + 3 by omega) (show (0 : Int) < (b.length : Int) by omega)
        have r1 := okB_rd hb m1.1 m1.2
        have r2 := okB_rd hb m2.1 m2.2
        have d1 : 0 ≤ Int.tdiv p (b.length : Int) := Int.tdiv_nonneg hp0 (by omega)
        have d2 : Int.tdiv p (b.length : Int) ≤ p := Int.tdiv_le_self _ hp0
        rw [if_neg h3, if_neg h2]
        rw [w64 (x := p * 7) (by omega) (by omega), w64 (x := p * 7 + 3) (by omega) (by omega)]
        rw [if_pos m1.1, if_pos m1.2, if_pos m2.1, if_pos m2.2, if_neg (by omega)]
        generalize rd b (Int.tmod p (b.length : Int)) = x1 at *
        generalize rd b (Int.tmod (p * 7 + 3) (b.length : Int)) = x2 at *
        generalize Int.tdiv p (b.length : Int) = q at *
        rw [w64 (x := x1) (by omega) (by omega), w64 (x := x2) (by omega) (by omega), w64 (x := x1 * 131) (by omega) (by omega), w64 (x := x2 * 1117) (by omega) (by omega), w64 (x := p * 29) (by omega) (by omega), w64 (x := q) (by omega) (by omega), w64 (x := q * 53) (by omega) (by omega), w64 (x := x1 * 131 + x2 * 1117) (by omega) (by omega), w64 (x := x1 * 131 + x2 * 1117 + p * 29) (by omega) (by omega), w64 (x := x1 * 131 + x2 * 1117 + p * 29 + q * 53) (by omega) (by omega)]
        obtain ⟨X, eX⟩ := Int.eq_ofNat_of_zero_le (show 0 ≤ x1 * 131 + x2 * 1117 + p * 29 + q * 53 by omega)
        have hX : X < 4611686018427387904 := by omega
        rw [eX]
        have e64 : Int.tdiv (X : Int) 64 = ((X / 64 : Nat) : Int) := by rw [show (64 : Int) = ((64 : Nat) : Int) from rfl, ← Int.ofNat_tdiv]
        rw [e64, w64 (by omega) (by omega), bxor (by rw [p62]; omega) (by rw [p62]; omega)]
        have := tmod_in (Int.natCast_nonneg (X ^^^ (X / 64))) (show 0 < n by omega)
        exact ⟨_, rfl, this.1, .inl this.2⟩
theorem open_f {l : List Int} (hb : ∀ x ∈ l, (Lit.int .u8 x).wf = true) : ∃ b, spec_l20Open.f l = some (b, 0) ∧ okB b := by
  have hw : ∀ x ∈ l, 0 ≤ x ∧ x < 256 := by
    exact fun x hx => u8_wf (hb x hx)
  unfold spec_l20Open.f
  by_cases h : (l.length : Int) > 2000
  · rw [if_pos h, if_pos (by omega)]
    exact ⟨_, rfl, by simp; omega, fun x hx => hw x (List.mem_of_mem_take hx)⟩
  · rw [if_neg h]; exact ⟨_, rfl, by omega, hw⟩

/-! ### heads of a crowd -/
def hd (c : Nat) : Nat := ctN (fun i => c.testBit i) 6
set_option maxRecDepth 100000 in
theorem heads_all : ∀ c : Fin 64, impl_headsOf.f ((c.val : Nat) : Int) = some ((hd c.val : Nat) : Int) := by decide +kernel
theorem heads_f {c : Nat} (h : c < 64) : impl_headsOf.f (c : Int) = some (hd c : Int) := heads_all ⟨c, h⟩
/-! ### houses -/
def isCI (P a : Int) : Bool := decide (1 ≤ P) && decide (P ≤ 6) && (decide (0 ≤ a) && decide (a < ((2 ^ P.toNat : Nat) : Int)))
theorem isCI_nat (n : Nat) (a : Int) : isCI (n : Int) a = isC n a := by
  unfold isCI isC
  rw [show ((n : Int)).toNat = n from by omega, show decide (1 ≤ (n : Int)) = decide (1 ≤ n) from decide_eq_decide.2 (by omega), show decide ((n : Int) ≤ 6) = decide (n ≤ 6) from decide_eq_decide.2 (by omega)]
theorem iCI_f (P a : Int) : impl_isCrowd.f P a = some (isCI P a) := by
  by_cases h : 0 ≤ P
  · obtain ⟨n, rfl⟩ := Int.eq_ofNat_of_zero_le h
    rw [iCrowd_f, isCI_nat]
  · unfold impl_isCrowd.f impl_arePeople.f isCI
    rw [if_neg (by omega), decide_eq_false (by omega : ¬ 1 ≤ P)]; simp
def hTail (P : Int) (B : List Int) : Bool := decide (1 ≤ P) && decide (P ≤ 6) && decide (B.length ≤ 4)
def hOk (P : Int) (B : List Int) : Bool := B.all (fun b => isCI P b && !(b == 0)) && hTail P B
theorem isHouse_l (P : Int) (B : List Int) (hl : B.length < 4611686018427387904) : ∀ (d i k : Nat), i + d = B.length → d < k →
    impl_isHouse.l0 k B (B.length : Int) (i : Int) P B = some ((B.drop i).all (fun b => isCI P b && !(b == 0)) && hTail P B) := by
  intro d
  induction d with
  | zero =>
    intro i k hi hk
    obtain ⟨k, rfl, _⟩ := fuel hk
    have e : B.drop i = [] := List.drop_eq_nil_of_le (by omega)
    have h4 : decide ((B.length : Int) ≤ 4) = decide (B.length ≤ 4) := decide_eq_decide.2 (by omega)
    rw [impl_isHouse.l0, if_neg (by omega), e]
    unfold impl_arePeople.f hTail
    by_cases h : P ≥ 1
    · rw [if_pos h, bnd rfl, decide_eq_true (by omega : 1 ≤ P)]
      by_cases h2 : P ≤ 6
      · rw [decide_eq_true h2, if_pos rfl, h4]; simp
      · rw [decide_eq_false h2, if_neg (by simp)]; simp
    · rw [if_neg h, bnd rfl, if_neg (by simp), decide_eq_false (by omega : ¬ 1 ≤ P)]; simp
  | succ d ih =>
    intro i k hi hk
    obtain ⟨k, rfl, hk'⟩ := fuel hk
    have hlt : i < B.length := by omega
    rw [impl_isHouse.l0, if_pos (by omega), if_pos (by omega), if_pos (by omega), rd_lt hlt, iCI_f, bnd rfl, w64s i (by omega), ih (i + 1) k (by omega) (by omega), List.drop_eq_getElem_cons hlt, List.all_cons]
    by_cases h1 : isCI P B[i] = true
    · rw [if_pos h1, h1]
      by_cases h2 : B[i] = 0
      · rw [if_pos h2, beq_iff_eq.2 h2]; simp
      · rw [if_neg h2, beq_eq_false_iff_ne.2 h2]; simp
    · rw [if_neg h1, show isCI P B[i] = false from by simpa using h1]; simp
theorem isHouse_f (P : Int) (B : List Int) (hl : B.length < 4611686018427387904) {k : Nat} (hk : B.length < k) : impl_isHouse.f k P B = some (hOk P B) := by
  unfold impl_isHouse.f
  have := isHouse_l P B hl B.length 0 k (by omega) hk
  simpa [hOk] using this
theorem hOk_P {P : Int} {B : List Int} (h : hOk P B = true) : ∃ n : Nat, P = (n : Int) ∧ 1 ≤ n ∧ n ≤ 6 := by
  simp only [hOk, hTail, Bool.and_eq_true, decide_eq_true_eq] at h
  exact ⟨P.toNat, by omega, by omega, by omega⟩
theorem hOk_len {P : Int} {B : List Int} (h : hOk P B = true) : B.length ≤ 4 := by
  simp only [hOk, hTail, Bool.and_eq_true, decide_eq_true_eq] at h; exact h.2.2
theorem hOk_mem {P : Int} {B : List Int} (h : hOk P B = true) {b : Int} (hb : b ∈ B) : 0 < b ∧ b < 64 := by
  obtain ⟨n, rfl, h1, h6⟩ := hOk_P h
  simp only [hOk, Bool.and_eq_true, List.all_eq_true] at h
  have := h.1 b hb
  rw [isCI_nat] at this
  simp only [isC, decide_eq_true_eq, Bool.not_eq_true', beq_eq_false_iff_ne, Bool.and_eq_true] at this
  have := pow6 h6
  omega

theorem sCI_f (P a : Int) : spec_CrowdOk.f P a = some (isCI P a) := by
  by_cases h : 0 ≤ P
  · obtain ⟨n, rfl⟩ := Int.eq_ofNat_of_zero_le h
    rw [sCrowd_f, isCI_nat]
  · unfold spec_CrowdOk.f spec_l1In.f isCI
    rw [if_neg (by omega), decide_eq_false (by omega : ¬ 1 ≤ P)]; simp
theorem sHouse_l (P : Int) (B : List Int) (hl : B.length < 4611686018427387904) : ∀ (d i k : Nat), i + d = B.length → d < k →
    spec_HouseOk.l0 k (i : Int) P B = some ((B.drop i).all (fun b => isCI P b && !(b == 0)) && hTail P B) := by
  intro d
  induction d with
  | zero =>
    intro i k hi hk
    obtain ⟨k, rfl, _⟩ := fuel hk
    have e : B.drop i = [] := List.drop_eq_nil_of_le (by omega)
    have h4 : decide ((B.length : Int) ≤ 4) = decide (B.length ≤ 4) := decide_eq_decide.2 (by omega)
    rw [spec_HouseOk.l0, if_neg (by omega), e]
    unfold spec_l1In.f hTail
    by_cases h : P ≥ 1
    · rw [if_pos h, bnd rfl, decide_eq_true (by omega : 1 ≤ P)]
      by_cases h2 : P ≤ 6
      · rw [decide_eq_true h2, if_pos rfl, h4]; simp
      · rw [decide_eq_false h2, if_neg (by simp)]; simp
    · rw [if_neg h, bnd rfl, if_neg (by simp), decide_eq_false (by omega : ¬ 1 ≤ P)]; simp
  | succ d ih =>
    intro i k hi hk
    obtain ⟨k, rfl, hk'⟩ := fuel hk
    have hlt : i < B.length := by omega
    rw [spec_HouseOk.l0, if_pos (by omega), if_pos (by omega), rd_lt hlt, sCI_f, bnd rfl, w64s i (by omega), ih (i + 1) k (by omega) (by omega), List.drop_eq_getElem_cons hlt, List.all_cons]
    by_cases h1 : isCI P B[i] = true
    · rw [if_pos h1, h1]
      by_cases h2 : B[i] = 0
      · rw [if_pos h2, beq_iff_eq.2 h2]; simp
      · rw [if_neg h2, beq_eq_false_iff_ne.2 h2]; simp
    · rw [if_neg h1, show isCI P B[i] = false from by simpa using h1]; simp
theorem sHouse_f (P : Int) (B : List Int) (hl : B.length < 4611686018427387904) {k : Nat} (hk : B.length < k) : spec_HouseOk.f k P B = some (hOk P B) := by
  unfold spec_HouseOk.f
  have := sHouse_l P B hl B.length 0 k (by omega) hk
  simpa [hOk] using this

/-! ### terms -/
theorem rdM {l : List S35} {i : Nat} (h : i < l.length) : rd_T35 l (i : Int) = l[i] := by
  unfold rd_T35; simp [List.getD_eq_getElem?_getD, List.getElem?_eq_getElem h]
/-- Heads of a body that is told by a number. -/
def hdI (b : Int) : Int := (hd b.toNat : Int)
def aOk (B : List Int) (m : S35) : Bool := decide (m.f0 = 0) && (decide (0 ≤ m.f1) && (decide (m.f1 < (B.length : Int)) && (decide (1 ≤ m.f2) && decide (m.f2 ≤ hdI (rd B m.f1)))))
def oOk (m : S35) : Bool := (decide (m.f0 = 1) || decide (m.f0 = 2)) && (decide (m.f1 = 0) && decide (m.f2 = 0))
theorem aOk_iff {B : List Int} {m : S35} : aOk B m = true ↔ m.f0 = 0 ∧ 0 ≤ m.f1 ∧ m.f1 < (B.length : Int) ∧ 1 ≤ m.f2 ∧ m.f2 ≤ hdI (rd B m.f1) := by
  simp only [aOk, Bool.and_eq_true, decide_eq_true_eq]
theorem oOk_iff {m : S35} : oOk m = true ↔ (m.f0 = 1 ∨ m.f0 = 2) ∧ m.f1 = 0 ∧ m.f2 = 0 := by
  simp only [oOk, Bool.and_eq_true, Bool.or_eq_true, decide_eq_true_eq]
theorem bfalse {b : Bool} (h : ¬ b = true) : b = false := by simpa using h
/-- Parts are counted mark by mark. -/
def scan (B : List Int) : Nat → List S35 → Option Nat
  | p, [] => some p
  | p, m :: ms => if aOk B m = true then scan B (p + 1) ms else if oOk m = true ∧ 2 ≤ p then scan B (p - 1) ms else none
def tmOk (P : Int) (B : List Int) (t : List S35) : Bool := hOk P B && (decide (t.length ≤ 9) && (scan B 0 t == some 1))
inductive TR where
  | at (m : S35)
  | op (m : S35) (l r : TR)
def flat : TR → List S35
  | .at m => [m]
  | .op m l r => flat l ++ (flat r ++ [m])
def okT (B : List Int) : TR → Prop
  | .at m => aOk B m = true
  | .op m l r => oOk m = true ∧ okT B l ∧ okT B r
theorem flat_pos : ∀ T : TR, 0 < (flat T).length
  | .at _ => by simp [flat]
  | .op _ _ _ => by simp [flat]; omega
theorem forest (B : List Int) : ∀ (ms : List S35) (st : List TR) (q : Nat), (∀ x ∈ st, okT B x) → scan B st.length ms = some q →
    ∃ st' : List TR, (∀ x ∈ st', okT B x) ∧ st'.length = q ∧ st.reverse.flatMap flat ++ ms = st'.reverse.flatMap flat := by
  intro ms
  induction ms with
  | nil =>
    intro st q hok hs
    simp only [scan, Option.some.injEq] at hs
    exact ⟨st, hok, hs, by simp⟩
  | cons m ms ih =>
    intro st q hok hs
    simp only [scan] at hs
    by_cases ha : aOk B m = true
    · rw [if_pos ha] at hs
      obtain ⟨st', h1, h2, h3⟩ := ih (.at m :: st) q (by
        intro x hx
        rcases List.mem_cons.1 hx with rfl | hx
        · exact ha
        · exact hok x hx) hs
      exact ⟨st', h1, h2, by rw [← h3]; simp [flat]⟩
    · rw [if_neg ha] at hs
      by_cases ho : oOk m = true ∧ 2 ≤ st.length
      · rw [if_pos ho] at hs
        match st, hok, ho, hs with
        | r :: l :: st0, hok, ho, hs =>
          obtain ⟨st', h1, h2, h3⟩ := ih (.op m l r :: st0) q (by
            intro x hx
            rcases List.mem_cons.1 hx with rfl | hx
            · exact ⟨ho.1, hok l (by simp), hok r (by simp)⟩
            · exact hok x (by simp [hx])) (by simpa using hs)
          exact ⟨st', h1, h2, by rw [← h3]; simp [flat]⟩
        | [x], _, ho, _ => simp at ho
        | [], _, ho, _ => simp at ho
      · rw [if_neg ho] at hs; cases hs
/-- A term is a tree, written out. -/
theorem tree_of {B : List Int} {t : List S35} (h : scan B 0 t = some 1) : ∃ T, okT B T ∧ t = flat T := by
  obtain ⟨st', h1, h2, h3⟩ := forest B t [] 1 (by simp) h
  match st', h1, h2, h3 with
  | [T], h1, _, h3 => exact ⟨T, h1 T (by simp), by simpa using h3⟩
theorem tm_tree {P : Int} {B : List Int} {t : List S35} (h : tmOk P B t = true) : hOk P B = true ∧ t.length ≤ 9 ∧ ∃ T, okT B T ∧ t = flat T := by
  simp only [tmOk, Bool.and_eq_true, decide_eq_true_eq, beq_iff_eq] at h
  exact ⟨h.1, h.2.1, tree_of h.2.2⟩
/-- What a tree says of a crowd. -/
def sat (B : List Int) (m : S35) (c : Nat) : Bool := decide (m.f2 ≤ (hd ((rd B m.f1).toNat &&& c) : Int))
def val (B : List Int) (c : Nat) : TR → Bool
  | .at m => sat B m c
  | .op m l r => if m.f0 = 2 then val B c l || val B c r else val B c l && val B c r
theorem headsI_f {P : Int} {B : List Int} (h : hOk P B = true) {i : Int} (h0 : 0 ≤ i) (h1 : i < (B.length : Int)) : impl_headsOf.f (rd B i) = some (hdI (rd B i)) := by
  have hm := hOk_mem h (rd_mem h0 h1)
  have e := heads_f (c := (rd B i).toNat) (by omega)
  rw [show (((rd B i).toNat : Nat) : Int) = rd B i from by omega] at e
  exact e
theorem isTerm_l {P : Int} {B : List Int} (h : hOk P B = true) (t : List S35) (hl : t.length ≤ 9) : ∀ (d i p k : Nat), i + d = t.length → p ≤ i → 2 * d < k →
    impl_isTerm.l0 k (p : Int) t (t.length : Int) (i : Int) P B = some (scan B p (t.drop i) == some 1) := by
  intro d
  induction d with
  | zero =>
    intro i p k hi hp hk
    obtain ⟨k, rfl, _⟩ := fuel hk
    rw [impl_isTerm.l0, if_neg (by omega), List.drop_eq_nil_of_le (by omega)]
    simp only [scan]
    by_cases e : p = 1
    · subst e; rfl
    · rw [beq_eq_false_iff_ne.2 (show (p : Int) ≠ 1 by omega), beq_eq_false_iff_ne.2 (show some p ≠ some 1 by simpa using e)]
  | succ d ih =>
    intro i p k hi hp hk
    obtain ⟨k, rfl, hk1⟩ := fuel hk
    obtain ⟨k, rfl, hk2⟩ := fuel (show 2 * d + 1 < k by omega)
    have hlt : i < t.length := by omega
    rw [impl_isTerm.l0, if_pos (by omega), if_pos (by omega), if_pos (by omega), rdM hlt, List.drop_eq_getElem_cons hlt]
    generalize hm : t[i] = m
    simp only [scan]
    by_cases e0 : m.f0 = 0
    · have ho : ¬ (oOk m = true ∧ 2 ≤ p) := by rintro ⟨x, _⟩; rw [oOk_iff] at x; omega
      rw [if_pos e0, if_neg ho]
      by_cases e1 : m.f1 < 0
      · rw [if_pos e1, if_neg (fun x => by rw [aOk_iff] at x; omega)]; rfl
      · rw [if_neg e1]
        by_cases e2 : m.f1 ≥ (B.length : Int)
        · rw [if_pos e2, if_neg (fun x => by rw [aOk_iff] at x; omega)]; rfl
        · rw [if_neg e2]
          by_cases e3 : m.f2 < 1
          · rw [if_pos e3, if_neg (fun x => by rw [aOk_iff] at x; omega)]; rfl
          · rw [if_neg e3, if_pos (by omega), if_pos (by omega), headsI_f h (by omega) (by omega), bnd rfl]
            by_cases e4 : m.f2 > hdI (rd B m.f1)
            · rw [if_pos e4, if_neg (fun x => by rw [aOk_iff] at x; omega)]; rfl
            · have ha : aOk B m = true := by rw [aOk_iff]; omega
              rw [if_neg e4, if_pos ha, w64s i (by omega), w64s p (by omega)]
              exact ih (i + 1) (p + 1) (k + 1) (by omega) (by omega) (by omega)
    · have ha : ¬ aOk B m = true := by intro x; rw [aOk_iff] at x; omega
      rw [if_neg e0, if_neg ha]
      have key : ∀ b : Bool, (b = true ↔ m.f0 = 1 ∨ m.f0 = 2) → impl_isTerm.j2 (k + 1) (p : Int) t (t.length : Int) (i : Int) b P B m.f0 m.f1 m.f2 = some ((if oOk m = true ∧ 2 ≤ p then scan B (p - 1) (t.drop (i + 1)) else none) == some 1) := by
        intro b hb
        rw [impl_isTerm.j2]
        by_cases h1 : b = true
        · rw [if_pos h1]
          by_cases h2 : m.f1 = 0
          · rw [if_pos h2]
            by_cases h3 : m.f2 = 0
            · rw [if_pos h3]
              have ho : oOk m = true := by rw [oOk_iff]; exact ⟨hb.1 h1, h2, h3⟩
              by_cases h4 : (p : Int) < 2
              · rw [if_pos h4, if_neg (by omega)]; rfl
              · rw [if_neg h4, if_pos ⟨ho, by omega⟩, w64s i (by omega), w64 (by omega) (by omega), show (p : Int) - 1 = ((p - 1 : Nat) : Int) from by omega]
                exact ih (i + 1) (p - 1) k (by omega) (by omega) (by omega)
            · rw [if_neg h3, if_neg (fun x => by rw [oOk_iff] at x; exact h3 x.1.2.2)]; rfl
          · rw [if_neg h2, if_neg (fun x => by rw [oOk_iff] at x; exact h2 x.1.2.1)]; rfl
        · rw [if_neg h1, if_neg (fun x => by rw [oOk_iff] at x; exact h1 (hb.2 x.1.1))]; rfl
      by_cases e1 : m.f0 = 1
      · rw [if_pos e1]; exact key _ (by rw [beq_iff_eq]; omega)
      · rw [if_neg e1]; exact key _ (by rw [beq_iff_eq]; omega)
theorem isTerm_f (P : Int) (B : List Int) (t : List S35) (hB : B.length < 4611686018427387904) (hl : t.length < 4611686018427387904) {k : Nat} (hk : B.length + 40 < k) : impl_isTerm.f k P B t = some (tmOk P B t) := by
  unfold impl_isTerm.f
  rw [isHouse_f P B hB (by omega), bnd rfl]
  obtain ⟨k, rfl, hk'⟩ := fuel hk
  unfold tmOk
  by_cases h : hOk P B = true
  · rw [if_pos h, h]
    by_cases h1 : (t.length : Int) < 1
    · have : t = [] := List.length_eq_zero_iff.1 (by omega)
      subst this
      rw [if_pos h1, impl_isTerm.j0, if_pos rfl]; rfl
    · rw [if_neg h1, impl_isTerm.j0]
      by_cases h2 : (t.length : Int) > 9
      · rw [if_pos (decide_eq_true h2), decide_eq_false (by omega)]; rfl
      · rw [if_neg (by simpa using h2), decide_eq_true (by omega)]
        have := isTerm_l h t (by omega) t.length 0 0 k (by omega) (by omega) (by omega)
        simpa using this
  · rw [if_neg h, bfalse h, impl_isTerm.j0, if_pos rfl]; rfl

/-! ### consent, mark by mark -/
theorem rdB (st : List Bool) (a : Bool) (r : List Bool) : rdOf false (st ++ a :: r) (st.length : Int) = a := by
  unfold rdOf; simp
theorem rdB1 (st : List Bool) (a b : Bool) : rdOf false (st ++ [a, b]) ((st.length : Int) + 1) = b := by
  unfold rdOf
  rw [show ((st.length : Int) + 1).toNat = st.length + 1 from by omega]
  simp [List.getD_eq_getElem?_getD, List.getElem?_append_right]
theorem sat_f {P : Int} {B : List Int} (h : hOk P B = true) {m : S35} (ha : aOk B m = true) {c : Nat} (hc : c < 64) :
    impl_headsOf.f (Go.bits .and .i64 (rd B m.f1) (c : Int)) = some ((hd ((rd B m.f1).toNat &&& c) : Nat) : Int) := by
  rw [aOk_iff] at ha
  have hm := hOk_mem h (rd_mem ha.2.1 ha.2.2.1)
  obtain ⟨b, eb⟩ := Int.eq_ofNat_of_zero_le (show 0 ≤ rd B m.f1 by omega)
  rw [eb, band (lt62 (n := 6) (by omega) (by omega)) (lt62 (n := 6) (by omega) (by omega)), show ((b : Int)).toNat = b from by omega]
  exact heads_f (Nat.lt_of_le_of_lt Nat.and_le_right hc)
theorem consents_op {P : Int} {B : List Int} {c : Nat} {t : List S35} {m : S35} {p : Nat} (hlt : p < t.length) (hm : t[p] = m) (ho : oOk m = true) (hl : t.length ≤ 9) (st : List Bool) (a b : Bool) (hst : st.length ≤ 1000) (k : Nat) :
    impl_consents.l0 (k + 1) (c : Int) (st ++ [a, b]) t (t.length : Int) (p : Int) P B = impl_consents.l0 k (c : Int) (st ++ [if m.f0 = 2 then a || b else a && b]) t (t.length : Int) ((p + 1 : Nat) : Int) P B := by
  have ho' := oOk_iff.1 ho
  have hlen : (st ++ [a, b]).length = st.length + 2 := by simp
  have w2 : wrap64 (((st ++ [a, b]).length : Int) - 2) = (st.length : Int) := by rw [hlen, w64 (by omega) (by omega)]; omega
  have w1 : wrap64 (((st ++ [a, b]).length : Int) - 1) = (st.length : Int) + 1 := by rw [hlen, w64 (by omega) (by omega)]; omega
  have ht : (st ++ [a, b]).take ((st.length : Int)).toNat = st := by rw [show ((st.length : Int)).toNat = st.length from by omega]; simp
  rw [impl_consents.l0, if_pos (by omega), if_pos (by omega), if_pos (by omega), rdM hlt, hm, if_neg (by omega), w2, w1, if_pos (by omega), if_pos (by omega), if_pos (by omega), if_pos (by omega), rdB, rdB1, w64s p (by omega), ht]
  have hle : (st.length : Int) ≤ ((st ++ [a, b]).length : Int) := by omega
  cases a with
  | true =>
    rw [if_pos rfl]
    by_cases h2 : m.f0 = 2
    · rw [if_pos h2, if_pos hle, bnd rfl, if_pos (by omega), if_pos h2]; rfl
    · rw [if_neg h2, if_pos hle, bnd rfl, if_pos (by omega), if_neg h2]; simp
  | false =>
    rw [if_neg (by simp)]
    by_cases h2 : m.f0 = 2
    · rw [if_pos h2, if_pos hle, bnd rfl, if_pos (by omega), if_pos h2]; simp
    · rw [if_neg h2, if_pos hle, bnd rfl, if_pos (by omega), if_neg h2]; simp
theorem consents_T {P : Int} {B : List Int} (h : hOk P B = true) {c : Nat} (hc : c < 64) : ∀ (T : TR), okT B T → ∀ (t : List S35) (xs ys : List S35) (st : List Bool) (k : Nat), t = xs ++ (flat T ++ ys) → t.length ≤ 9 → st.length + (flat T).length ≤ 1000 →
    impl_consents.l0 (k + (flat T).length) (c : Int) st t (t.length : Int) (xs.length : Int) P B = impl_consents.l0 k (c : Int) (st ++ [val B c T]) t (t.length : Int) ((xs.length + (flat T).length : Nat) : Int) P B := by
  intro T
  induction T with
  | «at» m =>
    intro hok t xs ys st k ht hl hst
    have ha : aOk B m = true := hok
    have ha' := aOk_iff.1 ha
    have hlt : xs.length < t.length := by rw [ht]; simp [flat]
    have hm : t[xs.length] = m := by subst ht; simp [flat]
    simp only [flat, List.length_singleton] at hst
    show impl_consents.l0 (k + 1) _ _ _ _ _ _ _ = _
    rw [impl_consents.l0, if_pos (by omega), if_pos (by omega), if_pos (by omega), rdM hlt, hm, if_pos ha'.1, if_pos ha'.2.1, if_pos ha'.2.2.1, sat_f h ha hc, bnd rfl, if_pos (by omega), w64s _ (by omega)]
    rfl
  | op m l r ihl ihr =>
    intro hok t xs ys st k ht hl hst
    obtain ⟨ho, hL, hR⟩ := hok
    have hlen : (flat (.op m l r)).length = (flat l).length + ((flat r).length + 1) := by simp [flat]
    have pl := flat_pos l
    have htl : t.length = xs.length + ((flat l).length + ((flat r).length + 1) + ys.length) := by rw [ht]; simp [flat]; omega
    have e1 := ihl hL t xs (flat r ++ [m] ++ ys) st (k + ((flat r).length + 1)) (by rw [ht]; simp [flat]) hl (by omega)
    have e2 := ihr hR t (xs ++ flat l) ([m] ++ ys) (st ++ [val B c l]) (k + 1) (by rw [ht]; simp [flat]) hl (by simp only [List.length_append, List.length_singleton]; omega)
    have hlt : (xs ++ flat l).length + (flat r).length < t.length := by simp only [List.length_append]; omega
    have hm : t[(xs ++ flat l).length + (flat r).length] = m := by
      exact List.getElem_of_append (l₁ := xs ++ flat l ++ flat r) (l₂ := ys) (by rw [ht]; simp [flat]) (by simp only [List.length_append])
    rw [hlen, show k + ((flat l).length + ((flat r).length + 1)) = (k + ((flat r).length + 1)) + (flat l).length from by omega, e1]
    rw [show ((xs.length + (flat l).length : Nat) : Int) = ((xs ++ flat l).length : Int) from by simp, show k + ((flat r).length + 1) = (k + 1) + (flat r).length from by omega, e2]
    rw [List.append_assoc]
    have := consents_op (P := P) (B := B) (c := c) hlt hm ho hl st (val B c l) (val B c r) (by omega) k
    rw [show (xs.length + ((flat l).length + ((flat r).length + 1)) : Nat) = (xs ++ flat l).length + (flat r).length + 1 from by simp only [List.length_append]; omega]
    exact this
theorem consents_f {P : Int} {B : List Int} (h : hOk P B = true) {T : TR} (hT : okT B T) (hl : (flat T).length ≤ 9) {c : Nat} (hc : c < 64) {k : Nat} (hk : 20 < k) : impl_consents.f k P B (flat T) (c : Int) = some (val B c T) := by
  obtain ⟨j, rfl⟩ : ∃ j, k = (j + 1) + (flat T).length := ⟨k - 1 - (flat T).length, by omega⟩
  unfold impl_consents.f
  have := consents_T h hc T hT (flat T) [] [] [] (j + 1) (by simp) hl (by simp; omega)
  have e : impl_consents.l0 (j + 1 + (flat T).length) (c : Int) [] (flat T) ((flat T).length : Int) 0 P B = _ := this
  rw [e, impl_consents.l0, if_neg (by simp), if_pos (by simp)]
  rfl

/-! ### heads and terms, as the reference has them -/
set_option maxRecDepth 100000 in
theorem l1Heads_all : ∀ c : Fin 64, spec_l1Heads.f 8 ((c.val : Nat) : Int) = some ((hd c.val : Nat) : Int) := by decide +kernel
theorem l1Heads_f {c : Nat} (h : c < 64) {k : Nat} (hk : 8 ≤ k) : spec_l1Heads.f k (c : Int) = some (hd c : Int) :=
  at_rounds (fun j => spec_l1Heads.mono _ j) hk (l1Heads_all ⟨c, h⟩)
theorem l1Heads_l : ∀ (d : Nat) (x n : Int) (k : Nat), x < ((2 ^ d : Nat) : Int) → x < 9223372036854775808 → 0 ≤ n → n + d < 1000 → d < k → ∃ r, spec_l1Heads.l0 k x n = some r ∧ 0 ≤ r ∧ r < 1000 := by
  intro d
  induction d with
  | zero =>
    intro x n k hx _ h0 hn hk
    obtain ⟨k, rfl, _⟩ := fuel hk
    have hx0 : x < 1 := hx
    rw [spec_l1Heads.l0, if_neg (by omega)]
    exact ⟨n, rfl, h0, by omega⟩
  | succ d ih =>
    intro x n k hx hb h0 hn hk
    obtain ⟨k, rfl, _⟩ := fuel hk
    rw [spec_l1Heads.l0]
    by_cases h : x > 0
    · have e1 : Int.tdiv x 2 = x / 2 := Int.tdiv_eq_ediv_of_nonneg (by omega)
      have e2 : Int.tmod x 2 = x % 2 := Int.tmod_eq_emod_of_nonneg (by omega)
      rw [if_pos h, e1, e2, w64 (x := x / 2) (by omega) (by omega), w64 (by omega) (by omega)]
      refine ih _ _ k ?_ (by omega) (by omega) (by omega) (by omega)
      rw [Nat.pow_succ] at hx
      omega
    · rw [if_neg h]; exact ⟨n, rfl, h0, by omega⟩
theorem l1Heads_any {x : Int} (hx : x < 9223372036854775808) {k : Nat} (hk : 64 < k) : ∃ r, spec_l1Heads.f k x = some r ∧ 0 ≤ r ∧ r < 1000 :=
  l1Heads_l 63 x 0 k (by rw [show ((2 ^ 63 : Nat) : Int) = 9223372036854775808 by decide]; exact hx) hx (by omega) (by omega) (by omega)
theorem l1HeadsI_f {P : Int} {B : List Int} (h : hOk P B = true) {i : Int} (h0 : 0 ≤ i) (h1 : i < (B.length : Int)) {k : Nat} (hk : 8 ≤ k) : spec_l1Heads.f k (rd B i) = some (hdI (rd B i)) := by
  have hm := hOk_mem h (rd_mem h0 h1)
  have e := l1Heads_f (c := (rd B i).toNat) (by omega) hk
  rw [show (((rd B i).toNat : Nat) : Int) = rd B i from by omega] at e
  exact e
theorem oOk_eq (m : S35) : ((m.f0 == 1 && (m.f1 == 0 && (m.f2 == 0))) = true ∨ (m.f0 == 2 && (m.f1 == 0 && (m.f2 == 0))) = true) ↔ oOk m = true := by
  rw [oOk_iff]
  simp only [Bool.and_eq_true, beq_iff_eq]
  omega
theorem sTerm_end {P : Int} {B : List Int} {t : List S35} {p i k : Nat} (hB : B.length < 1152921504606846976) (hi : i = t.length) (hl : t.length < 1152921504606846976) (hk : B.length + 1 < k) :
    spec_TermOk.l0 k t (p : Int) (i : Int) P B = some (hOk P B && (decide (p = 1) && decide (t.length ≤ 9))) := by
  obtain ⟨k, rfl, hk'⟩ := fuel hk
  rw [spec_TermOk.l0, if_neg (by omega), sHouse_f P B (by omega) (by omega), bnd rfl]
  by_cases h : hOk P B = true
  · rw [if_pos h, h]
    by_cases e : p = 1
    · rw [if_pos (by omega), decide_eq_true e, show decide ((t.length : Int) ≤ 9) = decide (t.length ≤ 9) from decide_eq_decide.2 (by omega)]; simp
    · rw [if_neg (by omega), decide_eq_false e]; simp
  · rw [if_neg h, bfalse h]; rfl
theorem sTerm_l {P : Int} {B : List Int} (h : hOk P B = true) (t : List S35) (hl : t.length < 1152921504606846976) : ∀ (d i p k : Nat), i + d = t.length → p ≤ i → 2 * d + 60 < k →
    spec_TermOk.l0 k t (p : Int) (i : Int) P B = some ((scan B p (t.drop i) == some 1) && decide (t.length ≤ 9)) := by
  have hB := hOk_len h
  intro d
  induction d with
  | zero =>
    intro i p k hi hp hk
    rw [sTerm_end (by omega) (by omega) hl (by omega), h, List.drop_eq_nil_of_le (by omega)]
    simp only [scan]
    by_cases e : p = 1
    · subst e; rfl
    · rw [decide_eq_false e, beq_eq_false_iff_ne.2 (show some p ≠ some 1 by simpa using e)]; rfl
  | succ d ih =>
    intro i p k hi hp hk
    obtain ⟨k, rfl, hk1⟩ := fuel hk
    obtain ⟨k, rfl, hk2⟩ := fuel (show 2 * d + 61 < k by omega)
    have hlt : i < t.length := by omega
    rw [spec_TermOk.l0, if_pos (by omega), if_pos (by omega), rdM hlt, List.drop_eq_getElem_cons hlt]
    have hr : rd_T35 t (i : Int) = t[i] := rdM hlt
    generalize t[i] = m at *
    simp only [scan]
    have no : aOk B m = false → spec_TermOk.j1 (k + 1) t (p : Int) (i : Int) false P B = some (((if aOk B m = true then scan B (p + 1) (t.drop (i + 1)) else if oOk m = true ∧ 2 ≤ p then scan B (p - 1) (t.drop (i + 1)) else none) == some 1) && decide (t.length ≤ 9)) := by
      intro ha
      rw [spec_TermOk.j1, if_neg (by simp), if_pos (by omega), if_pos (by omega), hr, if_neg (show ¬ aOk B m = true by rw [ha]; simp)]
      have hoe := oOk_eq m
      have go : oOk m = true → (if (p : Int) ≥ 2 then spec_TermOk.l0 k t (wrap64 ((p : Int) - 1)) (wrap64 ((i : Int) + 1)) P B else some false) = some (((if oOk m = true ∧ 2 ≤ p then scan B (p - 1) (t.drop (i + 1)) else none) == some 1) && decide (t.length ≤ 9)) := by
        intro ho
        by_cases hp2 : (p : Int) ≥ 2
        · rw [if_pos hp2, if_pos ⟨ho, by omega⟩, w64s i (by omega), w64 (by omega) (by omega), show (p : Int) - 1 = ((p - 1 : Nat) : Int) from by omega]
          exact ih (i + 1) (p - 1) k (by omega) (by omega) (by omega)
        · rw [if_neg hp2, if_neg (fun x => hp2 (by omega))]; rfl
      by_cases h1 : (m.f0 == 1 && (m.f1 == 0 && (m.f2 == 0))) = true
      · rw [if_pos h1]; exact go (hoe.1 (.inl h1))
      · rw [if_neg h1]
        by_cases h2 : (m.f0 == 2 && (m.f1 == 0 && (m.f2 == 0))) = true
        · rw [if_pos h2]; exact go (hoe.1 (.inr h2))
        · rw [if_neg h2, if_neg (show ¬ (oOk m = true ∧ 2 ≤ p) from fun x => (hoe.2 x.1).elim h1 h2)]; rfl
    by_cases e0 : m.f0 = 0
    · rw [if_pos e0]
      unfold spec_l1In.f
      rw [w64 (x := (B.length : Int) - 1) (by omega) (by omega)]
      by_cases e1 : m.f1 ≥ 0
      · rw [if_pos e1, bnd rfl]
        by_cases e2 : m.f1 ≤ (B.length : Int) - 1
        · rw [decide_eq_true e2, if_pos rfl, if_pos e1, if_pos (by omega), l1HeadsI_f h e1 (by omega) (by omega), bnd rfl]
          by_cases e3 : m.f2 ≥ 1
          · rw [if_pos e3, bnd rfl]
            by_cases e4 : m.f2 ≤ hdI (rd B m.f1)
            · have ha : aOk B m = true := by rw [aOk_iff]; omega
              rw [decide_eq_true e4, spec_TermOk.j1, if_pos rfl, if_pos ha, w64s i (by omega), w64s p (by omega)]
              exact ih (i + 1) (p + 1) k (by omega) (by omega) (by omega)
            · rw [decide_eq_false e4]; exact no (bfalse (fun x => by rw [aOk_iff] at x; omega))
          · rw [if_neg e3, bnd rfl]; exact no (bfalse (fun x => by rw [aOk_iff] at x; omega))
        · rw [decide_eq_false e2, if_neg (by simp)]; exact no (bfalse (fun x => by rw [aOk_iff] at x; omega))
      · rw [if_neg e1, bnd rfl, if_neg (by simp)]; exact no (bfalse (fun x => by rw [aOk_iff] at x; omega))
    · rw [if_neg e0]; exact no (bfalse (fun x => by rw [aOk_iff] at x; omega))
/-- Of no house there is no term. -/
theorem sTerm_no {P : Int} {B : List Int} (h : hOk P B = false) (hB : B.length < 1152921504606846976) (hw : ∀ b ∈ B, b < 9223372036854775808) (t : List S35) (hl : t.length < 1152921504606846976) : ∀ (d i p k : Nat), i + d = t.length → p ≤ i → 2 * d + B.length + 70 < k →
    spec_TermOk.l0 k t (p : Int) (i : Int) P B = some false := by
  intro d
  induction d with
  | zero =>
    intro i p k hi hp hk
    rw [sTerm_end hB (by omega) hl (by omega), h]; rfl
  | succ d ih =>
    intro i p k hi hp hk
    obtain ⟨k, rfl, hk1⟩ := fuel hk
    obtain ⟨k, rfl, hk2⟩ := fuel (show 2 * d + B.length + 71 < k by omega)
    have hlt : i < t.length := by omega
    have hr : rd_T35 t (i : Int) = t[i] := rdM hlt
    rw [spec_TermOk.l0, if_pos (by omega), if_pos (by omega), hr]
    generalize t[i] = m at *
    have no : ∀ b : Bool, spec_TermOk.j1 (k + 1) t (p : Int) (i : Int) b P B = some false := by
      intro b
      rw [spec_TermOk.j1]
      by_cases hb : b = true
      · rw [if_pos hb, w64s i (by omega), w64s p (by omega)]
        exact ih (i + 1) (p + 1) k (by omega) (by omega) (by omega)
      · rw [if_neg hb, if_pos (by omega), if_pos (by omega), hr]
        have go : (if (p : Int) ≥ 2 then spec_TermOk.l0 k t (wrap64 ((p : Int) - 1)) (wrap64 ((i : Int) + 1)) P B else some false) = some false := by
          by_cases hp2 : (p : Int) ≥ 2
          · rw [if_pos hp2, w64s i (by omega), w64 (by omega) (by omega), show (p : Int) - 1 = ((p - 1 : Nat) : Int) from by omega]
            exact ih (i + 1) (p - 1) k (by omega) (by omega) (by omega)
          · rw [if_neg hp2]
        split
        · exact go
        · split
          · exact go
          · rfl
    by_cases e0 : m.f0 = 0
    · rw [if_pos e0]
      unfold spec_l1In.f
      rw [w64 (x := (B.length : Int) - 1) (by omega) (by omega)]
      by_cases e1 : m.f1 ≥ 0
      · rw [if_pos e1, bnd rfl]
        by_cases e2 : m.f1 ≤ (B.length : Int) - 1
        · obtain ⟨r, er, _, _⟩ := l1Heads_any (hw _ (rd_mem e1 (show m.f1 < (B.length : Int) by omega))) (k := k + 1) (by omega)
          rw [decide_eq_true e2, if_pos rfl, if_pos e1, if_pos (by omega), er, bnd rfl]
          split
          · rw [bnd rfl]; exact no _
          · rw [bnd rfl]; exact no _
        · rw [decide_eq_false e2, if_neg (by simp)]; exact no _
      · rw [if_neg e1, bnd rfl, if_neg (by simp)]; exact no _
    · rw [if_neg e0]; exact no _
theorem sTerm_f (P : Int) (B : List Int) (t : List S35) (hB : B.length < 1152921504606846976) (hw : ∀ b ∈ B, b < 9223372036854775808) (hl : t.length < 1152921504606846976) {k : Nat} (hk : 2 * t.length + B.length + 70 < k) : spec_TermOk.f k P B t = some (tmOk P B t) := by
  unfold spec_TermOk.f tmOk
  by_cases h : hOk P B = true
  · have := sTerm_l h t hl t.length 0 0 k (by omega) (by omega) (by omega)
    have e : spec_TermOk.l0 k t 0 0 P B = _ := this
    rw [e, h, List.drop_zero, Bool.and_comm (decide _)]; rfl
  · have := sTerm_no (bfalse h) hB hw t hl t.length 0 0 k (by omega) (by omega) (by omega)
    have e : spec_TermOk.l0 k t 0 0 P B = _ := this
    rw [e, bfalse h]; rfl

/-! ### draws: what is drawn, and within which bounds -/
/-- It answers, and so that P holds. -/
def Dr {α : Type} (x : Option α) (P : α → Prop) : Prop := ∃ r, x = some r ∧ P r
theorem Dr.some {α : Type} {a : α} {P : α → Prop} (h : P a) : Dr (Option.some a) P := ⟨a, rfl, h⟩
theorem Dr.bind {α β : Type} {x : Option α} {P : α → Prop} {f : α → Option β} {Q : β → Prop} (h : Dr x P) (hf : ∀ a, P a → Dr (f a) Q) : Dr (x.bind f) Q := by
  obtain ⟨a, rfl, ha⟩ := h
  exact hf a ha
theorem Dr.mono {α : Type} {x : Option α} {P Q : α → Prop} (h : Dr x P) (hpq : ∀ a, P a → Q a) : Dr x Q := by
  obtain ⟨a, e, ha⟩ := h
  exact ⟨a, e, hpq a ha⟩
theorem Dr.bnd {α β : Type} {a : α} {f : α → Option β} {Q : β → Prop} (h : Dr (f a) Q) : Dr ((Option.some a).bind f) Q := h
theorem Dr.ite {α : Type} {c : Prop} [Decidable c] {x y : Option α} {P : α → Prop} (h1 : c → Dr x P) (h2 : ¬ c → Dr y P) : Dr (if c then x else y) P := by
  by_cases h : c
  · rw [if_pos h]; exact h1 h
  · rw [if_neg h]; exact h2 h
theorem Dr.pos {α : Type} {c : Prop} [Decidable c] {x y : Option α} {P : α → Prop} (h : c) (h1 : Dr x P) : Dr (if c then x else y) P := by rw [if_pos h]; exact h1
theorem pick_d {b : List Int} (hb : okB b) {p : Int} (hp0 : 0 ≤ p) (hp : p < 1000000) (n : Int) {k : Nat} (hk : 0 < k) :
    Dr (spec_l20Rd_pick.f k b p n) (fun r => r.2 = p + 1 ∧ 0 ≤ r.1 ∧ (r.1 < n ∨ r.1 = 0)) := by
  obtain ⟨v, e, h1, h2⟩ := pick_f hb hp0 (by omega) n hk
  exact ⟨_, e, rfl, h1, h2⟩
theorem odd_d {b : List Int} (hb : okB b) {p : Int} (hp0 : 0 ≤ p) (hp : p < 1000000) (n : Int) {k : Nat} (hk : 0 < k) :
    Dr (spec_l20Rd_odd.f k b p n) (fun r => p ≤ r.2 ∧ r.2 ≤ p + 1 ∧ (n ≤ 0 → r.1 = false)) := by
  unfold spec_l20Rd_odd.f
  refine Dr.ite (fun h => ?_) (fun h => ?_)
  · exact Dr.bind (pick_d hb hp0 hp n hk) (fun r ⟨h1, _, _⟩ => Dr.some ⟨by omega, by omega, fun hn => by omega⟩)
  · exact Dr.some ⟨by dsimp only; omega, by dsimp only; omega, fun _ => rfl⟩
/-- Bodies as they are drawn. -/
def bOk (m : Nat) (B : List Int) : Prop := B.length ≤ m ∧ ∀ x ∈ B, 0 ≤ x ∧ x < 64
theorem bOk_app {m : Nat} {B : List Int} (h : bOk m B) {v : Int} (h0 : 0 ≤ v) (h1 : v < 64) : bOk (m + 1) (B ++ [v]) := by
  refine ⟨by have := h.1; simp; omega, fun x hx => ?_⟩
  rcases List.mem_append.1 hx with hx | hx
  · exact h.2 x hx
  · rw [List.mem_singleton.1 hx]; exact ⟨h0, h1⟩
theorem bOk_mono {m m' : Nat} {B : List Int} (h : bOk m B) (hm : m ≤ m') : bOk m' B := ⟨Nat.le_trans h.1 hm, h.2⟩
theorem house_l {b : List Int} (hb : okB b) (n : Int) {P : Nat} (hP1 : 1 ≤ P) (hP : P ≤ 6) : ∀ (d k m : Nat) (B : List Int) (p : Int), d + 3 < k → 0 ≤ p → p + d + 10 < 1000000 → bOk m B → m + d ≤ 3 →
    Dr (spec_l20House.l0 k n (d : Int) b p (P : Int) B) (fun r => 0 ≤ r.1 ∧ r.1 ≤ 7 ∧ bOk 4 r.2.1 ∧ p ≤ r.2.2 ∧ r.2.2 ≤ p + d + 5 ∧ (n ≤ 0 → r.1 = (P : Int) ∧ bOk 3 r.2.1 ∧ (1 ≤ B.length + d → 1 ≤ r.2.1.length))) := by
  intro d
  induction d with
  | zero =>
    intro k m B p hk hp0 hp hB hm
    obtain ⟨k, rfl, _⟩ := fuel hk
    rw [spec_l20House.l0, if_neg (by omega)]
    refine Dr.bind (odd_d hb hp0 (by omega) n (by omega)) (fun r ⟨h1, h2, h3⟩ => ?_)
    refine Dr.ite (fun h => ?_) (fun h => ?_)
    · refine Dr.bind (pick_d hb (by omega) (by omega) 3 (by omega)) (fun u ⟨g1, g2, g3⟩ => ?_)
      have hn : ¬ n ≤ 0 := fun hn => by rw [h3 hn] at h; exact absurd h (by simp)
      refine Dr.ite (fun h => ?_) (fun h => Dr.ite (fun h => ?_) (fun h => ?_))
      · refine Dr.bnd (Dr.bind (pick_d hb (by omega) (by omega) 2 (by omega)) (fun v ⟨f1, f2, f3⟩ => ?_))
        refine Dr.pos f2 (Dr.pos (by simp; omega) (Dr.some ?_))
        have hv : v.1 = 0 ∨ v.1 = 1 := by omega
        refine ⟨?_, ?_, bOk_mono hB (by omega), by dsimp only; omega, by dsimp only; omega, fun h => absurd h hn⟩
        · rcases hv with e | e <;> rw [e] <;> simp [rd]
        · rcases hv with e | e <;> rw [e] <;> simp [rd]
      · refine Dr.pos (by have := hB.1; omega) (Dr.some ?_)
        exact ⟨by dsimp only; omega, by dsimp only; omega, bOk_mono (bOk_app hB (by omega) (by omega)) (by omega), by dsimp only; omega, by dsimp only; omega, fun h => absurd h hn⟩
      · exact Dr.some ⟨by dsimp only; omega, by dsimp only; omega, ⟨by simp, by simp⟩, by dsimp only; omega, by dsimp only; omega, fun h => absurd h hn⟩
    · exact Dr.some ⟨by dsimp only; omega, by dsimp only; omega, bOk_mono hB (by omega), by dsimp only; omega, by dsimp only; omega, fun _ => ⟨rfl, bOk_mono hB (by omega), fun h => by simpa using h⟩⟩
  | succ d ih =>
    intro k m B p hk hp0 hp hB hm
    obtain ⟨k, rfl, _⟩ := fuel hk
    have hP2 : 2 ^ P ≤ 64 := pow6 hP
    have hpp : 1 ≤ 2 ^ P := Nat.one_le_two_pow
    rw [spec_l20House.l0, if_pos (by omega), if_pos (by omega), shl_one (by omega)]
    generalize 2 ^ P = T at hP2 hpp ⊢
    refine Dr.bind (pick_d hb hp0 (by omega) _ (by omega)) (fun r ⟨h1, h2, h3⟩ => ?_)
    rw [w64 (x := (T : Int) - 1) (by omega) (by omega)] at h3
    refine Dr.pos (by have := hB.1; omega) ?_
    rw [w64 (x := ((d + 1 : Nat) : Int) - 1) (by omega) (by omega), w64 (x := 1 + r.1) (by omega) (by omega), show ((d + 1 : Nat) : Int) - 1 = (d : Int) from by omega, h1]
    refine (ih k (m + 1) (B ++ [1 + r.1]) (p + 1) (by omega) (by omega) (by omega) (bOk_app hB (by omega) (by omega)) (by omega)).mono (fun u ⟨a1, a2, a3, a4, a5, a6⟩ => ⟨a1, a2, a3, by omega, by omega, fun hn => ⟨(a6 hn).1, (a6 hn).2.1, fun _ => (a6 hn).2.2 (by rw [List.length_append]; simp; omega)⟩⟩)
/-- A house, as it is drawn. -/
theorem house_d {b : List Int} (hb : okB b) (n : Int) {p : Int} (hp0 : 0 ≤ p) (hp : p < 900000) {k : Nat} (hk : 10 ≤ k) :
    Dr (spec_l20House.f k b p n) (fun r => 0 ≤ r.1 ∧ r.1 ≤ 7 ∧ bOk 4 r.2.1 ∧ p ≤ r.2.2 ∧ r.2.2 ≤ p + 20 ∧ (n ≤ 0 → 1 ≤ r.1 ∧ r.1 ≤ 6 ∧ bOk 3 r.2.1 ∧ 1 ≤ r.2.1.length)) := by
  unfold spec_l20House.f
  refine Dr.bind (pick_d hb hp0 (by omega) 5 (by omega)) (fun r ⟨h1, h2, h3⟩ => ?_)
  refine Dr.bind (pick_d hb (by omega) (by omega) 9 (by omega)) (fun s ⟨f1, f2, f3⟩ => ?_)
  refine Dr.bind (pick_d hb (by omega) (by omega) 3 (by omega)) (fun t ⟨g1, g2, g3⟩ => ?_)
  have hs : Int.tdiv s.1 8 = 0 ∨ Int.tdiv s.1 8 = 1 := by
    rw [Int.tdiv_eq_ediv_of_nonneg f2]; omega
  rw [w64 (x := 1 + r.1) (by omega) (by omega), w64 (x := Int.tdiv s.1 8) (by omega) (by omega), w64 (x := 1 + t.1) (by omega) (by omega), w64 (by omega) (by omega)]
  obtain ⟨P, eP⟩ := Int.eq_ofNat_of_zero_le (show 0 ≤ 1 + r.1 + Int.tdiv s.1 8 by omega)
  obtain ⟨d, ed⟩ := Int.eq_ofNat_of_zero_le (show 0 ≤ 1 + t.1 by omega)
  rw [eP, ed]
  refine (house_l hb n (P := P) (by omega) (by omega) d k 0 [] t.2 (by omega) (by omega) (by omega) ⟨by simp, by simp⟩ (by omega)).mono (fun u ⟨a1, a2, a3, a4, a5, a6⟩ => ⟨a1, a2, a3, by omega, by omega, fun hn => ⟨by have := (a6 hn).1; omega, by have := (a6 hn).1; omega, (a6 hn).2.1, (a6 hn).2.2 (by simp; omega)⟩⟩)
theorem heads_d {a : Int} (h0 : 0 ≤ a) (h1 : a < 64) {k : Nat} (hk : 100 < k) : Dr (spec_l1Heads.f k a) (fun r => 0 ≤ r ∧ r ≤ 6) := by
  obtain ⟨c, rfl⟩ := Int.eq_ofNat_of_zero_le h0
  exact ⟨_, l1Heads_f (by omega) (by omega), by omega, by have : hd c ≤ 6 := ctN_le _ _; omega⟩

/-! ### a term as it is drawn: at most seven marks -/
def tot (X : List (List S35)) : Nat := (X.map List.length).sum
theorem tot_app (X Y : List (List S35)) : tot (X ++ Y) = tot X + tot Y := by unfold tot; rw [List.map_append, List.sum_append]
theorem tot_one (r : List S35) : tot [r] = r.length := by simp [tot]
theorem tot_cons (r : List S35) (X : List (List S35)) : tot (r :: X) = r.length + tot X := by simp [tot]
theorem rdT {X : List (List S35)} {i : Nat} (h : i < X.length) : rd_L3 X (i : Int) = X[i] := by
  unfold rd_L3; simp [List.getD_eq_getElem?_getD, List.getElem?_eq_getElem h]
theorem tot_split {X : List (List S35)} {a : Nat} (h : a + 1 < X.length) : tot X = tot (X.take a) + (X[a].length + (X[a + 1].length + tot (X.drop (a + 2)))) := by
  conv => lhs; rw [← List.take_append_drop a X, tot_app, List.drop_eq_getElem_cons (show a < X.length by omega), tot_cons, List.drop_eq_getElem_cons h, tot_cons]
theorem term_l1 {b : List Int} (hb : okB b) : ∀ (d k : Nat) (X : List (List S35)) (p : Int), X.length = d + 1 → tot X + X.length ≤ 8 → d + 3 < k → 0 ≤ p → p + 2 * d + 10 < 1000000 →
    Dr (spec_l20Term.l1 k X b p) (fun r => r.1.length ≤ 7 ∧ p ≤ r.2 ∧ r.2 ≤ p + 2 * d) := by
  intro d
  induction d with
  | zero =>
    intro k X p hX ht hk hp0 hp
    obtain ⟨k, rfl, _⟩ := fuel hk
    have e : tot X = X[0].length := by
      match X, hX with
      | [r], _ => simp [tot]
    have e0 := rdT (X := X) (i := 0) (by omega)
    simp only [Int.natCast_zero] at e0
    rw [spec_l20Term.l1, if_neg (by omega), if_pos (by omega)]
    refine Dr.some ⟨?_, by dsimp only; omega, by dsimp only; omega⟩
    dsimp only
    rw [e0]; omega
  | succ d ih =>
    intro k X p hX ht hk hp0 hp
    obtain ⟨k, rfl, _⟩ := fuel hk
    rw [spec_l20Term.l1, if_pos (by omega), w64 (x := (X.length : Int) - 1) (by omega) (by omega)]
    refine Dr.bind (pick_d hb hp0 (by omega) _ (by omega)) (fun r ⟨h1, h2, h3⟩ => ?_)
    obtain ⟨v, q⟩ := r
    dsimp only at h1 h2 h3 ⊢
    obtain ⟨a, rfl⟩ := Int.eq_ofNat_of_zero_le h2
    have ha : a + 1 < X.length := by omega
    have hs := tot_split ha
    have e0 := rdT (X := X) (i := a) (by omega)
    have e1 := rdT (X := X) (i := a + 1) (by omega)
    have lt : (X.take a).length = a := by rw [List.length_take]; omega
    have ld : (X.drop (a + 2)).length = X.length - (a + 2) := List.length_drop
    rw [w64 (x := (a : Int) + 1) (by omega) (by omega), w64 (x := (a : Int) + 2) (by omega) (by omega), show (a : Int) + 1 = ((a + 1 : Nat) : Int) from by omega, show (a : Int) + 2 = ((a + 2 : Nat) : Int) from by omega, e0, e1]
    refine Dr.bnd ?_
    refine Dr.pos (by first | omega | (simp only [List.nil_append, List.length_append, List.length_nil, List.length_singleton]; omega)) ?_
    refine Dr.pos (by first | omega | (simp only [List.nil_append, List.length_append, List.length_nil, List.length_singleton]; omega)) ?_
    refine Dr.pos (by first | omega | (simp only [List.nil_append, List.length_append, List.length_nil, List.length_singleton]; omega)) ?_
    refine Dr.bnd ?_
    refine Dr.pos (by first | omega | (simp only [List.nil_append, List.length_append, List.length_nil, List.length_singleton]; omega)) ?_
    refine Dr.pos (by first | omega | (simp only [List.nil_append, List.length_append, List.length_nil, List.length_singleton]; omega)) ?_
    refine Dr.pos (by first | omega | (simp only [List.nil_append, List.length_append, List.length_nil, List.length_singleton]; omega)) ?_
    refine Dr.bnd ?_
    refine Dr.bind (pick_d hb (by omega) (by omega) 2 (by omega)) (fun s ⟨g1, g2, g3⟩ => ?_)
    rw [show ((a : Int)).toNat = a from by omega, show (((a + 2 : Nat) : Int)).toNat = a + 2 from by omega]
    refine Dr.pos (by first | omega | (simp only [List.nil_append, List.length_append, List.length_nil, List.length_singleton]; omega)) ?_
    refine Dr.bnd ?_
    refine Dr.pos (by first | omega | (simp only [List.nil_append, List.length_append, List.length_nil, List.length_singleton]; omega)) ?_
    refine Dr.bnd ?_
    refine Dr.pos (by first | omega | (simp only [List.nil_append, List.length_append, List.length_nil, List.length_singleton]; omega)) ?_
    refine Dr.bnd ?_
    refine Dr.pos (by first | omega | (simp only [List.nil_append, List.length_append, List.length_nil, List.length_singleton]; omega)) ?_
    refine Dr.bnd ?_
    refine Dr.pos (by first | omega | (simp only [List.nil_append, List.length_append, List.length_nil, List.length_singleton]; omega)) ?_
    refine Dr.pos (by first | omega | (simp only [List.nil_append, List.length_append, List.length_nil, List.length_singleton]; omega)) ?_
    refine Dr.bnd ?_
    refine Dr.pos (by first | omega | (simp only [List.nil_append, List.length_append, List.length_nil, List.length_singleton]; omega)) ?_
    refine (ih k _ s.2 ?_ ?_ (by omega) (by omega) (by omega)).mono (fun u ⟨a1, a2, a3⟩ => ⟨a1, by omega, by omega⟩)
    · simp only [List.nil_append, List.length_append, List.length_singleton]; omega
    · simp only [List.nil_append, List.length_append, List.length_singleton, tot_app, tot_one]; omega
theorem term_l0 {b : List Int} (hb : okB b) (P : Int) {B : List Int} (hB : bOk 4 B) (hB1 : 1 ≤ B.length) : ∀ (d k : Nat) (X : List (List S35)) (p : Int), tot X = X.length → X.length + d ≤ 4 → 1 ≤ X.length + d → d + 110 < k → 0 ≤ p → p + 2 * d + 30 < 1000000 →
    Dr (spec_l20Term.l0 k X (d : Int) b p P B) (fun r => r.1.length ≤ 7 ∧ p ≤ r.2 ∧ r.2 ≤ p + 2 * d + 8) := by
  intro d
  induction d with
  | zero =>
    intro k X p ht hX h1 hk hp0 hp
    obtain ⟨k, rfl, _⟩ := fuel hk
    rw [spec_l20Term.l0, if_neg (by omega)]
    exact (term_l1 hb (X.length - 1) k X p (by omega) (by omega) (by omega) hp0 (by omega)).mono (fun u ⟨a1, a2, a3⟩ => ⟨a1, by omega, by omega⟩)
  | succ d ih =>
    intro k X p ht hX _ hk hp0 hp
    obtain ⟨k, rfl, _⟩ := fuel hk
    rw [spec_l20Term.l0, if_pos (by omega)]
    refine Dr.bind (pick_d hb hp0 (by omega) _ (by omega)) (fun r ⟨h1, h2, h3⟩ => ?_)
    have hr : r.1 < (B.length : Int) := by omega
    refine Dr.pos h2 (Dr.pos hr ?_)
    have hx := hB.2 _ (rd_mem h2 hr)
    have hmx : mx (rd B r.1) 0 = rd B r.1 := by unfold mx; split <;> omega
    rw [hmx]
    refine Dr.bind (heads_d hx.1 hx.2 (by omega)) (fun t ⟨t1, t2⟩ => ?_)
    refine Dr.bind (pick_d hb (by omega) (by omega) _ (by omega)) (fun s ⟨f1, f2, f3⟩ => ?_)
    refine Dr.pos (by omega) ?_
    rw [w64 (x := ((d + 1 : Nat) : Int) - 1) (by omega) (by omega), show ((d + 1 : Nat) : Int) - 1 = (d : Int) from by omega]
    refine (ih k _ s.2 ?_ ?_ (by simp only [List.length_append, List.length_singleton]; omega) (by omega) (by omega) (by omega)).mono (fun u ⟨a1, a2, a3⟩ => ⟨a1, by omega, by omega⟩)
    · rw [tot_app, tot_one, ht]; simp
    · simp only [List.length_append, List.length_singleton]; omega
/-- A term, as it is drawn. -/
theorem term_d {b : List Int} (hb : okB b) (P : Int) {B : List Int} (hB : bOk 4 B) (n : Int) {p : Int} (hp0 : 0 ≤ p) (hp : p < 900000) {k : Nat} (hk : 200 ≤ k) :
    Dr (spec_l20Term.f k b p P B n) (fun r => r.1.length ≤ 7 ∧ p ≤ r.2 ∧ r.2 ≤ p + 30) := by
  obtain ⟨k, rfl, hk⟩ := fuel (show 199 < k by omega)
  have four : ∀ q : Int, 0 ≤ q → q < 910000 → Dr (spec_l20Term.j0 (k + 1) true b q P B) (fun r => r.1.length ≤ 7 ∧ q ≤ r.2 ∧ r.2 ≤ q + 10) := by
    intro q hq0 hq
    rw [spec_l20Term.j0, if_pos rfl]
    refine Dr.bnd (Dr.bind (pick_d hb hq0 (by omega) 4 (by omega)) (fun r ⟨h1, h2, h3⟩ => ?_))
    obtain ⟨v, e⟩ := Int.eq_ofNat_of_zero_le h2
    refine Dr.pos h2 (Dr.pos (by simp; omega) (Dr.some ⟨?_, by dsimp only; omega, by dsimp only; omega⟩))
    dsimp only
    rw [e]
    have : v = 0 ∨ v = 1 ∨ v = 2 ∨ v = 3 := by omega
    rcases this with rfl | rfl | rfl | rfl <;> simp [rd_L3]
  unfold spec_l20Term.f
  refine Dr.ite (fun h => ?_) (fun h => ?_)
  · exact (four p hp0 (by omega)).mono (fun u ⟨a1, a2, a3⟩ => ⟨a1, a2, by omega⟩)
  · refine Dr.bind (odd_d hb hp0 (by omega) n (by omega)) (fun r ⟨h1, h2, _⟩ => ?_)
    obtain ⟨v, q⟩ := r
    dsimp only at h1 h2 ⊢
    cases v with
    | true => exact (four q (by omega) (by omega)).mono (fun u ⟨a1, a2, a3⟩ => ⟨a1, by omega, by omega⟩)
    | false =>
      rw [spec_l20Term.j0, if_neg (by simp)]
      refine Dr.bind (pick_d hb (by omega) (by omega) 4 (by omega)) (fun s ⟨g1, g2, g3⟩ => ?_)
      obtain ⟨d, ed⟩ := Int.eq_ofNat_of_zero_le (show 0 ≤ 1 + s.1 by omega)
      rw [w64 (x := 1 + s.1) (by omega) (by omega), ed]
      exact (term_l0 hb P hB (by omega) d k [] s.2 rfl (by simp; omega) (by simp; omega) (by omega) (by omega) (by omega)).mono (fun u ⟨a1, a2, a3⟩ => ⟨a1, by omega, by omega⟩)
theorem termed_d {b : List Int} (hb : okB b) (n : Int) {p : Int} (hp0 : 0 ≤ p) (hp : p < 800000) {k : Nat} (hk : 200 ≤ k) :
    Dr (spec_l20Termed.f k b p n) (fun r => 0 ≤ r.1 ∧ r.1 ≤ 7 ∧ bOk 4 r.2.1 ∧ r.2.2.1.length ≤ 7 ∧ p ≤ r.2.2.2 ∧ r.2.2.2 ≤ p + 50) := by
  unfold spec_l20Termed.f
  refine Dr.bind (house_d hb 20 hp0 (by omega) (by omega)) (fun r ⟨h1, h2, h3, h4, h5, _⟩ => ?_)
  refine Dr.bind (term_d hb r.1 h3 n (by omega) (by omega) (by omega)) (fun s ⟨g1, g2, g3⟩ => ?_)
  exact Dr.some ⟨h1, h2, h3, g1, by dsimp only; omega, by dsimp only; omega⟩

/-! ### a house, a term and a person as they are drawn -/
theorem whose_d {b : List Int} (hb : okB b) {p : Int} (hp0 : 0 ≤ p) (hp : p < 800000) {k : Nat} (hk : 200 ≤ k) :
    Dr (spec_l20Whose.f k b p) (fun r => 0 ≤ r.1 ∧ r.1 ≤ 7 ∧ bOk 4 r.2.1 ∧ r.2.2.1.length ≤ 7) := by
  unfold spec_l20Whose.f
  refine Dr.bind (termed_d hb 12 hp0 hp hk) (fun r ⟨h1, h2, h3, h4, h5, h6⟩ => ?_)
  refine Dr.bind (pick_d hb (by omega) (by omega) _ (by omega)) (fun s ⟨g1, _, _⟩ => ?_)
  refine Dr.bind (pick_d hb (by omega) (by omega) 40 (by omega)) (fun u ⟨f1, _, _⟩ => ?_)
  refine Dr.bind (pick_d hb (by omega) (by omega) 40 (by omega)) (fun v _ => ?_)
  exact Dr.some ⟨h1, h2, h3, h4⟩

theorem leO_add {α : Type} {f : Nat → Option α} (h : ∀ k, LeO (f k) (f (k + 1))) (k : Nat) : ∀ d, LeO (f k) (f (k + d))
  | 0 => LeO.refl _
  | d + 1 => (leO_add h k d).trans (h _)

/-! ### swings -/
def swB (B : List Int) (T : TR) (w c : Nat) : Bool := !c.testBit w && (!val B c T && val B (c ||| 2 ^ w) T)
theorem or_lt64 {c a n : Nat} (hn : n ≤ 6) (hc : c < 2 ^ n) (ha : a < n) : c ||| 2 ^ a < 64 :=
  Nat.lt_of_lt_of_le (Nat.or_lt_two_pow hc (Nat.pow_lt_pow_right (by decide) ha)) (pow6 hn)
theorem or_i64 {c a n : Nat} (hn : n ≤ 6) (hc : c < 2 ^ n) (ha : a < n) : Go.bits .or .i64 (c : Int) (shl .i64 1 (a : Int)) = ((c ||| 2 ^ a : Nat) : Int) := by
  rw [shl_one (by omega), bor (lt62 hc hn) (lt62 (Nat.pow_lt_pow_right (by decide) ha) hn)]
def swL (B : List Int) (T : TR) (w c d : Nat) : List Nat := (List.range' c d).filter (swB B T w)
theorem swL_succ (B : List Int) (T : TR) (w c d : Nat) : swL B T w c (d + 1) = (if swB B T w c = true then [c] else []) ++ swL B T w (c + 1) d := by
  unfold swL
  rw [List.range'_succ, List.filter_cons]
  split <;> rfl
theorem iSw_l {n : Nat} {B : List Int} (h : hOk (n : Int) B = true) (h6 : n ≤ 6) {T : TR} (hT : okT B T) (hl : (flat T).length ≤ 9) {w : Nat} (hw : w < n) : ∀ (d c k : Nat) (q : List Int), c + d = 2 ^ n → q.length ≤ c → d + 22 < k →
    impl_swingsOf.l0 k (flat T) (w : Int) q ((2 ^ n : Nat) : Int) (c : Int) (n : Int) B = some (q ++ (swL B T w c d).map (fun x : Nat => (x : Int))) := by
  have hp := pow6 h6
  intro d
  induction d with
  | zero =>
    intro c k q hc hq hk
    obtain ⟨k, rfl, _⟩ := fuel hk
    rw [impl_swingsOf.l0, if_neg (by omega)]; simp [swL]
  | succ d ih =>
    intro c k q hc hq hk
    obtain ⟨k, rfl, hk1⟩ := fuel hk
    have hcl : c < 2 ^ n := by omega
    have ih' := ih (c + 1) k q (by omega) (by omega) (by omega)
    rw [swL_succ, impl_swingsOf.l0, if_pos (by omega), if_pos (by omega), shr_and (by omega) (lt62 hcl h6), w64s c (by omega)]
    by_cases hb : c.testBit w = true
    · have : swB B T w c = false := by unfold swB; simp [hb]
      rw [if_pos hb, if_neg (by omega), ih', this]; simp
    · rw [if_neg hb, if_pos rfl, consents_f h hT hl (by omega) (by omega), bnd rfl, or_i64 h6 hcl hw, consents_f h hT hl (or_lt64 h6 hcl hw) (by omega)]
      have e : swB B T w c = (!val B c T && val B (c ||| 2 ^ w) T) := by unfold swB; simp [hb]
      rw [e]
      cases val B c T with
      | true => rw [if_pos rfl, ih']; simp
      | false =>
        rw [if_neg (by simp), bnd rfl]
        cases val B (c ||| 2 ^ w) T with
        | false => rw [if_neg (by simp), ih']; simp
        | true =>
          rw [if_pos rfl, if_pos (by omega), ih (c + 1) k (q ++ [(c : Int)]) (by omega) (by simp; omega) (by omega)]
          simp
theorem iSwings_T {n : Nat} {B : List Int} (h : hOk (n : Int) B = true) (h6 : n ≤ 6) {T : TR} (hT : okT B T) (hl : (flat T).length ≤ 9) {w : Nat} (hw : w < n) {k : Nat} (hk : 100 < k) : impl_swingsOf.f k (n : Int) B (flat T) (w : Int) = some ((swL B T w 0 (2 ^ n)).map (fun x : Nat => (x : Int))) := by
  have hp := pow6 h6
  unfold impl_swingsOf.f
  rw [if_pos (by omega), shl_one (by omega)]
  have := iSw_l h h6 hT hl hw (2 ^ n) 0 k [] (by omega) (by simp) (by omega)
  simpa using this

/-! ### ways of people in order: how many have a crowd ahead of a person -/
def digN (n : Nat) : Nat → Nat → List Nat
  | 0, _ => []
  | k + 1, w => w % n :: digN n k (w / n)
/-- The crowd ahead of who in an order, if each is there once. -/
def headOf (who : Nat) : List Nat → Nat → Option Nat
  | [], _ => none
  | x :: r, m => if m.testBit x then none else if x = who then (if r.all (fun y => !(m ||| 2 ^ x).testBit y) && r.Nodup then some m else none) else headOf who r (m ||| 2 ^ x)
def hd6 (c : Nat) : Nat := c % 2 + c / 2 % 2 + c / 4 % 2 + c / 8 % 2 + c / 16 % 2 + c / 32 % 2
def factN : Nat → Nat
  | 0 => 1
  | n + 1 => (n + 1) * factN n
theorem ways_count : ∀ n : Fin 5, ∀ who : Fin 4, who.val < n.val → ∀ S : Fin 16, S.val < 2 ^ n.val → S.val.testBit who.val = false →
    (List.range (n.val ^ n.val)).countP (fun w => headOf who.val (digN n.val n.val w) 0 == some S.val) = factN (hd6 S.val) * factN (n.val - 1 - hd6 S.val) := by decide +kernel

/-! ### pivots -/
def pvS (n : Nat) (L : List Nat) : Nat := (L.map fun c => factN (hd c) * factN (n - 1 - hd c)).sum
theorem fact_all : ∀ n : Fin 7, impl_factorial.f 10 ((n.val : Nat) : Int) = some ((factN n.val : Nat) : Int) := by decide +kernel
theorem fact_f {n : Nat} (h : n ≤ 6) {k : Nat} (hk : 10 ≤ k) : impl_factorial.f k (n : Int) = some (factN n : Int) := by
  obtain ⟨d, rfl⟩ : ∃ d, k = 10 + d := ⟨k - 10, by omega⟩
  exact leO_add (impl_factorial.mono _) 10 d _ (fact_all ⟨n, by omega⟩)
theorem fact_le {n : Nat} (h : n ≤ 6) : factN n ≤ 720 := by
  have : ∀ n : Fin 7, factN n.val ≤ 720 := by decide
  exact this ⟨n, by omega⟩
theorem hd_room : ∀ n : Fin 7, ∀ w : Fin 6, ∀ c : Fin 64, w.val < n.val → c.val < 2 ^ n.val → c.val.testBit w.val = false → hd c.val + 1 ≤ n.val := by decide +kernel
theorem pvS_cons (n c : Nat) (L : List Nat) : pvS n (c :: L) = factN (hd c) * factN (n - 1 - hd c) + pvS n L := by simp [pvS]
theorem mem_swL {B : List Int} {T : TR} {w n c : Nat} : c ∈ swL B T w 0 n ↔ c < n ∧ swB B T w c = true := by
  unfold swL
  rw [List.mem_filter, List.mem_range'_1]
  constructor
  · rintro ⟨h1, h2⟩; exact ⟨by omega, h2⟩
  · rintro ⟨h1, h2⟩; exact ⟨by omega, h2⟩
theorem swL_len (B : List Int) (T : TR) (w n : Nat) : (swL B T w 0 n).length ≤ n := by
  unfold swL
  exact Nat.le_trans (List.length_filter_le _ _) (by rw [List.length_range']; exact Nat.le_refl _)
theorem sw_room {n : Nat} (h6 : n ≤ 6) {B : List Int} {T : TR} {w : Nat} (hw : w < n) {c : Nat} (hc : c ∈ swL B T w 0 (2 ^ n)) : c < 64 ∧ hd c + 1 ≤ n := by
  have hp := pow6 h6
  obtain ⟨h1, h2⟩ := mem_swL.mp hc
  refine ⟨by omega, hd_room ⟨n, by omega⟩ ⟨w, by omega⟩ ⟨c, by omega⟩ hw h1 ?_⟩
  unfold swB at h2
  simp only [Bool.and_eq_true, Bool.not_eq_true'] at h2
  exact h2.1
theorem piv_l {n : Nat} (h6 : n ≤ 6) (B : List Int) {L : List Nat} (hL : ∀ c ∈ L, c < 64 ∧ hd c + 1 ≤ n) (hlen : L.length ≤ 64) : ∀ (d i a k : Nat), i + d = L.length → a ≤ i * 518400 → d + 20 < k →
    impl_PivotsOf.l0 k (a : Int) (L.map (fun x : Nat => (x : Int))) (L.length : Int) (i : Int) (n : Int) B = some ((a + pvS n (L.drop i) : Nat) : Int) := by
  intro d
  induction d with
  | zero =>
    intro i a k hi ha hk
    obtain ⟨k, rfl, _⟩ := fuel hk
    rw [impl_PivotsOf.l0, if_neg (by omega), List.drop_eq_nil_of_le (by omega)]
    simp [pvS]
  | succ d ih =>
    intro i a k hi ha hk
    obtain ⟨k, rfl, _⟩ := fuel hk
    have hlt : i < L.length := by omega
    obtain ⟨h64, hr⟩ := hL _ (List.getElem_mem hlt)
    have e0 : rd (L.map (fun x : Nat => (x : Int))) (i : Int) = ((L[i] : Nat) : Int) := by
      rw [rd_lt (by rw [List.length_map]; exact hlt), List.getElem_map]
    have ef1 := fact_f (n := hd L[i]) (by omega) (k := k) (by omega)
    have ef2 := fact_f (n := n - 1 - hd L[i]) (by omega) (k := k) (by omega)
    have b1 := fact_le (n := hd L[i]) (by omega)
    have b2 := fact_le (n := n - 1 - hd L[i]) (by omega)
    have b3 : factN (hd L[i]) * factN (n - 1 - hd L[i]) ≤ 518400 := Nat.le_trans (Nat.mul_le_mul b1 b2) (by omega)
    have ew : wrap64 ((wrap64 ((n : Int) - 1)) - ((hd L[i] : Nat) : Int)) = ((n - 1 - hd L[i] : Nat) : Int) := by
      rw [w64 (x := (n : Int) - 1) (by omega) (by omega), w64 (by omega) (by omega)]; omega
    have em : ∀ X Y : Nat, X * Y ≤ 518400 → wrap64 ((X : Int) * (Y : Int)) = ((X * Y : Nat) : Int) := fun X Y h => by
      rw [← Int.natCast_mul]
      generalize X * Y = Z at h ⊢
      exact w64 (by omega) (by omega)
    have es : ∀ Z : Nat, Z ≤ 518400 → wrap64 ((a : Int) + (Z : Int)) = ((a + Z : Nat) : Int) := fun Z h => by
      rw [← Int.natCast_add]
      exact w64 (by omega) (by omega)
    rw [impl_PivotsOf.l0, if_pos (by omega), if_pos (by omega), if_pos (by rw [List.length_map]; omega), e0, bnd (heads_f h64), bnd ef1, bnd (heads_f h64), ew, bnd ef2, em _ _ b3, es _ b3, w64s i (by omega), ih (i + 1) _ k (by omega) (by omega) (by omega), List.drop_eq_getElem_cons hlt, pvS_cons, Nat.add_assoc]
theorem iPivots_T {n : Nat} {B : List Int} {T : TR} (h : tmOk (n : Int) B (flat T) = true) (hB : B.length ≤ 4) (h6 : n ≤ 6) (hT : okT B T) (hl : (flat T).length ≤ 9) {w : Nat} (hw : w < n) {k : Nat} (hk : 200 < k) : impl_PivotsOf.f k (n : Int) B (flat T) (w : Int) = some (pvS n (swL B T w 0 (2 ^ n)) : Int) := by
  have hp := pow6 h6
  have hs := swL_len B T w (2 ^ n)
  obtain ⟨k, rfl, hk⟩ := fuel hk
  obtain ⟨hh, _, _⟩ := tm_tree h
  have e1 := isTerm_f (n : Int) B (flat T) (by omega) (by omega) (k := k + 1) (by omega)
  rw [h] at e1
  have e2 := iSwings_T hh h6 hT hl hw (k := k) (by omega)
  have e3 := piv_l h6 B (L := swL B T w 0 (2 ^ n)) (fun c hc => sw_room h6 hw hc) (by omega) (swL B T w 0 (2 ^ n)).length 0 0 k (by omega) (by omega) (by omega)
  unfold impl_PivotsOf.f
  rw [bnd e1, if_pos rfl, if_neg (by omega), decide_eq_false (by omega), impl_PivotsOf.j0, if_neg (by simp), bnd e2, List.length_map]
  simpa using e3
/-- It answers -1 else. -/
theorem iPivots_n {P : Int} {B : List Int} {t : List S35} {w : Int} (hB : B.length ≤ 4) (ht : t.length ≤ 9) (h : ¬ (tmOk P B t = true ∧ 0 ≤ w ∧ w < P)) {k : Nat} (hk : 200 < k) : impl_PivotsOf.f k P B t w = some (-1) := by
  obtain ⟨k, rfl, hk⟩ := fuel hk
  have e1 := isTerm_f P B t (by omega) (by omega) (k := k + 1) (by omega)
  unfold impl_PivotsOf.f
  rw [bnd e1]
  by_cases h1 : tmOk P B t = true
  · rw [h1, if_pos rfl]
    by_cases h2 : w < 0
    · rw [if_pos h2, impl_PivotsOf.j0, if_pos rfl]
    · rw [if_neg h2, decide_eq_true (show w ≥ P by by_cases x : w < P; exact absurd ⟨h1, by omega, x⟩ h; omega), impl_PivotsOf.j0, if_pos rfl]
  · rw [if_neg h1, impl_PivotsOf.j0, if_pos rfl]
theorem hd_hd6 : ∀ c : Fin 64, hd c.val = hd6 c.val := by decide +kernel

/-! ### with more people no fewer changes may be -/
def sub (c d : Nat) : Prop := ∀ i, c.testBit i = true → d.testBit i = true
theorem ctN_mono {p q : Nat → Bool} : ∀ {n : Nat}, (∀ i, i < n → p i = true → q i = true) → ctN p n ≤ ctN q n
  | 0, _ => Nat.le_refl _
  | n + 1, h => by
    have ih := ctN_mono (n := n) (fun i hi => h i (by omega))
    have := h n (by omega)
    rw [ctN, ctN]
    cases e : p n <;> cases e' : q n <;> simp_all <;> omega
theorem hd_mono {c d : Nat} (h : sub c d) : hd c ≤ hd d := ctN_mono fun i _ => h i
theorem sub_and {c d : Nat} (h : sub c d) (x : Nat) : sub (x &&& c) (x &&& d) := fun i hi => by
  rw [Nat.testBit_and, Bool.and_eq_true] at hi ⊢
  exact ⟨hi.1, h i hi.2⟩
theorem val_mono {B : List Int} {c d : Nat} (h : sub c d) : ∀ T : TR, val B c T = true → val B d T = true
  | .at m, hv => by
    simp only [val, sat, decide_eq_true_eq] at hv ⊢
    have := hd_mono (sub_and h (rd B m.f1).toNat)
    omega
  | .op m l r, hv => by
    have hl := val_mono (B := B) h l
    have hr := val_mono (B := B) h r
    rw [val] at hv ⊢
    split
    · rename_i e
      rw [if_pos e, Bool.or_eq_true] at hv
      rw [Bool.or_eq_true]
      exact hv.imp hl hr
    · rename_i e
      rw [if_neg e, Bool.and_eq_true] at hv
      rw [Bool.and_eq_true]
      exact ⟨hl hv.1, hr hv.2⟩

/-- Who is the first to bring it about. -/
def pfN (B : List Int) (T : TR) : List Nat → Nat → Int
  | [], _ => -1
  | x :: r, m => if val B (m ||| 2 ^ x) T = true then (x : Int) else pfN B T r (m ||| 2 ^ x)
/-- Each is there once, and none of those in m. -/
def okO : List Nat → Nat → Bool
  | [], _ => true
  | x :: r, m => !m.testBit x && okO r (m ||| 2 ^ x)
theorem okO_iff : ∀ (r : List Nat) (m : Nat), okO r m = true ↔ (r.all (fun y => !m.testBit y) = true ∧ r.Nodup)
  | [], m => by simp [okO]
  | x :: r, m => by
    rw [okO, Bool.and_eq_true, okO_iff r, List.all_cons, Bool.and_eq_true, List.nodup_cons, List.all_eq_true, List.all_eq_true]
    have e : ∀ y, ((!(m ||| 2 ^ x).testBit y) = true) ↔ ((!m.testBit y) = true ∧ y ≠ x) := fun y => by
      rw [Nat.testBit_or, Nat.testBit_two_pow]
      by_cases h : x = y
      · subst h; simp
      · simp [h]
        exact fun _ h' => h h'.symm
    constructor
    · rintro ⟨h1, h2, h3⟩
      exact ⟨⟨h1, fun y hy => ((e y).mp (h2 y hy)).1⟩, fun hx => ((e x).mp (h2 x hx)).2 rfl, h3⟩
    · rintro ⟨⟨h1, h2⟩, h3, h4⟩
      exact ⟨h1, fun y hy => (e y).mpr ⟨h2 y hy, fun hyx => h3 (by rw [← hyx]; exact hy)⟩, h4⟩
theorem pfN_mem {B : List Int} {T : TR} {w : Nat} : ∀ (r : List Nat) (m : Nat), pfN B T r m = (w : Int) → w ∈ r
  | [], m, h => by simp only [pfN] at h; omega
  | x :: r, m, h => by
    rw [pfN] at h
    by_cases hv : val B (m ||| 2 ^ x) T = true
    · rw [if_pos hv] at h
      have : x = w := by omega
      rw [this]; exact List.mem_cons_self
    · rw [if_neg hv] at h
      exact List.mem_cons_of_mem _ (pfN_mem r _ h)
theorem headOf_sub {w : Nat} : ∀ (r : List Nat) (m S : Nat), headOf w r m = some S → sub m S
  | [], m, S, h => by simp [headOf] at h
  | x :: r, m, S, h => by
    rw [headOf] at h
    by_cases h1 : m.testBit x = true
    · rw [if_pos h1] at h; cases h
    · rw [if_neg h1] at h
      by_cases h2 : x = w
      · rw [if_pos h2] at h
        split at h
        · injection h with h; subst h; exact fun i hi => hi
        · cases h
      · rw [if_neg h2] at h
        exact fun i hi => headOf_sub r _ S h i (by rw [Nat.testBit_or, hi]; rfl)
theorem headOf_ok {w : Nat} : ∀ (r : List Nat) (m S : Nat), headOf w r m = some S → okO r m = true
  | [], m, S, h => by simp [headOf] at h
  | x :: r, m, S, h => by
    rw [headOf] at h
    by_cases h1 : m.testBit x = true
    · rw [if_pos h1] at h; cases h
    · rw [if_neg h1] at h
      rw [okO, show m.testBit x = false from by simpa using h1, Bool.not_false, Bool.true_and]
      by_cases h2 : x = w
      · rw [if_pos h2] at h
        split at h
        · rename_i h3
          simp only [Bool.and_eq_true, decide_eq_true_eq] at h3
          exact (okO_iff r _).mpr h3
        · cases h
      · rw [if_neg h2] at h
        exact headOf_ok r _ S h
theorem headOf_lt {w n : Nat} : ∀ (r : List Nat) (m S : Nat), (∀ x ∈ r, x < n) → m < 2 ^ n → headOf w r m = some S → S < 2 ^ n
  | [], m, S, _, _, h => by simp [headOf] at h
  | x :: r, m, S, hr, hm, h => by
    rw [headOf] at h
    by_cases h1 : m.testBit x = true
    · rw [if_pos h1] at h; cases h
    · rw [if_neg h1] at h
      by_cases h2 : x = w
      · rw [if_pos h2] at h
        split at h
        · injection h with h; omega
        · cases h
      · rw [if_neg h2] at h
        exact headOf_lt r _ S (fun y hy => hr y (List.mem_cons_of_mem _ hy)) (Nat.or_lt_two_pow hm (Nat.pow_lt_pow_right (by decide) (hr x List.mem_cons_self))) h
theorem pfN_iff {B : List Int} {T : TR} {w : Nat} : ∀ (r : List Nat) (m : Nat), okO r m = true → val B m T = false → (pfN B T r m = (w : Int) ↔ ∃ S, headOf w r m = some S ∧ swB B T w S = true)
  | [], m, _, _ => by simp only [pfN, headOf]; exact ⟨fun h => by omega, fun ⟨_, h, _⟩ => by cases h⟩
  | x :: r, m, ho, hm => by
    rw [okO, Bool.and_eq_true] at ho
    have hx : m.testBit x = false := by simpa using ho.1
    have hx0 : ¬ m.testBit x = true := by rw [hx]; simp
    rw [pfN, headOf, if_neg hx0]
    by_cases hxw : x = w
    · subst hxw
      have h3 := (okO_iff r _).mp ho.2
      have hc : (r.all (fun y => !(m ||| 2 ^ x).testBit y) && decide r.Nodup) = true := by simp only [Bool.and_eq_true, decide_eq_true_eq]; exact h3
      rw [if_pos (show x = x from rfl), if_pos hc]
      have hs : swB B T x m = val B (m ||| 2 ^ x) T := by unfold swB; rw [hx, hm]; simp
      by_cases hv : val B (m ||| 2 ^ x) T = true
      · rw [if_pos hv]
        exact ⟨fun _ => ⟨m, rfl, by rw [hs, hv]⟩, fun _ => rfl⟩
      · rw [if_neg hv]
        refine ⟨fun h => ?_, fun ⟨S, h1, h2⟩ => ?_⟩
        · have hmem := pfN_mem r _ h
          have := List.all_eq_true.mp h3.1 x hmem
          rw [Nat.testBit_or, Nat.testBit_two_pow_self] at this
          simp at this
        · injection h1 with h1; subst h1
          rw [hs] at h2; exact absurd h2 hv
    · rw [if_neg hxw]
      by_cases hv : val B (m ||| 2 ^ x) T = true
      · rw [if_pos hv]
        refine ⟨fun h => absurd (show x = w by omega) hxw, fun ⟨S, h1, h2⟩ => ?_⟩
        have h4 := val_mono (headOf_sub r _ S h1) T hv
        unfold swB at h2
        rw [h4] at h2
        simp at h2
      · rw [if_neg hv]
        exact pfN_iff r _ ho.2 (by simpa using hv)
theorem val_zero {B : List Int} : ∀ T : TR, okT B T → val B 0 T = false
  | .at m, h => by
    have h' := aOk_iff.mp h
    rw [val, sat, Nat.and_zero]
    have : hd 0 = 0 := by decide
    rw [this, decide_eq_false_iff_not]; omega
  | .op m l r, h => by
    rw [val, val_zero l h.2.1, val_zero r h.2.2]
    split <;> rfl
/-! ### the program's way -/
section
variable {n : Nat} {B : List Int} {T : TR} (hh : hOk (n : Int) B = true) (h6 : n ≤ 6) (hT : okT B T) (hl : (flat T).length ≤ 9)
include hh h6 hT hl
theorem pin1 {r : List Nat} (hr : ∀ x ∈ r, x < n) (hlen : r.length ≤ 6) : ∀ (d i m k : Nat), i + d = r.length → m < 2 ^ n → d + 25 < k →
    impl_PivotIn.l1 k (flat T) (m : Int) (r.map (fun x : Nat => (x : Int))) (r.length : Int) (i : Int) (n : Int) B = some (pfN B T (r.drop i) m) := by
  intro d
  induction d with
  | zero =>
    intro i m k hi hm hk
    obtain ⟨k, rfl, _⟩ := fuel hk
    rw [impl_PivotIn.l1, if_neg (by omega), List.drop_eq_nil_of_le (by omega)]; rfl
  | succ d ih =>
    intro i m k hi hm hk
    obtain ⟨k, rfl, _⟩ := fuel hk
    have hlt : i < r.length := by omega
    have hx := hr _ (List.getElem_mem hlt)
    have ho : m ||| 2 ^ r[i] < 2 ^ n := Nat.or_lt_two_pow hm (Nat.pow_lt_pow_right (by decide) hx)
    have e0 : rd (r.map (fun x : Nat => (x : Int))) (i : Int) = ((r[i] : Nat) : Int) := by
      rw [rd_lt (by rw [List.length_map]; exact hlt), List.getElem_map]
    rw [impl_PivotIn.l1, if_pos (by omega), if_pos (by omega), if_pos (by rw [List.length_map]; omega), e0, if_pos (by omega), or_i64 h6 hm hx, bnd (consents_f hh hT hl (or_lt64 h6 hm hx) (by omega)), List.drop_eq_getElem_cons hlt, pfN]
    by_cases hv : val B (m ||| 2 ^ r[i]) T = true
    · rw [if_pos hv, if_pos hv]
    · rw [if_neg hv, if_neg hv, w64s i (by omega), ih (i + 1) _ k (by omega) ho (by omega)]
theorem pin0 {r : List Nat} (hr : ∀ x ∈ r, x < n) (hlen : r.length ≤ 6) : ∀ (d i m k : Nat), i + d = r.length → m < 2 ^ n → d + 40 < k →
    impl_PivotIn.l0 k (flat T) (r.map (fun x : Nat => (x : Int))) (m : Int) (r.map (fun x : Nat => (x : Int))) (r.length : Int) (i : Int) (n : Int) B = some (if okO (r.drop i) m = true then pfN B T r 0 else -1) := by
  intro d
  induction d with
  | zero =>
    intro i m k hi hm hk
    obtain ⟨k, rfl, _⟩ := fuel hk
    have e := pin1 hh h6 hT hl hr hlen r.length 0 0 k (by omega) (Nat.two_pow_pos n) (by omega)
    rw [impl_PivotIn.l0, if_neg (by omega), List.drop_eq_nil_of_le (show r.length ≤ i by omega), okO, if_pos rfl, List.length_map]
    simpa using e
  | succ d ih =>
    intro i m k hi hm hk
    obtain ⟨k, rfl, _⟩ := fuel hk
    have hlt : i < r.length := by omega
    have hx := hr _ (List.getElem_mem hlt)
    have ho : m ||| 2 ^ r[i] < 2 ^ n := Nat.or_lt_two_pow hm (Nat.pow_lt_pow_right (by decide) hx)
    have e0 : rd (r.map (fun x : Nat => (x : Int))) (i : Int) = ((r[i] : Nat) : Int) := by
      rw [rd_lt (by rw [List.length_map]; exact hlt), List.getElem_map]
    rw [impl_PivotIn.l0, if_pos (by omega), if_pos (by omega), if_pos (by rw [List.length_map]; omega), e0, if_neg (by omega), if_neg (by omega), if_pos (by omega), shr_and (by omega) (lt62 hm h6), List.drop_eq_getElem_cons hlt, okO]
    by_cases hb : m.testBit r[i] = true
    · rw [if_pos hb, if_pos rfl, hb, Bool.not_true, Bool.false_and, if_neg (by simp)]
    · rw [if_neg hb, if_neg (by decide), or_i64 h6 hm hx, w64s i (by omega), ih (i + 1) _ k (by omega) ho (by omega), show m.testBit r[i] = false from by simpa using hb, Bool.not_false, Bool.true_and]
/-- Who PivotIn tells. -/
theorem pin_f (hB : B.length ≤ 4) (ht : tmOk (n : Int) B (flat T) = true) {r : List Nat} (hr : ∀ x ∈ r, x < n) (hlen : r.length = n) {k : Nat} (hk : 200 < k) :
    impl_PivotIn.f k (n : Int) B (flat T) (r.map (fun x : Nat => (x : Int))) = some (if okO r 0 = true then pfN B T r 0 else -1) := by
  obtain ⟨k, rfl, hk⟩ := fuel hk
  have e1 := isTerm_f (n : Int) B (flat T) (by omega) (by omega) (k := k + 1) (by omega)
  rw [ht] at e1
  have e2 := pin0 hh h6 hT hl hr (by omega) r.length 0 0 k (by omega) (Nat.two_pow_pos n) (by omega)
  unfold impl_PivotIn.f
  rw [bnd e1, if_pos rfl, List.length_map, hlen, show ((n : Int) != (n : Int)) = false from by simp, impl_PivotIn.j0, if_neg (by simp), List.length_map]
  simpa using e2
end
theorem pin_iff {B : List Int} {T : TR} (hT : okT B T) (w : Nat) (r : List Nat) : ((if okO r 0 = true then pfN B T r 0 else -1) = (w : Int)) ↔ ∃ S, headOf w r 0 = some S ∧ swB B T w S = true := by
  by_cases h : okO r 0 = true
  · rw [if_pos h]; exact pfN_iff r 0 h (val_zero T hT)
  · rw [if_neg h]
    exact ⟨fun e => by omega, fun ⟨S, h1, _⟩ => absurd (headOf_ok r 0 S h1) h⟩
/-! ### counting -/
theorem countP_or {α : Type} {p q : α → Bool} (h : ∀ x, p x = true → q x = false) : ∀ R : List α, R.countP (fun x => p x || q x) = R.countP p + R.countP q
  | [] => rfl
  | x :: R => by
    rw [List.countP_cons, List.countP_cons, List.countP_cons, countP_or h R]
    cases hp : p x with
    | true => rw [h x hp]; simp; omega
    | false => simp; omega
theorem countP_split (f : Nat → Option Nat) (R : List Nat) : ∀ L : List Nat, L.Nodup → R.countP (fun w => L.any fun S => f w == some S) = (L.map fun S => R.countP fun w => f w == some S).sum
  | [], _ => by simp
  | S :: L, hn => by
    rw [List.nodup_cons] at hn
    rw [List.map_cons, List.sum_cons, ← countP_split f R L hn.2, ← countP_or (p := fun w => f w == some S) (q := fun w => L.any fun S => f w == some S)]
    · simp only [List.any_cons]
    · intro w hw
      have e : f w = some S := by simpa using hw
      cases hq : (L.any fun S => f w == some S) with
      | false => rfl
      | true =>
        obtain ⟨S', h1, h2⟩ := List.any_eq_true.mp hq
        rw [e] at h2
        have : S = S' := by simpa using h2
        exact absurd (by rw [this]; exact h1) hn.1
theorem swL_nodup (B : List Int) (T : TR) (w n : Nat) : (swL B T w 0 n).Nodup := by
  unfold swL
  exact List.Nodup.sublist List.filter_sublist List.nodup_range'
theorem digN_lt {n : Nat} (hn : 0 < n) : ∀ (d w : Nat), ∀ x ∈ digN n d w, x < n
  | 0, _, x, h => by simp [digN] at h
  | d + 1, w, x, h => by
    rw [digN] at h
    rcases List.mem_cons.mp h with rfl | h
    · exact Nat.mod_lt _ hn
    · exact digN_lt hn d _ x h
theorem digN_len (n : Nat) : ∀ (d w : Nat), (digN n d w).length = d
  | 0, _ => rfl
  | d + 1, w => by rw [digN, List.length_cons, digN_len n d]
/-- Does this way's person come first? -/
def wayB (B : List Int) (T : TR) (n w way : Nat) : Bool := decide ((if okO (digN n n way) 0 = true then pfN B T (digN n n way) 0 else -1) = (w : Int))
theorem ways_all {n : Nat} (h1 : 1 ≤ n) (h4 : n ≤ 4) {B : List Int} {T : TR} (hT : okT B T) {w : Nat} (hw : w < n) : (List.range (n ^ n)).countP (wayB B T n w) = pvS n (swL B T w 0 (2 ^ n)) := by
  have hp := pow6 (n := n) (by omega)
  have h16 : 2 ^ n ≤ 16 := Nat.le_trans (Nat.pow_le_pow_right (by decide) h4) (by decide)
  have e : wayB B T n w = fun way => (swL B T w 0 (2 ^ n)).any fun S => headOf w (digN n n way) 0 == some S := by
    funext way
    rw [Bool.eq_iff_iff]
    unfold wayB
    rw [decide_eq_true_eq, pin_iff hT, List.any_eq_true]
    constructor
    · rintro ⟨S, k1, k2⟩
      exact ⟨S, mem_swL.mpr ⟨headOf_lt _ 0 S (digN_lt h1 n way) (Nat.two_pow_pos n) k1, k2⟩, by rw [k1]; simp⟩
    · rintro ⟨S, k1, k2⟩
      exact ⟨S, by simpa using k2, (mem_swL.mp k1).2⟩
  rw [e, countP_split _ _ _ (swL_nodup B T w (2 ^ n))]
  unfold pvS
  congr 1
  refine List.map_congr_left (fun S hS => ?_)
  obtain ⟨k1, k2⟩ := mem_swL.mp hS
  have hb : S.testBit w = false := by
    unfold swB at k2
    simp only [Bool.and_eq_true, Bool.not_eq_true'] at k2
    exact k2.1
  have e6 := hd_hd6 ⟨S, by omega⟩
  dsimp only at e6
  rw [e6]
  exact ways_count ⟨n, by omega⟩ ⟨w, by omega⟩ hw ⟨S, by omega⟩ k1 hb
/-! ### the law -/
section
variable {n : Nat} {B : List Int} {T : TR} (hh : hOk (n : Int) B = true) (hB : B.length ≤ 4) (h1 : 1 ≤ n) (h4 : n ≤ 4) (hT : okT B T) (hl : (flat T).length ≤ 9) (ht : tmOk (n : Int) B (flat T) = true) {w : Nat}
include hh hB h1 h4 hT hl ht
theorem po_l2 {N : Int} {A many way K : Nat} (hmany : many ≤ way) (hway : way < 256) {R : Option Bool}
    (next : ∀ k, K ≤ k → laws_FnPivotsByOrders.l1 k (flat T) (w : Int) N (A : Int) ((many + (if wayB B T n w way = true then 1 else 0) : Nat) : Int) ((way + 1 : Nat) : Int) (n : Int) B = R) :
    ∀ (d j left k : Nat) (acc : List Nat), j + d = n → acc ++ digN n d left = digN n n way → acc.length = j → left < 256 → K + d < k → 210 + d < k →
    laws_FnPivotsByOrders.l2 k (flat T) (w : Int) N (A : Int) (many : Int) (way : Int) (acc.map (fun x : Nat => (x : Int))) (left : Int) (j : Int) (n : Int) B = R := by
  intro d
  induction d with
  | zero =>
    intro j left k acc hj ha hlen hleft hk hk2
    obtain ⟨k, rfl, _⟩ := fuel hk
    rw [digN, List.append_nil] at ha
    subst ha
    have e := pin_f hh (by omega) hT hl hB ht (digN_lt h1 n way) (digN_len n n way) (k := k) (by omega)
    have nx := next k (by omega)
    rw [laws_FnPivotsByOrders.l2, if_neg (by omega), bnd e, w64s many (by omega), w64s way (by omega)]
    by_cases hv : wayB B T n w way = true
    · rw [if_pos hv] at nx
      unfold wayB at hv
      rw [if_pos (of_decide_eq_true hv)]; exact nx
    · rw [if_neg hv] at nx
      unfold wayB at hv
      rw [if_neg (of_decide_eq_false (by simpa using hv))]; exact nx
  | succ d ih =>
    intro j left k acc hj ha hlen hleft hk hk2
    obtain ⟨k, rfl, _⟩ := fuel hk
    have hm : ((left % n : Nat) : Int) = Int.tmod (left : Int) (n : Int) := by rw [← Int.ofNat_tmod]
    have hd' : ((left / n : Nat) : Int) = Int.tdiv (left : Int) (n : Int) := by rw [← Int.ofNat_tdiv]
    have hle : left / n ≤ left := Nat.div_le_self _ _
    have := ih (j + 1) (left / n) k (acc ++ [left % n]) (by omega) (by rw [List.append_assoc]; exact ha) (by simp [hlen]) (by omega) (by omega) (by omega)
    rw [laws_FnPivotsByOrders.l2, if_pos (by omega), if_neg (by omega), if_pos (by rw [List.length_map]; omega), w64s j (by omega), ← hm, ← hd']
    rw [List.map_append] at this
    generalize left / n = q at this hle ⊢
    rw [w64 (by omega) (by omega)]
    exact this
theorem po_l1 {N : Int} : ∀ (d way many k : Nat), way + d = n ^ n → many ≤ way → d * 10 + 300 < k →
    laws_FnPivotsByOrders.l1 k (flat T) (w : Int) N ((n ^ n : Nat) : Int) (many : Int) (way : Int) (n : Int) B = some (((many + (List.range' way d).countP (wayB B T n w) : Nat) : Int) == N) := by
  have hA : n ^ n ≤ 256 := Nat.le_trans (Nat.pow_le_pow_right (by omega) h4) (Nat.le_trans (Nat.pow_le_pow_left h4 4) (by decide))
  intro d
  induction d with
  | zero =>
    intro way many k hw hm hk
    obtain ⟨k, rfl, _⟩ := fuel hk
    rw [laws_FnPivotsByOrders.l1, if_neg (by omega), bnd alive_f, if_pos rfl]
    simp
  | succ d ih =>
    intro way many k hw hm hk
    obtain ⟨k, rfl, _⟩ := fuel hk
    rw [laws_FnPivotsByOrders.l1, if_pos (by omega)]
    have e := po_l2 hh hB h1 h4 hT hl ht (w := w) (N := N) (A := n ^ n) (many := many) (way := way) (K := d * 10 + 301) hm (by omega)
      (R := some (((many + (List.range' way (d + 1)).countP (wayB B T n w) : Nat) : Int) == N)) (fun k hk => by
        rw [ih (way + 1) _ k (by omega) (by split <;> omega) (by omega), List.range'_succ, List.countP_cons]
        congr 3
        omega) n 0 way k [] (by omega) rfl rfl (by omega) (by omega) (by omega)
    exact e
theorem po_l0 {N : Int} : ∀ (d j k : Nat), j + d = n → laws_FnPivotsByOrders.l0 (k + d + 1) (flat T) (w : Int) N ((n ^ j : Nat) : Int) (j : Int) (n : Int) B = laws_FnPivotsByOrders.l1 k (flat T) (w : Int) N ((n ^ n : Nat) : Int) 0 0 (n : Int) B := by
  have _ := hh; have _ := hB; have _ := hT; have _ := hl; have _ := ht
  intro d
  induction d with
  | zero =>
    intro j k hj
    obtain rfl : j = n := by omega
    rw [laws_FnPivotsByOrders.l0, if_neg (by omega)]
  | succ d ih =>
    intro j k hj
    have hA : n ^ (j + 1) ≤ 256 := Nat.le_trans (Nat.pow_le_pow_right (by omega) (show j + 1 ≤ 4 by omega)) (Nat.le_trans (Nat.pow_le_pow_left h4 4) (by decide))
    have e : wrap64 (((n ^ j : Nat) : Int) * (n : Int)) = ((n ^ (j + 1) : Nat) : Int) := by
      rw [← Int.natCast_mul, ← Nat.pow_succ]
      generalize n ^ (j + 1) = z at hA ⊢
      exact w64 (by omega) (by omega)
    rw [show k + (d + 1) + 1 = (k + d + 1) + 1 from by omega, laws_FnPivotsByOrders.l0, if_pos (by omega), e, w64s j (by omega)]
    exact ih (j + 1) k (by omega)
end
theorem FnPivotsByOrders : laws_FnPivotsByOrders.Pure := by
  intro l0 _ _ hb8
  obtain ⟨K, hK⟩ : ∃ K : Nat, K = 3000 := ⟨_, rfl⟩
  refine ⟨K + 1, ?_⟩
  unfold laws_FnPivotsByOrders.f
  by_cases hl : (l0.length : Int) > 1048576
  · rw [if_pos hl]
  · rw [if_neg hl]
    obtain ⟨b, e1, okb⟩ := open_f hb8
    obtain ⟨⟨P, B, t, w, q⟩, e2, hP0, hP7, hB, ht⟩ := whose_d okb (p := 0) (by omega) (by omega) (k := K + 1) (by omega)
    dsimp only at hP0 hP7 hB ht
    have e3 : spec_DrawPivotsOf.f (K + 1) l0 = some (P, B, t, w) := by
      unfold spec_DrawPivotsOf.f
      rw [bnd e1]; dsimp only; rw [bnd e2]
    have e4 := sTerm_f P B t (by have := hB.1; omega) (fun y hy => by have := hB.2 y hy; omega) (by omega) (k := K + 1) (by have := hB.1; omega)
    rw [bnd e3]; dsimp only
    by_cases h : tmOk P B t = true ∧ 0 ≤ w ∧ w < P
    · obtain ⟨htm, hw0, hwP⟩ := h
      obtain ⟨hh, hl9, T, hT, rfl⟩ := tm_tree htm
      obtain ⟨n, rfl, n1, n6⟩ := hOk_P hh
      obtain ⟨who, rfl⟩ := Int.eq_ofNat_of_zero_le hw0
      rw [bnd (iPivots_T htm hB.1 n6 hT hl9 (by omega) (by omega)), if_neg (by omega), bnd e4, if_pos htm]
      by_cases h4 : (n : Int) > 4
      · rw [decide_eq_true h4, laws_FnPivotsByOrders.j0, if_pos rfl, if_pos (by omega), bnd alive_f]
      · rw [decide_eq_false h4, laws_FnPivotsByOrders.j0, if_neg (by simp)]
        have e5 := po_l0 hh hB.1 n1 (by omega) hT hl9 htm (w := who) (N := (pvS n (swL B T who 0 (2 ^ n)) : Int)) n 0 (K - n - 1) (by omega)
        have hA : n ^ n ≤ 256 := Nat.le_trans (Nat.pow_le_pow_right (by omega) (show n ≤ 4 by omega)) (Nat.le_trans (Nat.pow_le_pow_left (show n ≤ 4 by omega) 4) (by decide))
        have e6 := po_l1 hh hB.1 n1 (by omega) hT hl9 htm (w := who) (N := (pvS n (swL B T who 0 (2 ^ n)) : Int)) (n ^ n) 0 0 (K - n - 1) (by omega) (by omega) (by omega)
        have e7 := ways_all n1 (show n ≤ 4 by omega) hT (w := who) (by omega)
        rw [List.range_eq_range'] at e7
        rw [show K - n - 1 + n + 1 = K from by omega] at e5
        have e8 : laws_FnPivotsByOrders.l0 K (flat T) (who : Int) (pvS n (swL B T who 0 (2 ^ n)) : Int) 1 0 (n : Int) B = _ := e5
        have e9 : laws_FnPivotsByOrders.l1 (K - n - 1) (flat T) (who : Int) (pvS n (swL B T who 0 (2 ^ n)) : Int) ((n ^ n : Nat) : Int) 0 0 (n : Int) B = _ := e6
        rw [e8, e9, Nat.zero_add, e7]
        simp
    · rw [bnd (iPivots_n hB.1 (by omega) h (by omega)), if_pos (by decide), laws_FnPivotsByOrders.j0, if_pos rfl, if_pos (by decide), bnd alive_f]

end Go.Proofs.Ytenjngocdinfmaa.Pure
