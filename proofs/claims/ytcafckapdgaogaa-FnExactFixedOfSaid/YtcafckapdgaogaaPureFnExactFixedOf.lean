/- For every charter and state the program's FixedOf answers as the reference's, and leaves what it is given as it was; what it answers is a list of its own. Condition: none. -/
import Derived.Test.YtcafckapdgaogaaCAll33
import Derived.Test.YtcafckapdgaogaaCAll66
import Derived.Test.YtcafckapdgaogaaCAll73
import Derived.Test.YtcafckapdgaogaaM
namespace Go.Proofs.Ytcafckapdgaogaa.Pure
open Go.RowKit Go.Proofs.Ytcafckapdgaogaa.PAll Go.Proofs.YtcafckapdgaogaaW.PrintWords Go.Proofs.YtcafckapdgaogaaW.PrintMore Go.Proofs.Ytcafckapdgaogaa.M
set_option linter.unusedVariables false
set_option linter.unusedSimpArgs false

/-! ### copies and equal rows -/
theorem toIntS_l (l : List Int) (hl : l.length < 4611686018427387904) : ∀ (d i k : Nat) (m : List Int), i + d = l.length → d < k → m.length = l.length → m.take i = l.take i →
    laws_toIntS.l0 k l m (i : Int) = some l := by
  intro d
  induction d with
  | zero =>
    intro i k m hi hk hm he
    obtain ⟨k, rfl, _⟩ := fuel hk
    simp only [laws_toIntS.l0]
    rw [if_neg (by omega)]
    rw [List.take_of_length_le (by omega), List.take_of_length_le (by omega)] at he
    rw [he]
  | succ d ih =>
    intro i k m hi hk hm he
    obtain ⟨k, rfl, hk'⟩ := fuel hk
    have hlt : i < l.length := by omega
    simp only [laws_toIntS.l0]
    rw [if_pos (by omega), if_pos (by omega), if_pos (by omega), w64s i (by omega), rd_lt hlt]
    refine ih (i + 1) k _ (by omega) (by omega) (by simpa using hm) ?_
    rw [show ((i : Int)).toNat = i from by omega, List.take_succ_eq_append_getElem (by simp; omega), List.take_succ_eq_append_getElem hlt, List.take_set_of_le (Nat.le_refl _), he]
    simp
theorem toIntS_f (l : List Int) (hl : l.length ≤ 1048576) {k : Nat} (hk : l.length < k) : laws_toIntS.f k l = some l := by
  unfold laws_toIntS.f
  rw [if_pos (by omega), if_pos (by omega)]
  exact toIntS_l l (by omega) l.length 0 k _ (by omega) hk (by simp) (by simp)
theorem eqIntS_l (l : List Int) (hl : l.length < 4611686018427387904) : ∀ (d i k : Nat), i + d = l.length → d < k → laws_eqIntS.l0 k l l (i : Int) = some true := by
  intro d
  induction d with
  | zero =>
    intro i k hi hk
    obtain ⟨k, rfl, _⟩ := fuel hk
    simp only [laws_eqIntS.l0]
    rw [if_neg (by omega)]
  | succ d ih =>
    intro i k hi hk
    obtain ⟨k, rfl, hk'⟩ := fuel hk
    simp only [laws_eqIntS.l0]
    rw [if_pos (by omega), if_pos (by omega), if_pos (by omega), if_pos trivial, w64s i (by omega)]
    exact ih (i + 1) k (by omega) (by omega)
theorem eqIntS_f (l : List Int) (hl : l.length < 4611686018427387904) {k : Nat} (hk : l.length < k) : laws_eqIntS.f k l l = some true := by
  unfold laws_eqIntS.f
  rw [if_pos rfl]
  exact eqIntS_l l hl l.length 0 k (by omega) hk

/-! ### marks -/
theorem mark_l : ∀ (d i k : Nat) (l : List Int), l.length < 2305843009213693952 → i + d = l.length → d < k → (∀ j, (h : j < l.length) → j < i → l[j] = ((j + 1 : Nat) : Int)) →
    ∃ m, laws_markIntS.l0 k l ((i + 1 : Nat) : Int) (i : Int) = some (((l.length + 1 : Nat) : Int), m) ∧ m.length = l.length ∧ ∀ j, (h : j < m.length) → m[j] = ((j + 1 : Nat) : Int) := by
  intro d
  induction d with
  | zero =>
    intro i k l hl hi hk hj
    obtain ⟨k, rfl, _⟩ := fuel hk
    simp only [laws_markIntS.l0]
    rw [if_neg (by omega)]
    exact ⟨l, by rw [show i = l.length from by omega], rfl, fun j h => hj j h (by omega)⟩
  | succ d ih =>
    intro i k l hl hi hk hj
    obtain ⟨k, rfl, hk'⟩ := fuel hk
    simp only [laws_markIntS.l0]
    rw [if_pos (by omega), if_pos (by omega), w64s i (by omega), w64s (i + 1) (by omega)]
    obtain ⟨m, e, h1, h2⟩ := ih (i + 1) k (l.set ((i : Int)).toNat ((i + 1 : Nat) : Int)) (by simpa using hl) (by simp; omega) (by omega) (by
      intro j h hji
      rw [List.getElem_set]
      split
      · omega
      · exact hj j (by simpa using h) (by omega))
    refine ⟨m, ?_, by simpa using h1, h2⟩
    rw [e]; simp
theorem mark_f (l : List Int) (hl : l.length < 2305843009213693952) {k : Nat} (hk : l.length < k) :
    ∃ m, laws_markIntS.f k l 1 = some (((l.length + 1 : Nat) : Int), m) ∧ m.length = l.length ∧ ∀ j, (h : j < m.length) → m[j] = ((j + 1 : Nat) : Int) :=
  mark_l l.length 0 k l hl (by omega) hk (fun j _ h => absurd h (Nat.not_lt_zero j))
theorem held_l (m : List Int) (hl : m.length < 2305843009213693952) (hm : ∀ j, (h : j < m.length) → m[j] = ((j + 1 : Nat) : Int)) : ∀ (d i k : Nat), i + d = m.length → d < k →
    laws_heldIntS.l0 k m ((i + 1 : Nat) : Int) (i : Int) = some ((m.length + 1 : Nat) : Int) := by
  intro d
  induction d with
  | zero =>
    intro i k hi hk
    obtain ⟨k, rfl, _⟩ := fuel hk
    simp only [laws_heldIntS.l0]
    rw [if_neg (by omega), show i = m.length from by omega]
  | succ d ih =>
    intro i k hi hk
    obtain ⟨k, rfl, hk'⟩ := fuel hk
    have hlt : i < m.length := by omega
    simp only [laws_heldIntS.l0]
    rw [if_pos (by omega), if_pos (by omega), rd_lt hlt, if_pos (hm i hlt), w64s i (by omega), w64s (i + 1) (by omega)]
    exact ih (i + 1) k (by omega) (by omega)
theorem held_f {m : List Int} (hl : m.length < 2305843009213693952) (hm : ∀ j, (h : j < m.length) → m[j] = ((j + 1 : Nat) : Int)) {k : Nat} (hk : m.length < k) :
    laws_heldIntS.f k m 1 = some ((m.length + 1 : Nat) : Int) := held_l m hl hm m.length 0 k (by omega) hk

/-! ### crowds -/
/-- A crowd of so many people, 1 to 6. -/
def isC (n : Nat) (a : Int) : Bool := decide (1 ≤ n) && decide (n ≤ 6) && (decide (0 ≤ a) && decide (a < ((2 ^ n : Nat) : Int)))
theorem iCrowd_f {n : Nat} {a : Int} : impl_isCrowd.f (n : Int) a = some (isC n a) := by
  unfold impl_isCrowd.f impl_arePeople.f isC
  by_cases h1 : 1 ≤ n
  · rw [if_pos (by omega), decide_eq_true h1]
    by_cases h2 : n ≤ 6
    · simp only [decide_eq_true (by omega : (n : Int) ≤ 6), Option.bind_some, if_true, decide_eq_true h2, Bool.true_and]
      by_cases h3 : a ≥ 0
      · rw [if_pos h3, if_pos (by omega), shl_one (by omega), decide_eq_true (by omega : 0 ≤ a)]; simp
      · rw [if_neg h3, decide_eq_false (by omega : ¬ 0 ≤ a)]; simp
    · simp only [decide_eq_false (by omega : ¬ (n : Int) ≤ 6), Option.bind_some, decide_eq_false h2]; simp
  · rw [if_neg (by omega), decide_eq_false h1]; simp

theorem sCrowd_f {n : Nat} {a : Int} : spec_CrowdOk.f (n : Int) a = some (isC n a) := by
  unfold spec_CrowdOk.f spec_l1In.f isC
  by_cases h1 : 1 ≤ n
  · rw [if_pos (by omega), decide_eq_true h1]
    by_cases h2 : n ≤ 6
    · have h62 : 2 ^ n ≤ 64 := pow6 h2
      have hpos := Nat.two_pow_pos n
      simp only [decide_eq_true (by omega : (n : Int) ≤ 6), Option.bind_some, if_true, decide_eq_true h2, Bool.true_and]
      rw [if_pos (by omega), shl_one (by omega), w64 (by omega) (by omega)]
      by_cases h3 : a ≥ 0
      · rw [if_pos h3, decide_eq_true (by omega : 0 ≤ a)]
        simp only [Option.bind_some, Bool.true_and]
        congr 1
        exact decide_eq_decide.2 (by omega)
      · rw [if_neg h3, decide_eq_false (by omega : ¬ 0 ≤ a)]; simp
    · simp only [decide_eq_false (by omega : ¬ (n : Int) ≤ 6), Option.bind_some, decide_eq_false h2]; simp
  · rw [if_neg (by omega), decide_eq_false h1]; simp

/-! ### heads of a crowd -/
def hd (c : Nat) : Nat := ctN (fun i => c.testBit i) 6
set_option maxRecDepth 100000 in
theorem heads_all : ∀ c : Fin 64, impl_headsOf.f ((c.val : Nat) : Int) = some ((hd c.val : Nat) : Int) := by decide +kernel
theorem heads_f {c : Nat} (h : c < 64) : impl_headsOf.f (c : Int) = some (hd c : Int) := heads_all ⟨c, h⟩
/-! ### houses -/
def isCI (P a : Int) : Bool := decide (1 ≤ P) && decide (P ≤ 6) && (decide (0 ≤ a) && decide (a < ((2 ^ P.toNat : Nat) : Int)))
theorem isCI_nat (n : Nat) (a : Int) : isCI (n : Int) a = isC n a := by
  unfold isCI isC
  rw [show ((n : Int)).toNat = n from by omega, show decide (1 ≤ (n : Int)) = decide (1 ≤ n) from decide_eq_decide.2 (by omega), show decide ((n : Int) ≤ 6) = decide (n ≤ 6) from decide_eq_decide.2 (by omega)]
theorem iCI_f (P a : Int) : impl_isCrowd.f P a = some (isCI P a) := by
  by_cases h : 0 ≤ P
  · obtain ⟨n, rfl⟩ := Int.eq_ofNat_of_zero_le h
    rw [iCrowd_f, isCI_nat]
  · unfold impl_isCrowd.f impl_arePeople.f isCI
    rw [if_neg (by omega), decide_eq_false (by omega : ¬ 1 ≤ P)]; simp
def hTail (P : Int) (B : List Int) : Bool := decide (1 ≤ P) && decide (P ≤ 6) && decide (B.length ≤ 4)
def hOk (P : Int) (B : List Int) : Bool := B.all (fun b => isCI P b && !(b == 0)) && hTail P B
theorem isHouse_l (P : Int) (B : List Int) (hl : B.length < 4611686018427387904) : ∀ (d i k : Nat), i + d = B.length → d < k →
    impl_isHouse.l0 k B (B.length : Int) (i : Int) P B = some ((B.drop i).all (fun b => isCI P b && !(b == 0)) && hTail P B) := by
  intro d
  induction d with
  | zero =>
    intro i k hi hk
    obtain ⟨k, rfl, _⟩ := fuel hk
    have e : B.drop i = [] := List.drop_eq_nil_of_le (by omega)
    have h4 : decide ((B.length : Int) ≤ 4) = decide (B.length ≤ 4) := decide_eq_decide.2 (by omega)
    rw [impl_isHouse.l0, if_neg (by omega), e]
    unfold impl_arePeople.f hTail
    by_cases h : P ≥ 1
    · rw [if_pos h, bnd rfl, decide_eq_true (by omega : 1 ≤ P)]
      by_cases h2 : P ≤ 6
      · rw [decide_eq_true h2, if_pos rfl, h4]; simp
      · rw [decide_eq_false h2, if_neg (by simp)]; simp
    · rw [if_neg h, bnd rfl, if_neg (by simp), decide_eq_false (by omega : ¬ 1 ≤ P)]; simp
  | succ d ih =>
    intro i k hi hk
    obtain ⟨k, rfl, hk'⟩ := fuel hk
    have hlt : i < B.length := by omega
    rw [impl_isHouse.l0, if_pos (by omega), if_pos (by omega), if_pos (by omega), rd_lt hlt, iCI_f, bnd rfl, w64s i (by omega), ih (i + 1) k (by omega) (by omega), List.drop_eq_getElem_cons hlt, List.all_cons]
    by_cases h1 : isCI P B[i] = true
    · rw [if_pos h1, h1]
      by_cases h2 : B[i] = 0
      · rw [if_pos h2, beq_iff_eq.2 h2]; simp
      · rw [if_neg h2, beq_eq_false_iff_ne.2 h2]; simp
    · rw [if_neg h1, show isCI P B[i] = false from by simpa using h1]; simp
theorem isHouse_f (P : Int) (B : List Int) (hl : B.length < 4611686018427387904) {k : Nat} (hk : B.length < k) : impl_isHouse.f k P B = some (hOk P B) := by
  unfold impl_isHouse.f
  have := isHouse_l P B hl B.length 0 k (by omega) hk
  simpa [hOk] using this
theorem hOk_P {P : Int} {B : List Int} (h : hOk P B = true) : ∃ n : Nat, P = (n : Int) ∧ 1 ≤ n ∧ n ≤ 6 := by
  simp only [hOk, hTail, Bool.and_eq_true, decide_eq_true_eq] at h
  exact ⟨P.toNat, by omega, by omega, by omega⟩
theorem hOk_len {P : Int} {B : List Int} (h : hOk P B = true) : B.length ≤ 4 := by
  simp only [hOk, hTail, Bool.and_eq_true, decide_eq_true_eq] at h; exact h.2.2
theorem hOk_mem {P : Int} {B : List Int} (h : hOk P B = true) {b : Int} (hb : b ∈ B) : 0 < b ∧ b < 64 := by
  obtain ⟨n, rfl, h1, h6⟩ := hOk_P h
  simp only [hOk, Bool.and_eq_true, List.all_eq_true] at h
  have := h.1 b hb
  rw [isCI_nat] at this
  simp only [isC, decide_eq_true_eq, Bool.not_eq_true', beq_eq_false_iff_ne, Bool.and_eq_true] at this
  have := pow6 h6
  omega

theorem sCI_f (P a : Int) : spec_CrowdOk.f P a = some (isCI P a) := by
  by_cases h : 0 ≤ P
  · obtain ⟨n, rfl⟩ := Int.eq_ofNat_of_zero_le h
    rw [sCrowd_f, isCI_nat]
  · unfold spec_CrowdOk.f spec_l1In.f isCI
    rw [if_neg (by omega), decide_eq_false (by omega : ¬ 1 ≤ P)]; simp
theorem sHouse_l (P : Int) (B : List Int) (hl : B.length < 4611686018427387904) : ∀ (d i k : Nat), i + d = B.length → d < k →
    spec_HouseOk.l0 k (i : Int) P B = some ((B.drop i).all (fun b => isCI P b && !(b == 0)) && hTail P B) := by
  intro d
  induction d with
  | zero =>
    intro i k hi hk
    obtain ⟨k, rfl, _⟩ := fuel hk
    have e : B.drop i = [] := List.drop_eq_nil_of_le (by omega)
    have h4 : decide ((B.length : Int) ≤ 4) = decide (B.length ≤ 4) := decide_eq_decide.2 (by omega)
    rw [spec_HouseOk.l0, if_neg (by omega), e]
    unfold spec_l1In.f hTail
    by_cases h : P ≥ 1
    · rw [if_pos h, bnd rfl, decide_eq_true (by omega : 1 ≤ P)]
      by_cases h2 : P ≤ 6
      · rw [decide_eq_true h2, if_pos rfl, h4]; simp
      · rw [decide_eq_false h2, if_neg (by simp)]; simp
    · rw [if_neg h, bnd rfl, if_neg (by simp), decide_eq_false (by omega : ¬ 1 ≤ P)]; simp
  | succ d ih =>
    intro i k hi hk
    obtain ⟨k, rfl, hk'⟩ := fuel hk
    have hlt : i < B.length := by omega
    rw [spec_HouseOk.l0, if_pos (by omega), if_pos (by omega), rd_lt hlt, sCI_f, bnd rfl, w64s i (by omega), ih (i + 1) k (by omega) (by omega), List.drop_eq_getElem_cons hlt, List.all_cons]
    by_cases h1 : isCI P B[i] = true
    · rw [if_pos h1, h1]
      by_cases h2 : B[i] = 0
      · rw [if_pos h2, beq_iff_eq.2 h2]; simp
      · rw [if_neg h2, beq_eq_false_iff_ne.2 h2]; simp
    · rw [if_neg h1, show isCI P B[i] = false from by simpa using h1]; simp
theorem sHouse_f (P : Int) (B : List Int) (hl : B.length < 4611686018427387904) {k : Nat} (hk : B.length < k) : spec_HouseOk.f k P B = some (hOk P B) := by
  unfold spec_HouseOk.f
  have := sHouse_l P B hl B.length 0 k (by omega) hk
  simpa [hOk] using this

/-! ### terms -/
theorem rdM {l : List S134} {i : Nat} (h : i < l.length) : rd_T134 l (i : Int) = l[i] := by
  unfold rd_T134; simp [List.getD_eq_getElem?_getD, List.getElem?_eq_getElem h]
/-- Heads of a body that is told by a number. -/
def hdI (b : Int) : Int := (hd b.toNat : Int)
def aOk (B : List Int) (m : S134) : Bool := decide (m.f0 = 0) && (decide (0 ≤ m.f1) && (decide (m.f1 < (B.length : Int)) && (decide (1 ≤ m.f2) && decide (m.f2 ≤ hdI (rd B m.f1)))))
def oOk (m : S134) : Bool := (decide (m.f0 = 1) || decide (m.f0 = 2)) && (decide (m.f1 = 0) && decide (m.f2 = 0))
theorem aOk_iff {B : List Int} {m : S134} : aOk B m = true ↔ m.f0 = 0 ∧ 0 ≤ m.f1 ∧ m.f1 < (B.length : Int) ∧ 1 ≤ m.f2 ∧ m.f2 ≤ hdI (rd B m.f1) := by
  simp only [aOk, Bool.and_eq_true, decide_eq_true_eq]
theorem oOk_iff {m : S134} : oOk m = true ↔ (m.f0 = 1 ∨ m.f0 = 2) ∧ m.f1 = 0 ∧ m.f2 = 0 := by
  simp only [oOk, Bool.and_eq_true, Bool.or_eq_true, decide_eq_true_eq]
theorem bfalse {b : Bool} (h : ¬ b = true) : b = false := by simpa using h
/-- Parts are counted mark by mark. -/
def scan (B : List Int) : Nat → List S134 → Option Nat
  | p, [] => some p
  | p, m :: ms => if aOk B m = true then scan B (p + 1) ms else if oOk m = true ∧ 2 ≤ p then scan B (p - 1) ms else none
def tmOk (P : Int) (B : List Int) (t : List S134) : Bool := hOk P B && (decide (t.length ≤ 9) && (scan B 0 t == some 1))
inductive TR where
  | at (m : S134)
  | op (m : S134) (l r : TR)
def flat : TR → List S134
  | .at m => [m]
  | .op m l r => flat l ++ (flat r ++ [m])
def okT (B : List Int) : TR → Prop
  | .at m => aOk B m = true
  | .op m l r => oOk m = true ∧ okT B l ∧ okT B r
theorem flat_pos : ∀ T : TR, 0 < (flat T).length
  | .at _ => by simp [flat]
  | .op _ _ _ => by simp [flat]; omega
theorem forest (B : List Int) : ∀ (ms : List S134) (st : List TR) (q : Nat), (∀ x ∈ st, okT B x) → scan B st.length ms = some q →
    ∃ st' : List TR, (∀ x ∈ st', okT B x) ∧ st'.length = q ∧ st.reverse.flatMap flat ++ ms = st'.reverse.flatMap flat := by
  intro ms
  induction ms with
  | nil =>
    intro st q hok hs
    simp only [scan, Option.some.injEq] at hs
    exact ⟨st, hok, hs, by simp⟩
  | cons m ms ih =>
    intro st q hok hs
    simp only [scan] at hs
    by_cases ha : aOk B m = true
    · rw [if_pos ha] at hs
      obtain ⟨st', h1, h2, h3⟩ := ih (.at m :: st) q (by
        intro x hx
        rcases List.mem_cons.1 hx with rfl | hx
        · exact ha
        · exact hok x hx) hs
      exact ⟨st', h1, h2, by rw [← h3]; simp [flat]⟩
    · rw [if_neg ha] at hs
      by_cases ho : oOk m = true ∧ 2 ≤ st.length
      · rw [if_pos ho] at hs
        match st, hok, ho, hs with
        | r :: l :: st0, hok, ho, hs =>
          obtain ⟨st', h1, h2, h3⟩ := ih (.op m l r :: st0) q (by
            intro x hx
            rcases List.mem_cons.1 hx with rfl | hx
            · exact ⟨ho.1, hok l (by simp), hok r (by simp)⟩
            · exact hok x (by simp [hx])) (by simpa using hs)
          exact ⟨st', h1, h2, by rw [← h3]; simp [flat]⟩
        | [x], _, ho, _ => simp at ho
        | [], _, ho, _ => simp at ho
      · rw [if_neg ho] at hs; cases hs
/-- A term is a tree, written out. -/
theorem tree_of {B : List Int} {t : List S134} (h : scan B 0 t = some 1) : ∃ T, okT B T ∧ t = flat T := by
  obtain ⟨st', h1, h2, h3⟩ := forest B t [] 1 (by simp) h
  match st', h1, h2, h3 with
  | [T], h1, _, h3 => exact ⟨T, h1 T (by simp), by simpa using h3⟩
theorem tm_tree {P : Int} {B : List Int} {t : List S134} (h : tmOk P B t = true) : hOk P B = true ∧ t.length ≤ 9 ∧ ∃ T, okT B T ∧ t = flat T := by
  simp only [tmOk, Bool.and_eq_true, decide_eq_true_eq, beq_iff_eq] at h
  exact ⟨h.1, h.2.1, tree_of h.2.2⟩
/-- What a tree says of a crowd. -/
def sat (B : List Int) (m : S134) (c : Nat) : Bool := decide (m.f2 ≤ (hd ((rd B m.f1).toNat &&& c) : Int))
def val (B : List Int) (c : Nat) : TR → Bool
  | .at m => sat B m c
  | .op m l r => if m.f0 = 2 then val B c l || val B c r else val B c l && val B c r
theorem headsI_f {P : Int} {B : List Int} (h : hOk P B = true) {i : Int} (h0 : 0 ≤ i) (h1 : i < (B.length : Int)) : impl_headsOf.f (rd B i) = some (hdI (rd B i)) := by
  have hm := hOk_mem h (rd_mem h0 h1)
  have e := heads_f (c := (rd B i).toNat) (by omega)
  rw [show (((rd B i).toNat : Nat) : Int) = rd B i from by omega] at e
  exact e
theorem isTerm_l {P : Int} {B : List Int} (h : hOk P B = true) (t : List S134) (hl : t.length ≤ 9) : ∀ (d i p k : Nat), i + d = t.length → p ≤ i → 2 * d < k →
    impl_isTerm.l0 k (p : Int) t (t.length : Int) (i : Int) P B = some (scan B p (t.drop i) == some 1) := by
  intro d
  induction d with
  | zero =>
    intro i p k hi hp hk
    obtain ⟨k, rfl, _⟩ := fuel hk
    rw [impl_isTerm.l0, if_neg (by omega), List.drop_eq_nil_of_le (by omega)]
    simp only [scan]
    by_cases e : p = 1
    · subst e; rfl
    · rw [beq_eq_false_iff_ne.2 (show (p : Int) ≠ 1 by omega), beq_eq_false_iff_ne.2 (show some p ≠ some 1 by simpa using e)]
  | succ d ih =>
    intro i p k hi hp hk
    obtain ⟨k, rfl, hk1⟩ := fuel hk
    obtain ⟨k, rfl, hk2⟩ := fuel (show 2 * d + 1 < k by omega)
    have hlt : i < t.length := by omega
    rw [impl_isTerm.l0, if_pos (by omega), if_pos (by omega), if_pos (by omega), rdM hlt, List.drop_eq_getElem_cons hlt]
    generalize hm : t[i] = m
    simp only [scan]
    by_cases e0 : m.f0 = 0
    · have ho : ¬ (oOk m = true ∧ 2 ≤ p) := by rintro ⟨x, _⟩; rw [oOk_iff] at x; omega
      rw [if_pos e0, if_neg ho]
      by_cases e1 : m.f1 < 0
      · rw [if_pos e1, if_neg (fun x => by rw [aOk_iff] at x; omega)]; rfl
      · rw [if_neg e1]
        by_cases e2 : m.f1 ≥ (B.length : Int)
        · rw [if_pos e2, if_neg (fun x => by rw [aOk_iff] at x; omega)]; rfl
        · rw [if_neg e2]
          by_cases e3 : m.f2 < 1
          · rw [if_pos e3, if_neg (fun x => by rw [aOk_iff] at x; omega)]; rfl
          · rw [if_neg e3, if_pos (by omega), if_pos (by omega), headsI_f h (by omega) (by omega), bnd rfl]
            by_cases e4 : m.f2 > hdI (rd B m.f1)
            · rw [if_pos e4, if_neg (fun x => by rw [aOk_iff] at x; omega)]; rfl
            · have ha : aOk B m = true := by rw [aOk_iff]; omega
              rw [if_neg e4, if_pos ha, w64s i (by omega), w64s p (by omega)]
              exact ih (i + 1) (p + 1) (k + 1) (by omega) (by omega) (by omega)
    · have ha : ¬ aOk B m = true := by intro x; rw [aOk_iff] at x; omega
      rw [if_neg e0, if_neg ha]
      have key : ∀ b : Bool, (b = true ↔ m.f0 = 1 ∨ m.f0 = 2) → impl_isTerm.j2 (k + 1) (p : Int) t (t.length : Int) (i : Int) b P B m.f0 m.f1 m.f2 = some ((if oOk m = true ∧ 2 ≤ p then scan B (p - 1) (t.drop (i + 1)) else none) == some 1) := by
        intro b hb
        rw [impl_isTerm.j2]
        by_cases h1 : b = true
        · rw [if_pos h1]
          by_cases h2 : m.f1 = 0
          · rw [if_pos h2]
            by_cases h3 : m.f2 = 0
            · rw [if_pos h3]
              have ho : oOk m = true := by rw [oOk_iff]; exact ⟨hb.1 h1, h2, h3⟩
              by_cases h4 : (p : Int) < 2
              · rw [if_pos h4, if_neg (by omega)]; rfl
              · rw [if_neg h4, if_pos ⟨ho, by omega⟩, w64s i (by omega), w64 (by omega) (by omega), show (p : Int) - 1 = ((p - 1 : Nat) : Int) from by omega]
                exact ih (i + 1) (p - 1) k (by omega) (by omega) (by omega)
            · rw [if_neg h3, if_neg (fun x => by rw [oOk_iff] at x; exact h3 x.1.2.2)]; rfl
          · rw [if_neg h2, if_neg (fun x => by rw [oOk_iff] at x; exact h2 x.1.2.1)]; rfl
        · rw [if_neg h1, if_neg (fun x => by rw [oOk_iff] at x; exact h1 (hb.2 x.1.1))]; rfl
      by_cases e1 : m.f0 = 1
      · rw [if_pos e1]; exact key _ (by rw [beq_iff_eq]; omega)
      · rw [if_neg e1]; exact key _ (by rw [beq_iff_eq]; omega)
theorem isTerm_f (P : Int) (B : List Int) (t : List S134) (hB : B.length < 4611686018427387904) (hl : t.length < 4611686018427387904) {k : Nat} (hk : B.length + 40 < k) : impl_isTerm.f k P B t = some (tmOk P B t) := by
  unfold impl_isTerm.f
  rw [isHouse_f P B hB (by omega), bnd rfl]
  obtain ⟨k, rfl, hk'⟩ := fuel hk
  unfold tmOk
  by_cases h : hOk P B = true
  · rw [if_pos h, h]
    by_cases h1 : (t.length : Int) < 1
    · have : t = [] := List.length_eq_zero_iff.1 (by omega)
      subst this
      rw [if_pos h1, impl_isTerm.j0, if_pos rfl]; rfl
    · rw [if_neg h1, impl_isTerm.j0]
      by_cases h2 : (t.length : Int) > 9
      · rw [if_pos (decide_eq_true h2), decide_eq_false (by omega)]; rfl
      · rw [if_neg (by simpa using h2), decide_eq_true (by omega)]
        have := isTerm_l h t (by omega) t.length 0 0 k (by omega) (by omega) (by omega)
        simpa using this
  · rw [if_neg h, bfalse h, impl_isTerm.j0, if_pos rfl]; rfl

/-! ### consent, mark by mark -/
theorem rdB (st : List Bool) (a : Bool) (r : List Bool) : rdOf false (st ++ a :: r) (st.length : Int) = a := by
  unfold rdOf; simp
theorem rdB1 (st : List Bool) (a b : Bool) : rdOf false (st ++ [a, b]) ((st.length : Int) + 1) = b := by
  unfold rdOf
  rw [show ((st.length : Int) + 1).toNat = st.length + 1 from by omega]
  simp [List.getD_eq_getElem?_getD, List.getElem?_append_right]
theorem sat_f {P : Int} {B : List Int} (h : hOk P B = true) {m : S134} (ha : aOk B m = true) {c : Nat} (hc : c < 64) :
    impl_headsOf.f (Go.bits .and .i64 (rd B m.f1) (c : Int)) = some ((hd ((rd B m.f1).toNat &&& c) : Nat) : Int) := by
  rw [aOk_iff] at ha
  have hm := hOk_mem h (rd_mem ha.2.1 ha.2.2.1)
  obtain ⟨b, eb⟩ := Int.eq_ofNat_of_zero_le (show 0 ≤ rd B m.f1 by omega)
  rw [eb, band (lt62 (n := 6) (by omega) (by omega)) (lt62 (n := 6) (by omega) (by omega)), show ((b : Int)).toNat = b from by omega]
  exact heads_f (Nat.lt_of_le_of_lt Nat.and_le_right hc)
theorem consents_op {P : Int} {B : List Int} {c : Nat} {t : List S134} {m : S134} {p : Nat} (hlt : p < t.length) (hm : t[p] = m) (ho : oOk m = true) (hl : t.length ≤ 9) (st : List Bool) (a b : Bool) (hst : st.length ≤ 1000) (k : Nat) :
    impl_consents.l0 (k + 1) (c : Int) (st ++ [a, b]) t (t.length : Int) (p : Int) P B = impl_consents.l0 k (c : Int) (st ++ [if m.f0 = 2 then a || b else a && b]) t (t.length : Int) ((p + 1 : Nat) : Int) P B := by
  have ho' := oOk_iff.1 ho
  have hlen : (st ++ [a, b]).length = st.length + 2 := by simp
  have w2 : wrap64 (((st ++ [a, b]).length : Int) - 2) = (st.length : Int) := by rw [hlen, w64 (by omega) (by omega)]; omega
  have w1 : wrap64 (((st ++ [a, b]).length : Int) - 1) = (st.length : Int) + 1 := by rw [hlen, w64 (by omega) (by omega)]; omega
  have ht : (st ++ [a, b]).take ((st.length : Int)).toNat = st := by rw [show ((st.length : Int)).toNat = st.length from by omega]; simp
  rw [impl_consents.l0, if_pos (by omega), if_pos (by omega), if_pos (by omega), rdM hlt, hm, if_neg (by omega), w2, w1, if_pos (by omega), if_pos (by omega), if_pos (by omega), if_pos (by omega), rdB, rdB1, w64s p (by omega), ht]
  have hle : (st.length : Int) ≤ ((st ++ [a, b]).length : Int) := by omega
  cases a with
  | true =>
    rw [if_pos rfl]
    by_cases h2 : m.f0 = 2
    · rw [if_pos h2, if_pos hle, bnd rfl, if_pos (by omega), if_pos h2]; rfl
    · rw [if_neg h2, if_pos hle, bnd rfl, if_pos (by omega), if_neg h2]; simp
  | false =>
    rw [if_neg (by simp)]
    by_cases h2 : m.f0 = 2
    · rw [if_pos h2, if_pos hle, bnd rfl, if_pos (by omega), if_pos h2]; simp
    · rw [if_neg h2, if_pos hle, bnd rfl, if_pos (by omega), if_neg h2]; simp
theorem consents_T {P : Int} {B : List Int} (h : hOk P B = true) {c : Nat} (hc : c < 64) : ∀ (T : TR), okT B T → ∀ (t : List S134) (xs ys : List S134) (st : List Bool) (k : Nat), t = xs ++ (flat T ++ ys) → t.length ≤ 9 → st.length + (flat T).length ≤ 1000 →
    impl_consents.l0 (k + (flat T).length) (c : Int) st t (t.length : Int) (xs.length : Int) P B = impl_consents.l0 k (c : Int) (st ++ [val B c T]) t (t.length : Int) ((xs.length + (flat T).length : Nat) : Int) P B := by
  intro T
  induction T with
  | «at» m =>
    intro hok t xs ys st k ht hl hst
    have ha : aOk B m = true := hok
    have ha' := aOk_iff.1 ha
    have hlt : xs.length < t.length := by rw [ht]; simp [flat]
    have hm : t[xs.length] = m := by subst ht; simp [flat]
    simp only [flat, List.length_singleton] at hst
    show impl_consents.l0 (k + 1) _ _ _ _ _ _ _ = _
    rw [impl_consents.l0, if_pos (by omega), if_pos (by omega), if_pos (by omega), rdM hlt, hm, if_pos ha'.1, if_pos ha'.2.1, if_pos ha'.2.2.1, sat_f h ha hc, bnd rfl, if_pos (by omega), w64s _ (by omega)]
    rfl
  | op m l r ihl ihr =>
    intro hok t xs ys st k ht hl hst
    obtain ⟨ho, hL, hR⟩ := hok
    have hlen : (flat (.op m l r)).length = (flat l).length + ((flat r).length + 1) := by simp [flat]
    have pl := flat_pos l
    have htl : t.length = xs.length + ((flat l).length + ((flat r).length + 1) + ys.length) := by rw [ht]; simp [flat]; omega
    have e1 := ihl hL t xs (flat r ++ [m] ++ ys) st (k + ((flat r).length + 1)) (by rw [ht]; simp [flat]) hl (by omega)
    have e2 := ihr hR t (xs ++ flat l) ([m] ++ ys) (st ++ [val B c l]) (k + 1) (by rw [ht]; simp [flat]) hl (by simp only [List.length_append, List.length_singleton]; omega)
    have hlt : (xs ++ flat l).length + (flat r).length < t.length := by simp only [List.length_append]; omega
    have hm : t[(xs ++ flat l).length + (flat r).length] = m := by
      exact List.getElem_of_append (l₁ := xs ++ flat l ++ flat r) (l₂ := ys) (by rw [ht]; simp [flat]) (by simp only [List.length_append])
    rw [hlen, show k + ((flat l).length + ((flat r).length + 1)) = (k + ((flat r).length + 1)) + (flat l).length from by omega, e1]
    rw [show ((xs.length + (flat l).length : Nat) : Int) = ((xs ++ flat l).length : Int) from by simp, show k + ((flat r).length + 1) = (k + 1) + (flat r).length from by omega, e2]
    rw [List.append_assoc]
    have := consents_op (P := P) (B := B) (c := c) hlt hm ho hl st (val B c l) (val B c r) (by omega) k
    rw [show (xs.length + ((flat l).length + ((flat r).length + 1)) : Nat) = (xs ++ flat l).length + (flat r).length + 1 from by simp only [List.length_append]; omega]
    exact this
theorem consents_f {P : Int} {B : List Int} (h : hOk P B = true) {T : TR} (hT : okT B T) (hl : (flat T).length ≤ 9) {c : Nat} (hc : c < 64) {k : Nat} (hk : 20 < k) : impl_consents.f k P B (flat T) (c : Int) = some (val B c T) := by
  obtain ⟨j, rfl⟩ : ∃ j, k = (j + 1) + (flat T).length := ⟨k - 1 - (flat T).length, by omega⟩
  unfold impl_consents.f
  have := consents_T h hc T hT (flat T) [] [] [] (j + 1) (by simp) hl (by simp; omega)
  have e : impl_consents.l0 (j + 1 + (flat T).length) (c : Int) [] (flat T) ((flat T).length : Int) 0 P B = _ := this
  rw [e, impl_consents.l0, if_neg (by simp), if_pos (by simp)]
  rfl

/-! ### heads and terms, as the reference has them -/
set_option maxRecDepth 100000 in
theorem l1Heads_all : ∀ c : Fin 64, spec_l1Heads.f 8 ((c.val : Nat) : Int) = some ((hd c.val : Nat) : Int) := by decide +kernel
theorem l1Heads_f {c : Nat} (h : c < 64) {k : Nat} (hk : 8 ≤ k) : spec_l1Heads.f k (c : Int) = some (hd c : Int) :=
  at_rounds (fun j => spec_l1Heads.mono _ j) hk (l1Heads_all ⟨c, h⟩)
theorem l1Heads_l : ∀ (d : Nat) (x n : Int) (k : Nat), x < ((2 ^ d : Nat) : Int) → x < 9223372036854775808 → 0 ≤ n → n + d < 1000 → d < k → ∃ r, spec_l1Heads.l0 k x n = some r ∧ 0 ≤ r ∧ r < 1000 := by
  intro d
  induction d with
  | zero =>
    intro x n k hx _ h0 hn hk
    obtain ⟨k, rfl, _⟩ := fuel hk
    have hx0 : x < 1 := hx
    rw [spec_l1Heads.l0, if_neg (by omega)]
    exact ⟨n, rfl, h0, by omega⟩
  | succ d ih =>
    intro x n k hx hb h0 hn hk
    obtain ⟨k, rfl, _⟩ := fuel hk
    rw [spec_l1Heads.l0]
    by_cases h : x > 0
    · have e1 : Int.tdiv x 2 = x / 2 := Int.tdiv_eq_ediv_of_nonneg (by omega)
      have e2 : Int.tmod x 2 = x % 2 := Int.tmod_eq_emod_of_nonneg (by omega)
      rw [if_pos h, e1, e2, w64 (x := x / 2) (by omega) (by omega), w64 (by omega) (by omega)]
      refine ih _ _ k ?_ (by omega) (by omega) (by omega) (by omega)
      rw [Nat.pow_succ] at hx
      omega
    · rw [if_neg h]; exact ⟨n, rfl, h0, by omega⟩
theorem l1Heads_any {x : Int} (hx : x < 9223372036854775808) {k : Nat} (hk : 64 < k) : ∃ r, spec_l1Heads.f k x = some r ∧ 0 ≤ r ∧ r < 1000 :=
  l1Heads_l 63 x 0 k (by rw [show ((2 ^ 63 : Nat) : Int) = 9223372036854775808 by decide]; exact hx) hx (by omega) (by omega) (by omega)
theorem l1HeadsI_f {P : Int} {B : List Int} (h : hOk P B = true) {i : Int} (h0 : 0 ≤ i) (h1 : i < (B.length : Int)) {k : Nat} (hk : 8 ≤ k) : spec_l1Heads.f k (rd B i) = some (hdI (rd B i)) := by
  have hm := hOk_mem h (rd_mem h0 h1)
  have e := l1Heads_f (c := (rd B i).toNat) (by omega) hk
  rw [show (((rd B i).toNat : Nat) : Int) = rd B i from by omega] at e
  exact e
theorem oOk_eq (m : S134) : ((m.f0 == 1 && (m.f1 == 0 && (m.f2 == 0))) = true ∨ (m.f0 == 2 && (m.f1 == 0 && (m.f2 == 0))) = true) ↔ oOk m = true := by
  rw [oOk_iff]
  simp only [Bool.and_eq_true, beq_iff_eq]
  omega
theorem sTerm_end {P : Int} {B : List Int} {t : List S134} {p i k : Nat} (hB : B.length < 1152921504606846976) (hi : i = t.length) (hl : t.length < 1152921504606846976) (hk : B.length + 1 < k) :
    spec_TermOk.l0 k t (p : Int) (i : Int) P B = some (hOk P B && (decide (p = 1) && decide (t.length ≤ 9))) := by
  obtain ⟨k, rfl, hk'⟩ := fuel hk
  rw [spec_TermOk.l0, if_neg (by omega), sHouse_f P B (by omega) (by omega), bnd rfl]
  by_cases h : hOk P B = true
  · rw [if_pos h, h]
    by_cases e : p = 1
    · rw [if_pos (by omega), decide_eq_true e, show decide ((t.length : Int) ≤ 9) = decide (t.length ≤ 9) from decide_eq_decide.2 (by omega)]; simp
    · rw [if_neg (by omega), decide_eq_false e]; simp
  · rw [if_neg h, bfalse h]; rfl
theorem sTerm_l {P : Int} {B : List Int} (h : hOk P B = true) (t : List S134) (hl : t.length < 1152921504606846976) : ∀ (d i p k : Nat), i + d = t.length → p ≤ i → 2 * d + 60 < k →
    spec_TermOk.l0 k t (p : Int) (i : Int) P B = some ((scan B p (t.drop i) == some 1) && decide (t.length ≤ 9)) := by
  have hB := hOk_len h
  intro d
  induction d with
  | zero =>
    intro i p k hi hp hk
    rw [sTerm_end (by omega) (by omega) hl (by omega), h, List.drop_eq_nil_of_le (by omega)]
    simp only [scan]
    by_cases e : p = 1
    · subst e; rfl
    · rw [decide_eq_false e, beq_eq_false_iff_ne.2 (show some p ≠ some 1 by simpa using e)]; rfl
  | succ d ih =>
    intro i p k hi hp hk
    obtain ⟨k, rfl, hk1⟩ := fuel hk
    obtain ⟨k, rfl, hk2⟩ := fuel (show 2 * d + 61 < k by omega)
    have hlt : i < t.length := by omega
    rw [spec_TermOk.l0, if_pos (by omega), if_pos (by omega), rdM hlt, List.drop_eq_getElem_cons hlt]
    have hr : rd_T134 t (i : Int) = t[i] := rdM hlt
    generalize t[i] = m at *
    simp only [scan]
    have no : aOk B m = false → spec_TermOk.j1 (k + 1) t (p : Int) (i : Int) false P B = some (((if aOk B m = true then scan B (p + 1) (t.drop (i + 1)) else if oOk m = true ∧ 2 ≤ p then scan B (p - 1) (t.drop (i + 1)) else none) == some 1) && decide (t.length ≤ 9)) := by
      intro ha
      rw [spec_TermOk.j1, if_neg (by simp), if_pos (by omega), if_pos (by omega), hr, if_neg (show ¬ aOk B m = true by rw [ha]; simp)]
      have hoe := oOk_eq m
      have go : oOk m = true → (if (p : Int) ≥ 2 then spec_TermOk.l0 k t (wrap64 ((p : Int) - 1)) (wrap64 ((i : Int) + 1)) P B else some false) = some (((if oOk m = true ∧ 2 ≤ p then scan B (p - 1) (t.drop (i + 1)) else none) == some 1) && decide (t.length ≤ 9)) := by
        intro ho
        by_cases hp2 : (p : Int) ≥ 2
        · rw [if_pos hp2, if_pos ⟨ho, by omega⟩, w64s i (by omega), w64 (by omega) (by omega), show (p : Int) - 1 = ((p - 1 : Nat) : Int) from by omega]
          exact ih (i + 1) (p - 1) k (by omega) (by omega) (by omega)
        · rw [if_neg hp2, if_neg (fun x => hp2 (by omega))]; rfl
      by_cases h1 : (m.f0 == 1 && (m.f1 == 0 && (m.f2 == 0))) = true
      · rw [if_pos h1]; exact go (hoe.1 (.inl h1))
      · rw [if_neg h1]
        by_cases h2 : (m.f0 == 2 && (m.f1 == 0 && (m.f2 == 0))) = true
        · rw [if_pos h2]; exact go (hoe.1 (.inr h2))
        · rw [if_neg h2, if_neg (show ¬ (oOk m = true ∧ 2 ≤ p) from fun x => (hoe.2 x.1).elim h1 h2)]; rfl
    by_cases e0 : m.f0 = 0
    · rw [if_pos e0]
      unfold spec_l1In.f
      rw [w64 (x := (B.length : Int) - 1) (by omega) (by omega)]
      by_cases e1 : m.f1 ≥ 0
      · rw [if_pos e1, bnd rfl]
        by_cases e2 : m.f1 ≤ (B.length : Int) - 1
        · rw [decide_eq_true e2, if_pos rfl, if_pos e1, if_pos (by omega), l1HeadsI_f h e1 (by omega) (by omega), bnd rfl]
          by_cases e3 : m.f2 ≥ 1
          · rw [if_pos e3, bnd rfl]
            by_cases e4 : m.f2 ≤ hdI (rd B m.f1)
            · have ha : aOk B m = true := by rw [aOk_iff]; omega
              rw [decide_eq_true e4, spec_TermOk.j1, if_pos rfl, if_pos ha, w64s i (by omega), w64s p (by omega)]
              exact ih (i + 1) (p + 1) k (by omega) (by omega) (by omega)
            · rw [decide_eq_false e4]; exact no (bfalse (fun x => by rw [aOk_iff] at x; omega))
          · rw [if_neg e3, bnd rfl]; exact no (bfalse (fun x => by rw [aOk_iff] at x; omega))
        · rw [decide_eq_false e2, if_neg (by simp)]; exact no (bfalse (fun x => by rw [aOk_iff] at x; omega))
      · rw [if_neg e1, bnd rfl, if_neg (by simp)]; exact no (bfalse (fun x => by rw [aOk_iff] at x; omega))
    · rw [if_neg e0]; exact no (bfalse (fun x => by rw [aOk_iff] at x; omega))
/-- Of no house there is no term. -/
theorem sTerm_no {P : Int} {B : List Int} (h : hOk P B = false) (hB : B.length < 1152921504606846976) (hw : ∀ b ∈ B, b < 9223372036854775808) (t : List S134) (hl : t.length < 1152921504606846976) : ∀ (d i p k : Nat), i + d = t.length → p ≤ i → 2 * d + B.length + 70 < k →
    spec_TermOk.l0 k t (p : Int) (i : Int) P B = some false := by
  intro d
  induction d with
  | zero =>
    intro i p k hi hp hk
    rw [sTerm_end hB (by omega) hl (by omega), h]; rfl
  | succ d ih =>
    intro i p k hi hp hk
    obtain ⟨k, rfl, hk1⟩ := fuel hk
    obtain ⟨k, rfl, hk2⟩ := fuel (show 2 * d + B.length + 71 < k by omega)
    have hlt : i < t.length := by omega
    have hr : rd_T134 t (i : Int) = t[i] := rdM hlt
    rw [spec_TermOk.l0, if_pos (by omega), if_pos (by omega), hr]
    generalize t[i] = m at *
    have no : ∀ b : Bool, spec_TermOk.j1 (k + 1) t (p : Int) (i : Int) b P B = some false := by
      intro b
      rw [spec_TermOk.j1]
      by_cases hb : b = true
      · rw [if_pos hb, w64s i (by omega), w64s p (by omega)]
        exact ih (i + 1) (p + 1) k (by omega) (by omega) (by omega)
      · rw [if_neg hb, if_pos (by omega), if_pos (by omega), hr]
        have go : (if (p : Int) ≥ 2 then spec_TermOk.l0 k t (wrap64 ((p : Int) - 1)) (wrap64 ((i : Int) + 1)) P B else some false) = some false := by
          by_cases hp2 : (p : Int) ≥ 2
          · rw [if_pos hp2, w64s i (by omega), w64 (by omega) (by omega), show (p : Int) - 1 = ((p - 1 : Nat) : Int) from by omega]
            exact ih (i + 1) (p - 1) k (by omega) (by omega) (by omega)
          · rw [if_neg hp2]
        split
        · exact go
        · split
          · exact go
          · rfl
    by_cases e0 : m.f0 = 0
    · rw [if_pos e0]
      unfold spec_l1In.f
      rw [w64 (x := (B.length : Int) - 1) (by omega) (by omega)]
      by_cases e1 : m.f1 ≥ 0
      · rw [if_pos e1, bnd rfl]
        by_cases e2 : m.f1 ≤ (B.length : Int) - 1
        · obtain ⟨r, er, _, _⟩ := l1Heads_any (hw _ (rd_mem e1 (show m.f1 < (B.length : Int) by omega))) (k := k + 1) (by omega)
          rw [decide_eq_true e2, if_pos rfl, if_pos e1, if_pos (by omega), er, bnd rfl]
          split
          · rw [bnd rfl]; exact no _
          · rw [bnd rfl]; exact no _
        · rw [decide_eq_false e2, if_neg (by simp)]; exact no _
      · rw [if_neg e1, bnd rfl, if_neg (by simp)]; exact no _
    · rw [if_neg e0]; exact no _
theorem sTerm_f (P : Int) (B : List Int) (t : List S134) (hB : B.length < 1152921504606846976) (hw : ∀ b ∈ B, b < 9223372036854775808) (hl : t.length < 1152921504606846976) {k : Nat} (hk : 2 * t.length + B.length + 70 < k) : spec_TermOk.f k P B t = some (tmOk P B t) := by
  unfold spec_TermOk.f tmOk
  by_cases h : hOk P B = true
  · have := sTerm_l h t hl t.length 0 0 k (by omega) (by omega) (by omega)
    have e : spec_TermOk.l0 k t 0 0 P B = _ := this
    rw [e, h, List.drop_zero, Bool.and_comm (decide _)]; rfl
  · have := sTerm_no (bfalse h) hB hw t hl t.length 0 0 k (by omega) (by omega) (by omega)
    have e : spec_TermOk.l0 k t 0 0 P B = _ := this
    rw [e, bfalse h]; rfl

/-! ### what the reference says of a term -/
theorem starts_T {B : List Int} : ∀ (T : TR), okT B T → ∀ (t xs ys : List S134) (n k : Nat), t = xs ++ (flat T ++ ys) → t.length ≤ 1000 → n + (flat T).length ≤ 2000 →
    spec_l3Starts.l0 (k + (flat T).length) t ((n : Int) + 1) ((xs.length : Int) + (flat T).length - 1) = spec_l3Starts.l0 k t (n : Int) ((xs.length : Int) - 1) := by
  intro T
  induction T with
  | «at» m =>
    intro hok t xs ys n k ht hl hn
    have ha' := aOk_iff.1 (show aOk B m = true from hok)
    have hlt : xs.length < t.length := by rw [ht]; simp [flat]
    have hm : t[xs.length] = m := by subst ht; simp [flat]
    show spec_l3Starts.l0 (k + 1) t ((n : Int) + 1) ((xs.length : Int) + ((1 : Nat) : Int) - 1) = _
    rw [show (xs.length : Int) + ((1 : Nat) : Int) - 1 = (xs.length : Int) from by omega, spec_l3Starts.l0, if_pos (by omega), if_pos (by omega), if_pos (by omega), rdM hlt, hm, if_pos ha'.1, w64 (by omega) (by omega), w64 (by omega) (by omega)]
    congr 1
    omega
  | op m l r ihl ihr =>
    intro hok t xs ys n k ht hl hn
    obtain ⟨ho, hL, hR⟩ := hok
    have ho' := oOk_iff.1 ho
    have hlen : (flat (.op m l r)).length = (flat l).length + ((flat r).length + 1) := by simp [flat]
    have htl : t.length = xs.length + ((flat l).length + ((flat r).length + 1) + ys.length) := by rw [ht]; simp [flat]; omega
    have hlt : (xs ++ flat l).length + (flat r).length < t.length := by simp only [List.length_append]; omega
    have hm : t[(xs ++ flat l).length + (flat r).length] = m := by
      exact List.getElem_of_append (l₁ := xs ++ flat l ++ flat r) (l₂ := ys) (by rw [ht]; simp [flat]) (by simp only [List.length_append])
    have pl := flat_pos l
    have e2 := ihr hR t (xs ++ flat l) ([m] ++ ys) (n + 1) (k + (flat l).length) (by rw [ht]; simp [flat]) hl (by omega)
    have e1 := ihl hL t xs (flat r ++ [m] ++ ys) n k (by rw [ht]; simp [flat]) hl (by omega)
    rw [hlen, show k + ((flat l).length + ((flat r).length + 1)) = (k + (flat l).length + (flat r).length) + 1 from by omega,
      show (xs.length : Int) + (((flat l).length + ((flat r).length + 1) : Nat) : Int) - 1 = (((xs ++ flat l).length + (flat r).length : Nat) : Int) from by simp only [List.length_append]; omega]
    rw [spec_l3Starts.l0, if_pos (by omega), if_pos (by omega), if_pos (by omega), rdM hlt, hm, if_neg (by omega), w64 (by omega) (by omega), w64 (by omega) (by omega)]
    rw [show (n : Int) + 1 + 1 = ((n + 1 : Nat) : Int) + 1 from by omega, show (((xs ++ flat l).length + (flat r).length : Nat) : Int) - 1 = ((xs ++ flat l).length : Int) + ((flat r).length : Int) - 1 from by omega, e2]
    rw [show ((n + 1 : Nat) : Int) = (n : Int) + 1 from by omega, show ((xs ++ flat l).length : Int) - 1 = (xs.length : Int) + ((flat l).length : Int) - 1 from by simp only [List.length_append]; omega, e1]
theorem starts_f {B : List Int} {r : TR} (hR : okT B r) (xs ys : List S134) (hl : (xs ++ (flat r ++ ys)).length ≤ 1000) {k : Nat} (hk : (flat r).length < k) :
    spec_l3Starts.f k (xs ++ (flat r ++ ys)) ((xs.length : Int) + (flat r).length - 1) = some (xs.length : Int) := by
  obtain ⟨j, rfl⟩ : ∃ j, k = (j + 1) + (flat r).length := ⟨k - 1 - (flat r).length, by omega⟩
  unfold spec_l3Starts.f
  have hl2 : (flat r).length ≤ 1000 := by simp only [List.length_append] at hl; omega
  have hl3 : xs.length ≤ 1000 := by simp only [List.length_append] at hl; omega
  have := starts_T r hR _ xs ys 0 (j + 1) rfl hl (by omega)
  have e : spec_l3Starts.l0 (j + 1 + (flat r).length) (xs ++ (flat r ++ ys)) 1 ((xs.length : Int) + (flat r).length - 1) = _ := this
  rw [e, spec_l3Starts.l0, if_neg (by omega), w64 (by omega) (by omega)]
  congr 1
  omega
theorem ssat_f {P : Int} {B : List Int} (h : hOk P B = true) {m : S134} (ha : aOk B m = true) {c : Nat} (hc : c < 64) {k : Nat} (hk : 8 ≤ k) :
    spec_l1Heads.f k (Go.bits .and .i64 (c : Int) (rd B m.f1)) = some ((hd ((rd B m.f1).toNat &&& c) : Nat) : Int) := by
  rw [aOk_iff] at ha
  have hm := hOk_mem h (rd_mem ha.2.1 ha.2.2.1)
  obtain ⟨b, eb⟩ := Int.eq_ofNat_of_zero_le (show 0 ≤ rd B m.f1 by omega)
  rw [eb, band (lt62 (n := 6) (by omega) (by omega)) (lt62 (n := 6) (by omega) (by omega)), show ((b : Int)).toNat = b from by omega, Nat.and_comm]
  exact l1Heads_f (Nat.lt_of_le_of_lt Nat.and_le_right hc) hk
theorem says_T {P : Int} {B : List Int} (h : hOk P B = true) {c : Nat} (hc : c < 64) : ∀ (T : TR), okT B T → (flat T).length ≤ 1000 → ∀ k, (flat T).length + 20 ≤ k → spec_l4Says.f k P B (flat T) (c : Int) = some (val B c T) := by
  intro T
  induction T with
  | «at» m =>
    intro hok _ k hk
    obtain ⟨k, rfl, hk'⟩ := fuel (show 20 < k by simp only [flat, List.length_singleton] at hk; omega)
    have ha : aOk B m = true := hok
    have ha' := aOk_iff.1 ha
    have hrd : rd_T134 (flat (.at m)) ((0 : Nat) : Int) = m := rdM (l := [m]) (by simp)
    have hw : wrap64 (((flat (.at m)).length : Int) - 1) = ((0 : Nat) : Int) := by rw [show (flat (.at m)).length = 1 from rfl, w64 (by omega) (by omega)]; rfl
    rw [spec_l4Says.f, hw, hrd, if_pos (by omega), if_pos (by simp [flat]), if_pos ha'.1, if_pos ha'.2.1, if_pos ha'.2.2.1, ssat_f h ha hc (by omega), bnd rfl]
    rfl
  | op m l r ihl ihr =>
    intro hok hl k hk
    obtain ⟨ho, hL, hR⟩ := hok
    have ho' := oOk_iff.1 ho
    have hlen : (flat (.op m l r)).length = (flat l).length + ((flat r).length + 1) := by simp [flat]
    have pl := flat_pos l
    have pr := flat_pos r
    rw [hlen] at hl hk
    obtain ⟨k, rfl, hk'⟩ := fuel (show (flat l).length + (flat r).length + 20 < k by omega)
    have hrd : rd_T134 (flat (.op m l r)) (((flat l).length + (flat r).length : Nat) : Int) = m := by
      rw [rdM (by omega)]
      exact List.getElem_of_append (l₁ := flat l ++ flat r) (l₂ := []) (by simp [flat]) (by simp only [List.length_append])
    have hw : wrap64 (((flat (.op m l r)).length : Int) - 1) = (((flat l).length + (flat r).length : Nat) : Int) := by rw [hlen, w64 (by omega) (by omega)]; omega
    have hw2 : wrap64 ((((flat l).length + (flat r).length : Nat) : Int) - 1) = ((flat l).length : Int) + (flat r).length - 1 := by rw [w64 (by omega) (by omega)]; omega
    have hst : spec_l3Starts.f k (flat (.op m l r)) (((flat l).length : Int) + (flat r).length - 1) = some ((flat l).length : Int) :=
      starts_f hR (flat l) [m] (by simp only [List.length_append, List.length_singleton]; omega) (by omega)
    have t1 : (flat (.op m l r)).take (((flat l).length : Int)).toNat = flat l := by
      rw [show (((flat l).length : Int)).toNat = (flat l).length from by omega]; simp [flat]
    have t2 : ((flat (.op m l r)).take ((((flat l).length + (flat r).length : Nat) : Int)).toNat).drop (((flat l).length : Int)).toNat = flat r := by
      rw [show (((flat l).length : Int)).toNat = (flat l).length from by omega, show ((((flat l).length + (flat r).length : Nat) : Int)).toNat = (flat l ++ flat r).length from by simp only [List.length_append]; omega]
      have : flat (.op m l r) = (flat l ++ flat r) ++ [m] := by simp [flat]
      rw [this, List.take_left, List.drop_left]
    have il := ihl hL (by omega) k (by omega)
    have ir := ihr hR (by omega) k (by omega)
    rw [spec_l4Says.f, hw, hrd, if_pos (by omega), if_pos (by omega), if_neg (by omega), hw2, hst, bnd rfl, t1, t2, il, ir]
    simp only [val]
    have c1 : ((flat l).length : Int) ≤ ((flat (.op m l r)).length : Int) := by omega
    have c2 : ((flat l).length : Int) ≤ (((flat l).length + (flat r).length : Nat) : Int) := by omega
    have c3 : ((((flat l).length + (flat r).length : Nat)) : Int) ≤ ((flat (.op m l r)).length : Int) := by omega
    by_cases h2 : m.f0 = 2
    · rw [if_pos h2, if_pos (by omega), if_pos c1, bnd rfl, if_pos h2]
      cases val B c l with
      | true => rw [if_pos rfl]; rfl
      | false => rw [if_neg (by simp), if_pos c2, if_pos c3, bnd rfl]; simp
    · rw [if_neg h2, if_pos (by omega), if_pos c1, bnd rfl, if_neg h2]
      cases val B c l with
      | true => rw [if_pos rfl, if_pos c2, if_pos c3, bnd rfl]; simp
      | false => rw [if_neg (by simp)]; rfl

/-! ### marks of a law's own type, turned to the program's -/
theorem rdLM {l : List S160} {i : Nat} (h : i < l.length) : rd_T160 l (i : Int) = l[i] := by
  unfold rd_T160; simp [List.getD_eq_getElem?_getD, List.getElem?_eq_getElem h]
def cvM (x : S160) : S134 := ⟨x.f0, x.f1, x.f2⟩
theorem toMarkS_l (l : List S160) (hl : l.length < 4611686018427387904) : ∀ (d i k : Nat) (m : List S134), i + d = l.length → d < k → m.length = l.length → m.take i = (l.map cvM).take i →
    laws_toMarkS.l0 k l m (i : Int) = some (l.map cvM) := by
  intro d
  induction d with
  | zero =>
    intro i k m hi hk hm he
    obtain ⟨k, rfl, _⟩ := fuel hk
    rw [laws_toMarkS.l0, if_neg (by omega)]
    rw [List.take_of_length_le (by omega), List.take_of_length_le (by simp; omega)] at he
    rw [he]
  | succ d ih =>
    intro i k m hi hk hm he
    obtain ⟨k, rfl, hk'⟩ := fuel hk
    have hlt : i < l.length := by omega
    rw [laws_toMarkS.l0, if_pos (by omega), if_pos (by omega), rdLM hlt]
    unfold laws_toMark.f
    rw [bnd rfl, if_pos (by omega), w64s i (by omega)]
    refine ih (i + 1) k _ (by omega) (by omega) (by simpa using hm) ?_
    rw [show ((i : Int)).toNat = i from by omega, List.take_succ_eq_append_getElem (by simp; omega), List.take_succ_eq_append_getElem (by simp; omega), List.take_set_of_le (Nat.le_refl _), he]
    simp [cvM]
theorem toMarkS_f (l : List S160) (hl : l.length ≤ 1048576) {k : Nat} (hk : l.length < k) : laws_toMarkS.f k l = some (l.map cvM) := by
  unfold laws_toMarkS.f
  rw [if_pos (by omega), if_pos (by omega)]
  exact toMarkS_l l (by omega) l.length 0 k _ (by omega) hk (by simp) (by simp)
theorem eqMark_f (a b c : Int) : laws_eqMark.f a b c a b c = some true := by
  unfold laws_eqMark.f; rw [if_pos rfl, if_pos rfl, if_pos rfl]
theorem eqMarkS_l (l : List S134) (hl : l.length < 4611686018427387904) : ∀ (d i k : Nat), i + d = l.length → d < k → laws_eqMarkS.l0 k l l (i : Int) = some true := by
  intro d
  induction d with
  | zero =>
    intro i k hi hk
    obtain ⟨k, rfl, _⟩ := fuel hk
    rw [laws_eqMarkS.l0, if_neg (by omega)]
  | succ d ih =>
    intro i k hi hk
    obtain ⟨k, rfl, hk'⟩ := fuel hk
    rw [laws_eqMarkS.l0, if_pos (by omega), if_pos (by omega), if_pos (by omega), eqMark_f, bnd rfl, if_pos rfl, w64s i (by omega)]
    exact ih (i + 1) k (by omega) (by omega)
theorem eqMarkS_f (l : List S134) (hl : l.length < 4611686018427387904) {k : Nat} (hk : l.length < k) : laws_eqMarkS.f k l l = some true := by
  unfold laws_eqMarkS.f
  rw [if_pos rfl]
  exact eqMarkS_l l hl l.length 0 k (by omega) hk
theorem szMarkS_f (l : List S160) {n : Int} (h0 : 0 ≤ n) (hn : n ≤ 1048576) (hl : l.length ≤ 9223372036854775807) : laws_szMarkS.f l n = some (if n < (l.length : Int) then -1 else n - (l.length : Int)) := by
  unfold laws_szMarkS.f
  rw [w64 (by omega) (by omega)]
  by_cases h : n < (l.length : Int)
  · rw [if_pos (by omega), if_pos h]
  · rw [if_neg (by omega), if_neg h]

theorem toHouse_f (P : Int) (B : List Int) (hl : B.length ≤ 1048576) {k : Nat} (hk : B.length < k) : laws_toHouse.f k P B = some (P, B) := by
  unfold laws_toHouse.f
  rw [toIntS_f B hl hk, bnd rfl]
theorem eqHouse_f (P : Int) (B : List Int) (hl : B.length < 4611686018427387904) {k : Nat} (hk : B.length < k) : laws_eqHouse.f k P B P B = some true := by
  unfold laws_eqHouse.f
  rw [if_pos rfl, eqIntS_f B hl hk, bnd rfl, if_pos rfl]
theorem szHouse_f (P : Int) (B : List Int) {n : Int} (h0 : 0 ≤ n) (hn : n ≤ 1048576) (hl : B.length ≤ 9223372036854775807) : laws_szHouse.f P B n = some (if n < (B.length : Int) then -1 else n - (B.length : Int)) := by
  unfold laws_szHouse.f laws_szIntS.f
  rw [w64 (by omega) (by omega)]
  by_cases h : n < (B.length : Int)
  · rw [if_pos (by omega), bnd rfl, if_pos (by omega), if_pos h]
  · rw [if_neg (by omega), bnd rfl, if_neg (by omega), if_neg h]

/-! ### charters and states, as the program has them -/
theorem rdV {l : List S86} {i : Nat} (h : i < l.length) : rd_T86 l (i : Int) = l[i] := by
  unfold rd_T86; simp [List.getD_eq_getElem?_getD, List.getElem?_eq_getElem h]
theorem rdC {l : List (List S86)} {i : Nat} (h : i < l.length) : rd_L9 l (i : Int) = l[i] := by
  unfold rd_L9; simp [List.getD_eq_getElem?_getD, List.getElem?_eq_getElem h]
/-- What a variant asks for is another clause's variant, or nothing. -/
def ifOk (C : List (List S86)) (i : Nat) (v : S86) : Bool :=
  (decide (v.f1 = -1) && decide (v.f2 = 0)) || (decide (0 ≤ v.f1) && (decide (v.f1 < (C.length : Int)) && (!decide (v.f1 = (i : Int)) && (decide (0 ≤ v.f2) && decide (v.f2 < ((rd_L9 C v.f1).length : Int))))))
def vOk (P : Int) (B : List Int) (C : List (List S86)) (i : Nat) (v : S86) : Bool := tmOk P B v.f0 && ifOk C i v
def clOk (P : Int) (B : List Int) (C : List (List S86)) (i : Nat) (L : List S86) : Bool := (decide (1 ≤ L.length) && decide (L.length ≤ 3)) && L.all (vOk P B C i)
/-- The clauses from the place i on. -/
def clsOk (P : Int) (B : List Int) (C : List (List S86)) : Nat → List (List S86) → Bool
  | _, [] => true
  | i, L :: r => clOk P B C i L && clsOk P B C (i + 1) r
def chOk (P : Int) (B : List Int) (C : List (List S86)) : Bool := hOk P B && ((decide (1 ≤ C.length) && decide (C.length ≤ 3)) && clsOk P B C 0 C)
theorem isCh_l1 {P : Int} {B : List Int} (hB : B.length < 1152921504606846976) {C L : List (List S86)} {X : List S86} (hC : C.length ≤ 3) (hX : X.length ≤ 3) (hm : ∀ v ∈ X, v.f0.length < 1152921504606846976) {n : Int} {i : Nat} (R : Bool) (b : Nat)
    (hR : ∀ k, b < k → impl_isCharter.l0 k L n (wrap64 ((i : Int) + 1)) P B C = some R) : ∀ (d j k : Nat), j + d = X.length → b + B.length + 60 + 3 * d < k →
    impl_isCharter.l1 k (i : Int) L n (i : Int) X (X.length : Int) (j : Int) P B C = some ((X.drop j).all (vOk P B C i) && R) := by
  intro d
  induction d with
  | zero =>
    intro j k hj hk
    obtain ⟨k, rfl, _⟩ := fuel hk
    rw [impl_isCharter.l1, if_neg (by omega), hR k (by omega), List.drop_eq_nil_of_le (by omega)]; rfl
  | succ d ih =>
    intro j k hj hk
    obtain ⟨k, rfl, hk1⟩ := fuel hk
    obtain ⟨k, rfl, hk2⟩ := fuel (show b + B.length + 60 + 3 * d + 1 < k by omega)
    have hlt : j < X.length := by omega
    have ih' := ih (j + 1) k (by omega) (by omega)
    rw [impl_isCharter.l1, if_pos (by omega), if_pos (by omega), if_pos (by omega), rdV hlt, List.drop_eq_getElem_cons hlt, List.all_cons]
    have hv := hm X[j] (List.getElem_mem hlt)
    generalize X[j] = v at *
    rw [isTerm_f P B v.f0 (by omega) (by omega) (by omega), bnd rfl]
    by_cases ht : tmOk P B v.f0 = true
    · rw [if_pos ht]
      have e : vOk P B C i v = ifOk C i v := by unfold vOk; rw [ht]; rfl
      rw [e]
      have key : impl_isCharter.j4 (k + 1) (i : Int) L n (i : Int) X (X.length : Int) (j : Int) (decide (v.f1 = -1) && (v.f2 == 0)) P B C v.f0 v.f1 v.f2 = some (ifOk C i v && (X.drop (j + 1)).all (vOk P B C i) && R) := by
        rw [impl_isCharter.j4, w64s j (by omega), ih']
        unfold ifOk
        by_cases h1 : (decide (v.f1 = -1) && (v.f2 == 0)) = true
        · rw [if_pos h1]
          simp only [Bool.and_eq_true, decide_eq_true_eq, beq_iff_eq] at h1
          simp [h1]
        · rw [if_neg h1]
          have hz : (decide (v.f1 = -1) && decide (v.f2 = 0)) = false := by
            apply bfalse; intro x; apply h1
            simp only [Bool.and_eq_true, decide_eq_true_eq, beq_iff_eq] at x ⊢; exact x
          rw [hz, Bool.false_or]
          by_cases a1 : v.f1 < 0
          · rw [if_pos a1, decide_eq_false (by omega : ¬ 0 ≤ v.f1)]; simp
          · rw [if_neg a1, decide_eq_true (by omega : 0 ≤ v.f1)]
            by_cases a2 : v.f1 ≥ (C.length : Int)
            · rw [if_pos a2, decide_eq_false (by omega : ¬ v.f1 < (C.length : Int))]; simp
            · rw [if_neg a2, decide_eq_true (by omega : v.f1 < (C.length : Int))]
              by_cases a3 : v.f1 = (i : Int)
              · rw [if_pos a3, decide_eq_true a3]; simp
              · rw [if_neg a3, decide_eq_false a3]
                by_cases a4 : v.f2 < 0
                · rw [if_pos a4, decide_eq_false (by omega : ¬ 0 ≤ v.f2)]; simp
                · rw [if_neg a4, if_pos (by omega), if_pos (by omega), decide_eq_true (by omega : 0 ≤ v.f2)]
                  by_cases a5 : v.f2 ≥ ((rd_L9 C v.f1).length : Int)
                  · rw [if_pos a5, decide_eq_false (by omega)]; simp
                  · rw [if_neg a5, decide_eq_true (by omega)]; simp
      by_cases h1 : v.f1 = -1
      · rw [if_pos h1]; rw [decide_eq_true h1, Bool.true_and] at key; exact key
      · rw [if_neg h1]; rw [decide_eq_false h1, Bool.false_and] at key; exact key
    · rw [if_neg ht]
      have e : vOk P B C i v = false := by unfold vOk; rw [bfalse ht]; rfl
      rw [e]; rfl
theorem isCh_l0 {P : Int} {B : List Int} (hB : B.length < 1152921504606846976) {C : List (List S86)} (hC : C.length ≤ 3) (hm : ∀ L ∈ C, ∀ v ∈ L, v.f0.length < 1152921504606846976) : ∀ (d i k : Nat), i + d = C.length → (d + 1) * (B.length + 100) < k →
    impl_isCharter.l0 k C (C.length : Int) (i : Int) P B C = some (clsOk P B C i (C.drop i)) := by
  intro d
  induction d with
  | zero =>
    intro i k hi hk
    obtain ⟨k, rfl, _⟩ := fuel hk
    rw [impl_isCharter.l0, if_neg (by omega), List.drop_eq_nil_of_le (by omega)]; rfl
  | succ d ih =>
    intro i k hi hk
    have hmul : (d + 1 + 1) * (B.length + 100) = (d + 1) * (B.length + 100) + (B.length + 100) := Nat.succ_mul _ _
    rw [hmul] at hk
    obtain ⟨k, rfl, hk1⟩ := fuel hk
    obtain ⟨k, rfl, hk2⟩ := fuel (show (d + 1) * (B.length + 100) + (B.length + 99) < k by omega)
    have hlt : i < C.length := by omega
    have hmi := hm C[i] (List.getElem_mem hlt)
    rw [impl_isCharter.l0, if_pos (by omega), if_pos (by omega), if_pos (by omega), rdC hlt, List.drop_eq_getElem_cons hlt]
    simp only [clsOk, clOk]
    have go : ∀ b : Bool, (b = true ↔ ¬ (1 ≤ C[i].length ∧ C[i].length ≤ 3)) → impl_isCharter.j2 (k + 1) (i : Int) C[i] C (C.length : Int) (i : Int) b P B C = some (((decide (1 ≤ C[i].length) && decide (C[i].length ≤ 3)) && C[i].all (vOk P B C i)) && clsOk P B C (i + 1) (C.drop (i + 1))) := by
      intro b hb
      rw [impl_isCharter.j2]
      by_cases h1 : b = true
      · have : (decide (1 ≤ C[i].length) && decide (C[i].length ≤ 3)) = false := by
          apply bfalse; intro x; simp only [Bool.and_eq_true, decide_eq_true_eq] at x; exact hb.1 h1 x
        rw [if_pos h1, this]; rfl
      · have hx : 1 ≤ C[i].length ∧ C[i].length ≤ 3 := Decidable.byContradiction fun x => h1 (hb.2 x)
        have hy : (decide (1 ≤ C[i].length) && decide (C[i].length ≤ 3)) = true := by simp only [Bool.and_eq_true, decide_eq_true_eq]; exact hx
        rw [if_neg h1, hy]
        have := isCh_l1 (P := P) (B := B) hB (C := C) (L := C) (X := C[i]) hC hx.2 hmi (n := (C.length : Int)) (i := i) (clsOk P B C (i + 1) (C.drop (i + 1))) ((d + 1) * (B.length + 100)) (by
          intro k' hk'
          rw [w64s i (by omega)]
          exact ih (i + 1) k' (by omega) hk') C[i].length 0 k (by omega) (by omega)
        simpa using this
    by_cases h1 : ((C[i]).length : Int) < 1
    · rw [if_pos h1]; exact go true ⟨fun _ => by omega, fun _ => rfl⟩
    · rw [if_neg h1]; exact go _ (by rw [decide_eq_true_iff]; omega)
/-- Lists of such lengths as memory may hold. -/
def cLen (C : List (List S86)) : Prop := ∀ L ∈ C, ∀ v ∈ L, v.f0.length < 1152921504606846976
theorem isCh_f (P : Int) (B : List Int) (C : List (List S86)) (hB : B.length < 1152921504606846976) (hC : C.length < 1152921504606846976) (hm : cLen C) {k : Nat} (hk : 4 * (B.length + 100) + 1 < k) : impl_isCharter.f k P B C = some (chOk P B C) := by
  obtain ⟨k, rfl, hk'⟩ := fuel hk
  unfold impl_isCharter.f chOk
  rw [isHouse_f P B (by omega) (by omega), bnd rfl]
  by_cases h : hOk P B = true
  · rw [if_pos h, h]
    by_cases h1 : (C.length : Int) < 1
    · rw [if_pos h1, impl_isCharter.j0, if_pos rfl, decide_eq_false (by omega : ¬ 1 ≤ C.length)]; rfl
    · rw [if_neg h1, impl_isCharter.j0, decide_eq_true (by omega : 1 ≤ C.length)]
      by_cases h2 : (C.length : Int) > 3
      · rw [if_pos (decide_eq_true h2), decide_eq_false (by omega : ¬ C.length ≤ 3)]; rfl
      · rw [if_neg (by simpa using h2), decide_eq_true (by omega : C.length ≤ 3)]
        have hmul : (C.length + 1) * (B.length + 100) ≤ 4 * (B.length + 100) := Nat.mul_le_mul_right _ (by omega)
        have := isCh_l0 (P := P) hB (by omega) hm C.length 0 k (by omega) (by omega)
        simpa using this
  · rw [if_neg h, bfalse h, impl_isCharter.j0, if_pos rfl]; rfl
theorem chOk_h {P : Int} {B : List Int} {C : List (List S86)} (h : chOk P B C = true) : hOk P B = true ∧ 1 ≤ C.length ∧ C.length ≤ 3 := by
  simp only [chOk, Bool.and_eq_true, decide_eq_true_eq] at h; exact ⟨h.1, h.2.1⟩
theorem clsOk_at {P : Int} {B : List Int} {C : List (List S86)} : ∀ (X : List (List S86)) (i j : Nat) (hj : j < X.length), clsOk P B C i X = true → clOk P B C (i + j) X[j] = true
  | L :: r, i, 0, _, h => by simp only [clsOk, Bool.and_eq_true] at h; exact h.1
  | L :: r, i, j + 1, hj, h => by
    simp only [clsOk, Bool.and_eq_true] at h
    have := clsOk_at r (i + 1) j (by simpa using hj) h.2
    rw [show i + (j + 1) = i + 1 + j from by omega]; exact this
theorem chOk_cl {P : Int} {B : List Int} {C : List (List S86)} (h : chOk P B C = true) {i : Nat} (hi : i < C.length) : 1 ≤ C[i].length ∧ C[i].length ≤ 3 ∧ ∀ v ∈ C[i], vOk P B C i v = true := by
  simp only [chOk, Bool.and_eq_true] at h
  have := clsOk_at C 0 i hi h.2.2
  simp only [clOk, Bool.and_eq_true, decide_eq_true_eq, List.all_eq_true, Nat.zero_add] at this
  exact ⟨this.1.1, this.1.2, this.2⟩
/-- A state has for each clause one of its variants. -/
def stIn (C : List (List S86)) (s : List Int) : Nat → List Int → Bool
  | _, [] => true
  | i, x :: r => (decide (0 ≤ x) && decide (x < ((rd_L9 C (i : Int)).length : Int))) && stIn C s (i + 1) r
def stOk (P : Int) (B : List Int) (C : List (List S86)) (s : List Int) : Bool := chOk P B C && (decide (s.length = C.length) && stIn C s 0 s)
theorem isSt_l0 {P : Int} {B : List Int} {C : List (List S86)} (hC : C.length ≤ 3) (hX : ∀ L ∈ C, L.length ≤ 3) {s : List Int} (hs : s.length = C.length) : ∀ (d i k : Nat), i + d = s.length → d < k →
    impl_isState.l0 k s (s.length : Int) (i : Int) P B C = some (stIn C s i (s.drop i)) := by
  intro d
  induction d with
  | zero =>
    intro i k hi hk
    obtain ⟨k, rfl, _⟩ := fuel hk
    rw [impl_isState.l0, if_neg (by omega), List.drop_eq_nil_of_le (by omega)]; rfl
  | succ d ih =>
    intro i k hi hk
    obtain ⟨k, rfl, hk1⟩ := fuel hk
    have hlt : i < s.length := by omega
    rw [impl_isState.l0, if_pos (by omega), if_pos (by omega), if_pos (by omega), rd_lt hlt, List.drop_eq_getElem_cons hlt]
    simp only [stIn]
    by_cases h1 : s[i] < 0
    · rw [if_pos h1, decide_eq_false (by omega : ¬ 0 ≤ s[i])]; rfl
    · rw [if_neg h1, if_pos (by omega), decide_eq_true (by omega : 0 ≤ s[i])]
      by_cases h2 : s[i] ≥ ((rd_L9 C (i : Int)).length : Int)
      · rw [if_pos h2, decide_eq_false (by omega)]; rfl
      · rw [if_neg h2, decide_eq_true (by omega), w64s i (by omega), ih (i + 1) k (by omega) (by omega)]; rfl
theorem isSt_f (P : Int) (B : List Int) (C : List (List S86)) (s : List Int) (hB : B.length < 1152921504606846976) (hC : C.length < 1152921504606846976) (hm : cLen C) {k : Nat} (hk : 4 * (B.length + 100) + 1 < k) : impl_isState.f k P B C s = some (stOk P B C s) := by
  unfold impl_isState.f stOk
  rw [isCh_f P B C hB hC hm hk, bnd rfl]
  obtain ⟨k, rfl, hk'⟩ := fuel hk
  by_cases h : chOk P B C = true
  · have hh := chOk_h h
    rw [if_pos h, h, impl_isState.j0]
    by_cases h1 : s.length = C.length
    · rw [if_neg (by simp [h1]), decide_eq_true h1]
      have := isSt_l0 (P := P) (B := B) (C := C) hh.2.2 (fun L hL => by
        obtain ⟨i, hi, rfl⟩ := List.getElem_of_mem hL
        exact (chOk_cl h hi).2.1) h1 s.length 0 k (by omega) (by omega)
      simpa using this
    · rw [if_pos (by simp; omega), decide_eq_false h1]; rfl
  · rw [if_neg h, bfalse h, impl_isState.j0, if_pos rfl]; rfl
theorem stIn_at {C : List (List S86)} {s : List Int} : ∀ (X : List Int) (i j : Nat) (hj : j < X.length), stIn C s i X = true → 0 ≤ X[j] ∧ X[j] < ((rd_L9 C ((i + j : Nat) : Int)).length : Int)
  | x :: r, i, 0, _, h => by simp only [stIn, Bool.and_eq_true, decide_eq_true_eq] at h; exact h.1
  | x :: r, i, j + 1, hj, h => by
    simp only [stIn, Bool.and_eq_true] at h
    have := stIn_at r (i + 1) j (by simpa using hj) h.2
    rw [show i + (j + 1) = i + 1 + j from by omega]; exact this
theorem stOk_at {P : Int} {B : List Int} {C : List (List S86)} {s : List Int} (h : stOk P B C s = true) : chOk P B C = true ∧ s.length = C.length ∧ ∀ i (hi : i < C.length) (hs : i < s.length), 0 ≤ s[i] ∧ s[i] < (C[i].length : Int) := by
  simp only [stOk, Bool.and_eq_true, decide_eq_true_eq] at h
  refine ⟨h.1, h.2.1, fun i hi hs => ?_⟩
  have := stIn_at s 0 i hs h.2.2
  rw [Nat.zero_add, rdC hi] at this
  exact this

/-! ### charters of a law's own type, turned to the program's -/
theorem rdLV {l : List S128} {i : Nat} (h : i < l.length) : rd_T128 l (i : Int) = l[i] := by
  unfold rd_T128; simp [List.getD_eq_getElem?_getD, List.getElem?_eq_getElem h]
theorem rdLC {l : List (List S128)} {i : Nat} (h : i < l.length) : rd_L4 l (i : Int) = l[i] := by
  unfold rd_L4; simp [List.getD_eq_getElem?_getD, List.getElem?_eq_getElem h]
def cvV (x : S128) : S86 := ⟨x.f0.map cvM, x.f1, x.f2⟩
def cvL (x : List S128) : List S86 := x.map cvV
theorem toVariant_f (x : S128) (h : x.f0.length ≤ 1048576) {k : Nat} (hk : x.f0.length < k) : laws_toVariant.f k x.f0 x.f1 x.f2 = some (x.f0.map cvM, x.f1, x.f2) := by
  unfold laws_toVariant.f; rw [toMarkS_f x.f0 h hk, bnd rfl]
theorem toVariantS_l (l : List S128) (hl : l.length < 4611686018427387904) (hx : ∀ x ∈ l, x.f0.length ≤ 1048576) : ∀ (d i k : Nat) (m : List S86), i + d = l.length → d + 1048577 < k → m.length = l.length → m.take i = (cvL l).take i →
    laws_toVariantS.l0 k l m (i : Int) = some (cvL l) := by
  intro d
  induction d with
  | zero =>
    intro i k m hi hk hm he
    obtain ⟨k, rfl, _⟩ := fuel hk
    rw [laws_toVariantS.l0, if_neg (by omega)]
    rw [List.take_of_length_le (by omega), List.take_of_length_le (by simp [cvL]; omega)] at he
    rw [he]
  | succ d ih =>
    intro i k m hi hk hm he
    obtain ⟨k, rfl, hk'⟩ := fuel hk
    have hlt : i < l.length := by omega
    have h := hx l[i] (List.getElem_mem hlt)
    rw [laws_toVariantS.l0, if_pos (by omega), if_pos (by omega), rdLV hlt, toVariant_f l[i] h (by omega), bnd rfl, if_pos (by omega), w64s i (by omega)]
    refine ih (i + 1) k _ (by omega) (by omega) (by simpa using hm) ?_
    rw [show ((i : Int)).toNat = i from by omega, List.take_succ_eq_append_getElem (by simp; omega), List.take_succ_eq_append_getElem (by simp [cvL]; omega), List.take_set_of_le (Nat.le_refl _), he]
    simp [cvL, cvV]
theorem toVariantS_f (l : List S128) (hl : l.length ≤ 1048576) (hx : ∀ x ∈ l, x.f0.length ≤ 1048576) {k : Nat} (hk : l.length + 1048577 < k) : laws_toVariantS.f k l = some (cvL l) := by
  unfold laws_toVariantS.f
  rw [if_pos (by omega), if_pos (by omega)]
  exact toVariantS_l l (by omega) hx l.length 0 k _ (by omega) hk (by simp) (by simp)
/-- Lists of a law's own that may be turned. -/
def sLen (C : List (List S128)) : Prop := ∀ L ∈ C, L.length ≤ 1048576 ∧ ∀ x ∈ L, x.f0.length ≤ 1048576
theorem toVariantSS_l (l : List (List S128)) (hl : l.length < 4611686018427387904) (hx : sLen l) : ∀ (d i k : Nat) (m : List (List S86)), i + d = l.length → d + 2097155 < k → m.length = l.length → m.take i = (l.map cvL).take i →
    laws_toVariantSS.l0 k l m (i : Int) = some (l.map cvL) := by
  intro d
  induction d with
  | zero =>
    intro i k m hi hk hm he
    obtain ⟨k, rfl, _⟩ := fuel hk
    rw [laws_toVariantSS.l0, if_neg (by omega)]
    rw [List.take_of_length_le (by omega), List.take_of_length_le (by simp; omega)] at he
    rw [he]
  | succ d ih =>
    intro i k m hi hk hm he
    obtain ⟨k, rfl, hk'⟩ := fuel hk
    have hlt : i < l.length := by omega
    have h := hx l[i] (List.getElem_mem hlt)
    rw [laws_toVariantSS.l0, if_pos (by omega), if_pos (by omega), rdLC hlt, toVariantS_f l[i] h.1 h.2 (by omega), bnd rfl, if_pos (by omega), w64s i (by omega)]
    refine ih (i + 1) k _ (by omega) (by omega) (by simpa using hm) ?_
    rw [show ((i : Int)).toNat = i from by omega, List.take_succ_eq_append_getElem (by simp; omega), List.take_succ_eq_append_getElem (by simp; omega), List.take_set_of_le (Nat.le_refl _), he]
    simp
theorem toCharter_f (P : Int) (B : List Int) (C : List (List S128)) (hB : B.length ≤ 1048576) (hC : C.length ≤ 1048576) (hx : sLen C) {k : Nat} (hk : 3145732 < k) : laws_toCharter.f k P B C = some (P, B, C.map cvL) := by
  unfold laws_toCharter.f
  rw [toHouse_f P B hB (by omega), bnd rfl]
  have : laws_toVariantSS.f k C = some (C.map cvL) := by
    unfold laws_toVariantSS.f
    rw [if_pos (by omega), if_pos (by omega)]
    exact toVariantSS_l C (by omega) hx C.length 0 k _ (by omega) (by omega) (by simp) (by simp)
  rw [bnd this]
theorem eqVariant_f (x : S86) (h : x.f0.length < 4611686018427387904) {k : Nat} (hk : x.f0.length < k) : laws_eqVariant.f k x.f0 x.f1 x.f2 x.f0 x.f1 x.f2 = some true := by
  unfold laws_eqVariant.f; rw [eqMarkS_f x.f0 h hk, bnd rfl, if_pos rfl, if_pos rfl, if_pos rfl]
theorem eqVariantS_l (l : List S86) (hl : l.length < 4611686018427387904) (hx : ∀ x ∈ l, x.f0.length ≤ 1048576) : ∀ (d i k : Nat), i + d = l.length → d + 1048577 < k → laws_eqVariantS.l0 k l l (i : Int) = some true := by
  intro d
  induction d with
  | zero =>
    intro i k hi hk
    obtain ⟨k, rfl, _⟩ := fuel hk
    rw [laws_eqVariantS.l0, if_neg (by omega)]
  | succ d ih =>
    intro i k hi hk
    obtain ⟨k, rfl, hk'⟩ := fuel hk
    have hlt : i < l.length := by omega
    have h := hx l[i] (List.getElem_mem hlt)
    rw [laws_eqVariantS.l0, if_pos (by omega), if_pos (by omega), if_pos (by omega), rdV hlt, eqVariant_f l[i] (by omega) (by omega), bnd rfl, if_pos rfl, w64s i (by omega)]
    exact ih (i + 1) k (by omega) (by omega)
theorem eqVariantSS_l (l : List (List S86)) (hl : l.length < 4611686018427387904) (hx : ∀ L ∈ l, L.length ≤ 1048576 ∧ ∀ x ∈ L, x.f0.length ≤ 1048576) : ∀ (d i k : Nat), i + d = l.length → d + 2097155 < k → laws_eqVariantSS.l0 k l l (i : Int) = some true := by
  intro d
  induction d with
  | zero =>
    intro i k hi hk
    obtain ⟨k, rfl, _⟩ := fuel hk
    rw [laws_eqVariantSS.l0, if_neg (by omega)]
  | succ d ih =>
    intro i k hi hk
    obtain ⟨k, rfl, hk'⟩ := fuel hk
    have hlt : i < l.length := by omega
    have h := hx l[i] (List.getElem_mem hlt)
    have e : laws_eqVariantS.f k l[i] l[i] = some true := by
      unfold laws_eqVariantS.f
      rw [if_pos rfl]
      exact eqVariantS_l l[i] (by omega) h.2 l[i].length 0 k (by omega) (by omega)
    rw [laws_eqVariantSS.l0, if_pos (by omega), if_pos (by omega), if_pos (by omega), rdC hlt, bnd e, if_pos rfl, w64s i (by omega)]
    exact ih (i + 1) k (by omega) (by omega)
theorem sLen_cv {C : List (List S128)} (h : sLen C) : ∀ L ∈ C.map cvL, L.length ≤ 1048576 ∧ ∀ x ∈ L, x.f0.length ≤ 1048576 := by
  intro L hL
  obtain ⟨M, hM, rfl⟩ := List.mem_map.1 hL
  have := h M hM
  refine ⟨by simpa [cvL] using this.1, fun x hx => ?_⟩
  obtain ⟨y, hy, rfl⟩ := List.mem_map.1 hx
  simpa [cvV] using this.2 y hy
theorem eqCharter_f (P : Int) (B : List Int) (C : List (List S86)) (hB : B.length ≤ 1048576) (hC : C.length ≤ 1048576) (hx : ∀ L ∈ C, L.length ≤ 1048576 ∧ ∀ x ∈ L, x.f0.length ≤ 1048576) {k : Nat} (hk : 3145732 < k) : laws_eqCharter.f k P B C P B C = some true := by
  unfold laws_eqCharter.f
  rw [eqHouse_f P B (by omega) (by omega), bnd rfl, if_pos rfl]
  have : laws_eqVariantSS.f k C C = some true := by
    unfold laws_eqVariantSS.f
    rw [if_pos rfl]
    exact eqVariantSS_l C (by omega) hx C.length 0 k (by omega) (by omega)
  rw [bnd this, if_pos rfl]
theorem szVariant_f (x : S128) {n : Int} (h0 : 0 ≤ n) (hn : n ≤ 1048576) (hl : x.f0.length ≤ 9223372036854775807) : laws_szVariant.f x.f0 x.f1 x.f2 n = some (if n < (x.f0.length : Int) then -1 else n - (x.f0.length : Int)) := by
  unfold laws_szVariant.f
  rw [szMarkS_f x.f0 h0 hn hl, bnd rfl]
  by_cases h : n < (x.f0.length : Int)
  · rw [if_pos h, if_pos (by omega)]
  · rw [if_neg h, if_neg (by omega)]
theorem szVariantS_l (l : List S128) (hl : l.length ≤ 1048576) (hm : ∀ x ∈ l, x.f0.length ≤ 9223372036854775807) : ∀ (d i k : Nat) (n : Int), i + d = l.length → d < k → 0 ≤ n → n ≤ 1048576 →
    ∃ r, laws_szVariantS.l0 k l n (i : Int) = some r ∧ r ≤ n ∧ -1 ≤ r ∧ (0 ≤ r → ∀ x ∈ l.drop i, x.f0.length ≤ 1048576) := by
  intro d
  induction d with
  | zero =>
    intro i k n hi hk h0 hn
    obtain ⟨k, rfl, _⟩ := fuel hk
    refine ⟨n, ?_, by omega, by omega, fun _ x hx => ?_⟩
    · rw [laws_szVariantS.l0, if_neg (by omega)]
    · rw [List.drop_eq_nil_of_le (by omega)] at hx; cases hx
  | succ d ih =>
    intro i k n hi hk h0 hn
    obtain ⟨k, rfl, hk'⟩ := fuel hk
    have hlt : i < l.length := by omega
    rw [laws_szVariantS.l0, if_pos (by omega), if_pos (by omega), rdLV hlt, szVariant_f l[i] h0 hn (hm _ (List.getElem_mem hlt)), bnd rfl]
    by_cases h : n < (l[i].f0.length : Int)
    · rw [if_pos h, if_pos (by omega)]; exact ⟨-1, rfl, by omega, by omega, fun h => by omega⟩
    · rw [if_neg h, if_neg (by omega), w64s i (by omega)]
      obtain ⟨r, e, r1, r2, r3⟩ := ih (i + 1) k (n - (l[i].f0.length : Int)) (by omega) (by omega) (by omega) (by omega)
      refine ⟨r, e, by omega, r2, fun hr x hx => ?_⟩
      rw [List.drop_eq_getElem_cons hlt] at hx
      rcases List.mem_cons.1 hx with rfl | hx
      · omega
      · exact r3 hr x hx
theorem szVariantS_f (l : List S128) (hl : l.length ≤ 9223372036854775807) (hm : ∀ x ∈ l, x.f0.length ≤ 9223372036854775807) {n : Int} (h0 : 0 ≤ n) (hn : n ≤ 1048576) {k : Nat} (hk : 1048577 < k) :
    ∃ r, laws_szVariantS.f k l n = some r ∧ r ≤ n ∧ -1 ≤ r ∧ (0 ≤ r → l.length ≤ 1048576 ∧ ∀ x ∈ l, x.f0.length ≤ 1048576) := by
  unfold laws_szVariantS.f
  rw [w64 (by omega) (by omega)]
  by_cases h : n - (l.length : Int) < 0
  · rw [if_pos h]; exact ⟨-1, rfl, by omega, by omega, fun h => by omega⟩
  · rw [if_neg h]
    obtain ⟨r, e, r1, r2, r3⟩ := szVariantS_l l (by omega) hm l.length 0 k (n - (l.length : Int)) (by omega) (by omega) (by omega) (by omega)
    exact ⟨r, e, by omega, r2, fun hr => ⟨by omega, by simpa using r3 hr⟩⟩
/-- Lists of lengths that a slice may have. -/
def mLen (C : List (List S128)) : Prop := ∀ L ∈ C, L.length ≤ 9223372036854775807 ∧ ∀ x ∈ L, x.f0.length ≤ 9223372036854775807
theorem szVariantSS_l (l : List (List S128)) (hl : l.length ≤ 1048576) (hm : mLen l) : ∀ (d i k : Nat) (n : Int), i + d = l.length → d + 1048577 < k → 0 ≤ n → n ≤ 1048576 →
    ∃ r, laws_szVariantSS.l0 k l n (i : Int) = some r ∧ r ≤ n ∧ -1 ≤ r ∧ (0 ≤ r → sLen (l.drop i)) := by
  intro d
  induction d with
  | zero =>
    intro i k n hi hk h0 hn
    obtain ⟨k, rfl, _⟩ := fuel hk
    refine ⟨n, ?_, by omega, by omega, fun _ x hx => ?_⟩
    · rw [laws_szVariantSS.l0, if_neg (by omega)]
    · rw [List.drop_eq_nil_of_le (by omega)] at hx; cases hx
  | succ d ih =>
    intro i k n hi hk h0 hn
    obtain ⟨k, rfl, hk'⟩ := fuel hk
    have hlt : i < l.length := by omega
    have hmi := hm l[i] (List.getElem_mem hlt)
    obtain ⟨q, eq, q1, q2, q3⟩ := szVariantS_f l[i] hmi.1 hmi.2 h0 hn (k := k) (by omega)
    rw [laws_szVariantSS.l0, if_pos (by omega), if_pos (by omega), rdLC hlt, bnd eq]
    by_cases h : q < 0
    · rw [if_pos h]; exact ⟨-1, rfl, by omega, by omega, fun h => by omega⟩
    · rw [if_neg h, w64s i (by omega)]
      obtain ⟨r, e, r1, r2, r3⟩ := ih (i + 1) k q (by omega) (by omega) (by omega) (by omega)
      refine ⟨r, e, by omega, r2, fun hr x hx => ?_⟩
      rw [List.drop_eq_getElem_cons hlt] at hx
      rcases List.mem_cons.1 hx with rfl | hx
      · exact q3 (by omega)
      · exact r3 hr x hx
theorem szCharter_g (P : Int) (B : List Int) (C : List (List S128)) (hB : B.length ≤ 9223372036854775807) (hC : C.length ≤ 9223372036854775807) (hm : mLen C) {k : Nat} (hk : 3145732 < k) :
    ∃ r, laws_szCharter.f k P B C 1048576 = some r ∧ r ≤ 1048576 ∧ (0 ≤ r → B.length ≤ 1048576 ∧ C.length ≤ 1048576 ∧ sLen C) := by
  unfold laws_szCharter.f
  rw [szHouse_f P B (by omega) (by omega) hB, bnd rfl]
  by_cases h1 : (1048576 : Int) < (B.length : Int)
  · rw [if_pos h1, if_pos (by omega)]; exact ⟨-1, rfl, by omega, fun h => by omega⟩
  · rw [if_neg h1, if_neg (by omega)]
    unfold laws_szVariantSS.f
    rw [w64 (by omega) (by omega)]
    by_cases h2 : (1048576 : Int) - (B.length : Int) - (C.length : Int) < 0
    · rw [if_pos h2, bnd rfl, if_pos (by omega)]; exact ⟨-1, rfl, by omega, fun h => by omega⟩
    · rw [if_neg h2]
      obtain ⟨r, e, r1, r2, r3⟩ := szVariantSS_l C (by omega) hm C.length 0 k ((1048576 : Int) - (B.length : Int) - (C.length : Int)) (by omega) (by omega) (by omega) (by omega)
      have e' : laws_szVariantSS.l0 k C ((1048576 : Int) - (B.length : Int) - (C.length : Int)) 0 = some r := e
      rw [bnd e']
      by_cases h : r < 0
      · rw [if_pos h]; exact ⟨-1, rfl, by omega, fun h => by omega⟩
      · rw [if_neg h]; exact ⟨r, rfl, by omega, fun _ => ⟨by omega, by omega, by simpa using r3 (by omega)⟩⟩
/-! ### charters and states, as the reference has them -/
theorem in_f (a lo hi : Int) : spec_l1In.f a lo hi = some (decide (lo ≤ a) && decide (a ≤ hi)) := by
  unfold spec_l1In.f
  by_cases h : a ≥ lo
  · rw [if_pos h, decide_eq_true (show lo ≤ a from h)]; rfl
  · rw [if_neg h, decide_eq_false (show ¬ lo ≤ a from h)]; rfl
/-- Lists of such lengths as a law hands on. -/
def hLen (C : List (List S86)) : Prop := ∀ L ∈ C, L.length ≤ 1048576 ∧ ∀ x ∈ L, x.f0.length ≤ 1048576
theorem rdCl {C : List (List S86)} {a : Int} (h0 : 0 ≤ a) (h1 : a < (C.length : Int)) : rd_L9 C a ∈ C := by
  obtain ⟨i, rfl⟩ := Int.eq_ofNat_of_zero_le h0
  rw [rdC (by omega)]; exact List.getElem_mem _
theorem sCh_l1 {P : Int} {B : List Int} (hB : B.length ≤ 1048576) (hw : ∀ b ∈ B, b < 9223372036854775808) {C : List (List S86)} (hC : C.length ≤ 1048576) (hm : hLen C) {i : Nat} (hi : i < C.length) (R : Bool) (b : Nat) (hb : 4000000 ≤ b)
    (hR : ∀ k, b < k → spec_CharterOk.l0 k (wrap64 ((i : Int) + 1)) P B C = some R) : ∀ (d j k : Nat), j + d = C[i].length → b + 2 + 2 * d < k →
    spec_CharterOk.l1 k (i : Int) (j : Int) P B C = some ((C[i].drop j).all (vOk P B C i) && R) := by
  have hmi := hm C[i] (List.getElem_mem hi)
  intro d
  induction d with
  | zero =>
    intro j k hj hk
    obtain ⟨k, rfl, _⟩ := fuel hk
    rw [spec_CharterOk.l1, if_pos (by omega), if_pos (by omega), rdC hi, if_neg (by omega), hR k (by omega), List.drop_eq_nil_of_le (by omega)]; rfl
  | succ d ih =>
    intro j k hj hk
    obtain ⟨k, rfl, hk1⟩ := fuel hk
    obtain ⟨k, rfl, hk2⟩ := fuel (show b + 2 + 2 * d + 1 < k by omega)
    have hlt : j < C[i].length := by omega
    have ih' := ih (j + 1) k (by omega) (by omega)
    have hv := hmi.2 C[i][j] (List.getElem_mem hlt)
    rw [spec_CharterOk.l1, if_pos (by omega), if_pos (by omega), rdC hi, if_pos (by omega), if_pos (by omega), rdV hlt, List.drop_eq_getElem_cons hlt, List.all_cons]
    generalize C[i][j] = v at *
    have key : ∀ x : Bool, (x = true ↔ v.f1 = -1 ∧ v.f2 = 0) → spec_CharterOk.j2 (k + 1) (i : Int) (j : Int) x P B C v.f0 v.f1 v.f2 = some (vOk P B C i v && (C[i].drop (j + 1)).all (vOk P B C i) && R) := by
      intro x hx
      rw [spec_CharterOk.j2, sTerm_f P B v.f0 (by omega) hw (by omega) (by omega), bnd rfl, w64s j (by omega), ih']
      by_cases ht : tmOk P B v.f0 = true
      · rw [if_pos ht]
        have e : vOk P B C i v = ifOk C i v := by unfold vOk; rw [ht]; rfl
        rw [e]
        unfold ifOk
        by_cases h1 : x = true
        · rw [if_pos h1]
          have := hx.1 h1
          simp [this]
        · rw [if_neg h1]
          have hz : (decide (v.f1 = -1) && decide (v.f2 = 0)) = false := by
            apply bfalse; intro y; apply h1
            simp only [Bool.and_eq_true, decide_eq_true_eq] at y; exact hx.2 y
          rw [hz, Bool.false_or]
          by_cases a3 : v.f1 = (i : Int)
          · rw [if_pos a3, decide_eq_true a3]; simp
          · rw [if_neg a3, decide_eq_false a3, in_f, bnd rfl, w64 (by omega) (by omega)]
            by_cases a1 : 0 ≤ v.f1
            · rw [decide_eq_true a1]
              by_cases a2 : v.f1 < (C.length : Int)
              · have hq := hm _ (rdCl a1 a2)
                rw [decide_eq_true a2, decide_eq_true (by omega : v.f1 ≤ (C.length : Int) - 1), if_pos (show (true && true) = true from rfl), if_pos a1, if_pos a2, in_f, bnd rfl, w64 (by omega) (by omega)]
                by_cases a4 : 0 ≤ v.f2
                · by_cases a5 : v.f2 < ((rd_L9 C v.f1).length : Int)
                  · rw [decide_eq_true a4, decide_eq_true a5, decide_eq_true (by omega)]; simp
                  · rw [decide_eq_true a4, decide_eq_false a5, decide_eq_false (by omega)]; simp
                · rw [decide_eq_false a4]; simp
              · rw [decide_eq_false a2, decide_eq_false (by omega : ¬ v.f1 ≤ (C.length : Int) - 1)]; simp
            · rw [decide_eq_false a1]; simp
      · rw [if_neg ht]
        have e : vOk P B C i v = false := by unfold vOk; rw [bfalse ht]; rfl
        rw [e]; rfl
    by_cases h1 : v.f1 = -1
    · rw [if_pos h1]; exact key _ (by simp [h1])
    · rw [if_neg h1]; exact key _ (by simp [h1])
theorem sCh_l0 {P : Int} {B : List Int} (hB : B.length ≤ 1048576) (hw : ∀ b ∈ B, b < 9223372036854775808) {C : List (List S86)} (hC : C.length ≤ 1048576) (hm : hLen C) : ∀ (d i k : Nat), i + d = C.length → 10 * d + 4000000 < k →
    spec_CharterOk.l0 k (i : Int) P B C = some (clsOk P B C i (C.drop i) && (hOk P B && (decide (1 ≤ C.length) && decide (C.length ≤ 3)))) := by
  intro d
  induction d with
  | zero =>
    intro i k hi hk
    obtain ⟨k, rfl, _⟩ := fuel hk
    rw [spec_CharterOk.l0, if_neg (by omega), List.drop_eq_nil_of_le (by omega), sHouse_f P B (by omega) (by omega), bnd rfl, in_f]
    by_cases h : hOk P B = true
    · rw [if_pos h, bnd rfl, h]
      by_cases h1 : 1 ≤ C.length
      · by_cases h2 : C.length ≤ 3
        · rw [decide_eq_true h1, decide_eq_true h2, decide_eq_true (by omega), decide_eq_true (by omega)]; rfl
        · rw [decide_eq_false h2, decide_eq_false (by omega : ¬ (C.length : Int) ≤ 3)]; simp [clsOk]
      · rw [decide_eq_false h1, decide_eq_false (by omega : ¬ (1 : Int) ≤ (C.length : Int))]; rfl
    · rw [if_neg h, bfalse h]; simp
  | succ d ih =>
    intro i k hi hk
    obtain ⟨k, rfl, hk1⟩ := fuel hk
    have hlt : i < C.length := by omega
    rw [spec_CharterOk.l0, if_pos (by omega), if_pos (by omega), rdC hlt, List.drop_eq_getElem_cons hlt, in_f, bnd rfl]
    simp only [clsOk, clOk]
    by_cases h1 : 1 ≤ C[i].length
    · by_cases h2 : C[i].length ≤ 3
      · rw [decide_eq_true h1, decide_eq_true h2, decide_eq_true (by omega), decide_eq_true (by omega), if_pos (show (true && true) = true from rfl)]
        have := sCh_l1 (P := P) hB hw hC hm hlt _ (10 * d + 4000000) (by omega) (fun k' hk' => by
          rw [w64s i (by omega)]
          exact ih (i + 1) k' (by omega) hk') C[i].length 0 k (by omega) (by omega)
        simpa [Bool.and_assoc] using this
      · rw [decide_eq_false h2, decide_eq_false (by omega : ¬ (C[i].length : Int) ≤ 3)]; simp
    · rw [decide_eq_false h1, decide_eq_false (by omega : ¬ (1 : Int) ≤ (C[i].length : Int))]; simp
theorem sCh_f (P : Int) (B : List Int) (C : List (List S86)) (hB : B.length ≤ 1048576) (hw : ∀ b ∈ B, b < 9223372036854775808) (hC : C.length ≤ 1048576) (hm : hLen C) {k : Nat} (hk : 15000000 < k) : spec_CharterOk.f k P B C = some (chOk P B C) := by
  unfold spec_CharterOk.f chOk
  have : spec_CharterOk.l0 k 0 P B C = _ := sCh_l0 (P := P) hB hw hC hm C.length 0 k (by omega) (by omega)
  rw [this, List.drop_zero]
  congr 1
  rw [Bool.and_comm, Bool.and_assoc]
theorem sSt_eq {P : Int} {B : List Int} (hB : B.length ≤ 1048576) (hw : ∀ b ∈ B, b < 9223372036854775808) {C : List (List S86)} (hC : C.length ≤ 1048576) (hm : hLen C) {s : List Int} (he : s.length = C.length) : ∀ (d i k : Nat), i + d = s.length → 2 * d + 15000002 < k →
    spec_StateOk.l0 k s (i : Int) P B C = some (stIn C s i (s.drop i) && chOk P B C) := by
  intro d
  induction d with
  | zero =>
    intro i k hi hk
    obtain ⟨k, rfl, hk1⟩ := fuel hk
    obtain ⟨k, rfl, hk2⟩ := fuel (show 15000001 < k by omega)
    rw [spec_StateOk.l0, if_neg (by omega), spec_StateOk.j1, if_neg (by simp), sCh_f P B C hB hw hC hm (by omega), bnd rfl, List.drop_eq_nil_of_le (by omega)]
    by_cases h : chOk P B C = true
    · rw [if_pos h, h]; simp [stIn, he]
    · rw [if_neg h, bfalse h]; simp
  | succ d ih =>
    intro i k hi hk
    obtain ⟨k, rfl, hk1⟩ := fuel hk
    obtain ⟨k, rfl, hk2⟩ := fuel (show 2 * d + 15000003 < k by omega)
    have hlt : i < s.length := by omega
    have hq := hm _ (rdCl (C := C) (a := (i : Int)) (by omega) (by omega))
    rw [spec_StateOk.l0, if_pos (by omega), decide_eq_true (by omega : (i : Int) < (C.length : Int)), spec_StateOk.j1, if_pos rfl, if_pos (by omega), if_pos (by omega), if_pos (by omega), rd_lt hlt, in_f, bnd rfl, w64 (by omega) (by omega), w64s i (by omega), ih (i + 1) k (by omega) (by omega), List.drop_eq_getElem_cons hlt]
    simp only [stIn]
    by_cases h1 : 0 ≤ s[i]
    · by_cases h2 : s[i] < ((rd_L9 C (i : Int)).length : Int)
      · rw [decide_eq_true h1, decide_eq_true h2, decide_eq_true (by omega)]; simp
      · rw [decide_eq_true h1, decide_eq_false h2, decide_eq_false (by omega)]; simp
    · rw [decide_eq_false h1]; simp
theorem sSt_ne {P : Int} {B : List Int} (hB : B.length ≤ 1048576) (hw : ∀ b ∈ B, b < 9223372036854775808) {C : List (List S86)} (hC : C.length ≤ 1048576) (hm : hLen C) {s : List Int} (hs : s.length ≤ 1048576) (he : s.length ≠ C.length) : ∀ (d i k : Nat), i + d = s.length → 2 * d + 15000002 < k →
    spec_StateOk.l0 k s (i : Int) P B C = some false := by
  have fin : ∀ (i k : Nat), 15000001 < k → spec_StateOk.j1 k s (i : Int) false P B C = some false := by
    intro i k hk
    obtain ⟨k, rfl, hk2⟩ := fuel hk
    rw [spec_StateOk.j1, if_neg (by simp), sCh_f P B C hB hw hC hm (by omega), bnd rfl]
    by_cases h : chOk P B C = true
    · rw [if_pos h]; congr 1; rw [beq_eq_false_iff_ne]; omega
    · rw [if_neg h]
  intro d
  induction d with
  | zero =>
    intro i k hi hk
    obtain ⟨k, rfl, hk1⟩ := fuel hk
    rw [spec_StateOk.l0, if_neg (by omega), fin i k (by omega)]
  | succ d ih =>
    intro i k hi hk
    obtain ⟨k, rfl, hk1⟩ := fuel hk
    have hlt : i < s.length := by omega
    rw [spec_StateOk.l0, if_pos (by omega)]
    by_cases hc : (i : Int) < (C.length : Int)
    · obtain ⟨k, rfl, hk2⟩ := fuel (show 2 * d + 15000003 < k by omega)
      have hq := hm _ (rdCl (C := C) (a := (i : Int)) (by omega) (by omega))
      rw [decide_eq_true hc, spec_StateOk.j1, if_pos rfl, if_pos (by omega), if_pos (by omega), if_pos (by omega), rd_lt hlt, in_f, bnd rfl, w64s i (by omega), ih (i + 1) k (by omega) (by omega)]
      by_cases h : (decide (0 ≤ s[i]) && decide (s[i] ≤ wrap64 (((rd_L9 C (i : Int)).length : Int) - 1))) = true
      · rw [if_pos h]
      · rw [if_neg h]
    · rw [decide_eq_false hc, fin i k (by omega)]
theorem sSt_f (P : Int) (B : List Int) (C : List (List S86)) (s : List Int) (hB : B.length ≤ 1048576) (hw : ∀ b ∈ B, b < 9223372036854775808) (hC : C.length ≤ 1048576) (hm : hLen C) (hs : s.length ≤ 1048576) {k : Nat} (hk : 20000000 < k) : spec_StateOk.f k P B C s = some (stOk P B C s) := by
  unfold spec_StateOk.f stOk
  by_cases h : s.length = C.length
  · have : spec_StateOk.l0 k s 0 P B C = _ := sSt_eq (P := P) hB hw hC hm h s.length 0 k (by omega) (by omega)
    rw [this, List.drop_zero, decide_eq_true h, Bool.true_and, Bool.and_comm]
  · have : spec_StateOk.l0 k s 0 P B C = _ := sSt_ne (P := P) hB hw hC hm hs h s.length 0 k (by omega) (by omega)
    rw [this, decide_eq_false h]; simp

/-! ### may a crowd change a clause -/
theorem may_same {P : Int} {B : List Int} {C : List (List S86)} {s : List Int} (h : stOk P B C s = true) {i : Nat} (hi : i < C.length) {v : Int} (hv0 : 0 ≤ v) (hv : v < (C[i].length : Int)) {c : Nat} (hc : c < 64) {k : Nat} (hk : 60 < k) :
    ∃ r, impl_mayChange.f k P B C s (i : Int) v (c : Int) = some r ∧ spec_l8May.f k P B C s (i : Int) v (c : Int) = some r := by
  obtain ⟨hch, hl, hs⟩ := stOk_at h
  have hsl : i < s.length := by omega
  have hsi := hs i hi hsl
  obtain ⟨q1, q2, q3⟩ := chOk_cl hch hi
  unfold impl_mayChange.f spec_l8May.f
  rw [rdC hi, rd_lt hsl]
  generalize s[i] = x at *
  obtain ⟨m, rfl⟩ := Int.eq_ofNat_of_zero_le hsi.1
  have hml : m < C[i].length := by omega
  rw [rdV hml]
  have hvo := q3 C[i][m] (List.getElem_mem hml)
  generalize C[i][m] = V at *
  have g1 : ¬ ((i : Int) < 0) := by omega
  have g2 : ¬ ((i : Int) ≥ (s.length : Int)) := by omega
  have g3 : ¬ (v < 0) := by omega
  have g4 : (0 : Int) ≤ (i : Int) := by omega
  have g5 : (i : Int) < (C.length : Int) := by omega
  have g6 : ¬ (v ≥ (C[i].length : Int)) := by omega
  have g7 : (i : Int) < (s.length : Int) := by omega
  have g8 : (0 : Int) ≤ (m : Int) := by omega
  have g9 : (m : Int) < (C[i].length : Int) := by omega
  rw [if_neg g1, if_neg g2, if_neg g3, if_pos g4, if_pos g5, if_neg g6, if_pos g7, if_pos g4, if_pos g5, if_pos g7, if_pos g8, if_pos g9]
  by_cases e : v = (m : Int)
  · rw [if_pos e, if_pos e, if_pos g8, if_pos g9]; exact ⟨false, rfl, rfl⟩
  · rw [if_neg e, if_neg e, if_pos g8, if_pos g9]
    simp only [vOk, Bool.and_eq_true] at hvo
    obtain ⟨hh, ht9, T, hT, hf⟩ := tm_tree hvo.1
    rw [hf] at ht9 ⊢
    rw [consents_f hh hT ht9 hc (by omega), bnd rfl, says_T hh hc T hT (by omega) k (by omega), bnd rfl]
    by_cases hb : val B c T = true
    · rw [if_pos hb]
      by_cases h1 : V.f1 = -1
      · rw [if_pos h1]; exact ⟨true, rfl, rfl⟩
      · have hif := hvo.2
        simp only [ifOk, Bool.or_eq_true, Bool.and_eq_true, decide_eq_true_eq] at hif
        rcases hif with hif | hif
        · exact absurd hif.1 h1
        · rw [if_neg h1, if_pos hif.1, if_pos (by omega)]; exact ⟨_, rfl, rfl⟩
    · rw [if_neg hb]; exact ⟨false, rfl, rfl⟩
/-! ### acts -/
theorem stIn_of {C : List (List S86)} {s : List Int} : ∀ (X : List Int) (i : Nat), (∀ j (hj : j < X.length), 0 ≤ X[j] ∧ X[j] < ((rd_L9 C ((i + j : Nat) : Int)).length : Int)) → stIn C s i X = true
  | [], _, _ => rfl
  | x :: r, i, h => by
    simp only [stIn, Bool.and_eq_true, decide_eq_true_eq]
    refine ⟨by have := h 0 (by simp); exact this, stIn_of r (i + 1) (fun j hj => ?_)⟩
    have := h (j + 1) (by simpa using hj)
    rw [show i + 1 + j = i + (j + 1) from by omega]; simpa using this
theorem stOk_of {P : Int} {B : List Int} {C : List (List S86)} {s : List Int} (h : chOk P B C = true) (hl : s.length = C.length) (hs : ∀ i (hi : i < C.length) (hs : i < s.length), 0 ≤ s[i] ∧ s[i] < (C[i].length : Int)) : stOk P B C s = true := by
  simp only [stOk, Bool.and_eq_true, decide_eq_true_eq]
  refine ⟨h, hl, stIn_of s 0 (fun j hj => ?_)⟩
  rw [Nat.zero_add, rdC (by omega)]; exact hs j (by omega) hj
theorem stOk_set {P : Int} {B : List Int} {C : List (List S86)} {s : List Int} (h : stOk P B C s = true) {i : Nat} (hi : i < C.length) {v : Int} (h0 : 0 ≤ v) (h1 : v < (C[i].length : Int)) : stOk P B C (s.set i v) = true := by
  obtain ⟨hc, hl, hs⟩ := stOk_at h
  refine stOk_of hc (by simpa using hl) (fun j hj hjs => ?_)
  rw [List.getElem_set]
  split
  · rename_i e; subst e; exact ⟨h0, h1⟩
  · exact hs j hj (by omega)
/-! ### a state's number -/
/-- The number of a state: its variants as digits of base 3, the first clause last. -/
def num : List Int → Int
  | [] => 0
  | x :: r => x + 3 * num r
/-- Rows of digits 0, 1, 2. -/
def dig (s : List Int) : Prop := ∀ x ∈ s, 0 ≤ x ∧ x ≤ 2
theorem num_bd : ∀ (s : List Int), dig s → 0 ≤ num s ∧ num s < ((3 ^ s.length : Nat) : Int)
  | [], _ => by simp [num]
  | x :: r, h => by
    have h1 := h x List.mem_cons_self
    have h2 := num_bd r (fun y hy => h y (List.mem_cons_of_mem _ hy))
    rw [List.length_cons, Nat.pow_succ]
    simp only [num]
    omega
theorem num_drop {s : List Int} {i : Nat} (h : i < s.length) : num (s.drop i) = s[i] + 3 * num (s.drop (i + 1)) := by
  rw [List.drop_eq_getElem_cons h]; rfl
theorem dig_drop {s : List Int} (h : dig s) (i : Nat) : dig (s.drop i) := fun x hx => h x (List.mem_of_mem_drop hx)
theorem stOk_dig {P : Int} {B : List Int} {C : List (List S86)} {s : List Int} (h : stOk P B C s = true) : dig s ∧ s.length = C.length ∧ 1 ≤ s.length ∧ s.length ≤ 3 := by
  obtain ⟨hc, hl, hs⟩ := stOk_at h
  have := chOk_h hc
  refine ⟨fun x hx => ?_, hl, by omega, by omega⟩
  obtain ⟨i, hi, rfl⟩ := List.getElem_of_mem hx
  have h1 := hs i (by omega) hi
  have h2 := (chOk_cl hc (show i < C.length by omega)).2.1
  omega

/-! ### a state's code -/
theorem sCode_l {s : List Int} (hd : dig s) (hl : s.length ≤ 3) : ∀ (i k : Nat), i ≤ s.length → i < k → spec_l8Code.l0 k s (num (s.drop i)) ((i : Int) - 1) = some (num s) := by
  intro i
  induction i with
  | zero =>
    intro k hi hk
    obtain ⟨k, rfl, _⟩ := fuel hk
    rw [spec_l8Code.l0, if_neg (by omega)]; rfl
  | succ i ih =>
    intro k hi hk
    obtain ⟨k, rfl, hk'⟩ := fuel hk
    have hlt : i < s.length := by omega
    have hb := num_bd (s.drop (i + 1)) (dig_drop hd _)
    have hp : 3 ^ (s.drop (i + 1)).length ≤ 3 ^ 3 := Nat.pow_le_pow_right (by decide) (by rw [List.length_drop]; omega)
    have hx := hd s[i] (List.getElem_mem hlt)
    rw [show ((i + 1 : Nat) : Int) - 1 = (i : Int) from by omega, spec_l8Code.l0, if_pos (by omega), if_pos (by omega), if_pos (by omega), rd_lt hlt, w64 (x := num (s.drop (i + 1)) * 3) (by omega) (by omega), w64 (by omega) (by omega), w64 (by omega) (by omega)]
    rw [show num (s.drop (i + 1)) * 3 + s[i] = num (s.drop i) from by rw [num_drop hlt]; omega]
    exact ih k (by omega) (by omega)
theorem sCode_f {s : List Int} (hd : dig s) (hl : s.length ≤ 3) {k : Nat} (hk : 3 < k) : spec_l8Code.f k s = some (num s) := by
  unfold spec_l8Code.f
  rw [w64 (by omega) (by omega)]
  have := sCode_l hd hl s.length k (by omega) (by omega)
  rw [List.drop_length] at this
  exact this

/-! ### a state's number, as the program reckons it -/
theorem stNum_l : ∀ (k : Nat) (s : List Int) (a b : Int), impl_stateNumber.l0 k s a b = spec_l8Code.l0 k s a b
  | 0, _, _, _ => by rw [impl_stateNumber.l0, spec_l8Code.l0]
  | k + 1, s, a, b => by rw [impl_stateNumber.l0, spec_l8Code.l0, stNum_l k]
theorem stNum_f {s : List Int} (hd : dig s) (hl : s.length ≤ 3) {k : Nat} (hk : 3 < k) : impl_stateNumber.f k s = some (num s) := by
  unfold impl_stateNumber.f
  rw [stNum_l]
  exact sCode_f hd hl hk

/-! ### the state of a number -/
/-- The n digits of a number of base 3, the first clause's first. -/
def stOf : Nat → Nat → List Int
  | 0, _ => []
  | n + 1, c => ((c % 3 : Nat) : Int) :: stOf n (c / 3)
theorem stOf_len : ∀ n c, (stOf n c).length = n
  | 0, _ => rfl
  | n + 1, c => by simp [stOf, stOf_len n]
theorem stOf_dig : ∀ n c, dig (stOf n c)
  | 0, _ => fun x hx => by cases hx
  | n + 1, c => fun x hx => by
    rcases List.mem_cons.mp hx with rfl | hx
    · omega
    · exact stOf_dig n _ x hx
theorem stOf_num : ∀ (s : List Int), dig s → stOf s.length (num s).toNat = s
  | [], _ => rfl
  | x :: r, h => by
    have h1 := h x List.mem_cons_self
    have hr : dig r := fun y hy => h y (List.mem_cons_of_mem _ hy)
    have h2 := num_bd r hr
    have e1 : (num (x :: r)).toNat % 3 = x.toNat := by simp only [num]; omega
    have e2 : (num (x :: r)).toNat / 3 = (num r).toNat := by simp only [num]; omega
    rw [List.length_cons, stOf, e1, e2, stOf_num r hr, Int.toNat_of_nonneg h1.1]
theorem l8St_l {P : Int} {B : List Int} {C : List (List S86)} (hC : C.length ≤ 1048576) : ∀ (d i k c : Nat) (acc : List Int), c < 4611686018427387904 → i + d = C.length → d < k → acc.length = i → spec_l8State.l0 k (c : Int) acc (i : Int) P B C = some (acc ++ stOf d c) := by
  intro d
  induction d with
  | zero =>
    intro i k c acc hc hi hk ha
    obtain ⟨k, rfl, _⟩ := fuel hk
    rw [spec_l8State.l0, if_neg (by omega)]; simp [stOf]
  | succ d ih =>
    intro i k c acc hc hi hk ha
    obtain ⟨k, rfl, hk'⟩ := fuel hk
    have e1 : Int.tdiv (c : Int) 3 = ((c / 3 : Nat) : Int) := by rw [Int.tdiv_eq_ediv_of_nonneg (by omega)]; omega
    have e2 : Int.tmod (c : Int) 3 = ((c % 3 : Nat) : Int) := by rw [Int.tmod_eq_emod_of_nonneg (by omega)]; omega
    rw [spec_l8State.l0, if_pos (by omega), if_pos (by omega), e1, e2, w64 (x := ((c / 3 : Nat) : Int)) (by omega) (by omega), w64s i (by omega), ih (i + 1) k (c / 3) _ (by omega) (by omega) (by omega) (by simp; omega)]
    simp [stOf]
theorem l8St_f (P : Int) (B : List Int) {C : List (List S86)} (hC : C.length ≤ 1048576) {c : Nat} (hc : c < 4611686018427387904) {k : Nat} (hk : C.length < k) : spec_l8State.f k P B C (c : Int) = some (stOf C.length c) := by
  unfold spec_l8State.f
  have := l8St_l (P := P) (B := B) hC C.length 0 k c [] hc (by omega) hk rfl
  rw [List.nil_append] at this
  exact this

/-! ### breadth first search, plainly -/
/-- From s one comes to c by at most n steps. -/
def within (adj : Nat → List Nat) (s : Nat) : Nat → Nat → Prop
  | 0, c => c = s
  | n + 1, c => within adj s n c ∨ ∃ x, within adj s n x ∧ c ∈ adj x
theorem within_mono {adj : Nat → List Nat} {s n c : Nat} (h : within adj s n c) : ∀ d, within adj s (n + d) c
  | 0 => h
  | d + 1 => .inl (within_mono h d)
theorem within_le {adj : Nat → List Nat} {s n m c : Nat} (h : within adj s n c) (hl : n ≤ m) : within adj s m c := by
  have := within_mono h (m - n)
  rwa [show n + (m - n) = m from by omega] at this
/-- d is the least number of steps. -/
def isDist (adj : Nat → List Nat) (s d c : Nat) : Prop := within adj s d c ∧ ∀ e, e < d → ¬ within adj s e c
theorem isDist_uniq {adj : Nat → List Nat} {s c d e : Nat} (h : isDist adj s d c) (k : isDist adj s e c) : d = e := by
  rcases Nat.lt_trichotomy d e with hh | hh | hh
  · exact absurd h.1 (k.2 d hh)
  · exact hh
  · exact absurd k.1 (h.2 e hh)
/-- Whoever is known: the places of the pairs. -/
def knows (L : List (Nat × Nat)) (c : Nat) : Prop := ∃ d, (c, d) ∈ L
/-- What holds of the pairs L, the queue q, the depth d of its front, while x's neighbours are looked at and those in done have been. -/
structure BInv (adj : Nat → List Nat) (s : Nat) (L : List (Nat × Nat)) (q : List Nat) (d : Nat) (cur : Nat → List Nat → Prop) : Prop where
  dist : ∀ c e, (c, e) ∈ L → isDist adj s e c
  front : ∃ q1 q2, q = q1 ++ q2 ∧ (∀ x ∈ q1, (x, d) ∈ L) ∧ (∀ x ∈ q2, (x, d + 1) ∈ L)
  shut : ∀ x, knows L x → x ∉ q → (∀ c ∈ adj x, knows L c) ∨ ∃ l, cur x l ∧ ∀ c ∈ adj x, knows L c ∨ c ∈ l
  near : ∀ c, within adj s d c → knows L c
theorem BInv.start (adj : Nat → List Nat) (s : Nat) : BInv adj s [(s, 0)] [s] 0 (fun _ _ => False) := by
  refine ⟨fun c e h => ?_, ⟨[s], [], rfl, fun x hx => ?_, fun x hx => by cases hx⟩, fun x hx hq => ?_, fun c hc => ⟨0, ?_⟩⟩
  · simp only [List.mem_singleton, Prod.mk.injEq] at h
    obtain ⟨rfl, rfl⟩ := h
    exact ⟨rfl, fun e he => by omega⟩
  · simp only [List.mem_singleton] at hx; subst hx; simp
  · obtain ⟨e, he⟩ := hx
    simp only [List.mem_singleton, Prod.mk.injEq] at he
    exact absurd (by simp [he.1]) hq
  · have : c = s := hc
    subst this; simp
/-- Taking the front: at its own depth. -/
theorem BInv.pop {adj : Nat → List Nat} {s : Nat} {L : List (Nat × Nat)} {x : Nat} {q : List Nat} {d : Nat} (h : BInv adj s L (x :: q) d (fun _ _ => False)) :
    ∃ d', (x, d') ∈ L ∧ BInv adj s L q d' (fun y l => y = x ∧ l = adj x) := by
  have hs : ∀ y, knows L y → y ∉ q → (∀ c ∈ adj y, knows L c) ∨ ∃ l, (y = x ∧ l = adj x) ∧ ∀ c ∈ adj y, knows L c ∨ c ∈ l := by
    intro y hy hq
    by_cases e : y = x
    · subst e; exact .inr ⟨_, ⟨rfl, rfl⟩, fun c hc => .inr hc⟩
    · rcases h.shut y hy (by simp [e, hq]) with h1 | ⟨_, hf, _⟩
      · exact .inl h1
      · exact hf.elim
  obtain ⟨q1, q2, e, f1, f2⟩ := h.front
  cases q1 with
  | cons y q1 =>
    rw [List.cons_append] at e
    injection e with e1 e2
    subst e1
    exact ⟨d, f1 _ List.mem_cons_self, h.dist, ⟨q1, q2, e2, fun z hz => f1 z (List.mem_cons_of_mem _ hz), f2⟩, hs, h.near⟩
  | nil =>
    rw [List.nil_append] at e
    subst e
    refine ⟨d + 1, f2 _ List.mem_cons_self, h.dist, ⟨q, [], by simp, fun z hz => f2 z (List.mem_cons_of_mem _ hz), fun z hz => by cases hz⟩, hs, fun c hc => ?_⟩
    rcases hc with hc | ⟨y, hy, hc⟩
    · exact h.near c hc
    · obtain ⟨e, he⟩ := h.near y hy
      have hd := h.dist y e he
      have hle : e ≤ d := by
        rcases Nat.lt_or_ge d e with hh | hh
        · exact absurd hy (hd.2 d hh)
        · exact hh
      have hnq : y ∉ x :: q := fun hm => by
        have := isDist_uniq hd (h.dist y (d + 1) (f2 y hm))
        omega
      rcases h.shut y ⟨e, he⟩ hnq with h1 | ⟨_, hf, _⟩
      · exact h1 c hc
      · exact hf.elim
/-- A neighbour of x that is known already. -/
theorem BInv.skip {adj : Nat → List Nat} {s : Nat} {L : List (Nat × Nat)} {x c : Nat} {l q : List Nat} {d : Nat} (h : BInv adj s L q d (fun y m => y = x ∧ m = c :: l)) (hc : knows L c) : BInv adj s L q d (fun y m => y = x ∧ m = l) := by
  refine ⟨h.dist, h.front, fun y hy hq => ?_, h.near⟩
  rcases h.shut y hy hq with h1 | ⟨m, ⟨rfl, rfl⟩, h1⟩
  · exact .inl h1
  · refine .inr ⟨l, ⟨rfl, rfl⟩, fun b hb => ?_⟩
    rcases h1 b hb with h2 | h2
    · exact .inl h2
    · rcases List.mem_cons.mp h2 with rfl | h2
      · exact .inl hc
      · exact .inr h2
/-- A neighbour of x that is new. -/
theorem BInv.new {adj : Nat → List Nat} {s : Nat} {L : List (Nat × Nat)} {x c : Nat} {l q : List Nat} {d : Nat} (h : BInv adj s L q d (fun y m => y = x ∧ m = c :: l)) (hx : (x, d) ∈ L) (ha : c ∈ adj x) (hc : ¬ knows L c) : BInv adj s ((c, d + 1) :: L) (q ++ [c]) d (fun y m => y = x ∧ m = l) := by
  have up : ∀ y, knows L y → knows ((c, d + 1) :: L) y := fun y ⟨e, he⟩ => ⟨e, List.mem_cons_of_mem _ he⟩
  refine ⟨fun y e he => ?_, ?_, fun y hy hq => ?_, fun y hy => up y (h.near y hy)⟩
  · rcases List.mem_cons.mp he with he | he
    · simp only [Prod.mk.injEq] at he
      obtain ⟨rfl, rfl⟩ := he
      refine ⟨.inr ⟨x, (h.dist x d hx).1, ha⟩, fun e he hw => hc (h.near y (within_le hw (by omega)))⟩
    · exact h.dist y e he
  · obtain ⟨q1, q2, rfl, f1, f2⟩ := h.front
    refine ⟨q1, q2 ++ [c], by simp, fun z hz => List.mem_cons_of_mem _ (f1 z hz), fun z hz => ?_⟩
    rcases List.mem_append.mp hz with hz | hz
    · exact List.mem_cons_of_mem _ (f2 z hz)
    · simp only [List.mem_singleton] at hz; subst hz; exact List.mem_cons_self
  · have hyc : y ≠ c := fun e => hq (by simp [e])
    have hy' : knows L y := by
      obtain ⟨e, he⟩ := hy
      rcases List.mem_cons.mp he with he | he
      · simp only [Prod.mk.injEq] at he; exact absurd he.1 hyc
      · exact ⟨e, he⟩
    rcases h.shut y hy' (fun hm => hq (by simp [hm])) with h1 | ⟨m, ⟨rfl, rfl⟩, h1⟩
    · exact .inl fun b hb => up b (h1 b hb)
    · refine .inr ⟨l, ⟨rfl, rfl⟩, fun b hb => ?_⟩
      rcases h1 b hb with h2 | h2
      · exact .inl (up b h2)
      · rcases List.mem_cons.mp h2 with rfl | h2
        · exact .inl ⟨d + 1, List.mem_cons_self⟩
        · exact .inr h2
/-- All neighbours have been looked at. -/
theorem BInv.done {adj : Nat → List Nat} {s : Nat} {L : List (Nat × Nat)} {x : Nat} {q : List Nat} {d : Nat} (h : BInv adj s L q d (fun y m => y = x ∧ m = [])) : BInv adj s L q d (fun _ _ => False) := by
  refine ⟨h.dist, h.front, fun y hy hq => ?_, h.near⟩
  rcases h.shut y hy hq with h1 | ⟨m, ⟨rfl, rfl⟩, h1⟩
  · exact .inl h1
  · exact .inl fun b hb => (h1 b hb).resolve_right (by simp)
/-- The queue is empty: whoever can be come to is known, with the least number of steps. -/
theorem BInv.end_ {adj : Nat → List Nat} {s : Nat} {L : List (Nat × Nat)} {d : Nat} (h : BInv adj s L [] d (fun _ _ => False)) (c e : Nat) : (c, e) ∈ L ↔ isDist adj s e c := by
  have all : ∀ n c, within adj s n c → knows L c := by
    intro n
    induction n with
    | zero => intro c hc; exact h.near c (within_le hc (Nat.zero_le _))
    | succ n ih =>
      intro c hc
      rcases hc with hc | ⟨x, hx, hc⟩
      · exact ih c hc
      · rcases h.shut x (ih x hx) (by simp) with h1 | ⟨_, hf, _⟩
        · exact h1 c hc
        · exact hf.elim
  constructor
  · exact h.dist c e
  · intro hd
    obtain ⟨e', he⟩ := all e c hd.1
    rw [isDist_uniq hd (h.dist c e' he)]; exact he

/-! the same by rounds -/
structure RndInv (adj : Nat → List Nat) (s : Nat) (f : Nat → Option Nat) (r : Nat) (seen : Nat → Prop) : Prop where
  dist : ∀ c d, f c = some d → isDist adj s d c
  bound : ∀ c d, f c = some d → d ≤ r + 1
  near : ∀ c, within adj s r c → f c ≠ none
  shut : ∀ x, seen x → f x = some r → ∀ c ∈ adj x, f c ≠ none
theorem RndInv.next {adj : Nat → List Nat} {s r : Nat} {f : Nat → Option Nat} (h : RndInv adj s f r (fun _ => True)) : RndInv adj s f (r + 1) (fun _ => False) := by
  refine ⟨h.dist, fun c d e => by have := h.bound c d e; omega, fun c hc => ?_, fun _ hf => hf.elim⟩
  rcases hc with hc | ⟨x, hx, hc⟩
  · exact h.near c hc
  · have hn := h.near x hx
    cases hf : f x with
    | none => exact absurd hf hn
    | some e =>
      have hd := h.dist x e hf
      have hle : e ≤ r := by
        rcases Nat.lt_or_ge r e with hh | hh
        · exact absurd hx (hd.2 r hh)
        · exact hh
      rcases Nat.lt_or_eq_of_le hle with hlt | rfl
      · exact h.near c (within_le (n := e + 1) (.inr ⟨x, hd.1, hc⟩) (by omega))
      · exact h.shut x trivial hf c hc
/-- A neighbour that is new. -/
theorem RndInv.set {adj : Nat → List Nat} {s r : Nat} {f : Nat → Option Nat} {seen : Nat → Prop} {x c : Nat} (h : RndInv adj s f r seen) (hx : f x = some r) (ha : c ∈ adj x) (hc : f c = none) : RndInv adj s (fun y => if y = c then some (r + 1) else f y) r seen := by
  have keep : ∀ y, f y ≠ none → (if y = c then some (r + 1) else f y) ≠ none := fun y hy => by
    split
    · simp
    · exact hy
  refine ⟨fun y d e => ?_, fun y d e => ?_, fun y hy => keep y (h.near y hy), fun y hy e b hb => ?_⟩
  · split at e
    · rename_i hyc
      subst hyc
      injection e with e
      subst e
      exact ⟨.inr ⟨x, (h.dist x r hx).1, ha⟩, fun e he hw => h.near y (within_le hw (by omega)) hc⟩
    · exact h.dist y d e
  · split at e
    · injection e with e; omega
    · exact h.bound y d e
  · split at e
    · injection e with e; omega
    · exact keep b (h.shut y hy e b hb)
theorem nodup_lt : ∀ (n : Nat) (l : List Nat), l.Nodup → (∀ x ∈ l, x < n) → l.length ≤ n
  | 0, l, _, h => by
    cases l with
    | nil => simp
    | cons x l => exact absurd (h x List.mem_cons_self) (by omega)
  | n + 1, l, hn, h => by
    have h1 := nodup_lt n (l.filter (· ≠ n)) (hn.filter _) (fun x hx => by
      obtain ⟨h2, h3⟩ := List.mem_filter.mp hx
      have := h x h2
      have h3' : x ≠ n := by simpa using h3
      omega)
    by_cases hm : n ∈ l
    · have h2 : (l.erase n).length = l.length - 1 := List.length_erase_of_mem hm
      have h3 : l.erase n = l.filter (· != n) := hn.erase_eq_filter n
      have h4 : l.filter (· != n) = l.filter (· ≠ n) := by congr 1; funext x; by_cases e : x = n <;> simp [e]
      rw [h3, h4] at h2
      omega
    · have h5 : l.filter (· ≠ n) = l := List.filter_eq_self.mpr (fun x hx => by
        have : x ≠ n := fun e => hm (by rw [← e]; exact hx)
        simpa using this)
      rw [h5] at h1; omega
/-- On a way to c there is one at each lesser distance. -/
theorem isDist_pred {adj : Nat → List Nat} {s d c : Nat} (h : isDist adj s (d + 1) c) : ∃ x, isDist adj s d x := by
  rcases h.1 with h1 | ⟨x, h1, h2⟩
  · exact absurd h1 (h.2 d (by omega))
  · refine ⟨x, h1, fun e he hw => h.2 (e + 1) (by omega) (.inr ⟨x, hw, h2⟩)⟩
theorem isDist_row {adj : Nat → List Nat} {s N : Nat} (hN : ∀ n c, within adj s n c → c < N) : ∀ (d c : Nat), isDist adj s d c → ∃ l : List Nat, l.length = d + 1 ∧ l.Nodup ∧ ∀ x ∈ l, x < N ∧ ∃ e, e ≤ d ∧ isDist adj s e x
  | 0, c, h => ⟨[c], rfl, by simp, fun x hx => by
      simp only [List.mem_singleton] at hx; subst hx; exact ⟨hN 0 x h.1, 0, Nat.le_refl _, h⟩⟩
  | d + 1, c, h => by
    obtain ⟨x, hx⟩ := isDist_pred h
    obtain ⟨l, h1, h2, h3⟩ := isDist_row hN d x hx
    refine ⟨c :: l, by simp [h1], List.nodup_cons.mpr ⟨fun hm => ?_, h2⟩, fun y hy => ?_⟩
    · obtain ⟨_, e, he, hd⟩ := h3 c hm
      have := isDist_uniq hd h
      omega
    · rcases List.mem_cons.mp hy with rfl | hy
      · exact ⟨hN _ _ h.1, d + 1, Nat.le_refl _, h⟩
      · obtain ⟨g1, e, g2, g3⟩ := h3 y hy
        exact ⟨g1, e, by omega, g3⟩
theorem isDist_lt {adj : Nat → List Nat} {s N : Nat} (hN : ∀ n c, within adj s n c → c < N) {d c : Nat} (h : isDist adj s d c) : d < N := by
  obtain ⟨l, h1, h2, h3⟩ := isDist_row hN d c h
  have := nodup_lt N l h2 (fun x hx => (h3 x hx).1)
  omega
/-- After N rounds: the distances. -/
theorem RndInv.end_ {adj : Nat → List Nat} {s N : Nat} (hN : ∀ n c, within adj s n c → c < N) {f : Nat → Option Nat} (h : RndInv adj s f N (fun _ => False)) (c d : Nat) : f c = some d ↔ isDist adj s d c := by
  refine ⟨h.dist c d, fun hd => ?_⟩
  have hl := isDist_lt hN hd
  have hn := h.near c (within_le hd.1 (by omega))
  cases hf : f c with
  | none => exact absurd hf hn
  | some e => rw [isDist_uniq hd (h.dist c e hf)]

/-! ### reach: the queue and the rounds give the same distances -/
theorem leO_ad {α : Type} {f : Nat → Option α} (h : ∀ k, LeO (f k) (f (k + 1))) (k : Nat) : ∀ d, LeO (f k) (f (k + d))
  | 0 => LeO.refl _
  | d + 1 => (leO_ad h k d).trans (h _)
theorem leO_k {α : Type} {f : Nat → Option α} (h : ∀ k, LeO (f k) (f (k + 1))) {a k : Nat} {r : α} (e : f a = some r) (hk : a ≤ k) : f k = some r := by
  obtain ⟨d, rfl⟩ : ∃ d, k = a + d := ⟨k - a, by omega⟩
  exact leO_ad h a d _ e
def code (y : List Int) : Nat := (num y).toNat
def mb (P : Int) (B : List Int) (C : List (List S86)) (c : Nat) (s : List Int) (i j : Nat) : Bool := (impl_mayChange.f 61 P B C s (i : Int) (j : Int) (c : Int)).getD false
theorem mb_eq {P : Int} {B : List Int} {C : List (List S86)} {s : List Int} (h : stOk P B C s = true) {i : Nat} (hi : i < C.length) {j : Nat} (hj : j < (rd_L9 C (i : Int)).length) {c : Nat} (hc : c < 64) {k : Nat} (hk : 60 < k) :
    impl_mayChange.f k P B C s (i : Int) (j : Int) (c : Int) = some (mb P B C c s i j) ∧ spec_l8May.f k P B C s (i : Int) (j : Int) (c : Int) = some (mb P B C c s i j) := by
  rw [rdC hi] at hj
  obtain ⟨r, e1, e2⟩ := may_same h hi (show (0 : Int) ≤ (j : Int) by omega) (show (j : Int) < (C[i].length : Int) by omega) hc (k := 61) (by omega)
  have e : mb P B C c s i j = r := by unfold mb; rw [e1]; rfl
  rw [e]
  exact ⟨leO_k (f := fun k => impl_mayChange.f k P B C s (i : Int) (j : Int) (c : Int)) (fun k => impl_mayChange.mono _ _ _ _ _ _ _ k) e1 (by omega), leO_k (f := fun k => spec_l8May.f k P B C s (i : Int) (j : Int) (c : Int)) (fun k => spec_l8May.mono _ _ _ _ _ _ _ k) e2 (by omega)⟩
def nbV (P : Int) (B : List Int) (C : List (List S86)) (c : Nat) (s : List Int) (i : Nat) : Nat → Nat → List Nat
  | _, 0 => []
  | j, d + 1 => if mb P B C c s i j = true then code (s.set i (j : Int)) :: nbV P B C c s i (j + 1) d else nbV P B C c s i (j + 1) d
def nbC (P : Int) (B : List Int) (C : List (List S86)) (c : Nat) (s : List Int) : Nat → Nat → List Nat
  | _, 0 => []
  | i, d + 1 => nbV P B C c s i 0 (rd_L9 C (i : Int)).length ++ nbC P B C c s (i + 1) d
/-- The codes of the states that a crowd comes to by one change. -/
def adj (P : Int) (B : List Int) (C : List (List S86)) (c : Nat) (x : Nat) : List Nat := nbC P B C c (stOf C.length x) 0 C.length
theorem nbV_mem {P : Int} {B : List Int} {C : List (List S86)} {c : Nat} {s : List Int} {i y : Nat} : ∀ {d j : Nat}, y ∈ nbV P B C c s i j d → ∃ v, j ≤ v ∧ v < j + d ∧ mb P B C c s i v = true ∧ y = code (s.set i (v : Int)) := by
  intro d
  induction d with
  | zero => intro j h; cases h
  | succ d ih =>
    intro j h
    rw [nbV] at h
    split at h
    · rename_i hm
      rcases List.mem_cons.mp h with rfl | h
      · exact ⟨j, by omega, by omega, hm, rfl⟩
      · obtain ⟨v, h1, h2, h3⟩ := ih h; exact ⟨v, by omega, by omega, h3⟩
    · obtain ⟨v, h1, h2, h3⟩ := ih h; exact ⟨v, by omega, by omega, h3⟩
theorem nbV_of {P : Int} {B : List Int} {C : List (List S86)} {c : Nat} {s : List Int} {i v : Nat} (hm : mb P B C c s i v = true) : ∀ {d j : Nat}, j ≤ v → v < j + d → code (s.set i (v : Int)) ∈ nbV P B C c s i j d := by
  intro d
  induction d with
  | zero => intro j h1 h2; omega
  | succ d ih =>
    intro j h1 h2
    rw [nbV]
    by_cases e : j = v
    · subst e; rw [if_pos hm]; exact List.mem_cons_self
    · have := ih (j := j + 1) (by omega) (by omega)
      split
      · exact List.mem_cons_of_mem _ this
      · exact this
theorem nbC_mem {P : Int} {B : List Int} {C : List (List S86)} {c : Nat} {s : List Int} {y : Nat} : ∀ {d i : Nat}, y ∈ nbC P B C c s i d → ∃ u v, i ≤ u ∧ u < i + d ∧ v < (rd_L9 C (u : Int)).length ∧ mb P B C c s u v = true ∧ y = code (s.set u (v : Int)) := by
  intro d
  induction d with
  | zero => intro i h; cases h
  | succ d ih =>
    intro i h
    rw [nbC] at h
    rcases List.mem_append.mp h with h | h
    · obtain ⟨v, h1, h2, h3⟩ := nbV_mem h; exact ⟨i, v, by omega, by omega, by omega, h3⟩
    · obtain ⟨u, v, h1, h2, h3⟩ := ih h; exact ⟨u, v, by omega, by omega, h3⟩
theorem nbC_of {P : Int} {B : List Int} {C : List (List S86)} {c : Nat} {s : List Int} {u v : Nat} (hm : mb P B C c s u v = true) (hv : v < (rd_L9 C (u : Int)).length) : ∀ {d i : Nat}, i ≤ u → u < i + d → code (s.set u (v : Int)) ∈ nbC P B C c s i d := by
  intro d
  induction d with
  | zero => intro i h1 h2; omega
  | succ d ih =>
    intro i h1 h2
    rw [nbC]
    by_cases e : i = u
    · subst e; exact List.mem_append_left _ (nbV_of hm (by omega) (by omega))
    · exact List.mem_append_right _ (ih (by omega) (by omega))
theorem code_cast {P : Int} {B : List Int} {C : List (List S86)} {s : List Int} (h : stOk P B C s = true) : ((code s : Nat) : Int) = num s ∧ code s < 27 := by
  obtain ⟨d, _, _, u⟩ := stOk_dig h
  have h1 := num_bd s d
  have h2 : 3 ^ s.length ≤ 3 ^ 3 := Nat.pow_le_pow_right (by decide) u
  unfold code; omega
theorem st_code {P : Int} {B : List Int} {C : List (List S86)} {s : List Int} (h : stOk P B C s = true) : stOf C.length (code s) = s := by
  obtain ⟨d, e, _, _⟩ := stOk_dig h
  rw [← e]; exact stOf_num s d
theorem code_inj {P : Int} {B : List Int} {C : List (List S86)} {s t : List Int} (h : stOk P B C s = true) (h' : stOk P B C t = true) (e : code s = code t) : s = t := by
  rw [← st_code h, ← st_code h', e]
theorem adj_st {P : Int} {B : List Int} {C : List (List S86)} {c : Nat} {s : List Int} (h : stOk P B C s = true) {y : Nat} (hy : y ∈ adj P B C c (code s)) : ∃ t, stOk P B C t = true ∧ y = code t := by
  unfold adj at hy
  rw [st_code h] at hy
  obtain ⟨u, v, h1, h2, h3, _, rfl⟩ := nbC_mem hy
  rw [rdC (by omega)] at h3
  exact ⟨_, stOk_set h (by omega) (by omega) (by omega), rfl⟩
theorem within_st {P : Int} {B : List Int} {C : List (List S86)} {c : Nat} {s : List Int} (h : stOk P B C s = true) : ∀ (n y : Nat), within (adj P B C c) (code s) n y → ∃ t, stOk P B C t = true ∧ y = code t
  | 0, y, hy => ⟨s, h, hy⟩
  | n + 1, y, hy => by
    rcases hy with hy | ⟨x, hx, hy⟩
    · exact within_st h n y hy
    · obtain ⟨t, ht, rfl⟩ := within_st h n x hx
      exact adj_st ht hy
theorem within_lt {P : Int} {B : List Int} {C : List (List S86)} {c : Nat} {s : List Int} (h : stOk P B C s = true) (n y : Nat) (hy : within (adj P B C c) (code s) n y) : y < 27 := by
  obtain ⟨t, ht, rfl⟩ := within_st h n y hy; exact (code_cast ht).2
/-! the map -/
def cst (L : List (Nat × Nat)) : List (Int × Int) := L.map fun p => ((p.1 : Int), (p.2 : Int))
theorem mhas_cst (c : Nat) : ∀ L, mhas (c : Int) (cst L) = true ↔ knows L c
  | [] => by simp [mhas, cst, knows]
  | p :: L => by
    have ih := mhas_cst c L
    have e : mhas (c : Int) (cst (p :: L)) = ((p.1 : Int) == (c : Int) || mhas (c : Int) (cst L)) := rfl
    rw [e, Bool.or_eq_true, ih]
    constructor
    · rintro (h | ⟨d, h⟩)
      · have : p.1 = c := by have := beq_iff_eq.mp h; omega
        exact ⟨p.2, by rw [← this]; exact List.mem_cons_self⟩
      · exact ⟨d, List.mem_cons_of_mem _ h⟩
    · rintro ⟨d, h⟩
      rcases List.mem_cons.mp h with h | h
      · left; rw [← h]; simp
      · right; exact ⟨d, h⟩
theorem mfind_cst (c : Nat) : ∀ (L : List (Nat × Nat)) (d : Nat), (c, d) ∈ L → (∀ e, (c, e) ∈ L → e = d) → mfind (c : Int) (cst L) = (d : Int)
  | [], _, h, _ => by cases h
  | p :: L, d, h, hu => by
    have e : mfind (c : Int) (cst (p :: L)) = if (p.1 : Int) = (c : Int) then (p.2 : Int) else mfind (c : Int) (cst L) := rfl
    rw [e]
    by_cases hc : p.1 = c
    · rw [if_pos (by omega), hu p.2 (by rw [← hc]; exact List.mem_cons_self)]
    · rw [if_neg (by omega)]
      refine mfind_cst c L d ?_ (fun e he => hu e (List.mem_cons_of_mem _ he))
      rcases List.mem_cons.mp h with h | h
      · rw [← h] at hc; exact absurd rfl hc
      · exact h
/-- What holds of the map and the queue. -/
structure QI (P : Int) (B : List Int) (C : List (List S86)) (c s0 : Nat) (D : List (Int × Int)) (q : List (List Int)) (L : List (Nat × Nat)) (d pd : Nat) (cur : Nat → List Nat → Prop) : Prop where
  dD : D = cst L
  ok : ∀ y ∈ q, stOk P B C y = true
  nd : (L.map (·.1)).Nodup
  pl : L.length = q.length + pd
  inv : BInv (adj P B C c) s0 L (q.map code) d cur
def RRes (P : Int) (B : List Int) (C : List (List S86)) (c s0 : Nat) (D : List (Int × Int)) : Prop := ∃ L, D = cst L ∧ (L.map (·.1)).Nodup ∧ ∀ y e, (y, e) ∈ L ↔ isDist (adj P B C c) s0 e y
theorem QI.small {P : Int} {B : List Int} {C : List (List S86)} {c : Nat} {s : List Int} (h : stOk P B C s = true) {D : List (Int × Int)} {q : List (List Int)} {L : List (Nat × Nat)} {d pd : Nat} {cur : Nat → List Nat → Prop} (hq : QI P B C c (code s) D q L d pd cur) : L.length ≤ 27 := by
  have := nodup_lt 27 (L.map (·.1)) hq.nd (fun x hx => by
    obtain ⟨p, hp, rfl⟩ := List.mem_map.mp hx
    exact within_lt h _ _ (hq.inv.dist p.1 p.2 hp).1)
  simpa using this
theorem rch_v {P : Int} {B : List Int} {C : List (List S86)} {c : Nat} (hc : c < 64) {s : List Int} (h : stOk P B C s = true) {x : List Int} (hx : stOk P B C x = true) {i : Nat} (hi : i < C.length) {R : List Nat} {d pd K : Nat} (hK : 100 ≤ K) (hd : d < 27)
    (cont : ∀ k D q L, K ≤ k → QI P B C c (code s) D q L d pd (fun y m => y = code x ∧ m = R) → (code x, d) ∈ L → ∃ r, impl_reach.l1 k D q x (i + 1) P B C (c : Int) = some r ∧ RRes P B C c (code s) r) (hR : ∀ y ∈ R, y ∈ adj P B C c (code x)) :
    ∀ (e j k : Nat) D q L, j + e = (rd_L9 C (i : Int)).length → K + e + 1 ≤ k → QI P B C c (code s) D q L d pd (fun y m => y = code x ∧ m = nbV P B C c x i j e ++ R) → (code x, d) ∈ L → ∃ r, impl_reach.l2 k D q x i j P B C (c : Int) = some r ∧ RRes P B C c (code s) r := by
  intro e
  induction e with
  | zero =>
    intro j k D q L hj hk hq hL
    obtain ⟨k, rfl, _⟩ := fuel (show 0 < k by omega)
    rw [impl_reach.l2, if_neg (by omega)]
    exact cont k D q L (by omega) (by simpa [nbV] using hq) hL
  | succ e ih =>
    intro j k D q L hj hk hq hL
    obtain ⟨k, rfl, hk'⟩ := fuel (show 0 < k by omega)
    have hj' : j < (rd_L9 C (i : Int)).length := by omega
    have hjC : j < C[i].length := by rw [rdC hi] at hj'; exact hj'
    obtain ⟨dg, el, l1, l3⟩ := stOk_dig hx
    have hy : stOk P B C (x.set i (j : Int)) = true := stOk_set hx hi (by omega) (by omega)
    obtain ⟨dy, _, _, ly⟩ := stOk_dig hy
    obtain ⟨cx, cx'⟩ := code_cast hx
    obtain ⟨cy, cy'⟩ := code_cast hy
    have e1 : impl_changed.f x (i : Int) (j : Int) = some (x.set i (j : Int)) := by
      unfold impl_changed.f
      rw [bnd rfl, if_pos (by simp; omega), bnd rfl, List.nil_append, if_pos (by omega), if_pos (by omega)]; simp
    have e2 := stNum_f dy ly (k := k) (by omega)
    have e2' := stNum_f dg l3 (k := k) (by omega)
    rw [impl_reach.l2, if_pos hj', bnd e1, bnd e2, ← cy]
    have hm := (mb_eq hx hi hj' hc (k := k) (by omega)).1
    have hsm := hq.small h
    obtain ⟨rfl, ok, nd, pl, inv⟩ := hq
    rw [nbV] at inv
    by_cases hk2 : knows L (code (x.set i (j : Int)))
    · rw [if_pos ((mhas_cst _ L).mpr hk2)]
      refine ih (j + 1) k _ q L (by omega) (by omega) ⟨rfl, ok, nd, pl, ?_⟩ hL
      split at inv
      · exact inv.skip hk2
      · exact inv
    · rw [if_neg (fun e => hk2 ((mhas_cst _ L).mp e)), bnd hm]
      by_cases hb : mb P B C c x i j = true
      · rw [if_pos hb] at inv
        have hmf : mfind (code x : Int) (cst L) = (d : Int) := mfind_cst _ L d hL (fun e he => isDist_uniq (inv.dist _ _ he) (inv.dist _ _ hL))
        have hql : q.length ≤ L.length := by omega
        have hcl : (cst L).length = L.length := by simp [cst]
        rw [if_pos hb, bnd e2', ← cx, hmf, w64s d (by omega), if_pos (by omega)]
        refine ih (j + 1) k _ _ ((code (x.set i (j : Int)), d + 1) :: L) (by omega) (by omega) ⟨rfl, ?_, ?_, by simp; omega, ?_⟩ (List.mem_cons_of_mem _ hL)
        · intro y hy'
          rcases List.mem_append.mp hy' with hy' | hy'
          · exact ok y hy'
          · simp only [List.mem_singleton] at hy'; subst hy'; exact hy
        · rw [List.map_cons, List.nodup_cons]
          refine ⟨fun hm => hk2 ?_, nd⟩
          obtain ⟨p, hp, e⟩ := List.mem_map.mp hm
          exact ⟨p.2, by rw [← show p.1 = code (x.set i (j : Int)) from e]; exact hp⟩
        · rw [List.map_append]
          refine inv.new hL ?_ hk2
          unfold adj; rw [st_code hx]; exact nbC_of hb hj' (by omega) (by omega)
      · rw [if_neg hb] at inv
        rw [if_neg hb]
        exact ih (j + 1) k _ q L (by omega) (by omega) ⟨rfl, ok, nd, pl, inv⟩ hL
theorem rch_c {P : Int} {B : List Int} {C : List (List S86)} {c : Nat} (hc : c < 64) {s : List Int} (h : stOk P B C s = true) {x : List Int} (hx : stOk P B C x = true) {d pd K : Nat} (hK : 100 ≤ K) (hd : d < 27)
    (cont : ∀ k D q L, K ≤ k → QI P B C c (code s) D q L d pd (fun y m => y = code x ∧ m = []) → ∃ r, impl_reach.l0 k D q P B C (c : Int) = some r ∧ RRes P B C c (code s) r) :
    ∀ (e i k : Nat) D q L, i + e = C.length → K + 6 * e + 1 ≤ k → QI P B C c (code s) D q L d pd (fun y m => y = code x ∧ m = nbC P B C c x i e) → (code x, d) ∈ L → ∃ r, impl_reach.l1 k D q x i P B C (c : Int) = some r ∧ RRes P B C c (code s) r := by
  intro e
  induction e with
  | zero =>
    intro i k D q L hi hk hq hL
    obtain ⟨k, rfl, _⟩ := fuel (show 0 < k by omega)
    rw [impl_reach.l1, if_neg (by omega)]
    exact cont k D q L (by omega) hq
  | succ e ih =>
    intro i k D q L hi hk hq hL
    obtain ⟨k, rfl, hk'⟩ := fuel (show 0 < k by omega)
    have hi' : i < C.length := by omega
    have h3 := (chOk_cl (stOk_at hx).1 hi').2.1
    rw [impl_reach.l1, if_pos hi']
    refine rch_v hc h hx hi' (K := K + 6 * e + 1) (R := nbC P B C c x (i + 1) e) (d := d) (pd := pd) (by omega) hd (fun k D q L hk hq hL => ih (i + 1) k D q L (by omega) hk hq hL) ?_ (rd_L9 C (i : Int)).length 0 k D q L (by omega) ?_ hq hL
    · intro y hy
      unfold adj; rw [st_code hx]
      obtain ⟨u, v, h1, h2, h4, h5, rfl⟩ := nbC_mem hy
      exact nbC_of h5 h4 (by omega) (by omega)
    · rw [rdC hi']; omega
theorem rch_0 {P : Int} {B : List Int} {C : List (List S86)} {c : Nat} (hc : c < 64) {s : List Int} (h : stOk P B C s = true) :
    ∀ (t pd d k : Nat) D q L, pd + t = 27 → 100 + 22 * t + 1 ≤ k → QI P B C c (code s) D q L d pd (fun _ _ => False) → ∃ r, impl_reach.l0 k D q P B C (c : Int) = some r ∧ RRes P B C c (code s) r := by
  intro t
  induction t with
  | zero =>
    intro pd d k D q L hp hk hq
    have hs := hq.small h
    have hpl := hq.pl
    obtain ⟨k, rfl, _⟩ := fuel (show 0 < k by omega)
    obtain rfl : q = [] := List.eq_nil_of_length_eq_zero (by omega)
    rw [impl_reach.l0]
    exact ⟨D, rfl, L, hq.dD, hq.nd, fun y e => hq.inv.end_ y e⟩
  | succ t ih =>
    intro pd d k D q L hp hk hq
    have hs := hq.small h
    have hpl := hq.pl
    obtain ⟨k, rfl, _⟩ := fuel (show 0 < k by omega)
    cases q with
    | nil =>
      rw [impl_reach.l0]
      exact ⟨D, rfl, L, hq.dD, hq.nd, fun y e => hq.inv.end_ y e⟩
    | cons x q =>
      rw [impl_reach.l0]
      obtain ⟨hD, ok, nd, pl, inv⟩ := hq
      have hx := ok x List.mem_cons_self
      rw [List.map_cons] at inv
      obtain ⟨d', hL, inv'⟩ := inv.pop
      have hd' : d' < 27 := isDist_lt (within_lt h) (inv.dist _ _ hL)
      have hC3 := (chOk_h (stOk_at hx).1).2.2
      refine rch_c hc h hx (K := 100 + 22 * t + 1) (d := d') (pd := pd + 1) (by omega) hd' (fun k D q L hk hq => ih (pd + 1) d' k D q L (by omega) hk ⟨hq.dD, hq.ok, hq.nd, hq.pl, hq.inv.done⟩) C.length 0 k D q L (by omega) (by omega) ⟨hD, fun y hy => ok y (List.mem_cons_of_mem _ hy), nd, by simp at pl; omega, ?_⟩ hL
      have e : adj P B C c (code x) = nbC P B C c x 0 C.length := by unfold adj; rw [st_code hx]
      rw [← e]; exact inv'
theorem rch_f {P : Int} {B : List Int} {C : List (List S86)} {c : Nat} (hc : c < 64) {s : List Int} (h : stOk P B C s = true) {k : Nat} (hk : 700 ≤ k) : ∃ r, impl_reach.f k P B C s (c : Int) = some r ∧ RRes P B C c (code s) r := by
  obtain ⟨dg, _, _, l3⟩ := stOk_dig h
  unfold impl_reach.f
  rw [stNum_f dg l3 (by omega), bnd rfl, ← (code_cast h).1]
  refine rch_0 hc h 27 0 0 k _ _ [(code s, 0)] (by omega) (by omega) ⟨rfl, fun y hy => ?_, by simp, rfl, BInv.start _ _⟩
  simp only [List.mem_singleton] at hy; subst hy; exact h
/-! the rounds -/
def fo (far : List Int) (c : Nat) : Option Nat := (far[c]?).bind fun v => if v < 0 then none else some v.toNat
theorem fo_set {far : List Int} {c : Nat} (hc : c < far.length) {v : Nat} : fo (far.set c (v : Int)) = fun y => if y = c then some v else fo far y := by
  funext y
  unfold fo
  by_cases e : y = c
  · subst e
    rw [if_pos rfl, List.getElem?_set_self hc]
    show (if (v : Int) < 0 then none else some (v : Int).toNat) = some v
    rw [if_neg (by omega)]; simp
  · rw [if_neg e, List.getElem?_set_ne (fun h => e h.symm)]
theorem fo_at {far : List Int} {c : Nat} (hc : c < far.length) : fo far c = if rd far (c : Int) < 0 then none else some (rd far (c : Int)).toNat := by
  unfold fo; rw [rd_lt hc, List.getElem?_eq_getElem hc]; rfl
theorem fo_out {far : List Int} {c : Nat} (hc : far.length ≤ c) : fo far c = none := by
  unfold fo; rw [List.getElem?_eq_none hc]; rfl
theorem RndInv.less {adj : Nat → List Nat} {s r : Nat} {f : Nat → Option Nat} {seen seen' : Nat → Prop} (h : RndInv adj s f r seen) (hs : ∀ y, seen' y → f y = some r → seen y ∨ ∀ c ∈ adj y, f c ≠ none) : RndInv adj s f r seen' :=
  ⟨h.dist, h.bound, h.near, fun x hx e => (hs x hx e).elim (fun k => h.shut x k e) id⟩
def FRes (P : Int) (B : List Int) (C : List (List S86)) (c s0 : Nat) (far : List Int) : Prop := far.length = 27 ∧ (∀ v ∈ far, -1 ≤ v) ∧ ∀ y e, fo far y = some e ↔ isDist (adj P B C c) s0 e y
/-- What holds of the row of distances. -/
structure FI (P : Int) (B : List Int) (C : List (List S86)) (c s0 : Nat) (far : List Int) (r x : Nat) : Prop where
  len : far.length = 27
  ge : ∀ v ∈ far, -1 ≤ v
  inv : RndInv (adj P B C c) s0 (fo far) r (fun y => y < x)
theorem far_v {P : Int} {B : List Int} {C : List (List S86)} {c : Nat} (hc : c < 64) {s : List Int} {x : List Int} (hx : stOk P B C x = true) {i : Nat} (hi : i < C.length) {R : List Nat} {r K : Nat} (hK : 100 ≤ K) (hr : r < 27)
    (cont : ∀ k far, K ≤ k → FI P B C c (code s) far r (code x) → fo far (code x) = some r → (∀ y ∈ adj P B C c (code x), fo far y ≠ none ∨ y ∈ R) → ∃ o, spec_l8Reach.l3 k (c : Int) far (r : Int) (code x : Int) x ((i + 1 : Nat) : Int) P B C = some o ∧ FRes P B C c (code s) o) :
    ∀ (e j k : Nat) far, j + e = (rd_L9 C (i : Int)).length → K + e + 1 ≤ k → FI P B C c (code s) far r (code x) → fo far (code x) = some r → (∀ y ∈ adj P B C c (code x), fo far y ≠ none ∨ y ∈ nbV P B C c x i j e ++ R) → ∃ o, spec_l8Reach.l4 k (c : Int) far (r : Int) (code x : Int) x (i : Int) (j : Int) P B C = some o ∧ FRes P B C c (code s) o := by
  intro e
  induction e with
  | zero =>
    intro j k far hj hk hf hx' ha
    obtain ⟨k, rfl, _⟩ := fuel (show 0 < k by omega)
    rw [spec_l8Reach.l4, if_pos (by omega), if_pos (by omega), if_neg (by omega), w64s i (by have := (chOk_h (stOk_at hx).1).2.2; omega)]
    exact cont k far (by omega) hf hx' (by simpa [nbV] using ha)
  | succ e ih =>
    intro j k far hj hk hf hx' ha
    obtain ⟨k, rfl, hk'⟩ := fuel (show 0 < k by omega)
    have hj' : j < (rd_L9 C (i : Int)).length := by omega
    have hjC : j < C[i].length := by rw [rdC hi] at hj'; exact hj'
    have hq3 := (chOk_cl (stOk_at hx).1 hi).2.1
    obtain ⟨dg, el, l1, l3⟩ := stOk_dig hx
    have hy : stOk P B C (x.set i (j : Int)) = true := stOk_set hx hi (by omega) (by omega)
    obtain ⟨dy, _, _, ly⟩ := stOk_dig hy
    obtain ⟨cy, cy'⟩ := code_cast hy
    have hm := (mb_eq hx hi hj' hc (k := k) (by omega)).2
    have g4 : ([] : List Int).length + x.length < 17592186044416 := by simp; omega
    rw [spec_l8Reach.l4, if_pos (by omega), if_pos (by omega), if_pos (by omega), bnd hm]
    rw [nbV] at ha
    by_cases hb : mb P B C c x i j = true
    · rw [if_pos hb] at ha
      have hfl := hf.len
      have e2 := sCode_f dy ly (k := k) (by omega)
      have hin : code (x.set i (j : Int)) ∈ adj P B C c (code x) := by unfold adj; rw [st_code hx]; exact nbC_of hb hj' (by omega) (by omega)
      rw [if_pos hb, bnd rfl, if_pos g4, bnd rfl, List.nil_append, if_pos (by omega), bnd rfl, Int.toNat_natCast, bnd e2, ← cy, if_pos (by omega), if_pos (by omega), w64s j (by omega)]
      by_cases hn : rd far (code (x.set i (j : Int)) : Int) < 0
      · have hfn : fo far (code (x.set i (j : Int))) = none := by rw [fo_at (by omega), if_pos hn]
        rw [if_pos hn, bnd e2, ← cy, if_pos (by omega), if_pos (by omega), w64s r (by omega), Int.toNat_natCast]
        have hs' := fo_set (far := far) (c := code (x.set i (j : Int))) (by omega) (v := r + 1)
        have hinv := hf.inv.set hx' hin hfn
        rw [← hs'] at hinv
        have keep : ∀ y, fo far y ≠ none → fo (far.set (code (x.set i (j : Int))) ((r + 1 : Nat) : Int)) y ≠ none := fun y hy => by
          rw [hs']; show (if _ then _ else _) ≠ none
          split
          · simp
          · exact hy
        refine ih (j + 1) k _ (by omega) (by omega) ⟨by simp; omega, fun v hv => ?_, hinv⟩ ?_ (fun y hy => ?_)
        · rcases List.mem_or_eq_of_mem_set hv with hv | rfl
          · exact hf.ge v hv
          · omega
        · rw [hs']; show (if _ then _ else _) = _
          rw [if_neg ?_]
          · exact hx'
          · intro e; rw [← e, hx'] at hfn; cases hfn
        · rcases ha y hy with h1 | h1
          · exact .inl (keep y h1)
          · rw [List.cons_append] at h1
            rcases List.mem_cons.mp h1 with rfl | h1
            · left; rw [hs']; show (if _ then _ else _) ≠ none; rw [if_pos rfl]; simp
            · exact .inr h1
      · have hfn : fo far (code (x.set i (j : Int))) ≠ none := by rw [fo_at (by omega), if_neg hn]; simp
        rw [if_neg hn]
        refine ih (j + 1) k far (by omega) (by omega) hf hx' (fun y hy => ?_)
        rcases ha y hy with h1 | h1
        · exact .inl h1
        · rw [List.cons_append] at h1
          rcases List.mem_cons.mp h1 with rfl | h1
          · exact .inl hfn
          · exact .inr h1
    · rw [if_neg hb] at ha
      rw [if_neg hb, w64s j (by omega)]
      exact ih (j + 1) k far (by omega) (by omega) hf hx' ha
theorem far_c {P : Int} {B : List Int} {C : List (List S86)} {c : Nat} (hc : c < 64) {s : List Int} {x : List Int} (hx : stOk P B C x = true) {r K : Nat} (hK : 100 ≤ K) (hr : r < 27)
    (cont : ∀ k far, K ≤ k → FI P B C c (code s) far r (code x + 1) → ∃ o, spec_l8Reach.l2 k (c : Int) far (r : Int) ((code x + 1 : Nat) : Int) P B C = some o ∧ FRes P B C c (code s) o) :
    ∀ (e i k : Nat) far, i + e = C.length → K + 6 * e + 1 ≤ k → FI P B C c (code s) far r (code x) → fo far (code x) = some r → (∀ y ∈ adj P B C c (code x), fo far y ≠ none ∨ y ∈ nbC P B C c x i e) → ∃ o, spec_l8Reach.l3 k (c : Int) far (r : Int) (code x : Int) x (i : Int) P B C = some o ∧ FRes P B C c (code s) o := by
  intro e
  induction e with
  | zero =>
    intro i k far hi hk hf hx' ha
    obtain ⟨k, rfl, _⟩ := fuel (show 0 < k by omega)
    have := (code_cast hx).2
    rw [spec_l8Reach.l3, if_neg (by omega), w64s (code x) (by omega)]
    refine cont k far (by omega) ⟨hf.len, hf.ge, hf.inv.less (fun y hy _ => ?_)⟩
    by_cases e : y = code x
    · subst e; right; intro z hz
      rcases ha z hz with h1 | h1
      · exact h1
      · cases h1
    · left; omega
  | succ e ih =>
    intro i k far hi hk hf hx' ha
    obtain ⟨k, rfl, hk'⟩ := fuel (show 0 < k by omega)
    have hi' : i < C.length := by omega
    have h3 := (chOk_cl (stOk_at hx).1 hi').2.1
    rw [spec_l8Reach.l3, if_pos (by omega)]
    refine far_v hc hx hi' (K := K + 6 * e + 1) (R := nbC P B C c x (i + 1) e) (r := r) (by omega) hr (fun k far hk hf hx' ha => ih (i + 1) k far (by omega) hk hf hx' ha) (rd_L9 C (i : Int)).length 0 k far (by omega) ?_ hf hx' ha
    rw [rdC hi']; omega
theorem far_l2 {P : Int} {B : List Int} {C : List (List S86)} {c : Nat} (hc : c < 64) {s : List Int} (h : stOk P B C s = true) {r K : Nat} (hK : 100 ≤ K) (hr : r < 27)
    (cont : ∀ k far, K ≤ k → FI P B C c (code s) far r 27 → ∃ o, spec_l8Reach.l1 k (c : Int) far ((r + 1 : Nat) : Int) P B C = some o ∧ FRes P B C c (code s) o) :
    ∀ (e x k : Nat) far, x + e = 27 → K + 20 * e + 1 ≤ k → FI P B C c (code s) far r x → ∃ o, spec_l8Reach.l2 k (c : Int) far (r : Int) (x : Int) P B C = some o ∧ FRes P B C c (code s) o := by
  intro e
  induction e with
  | zero =>
    intro x k far hx hk hf
    obtain ⟨k, rfl, _⟩ := fuel (show 0 < k by omega)
    have hl := hf.len
    rw [spec_l8Reach.l2, if_neg (by omega), w64s r (by omega)]
    obtain rfl : x = 27 := by omega
    exact cont k far (by omega) hf
  | succ e ih =>
    intro x k far hx hk hf
    obtain ⟨k, rfl, hk'⟩ := fuel (show 0 < k by omega)
    have hl := hf.len
    have hC3 := (chOk_h (stOk_at h).1).2.2
    rw [spec_l8Reach.l2, if_pos (by omega), if_pos (by omega)]
    by_cases hv : rd far (x : Int) = (r : Int)
    · have hfo : fo far x = some r := by rw [fo_at (by omega), hv, if_neg (by omega)]; simp
      obtain ⟨t, ht, rfl⟩ := within_st h _ _ (hf.inv.dist x r hfo).1
      rw [if_pos hv, l8St_f P B (by omega) (by omega) (by omega), bnd rfl, st_code ht]
      refine far_c hc ht (K := K + 20 * e + 1) (r := r) (by omega) hr (fun k far hk hf => ih (code t + 1) k far (by omega) hk hf) C.length 0 k far (by omega) (by omega) hf hfo (fun y hy => ?_)
      right; unfold adj at hy; rw [st_code ht] at hy; exact hy
    · rw [if_neg hv, w64s x (by omega)]
      refine ih (x + 1) k far (by omega) (by omega) ⟨hf.len, hf.ge, hf.inv.less (fun y hy e => ?_)⟩
      left
      have : y ≠ x := by
        rintro rfl
        rw [fo_at (by omega)] at e
        split at e
        · cases e
        · injection e with e; omega
      omega
theorem far_l1 {P : Int} {B : List Int} {C : List (List S86)} {c : Nat} (hc : c < 64) {s : List Int} (h : stOk P B C s = true) :
    ∀ (e r k : Nat) far, r + e = 27 → 100 + 600 * e + 1 ≤ k → FI P B C c (code s) far r 0 → ∃ o, spec_l8Reach.l1 k (c : Int) far (r : Int) P B C = some o ∧ FRes P B C c (code s) o := by
  intro e
  induction e with
  | zero =>
    intro r k far hr hk hf
    obtain ⟨k, rfl, _⟩ := fuel (show 0 < k by omega)
    have hl := hf.len
    obtain rfl : r = 27 := by omega
    rw [spec_l8Reach.l1, if_neg (by omega)]
    exact ⟨far, rfl, hf.len, hf.ge, fun y e => RndInv.end_ (within_lt h) (hf.inv.less (fun _ hy _ => hy.elim)) y e⟩
  | succ e ih =>
    intro r k far hr hk hf
    obtain ⟨k, rfl, hk'⟩ := fuel (show 0 < k by omega)
    have hl := hf.len
    rw [spec_l8Reach.l1, if_pos (by omega)]
    obtain ⟨M, hM⟩ : ∃ M, M = 100 + 600 * e + 1 := ⟨_, rfl⟩
    obtain ⟨N, hN⟩ : ∃ N : Nat, N = 27 := ⟨_, rfl⟩
    have key := far_l2 hc h (K := M) (r := r) (by omega) (by omega) (fun k far hk hf => ih (r + 1) k far (by omega) (by omega) ⟨hf.len, hf.ge, by
      have hn : RndInv (adj P B C c) (code s) (fo far) r (fun _ => True) := hf.inv.less (fun y _ e => .inl (by
        rcases Nat.lt_or_ge y 27 with hh | hh
        · exact hh
        · rw [fo_out (by rw [hf.len]; exact hh)] at e; cases e))
      exact hn.next.less (fun y hy _ => by omega)⟩) N 0 k far (by omega) (by omega) hf
    exact key
theorem far_l0 {P : Int} {B : List Int} {C : List (List S86)} {a c : Int} (ha : 0 ≤ a) (ha' : a < 27) : ∀ (e i k : Nat), i + e = 27 → e + 1 ≤ k →
    ∃ k', k' + e + 1 = k ∧ spec_l8Reach.l0 k a c (List.replicate i (-1)) (i : Int) P B C = spec_l8Reach.l1 k' c ((List.replicate 27 (-1)).set a.toNat 0) 0 P B C := by
  intro e
  induction e with
  | zero =>
    intro i k hi hk
    obtain ⟨k, rfl, _⟩ := fuel (show 0 < k by omega)
    obtain rfl : i = 27 := by omega
    refine ⟨k, rfl, ?_⟩
    rw [spec_l8Reach.l0, if_neg (by omega), if_pos ha, if_pos (by rw [List.length_replicate]; omega)]
  | succ e ih =>
    intro i k hi hk
    obtain ⟨k, rfl, _⟩ := fuel (show 0 < k by omega)
    obtain ⟨k', h1, h2⟩ := ih (i + 1) k (by omega) (by omega)
    refine ⟨k', by omega, ?_⟩
    rw [spec_l8Reach.l0, if_pos (by omega), if_pos (by rw [List.length_replicate]; omega), w64s i (by omega), ← List.replicate_succ', h2]
theorem far_f {P : Int} {B : List Int} {C : List (List S86)} {c : Nat} (hc : c < 64) {s : List Int} (h : stOk P B C s = true) {k : Nat} (hk : 17000 ≤ k) : ∃ o, spec_l8Reach.f k P B C (code s : Int) (c : Int) = some o ∧ FRes P B C c (code s) o := by
  have hs := (code_cast h).2
  unfold spec_l8Reach.f
  obtain ⟨k', h1, h2⟩ := far_l0 (P := P) (B := B) (C := C) (a := (code s : Int)) (c := (c : Int)) (by omega) (by omega) 27 0 k (by omega) (by omega)
  have h2' : spec_l8Reach.l0 k (code s : Int) (c : Int) [] 0 P B C = _ := h2
  rw [h2', Int.toNat_natCast]
  have hz : fo ((List.replicate 27 (-1)).set (code s) 0) = fun y => if y = code s then some 0 else fo (List.replicate 27 (-1)) y := fo_set (far := List.replicate 27 (-1)) (c := code s) (by rw [List.length_replicate]; exact hs) (v := 0)
  have hn : ∀ y, fo (List.replicate 27 (-1)) y = none := fun y => by
    unfold fo
    rcases Nat.lt_or_ge y 27 with hh | hh
    · rw [List.getElem?_replicate, if_pos hh]; rfl
    · rw [List.getElem?_eq_none (by simpa using hh)]; rfl
  refine far_l1 hc h 27 0 k' _ (by omega) (by omega) ⟨by simp, fun v hv => ?_, ?_⟩
  · rcases List.mem_or_eq_of_mem_set hv with hv | rfl
    · rw [List.eq_of_mem_replicate hv]; omega
    · omega
  · rw [hz]
    refine ⟨fun y d e => ?_, fun y d e => ?_, fun y hy => ?_, fun y hy => by omega⟩
    · by_cases hy : y = code s
      · rw [if_pos hy] at e; injection e with e; subst e; subst hy
        exact ⟨rfl, fun e he => by omega⟩
      · rw [if_neg hy, hn] at e; cases e
    · by_cases hy : y = code s
      · rw [if_pos hy] at e; injection e with e; omega
      · rw [if_neg hy, hn] at e; cases e
    · have : y = code s := hy
      rw [if_pos this]; simp
/-- Whether, and after how many changes, the state of a code is come to. -/
theorem res_same {P : Int} {B : List Int} {C : List (List S86)} {c : Nat} {s0 : Nat} {D : List (Int × Int)} {far : List Int} (hD : RRes P B C c s0 D) (hf : FRes P B C c s0 far) {y : Nat} (hy : y < 27) :
    (mhas (y : Int) D = true ∧ rd far (y : Int) = mfind (y : Int) D ∧ 0 ≤ rd far (y : Int)) ∨ (mhas (y : Int) D = false ∧ rd far (y : Int) = -1) := by
  obtain ⟨L, rfl, nd, hL⟩ := hD
  obtain ⟨hl, hg, hf⟩ := hf
  have ha := fo_at (far := far) (c := y) (by omega)
  by_cases hk : knows L y
  · left
    obtain ⟨e, he⟩ := hk
    have h1 := (hL y e).mp he
    have h2 := (hf y e).mpr h1
    rw [ha] at h2
    split at h2
    · cases h2
    · injection h2 with h2
      refine ⟨(mhas_cst y L).mpr ⟨e, he⟩, ?_, by omega⟩
      rw [mfind_cst y L e he (fun e' he' => isDist_uniq ((hL y e').mp he') h1)]; omega
  · right
    refine ⟨bfalse (fun e => hk ((mhas_cst y L).mp e)), ?_⟩
    have h2 : fo far y = none := by
      cases h3 : fo far y with
      | none => rfl
      | some e => exact absurd ⟨e, (hL y e).mpr ((hf y e).mp h3)⟩ hk
    rw [ha] at h2
    split at h2
    · have := hg (rd far (y : Int)) (rd_mem (by omega) (by omega)); omega
    · cases h2
/-! ### marks from any number on -/
theorem leO_add {α : Type} {f : Nat → Option α} (h : ∀ k, LeO (f k) (f (k + 1))) (k : Nat) : ∀ d, LeO (f k) (f (k + d))
  | 0 => LeO.refl _
  | d + 1 => (leO_add h k d).trans (h _)
theorem markIntS_g : ∀ (d i k : Nat) (l : List Int) (a : Int), 0 ≤ a → a + d ≤ 9223372036854775806 → l.length < 2305843009213693952 → i + d = l.length → d < k →
    ∃ m, laws_markIntS.l0 k l a (i : Int) = some (a + (d : Int), m) := by
  intro d
  induction d with
  | zero =>
    intro i k l a _ _ hl hi hk
    obtain ⟨k, rfl, _⟩ := fuel hk
    rw [laws_markIntS.l0, if_neg (by omega)]; exact ⟨l, by simp⟩
  | succ d ih =>
    intro i k l a ha hb hl hi hk
    obtain ⟨k, rfl, hk'⟩ := fuel hk
    rw [laws_markIntS.l0, if_pos (by omega), if_pos (by omega), w64s i (by omega), w64 (by omega) (by omega)]
    obtain ⟨m, e⟩ := ih (i + 1) k (l.set ((i : Int)).toNat a) (a + 1) (by omega) (by omega) (by simpa using hl) (by simp; omega) (by omega)
    exact ⟨m, by rw [e]; congr 2; omega⟩
theorem tot_le : ∀ (ns : List Nat), (∀ n ∈ ns, n ≤ 1048576) → tot ns ≤ 3145730 * ns.length
  | [], _ => by simp [tot]
  | n :: r, h => by
    have := tot_le r (fun n hn => h n (List.mem_cons_of_mem _ hn))
    have := h n (List.mem_cons_self ..)
    simp only [tot, List.length_cons]; omega
theorem totC_le : ∀ (ns : List (List Nat)), (∀ n ∈ ns, n.length ≤ 1048576 ∧ ∀ m ∈ n, m ≤ 1048576) → totC ns ≤ 3298537078784 * ns.length
  | [], _ => by simp [totC]
  | n :: r, h => by
    have := totC_le r (fun n hn => h n (List.mem_cons_of_mem _ hn))
    obtain ⟨h1, h2⟩ := h n (List.mem_cons_self ..)
    have := tot_le n h2
    simp only [totC, List.length_cons]; omega
theorem markCharter_g (P : Int) (B : List Int) (C : List (List S86)) (hB : B.length ≤ 1048576) (hC : C.length ≤ 1048576) (hm : hLen C) :
    ∃ a, laws_markCharter.f P B C 1 = some a ∧ 0 ≤ a ∧ a ≤ 4611686018427387904 := by
  have hs : ∀ n ∈ shapeC C, n.length ≤ 1048576 ∧ ∀ m ∈ n, m ≤ 1048576 := by
    intro n hn
    unfold shapeC at hn
    obtain ⟨x, hx, rfl⟩ := List.mem_map.mp hn
    refine ⟨by rw [List.length_map]; exact (hm x hx).1, fun m hm' => ?_⟩
    obtain ⟨y, hy, rfl⟩ := List.mem_map.mp hm'
    exact (hm x hx).2 y hy
  have ht := totC_le (shapeC C) hs
  have hl : (shapeC C).length = C.length := by unfold shapeC; rw [List.length_map]
  unfold laws_markCharter.f
  rw [if_pos ⟨by omega, hB, hC, hs, by omega⟩]
  exact ⟨_, rfl, by omega, by omega⟩

/-! ### least crowds -/
theorem stOk_n {P : Int} {B : List Int} {C : List (List S86)} {s : List Int} (h : stOk P B C s = true) : ∃ n : Nat, P = (n : Int) ∧ n ≤ 6 := by
  have hh := (chOk_h (stOk_at h).1).1
  simp only [hOk, hTail, Bool.and_eq_true, decide_eq_true_eq] at hh
  obtain ⟨n, rfl⟩ := Int.eq_ofNat_of_zero_le (show 0 ≤ P by omega)
  exact ⟨n, rfl, by omega⟩
/-! ### the least crowds -/
/-- No other one of the list is within c. -/
def lk (l : List Int) (c : Int) : Bool := l.all fun d => d == c || (Go.bits .and .i64 d c != d)
theorem every_f {n : Nat} (hn : n ≤ 6) : wrap64 ((shl .i64 1 (n : Int)) - 1) = ((2 ^ n - 1 : Nat) : Int) := by
  have hp := pow6 hn
  have := Nat.two_pow_pos n
  rw [shl_one (by omega), w64 (by omega) (by omega)]; omega
/-! ### the states that are reached -/
theorem crowdsOf_iff {so : Int → Bool} {x : Int} : ∀ n : Nat, x ∈ crowdsOf so n ↔ ∃ c : Nat, c < n ∧ x = (c : Int) ∧ so (c : Int) = true
  | 0 => by simp [crowdsOf]
  | m + 1 => by
    have ih := crowdsOf_iff (so := so) (x := x) m
    rw [crowdsOf]
    constructor
    · intro h
      split at h
      · rename_i hs
        rcases List.mem_append.mp h with h | h
        · obtain ⟨c, h1, h2⟩ := ih.mp h; exact ⟨c, by omega, h2⟩
        · simp only [List.mem_singleton] at h; exact ⟨m, by omega, h, hs⟩
      · obtain ⟨c, h1, h2⟩ := ih.mp h; exact ⟨c, by omega, h2⟩
    · rintro ⟨c, h1, h2, h3⟩
      by_cases e : c = m
      · subst e; rw [if_pos h3]; simp [h2]
      · have := ih.mpr ⟨c, by omega, h2, h3⟩
        split
        · exact List.mem_append_left _ this
        · exact this
theorem asc_nodup {l : List Int} (h : l.Pairwise (· < ·)) : l.Nodup := h.imp (fun h => by omega)
theorem sorted_asc {l : List Int} (h : l.Pairwise (· < ·)) : l.mergeSort (fun x y => decide (x ≤ y)) = l := List.mergeSort_of_pairwise (h.imp fun h => by simpa using Int.le_of_lt h)
/-! ### all states of a charter -/
def extS (s : List Int) (n : Nat) : List (List Int) := (List.range n).map fun (v : Nat) => s ++ [(v : Int)]
def sts : List (List Int) → List (List S86) → List (List Int)
  | out, [] => out
  | out, V :: r => sts (out.flatMap fun s => extS s V.length) r
theorem extS_len (s : List Int) (n : Nat) : (extS s n).length = n := by simp [extS]
theorem ext_len (n : Nat) : ∀ out : List (List Int), (out.flatMap fun s => extS s n).length = out.length * n
  | [] => by simp
  | s :: r => by
    rw [List.flatMap_cons, List.length_append, ext_len n r, extS_len, List.length_cons, Nat.succ_mul, Nat.add_comm]
theorem rdI_lt {out : List (List Int)} {m : Nat} (h : m < out.length) : rd_L12 out (m : Int) = out[m] := by
  unfold rd_L12
  rw [List.getD_eq_getElem?_getD, show ((m : Int)).toNat = m from by omega, List.getElem?_eq_getElem h, Option.getD_some]
theorem sto_2 {V : List S86} {s : List Int} {nx out : List (List Int)} {C : List (List S86)} {i m : Int} {n1 n2 : Int} {K : Nat} {R : List (List Int)} (hs : s.length ≤ 3) (hV : V.length ≤ 3) (hn : nx.length ≤ 100)
    (H : ∀ k, K ≤ k → impl_statesOf.l1 k V (nx ++ extS s V.length) C n1 i out n2 (wrap64 (m + 1)) = some R) :
    ∀ (d j k : Nat), j + d = V.length → K + d < k → impl_statesOf.l2 k V (nx ++ extS s j) s C n1 i out n2 m (V.length : Int) (j : Int) = some R := by
  intro d
  induction d with
  | zero =>
    intro j k hj hk
    obtain ⟨k, rfl, _⟩ := fuel hk
    obtain rfl : j = V.length := by omega
    rw [impl_statesOf.l2, if_neg (by omega)]
    exact H k (by omega)
  | succ d ih =>
    intro j k hj hk
    obtain ⟨k, rfl, _⟩ := fuel hk
    have h1 : ([] : List Int).length + s.length < 17592186044416 := by simp; omega
    have h2 : (([] : List Int) ++ s).length < 17592186044416 := by simp; omega
    have h3 : (nx ++ extS s j).length < 5864062014805 := by rw [List.length_append, extS_len]; omega
    have e := ih (j + 1) k (by omega) (by omega)
    rw [show nx ++ extS s (j + 1) = nx ++ extS s j ++ [([] ++ s) ++ [(j : Int)]] by simp [extS, List.range_succ]] at e
    rw [impl_statesOf.l2, if_pos (by omega), bnd rfl, if_pos h1, bnd rfl, if_pos h2, if_pos h3, w64s j (by omega)]
    exact e
theorem sto_1 {V : List S86} {out : List (List Int)} {C : List (List S86)} {i : Int} {n1 : Int} {K : Nat} {R : List (List Int)} (hs : ∀ s ∈ out, s.length ≤ 3) (hV : V.length ≤ 3) (ho : out.length ≤ 9)
    (H : ∀ k, K ≤ k → impl_statesOf.l0 k (out.flatMap fun s => extS s V.length) C n1 (wrap64 (i + 1)) = some R) :
    ∀ (d m k : Nat), m + d = out.length → K + 5 * d < k → impl_statesOf.l1 k V ((out.take m).flatMap fun s => extS s V.length) C n1 i out (out.length : Int) (m : Int) = some R := by
  intro d
  induction d with
  | zero =>
    intro m k hm hk
    obtain ⟨k, rfl, _⟩ := fuel hk
    obtain rfl : m = out.length := by omega
    rw [impl_statesOf.l1, if_neg (by omega), List.take_length]
    exact H k (by omega)
  | succ d ih =>
    intro m k hm hk
    obtain ⟨k, rfl, _⟩ := fuel hk
    have hlt : m < out.length := by omega
    rw [impl_statesOf.l1, if_pos (by omega), if_pos (by omega), if_pos (by omega), rdI_lt hlt]
    have e := sto_2 (V := V) (s := out[m]) (nx := (out.take m).flatMap fun s => extS s V.length) (out := out) (C := C) (i := i) (m := (m : Int)) (n1 := n1) (n2 := (out.length : Int)) (K := K + 5 * d + 1) (R := R) (hs _ (List.getElem_mem hlt)) hV
      (by rw [ext_len, List.length_take]; exact Nat.le_trans (Nat.mul_le_mul (show min m out.length ≤ 9 by omega) hV) (by decide)) (fun k hk => by
        have e := ih (m + 1) k (by omega) (by omega)
        rw [List.take_succ_eq_append_getElem hlt, List.flatMap_append, List.flatMap_singleton] at e
        rw [w64s m (by omega)]
        exact e) V.length 0 k (by omega) (by omega)
    rw [show extS out[m] 0 = [] from rfl, List.append_nil] at e
    exact e
theorem sto_0 {C : List (List S86)} (hC : C.length ≤ 3) (hX : ∀ L ∈ C, L.length ≤ 3) : ∀ (d i k : Nat) (out : List (List Int)), i + d = C.length → (∀ s ∈ out, s.length ≤ i) → out.length ≤ 3 ^ i → 100 * d < k →
    impl_statesOf.l0 k out C (C.length : Int) (i : Int) = some (sts out (C.drop i)) := by
  intro d
  induction d with
  | zero =>
    intro i k out hi hs ho hk
    obtain ⟨k, rfl, _⟩ := fuel hk
    obtain rfl : i = C.length := by omega
    rw [impl_statesOf.l0, if_neg (by omega), List.drop_length, sts]
  | succ d ih =>
    intro i k out hi hs ho hk
    obtain ⟨k, rfl, _⟩ := fuel hk
    have hlt : i < C.length := by omega
    have hV := hX _ (List.getElem_mem hlt)
    have h9 : out.length ≤ 9 := Nat.le_trans ho (Nat.le_trans (Nat.pow_le_pow_right (by decide) (show i ≤ 2 by omega)) (by decide))
    rw [impl_statesOf.l0, if_pos (by omega), if_pos (by omega), if_pos (by omega), rdC hlt, List.drop_eq_getElem_cons hlt, sts]
    refine sto_1 (K := 100 * d + 1) (fun s h => by have := hs s h; omega) hV h9 (fun k hk => ?_) out.length 0 k (by omega) (by omega)
    rw [w64s i (by omega)]
    refine ih (i + 1) k _ (by omega) (fun s h => ?_) ?_ (by omega)
    · obtain ⟨q, hq, h⟩ := List.mem_flatMap.mp h
      obtain ⟨v, _, rfl⟩ := List.mem_map.mp h
      have := hs q hq
      simp; omega
    · rw [ext_len, Nat.pow_succ]; exact Nat.mul_le_mul ho hV
theorem sto_f (P : Int) (B : List Int) {C : List (List S86)} (hC : C.length ≤ 3) (hX : ∀ L ∈ C, L.length ≤ 3) {k : Nat} (hk : 300 < k) : impl_statesOf.f k P B C = some (sts [[]] C) :=
  sto_0 hC hX C.length 0 k [[]] (by omega) (fun s h => by rw [List.mem_singleton] at h; subst h; simp) (by simp) (by omega)
def okS : List (List S86) → List Int → Prop
  | [], t => t = []
  | V :: r, t => ∃ (v : Nat) (u : List Int), t = (v : Int) :: u ∧ v < V.length ∧ okS r u
theorem sts_mem : ∀ (C : List (List S86)) (out : List (List Int)) (s : List Int), s ∈ sts out C ↔ ∃ p ∈ out, ∃ t, okS C t ∧ s = p ++ t
  | [], out, s => by simp [sts, okS]
  | V :: r, out, s => by
    rw [sts, sts_mem r]
    constructor
    · rintro ⟨p, hp, t, ht, rfl⟩
      obtain ⟨q, hq, h⟩ := List.mem_flatMap.mp hp
      obtain ⟨v, hv, rfl⟩ := List.mem_map.mp h
      exact ⟨q, hq, (v : Int) :: t, ⟨v, t, rfl, List.mem_range.mp hv, ht⟩, by simp⟩
    · rintro ⟨q, hq, t, ⟨v, u, rfl, hv, hu⟩, rfl⟩
      exact ⟨q ++ [(v : Int)], List.mem_flatMap.mpr ⟨q, hq, List.mem_map.mpr ⟨v, List.mem_range.mpr hv, rfl⟩⟩, u, hu, by simp⟩
theorem okS_iff : ∀ (C : List (List S86)) (t : List Int), okS C t ↔ t.length = C.length ∧ ∀ i (hi : i < C.length) (hs : i < t.length), 0 ≤ t[i] ∧ t[i] < (C[i].length : Int)
  | [], t => by
    simp only [okS, List.length_nil]
    constructor
    · rintro rfl; exact ⟨rfl, fun i hi => absurd hi (Nat.not_lt_zero _)⟩
    · rintro ⟨h, _⟩; exact List.eq_nil_of_length_eq_zero h
  | V :: r, t => by
    simp only [okS, List.length_cons]
    constructor
    · rintro ⟨v, u, rfl, hv, hu⟩
      obtain ⟨h1, h2⟩ := (okS_iff r u).mp hu
      refine ⟨by simp [h1], fun i hi hs => ?_⟩
      cases i with
      | zero => simp; omega
      | succ i => simpa using h2 i (by omega) (by simpa using hs)
    · rintro ⟨h1, h2⟩
      cases t with
      | nil => simp at h1
      | cons x u =>
        have h0 := h2 0 (by omega) (by simp)
        simp only [List.getElem_cons_zero] at h0
        refine ⟨x.toNat, u, by rw [Int.toNat_of_nonneg h0.1], by omega, (okS_iff r u).mpr ⟨by simpa using h1, fun i hi hs => ?_⟩⟩
        exact h2 (i + 1) (by omega) (by simpa using hs)
theorem sts_st {P : Int} {B : List Int} {C : List (List S86)} (h : chOk P B C = true) (s : List Int) : s ∈ sts [[]] C ↔ stOk P B C s = true := by
  rw [sts_mem]
  constructor
  · rintro ⟨p, hp, t, ht, rfl⟩
    rw [List.mem_singleton] at hp
    subst hp
    rw [List.nil_append]
    obtain ⟨h1, h2⟩ := (okS_iff C t).mp ht
    exact stOk_of h h1 h2
  · intro hs
    obtain ⟨_, h1, h2⟩ := stOk_at hs
    exact ⟨[], List.mem_singleton.mpr rfl, s, (okS_iff C s).mpr ⟨h1, h2⟩, by simp⟩
theorem sts_nodup : ∀ (C : List (List S86)) (out : List (List Int)), out.Nodup → (sts out C).Nodup
  | [], _, h => h
  | V :: r, out, h => by
    rw [sts]
    refine sts_nodup r _ ?_
    refine List.pairwise_flatMap.mpr ⟨fun s _ => ?_, h.imp (fun {a b} hab x hx y hy e => ?_)⟩
    · refine List.pairwise_map.mpr ((List.nodup_range).imp fun {a b} hab e => hab ?_)
      have := List.append_cancel_left e
      simp at this
      omega
    · obtain ⟨v, _, rfl⟩ := List.mem_map.mp hx
      obtain ⟨u, _, rfl⟩ := List.mem_map.mp hy
      exact hab (List.append_inj' e rfl).1
/-- A number that is a state's. -/
def isN (P : Int) (B : List Int) (C : List (List S86)) (x : Int) : Bool := stOk P B C (stOf C.length x.toNat) && decide (num (stOf C.length x.toNat) = x)
theorem isN_iff {P : Int} {B : List Int} {C : List (List S86)} (x : Int) : isN P B C x = true ↔ ∃ s, stOk P B C s = true ∧ num s = x := by
  simp only [isN, Bool.and_eq_true, decide_eq_true_eq]
  constructor
  · rintro ⟨h1, h2⟩; exact ⟨_, h1, h2⟩
  · rintro ⟨s, h1, rfl⟩
    have e : stOf C.length (num s).toNat = s := st_code h1
    rw [e]; exact ⟨h1, rfl⟩
theorem num_asc {P : Int} {B : List Int} {C : List (List S86)} {L : List (List Int)} (h : L.Nodup) (hL : ∀ s ∈ L, stOk P B C s = true) : (L.map num).Nodup := by
  refine List.pairwise_map.mpr (List.Pairwise.imp_of_mem (fun {a b} ha hb hne e => hne ?_) h)
  exact code_inj (hL a ha) (hL b hb) (by unfold code; rw [e])
/-- The numbers of the states with a property, in ascending order. -/
theorem num_sorted {P : Int} {B : List Int} {C : List (List S86)} (h : chOk P B C = true) (q : Int → Bool) : ((((sts [[]] C).filter fun s => q (num s)).map num)).mergeSort (fun x y => decide (x ≤ y)) = crowdsOf (fun x => isN P B C x && q x) 27 := by
  have hm : ∀ s ∈ (sts [[]] C).filter fun s => q (num s), stOk P B C s = true := fun s hs => (sts_st h s).mp (List.mem_filter.mp hs).1
  rw [mergeSort_of_perm_i (l' := crowdsOf (fun x => isN P B C x && q x) 27) ?_]
  · exact sorted_asc (crowdsOf_asc _ _)
  · refine (List.perm_ext_iff_of_nodup (num_asc ((sts_nodup C [[]] (by simp)).filter _) hm) (asc_nodup (crowdsOf_asc _ _))).mpr (fun x => ?_)
    rw [crowdsOf_iff]
    constructor
    · intro hx
      obtain ⟨s, hs, rfl⟩ := List.mem_map.mp hx
      obtain ⟨h1, h2⟩ := List.mem_filter.mp hs
      have hst := (sts_st h s).mp h1
      obtain ⟨c1, c2⟩ := code_cast hst
      exact ⟨code s, c2, c1.symm, by rw [c1, (isN_iff _).mpr ⟨s, hst, rfl⟩, h2]; rfl⟩
    · rintro ⟨y, hy, rfl, hh⟩
      rw [Bool.and_eq_true] at hh
      obtain ⟨s, hs, e⟩ := (isN_iff _).mp hh.1
      exact List.mem_map.mpr ⟨s, List.mem_filter.mpr ⟨(sts_st h s).mpr hs, by rw [e]; exact hh.2⟩, e⟩
theorem chOk_3 {P : Int} {B : List Int} {C : List (List S86)} (h : chOk P B C = true) : ∀ L ∈ C, L.length ≤ 3 := by
  intro L hL
  obtain ⟨i, hi, rfl⟩ := List.getElem_of_mem hL
  simp only [chOk, Bool.and_eq_true, decide_eq_true_eq] at h
  have := clsOk_at C 0 i hi h.2.2
  simp only [clOk, Bool.and_eq_true, decide_eq_true_eq] at this
  exact this.1.2

/-! ### clauses that stay -/
theorem crowds_congr {f g : Int → Bool} : ∀ n : Nat, (∀ c : Nat, c < n → f (c : Int) = g (c : Int)) → crowdsOf f n = crowdsOf g n
  | 0, _ => rfl
  | n + 1, h => by
    rw [crowdsOf, crowdsOf, crowds_congr n (fun c hc => h c (by omega)), h n (by omega)]
/-- By the numbers that are reached. -/
def fxr (D : List (Int × Int)) (n : Nat) (s : List Int) (i : Int) : Bool := (List.range 27).all fun c => !mhas (c : Int) D || rd (stOf n c) i == rd s i
/-- By the states. -/
def fxq (D : List (Int × Int)) (L : List (List Int)) (s : List Int) (i : Int) : Bool := L.all fun t => !mhas (num t) D || rd t i == rd s i
theorem reached_st {P : Int} {B : List Int} {C : List (List S86)} {c : Nat} {s : List Int} (h : stOk P B C s = true) {D : List (Int × Int)} (hD : RRes P B C c (code s) D) {y : Nat} (hy : mhas (y : Int) D = true) : ∃ t, stOk P B C t = true ∧ y = code t := by
  obtain ⟨L, rfl, _, hL⟩ := hD
  obtain ⟨e, he⟩ := (mhas_cst y L).mp hy
  exact within_st h _ _ ((hL y e).mp he).1
theorem fx_eq {P : Int} {B : List Int} {C : List (List S86)} {c : Nat} {s : List Int} (h : stOk P B C s = true) {D : List (Int × Int)} (hD : RRes P B C c (code s) D) (i : Int) : fxq D (sts [[]] C) s i = fxr D C.length s i := by
  obtain ⟨hch, _, _⟩ := stOk_at h
  rw [Bool.eq_iff_iff]
  simp only [fxq, fxr, List.all_eq_true]
  constructor
  · intro ha y hy
    cases hh : mhas (y : Int) D with
    | false => rfl
    | true =>
      obtain ⟨t, ht, rfl⟩ := reached_st h hD hh
      have e := ha t ((sts_st hch t).mpr ht)
      rw [← (code_cast ht).1, hh] at e
      rw [st_code ht]; exact e
  · intro ha t ht
    have hst := (sts_st hch t).mp ht
    have e := ha (code t) (List.mem_range.mpr (code_cast hst).2)
    rw [st_code hst, (code_cast hst).1] at e
    exact e
theorem fxi_1 {P : Int} {B : List Int} {C : List (List S86)} {D : List (Int × Int)} {s out : List Int} {i K : Nat} {L : List (List Int)} {R : List Int} (hi : i < s.length) (hL : L.length ≤ 27) (hd : ∀ t ∈ L, dig t ∧ t.length ≤ 3 ∧ i < t.length) (ho : out.length ≤ 100) (hK : 10 ≤ K) :
    ∀ (d j k : Nat) (fx : Bool), j + d = L.length → K + d < k → (∀ k, K ≤ k → impl_FixedOf.l0 k D P B C s (wrap64 ((i : Int) + 1)) (if (fx && fxq D (L.drop j) s (i : Int)) = true then out ++ [(i : Int)] else out) = some R) →
    impl_FixedOf.l1 k D P B C s (i : Int) out L (j : Int) fx = some R := by
  intro d
  induction d with
  | zero =>
    intro j k fx hj hk H
    obtain ⟨k, rfl, _⟩ := fuel hk
    obtain rfl : j = L.length := by omega
    have e := H k (by omega)
    rw [List.drop_length] at e
    rw [impl_FixedOf.l1, if_neg (by omega)]
    cases fx with
    | true => rw [if_pos rfl, if_pos (by omega)]; simpa [fxq] using e
    | false => rw [if_neg (by simp)]; simpa [fxq] using e
  | succ d ih =>
    intro j k fx hj hk H
    obtain ⟨k, rfl, _⟩ := fuel hk
    have hlt : j < L.length := by omega
    obtain ⟨d1, d2, d3⟩ := hd _ (List.getElem_mem hlt)
    have hq : fxq D (L.drop j) s (i : Int) = ((!mhas (num L[j]) D || rd L[j] (i : Int) == rd s (i : Int)) && fxq D (L.drop (j + 1)) s (i : Int)) := by
      rw [List.drop_eq_getElem_cons hlt]; rfl
    rw [impl_FixedOf.l1, if_pos (by omega), if_pos (by omega), rdI_lt hlt, bnd (stNum_f d1 d2 (by omega)), w64s j (by omega)]
    cases hh : mhas (num L[j]) D with
    | true =>
      rw [if_pos rfl, if_pos (by omega), if_pos (by omega), if_pos (by omega)]
      by_cases he : rd L[j] (i : Int) = rd s (i : Int)
      · rw [if_pos he]
        refine ih (j + 1) k fx (by omega) (by omega) (fun k hk => ?_)
        have e := H k hk
        rw [hq, hh, beq_iff_eq.mpr he] at e
        simpa using e
      · rw [if_neg he]
        refine ih (j + 1) k false (by omega) (by omega) (fun k hk => ?_)
        have e := H k hk
        rw [hq, hh, beq_eq_false_iff_ne.mpr he] at e
        simpa using e
    | false =>
      rw [if_neg (by simp)]
      refine ih (j + 1) k fx (by omega) (by omega) (fun k hk => ?_)
      have e := H k hk
      rw [hq, hh] at e
      simpa using e
theorem fxi_0 {P : Int} {B : List Int} {C : List (List S86)} {D : List (Int × Int)} {s : List Int} (hs : s.length ≤ 3) (hC3 : C.length ≤ 3) (hX : ∀ L ∈ C, L.length ≤ 3) (hL : (sts [[]] C).length ≤ 27) (hd : ∀ t ∈ sts [[]] C, dig t ∧ t.length ≤ 3 ∧ s.length ≤ t.length) :
    ∀ (d i k : Nat), i + d = s.length → 1000 + 40 * d < k → impl_FixedOf.l0 k D P B C s (i : Int) (crowdsOf (fxq D (sts [[]] C) s) i) = some (crowdsOf (fxq D (sts [[]] C) s) s.length) := by
  intro d
  induction d with
  | zero =>
    intro i k hi hk
    obtain ⟨k, rfl, _⟩ := fuel (show 999 < k by omega)
    obtain rfl : i = s.length := by omega
    rw [impl_FixedOf.l0, if_neg (by omega)]
  | succ d ih =>
    intro i k hi hk
    obtain ⟨k, rfl, _⟩ := fuel hk
    have hcl := crowdsOf_len (fxq D (sts [[]] C) s) i
    rw [impl_FixedOf.l0, if_pos (by omega), bnd (sto_f P B hC3 hX (by omega))]
    refine fxi_1 (K := 1000 + 40 * d + 1) (by omega) hL (fun t ht => ⟨(hd t ht).1, (hd t ht).2.1, by have := (hd t ht).2.2; omega⟩) (by omega) (by omega) (sts [[]] C).length 0 k true (Nat.zero_add _) (by omega) (fun k hk => ?_)
    have e := ih (i + 1) k (by omega) (by omega)
    rw [crowdsOf] at e
    rw [w64s i (by omega), Bool.true_and, List.drop_zero]
    exact e
theorem fxs_1 {P : Int} {B : List Int} {C : List (List S86)} {c s0 : Nat} {D : List (Int × Int)} {far s out : List Int} {i K : Nat} {R : List Int} (hC3 : C.length ≤ 3) (hi : i < C.length) (hs : s.length = C.length) (hD : RRes P B C c s0 D) (hf : FRes P B C c s0 far) (ho : out.length ≤ 100) (hK : 10 ≤ K) :
    ∀ (d j k : Nat) (fx : Bool), j + d = 27 → K + d < k → (∀ k, K ≤ k → spec_FixedOf.l0 k s (if (fx && (List.range' j d).all fun c => !mhas (c : Int) D || rd (stOf C.length c) (i : Int) == rd s (i : Int)) = true then out ++ [(i : Int)] else out) far (wrap64 ((i : Int) + 1)) P B C = some R) →
    spec_FixedOf.l1 k s out far (i : Int) fx (j : Int) P B C = some R := by
  have hl := hf.1
  intro d
  induction d with
  | zero =>
    intro j k fx hj hk H
    obtain ⟨k, rfl, _⟩ := fuel hk
    obtain rfl : j = 27 := by omega
    have e := H k (by omega)
    rw [spec_FixedOf.l1, if_neg (by omega)]
    cases fx with
    | true => rw [if_pos rfl, if_pos (by omega)]; simpa using e
    | false => rw [if_neg (by simp)]; simpa using e
  | succ d ih =>
    intro j k fx hj hk H
    obtain ⟨k, rfl, _⟩ := fuel hk
    have hlen := stOf_len C.length j
    rw [spec_FixedOf.l1, if_pos (by omega), w64s j (by omega)]
    cases fx with
    | false =>
      rw [if_neg (by simp)]
      refine ih (j + 1) k false (by omega) (by omega) (fun k hk => ?_)
      simpa using H k hk
    | true =>
      rw [if_pos rfl, if_pos (by omega)]
      rcases res_same hD hf (show j < 27 by omega) with ⟨h3, h4, h5⟩ | ⟨h3, h4⟩
      · rw [if_neg (by omega), bnd (l8St_f P B (C := C) (by omega) (c := j) (by omega) (k := k) (by omega)), if_pos (by omega), if_pos (by omega), if_pos (by omega)]
        refine ih (j + 1) k _ (by omega) (by omega) (fun k hk => ?_)
        have e := H k hk
        rw [List.range'_succ, List.all_cons, h3] at e
        exact e
      · rw [if_pos (by omega)]
        refine ih (j + 1) k true (by omega) (by omega) (fun k hk => ?_)
        have e := H k hk
        rw [List.range'_succ, List.all_cons, h3] at e
        exact e
theorem fxs_0 {P : Int} {B : List Int} {C : List (List S86)} {c s0 : Nat} {D : List (Int × Int)} {far s : List Int} (hC3 : C.length ≤ 3) (hs : s.length = C.length) (hD : RRes P B C c s0 D) (hf : FRes P B C c s0 far) :
    ∀ (d i k : Nat), i + d = C.length → 1000 + 40 * d < k → spec_FixedOf.l0 k s (crowdsOf (fxr D C.length s) i) far (i : Int) P B C = some (crowdsOf (fxr D C.length s) C.length) := by
  intro d
  induction d with
  | zero =>
    intro i k hi hk
    obtain ⟨k, rfl, _⟩ := fuel (show 999 < k by omega)
    obtain rfl : i = C.length := by omega
    rw [spec_FixedOf.l0, if_neg (by omega)]
  | succ d ih =>
    intro i k hi hk
    obtain ⟨k, rfl, _⟩ := fuel hk
    have hcl := crowdsOf_len (fxr D C.length s) i
    rw [spec_FixedOf.l0, if_pos (by omega)]
    refine fxs_1 (K := 1000 + 40 * d + 1) hC3 (by omega) hs hD hf (by omega) (by omega) 27 0 k true (Nat.zero_add _) (by omega) (fun k hk => ?_)
    have e := ih (i + 1) k (by omega) (by omega)
    rw [crowdsOf] at e
    rw [w64s i (by omega), Bool.true_and, ← List.range_eq_range']
    exact e
theorem sts_27 {P : Int} {B : List Int} {C : List (List S86)} (hch : chOk P B C = true) : (sts [[]] C).length ≤ 27 := by
  have h2 := nodup_lt 27 ((sts [[]] C).map code) (List.pairwise_map.mpr (List.Pairwise.imp_of_mem (fun {a b} ha hb hne e => hne (code_inj ((sts_st hch a).mp ha) ((sts_st hch b).mp hb) e)) (sts_nodup C [[]] (by simp)))) (fun x hx => by
    obtain ⟨s, hs, rfl⟩ := List.mem_map.mp hx
    exact (code_cast ((sts_st hch s).mp hs)).2)
  rwa [List.length_map] at h2
theorem fx_v {P : Int} {B : List Int} {C : List (List S86)} {s : List Int} (hB : B.length ≤ 1048576) (hw : ∀ b ∈ B, b < 9223372036854775808) (hC : C.length ≤ 1048576) (hm : hLen C) (h : stOk P B C s = true) {k : Nat} (hk : 20000100 < k) :
    ∃ (n : Nat) (D : List (Int × Int)), P = (n : Int) ∧ n ≤ 6 ∧ RRes P B C (2 ^ n - 1) (code s) D ∧ impl_reach.f k P B C s ((2 ^ n - 1 : Nat) : Int) = some D ∧ impl_FixedOf.f k P B C s = some (crowdsOf (fxr D C.length s) C.length) ∧ spec_FixedOf.f k P B C s = some (crowdsOf (fxr D C.length s) C.length) := by
  obtain ⟨n, rfl, hn⟩ := stOk_n h
  have hp := Nat.two_pow_pos n
  have hp6 : 2 ^ n ≤ 2 ^ 6 := Nat.pow_le_pow_right (by decide) hn
  obtain ⟨hch, hsl, _⟩ := stOk_at h
  have hC3 := (chOk_h hch).2.2
  have i1 := isSt_f (n : Int) B C s (by omega) (by omega) (fun L hL x hx => Nat.lt_of_le_of_lt ((hm L hL).2 x hx) (by decide)) (k := k) (by omega)
  have i2 := sSt_f (n : Int) B C s hB hw hC hm (by omega) (k := k) (by omega)
  obtain ⟨D, e1, hD⟩ := rch_f (c := 2 ^ n - 1) (by omega) h (k := k) (by omega)
  obtain ⟨o, e2, ho⟩ := far_f (c := 2 ^ n - 1) (by omega) h (k := k) (by omega)
  obtain ⟨ds, _, _, ls⟩ := stOk_dig h
  refine ⟨n, D, rfl, hn, hD, e1, ?_, ?_⟩
  · have e3 := fxi_0 (P := (n : Int)) (B := B) (D := D) (s := s) (by omega) hC3 (chOk_3 hch) (sts_27 hch) (fun t ht => by
      have hst := (sts_st hch t).mp ht
      obtain ⟨d1, _, _, d2⟩ := stOk_dig hst
      exact ⟨d1, d2, by have := (stOk_at hst).2.1; omega⟩) s.length 0 k (Nat.zero_add _) (by omega)
    have e3' : impl_FixedOf.l0 k D (n : Int) B C s 0 [] = _ := e3
    have ee : impl_everybody.f (n : Int) = some ((2 ^ n - 1 : Nat) : Int) := by unfold impl_everybody.f; rw [if_pos (by omega), every_f hn]
    unfold impl_FixedOf.f
    rw [bnd i1, if_pos h, bnd ee, bnd e1, e3', hsl]
    exact congrArg some (crowds_congr _ fun c _ => fx_eq h hD _)
  · have e3 := fxs_0 hC3 hsl hD ho C.length 0 k (Nat.zero_add _) (by omega)
    have e3' : spec_FixedOf.l0 k s [] o 0 (n : Int) B C = _ := e3
    unfold spec_FixedOf.f
    rw [bnd rfl, bnd i2, if_pos h, bnd (sCode_f ds ls (by omega)), if_pos (by omega), every_f hn, ← (code_cast h).1, bnd e2, e3']
theorem fx_no {P : Int} {B : List Int} {C : List (List S86)} {s : List Int} (hB : B.length ≤ 1048576) (hw : ∀ b ∈ B, b < 9223372036854775808) (hC : C.length ≤ 1048576) (hm : hLen C) (hs : s.length ≤ 1048576) (h : ¬ stOk P B C s = true) {k : Nat} (hk : 20000100 < k) :
    impl_FixedOf.f k P B C s = some [] ∧ spec_FixedOf.f k P B C s = some [] := by
  have i1 := isSt_f P B C s (by omega) (by omega) (fun L hL x hx => Nat.lt_of_le_of_lt ((hm L hL).2 x hx) (by decide)) (k := k) (by omega)
  have i2 := sSt_f P B C s hB hw hC hm hs (k := k) (by omega)
  unfold impl_FixedOf.f spec_FixedOf.f
  rw [bnd i1, if_neg h, bnd rfl, bnd i2, if_neg h]
  exact ⟨rfl, rfl⟩
theorem fx_same (P : Int) (B : List Int) (C : List (List S86)) (s : List Int) (hB : B.length ≤ 1048576) (hw : ∀ b ∈ B, b < 9223372036854775808) (hC : C.length ≤ 1048576) (hm : hLen C) (hs : s.length ≤ 1048576) {k : Nat} (hk : 20000100 < k) :
    ∃ r, impl_FixedOf.f k P B C s = some r ∧ spec_FixedOf.f k P B C s = some r ∧ r.length ≤ 64 := by
  by_cases h : stOk P B C s = true
  · obtain ⟨n, D, _, _, _, _, e1, e2⟩ := fx_v hB hw hC hm h hk
    have := (chOk_h (stOk_at h).1).2.2
    exact ⟨_, e1, e2, Nat.le_trans (crowdsOf_len _ _) (by omega)⟩
  · obtain ⟨e1, e2⟩ := fx_no hB hw hC hm hs h hk
    exact ⟨_, e1, e2, by simp⟩

theorem FnExactFixedOf (P : Int) (B : List Int) (C : List (List S128)) (s : List Int) (_ : (Lit.int .i64 P).wf = true) (hB : B.length ≤ 9223372036854775807) (hBw : ∀ x ∈ B, (Lit.int .i64 x).wf = true) (hC : C.length ≤ 9223372036854775807)
    (hm : ∀ L ∈ C, L.length ≤ 9223372036854775807 ∧ ∀ x ∈ L, (x.f0.length ≤ 9223372036854775807 ∧ ∀ m ∈ x.f0, (Lit.int .i64 m.f0).wf = true ∧ (Lit.int .i64 m.f1).wf = true ∧ (Lit.int .i64 m.f2).wf = true) ∧ (Lit.int .i64 x.f1).wf = true ∧ (Lit.int .i64 x.f2).wf = true)
    (hs : s.length ≤ 9223372036854775807) (_ : ∀ x ∈ s, (Lit.int .i64 x).wf = true) : ∃ k, laws_FnExactFixedOf.f k P B C s = some true := by
  obtain ⟨K, hK⟩ : ∃ K, K = 23000000 := ⟨_, rfl⟩
  refine ⟨K + 20, ?_⟩
  have hm' : mLen C := fun L hL => ⟨(hm L hL).1, fun x hx => ((hm L hL).2 x hx).1.1⟩
  unfold laws_FnExactFixedOf.f
  by_cases h0 : (s.length : Int) > 1048576
  · rw [if_pos h0]
  · obtain ⟨r, er, hr1, hr⟩ := szCharter_g P B C hB hC hm' (k := K + 19) (by omega)
    rw [if_neg h0, laws_FnExactFixedOf.j0, bnd er]
    by_cases h1 : r < 0
    · rw [if_pos h1]
    · obtain ⟨b1, b2, b3⟩ := hr (by omega)
      have b3' := sLen_cv b3
      have b2' : (C.map cvL).length ≤ 1048576 := by rw [List.length_map]; exact b2
      have e1 := fun (j : Nat) => toCharter_f P B C b1 b2 b3 (k := K + j) (by omega)
      have e2 := fun (j : Nat) => toIntS_f s (by omega) (k := K + j) (by omega)
      have e4 := eqCharter_f P B (C.map cvL) b1 b2' b3' (k := K + 17) (by omega)
      have e5 := eqIntS_f s (by omega) (k := K + 16) (by omega)
      obtain ⟨x, e7, e8, hx⟩ := fx_same P B (C.map cvL) s b1 (fun x hx => (i64_wf (hBw x hx)).2) b2' b3' (by omega) (k := K + 18) (by omega)
      obtain ⟨x', e7', e8', _⟩ := fx_same P B (C.map cvL) s b1 (fun x hx => (i64_wf (hBw x hx)).2) b2' b3' (by omega) (k := K + 11) (by omega)
      obtain rfl : x' = x := Option.some.inj ((leO_add (impl_FixedOf.mono _ _ _ _) (K + 11) 7 _ e7').symm.trans e7)
      have q : ∀ j : Nat, laws_eqIntS.f (K + j) x' x' = some true := fun (j : Nat) => eqIntS_f x' (by omega) (k := K + j) (by omega)
      obtain ⟨a, m1, m2, m3⟩ := markCharter_g P B (C.map cvL) b1 b2' b3'
      obtain ⟨y, m4⟩ := markIntS_g s.length 0 (K + 15) s a m2 (by omega) (by omega) (by omega) (by omega)
      have m4' : laws_markIntS.f (K + 15) s a = _ := m4
      obtain ⟨u, g1, g2, g3⟩ := mark_f x' (by omega) (k := K + 13) (by omega)
      have g4 := held_f (m := u) (by omega) g3 (k := K + 13) (by omega)
      have g5 := held_f (m := u) (by omega) g3 (k := K + 10) (by omega)
      rw [g2] at g4 g5
      rw [if_neg h1, laws_FnExactFixedOf.j1, bnd (e1 18), bnd (e2 18), bnd e8, bnd (e1 18), bnd (e2 18), bnd e7, bnd (q 18), if_pos rfl, laws_FnExactFixedOf.j2, bnd (e1 17), bnd e4, if_pos rfl, laws_FnExactFixedOf.j3, bnd (e2 16), bnd e5, if_pos rfl, laws_FnExactFixedOf.j4, bnd m1, bnd m4', if_neg (by show ¬ _ < (0 : Int); omega), bnd (q 15), laws_FnExactFixedOf.j5, if_neg (by simp), laws_FnExactFixedOf.j6, bnd g1, bnd g4, if_neg (by omega), laws_FnExactFixedOf.j7, if_pos rfl, laws_FnExactFixedOf.j8, bnd (e1 11), bnd (e2 11), bnd e7', bnd (q 11), if_pos rfl, laws_FnExactFixedOf.j9, bnd g5, if_neg (by omega), if_pos rfl]

end Go.Proofs.Ytcafckapdgaogaa.Pure
