/- For every house, term and person the program's SwingsOf answers as the reference's, and leaves what it is given as it was. Condition: none. -/
import Derived.Test.YtiiddglmoffonaaCFnExactSwingsOf12
import Derived.Test.YtiiddglmoffonaaM
namespace Go.Proofs.Ytiiddglmoffonaa.Pure
open Go.RowKit Go.Proofs.Ytiiddglmoffonaa.PFnExactSwingsOf Go.Proofs.YtiiddglmoffonaaW.PrintWords Go.Proofs.YtiiddglmoffonaaW.PrintLast Go.Proofs.YtiiddglmoffonaaW.PrintMore Go.Proofs.Ytiiddglmoffonaa.M
set_option linter.unusedVariables false
set_option linter.unusedSimpArgs false

/-! ### copies and equal rows -/
theorem toIntS_l (l : List Int) (hl : l.length < 4611686018427387904) : ∀ (d i k : Nat) (m : List Int), i + d = l.length → d < k → m.length = l.length → m.take i = l.take i →
    laws_toIntS.l0 k l m (i : Int) = some l := by
  intro d
  induction d with
  | zero =>
    intro i k m hi hk hm he
    obtain ⟨k, rfl, _⟩ := fuel hk
    simp only [laws_toIntS.l0]
    rw [if_neg (by omega)]
    rw [List.take_of_length_le (by omega), List.take_of_length_le (by omega)] at he
    rw [he]
  | succ d ih =>
    intro i k m hi hk hm he
    obtain ⟨k, rfl, hk'⟩ := fuel hk
    have hlt : i < l.length := by omega
    simp only [laws_toIntS.l0]
    rw [if_pos (by omega), if_pos (by omega), if_pos (by omega), w64s i (by omega), rd_lt hlt]
    refine ih (i + 1) k _ (by omega) (by omega) (by simpa using hm) ?_
    rw [show ((i : Int)).toNat = i from by omega, List.take_succ_eq_append_getElem (by simp; omega), List.take_succ_eq_append_getElem hlt, List.take_set_of_le (Nat.le_refl _), he]
    simp
theorem toIntS_f (l : List Int) (hl : l.length ≤ 1048576) {k : Nat} (hk : l.length < k) : laws_toIntS.f k l = some l := by
  unfold laws_toIntS.f
  rw [if_pos (by omega), if_pos (by omega)]
  exact toIntS_l l (by omega) l.length 0 k _ (by omega) hk (by simp) (by simp)
theorem eqIntS_l (l : List Int) (hl : l.length < 4611686018427387904) : ∀ (d i k : Nat), i + d = l.length → d < k → laws_eqIntS.l0 k l l (i : Int) = some true := by
  intro d
  induction d with
  | zero =>
    intro i k hi hk
    obtain ⟨k, rfl, _⟩ := fuel hk
    simp only [laws_eqIntS.l0]
    rw [if_neg (by omega)]
  | succ d ih =>
    intro i k hi hk
    obtain ⟨k, rfl, hk'⟩ := fuel hk
    simp only [laws_eqIntS.l0]
    rw [if_pos (by omega), if_pos (by omega), if_pos (by omega), if_pos trivial, w64s i (by omega)]
    exact ih (i + 1) k (by omega) (by omega)
theorem eqIntS_f (l : List Int) (hl : l.length < 4611686018427387904) {k : Nat} (hk : l.length < k) : laws_eqIntS.f k l l = some true := by
  unfold laws_eqIntS.f
  rw [if_pos rfl]
  exact eqIntS_l l hl l.length 0 k (by omega) hk

/-! ### crowds -/
/-- A crowd of so many people, 1 to 6. -/
def isC (n : Nat) (a : Int) : Bool := decide (1 ≤ n) && decide (n ≤ 6) && (decide (0 ≤ a) && decide (a < ((2 ^ n : Nat) : Int)))
theorem iCrowd_f {n : Nat} {a : Int} : impl_isCrowd.f (n : Int) a = some (isC n a) := by
  unfold impl_isCrowd.f impl_arePeople.f isC
  by_cases h1 : 1 ≤ n
  · rw [if_pos (by omega), decide_eq_true h1]
    by_cases h2 : n ≤ 6
    · simp only [decide_eq_true (by omega : (n : Int) ≤ 6), Option.bind_some, if_true, decide_eq_true h2, Bool.true_and]
      by_cases h3 : a ≥ 0
      · rw [if_pos h3, if_pos (by omega), shl_one (by omega), decide_eq_true (by omega : 0 ≤ a)]; simp
      · rw [if_neg h3, decide_eq_false (by omega : ¬ 0 ≤ a)]; simp
    · simp only [decide_eq_false (by omega : ¬ (n : Int) ≤ 6), Option.bind_some, decide_eq_false h2]; simp
  · rw [if_neg (by omega), decide_eq_false h1]; simp

theorem sCrowd_f {n : Nat} {a : Int} : spec_CrowdOk.f (n : Int) a = some (isC n a) := by
  unfold spec_CrowdOk.f spec_l1In.f isC
  by_cases h1 : 1 ≤ n
  · rw [if_pos (by omega), decide_eq_true h1]
    by_cases h2 : n ≤ 6
    · have h62 : 2 ^ n ≤ 64 := pow6 h2
      have hpos := Nat.two_pow_pos n
      simp only [decide_eq_true (by omega : (n : Int) ≤ 6), Option.bind_some, if_true, decide_eq_true h2, Bool.true_and]
      rw [if_pos (by omega), shl_one (by omega), w64 (by omega) (by omega)]
      by_cases h3 : a ≥ 0
      · rw [if_pos h3, decide_eq_true (by omega : 0 ≤ a)]
        simp only [Option.bind_some, Bool.true_and]
        congr 1
        exact decide_eq_decide.2 (by omega)
      · rw [if_neg h3, decide_eq_false (by omega : ¬ 0 ≤ a)]; simp
    · simp only [decide_eq_false (by omega : ¬ (n : Int) ≤ 6), Option.bind_some, decide_eq_false h2]; simp
  · rw [if_neg (by omega), decide_eq_false h1]; simp

/-! ### heads of a crowd -/
def hd (c : Nat) : Nat := ctN (fun i => c.testBit i) 6
set_option maxRecDepth 100000 in
theorem heads_all : ∀ c : Fin 64, impl_headsOf.f ((c.val : Nat) : Int) = some ((hd c.val : Nat) : Int) := by decide +kernel
theorem heads_f {c : Nat} (h : c < 64) : impl_headsOf.f (c : Int) = some (hd c : Int) := heads_all ⟨c, h⟩
theorem hd_crN (p : Nat → Bool) {n : Nat} (h : n ≤ 6) : hd (crN p n) = ctN p n := by
  unfold hd
  rw [ctN_congr (q := fun i => decide (i < n) && p i) (fun i _ => crN_bit p n i)]
  have key : ∀ m, n ≤ m → ctN (fun i => decide (i < n) && p i) m = ctN p n := by
    intro m
    induction m with
    | zero => intro hm; obtain rfl : n = 0 := by omega
              rfl
    | succ m ih =>
      intro hm
      by_cases e : n = m + 1
      · subst e
        apply ctN_congr
        intro i hi
        simp [hi]
      · simp only [ctN]
        have hf : (decide (m < n) && p m) = false := by rw [decide_eq_false (by omega : ¬ m < n)]; rfl
        rw [ih (by omega), if_neg (by rw [hf]; simp)]; rfl
  exact key 6 h

/-! ### houses -/
def isCI (P a : Int) : Bool := decide (1 ≤ P) && decide (P ≤ 6) && (decide (0 ≤ a) && decide (a < ((2 ^ P.toNat : Nat) : Int)))
theorem isCI_nat (n : Nat) (a : Int) : isCI (n : Int) a = isC n a := by
  unfold isCI isC
  rw [show ((n : Int)).toNat = n from by omega, show decide (1 ≤ (n : Int)) = decide (1 ≤ n) from decide_eq_decide.2 (by omega), show decide ((n : Int) ≤ 6) = decide (n ≤ 6) from decide_eq_decide.2 (by omega)]
theorem iCI_f (P a : Int) : impl_isCrowd.f P a = some (isCI P a) := by
  by_cases h : 0 ≤ P
  · obtain ⟨n, rfl⟩ := Int.eq_ofNat_of_zero_le h
    rw [iCrowd_f, isCI_nat]
  · unfold impl_isCrowd.f impl_arePeople.f isCI
    rw [if_neg (by omega), decide_eq_false (by omega : ¬ 1 ≤ P)]; simp
def hTail (P : Int) (B : List Int) : Bool := decide (1 ≤ P) && decide (P ≤ 6) && decide (B.length ≤ 4)
def hOk (P : Int) (B : List Int) : Bool := B.all (fun b => isCI P b && !(b == 0)) && hTail P B
theorem isHouse_l (P : Int) (B : List Int) (hl : B.length < 4611686018427387904) : ∀ (d i k : Nat), i + d = B.length → d < k →
    impl_isHouse.l0 k B (B.length : Int) (i : Int) P B = some ((B.drop i).all (fun b => isCI P b && !(b == 0)) && hTail P B) := by
  intro d
  induction d with
  | zero =>
    intro i k hi hk
    obtain ⟨k, rfl, _⟩ := fuel hk
    have e : B.drop i = [] := List.drop_eq_nil_of_le (by omega)
    have h4 : decide ((B.length : Int) ≤ 4) = decide (B.length ≤ 4) := decide_eq_decide.2 (by omega)
    rw [impl_isHouse.l0, if_neg (by omega), e]
    unfold impl_arePeople.f hTail
    by_cases h : P ≥ 1
    · rw [if_pos h, bnd rfl, decide_eq_true (by omega : 1 ≤ P)]
      by_cases h2 : P ≤ 6
      · rw [decide_eq_true h2, if_pos rfl, h4]; simp
      · rw [decide_eq_false h2, if_neg (by simp)]; simp
    · rw [if_neg h, bnd rfl, if_neg (by simp), decide_eq_false (by omega : ¬ 1 ≤ P)]; simp
  | succ d ih =>
    intro i k hi hk
    obtain ⟨k, rfl, hk'⟩ := fuel hk
    have hlt : i < B.length := by omega
    rw [impl_isHouse.l0, if_pos (by omega), if_pos (by omega), if_pos (by omega), rd_lt hlt, iCI_f, bnd rfl, w64s i (by omega), ih (i + 1) k (by omega) (by omega), List.drop_eq_getElem_cons hlt, List.all_cons]
    by_cases h1 : isCI P B[i] = true
    · rw [if_pos h1, h1]
      by_cases h2 : B[i] = 0
      · rw [if_pos h2, beq_iff_eq.2 h2]; simp
      · rw [if_neg h2, beq_eq_false_iff_ne.2 h2]; simp
    · rw [if_neg h1, show isCI P B[i] = false from by simpa using h1]; simp
theorem isHouse_f (P : Int) (B : List Int) (hl : B.length < 4611686018427387904) {k : Nat} (hk : B.length < k) : impl_isHouse.f k P B = some (hOk P B) := by
  unfold impl_isHouse.f
  have := isHouse_l P B hl B.length 0 k (by omega) hk
  simpa [hOk] using this
theorem hOk_P {P : Int} {B : List Int} (h : hOk P B = true) : ∃ n : Nat, P = (n : Int) ∧ 1 ≤ n ∧ n ≤ 6 := by
  simp only [hOk, hTail, Bool.and_eq_true, decide_eq_true_eq] at h
  exact ⟨P.toNat, by omega, by omega, by omega⟩
theorem hOk_len {P : Int} {B : List Int} (h : hOk P B = true) : B.length ≤ 4 := by
  simp only [hOk, hTail, Bool.and_eq_true, decide_eq_true_eq] at h; exact h.2.2
theorem hOk_mem {P : Int} {B : List Int} (h : hOk P B = true) {b : Int} (hb : b ∈ B) : 0 < b ∧ b < 64 := by
  obtain ⟨n, rfl, h1, h6⟩ := hOk_P h
  simp only [hOk, Bool.and_eq_true, List.all_eq_true] at h
  have := h.1 b hb
  rw [isCI_nat] at this
  simp only [isC, decide_eq_true_eq, Bool.not_eq_true', beq_eq_false_iff_ne, Bool.and_eq_true] at this
  have := pow6 h6
  omega

theorem sCI_f (P a : Int) : spec_CrowdOk.f P a = some (isCI P a) := by
  by_cases h : 0 ≤ P
  · obtain ⟨n, rfl⟩ := Int.eq_ofNat_of_zero_le h
    rw [sCrowd_f, isCI_nat]
  · unfold spec_CrowdOk.f spec_l1In.f isCI
    rw [if_neg (by omega), decide_eq_false (by omega : ¬ 1 ≤ P)]; simp
theorem sHouse_l (P : Int) (B : List Int) (hl : B.length < 4611686018427387904) : ∀ (d i k : Nat), i + d = B.length → d < k →
    spec_HouseOk.l0 k (i : Int) P B = some ((B.drop i).all (fun b => isCI P b && !(b == 0)) && hTail P B) := by
  intro d
  induction d with
  | zero =>
    intro i k hi hk
    obtain ⟨k, rfl, _⟩ := fuel hk
    have e : B.drop i = [] := List.drop_eq_nil_of_le (by omega)
    have h4 : decide ((B.length : Int) ≤ 4) = decide (B.length ≤ 4) := decide_eq_decide.2 (by omega)
    rw [spec_HouseOk.l0, if_neg (by omega), e]
    unfold spec_l1In.f hTail
    by_cases h : P ≥ 1
    · rw [if_pos h, bnd rfl, decide_eq_true (by omega : 1 ≤ P)]
      by_cases h2 : P ≤ 6
      · rw [decide_eq_true h2, if_pos rfl, h4]; simp
      · rw [decide_eq_false h2, if_neg (by simp)]; simp
    · rw [if_neg h, bnd rfl, if_neg (by simp), decide_eq_false (by omega : ¬ 1 ≤ P)]; simp
  | succ d ih =>
    intro i k hi hk
    obtain ⟨k, rfl, hk'⟩ := fuel hk
    have hlt : i < B.length := by omega
    rw [spec_HouseOk.l0, if_pos (by omega), if_pos (by omega), rd_lt hlt, sCI_f, bnd rfl, w64s i (by omega), ih (i + 1) k (by omega) (by omega), List.drop_eq_getElem_cons hlt, List.all_cons]
    by_cases h1 : isCI P B[i] = true
    · rw [if_pos h1, h1]
      by_cases h2 : B[i] = 0
      · rw [if_pos h2, beq_iff_eq.2 h2]; simp
      · rw [if_neg h2, beq_eq_false_iff_ne.2 h2]; simp
    · rw [if_neg h1, show isCI P B[i] = false from by simpa using h1]; simp
theorem sHouse_f (P : Int) (B : List Int) (hl : B.length < 4611686018427387904) {k : Nat} (hk : B.length < k) : spec_HouseOk.f k P B = some (hOk P B) := by
  unfold spec_HouseOk.f
  have := sHouse_l P B hl B.length 0 k (by omega) hk
  simpa [hOk] using this

/-! ### terms -/
theorem rdM {l : List S48} {i : Nat} (h : i < l.length) : rd_T48 l (i : Int) = l[i] := by
  unfold rd_T48; simp [List.getD_eq_getElem?_getD, List.getElem?_eq_getElem h]
/-- Heads of a body that is told by a number. -/
def hdI (b : Int) : Int := (hd b.toNat : Int)
def aOk (B : List Int) (m : S48) : Bool := decide (m.f0 = 0) && (decide (0 ≤ m.f1) && (decide (m.f1 < (B.length : Int)) && (decide (1 ≤ m.f2) && decide (m.f2 ≤ hdI (rd B m.f1)))))
def oOk (m : S48) : Bool := (decide (m.f0 = 1) || decide (m.f0 = 2)) && (decide (m.f1 = 0) && decide (m.f2 = 0))
theorem aOk_iff {B : List Int} {m : S48} : aOk B m = true ↔ m.f0 = 0 ∧ 0 ≤ m.f1 ∧ m.f1 < (B.length : Int) ∧ 1 ≤ m.f2 ∧ m.f2 ≤ hdI (rd B m.f1) := by
  simp only [aOk, Bool.and_eq_true, decide_eq_true_eq]
theorem oOk_iff {m : S48} : oOk m = true ↔ (m.f0 = 1 ∨ m.f0 = 2) ∧ m.f1 = 0 ∧ m.f2 = 0 := by
  simp only [oOk, Bool.and_eq_true, Bool.or_eq_true, decide_eq_true_eq]
theorem bfalse {b : Bool} (h : ¬ b = true) : b = false := by simpa using h
/-- Parts are counted mark by mark. -/
def scan (B : List Int) : Nat → List S48 → Option Nat
  | p, [] => some p
  | p, m :: ms => if aOk B m = true then scan B (p + 1) ms else if oOk m = true ∧ 2 ≤ p then scan B (p - 1) ms else none
def tmOk (P : Int) (B : List Int) (t : List S48) : Bool := hOk P B && (decide (t.length ≤ 9) && (scan B 0 t == some 1))
inductive TR where
  | at (m : S48)
  | op (m : S48) (l r : TR)
def flat : TR → List S48
  | .at m => [m]
  | .op m l r => flat l ++ (flat r ++ [m])
def okT (B : List Int) : TR → Prop
  | .at m => aOk B m = true
  | .op m l r => oOk m = true ∧ okT B l ∧ okT B r
theorem flat_pos : ∀ T : TR, 0 < (flat T).length
  | .at _ => by simp [flat]
  | .op _ _ _ => by simp [flat]; omega
theorem forest (B : List Int) : ∀ (ms : List S48) (st : List TR) (q : Nat), (∀ x ∈ st, okT B x) → scan B st.length ms = some q →
    ∃ st' : List TR, (∀ x ∈ st', okT B x) ∧ st'.length = q ∧ st.reverse.flatMap flat ++ ms = st'.reverse.flatMap flat := by
  intro ms
  induction ms with
  | nil =>
    intro st q hok hs
    simp only [scan, Option.some.injEq] at hs
    exact ⟨st, hok, hs, by simp⟩
  | cons m ms ih =>
    intro st q hok hs
    simp only [scan] at hs
    by_cases ha : aOk B m = true
    · rw [if_pos ha] at hs
      obtain ⟨st', h1, h2, h3⟩ := ih (.at m :: st) q (by
        intro x hx
        rcases List.mem_cons.1 hx with rfl | hx
        · exact ha
        · exact hok x hx) hs
      exact ⟨st', h1, h2, by rw [← h3]; simp [flat]⟩
    · rw [if_neg ha] at hs
      by_cases ho : oOk m = true ∧ 2 ≤ st.length
      · rw [if_pos ho] at hs
        match st, hok, ho, hs with
        | r :: l :: st0, hok, ho, hs =>
          obtain ⟨st', h1, h2, h3⟩ := ih (.op m l r :: st0) q (by
            intro x hx
            rcases List.mem_cons.1 hx with rfl | hx
            · exact ⟨ho.1, hok l (by simp), hok r (by simp)⟩
            · exact hok x (by simp [hx])) (by simpa using hs)
          exact ⟨st', h1, h2, by rw [← h3]; simp [flat]⟩
        | [x], _, ho, _ => simp at ho
        | [], _, ho, _ => simp at ho
      · rw [if_neg ho] at hs; cases hs
/-- A term is a tree, written out. -/
theorem tree_of {B : List Int} {t : List S48} (h : scan B 0 t = some 1) : ∃ T, okT B T ∧ t = flat T := by
  obtain ⟨st', h1, h2, h3⟩ := forest B t [] 1 (by simp) h
  match st', h1, h2, h3 with
  | [T], h1, _, h3 => exact ⟨T, h1 T (by simp), by simpa using h3⟩
theorem scan_flat {B : List Int} : ∀ (T : TR) (p : Nat) (ms : List S48), okT B T → scan B p (flat T ++ ms) = scan B (p + 1) ms
  | .at m, p, ms, h => by
    have h' : aOk B m = true := h
    simp only [flat, List.cons_append, List.nil_append, scan, if_pos h']
  | .op m l r, p, ms, h => by
    obtain ⟨h1, h2, h3⟩ := h
    have ha : ¬ aOk B m = true := by
      intro x; rw [aOk_iff] at x; rw [oOk_iff] at h1; omega
    simp only [flat, List.append_assoc, List.cons_append, List.nil_append]
    rw [scan_flat l _ _ h2, scan_flat r _ _ h3]
    simp only [scan]
    rw [if_neg ha, if_pos ⟨h1, by omega⟩]; rfl
theorem tm_tree {P : Int} {B : List Int} {t : List S48} (h : tmOk P B t = true) : hOk P B = true ∧ t.length ≤ 9 ∧ ∃ T, okT B T ∧ t = flat T := by
  simp only [tmOk, Bool.and_eq_true, decide_eq_true_eq, beq_iff_eq] at h
  exact ⟨h.1, h.2.1, tree_of h.2.2⟩
/-- What a tree says of a crowd. -/
def sat (B : List Int) (m : S48) (c : Nat) : Bool := decide (m.f2 ≤ (hd ((rd B m.f1).toNat &&& c) : Int))
def val (B : List Int) (c : Nat) : TR → Bool
  | .at m => sat B m c
  | .op m l r => if m.f0 = 2 then val B c l || val B c r else val B c l && val B c r
theorem headsI_f {P : Int} {B : List Int} (h : hOk P B = true) {i : Int} (h0 : 0 ≤ i) (h1 : i < (B.length : Int)) : impl_headsOf.f (rd B i) = some (hdI (rd B i)) := by
  have hm := hOk_mem h (rd_mem h0 h1)
  have e := heads_f (c := (rd B i).toNat) (by omega)
  rw [show (((rd B i).toNat : Nat) : Int) = rd B i from by omega] at e
  exact e
theorem isTerm_l {P : Int} {B : List Int} (h : hOk P B = true) (t : List S48) (hl : t.length ≤ 9) : ∀ (d i p k : Nat), i + d = t.length → p ≤ i → 2 * d < k →
    impl_isTerm.l0 k (p : Int) t (t.length : Int) (i : Int) P B = some (scan B p (t.drop i) == some 1) := by
  intro d
  induction d with
  | zero =>
    intro i p k hi hp hk
    obtain ⟨k, rfl, _⟩ := fuel hk
    rw [impl_isTerm.l0, if_neg (by omega), List.drop_eq_nil_of_le (by omega)]
    simp only [scan]
    by_cases e : p = 1
    · subst e; rfl
    · rw [beq_eq_false_iff_ne.2 (show (p : Int) ≠ 1 by omega), beq_eq_false_iff_ne.2 (show some p ≠ some 1 by simpa using e)]
  | succ d ih =>
    intro i p k hi hp hk
    obtain ⟨k, rfl, hk1⟩ := fuel hk
    obtain ⟨k, rfl, hk2⟩ := fuel (show 2 * d + 1 < k by omega)
    have hlt : i < t.length := by omega
    rw [impl_isTerm.l0, if_pos (by omega), if_pos (by omega), if_pos (by omega), rdM hlt, List.drop_eq_getElem_cons hlt]
    generalize hm : t[i] = m
    simp only [scan]
    by_cases e0 : m.f0 = 0
    · have ho : ¬ (oOk m = true ∧ 2 ≤ p) := by rintro ⟨x, _⟩; rw [oOk_iff] at x; omega
      rw [if_pos e0, if_neg ho]
      by_cases e1 : m.f1 < 0
      · rw [if_pos e1, if_neg (fun x => by rw [aOk_iff] at x; omega)]; rfl
      · rw [if_neg e1]
        by_cases e2 : m.f1 ≥ (B.length : Int)
        · rw [if_pos e2, if_neg (fun x => by rw [aOk_iff] at x; omega)]; rfl
        · rw [if_neg e2]
          by_cases e3 : m.f2 < 1
          · rw [if_pos e3, if_neg (fun x => by rw [aOk_iff] at x; omega)]; rfl
          · rw [if_neg e3, if_pos (by omega), if_pos (by omega), headsI_f h (by omega) (by omega), bnd rfl]
            by_cases e4 : m.f2 > hdI (rd B m.f1)
            · rw [if_pos e4, if_neg (fun x => by rw [aOk_iff] at x; omega)]; rfl
            · have ha : aOk B m = true := by rw [aOk_iff]; omega
              rw [if_neg e4, if_pos ha, w64s i (by omega), w64s p (by omega)]
              exact ih (i + 1) (p + 1) (k + 1) (by omega) (by omega) (by omega)
    · have ha : ¬ aOk B m = true := by intro x; rw [aOk_iff] at x; omega
      rw [if_neg e0, if_neg ha]
      have key : ∀ b : Bool, (b = true ↔ m.f0 = 1 ∨ m.f0 = 2) → impl_isTerm.j2 (k + 1) (p : Int) t (t.length : Int) (i : Int) b P B m.f0 m.f1 m.f2 = some ((if oOk m = true ∧ 2 ≤ p then scan B (p - 1) (t.drop (i + 1)) else none) == some 1) := by
        intro b hb
        rw [impl_isTerm.j2]
        by_cases h1 : b = true
        · rw [if_pos h1]
          by_cases h2 : m.f1 = 0
          · rw [if_pos h2]
            by_cases h3 : m.f2 = 0
            · rw [if_pos h3]
              have ho : oOk m = true := by rw [oOk_iff]; exact ⟨hb.1 h1, h2, h3⟩
              by_cases h4 : (p : Int) < 2
              · rw [if_pos h4, if_neg (by omega)]; rfl
              · rw [if_neg h4, if_pos ⟨ho, by omega⟩, w64s i (by omega), w64 (by omega) (by omega), show (p : Int) - 1 = ((p - 1 : Nat) : Int) from by omega]
                exact ih (i + 1) (p - 1) k (by omega) (by omega) (by omega)
            · rw [if_neg h3, if_neg (fun x => by rw [oOk_iff] at x; exact h3 x.1.2.2)]; rfl
          · rw [if_neg h2, if_neg (fun x => by rw [oOk_iff] at x; exact h2 x.1.2.1)]; rfl
        · rw [if_neg h1, if_neg (fun x => by rw [oOk_iff] at x; exact h1 (hb.2 x.1.1))]; rfl
      by_cases e1 : m.f0 = 1
      · rw [if_pos e1]; exact key _ (by rw [beq_iff_eq]; omega)
      · rw [if_neg e1]; exact key _ (by rw [beq_iff_eq]; omega)
theorem isTerm_f (P : Int) (B : List Int) (t : List S48) (hB : B.length < 4611686018427387904) (hl : t.length < 4611686018427387904) {k : Nat} (hk : B.length + 40 < k) : impl_isTerm.f k P B t = some (tmOk P B t) := by
  unfold impl_isTerm.f
  rw [isHouse_f P B hB (by omega), bnd rfl]
  obtain ⟨k, rfl, hk'⟩ := fuel hk
  unfold tmOk
  by_cases h : hOk P B = true
  · rw [if_pos h, h]
    by_cases h1 : (t.length : Int) < 1
    · have : t = [] := List.length_eq_zero_iff.1 (by omega)
      subst this
      rw [if_pos h1, impl_isTerm.j0, if_pos rfl]; rfl
    · rw [if_neg h1, impl_isTerm.j0]
      by_cases h2 : (t.length : Int) > 9
      · rw [if_pos (decide_eq_true h2), decide_eq_false (by omega)]; rfl
      · rw [if_neg (by simpa using h2), decide_eq_true (by omega)]
        have := isTerm_l h t (by omega) t.length 0 0 k (by omega) (by omega) (by omega)
        simpa using this
  · rw [if_neg h, bfalse h, impl_isTerm.j0, if_pos rfl]; rfl

/-! ### consent, mark by mark -/
theorem rdB (st : List Bool) (a : Bool) (r : List Bool) : rdOf false (st ++ a :: r) (st.length : Int) = a := by
  unfold rdOf; simp
theorem rdB1 (st : List Bool) (a b : Bool) : rdOf false (st ++ [a, b]) ((st.length : Int) + 1) = b := by
  unfold rdOf
  rw [show ((st.length : Int) + 1).toNat = st.length + 1 from by omega]
  simp [List.getD_eq_getElem?_getD, List.getElem?_append_right]
theorem sat_f {P : Int} {B : List Int} (h : hOk P B = true) {m : S48} (ha : aOk B m = true) {c : Nat} (hc : c < 64) :
    impl_headsOf.f (Go.bits .and .i64 (rd B m.f1) (c : Int)) = some ((hd ((rd B m.f1).toNat &&& c) : Nat) : Int) := by
  rw [aOk_iff] at ha
  have hm := hOk_mem h (rd_mem ha.2.1 ha.2.2.1)
  obtain ⟨b, eb⟩ := Int.eq_ofNat_of_zero_le (show 0 ≤ rd B m.f1 by omega)
  rw [eb, band (lt62 (n := 6) (by omega) (by omega)) (lt62 (n := 6) (by omega) (by omega)), show ((b : Int)).toNat = b from by omega]
  exact heads_f (Nat.lt_of_le_of_lt Nat.and_le_right hc)
theorem consents_op {P : Int} {B : List Int} {c : Nat} {t : List S48} {m : S48} {p : Nat} (hlt : p < t.length) (hm : t[p] = m) (ho : oOk m = true) (hl : t.length ≤ 9) (st : List Bool) (a b : Bool) (hst : st.length ≤ 1000) (k : Nat) :
    impl_consents.l0 (k + 1) (c : Int) (st ++ [a, b]) t (t.length : Int) (p : Int) P B = impl_consents.l0 k (c : Int) (st ++ [if m.f0 = 2 then a || b else a && b]) t (t.length : Int) ((p + 1 : Nat) : Int) P B := by
  have ho' := oOk_iff.1 ho
  have hlen : (st ++ [a, b]).length = st.length + 2 := by simp
  have w2 : wrap64 (((st ++ [a, b]).length : Int) - 2) = (st.length : Int) := by rw [hlen, w64 (by omega) (by omega)]; omega
  have w1 : wrap64 (((st ++ [a, b]).length : Int) - 1) = (st.length : Int) + 1 := by rw [hlen, w64 (by omega) (by omega)]; omega
  have ht : (st ++ [a, b]).take ((st.length : Int)).toNat = st := by rw [show ((st.length : Int)).toNat = st.length from by omega]; simp
  rw [impl_consents.l0, if_pos (by omega), if_pos (by omega), if_pos (by omega), rdM hlt, hm, if_neg (by omega), w2, w1, if_pos (by omega), if_pos (by omega), if_pos (by omega), if_pos (by omega), rdB, rdB1, w64s p (by omega), ht]
  have hle : (st.length : Int) ≤ ((st ++ [a, b]).length : Int) := by omega
  cases a with
  | true =>
    rw [if_pos rfl]
    by_cases h2 : m.f0 = 2
    · rw [if_pos h2, if_pos hle, bnd rfl, if_pos (by omega), if_pos h2]; rfl
    · rw [if_neg h2, if_pos hle, bnd rfl, if_pos (by omega), if_neg h2]; simp
  | false =>
    rw [if_neg (by simp)]
    by_cases h2 : m.f0 = 2
    · rw [if_pos h2, if_pos hle, bnd rfl, if_pos (by omega), if_pos h2]; simp
    · rw [if_neg h2, if_pos hle, bnd rfl, if_pos (by omega), if_neg h2]; simp
theorem consents_T {P : Int} {B : List Int} (h : hOk P B = true) {c : Nat} (hc : c < 64) : ∀ (T : TR), okT B T → ∀ (t : List S48) (xs ys : List S48) (st : List Bool) (k : Nat), t = xs ++ (flat T ++ ys) → t.length ≤ 9 → st.length + (flat T).length ≤ 1000 →
    impl_consents.l0 (k + (flat T).length) (c : Int) st t (t.length : Int) (xs.length : Int) P B = impl_consents.l0 k (c : Int) (st ++ [val B c T]) t (t.length : Int) ((xs.length + (flat T).length : Nat) : Int) P B := by
  intro T
  induction T with
  | «at» m =>
    intro hok t xs ys st k ht hl hst
    have ha : aOk B m = true := hok
    have ha' := aOk_iff.1 ha
    have hlt : xs.length < t.length := by rw [ht]; simp [flat]
    have hm : t[xs.length] = m := by subst ht; simp [flat]
    simp only [flat, List.length_singleton] at hst
    show impl_consents.l0 (k + 1) _ _ _ _ _ _ _ = _
    rw [impl_consents.l0, if_pos (by omega), if_pos (by omega), if_pos (by omega), rdM hlt, hm, if_pos ha'.1, if_pos ha'.2.1, if_pos ha'.2.2.1, sat_f h ha hc, bnd rfl, if_pos (by omega), w64s _ (by omega)]
    rfl
  | op m l r ihl ihr =>
    intro hok t xs ys st k ht hl hst
    obtain ⟨ho, hL, hR⟩ := hok
    have hlen : (flat (.op m l r)).length = (flat l).length + ((flat r).length + 1) := by simp [flat]
    have pl := flat_pos l
    have htl : t.length = xs.length + ((flat l).length + ((flat r).length + 1) + ys.length) := by rw [ht]; simp [flat]; omega
    have e1 := ihl hL t xs (flat r ++ [m] ++ ys) st (k + ((flat r).length + 1)) (by rw [ht]; simp [flat]) hl (by omega)
    have e2 := ihr hR t (xs ++ flat l) ([m] ++ ys) (st ++ [val B c l]) (k + 1) (by rw [ht]; simp [flat]) hl (by simp only [List.length_append, List.length_singleton]; omega)
    have hlt : (xs ++ flat l).length + (flat r).length < t.length := by simp only [List.length_append]; omega
    have hm : t[(xs ++ flat l).length + (flat r).length] = m := by
      exact List.getElem_of_append (l₁ := xs ++ flat l ++ flat r) (l₂ := ys) (by rw [ht]; simp [flat]) (by simp only [List.length_append])
    rw [hlen, show k + ((flat l).length + ((flat r).length + 1)) = (k + ((flat r).length + 1)) + (flat l).length from by omega, e1]
    rw [show ((xs.length + (flat l).length : Nat) : Int) = ((xs ++ flat l).length : Int) from by simp, show k + ((flat r).length + 1) = (k + 1) + (flat r).length from by omega, e2]
    rw [List.append_assoc]
    have := consents_op (P := P) (B := B) (c := c) hlt hm ho hl st (val B c l) (val B c r) (by omega) k
    rw [show (xs.length + ((flat l).length + ((flat r).length + 1)) : Nat) = (xs ++ flat l).length + (flat r).length + 1 from by simp only [List.length_append]; omega]
    exact this
theorem consents_f {P : Int} {B : List Int} (h : hOk P B = true) {T : TR} (hT : okT B T) (hl : (flat T).length ≤ 9) {c : Nat} (hc : c < 64) {k : Nat} (hk : 20 < k) : impl_consents.f k P B (flat T) (c : Int) = some (val B c T) := by
  obtain ⟨j, rfl⟩ : ∃ j, k = (j + 1) + (flat T).length := ⟨k - 1 - (flat T).length, by omega⟩
  unfold impl_consents.f
  have := consents_T h hc T hT (flat T) [] [] [] (j + 1) (by simp) hl (by simp; omega)
  have e : impl_consents.l0 (j + 1 + (flat T).length) (c : Int) [] (flat T) ((flat T).length : Int) 0 P B = _ := this
  rw [e, impl_consents.l0, if_neg (by simp), if_pos (by simp)]
  rfl

/-! ### heads and terms, as the reference has them -/
set_option maxRecDepth 100000 in
theorem l1Heads_all : ∀ c : Fin 64, spec_l1Heads.f 8 ((c.val : Nat) : Int) = some ((hd c.val : Nat) : Int) := by decide +kernel
theorem l1Heads_f {c : Nat} (h : c < 64) {k : Nat} (hk : 8 ≤ k) : spec_l1Heads.f k (c : Int) = some (hd c : Int) :=
  at_rounds (fun j => spec_l1Heads.mono _ j) hk (l1Heads_all ⟨c, h⟩)
theorem l1Heads_l : ∀ (d : Nat) (x n : Int) (k : Nat), x < ((2 ^ d : Nat) : Int) → x < 9223372036854775808 → 0 ≤ n → n + d < 1000 → d < k → ∃ r, spec_l1Heads.l0 k x n = some r ∧ 0 ≤ r ∧ r < 1000 := by
  intro d
  induction d with
  | zero =>
    intro x n k hx _ h0 hn hk
    obtain ⟨k, rfl, _⟩ := fuel hk
    have hx0 : x < 1 := hx
    rw [spec_l1Heads.l0, if_neg (by omega)]
    exact ⟨n, rfl, h0, by omega⟩
  | succ d ih =>
    intro x n k hx hb h0 hn hk
    obtain ⟨k, rfl, _⟩ := fuel hk
    rw [spec_l1Heads.l0]
    by_cases h : x > 0
    · have e1 : Int.tdiv x 2 = x / 2 := Int.tdiv_eq_ediv_of_nonneg (by omega)
      have e2 : Int.tmod x 2 = x % 2 := Int.tmod_eq_emod_of_nonneg (by omega)
      rw [if_pos h, e1, e2, w64 (x := x / 2) (by omega) (by omega), w64 (by omega) (by omega)]
      refine ih _ _ k ?_ (by omega) (by omega) (by omega) (by omega)
      rw [Nat.pow_succ] at hx
      omega
    · rw [if_neg h]; exact ⟨n, rfl, h0, by omega⟩
theorem l1Heads_any {x : Int} (hx : x < 9223372036854775808) {k : Nat} (hk : 64 < k) : ∃ r, spec_l1Heads.f k x = some r ∧ 0 ≤ r ∧ r < 1000 :=
  l1Heads_l 63 x 0 k (by have : ((2 ^ 63 : Nat) : Int) = 9223372036854775808 := by decide
                         rw [this]; exact hx) hx (by omega) (by omega) (by omega)
theorem l1HeadsI_f {P : Int} {B : List Int} (h : hOk P B = true) {i : Int} (h0 : 0 ≤ i) (h1 : i < (B.length : Int)) {k : Nat} (hk : 8 ≤ k) : spec_l1Heads.f k (rd B i) = some (hdI (rd B i)) := by
  have hm := hOk_mem h (rd_mem h0 h1)
  have e := l1Heads_f (c := (rd B i).toNat) (by omega) hk
  rw [show (((rd B i).toNat : Nat) : Int) = rd B i from by omega] at e
  exact e
theorem oOk_eq (m : S48) : ((m.f0 == 1 && (m.f1 == 0 && (m.f2 == 0))) = true ∨ (m.f0 == 2 && (m.f1 == 0 && (m.f2 == 0))) = true) ↔ oOk m = true := by
  rw [oOk_iff]
  simp only [Bool.and_eq_true, beq_iff_eq]
  omega
theorem sTerm_end {P : Int} {B : List Int} {t : List S48} {p i k : Nat} (hB : B.length < 1152921504606846976) (hi : i = t.length) (hl : t.length < 1152921504606846976) (hk : B.length + 1 < k) :
    spec_TermOk.l0 k t (p : Int) (i : Int) P B = some (hOk P B && (decide (p = 1) && decide (t.length ≤ 9))) := by
  obtain ⟨k, rfl, hk'⟩ := fuel hk
  rw [spec_TermOk.l0, if_neg (by omega), sHouse_f P B (by omega) (by omega), bnd rfl]
  by_cases h : hOk P B = true
  · rw [if_pos h, h]
    by_cases e : p = 1
    · rw [if_pos (by omega), decide_eq_true e, show decide ((t.length : Int) ≤ 9) = decide (t.length ≤ 9) from decide_eq_decide.2 (by omega)]; simp
    · rw [if_neg (by omega), decide_eq_false e]; simp
  · rw [if_neg h, bfalse h]; rfl
theorem sTerm_l {P : Int} {B : List Int} (h : hOk P B = true) (t : List S48) (hl : t.length < 1152921504606846976) : ∀ (d i p k : Nat), i + d = t.length → p ≤ i → 2 * d + 60 < k →
    spec_TermOk.l0 k t (p : Int) (i : Int) P B = some ((scan B p (t.drop i) == some 1) && decide (t.length ≤ 9)) := by
  have hB := hOk_len h
  intro d
  induction d with
  | zero =>
    intro i p k hi hp hk
    rw [sTerm_end (by omega) (by omega) hl (by omega), h, List.drop_eq_nil_of_le (by omega)]
    simp only [scan]
    by_cases e : p = 1
    · subst e; rfl
    · rw [decide_eq_false e, beq_eq_false_iff_ne.2 (show some p ≠ some 1 by simpa using e)]; rfl
  | succ d ih =>
    intro i p k hi hp hk
    obtain ⟨k, rfl, hk1⟩ := fuel hk
    obtain ⟨k, rfl, hk2⟩ := fuel (show 2 * d + 61 < k by omega)
    have hlt : i < t.length := by omega
    rw [spec_TermOk.l0, if_pos (by omega), if_pos (by omega), rdM hlt, List.drop_eq_getElem_cons hlt]
    have hr : rd_T48 t (i : Int) = t[i] := rdM hlt
    generalize t[i] = m at *
    simp only [scan]
    have no : aOk B m = false → spec_TermOk.j1 (k + 1) t (p : Int) (i : Int) false P B = some (((if aOk B m = true then scan B (p + 1) (t.drop (i + 1)) else if oOk m = true ∧ 2 ≤ p then scan B (p - 1) (t.drop (i + 1)) else none) == some 1) && decide (t.length ≤ 9)) := by
      intro ha
      rw [spec_TermOk.j1, if_neg (by simp), if_pos (by omega), if_pos (by omega), hr, if_neg (show ¬ aOk B m = true by rw [ha]; simp)]
      have hoe := oOk_eq m
      have go : oOk m = true → (if (p : Int) ≥ 2 then spec_TermOk.l0 k t (wrap64 ((p : Int) - 1)) (wrap64 ((i : Int) + 1)) P B else some false) = some (((if oOk m = true ∧ 2 ≤ p then scan B (p - 1) (t.drop (i + 1)) else none) == some 1) && decide (t.length ≤ 9)) := by
        intro ho
        by_cases hp2 : (p : Int) ≥ 2
        · rw [if_pos hp2, if_pos ⟨ho, by omega⟩, w64s i (by omega), w64 (by omega) (by omega), show (p : Int) - 1 = ((p - 1 : Nat) : Int) from by omega]
          exact ih (i + 1) (p - 1) k (by omega) (by omega) (by omega)
        · rw [if_neg hp2, if_neg (fun x => hp2 (by omega))]; rfl
      by_cases h1 : (m.f0 == 1 && (m.f1 == 0 && (m.f2 == 0))) = true
      · rw [if_pos h1]; exact go (hoe.1 (.inl h1))
      · rw [if_neg h1]
        by_cases h2 : (m.f0 == 2 && (m.f1 == 0 && (m.f2 == 0))) = true
        · rw [if_pos h2]; exact go (hoe.1 (.inr h2))
        · rw [if_neg h2, if_neg (show ¬ (oOk m = true ∧ 2 ≤ p) from fun x => (hoe.2 x.1).elim h1 h2)]; rfl
    by_cases e0 : m.f0 = 0
    · rw [if_pos e0]
      unfold spec_l1In.f
      rw [w64 (x := (B.length : Int) - 1) (by omega) (by omega)]
      by_cases e1 : m.f1 ≥ 0
      · rw [if_pos e1, bnd rfl]
        by_cases e2 : m.f1 ≤ (B.length : Int) - 1
        · rw [decide_eq_true e2, if_pos rfl, if_pos e1, if_pos (by omega), l1HeadsI_f h e1 (by omega) (by omega), bnd rfl]
          by_cases e3 : m.f2 ≥ 1
          · rw [if_pos e3, bnd rfl]
            by_cases e4 : m.f2 ≤ hdI (rd B m.f1)
            · have ha : aOk B m = true := by rw [aOk_iff]; omega
              rw [decide_eq_true e4, spec_TermOk.j1, if_pos rfl, if_pos ha, w64s i (by omega), w64s p (by omega)]
              exact ih (i + 1) (p + 1) k (by omega) (by omega) (by omega)
            · rw [decide_eq_false e4]; exact no (bfalse (fun x => by rw [aOk_iff] at x; omega))
          · rw [if_neg e3, bnd rfl]; exact no (bfalse (fun x => by rw [aOk_iff] at x; omega))
        · rw [decide_eq_false e2, if_neg (by simp)]; exact no (bfalse (fun x => by rw [aOk_iff] at x; omega))
      · rw [if_neg e1, bnd rfl, if_neg (by simp)]; exact no (bfalse (fun x => by rw [aOk_iff] at x; omega))
    · rw [if_neg e0]; exact no (bfalse (fun x => by rw [aOk_iff] at x; omega))
/-- Of no house there is no term. -/
theorem sTerm_no {P : Int} {B : List Int} (h : hOk P B = false) (hB : B.length < 1152921504606846976) (hw : ∀ b ∈ B, b < 9223372036854775808) (t : List S48) (hl : t.length < 1152921504606846976) : ∀ (d i p k : Nat), i + d = t.length → p ≤ i → 2 * d + B.length + 70 < k →
    spec_TermOk.l0 k t (p : Int) (i : Int) P B = some false := by
  intro d
  induction d with
  | zero =>
    intro i p k hi hp hk
    rw [sTerm_end hB (by omega) hl (by omega), h]; rfl
  | succ d ih =>
    intro i p k hi hp hk
    obtain ⟨k, rfl, hk1⟩ := fuel hk
    obtain ⟨k, rfl, hk2⟩ := fuel (show 2 * d + B.length + 71 < k by omega)
    have hlt : i < t.length := by omega
    have hr : rd_T48 t (i : Int) = t[i] := rdM hlt
    rw [spec_TermOk.l0, if_pos (by omega), if_pos (by omega), hr]
    generalize t[i] = m at *
    have no : ∀ b : Bool, spec_TermOk.j1 (k + 1) t (p : Int) (i : Int) b P B = some false := by
      intro b
      rw [spec_TermOk.j1]
      by_cases hb : b = true
      · rw [if_pos hb, w64s i (by omega), w64s p (by omega)]
        exact ih (i + 1) (p + 1) k (by omega) (by omega) (by omega)
      · rw [if_neg hb, if_pos (by omega), if_pos (by omega), hr]
        have go : (if (p : Int) ≥ 2 then spec_TermOk.l0 k t (wrap64 ((p : Int) - 1)) (wrap64 ((i : Int) + 1)) P B else some false) = some false := by
          by_cases hp2 : (p : Int) ≥ 2
          · rw [if_pos hp2, w64s i (by omega), w64 (by omega) (by omega), show (p : Int) - 1 = ((p - 1 : Nat) : Int) from by omega]
            exact ih (i + 1) (p - 1) k (by omega) (by omega) (by omega)
          · rw [if_neg hp2]
        split
        · exact go
        · split
          · exact go
          · rfl
    by_cases e0 : m.f0 = 0
    · rw [if_pos e0]
      unfold spec_l1In.f
      rw [w64 (x := (B.length : Int) - 1) (by omega) (by omega)]
      by_cases e1 : m.f1 ≥ 0
      · rw [if_pos e1, bnd rfl]
        by_cases e2 : m.f1 ≤ (B.length : Int) - 1
        · obtain ⟨r, er, _, _⟩ := l1Heads_any (hw _ (rd_mem e1 (show m.f1 < (B.length : Int) by omega))) (k := k + 1) (by omega)
          rw [decide_eq_true e2, if_pos rfl, if_pos e1, if_pos (by omega), er, bnd rfl]
          split
          · rw [bnd rfl]; exact no _
          · rw [bnd rfl]; exact no _
        · rw [decide_eq_false e2, if_neg (by simp)]; exact no _
      · rw [if_neg e1, bnd rfl, if_neg (by simp)]; exact no _
    · rw [if_neg e0]; exact no _
theorem sTerm_f (P : Int) (B : List Int) (t : List S48) (hB : B.length < 1152921504606846976) (hw : ∀ b ∈ B, b < 9223372036854775808) (hl : t.length < 1152921504606846976) {k : Nat} (hk : 2 * t.length + B.length + 70 < k) : spec_TermOk.f k P B t = some (tmOk P B t) := by
  unfold spec_TermOk.f tmOk
  by_cases h : hOk P B = true
  · have := sTerm_l h t hl t.length 0 0 k (by omega) (by omega) (by omega)
    have e : spec_TermOk.l0 k t 0 0 P B = _ := this
    rw [e, h, List.drop_zero, Bool.and_comm (decide _)]; rfl
  · have := sTerm_no (bfalse h) hB hw t hl t.length 0 0 k (by omega) (by omega) (by omega)
    have e : spec_TermOk.l0 k t 0 0 P B = _ := this
    rw [e, bfalse h]; rfl

/-! ### what the reference says of a term -/
theorem starts_T {B : List Int} : ∀ (T : TR), okT B T → ∀ (t xs ys : List S48) (n k : Nat), t = xs ++ (flat T ++ ys) → t.length ≤ 1000 → n + (flat T).length ≤ 2000 →
    spec_l3Starts.l0 (k + (flat T).length) t ((n : Int) + 1) ((xs.length : Int) + (flat T).length - 1) = spec_l3Starts.l0 k t (n : Int) ((xs.length : Int) - 1) := by
  intro T
  induction T with
  | «at» m =>
    intro hok t xs ys n k ht hl hn
    have ha' := aOk_iff.1 (show aOk B m = true from hok)
    have hlt : xs.length < t.length := by rw [ht]; simp [flat]
    have hm : t[xs.length] = m := by subst ht; simp [flat]
    show spec_l3Starts.l0 (k + 1) t ((n : Int) + 1) ((xs.length : Int) + ((1 : Nat) : Int) - 1) = _
    rw [show (xs.length : Int) + ((1 : Nat) : Int) - 1 = (xs.length : Int) from by omega, spec_l3Starts.l0, if_pos (by omega), if_pos (by omega), if_pos (by omega), rdM hlt, hm, if_pos ha'.1, w64 (by omega) (by omega), w64 (by omega) (by omega)]
    congr 1
    omega
  | op m l r ihl ihr =>
    intro hok t xs ys n k ht hl hn
    obtain ⟨ho, hL, hR⟩ := hok
    have ho' := oOk_iff.1 ho
    have hlen : (flat (.op m l r)).length = (flat l).length + ((flat r).length + 1) := by simp [flat]
    have htl : t.length = xs.length + ((flat l).length + ((flat r).length + 1) + ys.length) := by rw [ht]; simp [flat]; omega
    have hlt : (xs ++ flat l).length + (flat r).length < t.length := by simp only [List.length_append]; omega
    have hm : t[(xs ++ flat l).length + (flat r).length] = m := by
      exact List.getElem_of_append (l₁ := xs ++ flat l ++ flat r) (l₂ := ys) (by rw [ht]; simp [flat]) (by simp only [List.length_append])
    have pl := flat_pos l
    have e2 := ihr hR t (xs ++ flat l) ([m] ++ ys) (n + 1) (k + (flat l).length) (by rw [ht]; simp [flat]) hl (by omega)
    have e1 := ihl hL t xs (flat r ++ [m] ++ ys) n k (by rw [ht]; simp [flat]) hl (by omega)
    rw [hlen, show k + ((flat l).length + ((flat r).length + 1)) = (k + (flat l).length + (flat r).length) + 1 from by omega,
      show (xs.length : Int) + (((flat l).length + ((flat r).length + 1) : Nat) : Int) - 1 = (((xs ++ flat l).length + (flat r).length : Nat) : Int) from by simp only [List.length_append]; omega]
    rw [spec_l3Starts.l0, if_pos (by omega), if_pos (by omega), if_pos (by omega), rdM hlt, hm, if_neg (by omega), w64 (by omega) (by omega), w64 (by omega) (by omega)]
    rw [show (n : Int) + 1 + 1 = ((n + 1 : Nat) : Int) + 1 from by omega, show (((xs ++ flat l).length + (flat r).length : Nat) : Int) - 1 = ((xs ++ flat l).length : Int) + ((flat r).length : Int) - 1 from by omega, e2]
    rw [show ((n + 1 : Nat) : Int) = (n : Int) + 1 from by omega, show ((xs ++ flat l).length : Int) - 1 = (xs.length : Int) + ((flat l).length : Int) - 1 from by simp only [List.length_append]; omega, e1]
theorem starts_f {B : List Int} {r : TR} (hR : okT B r) (xs ys : List S48) (hl : (xs ++ (flat r ++ ys)).length ≤ 1000) {k : Nat} (hk : (flat r).length < k) :
    spec_l3Starts.f k (xs ++ (flat r ++ ys)) ((xs.length : Int) + (flat r).length - 1) = some (xs.length : Int) := by
  obtain ⟨j, rfl⟩ : ∃ j, k = (j + 1) + (flat r).length := ⟨k - 1 - (flat r).length, by omega⟩
  unfold spec_l3Starts.f
  have hl2 : (flat r).length ≤ 1000 := by simp only [List.length_append] at hl; omega
  have hl3 : xs.length ≤ 1000 := by simp only [List.length_append] at hl; omega
  have := starts_T r hR _ xs ys 0 (j + 1) rfl hl (by omega)
  have e : spec_l3Starts.l0 (j + 1 + (flat r).length) (xs ++ (flat r ++ ys)) 1 ((xs.length : Int) + (flat r).length - 1) = _ := this
  rw [e, spec_l3Starts.l0, if_neg (by omega), w64 (by omega) (by omega)]
  congr 1
  omega
theorem ssat_f {P : Int} {B : List Int} (h : hOk P B = true) {m : S48} (ha : aOk B m = true) {c : Nat} (hc : c < 64) {k : Nat} (hk : 8 ≤ k) :
    spec_l1Heads.f k (Go.bits .and .i64 (c : Int) (rd B m.f1)) = some ((hd ((rd B m.f1).toNat &&& c) : Nat) : Int) := by
  rw [aOk_iff] at ha
  have hm := hOk_mem h (rd_mem ha.2.1 ha.2.2.1)
  obtain ⟨b, eb⟩ := Int.eq_ofNat_of_zero_le (show 0 ≤ rd B m.f1 by omega)
  rw [eb, band (lt62 (n := 6) (by omega) (by omega)) (lt62 (n := 6) (by omega) (by omega)), show ((b : Int)).toNat = b from by omega, Nat.and_comm]
  exact l1Heads_f (Nat.lt_of_le_of_lt Nat.and_le_right hc) hk
theorem says_T {P : Int} {B : List Int} (h : hOk P B = true) {c : Nat} (hc : c < 64) : ∀ (T : TR), okT B T → (flat T).length ≤ 1000 → ∀ k, (flat T).length + 20 ≤ k → spec_l4Says.f k P B (flat T) (c : Int) = some (val B c T) := by
  intro T
  induction T with
  | «at» m =>
    intro hok _ k hk
    obtain ⟨k, rfl, hk'⟩ := fuel (show 20 < k by simp only [flat, List.length_singleton] at hk; omega)
    have ha : aOk B m = true := hok
    have ha' := aOk_iff.1 ha
    have hrd : rd_T48 (flat (.at m)) ((0 : Nat) : Int) = m := rdM (l := [m]) (by simp)
    have hw : wrap64 (((flat (.at m)).length : Int) - 1) = ((0 : Nat) : Int) := by rw [show (flat (.at m)).length = 1 from rfl, w64 (by omega) (by omega)]; rfl
    rw [spec_l4Says.f, hw, hrd, if_pos (by omega), if_pos (by simp [flat]), if_pos ha'.1, if_pos ha'.2.1, if_pos ha'.2.2.1, ssat_f h ha hc (by omega), bnd rfl]
    rfl
  | op m l r ihl ihr =>
    intro hok hl k hk
    obtain ⟨ho, hL, hR⟩ := hok
    have ho' := oOk_iff.1 ho
    have hlen : (flat (.op m l r)).length = (flat l).length + ((flat r).length + 1) := by simp [flat]
    have pl := flat_pos l
    have pr := flat_pos r
    rw [hlen] at hl hk
    obtain ⟨k, rfl, hk'⟩ := fuel (show (flat l).length + (flat r).length + 20 < k by omega)
    have hrd : rd_T48 (flat (.op m l r)) (((flat l).length + (flat r).length : Nat) : Int) = m := by
      rw [rdM (by omega)]
      exact List.getElem_of_append (l₁ := flat l ++ flat r) (l₂ := []) (by simp [flat]) (by simp only [List.length_append])
    have hw : wrap64 (((flat (.op m l r)).length : Int) - 1) = (((flat l).length + (flat r).length : Nat) : Int) := by rw [hlen, w64 (by omega) (by omega)]; omega
    have hw2 : wrap64 ((((flat l).length + (flat r).length : Nat) : Int) - 1) = ((flat l).length : Int) + (flat r).length - 1 := by rw [w64 (by omega) (by omega)]; omega
    have hst : spec_l3Starts.f k (flat (.op m l r)) (((flat l).length : Int) + (flat r).length - 1) = some ((flat l).length : Int) :=
      starts_f hR (flat l) [m] (by simp only [List.length_append, List.length_singleton]; omega) (by omega)
    have t1 : (flat (.op m l r)).take (((flat l).length : Int)).toNat = flat l := by
      rw [show (((flat l).length : Int)).toNat = (flat l).length from by omega]; simp [flat]
    have t2 : ((flat (.op m l r)).take ((((flat l).length + (flat r).length : Nat) : Int)).toNat).drop (((flat l).length : Int)).toNat = flat r := by
      rw [show (((flat l).length : Int)).toNat = (flat l).length from by omega, show ((((flat l).length + (flat r).length : Nat) : Int)).toNat = (flat l ++ flat r).length from by simp only [List.length_append]; omega]
      have : flat (.op m l r) = (flat l ++ flat r) ++ [m] := by simp [flat]
      rw [this, List.take_left, List.drop_left]
    have il := ihl hL (by omega) k (by omega)
    have ir := ihr hR (by omega) k (by omega)
    rw [spec_l4Says.f, hw, hrd, if_pos (by omega), if_pos (by omega), if_neg (by omega), hw2, hst, bnd rfl, t1, t2, il, ir]
    simp only [val]
    have c1 : ((flat l).length : Int) ≤ ((flat (.op m l r)).length : Int) := by omega
    have c2 : ((flat l).length : Int) ≤ (((flat l).length + (flat r).length : Nat) : Int) := by omega
    have c3 : ((((flat l).length + (flat r).length : Nat)) : Int) ≤ ((flat (.op m l r)).length : Int) := by omega
    by_cases h2 : m.f0 = 2
    · rw [if_pos h2, if_pos (by omega), if_pos c1, bnd rfl, if_pos h2]
      cases val B c l with
      | true => rw [if_pos rfl]; rfl
      | false => rw [if_neg (by simp), if_pos c2, if_pos c3, bnd rfl]; simp
    · rw [if_neg h2, if_pos (by omega), if_pos c1, bnd rfl, if_neg h2]
      cases val B c l with
      | true => rw [if_pos rfl, if_pos c2, if_pos c3, bnd rfl]; simp
      | false => rw [if_neg (by simp)]; rfl

/-! ### marks of a law's own type, turned to the program's -/
theorem rdLM {l : List S95} {i : Nat} (h : i < l.length) : rd_T95 l (i : Int) = l[i] := by
  unfold rd_T95; simp [List.getD_eq_getElem?_getD, List.getElem?_eq_getElem h]
def cvM (x : S95) : S48 := ⟨x.f0, x.f1, x.f2⟩
theorem toMarkS_l (l : List S95) (hl : l.length < 4611686018427387904) : ∀ (d i k : Nat) (m : List S48), i + d = l.length → d < k → m.length = l.length → m.take i = (l.map cvM).take i →
    laws_toMarkS.l0 k l m (i : Int) = some (l.map cvM) := by
  intro d
  induction d with
  | zero =>
    intro i k m hi hk hm he
    obtain ⟨k, rfl, _⟩ := fuel hk
    rw [laws_toMarkS.l0, if_neg (by omega)]
    rw [List.take_of_length_le (by omega), List.take_of_length_le (by simp; omega)] at he
    rw [he]
  | succ d ih =>
    intro i k m hi hk hm he
    obtain ⟨k, rfl, hk'⟩ := fuel hk
    have hlt : i < l.length := by omega
    rw [laws_toMarkS.l0, if_pos (by omega), if_pos (by omega), rdLM hlt]
    unfold laws_toMark.f
    rw [bnd rfl, if_pos (by omega), w64s i (by omega)]
    refine ih (i + 1) k _ (by omega) (by omega) (by simpa using hm) ?_
    rw [show ((i : Int)).toNat = i from by omega, List.take_succ_eq_append_getElem (by simp; omega), List.take_succ_eq_append_getElem (by simp; omega), List.take_set_of_le (Nat.le_refl _), he]
    simp [cvM]
theorem toMarkS_f (l : List S95) (hl : l.length ≤ 1048576) {k : Nat} (hk : l.length < k) : laws_toMarkS.f k l = some (l.map cvM) := by
  unfold laws_toMarkS.f
  rw [if_pos (by omega), if_pos (by omega)]
  exact toMarkS_l l (by omega) l.length 0 k _ (by omega) hk (by simp) (by simp)
theorem eqMark_f (a b c : Int) : laws_eqMark.f a b c a b c = some true := by
  unfold laws_eqMark.f; rw [if_pos rfl, if_pos rfl, if_pos rfl]
theorem eqMarkS_l (l : List S48) (hl : l.length < 4611686018427387904) : ∀ (d i k : Nat), i + d = l.length → d < k → laws_eqMarkS.l0 k l l (i : Int) = some true := by
  intro d
  induction d with
  | zero =>
    intro i k hi hk
    obtain ⟨k, rfl, _⟩ := fuel hk
    rw [laws_eqMarkS.l0, if_neg (by omega)]
  | succ d ih =>
    intro i k hi hk
    obtain ⟨k, rfl, hk'⟩ := fuel hk
    rw [laws_eqMarkS.l0, if_pos (by omega), if_pos (by omega), if_pos (by omega), eqMark_f, bnd rfl, if_pos rfl, w64s i (by omega)]
    exact ih (i + 1) k (by omega) (by omega)
theorem eqMarkS_f (l : List S48) (hl : l.length < 4611686018427387904) {k : Nat} (hk : l.length < k) : laws_eqMarkS.f k l l = some true := by
  unfold laws_eqMarkS.f
  rw [if_pos rfl]
  exact eqMarkS_l l hl l.length 0 k (by omega) hk
theorem szMarkS_f (l : List S95) {n : Int} (h0 : 0 ≤ n) (hn : n ≤ 1048576) (hl : l.length ≤ 9223372036854775807) : laws_szMarkS.f l n = some (if n < (l.length : Int) then -1 else n - (l.length : Int)) := by
  unfold laws_szMarkS.f
  rw [w64 (by omega) (by omega)]
  by_cases h : n < (l.length : Int)
  · rw [if_pos (by omega), if_pos h]
  · rw [if_neg (by omega), if_neg h]

theorem toHouse_f (P : Int) (B : List Int) (hl : B.length ≤ 1048576) {k : Nat} (hk : B.length < k) : laws_toHouse.f k P B = some (P, B) := by
  unfold laws_toHouse.f
  rw [toIntS_f B hl hk, bnd rfl]
theorem eqHouse_f (P : Int) (B : List Int) (hl : B.length < 4611686018427387904) {k : Nat} (hk : B.length < k) : laws_eqHouse.f k P B P B = some true := by
  unfold laws_eqHouse.f
  rw [if_pos rfl, eqIntS_f B hl hk, bnd rfl, if_pos rfl]
theorem szHouse_f (P : Int) (B : List Int) {n : Int} (h0 : 0 ≤ n) (hn : n ≤ 1048576) (hl : B.length ≤ 9223372036854775807) : laws_szHouse.f P B n = some (if n < (B.length : Int) then -1 else n - (B.length : Int)) := by
  unfold laws_szHouse.f laws_szIntS.f
  rw [w64 (by omega) (by omega)]
  by_cases h : n < (B.length : Int)
  · rw [if_pos (by omega), bnd rfl, if_pos (by omega), if_pos h]
  · rw [if_neg (by omega), bnd rfl, if_neg (by omega), if_neg h]

/-! ### swings -/
def swB (B : List Int) (T : TR) (w c : Nat) : Bool := !c.testBit w && (!val B c T && val B (c ||| 2 ^ w) T)
theorem or_lt64 {c a n : Nat} (hn : n ≤ 6) (hc : c < 2 ^ n) (ha : a < n) : c ||| 2 ^ a < 64 :=
  Nat.lt_of_lt_of_le (Nat.or_lt_two_pow hc (Nat.pow_lt_pow_right (by decide) ha)) (pow6 hn)
theorem or_i64 {c a n : Nat} (hn : n ≤ 6) (hc : c < 2 ^ n) (ha : a < n) : Go.bits .or .i64 (c : Int) (shl .i64 1 (a : Int)) = ((c ||| 2 ^ a : Nat) : Int) := by
  rw [shl_one (by omega), bor (lt62 hc hn) (lt62 (Nat.pow_lt_pow_right (by decide) ha) hn)]
def swL (B : List Int) (T : TR) (w c d : Nat) : List Nat := (List.range' c d).filter (swB B T w)
theorem swL_succ (B : List Int) (T : TR) (w c d : Nat) : swL B T w c (d + 1) = (if swB B T w c = true then [c] else []) ++ swL B T w (c + 1) d := by
  unfold swL
  rw [List.range'_succ, List.filter_cons]
  split <;> rfl
theorem iSw_l {n : Nat} {B : List Int} (h : hOk (n : Int) B = true) (h6 : n ≤ 6) {T : TR} (hT : okT B T) (hl : (flat T).length ≤ 9) {w : Nat} (hw : w < n) : ∀ (d c k : Nat) (q : List Int), c + d = 2 ^ n → q.length ≤ c → d + 22 < k →
    impl_swingsOf.l0 k (flat T) (w : Int) q ((2 ^ n : Nat) : Int) (c : Int) (n : Int) B = some (q ++ (swL B T w c d).map (fun x : Nat => (x : Int))) := by
  have hp := pow6 h6
  intro d
  induction d with
  | zero =>
    intro c k q hc hq hk
    obtain ⟨k, rfl, _⟩ := fuel hk
    rw [impl_swingsOf.l0, if_neg (by omega)]; simp [swL]
  | succ d ih =>
    intro c k q hc hq hk
    obtain ⟨k, rfl, hk1⟩ := fuel hk
    have hcl : c < 2 ^ n := by omega
    have ih' := ih (c + 1) k q (by omega) (by omega) (by omega)
    rw [swL_succ, impl_swingsOf.l0, if_pos (by omega), if_pos (by omega), shr_and (by omega) (lt62 hcl h6), w64s c (by omega)]
    by_cases hb : c.testBit w = true
    · have : swB B T w c = false := by unfold swB; simp [hb]
      rw [if_pos hb, if_neg (by omega), ih', this]; simp
    · rw [if_neg hb, if_pos rfl, consents_f h hT hl (by omega) (by omega), bnd rfl, or_i64 h6 hcl hw, consents_f h hT hl (or_lt64 h6 hcl hw) (by omega)]
      have e : swB B T w c = (!val B c T && val B (c ||| 2 ^ w) T) := by unfold swB; simp [hb]
      rw [e]
      cases val B c T with
      | true => rw [if_pos rfl, ih']; simp
      | false =>
        rw [if_neg (by simp), bnd rfl]
        cases val B (c ||| 2 ^ w) T with
        | false => rw [if_neg (by simp), ih']; simp
        | true =>
          rw [if_pos rfl, if_pos (by omega), ih (c + 1) k (q ++ [(c : Int)]) (by omega) (by simp; omega) (by omega)]
          simp
theorem sSw_l {n : Nat} {B : List Int} (h : hOk (n : Int) B = true) (h6 : n ≤ 6) {T : TR} (hT : okT B T) (hl : (flat T).length ≤ 9) {w : Nat} (hw : w < n) : ∀ (d c m k : Nat), c + d = 2 ^ n → m ≤ c → d + 40 < k →
    spec_SwingsOf.l0 k (flat T) (w : Int) (m : Int) (c : Int) (n : Int) B = some ((m + (swL B T w c d).length : Nat) : Int) := by
  have hp := pow6 h6
  intro d
  induction d with
  | zero =>
    intro c m k hc hm hk
    obtain ⟨k, rfl, _⟩ := fuel hk
    rw [spec_SwingsOf.l0, if_pos (by omega), shl_one (by omega), if_neg (by omega)]; simp [swL]
  | succ d ih =>
    intro c m k hc hm hk
    obtain ⟨k, rfl, hk1⟩ := fuel hk
    have hcl : c < 2 ^ n := by omega
    have hs : spec_l12Swings.f k (n : Int) B (flat T) (c : Int) (w : Int) = some (swB B T w c) := by
      unfold spec_l12Swings.f
      rw [if_pos (by omega), shr_bit (by omega)]
      by_cases hb : c.testBit w = true
      · rw [if_pos hb, if_neg (by omega)]; unfold swB; simp [hb]
      · rw [if_neg hb, if_pos rfl, says_T h (by omega) T hT (by omega) k (by omega), bnd rfl, or_i64 h6 hcl hw, says_T h (or_lt64 h6 hcl hw) T hT (by omega) k (by omega)]
        have e : swB B T w c = (!val B c T && val B (c ||| 2 ^ w) T) := by unfold swB; simp [hb]
        rw [e]
        cases val B c T with
        | true => rw [if_pos rfl]; simp
        | false => rw [if_neg (by simp), bnd rfl]; simp
    rw [swL_succ, spec_SwingsOf.l0, if_pos (by omega), shl_one (by omega), if_pos (by omega), hs, bnd rfl, w64s c (by omega)]
    by_cases e : swB B T w c = true
    · rw [if_pos e, if_pos e, w64s m (by omega), ih (c + 1) (m + 1) k (by omega) (by omega) (by omega)]
      simp; omega
    · rw [if_neg e, if_neg e, ih (c + 1) m k (by omega) (by omega) (by omega)]
      simp
/-- What SwingsOf answers. -/
def SW (P : Int) (B : List Int) (T : TR) (w : Nat) : Nat := (swL B T w 0 (2 ^ P.toNat)).length

theorem iSwings_T {n : Nat} {B : List Int} (h : hOk (n : Int) B = true) (h6 : n ≤ 6) {T : TR} (hT : okT B T) (hl : (flat T).length ≤ 9) {w : Nat} (hw : w < n) {k : Nat} (hk : 100 < k) : impl_swingsOf.f k (n : Int) B (flat T) (w : Int) = some ((swL B T w 0 (2 ^ n)).map (fun x : Nat => (x : Int))) := by
  have hp := pow6 h6
  unfold impl_swingsOf.f
  rw [if_pos (by omega), shl_one (by omega)]
  have := iSw_l h h6 hT hl hw (2 ^ n) 0 k [] (by omega) (by simp) (by omega)
  simpa using this
theorem swings_same (P : Int) (B : List Int) (t : List S48) (w : Int) (hB : B.length < 1152921504606846976) (hw : ∀ x ∈ B, x < 9223372036854775808) (hl : t.length < 1152921504606846976) (hP : -9223372036854775808 ≤ P ∧ P < 9223372036854775808) {k : Nat} (hk : 2 * t.length + B.length + 300 < k) :
    ∃ r, impl_SwingsOf.f k P B t w = some r ∧ spec_SwingsOf.f k P B t w = some r := by
  obtain ⟨k, rfl, hk'⟩ := fuel hk
  unfold impl_SwingsOf.f spec_SwingsOf.f
  rw [isTerm_f P B t (by omega) (by omega) (by omega), bnd rfl, sTerm_f P B t hB hw hl (by omega), bnd rfl]
  by_cases h : tmOk P B t = true
  · obtain ⟨hh, ht9, T, hT, rfl⟩ := tm_tree h
    obtain ⟨n, rfl, h1, h6⟩ := hOk_P hh
    rw [if_pos h, if_pos h]
    unfold spec_l1In.f
    rw [w64 (by omega) (by omega)]
    by_cases a0 : w < 0
    · rw [if_pos a0, if_neg (show ¬ w ≥ 0 by omega), bnd rfl, spec_SwingsOf.j0, if_pos (show (!false) = true from rfl)]; exact ⟨_, rfl, rfl⟩
    · rw [if_neg a0, if_pos (show w ≥ 0 by omega), bnd rfl]
      by_cases a1 : w ≥ (n : Int)
      · rw [if_pos a1, decide_eq_false (by omega), spec_SwingsOf.j0, if_pos (show (!false) = true from rfl)]; exact ⟨_, rfl, rfl⟩
      · obtain ⟨v, rfl⟩ := Int.eq_ofNat_of_zero_le (show 0 ≤ w by omega)
        have hp := pow6 h6
        have e1 := iSwings_T hh h6 hT ht9 (w := v) (by omega) (k := k + 1) (by omega)
        have e2 := sSw_l hh h6 hT ht9 (w := v) (by omega) (2 ^ n) 0 0 k (by omega) (by omega) (by omega)
        rw [if_neg a1, decide_eq_true (by omega : (v : Int) ≤ (n : Int) - 1), bnd e1, spec_SwingsOf.j0, if_neg (show ¬ ((!true) = true) by simp)]
        refine ⟨_, rfl, ?_⟩
        have e3 : spec_SwingsOf.l0 k (flat T) (v : Int) 0 0 (n : Int) B = _ := e2
        rw [e3]; simp
  · rw [if_neg h, if_neg h, spec_SwingsOf.j0, if_pos rfl]; exact ⟨_, rfl, rfl⟩

theorem FnExactSwingsOf (P : Int) (B : List Int) (t : List S95) (a : Int) (hP : (Lit.int .i64 P).wf = true) (hB : B.length ≤ 9223372036854775807) (hBw : ∀ x ∈ B, (Lit.int .i64 x).wf = true) (ht : t.length ≤ 9223372036854775807) (_ : ∀ x ∈ t, (Lit.int .i64 x.f0).wf = true ∧ (Lit.int .i64 x.f1).wf = true ∧ (Lit.int .i64 x.f2).wf = true) (_ : (Lit.int .i64 a).wf = true) : ∃ k, laws_FnExactSwingsOf.f k P B t a = some true := by
  have hP' := i64_wf hP
  refine ⟨2 * t.length + B.length + 301, ?_⟩
  generalize hK : 2 * t.length + B.length + 301 = K
  unfold laws_FnExactSwingsOf.f
  rw [szHouse_f P B (by omega) (by omega) hB, bnd rfl]
  by_cases h1 : (1048576 : Int) < (B.length : Int)
  · rw [if_pos h1, if_pos (by omega)]
  · rw [if_neg h1, if_neg (by omega), szMarkS_f t (by omega) (by omega) ht, bnd rfl]
    by_cases h2 : (1048576 : Int) - (B.length : Int) < (t.length : Int)
    · rw [if_pos h2, if_pos (by omega)]
    · have hm : (t.map cvM).length = t.length := List.length_map _
      have e1 := toHouse_f P B (by omega) (k := K) (by omega)
      have e2 := toMarkS_f t (by omega) (k := K) (by omega)
      have e3 := eqHouse_f P B (by omega) (k := K) (by omega)
      have e4 := eqMarkS_f (t.map cvM) (by omega) (k := K) (by omega)
      obtain ⟨r, e5, e6⟩ := swings_same P B (t.map cvM) a (by omega) (fun x hx => (i64_wf (hBw x hx)).2) (by omega) hP' (k := K) (by omega)
      rw [if_neg h2, if_neg (by omega), bnd e1, bnd e2, bnd e6, bnd e1, bnd e2, bnd e5, if_pos rfl, bnd e1, bnd e3, if_pos rfl, bnd e2, bnd e4, if_pos rfl]

end Go.Proofs.Ytiiddglmoffonaa.Pure
