/- Clauses that ask for nothing go alone. Condition: the code is of bytes. -/
import Derived.Test.YtkogboechfieeaaCAll22
import Derived.Test.YtkogboechfieeaaCAll26
import Derived.Test.YtkogboechfieeaaCAll29
import Derived.Test.YtkogboechfieeaaCAll44
import Derived.Test.YtkogboechfieeaaCAll50
import Derived.Test.YtkogboechfieeaaM
namespace Go.Proofs.Ytkogboechfieeaa.Pure
open Go.RowKit Go.Proofs.Ytkogboechfieeaa.PAll Go.Proofs.YtkogboechfieeaaW.PrintWords Go.Proofs.YtkogboechfieeaaW.PrintMore Go.Proofs.Ytkogboechfieeaa.M
set_option linter.unusedVariables false
set_option linter.unusedSimpArgs false

theorem alive_f : laws_alive.f = some true := by decide

def okB (b : List Int) : Prop := b.length ≤ 2000 ∧ ∀ x ∈ b, 0 ≤ x ∧ x < 256
theorem okB_rd {b : List Int} (h : okB b) {i : Int} (h0 : 0 ≤ i) (h1 : i < b.length) : 0 ≤ rd b i ∧ rd b i < 256 := h.2 _ (rd_mem h0 h1)
theorem tmod_in {a : Int} {n : Int} (ha : 0 ≤ a) (hn : 0 < n) : 0 ≤ Int.tmod a n ∧ Int.tmod a n < n :=
 ⟨Int.tmod_nonneg n ha, Int.tmod_lt_of_pos a hn⟩
theorem pick_f {b : List Int} (hb : okB b) {p : Int} (hp0 : 0 ≤ p) (hp : p < 1099511627776) (n : Int) {k : Nat} (hk : 0 < k) :
  ∃ v, spec_l20Rd_pick.f k b p n = some (v, p + 1) ∧ 0 ≤ v ∧ (v < n ∨ v = 0) := by
 obtain ⟨k, rfl, _⟩ := fuel hk
 unfold spec_l20Rd_pick.f
 simp only [spec_l20Rd_pick.j0]
 rw [w64 (x := p + 1) (by omega) (by omega), show p + 1 - 1 = p from by omega, w64 (x := p) (by omega) (by omega)]
 by_cases h1 : n < 1
 ·rw [if_pos h1]; exact ⟨0, by simp, by omega, .inr rfl⟩
 ·rw [if_neg h1]
  by_cases h2 : (b.length : Int) = 0
  ·rw [h2]; exact ⟨0, by simp, by omega, .inr rfl⟩
  ·have h2' : ((b.length : Int) == 0) = false := by simpa using h2
   rw [h2', if_neg (by simp)]
   have hb1 := hb.1
   by_cases h3 : p < (b.length : Int)
   ·have hr := okB_rd hb hp0 h3
    rw [if_pos h3, if_pos hp0, if_neg (by omega), w64 (x := rd b p) (by omega) (by omega)]
    have := tmod_in hr.1 (show 0 < n by omega)
    exact ⟨_, rfl, this.1, .inl this.2⟩
   ·have m1 := tmod_in hp0 (show (0 : Int) < (b.length : Int) by omega)
    have m2 := tmod_in (show (0 : Int) ≤ p * 7 + 3 by omega) (show (0 : Int) < (b.length : Int) by omega)
    have r1 := okB_rd hb m1.1 m1.2
    have r2 := okB_rd hb m2.1 m2.2
    have d1 : 0 ≤ Int.tdiv p (b.length : Int) := Int.tdiv_nonneg hp0 (by omega)
    have d2 : Int.tdiv p (b.length : Int) ≤ p := Int.tdiv_le_self _ hp0
    rw [if_neg h3, if_neg h2]
    rw [w64 (x := p * 7) (by omega) (by omega), w64 (x := p * 7 + 3) (by omega) (by omega)]
    rw [if_pos m1.1, if_pos m1.2, if_pos m2.1, if_pos m2.2, if_neg (by omega)]
    generalize rd b (Int.tmod p (b.length : Int)) = x1 at *
    generalize rd b (Int.tmod (p * 7 + 3) (b.length : Int)) = x2 at *
    generalize Int.tdiv p (b.length : Int) = q at *
    rw [w64 (x := x1) (by omega) (by omega), w64 (x := x2) (by omega) (by omega), w64 (x := x1 * 131) (by omega) (by omega), w64 (x := x2 * 1117) (by omega) (by omega), w64 (x := p * 29) (by omega) (by omega), w64 (x := q) (by omega) (by omega), w64 (x := q * 53) (by omega) (by omega), w64 (x := x1 * 131 + x2 * 1117) (by omega) (by omega), w64 (x := x1 * 131 + x2 * 1117 + p * 29) (by omega) (by omega), w64 (x := x1 * 131 + x2 * 1117 + p * 29 + q * 53) (by omega) (by omega)]
    obtain ⟨X, eX⟩ := Int.eq_ofNat_of_zero_le (show 0 ≤ x1 * 131 + x2 * 1117 + p * 29 + q * 53 by omega)
    have hX : X < 4611686018427387904 := by omega
    rw [eX]
    have e64 : Int.tdiv (X : Int) 64 = ((X / 64 : Nat) : Int) := by rw [show (64 : Int) = ((64 : Nat) : Int) from rfl, ← Int.ofNat_tdiv]
    rw [e64, w64 (by omega) (by omega), bxor (by rw [p62]; omega) (by rw [p62]; omega)]
    have := tmod_in (Int.natCast_nonneg (X ^^^ (X / 64))) (show 0 < n by omega)
    exact ⟨_, rfl, this.1, .inl this.2⟩
theorem open_f {l : List Int} (hb : ∀ x ∈ l, (Lit.int .u8 x).wf = true) : ∃ b, spec_l20Open.f l = some (b, 0) ∧ okB b := by
 have hw : ∀ x ∈ l, 0 ≤ x ∧ x < 256 := by
  exact fun x hx => u8_wf (hb x hx)
 unfold spec_l20Open.f
 by_cases h : (l.length : Int) > 2000
 ·rw [if_pos h, if_pos (by omega)]
  exact ⟨_, rfl, by simp; omega, fun x hx => hw x (List.mem_of_mem_take hx)⟩
 ·rw [if_neg h]; exact ⟨_, rfl, by omega, hw⟩

def isC (n : Nat) (a : Int) : Bool := decide (1 ≤ n) && decide (n ≤ 6) && (decide (0 ≤ a) && decide (a < ((2 ^ n : Nat) : Int)))
theorem iCrowd_f {n : Nat} {a : Int} : impl_isCrowd.f (n : Int) a = some (isC n a) := by
 unfold impl_isCrowd.f impl_arePeople.f isC
 by_cases h1 : 1 ≤ n
 ·rw [if_pos (by omega), decide_eq_true h1]
  by_cases h2 : n ≤ 6
  ·simp only [decide_eq_true (by omega : (n : Int) ≤ 6), Option.bind_some, if_true, decide_eq_true h2, Bool.true_and]
   by_cases h3 : a ≥ 0
   ·rw [if_pos h3, if_pos (by omega), shl_one (by omega), decide_eq_true (by omega : 0 ≤ a)]; simp
   ·rw [if_neg h3, decide_eq_false (by omega : ¬ 0 ≤ a)]; simp
  ·simp only [decide_eq_false (by omega : ¬ (n : Int) ≤ 6), Option.bind_some, decide_eq_false h2]; simp
 ·rw [if_neg (by omega), decide_eq_false h1]; simp

theorem sCrowd_f {n : Nat} {a : Int} : spec_CrowdOk.f (n : Int) a = some (isC n a) := by
 unfold spec_CrowdOk.f spec_l1In.f isC
 by_cases h1 : 1 ≤ n
 ·rw [if_pos (by omega), decide_eq_true h1]
  by_cases h2 : n ≤ 6
  ·have h62 : 2 ^ n ≤ 64 := pow6 h2
   have hpos := Nat.two_pow_pos n
   simp only [decide_eq_true (by omega : (n : Int) ≤ 6), Option.bind_some, if_true, decide_eq_true h2, Bool.true_and]
   rw [if_pos (by omega), shl_one (by omega), w64 (by omega) (by omega)]
   by_cases h3 : a ≥ 0
   ·rw [if_pos h3, decide_eq_true (by omega : 0 ≤ a)]
    simp only [Option.bind_some, Bool.true_and]
    congr 1
    exact decide_eq_decide.2 (by omega)
   ·rw [if_neg h3, decide_eq_false (by omega : ¬ 0 ≤ a)]; simp
  ·simp only [decide_eq_false (by omega : ¬ (n : Int) ≤ 6), Option.bind_some, decide_eq_false h2]; simp
 ·rw [if_neg (by omega), decide_eq_false h1]; simp

def hd (c : Nat) : Nat := ctN (fun i => c.testBit i) 6
set_option maxRecDepth 100000 in
theorem heads_all : ∀ c : Fin 64, impl_headsOf.f ((c.val : Nat) : Int) = some ((hd c.val : Nat) : Int) := by decide +kernel
theorem heads_f {c : Nat} (h : c < 64) : impl_headsOf.f (c : Int) = some (hd c : Int) := heads_all ⟨c, h⟩
def isCI (P a : Int) : Bool := decide (1 ≤ P) && decide (P ≤ 6) && (decide (0 ≤ a) && decide (a < ((2 ^ P.toNat : Nat) : Int)))
theorem isCI_nat (n : Nat) (a : Int) : isCI (n : Int) a = isC n a := by
 unfold isCI isC
 rw [show ((n : Int)).toNat = n from by omega, show decide (1 ≤ (n : Int)) = decide (1 ≤ n) from decide_eq_decide.2 (by omega), show decide ((n : Int) ≤ 6) = decide (n ≤ 6) from decide_eq_decide.2 (by omega)]
theorem iCI_f (P a : Int) : impl_isCrowd.f P a = some (isCI P a) := by
 by_cases h : 0 ≤ P
 ·obtain ⟨n, rfl⟩ := Int.eq_ofNat_of_zero_le h
  rw [iCrowd_f, isCI_nat]
 ·unfold impl_isCrowd.f impl_arePeople.f isCI
  rw [if_neg (by omega), decide_eq_false (by omega : ¬ 1 ≤ P)]; simp
def hTail (P : Int) (B : List Int) : Bool := decide (1 ≤ P) && decide (P ≤ 6) && decide (B.length ≤ 4)
def hOk (P : Int) (B : List Int) : Bool := B.all (fun b => isCI P b && !(b == 0)) && hTail P B
theorem isHouse_l (P : Int) (B : List Int) (hl : B.length < 4611686018427387904) : ∀ (d i k : Nat), i + d = B.length → d < k →
  impl_isHouse.l0 k B (B.length : Int) (i : Int) P B = some ((B.drop i).all (fun b => isCI P b && !(b == 0)) && hTail P B) := by
 intro d
 induction d with
 | zero =>
  intro i k hi hk
  obtain ⟨k, rfl, _⟩ := fuel hk
  have e : B.drop i = [] := List.drop_eq_nil_of_le (by omega)
  have h4 : decide ((B.length : Int) ≤ 4) = decide (B.length ≤ 4) := decide_eq_decide.2 (by omega)
  rw [impl_isHouse.l0, if_neg (by omega), e]
  unfold impl_arePeople.f hTail
  by_cases h : P ≥ 1
  ·rw [if_pos h, bnd rfl, decide_eq_true (by omega : 1 ≤ P)]
   by_cases h2 : P ≤ 6
   ·rw [decide_eq_true h2, if_pos rfl, h4]; simp
   ·rw [decide_eq_false h2, if_neg (by simp)]; simp
  ·rw [if_neg h, bnd rfl, if_neg (by simp), decide_eq_false (by omega : ¬ 1 ≤ P)]; simp
 | succ d ih =>
  intro i k hi hk
  obtain ⟨k, rfl, hk'⟩ := fuel hk
  have hlt : i < B.length := by omega
  rw [impl_isHouse.l0, if_pos (by omega), if_pos (by omega), if_pos (by omega), rd_lt hlt, iCI_f, bnd rfl, w64s i (by omega), ih (i + 1) k (by omega) (by omega), List.drop_eq_getElem_cons hlt, List.all_cons]
  by_cases h1 : isCI P B[i] = true
  ·rw [if_pos h1, h1]
   by_cases h2 : B[i] = 0
   ·rw [if_pos h2, beq_iff_eq.2 h2]; simp
   ·rw [if_neg h2, beq_eq_false_iff_ne.2 h2]; simp
  ·rw [if_neg h1, show isCI P B[i] = false from by simpa using h1]; simp
theorem isHouse_f (P : Int) (B : List Int) (hl : B.length < 4611686018427387904) {k : Nat} (hk : B.length < k) : impl_isHouse.f k P B = some (hOk P B) := by
 unfold impl_isHouse.f
 have := isHouse_l P B hl B.length 0 k (by omega) hk
 simpa [hOk] using this
theorem hOk_P {P : Int} {B : List Int} (h : hOk P B = true) : ∃ n : Nat, P = (n : Int) ∧ 1 ≤ n ∧ n ≤ 6 := by
 simp only [hOk, hTail, Bool.and_eq_true, decide_eq_true_eq] at h
 exact ⟨P.toNat, by omega, by omega, by omega⟩
theorem hOk_len {P : Int} {B : List Int} (h : hOk P B = true) : B.length ≤ 4 := by
 simp only [hOk, hTail, Bool.and_eq_true, decide_eq_true_eq] at h; exact h.2.2
theorem hOk_mem {P : Int} {B : List Int} (h : hOk P B = true) {b : Int} (hb : b ∈ B) : 0 < b ∧ b < 64 := by
 obtain ⟨n, rfl, h1, h6⟩ := hOk_P h
 simp only [hOk, Bool.and_eq_true, List.all_eq_true] at h
 have := h.1 b hb
 rw [isCI_nat] at this
 simp only [isC, decide_eq_true_eq, Bool.not_eq_true', beq_eq_false_iff_ne, Bool.and_eq_true] at this
 have := pow6 h6
 omega

theorem sCI_f (P a : Int) : spec_CrowdOk.f P a = some (isCI P a) := by
 by_cases h : 0 ≤ P
 ·obtain ⟨n, rfl⟩ := Int.eq_ofNat_of_zero_le h
  rw [sCrowd_f, isCI_nat]
 ·unfold spec_CrowdOk.f spec_l1In.f isCI
  rw [if_neg (by omega), decide_eq_false (by omega : ¬ 1 ≤ P)]; simp
theorem sHouse_l (P : Int) (B : List Int) (hl : B.length < 4611686018427387904) : ∀ (d i k : Nat), i + d = B.length → d < k →
  spec_HouseOk.l0 k (i : Int) P B = some ((B.drop i).all (fun b => isCI P b && !(b == 0)) && hTail P B) := by
 intro d
 induction d with
 | zero =>
  intro i k hi hk
  obtain ⟨k, rfl, _⟩ := fuel hk
  have e : B.drop i = [] := List.drop_eq_nil_of_le (by omega)
  have h4 : decide ((B.length : Int) ≤ 4) = decide (B.length ≤ 4) := decide_eq_decide.2 (by omega)
  rw [spec_HouseOk.l0, if_neg (by omega), e]
  unfold spec_l1In.f hTail
  by_cases h : P ≥ 1
  ·rw [if_pos h, bnd rfl, decide_eq_true (by omega : 1 ≤ P)]
   by_cases h2 : P ≤ 6
   ·rw [decide_eq_true h2, if_pos rfl, h4]; simp
   ·rw [decide_eq_false h2, if_neg (by simp)]; simp
  ·rw [if_neg h, bnd rfl, if_neg (by simp), decide_eq_false (by omega : ¬ 1 ≤ P)]; simp
 | succ d ih =>
  intro i k hi hk
  obtain ⟨k, rfl, hk'⟩ := fuel hk
  have hlt : i < B.length := by omega
  rw [spec_HouseOk.l0, if_pos (by omega), if_pos (by omega), rd_lt hlt, sCI_f, bnd rfl, w64s i (by omega), ih (i + 1) k (by omega) (by omega), List.drop_eq_getElem_cons hlt, List.all_cons]
  by_cases h1 : isCI P B[i] = true
  ·rw [if_pos h1, h1]
   by_cases h2 : B[i] = 0
   ·rw [if_pos h2, beq_iff_eq.2 h2]; simp
   ·rw [if_neg h2, beq_eq_false_iff_ne.2 h2]; simp
  ·rw [if_neg h1, show isCI P B[i] = false from by simpa using h1]; simp
theorem sHouse_f (P : Int) (B : List Int) (hl : B.length < 4611686018427387904) {k : Nat} (hk : B.length < k) : spec_HouseOk.f k P B = some (hOk P B) := by
 unfold spec_HouseOk.f
 have := sHouse_l P B hl B.length 0 k (by omega) hk
 simpa [hOk] using this

theorem rdM {l : List S111} {i : Nat} (h : i < l.length) : rd_T111 l (i : Int) = l[i] := by
 unfold rd_T111; simp [List.getD_eq_getElem?_getD, List.getElem?_eq_getElem h]
def hdI (b : Int) : Int := (hd b.toNat : Int)
def aOk (B : List Int) (m : S111) : Bool := decide (m.f0 = 0) && (decide (0 ≤ m.f1) && (decide (m.f1 < (B.length : Int)) && (decide (1 ≤ m.f2) && decide (m.f2 ≤ hdI (rd B m.f1)))))
def oOk (m : S111) : Bool := (decide (m.f0 = 1) || decide (m.f0 = 2)) && (decide (m.f1 = 0) && decide (m.f2 = 0))
theorem aOk_iff {B : List Int} {m : S111} : aOk B m = true ↔ m.f0 = 0 ∧ 0 ≤ m.f1 ∧ m.f1 < (B.length : Int) ∧ 1 ≤ m.f2 ∧ m.f2 ≤ hdI (rd B m.f1) := by
 simp only [aOk, Bool.and_eq_true, decide_eq_true_eq]
theorem oOk_iff {m : S111} : oOk m = true ↔ (m.f0 = 1 ∨ m.f0 = 2) ∧ m.f1 = 0 ∧ m.f2 = 0 := by
 simp only [oOk, Bool.and_eq_true, Bool.or_eq_true, decide_eq_true_eq]
theorem bfalse {b : Bool} (h : ¬ b = true) : b = false := by simpa using h
def scan (B : List Int) : Nat → List S111 → Option Nat
 | p, [] => some p
 | p, m :: ms => if aOk B m = true then scan B (p + 1) ms else if oOk m = true ∧ 2 ≤ p then scan B (p - 1) ms else none
def tmOk (P : Int) (B : List Int) (t : List S111) : Bool := hOk P B && (decide (t.length ≤ 9) && (scan B 0 t == some 1))
inductive TR where
 | at (m : S111)
 | op (m : S111) (l r : TR)
def flat : TR → List S111
 | .at m => [m]
 | .op m l r => flat l ++ (flat r ++ [m])
def okT (B : List Int) : TR → Prop
 | .at m => aOk B m = true
 | .op m l r => oOk m = true ∧ okT B l ∧ okT B r
theorem flat_pos : ∀ T : TR, 0 < (flat T).length
 | .at _ => by simp [flat]
 | .op _ _ _ => by simp [flat]; omega
theorem forest (B : List Int) : ∀ (ms : List S111) (st : List TR) (q : Nat), (∀ x ∈ st, okT B x) → scan B st.length ms = some q →
  ∃ st' : List TR, (∀ x ∈ st', okT B x) ∧ st'.length = q ∧ st.reverse.flatMap flat ++ ms = st'.reverse.flatMap flat := by
 intro ms
 induction ms with
 | nil =>
  intro st q hok hs
  simp only [scan, Option.some.injEq] at hs
  exact ⟨st, hok, hs, by simp⟩
 | cons m ms ih =>
  intro st q hok hs
  simp only [scan] at hs
  by_cases ha : aOk B m = true
  ·rw [if_pos ha] at hs
   obtain ⟨st', h1, h2, h3⟩ := ih (.at m :: st) q (by
    intro x hx
    rcases List.mem_cons.1 hx with rfl | hx
    ·exact ha
    ·exact hok x hx) hs
   exact ⟨st', h1, h2, by rw [← h3]; simp [flat]⟩
  ·rw [if_neg ha] at hs
   by_cases ho : oOk m = true ∧ 2 ≤ st.length
   ·rw [if_pos ho] at hs
    match st, hok, ho, hs with
    | r :: l :: st0, hok, ho, hs =>
     obtain ⟨st', h1, h2, h3⟩ := ih (.op m l r :: st0) q (by
      intro x hx
      rcases List.mem_cons.1 hx with rfl | hx
      ·exact ⟨ho.1, hok l (by simp), hok r (by simp)⟩
      ·exact hok x (by simp [hx])) (by simpa using hs)
     exact ⟨st', h1, h2, by rw [← h3]; simp [flat]⟩
    | [x], _, ho, _ => simp at ho
    | [], _, ho, _ => simp at ho
   ·rw [if_neg ho] at hs; cases hs
theorem tree_of {B : List Int} {t : List S111} (h : scan B 0 t = some 1) : ∃ T, okT B T ∧ t = flat T := by
 obtain ⟨st', h1, h2, h3⟩ := forest B t [] 1 (by simp) h
 match st', h1, h2, h3 with
 | [T], h1, _, h3 => exact ⟨T, h1 T (by simp), by simpa using h3⟩
theorem tm_tree {P : Int} {B : List Int} {t : List S111} (h : tmOk P B t = true) : hOk P B = true ∧ t.length ≤ 9 ∧ ∃ T, okT B T ∧ t = flat T := by
 simp only [tmOk, Bool.and_eq_true, decide_eq_true_eq, beq_iff_eq] at h
 exact ⟨h.1, h.2.1, tree_of h.2.2⟩
def sat (B : List Int) (m : S111) (c : Nat) : Bool := decide (m.f2 ≤ (hd ((rd B m.f1).toNat &&& c) : Int))
def val (B : List Int) (c : Nat) : TR → Bool
 | .at m => sat B m c
 | .op m l r => if m.f0 = 2 then val B c l || val B c r else val B c l && val B c r
theorem headsI_f {P : Int} {B : List Int} (h : hOk P B = true) {i : Int} (h0 : 0 ≤ i) (h1 : i < (B.length : Int)) : impl_headsOf.f (rd B i) = some (hdI (rd B i)) := by
 have hm := hOk_mem h (rd_mem h0 h1)
 have e := heads_f (c := (rd B i).toNat) (by omega)
 rw [show (((rd B i).toNat : Nat) : Int) = rd B i from by omega] at e
 exact e
theorem isTerm_l {P : Int} {B : List Int} (h : hOk P B = true) (t : List S111) (hl : t.length ≤ 9) : ∀ (d i p k : Nat), i + d = t.length → p ≤ i → 2 * d < k →
  impl_isTerm.l0 k (p : Int) t (t.length : Int) (i : Int) P B = some (scan B p (t.drop i) == some 1) := by
 intro d
 induction d with
 | zero =>
  intro i p k hi hp hk
  obtain ⟨k, rfl, _⟩ := fuel hk
  rw [impl_isTerm.l0, if_neg (by omega), List.drop_eq_nil_of_le (by omega)]
  simp only [scan]
  by_cases e : p = 1
  ·subst e; rfl
  ·rw [beq_eq_false_iff_ne.2 (show (p : Int) ≠ 1 by omega), beq_eq_false_iff_ne.2 (show some p ≠ some 1 by simpa using e)]
 | succ d ih =>
  intro i p k hi hp hk
  obtain ⟨k, rfl, hk1⟩ := fuel hk
  obtain ⟨k, rfl, hk2⟩ := fuel (show 2 * d + 1 < k by omega)
  have hlt : i < t.length := by omega
  rw [impl_isTerm.l0, if_pos (by omega), if_pos (by omega), if_pos (by omega), rdM hlt, List.drop_eq_getElem_cons hlt]
  generalize hm : t[i] = m
  simp only [scan]
  by_cases e0 : m.f0 = 0
  ·have ho : ¬ (oOk m = true ∧ 2 ≤ p) := by rintro ⟨x, _⟩; rw [oOk_iff] at x; omega
   rw [if_pos e0, if_neg ho]
   by_cases e1 : m.f1 < 0
   ·rw [if_pos e1, if_neg (fun x => by rw [aOk_iff] at x; omega)]; rfl
   ·rw [if_neg e1]
    by_cases e2 : m.f1 ≥ (B.length : Int)
    ·rw [if_pos e2, if_neg (fun x => by rw [aOk_iff] at x; omega)]; rfl
    ·rw [if_neg e2]
     by_cases e3 : m.f2 < 1
     ·rw [if_pos e3, if_neg (fun x => by rw [aOk_iff] at x; omega)]; rfl
     ·rw [if_neg e3, if_pos (by omega), if_pos (by omega), headsI_f h (by omega) (by omega), bnd rfl]
      by_cases e4 : m.f2 > hdI (rd B m.f1)
      ·rw [if_pos e4, if_neg (fun x => by rw [aOk_iff] at x; omega)]; rfl
      ·have ha : aOk B m = true := by rw [aOk_iff]; omega
       rw [if_neg e4, if_pos ha, w64s i (by omega), w64s p (by omega)]
       exact ih (i + 1) (p + 1) (k + 1) (by omega) (by omega) (by omega)
  ·have ha : ¬ aOk B m = true := by intro x; rw [aOk_iff] at x; omega
   rw [if_neg e0, if_neg ha]
   have key : ∀ b : Bool, (b = true ↔ m.f0 = 1 ∨ m.f0 = 2) → impl_isTerm.j2 (k + 1) (p : Int) t (t.length : Int) (i : Int) b P B m.f0 m.f1 m.f2 = some ((if oOk m = true ∧ 2 ≤ p then scan B (p - 1) (t.drop (i + 1)) else none) == some 1) := by
    intro b hb
    rw [impl_isTerm.j2]
    by_cases h1 : b = true
    ·rw [if_pos h1]
     by_cases h2 : m.f1 = 0
     ·rw [if_pos h2]
      by_cases h3 : m.f2 = 0
      ·rw [if_pos h3]
       have ho : oOk m = true := by rw [oOk_iff]; exact ⟨hb.1 h1, h2, h3⟩
       by_cases h4 : (p : Int) < 2
       ·rw [if_pos h4, if_neg (by omega)]; rfl
       ·rw [if_neg h4, if_pos ⟨ho, by omega⟩, w64s i (by omega), w64 (by omega) (by omega), show (p : Int) - 1 = ((p - 1 : Nat) : Int) from by omega]
        exact ih (i + 1) (p - 1) k (by omega) (by omega) (by omega)
      ·rw [if_neg h3, if_neg (fun x => by rw [oOk_iff] at x; exact h3 x.1.2.2)]; rfl
     ·rw [if_neg h2, if_neg (fun x => by rw [oOk_iff] at x; exact h2 x.1.2.1)]; rfl
    ·rw [if_neg h1, if_neg (fun x => by rw [oOk_iff] at x; exact h1 (hb.2 x.1.1))]; rfl
   by_cases e1 : m.f0 = 1
   ·rw [if_pos e1]; exact key _ (by rw [beq_iff_eq]; omega)
   ·rw [if_neg e1]; exact key _ (by rw [beq_iff_eq]; omega)
theorem isTerm_f (P : Int) (B : List Int) (t : List S111) (hB : B.length < 4611686018427387904) (hl : t.length < 4611686018427387904) {k : Nat} (hk : B.length + 40 < k) : impl_isTerm.f k P B t = some (tmOk P B t) := by
 unfold impl_isTerm.f
 rw [isHouse_f P B hB (by omega), bnd rfl]
 obtain ⟨k, rfl, hk'⟩ := fuel hk
 unfold tmOk
 by_cases h : hOk P B = true
 ·rw [if_pos h, h]
  by_cases h1 : (t.length : Int) < 1
  ·have : t = [] := List.length_eq_zero_iff.1 (by omega)
   subst this
   rw [if_pos h1, impl_isTerm.j0, if_pos rfl]; rfl
  ·rw [if_neg h1, impl_isTerm.j0]
   by_cases h2 : (t.length : Int) > 9
   ·rw [if_pos (decide_eq_true h2), decide_eq_false (by omega)]; rfl
   ·rw [if_neg (by simpa using h2), decide_eq_true (by omega)]
    have := isTerm_l h t (by omega) t.length 0 0 k (by omega) (by omega) (by omega)
    simpa using this
 ·rw [if_neg h, bfalse h, impl_isTerm.j0, if_pos rfl]; rfl

theorem rdB (st : List Bool) (a : Bool) (r : List Bool) : rdOf false (st ++ a :: r) (st.length : Int) = a := by
 unfold rdOf; simp
theorem rdB1 (st : List Bool) (a b : Bool) : rdOf false (st ++ [a, b]) ((st.length : Int) + 1) = b := by
 unfold rdOf
 rw [show ((st.length : Int) + 1).toNat = st.length + 1 from by omega]
 simp [List.getD_eq_getElem?_getD, List.getElem?_append_right]
theorem sat_f {P : Int} {B : List Int} (h : hOk P B = true) {m : S111} (ha : aOk B m = true) {c : Nat} (hc : c < 64) :
  impl_headsOf.f (Go.bits .and .i64 (rd B m.f1) (c : Int)) = some ((hd ((rd B m.f1).toNat &&& c) : Nat) : Int) := by
 rw [aOk_iff] at ha
 have hm := hOk_mem h (rd_mem ha.2.1 ha.2.2.1)
 obtain ⟨b, eb⟩ := Int.eq_ofNat_of_zero_le (show 0 ≤ rd B m.f1 by omega)
 rw [eb, band (lt62 (n := 6) (by omega) (by omega)) (lt62 (n := 6) (by omega) (by omega)), show ((b : Int)).toNat = b from by omega]
 exact heads_f (Nat.lt_of_le_of_lt Nat.and_le_right hc)
theorem consents_op {P : Int} {B : List Int} {c : Nat} {t : List S111} {m : S111} {p : Nat} (hlt : p < t.length) (hm : t[p] = m) (ho : oOk m = true) (hl : t.length ≤ 9) (st : List Bool) (a b : Bool) (hst : st.length ≤ 1000) (k : Nat) :
  impl_consents.l0 (k + 1) (c : Int) (st ++ [a, b]) t (t.length : Int) (p : Int) P B = impl_consents.l0 k (c : Int) (st ++ [if m.f0 = 2 then a || b else a && b]) t (t.length : Int) ((p + 1 : Nat) : Int) P B := by
 have ho' := oOk_iff.1 ho
 have hlen : (st ++ [a, b]).length = st.length + 2 := by simp
 have w2 : wrap64 (((st ++ [a, b]).length : Int) - 2) = (st.length : Int) := by rw [hlen, w64 (by omega) (by omega)]; omega
 have w1 : wrap64 (((st ++ [a, b]).length : Int) - 1) = (st.length : Int) + 1 := by rw [hlen, w64 (by omega) (by omega)]; omega
 have ht : (st ++ [a, b]).take ((st.length : Int)).toNat = st := by rw [show ((st.length : Int)).toNat = st.length from by omega]; simp
 rw [impl_consents.l0, if_pos (by omega), if_pos (by omega), if_pos (by omega), rdM hlt, hm, if_neg (by omega), w2, w1, if_pos (by omega), if_pos (by omega), if_pos (by omega), if_pos (by omega), rdB, rdB1, w64s p (by omega), ht]
 have hle : (st.length : Int) ≤ ((st ++ [a, b]).length : Int) := by omega
 cases a with
 | true =>
  rw [if_pos rfl]
  by_cases h2 : m.f0 = 2
  ·rw [if_pos h2, if_pos hle, bnd rfl, if_pos (by omega), if_pos h2]; rfl
  ·rw [if_neg h2, if_pos hle, bnd rfl, if_pos (by omega), if_neg h2]; simp
 | false =>
  rw [if_neg (by simp)]
  by_cases h2 : m.f0 = 2
  ·rw [if_pos h2, if_pos hle, bnd rfl, if_pos (by omega), if_pos h2]; simp
  ·rw [if_neg h2, if_pos hle, bnd rfl, if_pos (by omega), if_neg h2]; simp
theorem consents_T {P : Int} {B : List Int} (h : hOk P B = true) {c : Nat} (hc : c < 64) : ∀ (T : TR), okT B T → ∀ (t : List S111) (xs ys : List S111) (st : List Bool) (k : Nat), t = xs ++ (flat T ++ ys) → t.length ≤ 9 → st.length + (flat T).length ≤ 1000 →
  impl_consents.l0 (k + (flat T).length) (c : Int) st t (t.length : Int) (xs.length : Int) P B = impl_consents.l0 k (c : Int) (st ++ [val B c T]) t (t.length : Int) ((xs.length + (flat T).length : Nat) : Int) P B := by
 intro T
 induction T with
 | «at» m =>
  intro hok t xs ys st k ht hl hst
  have ha : aOk B m = true := hok
  have ha' := aOk_iff.1 ha
  have hlt : xs.length < t.length := by rw [ht]; simp [flat]
  have hm : t[xs.length] = m := by subst ht; simp [flat]
  simp only [flat, List.length_singleton] at hst
  show impl_consents.l0 (k + 1) _ _ _ _ _ _ _ = _
  rw [impl_consents.l0, if_pos (by omega), if_pos (by omega), if_pos (by omega), rdM hlt, hm, if_pos ha'.1, if_pos ha'.2.1, if_pos ha'.2.2.1, sat_f h ha hc, bnd rfl, if_pos (by omega), w64s _ (by omega)]
  rfl
 | op m l r ihl ihr =>
  intro hok t xs ys st k ht hl hst
  obtain ⟨ho, hL, hR⟩ := hok
  have hlen : (flat (.op m l r)).length = (flat l).length + ((flat r).length + 1) := by simp [flat]
  have pl := flat_pos l
  have htl : t.length = xs.length + ((flat l).length + ((flat r).length + 1) + ys.length) := by rw [ht]; simp [flat]; omega
  have e1 := ihl hL t xs (flat r ++ [m] ++ ys) st (k + ((flat r).length + 1)) (by rw [ht]; simp [flat]) hl (by omega)
  have e2 := ihr hR t (xs ++ flat l) ([m] ++ ys) (st ++ [val B c l]) (k + 1) (by rw [ht]; simp [flat]) hl (by simp only [List.length_append, List.length_singleton]; omega)
  have hlt : (xs ++ flat l).length + (flat r).length < t.length := by simp only [List.length_append]; omega
  have hm : t[(xs ++ flat l).length + (flat r).length] = m := by
   exact List.getElem_of_append (l₁ := xs ++ flat l ++ flat r) (l₂ := ys) (by rw [ht]; simp [flat]) (by simp only [List.length_append])
  rw [hlen, show k + ((flat l).length + ((flat r).length + 1)) = (k + ((flat r).length + 1)) + (flat l).length from by omega, e1]
  rw [show ((xs.length + (flat l).length : Nat) : Int) = ((xs ++ flat l).length : Int) from by simp, show k + ((flat r).length + 1) = (k + 1) + (flat r).length from by omega, e2]
  rw [List.append_assoc]
  have := consents_op (P := P) (B := B) (c := c) hlt hm ho hl st (val B c l) (val B c r) (by omega) k
  rw [show (xs.length + ((flat l).length + ((flat r).length + 1)) : Nat) = (xs ++ flat l).length + (flat r).length + 1 from by simp only [List.length_append]; omega]
  exact this
theorem consents_f {P : Int} {B : List Int} (h : hOk P B = true) {T : TR} (hT : okT B T) (hl : (flat T).length ≤ 9) {c : Nat} (hc : c < 64) {k : Nat} (hk : 20 < k) : impl_consents.f k P B (flat T) (c : Int) = some (val B c T) := by
 obtain ⟨j, rfl⟩ : ∃ j, k = (j + 1) + (flat T).length := ⟨k - 1 - (flat T).length, by omega⟩
 unfold impl_consents.f
 have := consents_T h hc T hT (flat T) [] [] [] (j + 1) (by simp) hl (by simp; omega)
 have e : impl_consents.l0 (j + 1 + (flat T).length) (c : Int) [] (flat T) ((flat T).length : Int) 0 P B = _ := this
 rw [e, impl_consents.l0, if_neg (by simp), if_pos (by simp)]
 rfl

set_option maxRecDepth 100000 in
theorem l1Heads_all : ∀ c : Fin 64, spec_l1Heads.f 8 ((c.val : Nat) : Int) = some ((hd c.val : Nat) : Int) := by decide +kernel
theorem l1Heads_f {c : Nat} (h : c < 64) {k : Nat} (hk : 8 ≤ k) : spec_l1Heads.f k (c : Int) = some (hd c : Int) :=
 at_rounds (fun j => spec_l1Heads.mono _ j) hk (l1Heads_all ⟨c, h⟩)
theorem l1Heads_l : ∀ (d : Nat) (x n : Int) (k : Nat), x < ((2 ^ d : Nat) : Int) → x < 9223372036854775808 → 0 ≤ n → n + d < 1000 → d < k → ∃ r, spec_l1Heads.l0 k x n = some r ∧ 0 ≤ r ∧ r < 1000 := by
 intro d
 induction d with
 | zero =>
  intro x n k hx _ h0 hn hk
  obtain ⟨k, rfl, _⟩ := fuel hk
  have hx0 : x < 1 := hx
  rw [spec_l1Heads.l0, if_neg (by omega)]
  exact ⟨n, rfl, h0, by omega⟩
 | succ d ih =>
  intro x n k hx hb h0 hn hk
  obtain ⟨k, rfl, _⟩ := fuel hk
  rw [spec_l1Heads.l0]
  by_cases h : x > 0
  ·have e1 : Int.tdiv x 2 = x / 2 := Int.tdiv_eq_ediv_of_nonneg (by omega)
   have e2 : Int.tmod x 2 = x % 2 := Int.tmod_eq_emod_of_nonneg (by omega)
   rw [if_pos h, e1, e2, w64 (x := x / 2) (by omega) (by omega), w64 (by omega) (by omega)]
   refine ih _ _ k ?_ (by omega) (by omega) (by omega) (by omega)
   rw [Nat.pow_succ] at hx
   omega
  ·rw [if_neg h]; exact ⟨n, rfl, h0, by omega⟩
theorem l1Heads_any {x : Int} (hx : x < 9223372036854775808) {k : Nat} (hk : 64 < k) : ∃ r, spec_l1Heads.f k x = some r ∧ 0 ≤ r ∧ r < 1000 :=
 l1Heads_l 63 x 0 k (by rw [show ((2 ^ 63 : Nat) : Int) = 9223372036854775808 by decide]; exact hx) hx (by omega) (by omega) (by omega)
theorem l1HeadsI_f {P : Int} {B : List Int} (h : hOk P B = true) {i : Int} (h0 : 0 ≤ i) (h1 : i < (B.length : Int)) {k : Nat} (hk : 8 ≤ k) : spec_l1Heads.f k (rd B i) = some (hdI (rd B i)) := by
 have hm := hOk_mem h (rd_mem h0 h1)
 have e := l1Heads_f (c := (rd B i).toNat) (by omega) hk
 rw [show (((rd B i).toNat : Nat) : Int) = rd B i from by omega] at e
 exact e
theorem oOk_eq (m : S111) : ((m.f0 == 1 && (m.f1 == 0 && (m.f2 == 0))) = true ∨ (m.f0 == 2 && (m.f1 == 0 && (m.f2 == 0))) = true) ↔ oOk m = true := by
 rw [oOk_iff]
 simp only [Bool.and_eq_true, beq_iff_eq]
 omega
theorem sTerm_end {P : Int} {B : List Int} {t : List S111} {p i k : Nat} (hB : B.length < 1152921504606846976) (hi : i = t.length) (hl : t.length < 1152921504606846976) (hk : B.length + 1 < k) :
  spec_TermOk.l0 k t (p : Int) (i : Int) P B = some (hOk P B && (decide (p = 1) && decide (t.length ≤ 9))) := by
 obtain ⟨k, rfl, hk'⟩ := fuel hk
 rw [spec_TermOk.l0, if_neg (by omega), sHouse_f P B (by omega) (by omega), bnd rfl]
 by_cases h : hOk P B = true
 ·rw [if_pos h, h]
  by_cases e : p = 1
  ·rw [if_pos (by omega), decide_eq_true e, show decide ((t.length : Int) ≤ 9) = decide (t.length ≤ 9) from decide_eq_decide.2 (by omega)]; simp
  ·rw [if_neg (by omega), decide_eq_false e]; simp
 ·rw [if_neg h, bfalse h]; rfl
theorem sTerm_l {P : Int} {B : List Int} (h : hOk P B = true) (t : List S111) (hl : t.length < 1152921504606846976) : ∀ (d i p k : Nat), i + d = t.length → p ≤ i → 2 * d + 60 < k →
  spec_TermOk.l0 k t (p : Int) (i : Int) P B = some ((scan B p (t.drop i) == some 1) && decide (t.length ≤ 9)) := by
 have hB := hOk_len h
 intro d
 induction d with
 | zero =>
  intro i p k hi hp hk
  rw [sTerm_end (by omega) (by omega) hl (by omega), h, List.drop_eq_nil_of_le (by omega)]
  simp only [scan]
  by_cases e : p = 1
  ·subst e; rfl
  ·rw [decide_eq_false e, beq_eq_false_iff_ne.2 (show some p ≠ some 1 by simpa using e)]; rfl
 | succ d ih =>
  intro i p k hi hp hk
  obtain ⟨k, rfl, hk1⟩ := fuel hk
  obtain ⟨k, rfl, hk2⟩ := fuel (show 2 * d + 61 < k by omega)
  have hlt : i < t.length := by omega
  rw [spec_TermOk.l0, if_pos (by omega), if_pos (by omega), rdM hlt, List.drop_eq_getElem_cons hlt]
  have hr : rd_T111 t (i : Int) = t[i] := rdM hlt
  generalize t[i] = m at *
  simp only [scan]
  have no : aOk B m = false → spec_TermOk.j1 (k + 1) t (p : Int) (i : Int) false P B = some (((if aOk B m = true then scan B (p + 1) (t.drop (i + 1)) else if oOk m = true ∧ 2 ≤ p then scan B (p - 1) (t.drop (i + 1)) else none) == some 1) && decide (t.length ≤ 9)) := by
   intro ha
   rw [spec_TermOk.j1, if_neg (by simp), if_pos (by omega), if_pos (by omega), hr, if_neg (show ¬ aOk B m = true by rw [ha]; simp)]
   have hoe := oOk_eq m
   have go : oOk m = true → (if (p : Int) ≥ 2 then spec_TermOk.l0 k t (wrap64 ((p : Int) - 1)) (wrap64 ((i : Int) + 1)) P B else some false) = some (((if oOk m = true ∧ 2 ≤ p then scan B (p - 1) (t.drop (i + 1)) else none) == some 1) && decide (t.length ≤ 9)) := by
    intro ho
    by_cases hp2 : (p : Int) ≥ 2
    ·rw [if_pos hp2, if_pos ⟨ho, by omega⟩, w64s i (by omega), w64 (by omega) (by omega), show (p : Int) - 1 = ((p - 1 : Nat) : Int) from by omega]
     exact ih (i + 1) (p - 1) k (by omega) (by omega) (by omega)
    ·rw [if_neg hp2, if_neg (fun x => hp2 (by omega))]; rfl
   by_cases h1 : (m.f0 == 1 && (m.f1 == 0 && (m.f2 == 0))) = true
   ·rw [if_pos h1]; exact go (hoe.1 (.inl h1))
   ·rw [if_neg h1]
    by_cases h2 : (m.f0 == 2 && (m.f1 == 0 && (m.f2 == 0))) = true
    ·rw [if_pos h2]; exact go (hoe.1 (.inr h2))
    ·rw [if_neg h2, if_neg (show ¬ (oOk m = true ∧ 2 ≤ p) from fun x => (hoe.2 x.1).elim h1 h2)]; rfl
  by_cases e0 : m.f0 = 0
  ·rw [if_pos e0]
   unfold spec_l1In.f
   rw [w64 (x := (B.length : Int) - 1) (by omega) (by omega)]
   by_cases e1 : m.f1 ≥ 0
   ·rw [if_pos e1, bnd rfl]
    by_cases e2 : m.f1 ≤ (B.length : Int) - 1
    ·rw [decide_eq_true e2, if_pos rfl, if_pos e1, if_pos (by omega), l1HeadsI_f h e1 (by omega) (by omega), bnd rfl]
     by_cases e3 : m.f2 ≥ 1
     ·rw [if_pos e3, bnd rfl]
      by_cases e4 : m.f2 ≤ hdI (rd B m.f1)
      ·have ha : aOk B m = true := by rw [aOk_iff]; omega
       rw [decide_eq_true e4, spec_TermOk.j1, if_pos rfl, if_pos ha, w64s i (by omega), w64s p (by omega)]
       exact ih (i + 1) (p + 1) k (by omega) (by omega) (by omega)
      ·rw [decide_eq_false e4]; exact no (bfalse (fun x => by rw [aOk_iff] at x; omega))
     ·rw [if_neg e3, bnd rfl]; exact no (bfalse (fun x => by rw [aOk_iff] at x; omega))
    ·rw [decide_eq_false e2, if_neg (by simp)]; exact no (bfalse (fun x => by rw [aOk_iff] at x; omega))
   ·rw [if_neg e1, bnd rfl, if_neg (by simp)]; exact no (bfalse (fun x => by rw [aOk_iff] at x; omega))
  ·rw [if_neg e0]; exact no (bfalse (fun x => by rw [aOk_iff] at x; omega))
theorem sTerm_no {P : Int} {B : List Int} (h : hOk P B = false) (hB : B.length < 1152921504606846976) (hw : ∀ b ∈ B, b < 9223372036854775808) (t : List S111) (hl : t.length < 1152921504606846976) : ∀ (d i p k : Nat), i + d = t.length → p ≤ i → 2 * d + B.length + 70 < k →
  spec_TermOk.l0 k t (p : Int) (i : Int) P B = some false := by
 intro d
 induction d with
 | zero =>
  intro i p k hi hp hk
  rw [sTerm_end hB (by omega) hl (by omega), h]; rfl
 | succ d ih =>
  intro i p k hi hp hk
  obtain ⟨k, rfl, hk1⟩ := fuel hk
  obtain ⟨k, rfl, hk2⟩ := fuel (show 2 * d + B.length + 71 < k by omega)
  have hlt : i < t.length := by omega
  have hr : rd_T111 t (i : Int) = t[i] := rdM hlt
  rw [spec_TermOk.l0, if_pos (by omega), if_pos (by omega), hr]
  generalize t[i] = m at *
  have no : ∀ b : Bool, spec_TermOk.j1 (k + 1) t (p : Int) (i : Int) b P B = some false := by
   intro b
   rw [spec_TermOk.j1]
   by_cases hb : b = true
   ·rw [if_pos hb, w64s i (by omega), w64s p (by omega)]
    exact ih (i + 1) (p + 1) k (by omega) (by omega) (by omega)
   ·rw [if_neg hb, if_pos (by omega), if_pos (by omega), hr]
    have go : (if (p : Int) ≥ 2 then spec_TermOk.l0 k t (wrap64 ((p : Int) - 1)) (wrap64 ((i : Int) + 1)) P B else some false) = some false := by
     by_cases hp2 : (p : Int) ≥ 2
     ·rw [if_pos hp2, w64s i (by omega), w64 (by omega) (by omega), show (p : Int) - 1 = ((p - 1 : Nat) : Int) from by omega]
      exact ih (i + 1) (p - 1) k (by omega) (by omega) (by omega)
     ·rw [if_neg hp2]
    split
    ·exact go
    ·split
     ·exact go
     ·rfl
  by_cases e0 : m.f0 = 0
  ·rw [if_pos e0]
   unfold spec_l1In.f
   rw [w64 (x := (B.length : Int) - 1) (by omega) (by omega)]
   by_cases e1 : m.f1 ≥ 0
   ·rw [if_pos e1, bnd rfl]
    by_cases e2 : m.f1 ≤ (B.length : Int) - 1
    ·obtain ⟨r, er, _, _⟩ := l1Heads_any (hw _ (rd_mem e1 (show m.f1 < (B.length : Int) by omega))) (k := k + 1) (by omega)
     rw [decide_eq_true e2, if_pos rfl, if_pos e1, if_pos (by omega), er, bnd rfl]
     split
     ·rw [bnd rfl]; exact no _
     ·rw [bnd rfl]; exact no _
    ·rw [decide_eq_false e2, if_neg (by simp)]; exact no _
   ·rw [if_neg e1, bnd rfl, if_neg (by simp)]; exact no _
  ·rw [if_neg e0]; exact no _
theorem sTerm_f (P : Int) (B : List Int) (t : List S111) (hB : B.length < 1152921504606846976) (hw : ∀ b ∈ B, b < 9223372036854775808) (hl : t.length < 1152921504606846976) {k : Nat} (hk : 2 * t.length + B.length + 70 < k) : spec_TermOk.f k P B t = some (tmOk P B t) := by
 unfold spec_TermOk.f tmOk
 by_cases h : hOk P B = true
 ·have := sTerm_l h t hl t.length 0 0 k (by omega) (by omega) (by omega)
  have e : spec_TermOk.l0 k t 0 0 P B = _ := this
  rw [e, h, List.drop_zero, Bool.and_comm (decide _)]; rfl
 ·have := sTerm_no (bfalse h) hB hw t hl t.length 0 0 k (by omega) (by omega) (by omega)
  have e : spec_TermOk.l0 k t 0 0 P B = _ := this
  rw [e, bfalse h]; rfl

theorem starts_T {B : List Int} : ∀ (T : TR), okT B T → ∀ (t xs ys : List S111) (n k : Nat), t = xs ++ (flat T ++ ys) → t.length ≤ 1000 → n + (flat T).length ≤ 2000 →
  spec_l3Starts.l0 (k + (flat T).length) t ((n : Int) + 1) ((xs.length : Int) + (flat T).length - 1) = spec_l3Starts.l0 k t (n : Int) ((xs.length : Int) - 1) := by
 intro T
 induction T with
 | «at» m =>
  intro hok t xs ys n k ht hl hn
  have ha' := aOk_iff.1 (show aOk B m = true from hok)
  have hlt : xs.length < t.length := by rw [ht]; simp [flat]
  have hm : t[xs.length] = m := by subst ht; simp [flat]
  show spec_l3Starts.l0 (k + 1) t ((n : Int) + 1) ((xs.length : Int) + ((1 : Nat) : Int) - 1) = _
  rw [show (xs.length : Int) + ((1 : Nat) : Int) - 1 = (xs.length : Int) from by omega, spec_l3Starts.l0, if_pos (by omega), if_pos (by omega), if_pos (by omega), rdM hlt, hm, if_pos ha'.1, w64 (by omega) (by omega), w64 (by omega) (by omega)]
  congr 1
  omega
 | op m l r ihl ihr =>
  intro hok t xs ys n k ht hl hn
  obtain ⟨ho, hL, hR⟩ := hok
  have ho' := oOk_iff.1 ho
  have hlen : (flat (.op m l r)).length = (flat l).length + ((flat r).length + 1) := by simp [flat]
  have htl : t.length = xs.length + ((flat l).length + ((flat r).length + 1) + ys.length) := by rw [ht]; simp [flat]; omega
  have hlt : (xs ++ flat l).length + (flat r).length < t.length := by simp only [List.length_append]; omega
  have hm : t[(xs ++ flat l).length + (flat r).length] = m := by
   exact List.getElem_of_append (l₁ := xs ++ flat l ++ flat r) (l₂ := ys) (by rw [ht]; simp [flat]) (by simp only [List.length_append])
  have pl := flat_pos l
  have e2 := ihr hR t (xs ++ flat l) ([m] ++ ys) (n + 1) (k + (flat l).length) (by rw [ht]; simp [flat]) hl (by omega)
  have e1 := ihl hL t xs (flat r ++ [m] ++ ys) n k (by rw [ht]; simp [flat]) hl (by omega)
  rw [hlen, show k + ((flat l).length + ((flat r).length + 1)) = (k + (flat l).length + (flat r).length) + 1 from by omega,
   show (xs.length : Int) + (((flat l).length + ((flat r).length + 1) : Nat) : Int) - 1 = (((xs ++ flat l).length + (flat r).length : Nat) : Int) from by simp only [List.length_append]; omega]
  rw [spec_l3Starts.l0, if_pos (by omega), if_pos (by omega), if_pos (by omega), rdM hlt, hm, if_neg (by omega), w64 (by omega) (by omega), w64 (by omega) (by omega)]
  rw [show (n : Int) + 1 + 1 = ((n + 1 : Nat) : Int) + 1 from by omega, show (((xs ++ flat l).length + (flat r).length : Nat) : Int) - 1 = ((xs ++ flat l).length : Int) + ((flat r).length : Int) - 1 from by omega, e2]
  rw [show ((n + 1 : Nat) : Int) = (n : Int) + 1 from by omega, show ((xs ++ flat l).length : Int) - 1 = (xs.length : Int) + ((flat l).length : Int) - 1 from by simp only [List.length_append]; omega, e1]
theorem starts_f {B : List Int} {r : TR} (hR : okT B r) (xs ys : List S111) (hl : (xs ++ (flat r ++ ys)).length ≤ 1000) {k : Nat} (hk : (flat r).length < k) :
  spec_l3Starts.f k (xs ++ (flat r ++ ys)) ((xs.length : Int) + (flat r).length - 1) = some (xs.length : Int) := by
 obtain ⟨j, rfl⟩ : ∃ j, k = (j + 1) + (flat r).length := ⟨k - 1 - (flat r).length, by omega⟩
 unfold spec_l3Starts.f
 have hl2 : (flat r).length ≤ 1000 := by simp only [List.length_append] at hl; omega
 have hl3 : xs.length ≤ 1000 := by simp only [List.length_append] at hl; omega
 have := starts_T r hR _ xs ys 0 (j + 1) rfl hl (by omega)
 have e : spec_l3Starts.l0 (j + 1 + (flat r).length) (xs ++ (flat r ++ ys)) 1 ((xs.length : Int) + (flat r).length - 1) = _ := this
 rw [e, spec_l3Starts.l0, if_neg (by omega), w64 (by omega) (by omega)]
 congr 1
 omega
theorem ssat_f {P : Int} {B : List Int} (h : hOk P B = true) {m : S111} (ha : aOk B m = true) {c : Nat} (hc : c < 64) {k : Nat} (hk : 8 ≤ k) :
  spec_l1Heads.f k (Go.bits .and .i64 (c : Int) (rd B m.f1)) = some ((hd ((rd B m.f1).toNat &&& c) : Nat) : Int) := by
 rw [aOk_iff] at ha
 have hm := hOk_mem h (rd_mem ha.2.1 ha.2.2.1)
 obtain ⟨b, eb⟩ := Int.eq_ofNat_of_zero_le (show 0 ≤ rd B m.f1 by omega)
 rw [eb, band (lt62 (n := 6) (by omega) (by omega)) (lt62 (n := 6) (by omega) (by omega)), show ((b : Int)).toNat = b from by omega, Nat.and_comm]
 exact l1Heads_f (Nat.lt_of_le_of_lt Nat.and_le_right hc) hk
theorem says_T {P : Int} {B : List Int} (h : hOk P B = true) {c : Nat} (hc : c < 64) : ∀ (T : TR), okT B T → (flat T).length ≤ 1000 → ∀ k, (flat T).length + 20 ≤ k → spec_l4Says.f k P B (flat T) (c : Int) = some (val B c T) := by
 intro T
 induction T with
 | «at» m =>
  intro hok _ k hk
  obtain ⟨k, rfl, hk'⟩ := fuel (show 20 < k by simp only [flat, List.length_singleton] at hk; omega)
  have ha : aOk B m = true := hok
  have ha' := aOk_iff.1 ha
  have hrd : rd_T111 (flat (.at m)) ((0 : Nat) : Int) = m := rdM (l := [m]) (by simp)
  have hw : wrap64 (((flat (.at m)).length : Int) - 1) = ((0 : Nat) : Int) := by rw [show (flat (.at m)).length = 1 from rfl, w64 (by omega) (by omega)]; rfl
  rw [spec_l4Says.f, hw, hrd, if_pos (by omega), if_pos (by simp [flat]), if_pos ha'.1, if_pos ha'.2.1, if_pos ha'.2.2.1, ssat_f h ha hc (by omega), bnd rfl]
  rfl
 | op m l r ihl ihr =>
  intro hok hl k hk
  obtain ⟨ho, hL, hR⟩ := hok
  have ho' := oOk_iff.1 ho
  have hlen : (flat (.op m l r)).length = (flat l).length + ((flat r).length + 1) := by simp [flat]
  have pl := flat_pos l
  have pr := flat_pos r
  rw [hlen] at hl hk
  obtain ⟨k, rfl, hk'⟩ := fuel (show (flat l).length + (flat r).length + 20 < k by omega)
  have hrd : rd_T111 (flat (.op m l r)) (((flat l).length + (flat r).length : Nat) : Int) = m := by
   rw [rdM (by omega)]
   exact List.getElem_of_append (l₁ := flat l ++ flat r) (l₂ := []) (by simp [flat]) (by simp only [List.length_append])
  have hw : wrap64 (((flat (.op m l r)).length : Int) - 1) = (((flat l).length + (flat r).length : Nat) : Int) := by rw [hlen, w64 (by omega) (by omega)]; omega
  have hw2 : wrap64 ((((flat l).length + (flat r).length : Nat) : Int) - 1) = ((flat l).length : Int) + (flat r).length - 1 := by rw [w64 (by omega) (by omega)]; omega
  have hst : spec_l3Starts.f k (flat (.op m l r)) (((flat l).length : Int) + (flat r).length - 1) = some ((flat l).length : Int) :=
   starts_f hR (flat l) [m] (by simp only [List.length_append, List.length_singleton]; omega) (by omega)
  have t1 : (flat (.op m l r)).take (((flat l).length : Int)).toNat = flat l := by
   rw [show (((flat l).length : Int)).toNat = (flat l).length from by omega]; simp [flat]
  have t2 : ((flat (.op m l r)).take ((((flat l).length + (flat r).length : Nat) : Int)).toNat).drop (((flat l).length : Int)).toNat = flat r := by
   rw [show (((flat l).length : Int)).toNat = (flat l).length from by omega, show ((((flat l).length + (flat r).length : Nat) : Int)).toNat = (flat l ++ flat r).length from by simp only [List.length_append]; omega]
   have : flat (.op m l r) = (flat l ++ flat r) ++ [m] := by simp [flat]
   rw [this, List.take_left, List.drop_left]
  have il := ihl hL (by omega) k (by omega)
  have ir := ihr hR (by omega) k (by omega)
  rw [spec_l4Says.f, hw, hrd, if_pos (by omega), if_pos (by omega), if_neg (by omega), hw2, hst, bnd rfl, t1, t2, il, ir]
  simp only [val]
  have c1 : ((flat l).length : Int) ≤ ((flat (.op m l r)).length : Int) := by omega
  have c2 : ((flat l).length : Int) ≤ (((flat l).length + (flat r).length : Nat) : Int) := by omega
  have c3 : ((((flat l).length + (flat r).length : Nat)) : Int) ≤ ((flat (.op m l r)).length : Int) := by omega
  by_cases h2 : m.f0 = 2
  ·rw [if_pos h2, if_pos (by omega), if_pos c1, bnd rfl, if_pos h2]
   cases val B c l with
   | true => rw [if_pos rfl]; rfl
   | false => rw [if_neg (by simp), if_pos c2, if_pos c3, bnd rfl]; simp
  ·rw [if_neg h2, if_pos (by omega), if_pos c1, bnd rfl, if_neg h2]
   cases val B c l with
   | true => rw [if_pos rfl, if_pos c2, if_pos c3, bnd rfl]; simp
   | false => rw [if_neg (by simp)]; rfl

theorem rdV {l : List S37} {i : Nat} (h : i < l.length) : rd_T37 l (i : Int) = l[i] := by
 unfold rd_T37; simp [List.getD_eq_getElem?_getD, List.getElem?_eq_getElem h]
theorem rdC {l : List (List S37)} {i : Nat} (h : i < l.length) : rd_L5 l (i : Int) = l[i] := by
 unfold rd_L5; simp [List.getD_eq_getElem?_getD, List.getElem?_eq_getElem h]
def ifOk (C : List (List S37)) (i : Nat) (v : S37) : Bool :=
 (decide (v.f1 = -1) && decide (v.f2 = 0)) || (decide (0 ≤ v.f1) && (decide (v.f1 < (C.length : Int)) && (!decide (v.f1 = (i : Int)) && (decide (0 ≤ v.f2) && decide (v.f2 < ((rd_L5 C v.f1).length : Int))))))
def vOk (P : Int) (B : List Int) (C : List (List S37)) (i : Nat) (v : S37) : Bool := tmOk P B v.f0 && ifOk C i v
def clOk (P : Int) (B : List Int) (C : List (List S37)) (i : Nat) (L : List S37) : Bool := (decide (1 ≤ L.length) && decide (L.length ≤ 3)) && L.all (vOk P B C i)
def clsOk (P : Int) (B : List Int) (C : List (List S37)) : Nat → List (List S37) → Bool
 | _, [] => true
 | i, L :: r => clOk P B C i L && clsOk P B C (i + 1) r
def chOk (P : Int) (B : List Int) (C : List (List S37)) : Bool := hOk P B && ((decide (1 ≤ C.length) && decide (C.length ≤ 3)) && clsOk P B C 0 C)
theorem isCh_l1 {P : Int} {B : List Int} (hB : B.length < 1152921504606846976) {C L : List (List S37)} {X : List S37} (hC : C.length ≤ 3) (hX : X.length ≤ 3) (hm : ∀ v ∈ X, v.f0.length < 1152921504606846976) {n : Int} {i : Nat} (R : Bool) (b : Nat)
  (hR : ∀ k, b < k → impl_isCharter.l0 k L n (wrap64 ((i : Int) + 1)) P B C = some R) : ∀ (d j k : Nat), j + d = X.length → b + B.length + 60 + 3 * d < k →
  impl_isCharter.l1 k (i : Int) L n (i : Int) X (X.length : Int) (j : Int) P B C = some ((X.drop j).all (vOk P B C i) && R) := by
 intro d
 induction d with
 | zero =>
  intro j k hj hk
  obtain ⟨k, rfl, _⟩ := fuel hk
  rw [impl_isCharter.l1, if_neg (by omega), hR k (by omega), List.drop_eq_nil_of_le (by omega)]; rfl
 | succ d ih =>
  intro j k hj hk
  obtain ⟨k, rfl, hk1⟩ := fuel hk
  obtain ⟨k, rfl, hk2⟩ := fuel (show b + B.length + 60 + 3 * d + 1 < k by omega)
  have hlt : j < X.length := by omega
  have ih' := ih (j + 1) k (by omega) (by omega)
  rw [impl_isCharter.l1, if_pos (by omega), if_pos (by omega), if_pos (by omega), rdV hlt, List.drop_eq_getElem_cons hlt, List.all_cons]
  have hv := hm X[j] (List.getElem_mem hlt)
  generalize X[j] = v at *
  rw [isTerm_f P B v.f0 (by omega) (by omega) (by omega), bnd rfl]
  by_cases ht : tmOk P B v.f0 = true
  ·rw [if_pos ht]
   have e : vOk P B C i v = ifOk C i v := by unfold vOk; rw [ht]; rfl
   rw [e]
   have key : impl_isCharter.j4 (k + 1) (i : Int) L n (i : Int) X (X.length : Int) (j : Int) (decide (v.f1 = -1) && (v.f2 == 0)) P B C v.f0 v.f1 v.f2 = some (ifOk C i v && (X.drop (j + 1)).all (vOk P B C i) && R) := by
    rw [impl_isCharter.j4, w64s j (by omega), ih']
    unfold ifOk
    by_cases h1 : (decide (v.f1 = -1) && (v.f2 == 0)) = true
    ·rw [if_pos h1]
     simp only [Bool.and_eq_true, decide_eq_true_eq, beq_iff_eq] at h1
     simp [h1]
    ·rw [if_neg h1]
     have hz : (decide (v.f1 = -1) && decide (v.f2 = 0)) = false := by
      apply bfalse; intro x; apply h1
      simp only [Bool.and_eq_true, decide_eq_true_eq, beq_iff_eq] at x ⊢; exact x
     rw [hz, Bool.false_or]
     by_cases a1 : v.f1 < 0
     ·rw [if_pos a1, decide_eq_false (by omega : ¬ 0 ≤ v.f1)]; simp
     ·rw [if_neg a1, decide_eq_true (by omega : 0 ≤ v.f1)]
      by_cases a2 : v.f1 ≥ (C.length : Int)
      ·rw [if_pos a2, decide_eq_false (by omega : ¬ v.f1 < (C.length : Int))]; simp
      ·rw [if_neg a2, decide_eq_true (by omega : v.f1 < (C.length : Int))]
       by_cases a3 : v.f1 = (i : Int)
       ·rw [if_pos a3, decide_eq_true a3]; simp
       ·rw [if_neg a3, decide_eq_false a3]
        by_cases a4 : v.f2 < 0
        ·rw [if_pos a4, decide_eq_false (by omega : ¬ 0 ≤ v.f2)]; simp
        ·rw [if_neg a4, if_pos (by omega), if_pos (by omega), decide_eq_true (by omega : 0 ≤ v.f2)]
         by_cases a5 : v.f2 ≥ ((rd_L5 C v.f1).length : Int)
         ·rw [if_pos a5, decide_eq_false (by omega)]; simp
         ·rw [if_neg a5, decide_eq_true (by omega)]; simp
   by_cases h1 : v.f1 = -1
   ·rw [if_pos h1]; rw [decide_eq_true h1, Bool.true_and] at key; exact key
   ·rw [if_neg h1]; rw [decide_eq_false h1, Bool.false_and] at key; exact key
  ·rw [if_neg ht]
   have e : vOk P B C i v = false := by unfold vOk; rw [bfalse ht]; rfl
   rw [e]; rfl
theorem isCh_l0 {P : Int} {B : List Int} (hB : B.length < 1152921504606846976) {C : List (List S37)} (hC : C.length ≤ 3) (hm : ∀ L ∈ C, ∀ v ∈ L, v.f0.length < 1152921504606846976) : ∀ (d i k : Nat), i + d = C.length → (d + 1) * (B.length + 100) < k →
  impl_isCharter.l0 k C (C.length : Int) (i : Int) P B C = some (clsOk P B C i (C.drop i)) := by
 intro d
 induction d with
 | zero =>
  intro i k hi hk
  obtain ⟨k, rfl, _⟩ := fuel hk
  rw [impl_isCharter.l0, if_neg (by omega), List.drop_eq_nil_of_le (by omega)]; rfl
 | succ d ih =>
  intro i k hi hk
  have hmul : (d + 1 + 1) * (B.length + 100) = (d + 1) * (B.length + 100) + (B.length + 100) := Nat.succ_mul _ _
  rw [hmul] at hk
  obtain ⟨k, rfl, hk1⟩ := fuel hk
  obtain ⟨k, rfl, hk2⟩ := fuel (show (d + 1) * (B.length + 100) + (B.length + 99) < k by omega)
  have hlt : i < C.length := by omega
  have hmi := hm C[i] (List.getElem_mem hlt)
  rw [impl_isCharter.l0, if_pos (by omega), if_pos (by omega), if_pos (by omega), rdC hlt, List.drop_eq_getElem_cons hlt]
  simp only [clsOk, clOk]
  have go : ∀ b : Bool, (b = true ↔ ¬ (1 ≤ C[i].length ∧ C[i].length ≤ 3)) → impl_isCharter.j2 (k + 1) (i : Int) C[i] C (C.length : Int) (i : Int) b P B C = some (((decide (1 ≤ C[i].length) && decide (C[i].length ≤ 3)) && C[i].all (vOk P B C i)) && clsOk P B C (i + 1) (C.drop (i + 1))) := by
   intro b hb
   rw [impl_isCharter.j2]
   by_cases h1 : b = true
   ·have : (decide (1 ≤ C[i].length) && decide (C[i].length ≤ 3)) = false := by
     apply bfalse; intro x; simp only [Bool.and_eq_true, decide_eq_true_eq] at x; exact hb.1 h1 x
    rw [if_pos h1, this]; rfl
   ·have hx : 1 ≤ C[i].length ∧ C[i].length ≤ 3 := Decidable.byContradiction fun x => h1 (hb.2 x)
    have hy : (decide (1 ≤ C[i].length) && decide (C[i].length ≤ 3)) = true := by simp only [Bool.and_eq_true, decide_eq_true_eq]; exact hx
    rw [if_neg h1, hy]
    have := isCh_l1 (P := P) (B := B) hB (C := C) (L := C) (X := C[i]) hC hx.2 hmi (n := (C.length : Int)) (i := i) (clsOk P B C (i + 1) (C.drop (i + 1))) ((d + 1) * (B.length + 100)) (by
     intro k' hk'
     rw [w64s i (by omega)]
     exact ih (i + 1) k' (by omega) hk') C[i].length 0 k (by omega) (by omega)
    simpa using this
  by_cases h1 : ((C[i]).length : Int) < 1
  ·rw [if_pos h1]; exact go true ⟨fun _ => by omega, fun _ => rfl⟩
  ·rw [if_neg h1]; exact go _ (by rw [decide_eq_true_iff]; omega)
def cLen (C : List (List S37)) : Prop := ∀ L ∈ C, ∀ v ∈ L, v.f0.length < 1152921504606846976
theorem isCh_f (P : Int) (B : List Int) (C : List (List S37)) (hB : B.length < 1152921504606846976) (hC : C.length < 1152921504606846976) (hm : cLen C) {k : Nat} (hk : 4 * (B.length + 100) + 1 < k) : impl_isCharter.f k P B C = some (chOk P B C) := by
 obtain ⟨k, rfl, hk'⟩ := fuel hk
 unfold impl_isCharter.f chOk
 rw [isHouse_f P B (by omega) (by omega), bnd rfl]
 by_cases h : hOk P B = true
 ·rw [if_pos h, h]
  by_cases h1 : (C.length : Int) < 1
  ·rw [if_pos h1, impl_isCharter.j0, if_pos rfl, decide_eq_false (by omega : ¬ 1 ≤ C.length)]; rfl
  ·rw [if_neg h1, impl_isCharter.j0, decide_eq_true (by omega : 1 ≤ C.length)]
   by_cases h2 : (C.length : Int) > 3
   ·rw [if_pos (decide_eq_true h2), decide_eq_false (by omega : ¬ C.length ≤ 3)]; rfl
   ·rw [if_neg (by simpa using h2), decide_eq_true (by omega : C.length ≤ 3)]
    have hmul : (C.length + 1) * (B.length + 100) ≤ 4 * (B.length + 100) := Nat.mul_le_mul_right _ (by omega)
    have := isCh_l0 (P := P) hB (by omega) hm C.length 0 k (by omega) (by omega)
    simpa using this
 ·rw [if_neg h, bfalse h, impl_isCharter.j0, if_pos rfl]; rfl
theorem chOk_h {P : Int} {B : List Int} {C : List (List S37)} (h : chOk P B C = true) : hOk P B = true ∧ 1 ≤ C.length ∧ C.length ≤ 3 := by
 simp only [chOk, Bool.and_eq_true, decide_eq_true_eq] at h; exact ⟨h.1, h.2.1⟩
theorem clsOk_at {P : Int} {B : List Int} {C : List (List S37)} : ∀ (X : List (List S37)) (i j : Nat) (hj : j < X.length), clsOk P B C i X = true → clOk P B C (i + j) X[j] = true
 | L :: r, i, 0, _, h => by simp only [clsOk, Bool.and_eq_true] at h; exact h.1
 | L :: r, i, j + 1, hj, h => by
  simp only [clsOk, Bool.and_eq_true] at h
  have := clsOk_at r (i + 1) j (by simpa using hj) h.2
  rw [show i + (j + 1) = i + 1 + j from by omega]; exact this
theorem chOk_cl {P : Int} {B : List Int} {C : List (List S37)} (h : chOk P B C = true) {i : Nat} (hi : i < C.length) : 1 ≤ C[i].length ∧ C[i].length ≤ 3 ∧ ∀ v ∈ C[i], vOk P B C i v = true := by
 simp only [chOk, Bool.and_eq_true] at h
 have := clsOk_at C 0 i hi h.2.2
 simp only [clOk, Bool.and_eq_true, decide_eq_true_eq, List.all_eq_true, Nat.zero_add] at this
 exact ⟨this.1.1, this.1.2, this.2⟩
def stIn (C : List (List S37)) (s : List Int) : Nat → List Int → Bool
 | _, [] => true
 | i, x :: r => (decide (0 ≤ x) && decide (x < ((rd_L5 C (i : Int)).length : Int))) && stIn C s (i + 1) r
def stOk (P : Int) (B : List Int) (C : List (List S37)) (s : List Int) : Bool := chOk P B C && (decide (s.length = C.length) && stIn C s 0 s)
theorem isSt_l0 {P : Int} {B : List Int} {C : List (List S37)} (hC : C.length ≤ 3) (hX : ∀ L ∈ C, L.length ≤ 3) {s : List Int} (hs : s.length = C.length) : ∀ (d i k : Nat), i + d = s.length → d < k →
  impl_isState.l0 k s (s.length : Int) (i : Int) P B C = some (stIn C s i (s.drop i)) := by
 intro d
 induction d with
 | zero =>
  intro i k hi hk
  obtain ⟨k, rfl, _⟩ := fuel hk
  rw [impl_isState.l0, if_neg (by omega), List.drop_eq_nil_of_le (by omega)]; rfl
 | succ d ih =>
  intro i k hi hk
  obtain ⟨k, rfl, hk1⟩ := fuel hk
  have hlt : i < s.length := by omega
  rw [impl_isState.l0, if_pos (by omega), if_pos (by omega), if_pos (by omega), rd_lt hlt, List.drop_eq_getElem_cons hlt]
  simp only [stIn]
  by_cases h1 : s[i] < 0
  ·rw [if_pos h1, decide_eq_false (by omega : ¬ 0 ≤ s[i])]; rfl
  ·rw [if_neg h1, if_pos (by omega), decide_eq_true (by omega : 0 ≤ s[i])]
   by_cases h2 : s[i] ≥ ((rd_L5 C (i : Int)).length : Int)
   ·rw [if_pos h2, decide_eq_false (by omega)]; rfl
   ·rw [if_neg h2, decide_eq_true (by omega), w64s i (by omega), ih (i + 1) k (by omega) (by omega)]; rfl
theorem isSt_f (P : Int) (B : List Int) (C : List (List S37)) (s : List Int) (hB : B.length < 1152921504606846976) (hC : C.length < 1152921504606846976) (hm : cLen C) {k : Nat} (hk : 4 * (B.length + 100) + 1 < k) : impl_isState.f k P B C s = some (stOk P B C s) := by
 unfold impl_isState.f stOk
 rw [isCh_f P B C hB hC hm hk, bnd rfl]
 obtain ⟨k, rfl, hk'⟩ := fuel hk
 by_cases h : chOk P B C = true
 ·have hh := chOk_h h
  rw [if_pos h, h, impl_isState.j0]
  by_cases h1 : s.length = C.length
  ·rw [if_neg (by simp [h1]), decide_eq_true h1]
   have := isSt_l0 (P := P) (B := B) (C := C) hh.2.2 (fun L hL => by
    obtain ⟨i, hi, rfl⟩ := List.getElem_of_mem hL
    exact (chOk_cl h hi).2.1) h1 s.length 0 k (by omega) (by omega)
   simpa using this
  ·rw [if_pos (by simp; omega), decide_eq_false h1]; rfl
 ·rw [if_neg h, bfalse h, impl_isState.j0, if_pos rfl]; rfl
theorem stIn_at {C : List (List S37)} {s : List Int} : ∀ (X : List Int) (i j : Nat) (hj : j < X.length), stIn C s i X = true → 0 ≤ X[j] ∧ X[j] < ((rd_L5 C ((i + j : Nat) : Int)).length : Int)
 | x :: r, i, 0, _, h => by simp only [stIn, Bool.and_eq_true, decide_eq_true_eq] at h; exact h.1
 | x :: r, i, j + 1, hj, h => by
  simp only [stIn, Bool.and_eq_true] at h
  have := stIn_at r (i + 1) j (by simpa using hj) h.2
  rw [show i + (j + 1) = i + 1 + j from by omega]; exact this
theorem stOk_at {P : Int} {B : List Int} {C : List (List S37)} {s : List Int} (h : stOk P B C s = true) : chOk P B C = true ∧ s.length = C.length ∧ ∀ i (hi : i < C.length) (hs : i < s.length), 0 ≤ s[i] ∧ s[i] < (C[i].length : Int) := by
 simp only [stOk, Bool.and_eq_true, decide_eq_true_eq] at h
 refine ⟨h.1, h.2.1, fun i hi hs => ?_⟩
 have := stIn_at s 0 i hs h.2.2
 rw [Nat.zero_add, rdC hi] at this
 exact this

theorem in_f (a lo hi : Int) : spec_l1In.f a lo hi = some (decide (lo ≤ a) && decide (a ≤ hi)) := by
 unfold spec_l1In.f
 by_cases h : a ≥ lo
 ·rw [if_pos h, decide_eq_true (show lo ≤ a from h)]; rfl
 ·rw [if_neg h, decide_eq_false (show ¬ lo ≤ a from h)]; rfl
def hLen (C : List (List S37)) : Prop := ∀ L ∈ C, L.length ≤ 1048576 ∧ ∀ x ∈ L, x.f0.length ≤ 1048576
theorem rdCl {C : List (List S37)} {a : Int} (h0 : 0 ≤ a) (h1 : a < (C.length : Int)) : rd_L5 C a ∈ C := by
 obtain ⟨i, rfl⟩ := Int.eq_ofNat_of_zero_le h0
 rw [rdC (by omega)]; exact List.getElem_mem _
theorem sCh_l1 {P : Int} {B : List Int} (hB : B.length ≤ 1048576) (hw : ∀ b ∈ B, b < 9223372036854775808) {C : List (List S37)} (hC : C.length ≤ 1048576) (hm : hLen C) {i : Nat} (hi : i < C.length) (R : Bool) (b : Nat) (hb : 4000000 ≤ b)
  (hR : ∀ k, b < k → spec_CharterOk.l0 k (wrap64 ((i : Int) + 1)) P B C = some R) : ∀ (d j k : Nat), j + d = C[i].length → b + 2 + 2 * d < k →
  spec_CharterOk.l1 k (i : Int) (j : Int) P B C = some ((C[i].drop j).all (vOk P B C i) && R) := by
 have hmi := hm C[i] (List.getElem_mem hi)
 intro d
 induction d with
 | zero =>
  intro j k hj hk
  obtain ⟨k, rfl, _⟩ := fuel hk
  rw [spec_CharterOk.l1, if_pos (by omega), if_pos (by omega), rdC hi, if_neg (by omega), hR k (by omega), List.drop_eq_nil_of_le (by omega)]; rfl
 | succ d ih =>
  intro j k hj hk
  obtain ⟨k, rfl, hk1⟩ := fuel hk
  obtain ⟨k, rfl, hk2⟩ := fuel (show b + 2 + 2 * d + 1 < k by omega)
  have hlt : j < C[i].length := by omega
  have ih' := ih (j + 1) k (by omega) (by omega)
  have hv := hmi.2 C[i][j] (List.getElem_mem hlt)
  rw [spec_CharterOk.l1, if_pos (by omega), if_pos (by omega), rdC hi, if_pos (by omega), if_pos (by omega), rdV hlt, List.drop_eq_getElem_cons hlt, List.all_cons]
  generalize C[i][j] = v at *
  have key : ∀ x : Bool, (x = true ↔ v.f1 = -1 ∧ v.f2 = 0) → spec_CharterOk.j2 (k + 1) (i : Int) (j : Int) x P B C v.f0 v.f1 v.f2 = some (vOk P B C i v && (C[i].drop (j + 1)).all (vOk P B C i) && R) := by
   intro x hx
   rw [spec_CharterOk.j2, sTerm_f P B v.f0 (by omega) hw (by omega) (by omega), bnd rfl, w64s j (by omega), ih']
   by_cases ht : tmOk P B v.f0 = true
   ·rw [if_pos ht]
    have e : vOk P B C i v = ifOk C i v := by unfold vOk; rw [ht]; rfl
    rw [e]
    unfold ifOk
    by_cases h1 : x = true
    ·rw [if_pos h1]
     have := hx.1 h1
     simp [this]
    ·rw [if_neg h1]
     have hz : (decide (v.f1 = -1) && decide (v.f2 = 0)) = false := by
      apply bfalse; intro y; apply h1
      simp only [Bool.and_eq_true, decide_eq_true_eq] at y; exact hx.2 y
     rw [hz, Bool.false_or]
     by_cases a3 : v.f1 = (i : Int)
     ·rw [if_pos a3, decide_eq_true a3]; simp
     ·rw [if_neg a3, decide_eq_false a3, in_f, bnd rfl, w64 (by omega) (by omega)]
      by_cases a1 : 0 ≤ v.f1
      ·rw [decide_eq_true a1]
       by_cases a2 : v.f1 < (C.length : Int)
       ·have hq := hm _ (rdCl a1 a2)
        rw [decide_eq_true a2, decide_eq_true (by omega : v.f1 ≤ (C.length : Int) - 1), if_pos (show (true && true) = true from rfl), if_pos a1, if_pos a2, in_f, bnd rfl, w64 (by omega) (by omega)]
        by_cases a4 : 0 ≤ v.f2
        ·by_cases a5 : v.f2 < ((rd_L5 C v.f1).length : Int)
         ·rw [decide_eq_true a4, decide_eq_true a5, decide_eq_true (by omega)]; simp
         ·rw [decide_eq_true a4, decide_eq_false a5, decide_eq_false (by omega)]; simp
        ·rw [decide_eq_false a4]; simp
       ·rw [decide_eq_false a2, decide_eq_false (by omega : ¬ v.f1 ≤ (C.length : Int) - 1)]; simp
      ·rw [decide_eq_false a1]; simp
   ·rw [if_neg ht]
    have e : vOk P B C i v = false := by unfold vOk; rw [bfalse ht]; rfl
    rw [e]; rfl
  by_cases h1 : v.f1 = -1
  ·rw [if_pos h1]; exact key _ (by simp [h1])
  ·rw [if_neg h1]; exact key _ (by simp [h1])
theorem sCh_l0 {P : Int} {B : List Int} (hB : B.length ≤ 1048576) (hw : ∀ b ∈ B, b < 9223372036854775808) {C : List (List S37)} (hC : C.length ≤ 1048576) (hm : hLen C) : ∀ (d i k : Nat), i + d = C.length → 10 * d + 4000000 < k →
  spec_CharterOk.l0 k (i : Int) P B C = some (clsOk P B C i (C.drop i) && (hOk P B && (decide (1 ≤ C.length) && decide (C.length ≤ 3)))) := by
 intro d
 induction d with
 | zero =>
  intro i k hi hk
  obtain ⟨k, rfl, _⟩ := fuel hk
  rw [spec_CharterOk.l0, if_neg (by omega), List.drop_eq_nil_of_le (by omega), sHouse_f P B (by omega) (by omega), bnd rfl, in_f]
  by_cases h : hOk P B = true
  ·rw [if_pos h, bnd rfl, h]
   by_cases h1 : 1 ≤ C.length
   ·by_cases h2 : C.length ≤ 3
    ·rw [decide_eq_true h1, decide_eq_true h2, decide_eq_true (by omega), decide_eq_true (by omega)]; rfl
    ·rw [decide_eq_false h2, decide_eq_false (by omega : ¬ (C.length : Int) ≤ 3)]; simp [clsOk]
   ·rw [decide_eq_false h1, decide_eq_false (by omega : ¬ (1 : Int) ≤ (C.length : Int))]; rfl
  ·rw [if_neg h, bfalse h]; simp
 | succ d ih =>
  intro i k hi hk
  obtain ⟨k, rfl, hk1⟩ := fuel hk
  have hlt : i < C.length := by omega
  rw [spec_CharterOk.l0, if_pos (by omega), if_pos (by omega), rdC hlt, List.drop_eq_getElem_cons hlt, in_f, bnd rfl]
  simp only [clsOk, clOk]
  by_cases h1 : 1 ≤ C[i].length
  ·by_cases h2 : C[i].length ≤ 3
   ·rw [decide_eq_true h1, decide_eq_true h2, decide_eq_true (by omega), decide_eq_true (by omega), if_pos (show (true && true) = true from rfl)]
    have := sCh_l1 (P := P) hB hw hC hm hlt _ (10 * d + 4000000) (by omega) (fun k' hk' => by
     rw [w64s i (by omega)]
     exact ih (i + 1) k' (by omega) hk') C[i].length 0 k (by omega) (by omega)
    simpa [Bool.and_assoc] using this
   ·rw [decide_eq_false h2, decide_eq_false (by omega : ¬ (C[i].length : Int) ≤ 3)]; simp
  ·rw [decide_eq_false h1, decide_eq_false (by omega : ¬ (1 : Int) ≤ (C[i].length : Int))]; simp
theorem sCh_f (P : Int) (B : List Int) (C : List (List S37)) (hB : B.length ≤ 1048576) (hw : ∀ b ∈ B, b < 9223372036854775808) (hC : C.length ≤ 1048576) (hm : hLen C) {k : Nat} (hk : 15000000 < k) : spec_CharterOk.f k P B C = some (chOk P B C) := by
 unfold spec_CharterOk.f chOk
 have : spec_CharterOk.l0 k 0 P B C = _ := sCh_l0 (P := P) hB hw hC hm C.length 0 k (by omega) (by omega)
 rw [this, List.drop_zero]
 congr 1
 rw [Bool.and_comm, Bool.and_assoc]
theorem sSt_eq {P : Int} {B : List Int} (hB : B.length ≤ 1048576) (hw : ∀ b ∈ B, b < 9223372036854775808) {C : List (List S37)} (hC : C.length ≤ 1048576) (hm : hLen C) {s : List Int} (he : s.length = C.length) : ∀ (d i k : Nat), i + d = s.length → 2 * d + 15000002 < k →
  spec_StateOk.l0 k s (i : Int) P B C = some (stIn C s i (s.drop i) && chOk P B C) := by
 intro d
 induction d with
 | zero =>
  intro i k hi hk
  obtain ⟨k, rfl, hk1⟩ := fuel hk
  obtain ⟨k, rfl, hk2⟩ := fuel (show 15000001 < k by omega)
  rw [spec_StateOk.l0, if_neg (by omega), spec_StateOk.j1, if_neg (by simp), sCh_f P B C hB hw hC hm (by omega), bnd rfl, List.drop_eq_nil_of_le (by omega)]
  by_cases h : chOk P B C = true
  ·rw [if_pos h, h]; simp [stIn, he]
  ·rw [if_neg h, bfalse h]; simp
 | succ d ih =>
  intro i k hi hk
  obtain ⟨k, rfl, hk1⟩ := fuel hk
  obtain ⟨k, rfl, hk2⟩ := fuel (show 2 * d + 15000003 < k by omega)
  have hlt : i < s.length := by omega
  have hq := hm _ (rdCl (C := C) (a := (i : Int)) (by omega) (by omega))
  rw [spec_StateOk.l0, if_pos (by omega), decide_eq_true (by omega : (i : Int) < (C.length : Int)), spec_StateOk.j1, if_pos rfl, if_pos (by omega), if_pos (by omega), if_pos (by omega), rd_lt hlt, in_f, bnd rfl, w64 (by omega) (by omega), w64s i (by omega), ih (i + 1) k (by omega) (by omega), List.drop_eq_getElem_cons hlt]
  simp only [stIn]
  by_cases h1 : 0 ≤ s[i]
  ·by_cases h2 : s[i] < ((rd_L5 C (i : Int)).length : Int)
   ·rw [decide_eq_true h1, decide_eq_true h2, decide_eq_true (by omega)]; simp
   ·rw [decide_eq_true h1, decide_eq_false h2, decide_eq_false (by omega)]; simp
  ·rw [decide_eq_false h1]; simp
theorem sSt_ne {P : Int} {B : List Int} (hB : B.length ≤ 1048576) (hw : ∀ b ∈ B, b < 9223372036854775808) {C : List (List S37)} (hC : C.length ≤ 1048576) (hm : hLen C) {s : List Int} (hs : s.length ≤ 1048576) (he : s.length ≠ C.length) : ∀ (d i k : Nat), i + d = s.length → 2 * d + 15000002 < k →
  spec_StateOk.l0 k s (i : Int) P B C = some false := by
 have fin : ∀ (i k : Nat), 15000001 < k → spec_StateOk.j1 k s (i : Int) false P B C = some false := by
  intro i k hk
  obtain ⟨k, rfl, hk2⟩ := fuel hk
  rw [spec_StateOk.j1, if_neg (by simp), sCh_f P B C hB hw hC hm (by omega), bnd rfl]
  by_cases h : chOk P B C = true
  ·rw [if_pos h]; congr 1; rw [beq_eq_false_iff_ne]; omega
  ·rw [if_neg h]
 intro d
 induction d with
 | zero =>
  intro i k hi hk
  obtain ⟨k, rfl, hk1⟩ := fuel hk
  rw [spec_StateOk.l0, if_neg (by omega), fin i k (by omega)]
 | succ d ih =>
  intro i k hi hk
  obtain ⟨k, rfl, hk1⟩ := fuel hk
  have hlt : i < s.length := by omega
  rw [spec_StateOk.l0, if_pos (by omega)]
  by_cases hc : (i : Int) < (C.length : Int)
  ·obtain ⟨k, rfl, hk2⟩ := fuel (show 2 * d + 15000003 < k by omega)
   have hq := hm _ (rdCl (C := C) (a := (i : Int)) (by omega) (by omega))
   rw [decide_eq_true hc, spec_StateOk.j1, if_pos rfl, if_pos (by omega), if_pos (by omega), if_pos (by omega), rd_lt hlt, in_f, bnd rfl, w64s i (by omega), ih (i + 1) k (by omega) (by omega)]
   by_cases h : (decide (0 ≤ s[i]) && decide (s[i] ≤ wrap64 (((rd_L5 C (i : Int)).length : Int) - 1))) = true
   ·rw [if_pos h]
   ·rw [if_neg h]
  ·rw [decide_eq_false hc, fin i k (by omega)]
theorem sSt_f (P : Int) (B : List Int) (C : List (List S37)) (s : List Int) (hB : B.length ≤ 1048576) (hw : ∀ b ∈ B, b < 9223372036854775808) (hC : C.length ≤ 1048576) (hm : hLen C) (hs : s.length ≤ 1048576) {k : Nat} (hk : 20000000 < k) : spec_StateOk.f k P B C s = some (stOk P B C s) := by
 unfold spec_StateOk.f stOk
 by_cases h : s.length = C.length
 ·have : spec_StateOk.l0 k s 0 P B C = _ := sSt_eq (P := P) hB hw hC hm h s.length 0 k (by omega) (by omega)
  rw [this, List.drop_zero, decide_eq_true h, Bool.true_and, Bool.and_comm]
 ·have : spec_StateOk.l0 k s 0 P B C = _ := sSt_ne (P := P) hB hw hC hm hs h s.length 0 k (by omega) (by omega)
  rw [this, decide_eq_false h]; simp

theorem may_same {P : Int} {B : List Int} {C : List (List S37)} {s : List Int} (h : stOk P B C s = true) {i : Nat} (hi : i < C.length) {v : Int} (hv0 : 0 ≤ v) (hv : v < (C[i].length : Int)) {c : Nat} (hc : c < 64) {k : Nat} (hk : 60 < k) :
  ∃ r, impl_mayChange.f k P B C s (i : Int) v (c : Int) = some r ∧ spec_l8May.f k P B C s (i : Int) v (c : Int) = some r := by
 obtain ⟨hch, hl, hs⟩ := stOk_at h
 have hsl : i < s.length := by omega
 have hsi := hs i hi hsl
 obtain ⟨q1, q2, q3⟩ := chOk_cl hch hi
 unfold impl_mayChange.f spec_l8May.f
 rw [rdC hi, rd_lt hsl]
 generalize s[i] = x at *
 obtain ⟨m, rfl⟩ := Int.eq_ofNat_of_zero_le hsi.1
 have hml : m < C[i].length := by omega
 rw [rdV hml]
 have hvo := q3 C[i][m] (List.getElem_mem hml)
 generalize C[i][m] = V at *
 have g1 : ¬ ((i : Int) < 0) := by omega
 have g2 : ¬ ((i : Int) ≥ (s.length : Int)) := by omega
 have g3 : ¬ (v < 0) := by omega
 have g4 : (0 : Int) ≤ (i : Int) := by omega
 have g5 : (i : Int) < (C.length : Int) := by omega
 have g6 : ¬ (v ≥ (C[i].length : Int)) := by omega
 have g7 : (i : Int) < (s.length : Int) := by omega
 have g8 : (0 : Int) ≤ (m : Int) := by omega
 have g9 : (m : Int) < (C[i].length : Int) := by omega
 rw [if_neg g1, if_neg g2, if_neg g3, if_pos g4, if_pos g5, if_neg g6, if_pos g7, if_pos g4, if_pos g5, if_pos g7, if_pos g8, if_pos g9]
 by_cases e : v = (m : Int)
 ·rw [if_pos e, if_pos e, if_pos g8, if_pos g9]; exact ⟨false, rfl, rfl⟩
 ·rw [if_neg e, if_neg e, if_pos g8, if_pos g9]
  simp only [vOk, Bool.and_eq_true] at hvo
  obtain ⟨hh, ht9, T, hT, hf⟩ := tm_tree hvo.1
  rw [hf] at ht9 ⊢
  rw [consents_f hh hT ht9 hc (by omega), bnd rfl, says_T hh hc T hT (by omega) k (by omega), bnd rfl]
  by_cases hb : val B c T = true
  ·rw [if_pos hb]
   by_cases h1 : V.f1 = -1
   ·rw [if_pos h1]; exact ⟨true, rfl, rfl⟩
   ·have hif := hvo.2
    simp only [ifOk, Bool.or_eq_true, Bool.and_eq_true, decide_eq_true_eq] at hif
    rcases hif with hif | hif
    ·exact absurd hif.1 h1
    ·rw [if_neg h1, if_pos hif.1, if_pos (by omega)]; exact ⟨_, rfl, rfl⟩
  ·rw [if_neg hb]; exact ⟨false, rfl, rfl⟩
theorem stIn_of {C : List (List S37)} {s : List Int} : ∀ (X : List Int) (i : Nat), (∀ j (hj : j < X.length), 0 ≤ X[j] ∧ X[j] < ((rd_L5 C ((i + j : Nat) : Int)).length : Int)) → stIn C s i X = true
 | [], _, _ => rfl
 | x :: r, i, h => by
  simp only [stIn, Bool.and_eq_true, decide_eq_true_eq]
  refine ⟨by have := h 0 (by simp); exact this, stIn_of r (i + 1) (fun j hj => ?_)⟩
  have := h (j + 1) (by simpa using hj)
  rw [show i + 1 + j = i + (j + 1) from by omega]; simpa using this
theorem stOk_of {P : Int} {B : List Int} {C : List (List S37)} {s : List Int} (h : chOk P B C = true) (hl : s.length = C.length) (hs : ∀ i (hi : i < C.length) (hs : i < s.length), 0 ≤ s[i] ∧ s[i] < (C[i].length : Int)) : stOk P B C s = true := by
 simp only [stOk, Bool.and_eq_true, decide_eq_true_eq]
 refine ⟨h, hl, stIn_of s 0 (fun j hj => ?_)⟩
 rw [Nat.zero_add, rdC (by omega)]; exact hs j (by omega) hj
theorem stOk_set {P : Int} {B : List Int} {C : List (List S37)} {s : List Int} (h : stOk P B C s = true) {i : Nat} (hi : i < C.length) {v : Int} (h0 : 0 ≤ v) (h1 : v < (C[i].length : Int)) : stOk P B C (s.set i v) = true := by
 obtain ⟨hc, hl, hs⟩ := stOk_at h
 refine stOk_of hc (by simpa using hl) (fun j hj hjs => ?_)
 rw [List.getElem_set]
 split
 ·rename_i e; subst e; exact ⟨h0, h1⟩
 ·exact hs j hj (by omega)
def Dr {α : Type} (x : Option α) (P : α → Prop) : Prop := ∃ r, x = some r ∧ P r
theorem Dr.some {α : Type} {a : α} {P : α → Prop} (h : P a) : Dr (Option.some a) P := ⟨a, rfl, h⟩
theorem Dr.bind {α β : Type} {x : Option α} {P : α → Prop} {f : α → Option β} {Q : β → Prop} (h : Dr x P) (hf : ∀ a, P a → Dr (f a) Q) : Dr (x.bind f) Q := by
 obtain ⟨a, rfl, ha⟩ := h
 exact hf a ha
theorem Dr.mono {α : Type} {x : Option α} {P Q : α → Prop} (h : Dr x P) (hpq : ∀ a, P a → Q a) : Dr x Q := by
 obtain ⟨a, e, ha⟩ := h
 exact ⟨a, e, hpq a ha⟩
theorem Dr.bnd {α β : Type} {a : α} {f : α → Option β} {Q : β → Prop} (h : Dr (f a) Q) : Dr ((Option.some a).bind f) Q := h
theorem Dr.ite {α : Type} {c : Prop} [Decidable c] {x y : Option α} {P : α → Prop} (h1 : c → Dr x P) (h2 : ¬ c → Dr y P) : Dr (if c then x else y) P := by
 by_cases h : c
 ·rw [if_pos h]; exact h1 h
 ·rw [if_neg h]; exact h2 h
theorem Dr.pos {α : Type} {c : Prop} [Decidable c] {x y : Option α} {P : α → Prop} (h : c) (h1 : Dr x P) : Dr (if c then x else y) P := by rw [if_pos h]; exact h1
theorem pick_d {b : List Int} (hb : okB b) {p : Int} (hp0 : 0 ≤ p) (hp : p < 1000000) (n : Int) {k : Nat} (hk : 0 < k) :
  Dr (spec_l20Rd_pick.f k b p n) (fun r => r.2 = p + 1 ∧ 0 ≤ r.1 ∧ (r.1 < n ∨ r.1 = 0)) := by
 obtain ⟨v, e, h1, h2⟩ := pick_f hb hp0 (by omega) n hk
 exact ⟨_, e, rfl, h1, h2⟩
theorem odd_d {b : List Int} (hb : okB b) {p : Int} (hp0 : 0 ≤ p) (hp : p < 1000000) (n : Int) {k : Nat} (hk : 0 < k) :
  Dr (spec_l20Rd_odd.f k b p n) (fun r => p ≤ r.2 ∧ r.2 ≤ p + 1 ∧ (n ≤ 0 → r.1 = false)) := by
 unfold spec_l20Rd_odd.f
 refine Dr.ite (fun h => ?_) (fun h => ?_)
 ·exact Dr.bind (pick_d hb hp0 hp n hk) (fun r ⟨h1, _, _⟩ => Dr.some ⟨by omega, by omega, fun hn => by omega⟩)
 ·exact Dr.some ⟨by dsimp only; omega, by dsimp only; omega, fun _ => rfl⟩
def bOk (m : Nat) (B : List Int) : Prop := B.length ≤ m ∧ ∀ x ∈ B, 0 ≤ x ∧ x < 64
theorem bOk_app {m : Nat} {B : List Int} (h : bOk m B) {v : Int} (h0 : 0 ≤ v) (h1 : v < 64) : bOk (m + 1) (B ++ [v]) := by
 refine ⟨by have := h.1; simp; omega, fun x hx => ?_⟩
 rcases List.mem_append.1 hx with hx | hx
 ·exact h.2 x hx
 ·rw [List.mem_singleton.1 hx]; exact ⟨h0, h1⟩
theorem bOk_mono {m m' : Nat} {B : List Int} (h : bOk m B) (hm : m ≤ m') : bOk m' B := ⟨Nat.le_trans h.1 hm, h.2⟩
theorem house_l {b : List Int} (hb : okB b) (n : Int) {P : Nat} (hP1 : 1 ≤ P) (hP : P ≤ 6) : ∀ (d k m : Nat) (B : List Int) (p : Int), d + 3 < k → 0 ≤ p → p + d + 10 < 1000000 → bOk m B → m + d ≤ 3 →
  Dr (spec_l20House.l0 k n (d : Int) b p (P : Int) B) (fun r => 0 ≤ r.1 ∧ r.1 ≤ 7 ∧ bOk 4 r.2.1 ∧ p ≤ r.2.2 ∧ r.2.2 ≤ p + d + 5 ∧ (n ≤ 0 → r.1 = (P : Int) ∧ bOk 3 r.2.1 ∧ (1 ≤ B.length + d → 1 ≤ r.2.1.length))) := by
 intro d
 induction d with
 | zero =>
  intro k m B p hk hp0 hp hB hm
  obtain ⟨k, rfl, _⟩ := fuel hk
  rw [spec_l20House.l0, if_neg (by omega)]
  refine Dr.bind (odd_d hb hp0 (by omega) n (by omega)) (fun r ⟨h1, h2, h3⟩ => ?_)
  refine Dr.ite (fun h => ?_) (fun h => ?_)
  ·refine Dr.bind (pick_d hb (by omega) (by omega) 3 (by omega)) (fun u ⟨g1, g2, g3⟩ => ?_)
   have hn : ¬ n ≤ 0 := fun hn => by rw [h3 hn] at h; exact absurd h (by simp)
   refine Dr.ite (fun h => ?_) (fun h => Dr.ite (fun h => ?_) (fun h => ?_))
   ·refine Dr.bnd (Dr.bind (pick_d hb (by omega) (by omega) 2 (by omega)) (fun v ⟨f1, f2, f3⟩ => ?_))
    refine Dr.pos f2 (Dr.pos (by simp; omega) (Dr.some ?_))
    have hv : v.1 = 0 ∨ v.1 = 1 := by omega
    refine ⟨?_, ?_, bOk_mono hB (by omega), by dsimp only; omega, by dsimp only; omega, fun h => absurd h hn⟩
    ·rcases hv with e | e <;> rw [e] <;> simp [rd]
    ·rcases hv with e | e <;> rw [e] <;> simp [rd]
   ·refine Dr.pos (by have := hB.1; omega) (Dr.some ?_)
    exact ⟨by dsimp only; omega, by dsimp only; omega, bOk_mono (bOk_app hB (by omega) (by omega)) (by omega), by dsimp only; omega, by dsimp only; omega, fun h => absurd h hn⟩
   ·exact Dr.some ⟨by dsimp only; omega, by dsimp only; omega, ⟨by simp, by simp⟩, by dsimp only; omega, by dsimp only; omega, fun h => absurd h hn⟩
  ·exact Dr.some ⟨by dsimp only; omega, by dsimp only; omega, bOk_mono hB (by omega), by dsimp only; omega, by dsimp only; omega, fun _ => ⟨rfl, bOk_mono hB (by omega), fun h => by simpa using h⟩⟩
 | succ d ih =>
  intro k m B p hk hp0 hp hB hm
  obtain ⟨k, rfl, _⟩ := fuel hk
  have hP2 : 2 ^ P ≤ 64 := pow6 hP
  have hpp : 1 ≤ 2 ^ P := Nat.one_le_two_pow
  rw [spec_l20House.l0, if_pos (by omega), if_pos (by omega), shl_one (by omega)]
  generalize 2 ^ P = T at hP2 hpp ⊢
  refine Dr.bind (pick_d hb hp0 (by omega) _ (by omega)) (fun r ⟨h1, h2, h3⟩ => ?_)
  rw [w64 (x := (T : Int) - 1) (by omega) (by omega)] at h3
  refine Dr.pos (by have := hB.1; omega) ?_
  rw [w64 (x := ((d + 1 : Nat) : Int) - 1) (by omega) (by omega), w64 (x := 1 + r.1) (by omega) (by omega), show ((d + 1 : Nat) : Int) - 1 = (d : Int) from by omega, h1]
  refine (ih k (m + 1) (B ++ [1 + r.1]) (p + 1) (by omega) (by omega) (by omega) (bOk_app hB (by omega) (by omega)) (by omega)).mono (fun u ⟨a1, a2, a3, a4, a5, a6⟩ => ⟨a1, a2, a3, by omega, by omega, fun hn => ⟨(a6 hn).1, (a6 hn).2.1, fun _ => (a6 hn).2.2 (by rw [List.length_append]; simp; omega)⟩⟩)
theorem house_d {b : List Int} (hb : okB b) (n : Int) {p : Int} (hp0 : 0 ≤ p) (hp : p < 900000) {k : Nat} (hk : 10 ≤ k) :
  Dr (spec_l20House.f k b p n) (fun r => 0 ≤ r.1 ∧ r.1 ≤ 7 ∧ bOk 4 r.2.1 ∧ p ≤ r.2.2 ∧ r.2.2 ≤ p + 20 ∧ (n ≤ 0 → 1 ≤ r.1 ∧ r.1 ≤ 6 ∧ bOk 3 r.2.1 ∧ 1 ≤ r.2.1.length)) := by
 unfold spec_l20House.f
 refine Dr.bind (pick_d hb hp0 (by omega) 5 (by omega)) (fun r ⟨h1, h2, h3⟩ => ?_)
 refine Dr.bind (pick_d hb (by omega) (by omega) 9 (by omega)) (fun s ⟨f1, f2, f3⟩ => ?_)
 refine Dr.bind (pick_d hb (by omega) (by omega) 3 (by omega)) (fun t ⟨g1, g2, g3⟩ => ?_)
 have hs : Int.tdiv s.1 8 = 0 ∨ Int.tdiv s.1 8 = 1 := by
  rw [Int.tdiv_eq_ediv_of_nonneg f2]; omega
 rw [w64 (x := 1 + r.1) (by omega) (by omega), w64 (x := Int.tdiv s.1 8) (by omega) (by omega), w64 (x := 1 + t.1) (by omega) (by omega), w64 (by omega) (by omega)]
 obtain ⟨P, eP⟩ := Int.eq_ofNat_of_zero_le (show 0 ≤ 1 + r.1 + Int.tdiv s.1 8 by omega)
 obtain ⟨d, ed⟩ := Int.eq_ofNat_of_zero_le (show 0 ≤ 1 + t.1 by omega)
 rw [eP, ed]
 refine (house_l hb n (P := P) (by omega) (by omega) d k 0 [] t.2 (by omega) (by omega) (by omega) ⟨by simp, by simp⟩ (by omega)).mono (fun u ⟨a1, a2, a3, a4, a5, a6⟩ => ⟨a1, a2, a3, by omega, by omega, fun hn => ⟨by have := (a6 hn).1; omega, by have := (a6 hn).1; omega, (a6 hn).2.1, (a6 hn).2.2 (by simp; omega)⟩⟩)
theorem heads_d {a : Int} (h0 : 0 ≤ a) (h1 : a < 64) {k : Nat} (hk : 100 < k) : Dr (spec_l1Heads.f k a) (fun r => 0 ≤ r ∧ r ≤ 6) := by
 obtain ⟨c, rfl⟩ := Int.eq_ofNat_of_zero_le h0
 exact ⟨_, l1Heads_f (by omega) (by omega), by omega, by have : hd c ≤ 6 := ctN_le _ _; omega⟩
theorem atom_d {b : List Int} (hb : okB b) (P : Int) {B : List Int} (hB : bOk 4 B) {p : Int} (hp0 : 0 ≤ p) (hp : p < 900000) {k : Nat} (hk : 120 ≤ k) :
  Dr (spec_l20Atom.f k b p P B) (fun r => r.1.length ≤ 3 ∧ p ≤ r.2 ∧ r.2 ≤ p + 10) := by
 unfold spec_l20Atom.f
 refine Dr.ite (fun h => Dr.some ⟨by simp, by simp, by dsimp only; omega⟩) (fun h => ?_)
 refine Dr.bind (pick_d hb hp0 (by omega) _ (by omega)) (fun r ⟨h1, h2, h3⟩ => ?_)
 have hr : r.1 < (B.length : Int) := by omega
 refine Dr.pos h2 (Dr.pos hr ?_)
 have hx := hB.2 _ (rd_mem h2 hr)
 have hmx : mx (rd B r.1) 0 = rd B r.1 := by unfold mx; split <;> omega
 rw [hmx]
 refine Dr.bind (heads_d hx.1 hx.2 (by omega)) (fun t ⟨t1, t2⟩ => ?_)
 refine Dr.bind (pick_d hb (by omega) (by omega) _ (by omega)) (fun s ⟨f1, f2, f3⟩ => ?_)
 refine Dr.bnd ?_
 refine Dr.bind (pick_d hb (by omega) (by omega) 5 (by omega)) (fun u ⟨g1, g2, g3⟩ => ?_)
 refine Dr.ite (fun h => ?_) (fun h => Dr.some ⟨by simp, by dsimp only; omega, by dsimp only; omega⟩)
 refine Dr.bind (pick_d hb (by omega) (by omega) _ (by omega)) (fun v ⟨q1, q2, q3⟩ => ?_)
 refine Dr.bind (pick_d hb (by omega) (by omega) 2 (by omega)) (fun z ⟨z1, z2, z3⟩ => ?_)
 exact Dr.bnd (Dr.pos (by simp) (Dr.some ⟨by simp, by dsimp only; omega, by dsimp only; omega⟩))

def rOk (X : List S37) : Prop := 1 ≤ X.length ∧ X.length ≤ 3 ∧ ∀ x ∈ X, x.f0.length ≤ 3
def cI (m : Nat) (C : List (List S37)) : Prop := C.length = m ∧ ∀ X ∈ C, rOk X
theorem cI_row {m : Nat} {C : List (List S37)} (h : cI m C) {a : Int} (h0 : 0 ≤ a) (h1 : a < (m : Int)) : rOk (rd_L5 C a) := h.2 _ (rdCl h0 (by rw [h.1]; exact h1))
theorem rOk_el {X : List S37} (h : rOk X) {j : Nat} (hj : j < X.length) : (rd_T37 X (j : Int)).f0.length ≤ 3 := by
 rw [rdV hj]; exact h.2.2 _ (List.getElem_mem _)
theorem rOk_set {X : List S37} (h : rOk X) {j : Nat} {v : S37} (hv : v.f0.length ≤ 3) : rOk (X.set j v) := by
 refine ⟨by rw [List.length_set]; exact h.1, by rw [List.length_set]; exact h.2.1, fun x hx => ?_⟩
 rcases List.mem_or_eq_of_mem_set hx with hx | rfl
 ·exact h.2.2 x hx
 ·exact hv
theorem cI_set {m : Nat} {C : List (List S37)} (h : cI m C) {i : Nat} {X : List S37} (hX : rOk X) : cI m (C.set i X) := by
 refine ⟨by rw [List.length_set]; exact h.1, fun x hx => ?_⟩
 rcases List.mem_or_eq_of_mem_set hx with hx | rfl
 ·exact h.2 x hx
 ·exact hX
theorem rd_setC {C : List (List S37)} {i : Nat} (h : i < C.length) (X : List S37) : rd_L5 (C.set i X) (i : Int) = X := by
 rw [rdC (by rw [List.length_set]; exact h), List.getElem_set_self]
theorem cI_app {m : Nat} {C : List (List S37)} (h : cI m C) {X : List S37} (hX : rOk X) : cI (m + 1) (C ++ [X]) := by
 refine ⟨by rw [List.length_append, h.1]; rfl, fun x hx => ?_⟩
 rcases List.mem_append.1 hx with hx | hx
 ·exact h.2 x hx
 ·rw [List.mem_singleton.1 hx]; exact hX
def cQ (P : Int) (B : List Int) (M : Int) (r : Int × List Int × List (List S37) × Int) : Prop :=
 r.1 = P ∧ r.2.1 = B ∧ (r.2.2.1.length ≤ 3 ∧ ∀ X ∈ r.2.2.1, X.length ≤ 3 ∧ ∀ x ∈ X, x.f0.length ≤ 3) ∧ 0 ≤ r.2.2.2 ∧ r.2.2.2 ≤ M
theorem cQ_of {P : Int} {B : List Int} {M p : Int} {m : Nat} {C : List (List S37)} (h : cI m C) (hm : m ≤ 3) (h0 : 0 ≤ p) (h1 : p ≤ M) : cQ P B M (P, B, C, p) :=
 ⟨rfl, rfl, ⟨by rw [h.1]; exact hm, fun X hX => (h.2 X hX).2⟩, h0, h1⟩
theorem charter_j {b : List Int} (hb : okB b) (n : Int) {m : Nat} (hm1 : 1 ≤ m) (hm : m ≤ 3) (i P : Int) (B : List Int) {M : Int} (hM : M < 900000) {C : List (List S37)} (hC : cI m C) {p : Int} (h0 : 0 ≤ p) (h1 : p + 5 ≤ M) {k : Nat} (hk : 2 ≤ k) :
  Dr (spec_l20Charter.j3 k n (m : Int) i false b p P B C) (cQ P B M) := by
 obtain ⟨k, rfl, _⟩ := fuel (show 1 < k by omega)
 rw [spec_l20Charter.j3, if_neg (by simp)]
 refine Dr.bind (odd_d hb h0 (by omega) n (by omega)) (fun r ⟨h1, h2, _⟩ => ?_)
 refine Dr.ite (fun h => ?_) (fun h => Dr.some (cQ_of hC hm (by omega) (by omega)))
 refine Dr.bind (pick_d hb (by omega) (by omega) 3 (by omega)) (fun u ⟨g1, g2, g3⟩ => ?_)
 have hr : rOk (rd_L5 C 0) := cI_row hC (by omega) (by omega)
 have hl : 0 < (rd_L5 C 0).length := hr.1
 have he : (rd_T37 (rd_L5 C 0) 0).f0.length ≤ 3 := rOk_el hr hl
 have hc := hC.1
 refine Dr.ite (fun h => ?_) (fun h => Dr.ite (fun h => ?_) (fun h => ?_))
 ·exact Dr.pos (by omega) (Dr.pos (by omega) (Dr.some (cQ_of (cI_set hC (rOk_set hr he)) hm (by omega) (by omega))))
 ·exact Dr.some ⟨rfl, rfl, ⟨by simp, by simp⟩, by dsimp only; omega, by dsimp only; omega⟩
 ·exact Dr.pos (by omega) (Dr.pos (by omega) (Dr.some (cQ_of (cI_set hC (rOk_set hr (by simp))) hm (by omega) (by omega))))
theorem charter_l3 {b : List Int} (hb : okB b) (n : Int) {m : Nat} (hm1 : 1 ≤ m) (hm : m ≤ 3) {i : Nat} (hi : i < m) (P : Int) (B : List Int) {M : Int} (hM : M < 900000) (K : Nat) (c : Int) (hc0 : 0 ≤ c)
  (HN : ∀ k p C, K < k → cI m C → 0 ≤ p → p + c ≤ M → Dr (spec_l20Charter.l2 k n (m : Int) ((i + 1 : Nat) : Int) b p P B C) (cQ P B M)) : ∀ (d j k : Nat) (p : Int) (C : List (List S37)), K + d + 1 < k → cI m C → (rd_L5 C (i : Int)).length = j + d → 0 ≤ p → p + 3 * d + c ≤ M →
  Dr (spec_l20Charter.l3 k n (m : Int) (i : Int) (j : Int) b p P B C) (cQ P B M) := by
 intro d
 induction d with
 | zero =>
  intro j k p C hk hC hl h0 h1
  obtain ⟨k, rfl, _⟩ := fuel hk
  have hc := hC.1
  rw [spec_l20Charter.l3, if_pos (by omega), if_pos (by omega), if_neg (by omega), w64s i (by omega)]
  exact HN k p C (by omega) hC h0 (by omega)
 | succ d ih =>
  intro j k p C hk hC hl h0 h1
  obtain ⟨k, rfl, _⟩ := fuel hk
  have hc := hC.1
  have hX := cI_row hC (a := (i : Int)) (by omega) (by omega)
  have hj : j < 3 := by have := hX.2.1; omega
  rw [spec_l20Charter.l3, if_pos (by omega), if_pos (by omega), if_pos (by omega)]
  refine Dr.bind (pick_d hb h0 (by omega) _ (by omega)) (fun r ⟨f1, f2, f3⟩ => ?_)
  rw [w64 (x := (m : Int) - 1) (by omega) (by omega)] at f3
  rw [if_neg (by omega)]
  refine Dr.bind (pick_d hb (by omega) (by omega) 3 (by omega)) (fun u ⟨g1, g2, g3⟩ => ?_)
  rw [w64s i (by omega), w64s j (by omega), w64 (x := ((i + 1 : Nat) : Int) + r.1) (by omega) (by omega)]
  refine Dr.ite (fun h => ?_) (fun h => ih (j + 1) k u.2 C (by omega) hC (by omega) (by omega) (by omega))
  have ho := tmod_in (a := ((i + 1 : Nat) : Int) + r.1) (n := (m : Int)) (by omega) (by omega)
  generalize Int.tmod (((i + 1 : Nat) : Int) + r.1) (m : Int) = o at ho ⊢
  have he := rOk_el hX (j := j) (by omega)
  generalize hXe : rd_L5 C (i : Int) = X at *
  refine Dr.pos (by omega) (Dr.bnd (Dr.pos ho.1 (Dr.pos (by omega) ?_)))
  rw [Int.toNat_natCast, Int.toNat_natCast]
  have hX1 : rOk (X.set j (⟨(rd_T37 X (j : Int)).f0, o, (rd_T37 X (j : Int)).f2⟩ : S37)) := rOk_set hX he
  have hYl : (X.set j (⟨(rd_T37 X (j : Int)).f0, o, (rd_T37 X (j : Int)).f2⟩ : S37)).length = X.length := List.length_set
  generalize (X.set j (⟨(rd_T37 X (j : Int)).f0, o, (rd_T37 X (j : Int)).f2⟩ : S37)) = Y at *
  refine Dr.bind (pick_d hb (by omega) (by omega) _ (by omega)) (fun v ⟨q1, q2, q3⟩ => ?_)
  rw [rd_setC (by omega) Y]
  refine Dr.pos (by omega) ?_
  have hZ : rOk (Y.set j (⟨(rd_T37 Y (j : Int)).f0, (rd_T37 Y (j : Int)).f1, v.1⟩ : S37)) := rOk_set hX1 (rOk_el hX1 (by omega))
  refine ih (j + 1) k v.2 _ (by omega) (cI_set (cI_set hC hX1) hZ) ?_ (by omega) (by omega)
  rw [rd_setC (by rw [List.length_set]; omega), List.length_set]; omega
theorem charter_l2 {b : List Int} (hb : okB b) (n : Int) {m : Nat} (hm1 : 1 ≤ m) (hm : m ≤ 3) (P : Int) (B : List Int) {M : Int} (hM : M < 900000) : ∀ (d i k : Nat) (p : Int) (C : List (List S37)), i + d = m → 10 * d + 20 < k → cI m C → 0 ≤ p → p + 10 * d + 5 ≤ M →
  Dr (spec_l20Charter.l2 k n (m : Int) (i : Int) b p P B C) (cQ P B M) := by
 intro d
 induction d with
 | zero =>
  intro i k p C hi hk hC h0 h1
  obtain ⟨k, rfl, _⟩ := fuel hk
  rw [spec_l20Charter.l2, if_neg (by omega)]
  exact charter_j hb n hm1 hm _ P B hM hC h0 (by omega) (by omega)
 | succ d ih =>
  intro i k p C hi hk hC h0 h1
  obtain ⟨k, rfl, _⟩ := fuel hk
  rw [spec_l20Charter.l2, if_pos (by omega)]
  by_cases hmm : 1 < m
  ·rw [decide_eq_true (show (m : Int) > 1 by omega)]
   obtain ⟨k, rfl, _⟩ := fuel (show 10 * d + 28 < k by omega)
   rw [spec_l20Charter.j3, if_pos rfl]
   have hr := cI_row hC (a := (i : Int)) (by omega) (by omega)
   exact charter_l3 hb n hm1 hm (by omega) P B hM (10 * d + 20) (10 * d + 5) (by omega) (fun k p C hk hC h0 h1 => ih (i + 1) k p C (by omega) hk hC h0 (by omega)) (rd_L5 C (i : Int)).length 0 k p C (by have := hr.2.1; omega) hC (by omega) h0 (by have := hr.2.1; omega)
  ·rw [decide_eq_false (show ¬ (m : Int) > 1 by omega)]
   exact charter_j hb n hm1 hm _ P B hM hC h0 (by omega) (by omega)
theorem charter_l1 {b : List Int} (hb : okB b) (n : Int) {m i : Nat} (hm : m ≤ 3) (hi : i < m) (P : Int) {B : List Int} (hB : bOk 4 B) {M : Int} (hM : M < 900000) (K : Nat) (c : Int) (hc0 : 0 ≤ c) {C : List (List S37)} (hC : cI i C)
  (HN : ∀ k p C, K < k → cI (i + 1) C → 0 ≤ p → p + c ≤ M → Dr (spec_l20Charter.l0 k n (m : Int) ((i + 1 : Nat) : Int) b p P B C) (cQ P B M)) : ∀ (d k : Nat) (p : Int) (X : List S37), K + d + 150 < k → X.length + d ≤ 3 → 1 ≤ X.length + d → (∀ x ∈ X, x.f0.length ≤ 3) → 0 ≤ p → p + 10 * d + c ≤ M →
  Dr (spec_l20Charter.l1 k n (m : Int) (i : Int) X (d : Int) b p P B C) (cQ P B M) := by
 intro d
 induction d with
 | zero =>
  intro k p X hk hX hX1 hx h0 h1
  obtain ⟨k, rfl, _⟩ := fuel hk
  have hc := hC.1
  rw [spec_l20Charter.l1, if_neg (by omega), if_pos (by omega), w64s i (by omega)]
  exact HN k p _ (by omega) (cI_app hC ⟨by omega, by omega, hx⟩) h0 (by omega)
 | succ d ih =>
  intro k p X hk hX hX1 hx h0 h1
  obtain ⟨k, rfl, _⟩ := fuel hk
  rw [spec_l20Charter.l1, if_pos (by omega), w64 (x := ((d + 1 : Nat) : Int) - 1) (by omega) (by omega), show ((d + 1 : Nat) : Int) - 1 = (d : Int) from by omega]
  refine Dr.bind (atom_d hb P hB h0 (by omega) (by omega)) (fun r ⟨f1, f2, f3⟩ => ?_)
  refine Dr.pos (by omega) ?_
  refine ih k r.2 _ (by omega) (by rw [List.length_append]; simp; omega) (by rw [List.length_append]; simp; omega) (fun x hx' => ?_) (by omega) (by omega)
  rcases List.mem_append.1 hx' with h | h
  ·exact hx x h
  ·rw [List.mem_singleton.1 h]; exact f1
theorem charter_l0 {b : List Int} (hb : okB b) (n : Int) {m : Nat} (hm1 : 1 ≤ m) (hm : m ≤ 3) (P : Int) {B : List Int} (hB : bOk 4 B) {M : Int} (hM : M < 900000) : ∀ (d i k : Nat) (p : Int) (C : List (List S37)), i + d = m → 200 * d + 100 < k → cI i C → 0 ≤ p → p + 40 * d + 40 ≤ M →
  Dr (spec_l20Charter.l0 k n (m : Int) (i : Int) b p P B C) (cQ P B M) := by
 intro d
 induction d with
 | zero =>
  intro i k p C hi hk hC h0 h1
  obtain ⟨k, rfl, _⟩ := fuel hk
  obtain rfl : i = m := by omega
  rw [spec_l20Charter.l0, if_neg (by omega)]
  exact charter_l2 hb n hm1 hm P B hM i 0 k p C (by omega) (by omega) hC h0 (by omega)
 | succ d ih =>
  intro i k p C hi hk hC h0 h1
  obtain ⟨k, rfl, _⟩ := fuel hk
  rw [spec_l20Charter.l0, if_pos (by omega)]
  refine Dr.bind (pick_d hb h0 (by omega) 3 (by omega)) (fun r ⟨f1, f2, f3⟩ => ?_)
  rw [w64 (x := 1 + r.1) (by omega) (by omega)]
  obtain ⟨e, he⟩ := Int.eq_ofNat_of_zero_le (show 0 ≤ 1 + r.1 by omega)
  rw [he]
  exact charter_l1 hb n hm (by omega) P hB hM (200 * d + 100) (40 * d + 40) (by omega) hC (fun k p C hk hC h0 h1 => ih (i + 1) k p C (by omega) hk hC h0 (by omega)) e k r.2 [] (by omega) (by simp; omega) (by simp; omega) (by simp) (by omega) (by omega)
theorem charter_d {b : List Int} (hb : okB b) (n : Int) {p : Int} (hp0 : 0 ≤ p) (hp : p < 800000) {k : Nat} (hk : 1000 ≤ k) :
  Dr (spec_l20Charter.f k b p n) (fun r => 1 ≤ r.1 ∧ r.1 ≤ 6 ∧ bOk 3 r.2.1 ∧ (r.2.2.1.length ≤ 3 ∧ ∀ X ∈ r.2.2.1, X.length ≤ 3 ∧ ∀ x ∈ X, x.f0.length ≤ 3) ∧ 0 ≤ r.2.2.2 ∧ r.2.2.2 ≤ p + 300) := by
 unfold spec_l20Charter.f
 refine Dr.bind (house_d hb 0 hp0 (by omega) (by omega)) (fun r ⟨h1, h2, h3, h4, h5, h6⟩ => ?_)
 obtain ⟨g1, g2, g3, _⟩ := h6 (by omega)
 refine Dr.bind (pick_d hb (by omega) (by omega) 3 (by omega)) (fun s ⟨f1, f2, f3⟩ => ?_)
 rw [w64 (x := 1 + s.1) (by omega) (by omega)]
 obtain ⟨m, hm⟩ := Int.eq_ofNat_of_zero_le (show 0 ≤ 1 + s.1 by omega)
 rw [hm]
 refine (charter_l0 hb n (m := m) (by omega) (by omega) r.1 (B := r.2.1) h3 (M := p + 300) (by omega) m 0 k s.2 [] (by omega) (by omega) ⟨rfl, by simp⟩ (by omega) (by omega)).mono (fun u ⟨q1, q2, q3, q4, q5⟩ => ?_)
 exact ⟨by omega, by omega, by rw [q2]; exact g3, q3, q4, q5⟩

theorem mx_ge {a b : Int} : b ≤ mx a b ∧ a ≤ mx a b := by unfold mx; split <;> omega
theorem mn_le {a b : Int} : mn a b ≤ b ∧ mn a b ≤ a := by unfold mn; split <;> omega
theorem mn_ge {a b c : Int} (h1 : c ≤ a) (h2 : c ≤ b) : c ≤ mn a b := by unfold mn; split <;> omega
theorem crowd_d {b : List Int} (hb : okB b) (P : Int) (B : List Int) {p : Int} (hp0 : 0 ≤ p) (hp : p < 900000) {k : Nat} (hk : 0 < k) :
  Dr (spec_l20Crowd.f k b p P B) (fun r => 0 ≤ r.1 ∧ r.1 < 128 ∧ p ≤ r.2 ∧ r.2 ≤ p + 4) := by
 unfold spec_l20Crowd.f
 have h1 : 1 ≤ mn (mx P 1) 6 := mn_ge mx_ge.1 (by omega)
 have h2 : mn (mx P 1) 6 ≤ 6 := mn_le.1
 obtain ⟨e, he⟩ := Int.eq_ofNat_of_zero_le (show 0 ≤ mn (mx P 1) 6 by omega)
 have hT : (2 : Int) ^ (mn (mx P 1) 6).toNat = ((2 ^ e : Nat) : Int) := by rw [he, Int.toNat_natCast]; norm_cast
 have hT1 : 2 ^ e ≤ 64 := pow6 (by omega)
 have hT2 : 1 ≤ 2 ^ e := Nat.one_le_two_pow
 rw [hT]
 generalize hg : 2 ^ e = T at *
 rw [w64 (x := (T : Int)) (by omega) (by omega)]
 refine Dr.bind (pick_d hb hp0 (by omega) _ hk) (fun r ⟨f1, f2, f3⟩ => ?_)
 refine Dr.bind (pick_d hb (by omega) (by omega) 3 hk) (fun s ⟨g1, g2, g3⟩ => ?_)
 have hd : ∀ x : Int, 0 ≤ x → (x < 60 ∨ x = 0) → Int.tdiv x 59 = 0 ∨ Int.tdiv x 59 = 1 := fun x h0 h1 => by
  rw [Int.tdiv_eq_ediv_of_nonneg h0]; omega
 refine Dr.ite (fun h => ?_) (fun h => ?_)
 ·refine Dr.bind (pick_d hb (by omega) (by omega) _ hk) (fun u ⟨q1, q2, q3⟩ => ?_)
  refine Dr.bind (pick_d hb (by omega) (by omega) _ hk) (fun v ⟨z1, z2, z3⟩ => ?_)
  have hv := hd v.1 z2 z3
  generalize Int.tdiv v.1 59 = y at hv ⊢
  obtain ⟨x1, e1⟩ := Int.eq_ofNat_of_zero_le f2
  obtain ⟨x2, e2⟩ := Int.eq_ofNat_of_zero_le q2
  rw [e1, e2, bor (by rw [p62]; omega) (by rw [p62]; omega), w64 (x := y) (by omega) (by omega), w64 (x := y * 64) (by omega) (by omega)]
  have ho : x1 ||| x2 < 2 ^ 6 := Nat.or_lt_two_pow (by omega) (by omega)
  rw [w64 (by omega) (by omega)]
  exact Dr.some ⟨by dsimp only; omega, by dsimp only; omega, by dsimp only; omega, by dsimp only; omega⟩
 ·refine Dr.bind (pick_d hb (by omega) (by omega) _ hk) (fun v ⟨z1, z2, z3⟩ => ?_)
  have hv := hd v.1 z2 z3
  generalize Int.tdiv v.1 59 = y at hv ⊢
  rw [w64 (x := y) (by omega) (by omega), w64 (x := y * 64) (by omega) (by omega), w64 (by omega) (by omega)]
  exact Dr.some ⟨by dsimp only; omega, by dsimp only; omega, by dsimp only; omega, by dsimp only; omega⟩
def cS (C : List (List S37)) : Prop := C.length ≤ 3 ∧ ∀ X ∈ C, X.length ≤ 3 ∧ ∀ x ∈ X, x.f0.length ≤ 3
theorem cS_h {C : List (List S37)} (h : cS C) : C.length ≤ 1048576 ∧ hLen C := ⟨by have := h.1; omega, fun X hX => ⟨by have := (h.2 X hX).1; omega, fun x hx => by have := (h.2 X hX).2 x hx; omega⟩⟩
theorem bOk_h {m : Nat} {B : List Int} (h : bOk m B) (hm : m ≤ 4) : B.length ≤ 1048576 ∧ ∀ x ∈ B, x < 9223372036854775808 := ⟨by have := h.1; omega, fun x hx => by have := h.2 x hx; omega⟩

theorem state_l {b : List Int} (hb : okB b) (n P : Int) (B : List Int) {C : List (List S37)} (hC : cS C) : ∀ (d i k : Nat) (p : Int) (s : List Int), i + d = C.length → d + 3 < k → s.length = i → 0 ≤ p → p + d < 900000 →
  Dr (spec_l20State.l0 k n s (i : Int) b p P B C) (fun r => r.1 = P ∧ r.2.1 = B ∧ r.2.2.1 = C ∧ r.2.2.2.1.length ≤ 4 ∧ 0 ≤ r.2.2.2.2 ∧ r.2.2.2.2 ≤ p + d + 3) := by
 intro d
 induction d with
 | zero =>
  intro i k p s hi hk hs h0 h1
  obtain ⟨k, rfl, _⟩ := fuel hk
  have hc := hC.1
  rw [spec_l20State.l0, if_neg (by omega)]
  refine Dr.bind (odd_d hb h0 (by omega) n (by omega)) (fun r ⟨f1, f2, _⟩ => ?_)
  refine Dr.ite (fun h => ?_) (fun h => Dr.some ⟨rfl, rfl, rfl, by dsimp only; omega, by dsimp only; omega, by dsimp only; omega⟩)
  refine Dr.bind (pick_d hb (by omega) (by omega) 2 (by omega)) (fun u ⟨q1, q2, q3⟩ => ?_)
  refine Dr.ite (fun h => Dr.pos (by omega) (Dr.some ⟨rfl, rfl, rfl, by simp; omega, by dsimp only; omega, by dsimp only; omega⟩)) (fun h => ?_)
  exact Dr.ite (fun h => Dr.pos (by omega) (Dr.some ⟨rfl, rfl, rfl, by simp; omega, by dsimp only; omega, by dsimp only; omega⟩)) (fun h => Dr.some ⟨rfl, rfl, rfl, by dsimp only; omega, by dsimp only; omega, by dsimp only; omega⟩)
 | succ d ih =>
  intro i k p s hi hk hs h0 h1
  obtain ⟨k, rfl, _⟩ := fuel hk
  have hc := hC.1
  rw [spec_l20State.l0, if_pos (by omega), if_pos (by omega)]
  refine Dr.bind (pick_d hb h0 (by omega) _ (by omega)) (fun r ⟨f1, f2, f3⟩ => ?_)
  rw [w64s i (by omega)]
  exact Dr.pos (by omega) ((ih (i + 1) k r.2 _ (by omega) (by omega) (by simp; omega) (by omega) (by omega)).mono (fun u ⟨a1, a2, a3, a4, a5, a6⟩ => ⟨a1, a2, a3, a4, a5, by omega⟩))
theorem state_d {b : List Int} (hb : okB b) (n : Int) {p : Int} (hp0 : 0 ≤ p) (hp : p < 700000) {k : Nat} (hk : 1000 ≤ k) :
  Dr (spec_l20State.f k b p n) (fun r => 1 ≤ r.1 ∧ r.1 ≤ 6 ∧ bOk 3 r.2.1 ∧ cS r.2.2.1 ∧ r.2.2.2.1.length ≤ 4 ∧ 0 ≤ r.2.2.2.2 ∧ r.2.2.2.2 ≤ p + 400) := by
 unfold spec_l20State.f
 refine Dr.bind (charter_d hb n hp0 (by omega) hk) (fun r ⟨h1, h2, h3, h4, h5, h6⟩ => ?_)
 have hc := h4.1
 refine (state_l hb n r.1 r.2.1 h4 r.2.2.1.length 0 k r.2.2.2 [] (by omega) (by omega) rfl h5 (by omega)).mono (fun u ⟨a1, a2, a3, a4, a5, a6⟩ => ?_)
 rw [a1, a2, a3]
 exact ⟨h1, h2, h3, h4, a4, a5, by omega⟩

theorem reach_d {l0 b : List Int} (eo : spec_l20Open.f l0 = some (b, 0)) (hb : okB b) {k : Nat} (hk : 1000 ≤ k) :
  Dr (spec_DrawReachOf.f k l0) (fun r => bOk 3 r.2.1 ∧ cS r.2.2.1 ∧ r.2.2.2.1.length ≤ 4) := by
 unfold spec_DrawReachOf.f
 rw [bnd eo]
 refine Dr.bind (state_d hb 14 (p := 0) (by omega) (by omega) hk) (fun r ⟨h1, h2, h3, h4, h5, h6, h7⟩ => ?_)
 refine Dr.bind (crowd_d hb _ _ h6 (by omega) (by omega)) (fun u _ => Dr.some ⟨h3, h4, h5⟩)

def num : List Int → Int
 | [] => 0
 | x :: r => x + 3 * num r
def dig (s : List Int) : Prop := ∀ x ∈ s, 0 ≤ x ∧ x ≤ 2
theorem num_bd : ∀ (s : List Int), dig s → 0 ≤ num s ∧ num s < ((3 ^ s.length : Nat) : Int)
 | [], _ => by simp [num]
 | x :: r, h => by
  have h1 := h x List.mem_cons_self
  have h2 := num_bd r (fun y hy => h y (List.mem_cons_of_mem _ hy))
  rw [List.length_cons, Nat.pow_succ]
  simp only [num]
  omega
theorem num_drop {s : List Int} {i : Nat} (h : i < s.length) : num (s.drop i) = s[i] + 3 * num (s.drop (i + 1)) := by
 rw [List.drop_eq_getElem_cons h]; rfl
theorem dig_drop {s : List Int} (h : dig s) (i : Nat) : dig (s.drop i) := fun x hx => h x (List.mem_of_mem_drop hx)
theorem stOk_dig {P : Int} {B : List Int} {C : List (List S37)} {s : List Int} (h : stOk P B C s = true) : dig s ∧ s.length = C.length ∧ 1 ≤ s.length ∧ s.length ≤ 3 := by
 obtain ⟨hc, hl, hs⟩ := stOk_at h
 have := chOk_h hc
 refine ⟨fun x hx => ?_, hl, by omega, by omega⟩
 obtain ⟨i, hi, rfl⟩ := List.getElem_of_mem hx
 have h1 := hs i (by omega) hi
 have h2 := (chOk_cl hc (show i < C.length by omega)).2.1
 omega

theorem sCode_l {s : List Int} (hd : dig s) (hl : s.length ≤ 3) : ∀ (i k : Nat), i ≤ s.length → i < k → spec_l8Code.l0 k s (num (s.drop i)) ((i : Int) - 1) = some (num s) := by
 intro i
 induction i with
 | zero =>
  intro k hi hk
  obtain ⟨k, rfl, _⟩ := fuel hk
  rw [spec_l8Code.l0, if_neg (by omega)]; rfl
 | succ i ih =>
  intro k hi hk
  obtain ⟨k, rfl, hk'⟩ := fuel hk
  have hlt : i < s.length := by omega
  have hb := num_bd (s.drop (i + 1)) (dig_drop hd _)
  have hp : 3 ^ (s.drop (i + 1)).length ≤ 3 ^ 3 := Nat.pow_le_pow_right (by decide) (by rw [List.length_drop]; omega)
  have hx := hd s[i] (List.getElem_mem hlt)
  rw [show ((i + 1 : Nat) : Int) - 1 = (i : Int) from by omega, spec_l8Code.l0, if_pos (by omega), if_pos (by omega), if_pos (by omega), rd_lt hlt, w64 (x := num (s.drop (i + 1)) * 3) (by omega) (by omega), w64 (by omega) (by omega), w64 (by omega) (by omega)]
  rw [show num (s.drop (i + 1)) * 3 + s[i] = num (s.drop i) from by rw [num_drop hlt]; omega]
  exact ih k (by omega) (by omega)
theorem sCode_f {s : List Int} (hd : dig s) (hl : s.length ≤ 3) {k : Nat} (hk : 3 < k) : spec_l8Code.f k s = some (num s) := by
 unfold spec_l8Code.f
 rw [w64 (by omega) (by omega)]
 have := sCode_l hd hl s.length k (by omega) (by omega)
 rw [List.drop_length] at this
 exact this

theorem stNum_l : ∀ (k : Nat) (s : List Int) (a b : Int), impl_stateNumber.l0 k s a b = spec_l8Code.l0 k s a b
 | 0, _, _, _ => by rw [impl_stateNumber.l0, spec_l8Code.l0]
 | k + 1, s, a, b => by rw [impl_stateNumber.l0, spec_l8Code.l0, stNum_l k]
theorem stNum_f {s : List Int} (hd : dig s) (hl : s.length ≤ 3) {k : Nat} (hk : 3 < k) : impl_stateNumber.f k s = some (num s) := by
 unfold impl_stateNumber.f
 rw [stNum_l]
 exact sCode_f hd hl hk

def stOf : Nat → Nat → List Int
 | 0, _ => []
 | n + 1, c => ((c % 3 : Nat) : Int) :: stOf n (c / 3)
theorem stOf_num : ∀ (s : List Int), dig s → stOf s.length (num s).toNat = s
 | [], _ => rfl
 | x :: r, h => by
  have h1 := h x List.mem_cons_self
  have hr : dig r := fun y hy => h y (List.mem_cons_of_mem _ hy)
  have h2 := num_bd r hr
  have e1 : (num (x :: r)).toNat % 3 = x.toNat := by simp only [num]; omega
  have e2 : (num (x :: r)).toNat / 3 = (num r).toNat := by simp only [num]; omega
  rw [List.length_cons, stOf, e1, e2, stOf_num r hr, Int.toNat_of_nonneg h1.1]
def within (adj : Nat → List Nat) (s : Nat) : Nat → Nat → Prop
 | 0, c => c = s
 | n + 1, c => within adj s n c ∨ ∃ x, within adj s n x ∧ c ∈ adj x
theorem within_mono {adj : Nat → List Nat} {s n c : Nat} (h : within adj s n c) : ∀ d, within adj s (n + d) c
 | 0 => h
 | d + 1 => .inl (within_mono h d)
theorem within_le {adj : Nat → List Nat} {s n m c : Nat} (h : within adj s n c) (hl : n ≤ m) : within adj s m c := by
 have := within_mono h (m - n)
 rwa [show n + (m - n) = m from by omega] at this
def isDist (adj : Nat → List Nat) (s d c : Nat) : Prop := within adj s d c ∧ ∀ e, e < d → ¬ within adj s e c
theorem isDist_uniq {adj : Nat → List Nat} {s c d e : Nat} (h : isDist adj s d c) (k : isDist adj s e c) : d = e := by
 rcases Nat.lt_trichotomy d e with hh | hh | hh
 ·exact absurd h.1 (k.2 d hh)
 ·exact hh
 ·exact absurd k.1 (h.2 e hh)
def knows (L : List (Nat × Nat)) (c : Nat) : Prop := ∃ d, (c, d) ∈ L
structure BInv (adj : Nat → List Nat) (s : Nat) (L : List (Nat × Nat)) (q : List Nat) (d : Nat) (cur : Nat → List Nat → Prop) : Prop where
 dist : ∀ c e, (c, e) ∈ L → isDist adj s e c
 front : ∃ q1 q2, q = q1 ++ q2 ∧ (∀ x ∈ q1, (x, d) ∈ L) ∧ (∀ x ∈ q2, (x, d + 1) ∈ L)
 shut : ∀ x, knows L x → x ∉ q → (∀ c ∈ adj x, knows L c) ∨ ∃ l, cur x l ∧ ∀ c ∈ adj x, knows L c ∨ c ∈ l
 near : ∀ c, within adj s d c → knows L c
theorem BInv.start (adj : Nat → List Nat) (s : Nat) : BInv adj s [(s, 0)] [s] 0 (fun _ _ => False) := by
 refine ⟨fun c e h => ?_, ⟨[s], [], rfl, fun x hx => ?_, fun x hx => by cases hx⟩, fun x hx hq => ?_, fun c hc => ⟨0, ?_⟩⟩
 ·simp only [List.mem_singleton, Prod.mk.injEq] at h
  obtain ⟨rfl, rfl⟩ := h
  exact ⟨rfl, fun e he => by omega⟩
 ·simp only [List.mem_singleton] at hx; subst hx; simp
 ·obtain ⟨e, he⟩ := hx
  simp only [List.mem_singleton, Prod.mk.injEq] at he
  exact absurd (by simp [he.1]) hq
 ·have : c = s := hc
  subst this; simp
theorem BInv.pop {adj : Nat → List Nat} {s : Nat} {L : List (Nat × Nat)} {x : Nat} {q : List Nat} {d : Nat} (h : BInv adj s L (x :: q) d (fun _ _ => False)) :
  ∃ d', (x, d') ∈ L ∧ BInv adj s L q d' (fun y l => y = x ∧ l = adj x) := by
 have hs : ∀ y, knows L y → y ∉ q → (∀ c ∈ adj y, knows L c) ∨ ∃ l, (y = x ∧ l = adj x) ∧ ∀ c ∈ adj y, knows L c ∨ c ∈ l := by
  intro y hy hq
  by_cases e : y = x
  ·subst e; exact .inr ⟨_, ⟨rfl, rfl⟩, fun c hc => .inr hc⟩
  ·rcases h.shut y hy (by simp [e, hq]) with h1 | ⟨_, hf, _⟩
   ·exact .inl h1
   ·exact hf.elim
 obtain ⟨q1, q2, e, f1, f2⟩ := h.front
 cases q1 with
 | cons y q1 =>
  rw [List.cons_append] at e
  injection e with e1 e2
  subst e1
  exact ⟨d, f1 _ List.mem_cons_self, h.dist, ⟨q1, q2, e2, fun z hz => f1 z (List.mem_cons_of_mem _ hz), f2⟩, hs, h.near⟩
 | nil =>
  rw [List.nil_append] at e
  subst e
  refine ⟨d + 1, f2 _ List.mem_cons_self, h.dist, ⟨q, [], by simp, fun z hz => f2 z (List.mem_cons_of_mem _ hz), fun z hz => by cases hz⟩, hs, fun c hc => ?_⟩
  rcases hc with hc | ⟨y, hy, hc⟩
  ·exact h.near c hc
  ·obtain ⟨e, he⟩ := h.near y hy
   have hd := h.dist y e he
   have hle : e ≤ d := by
    rcases Nat.lt_or_ge d e with hh | hh
    ·exact absurd hy (hd.2 d hh)
    ·exact hh
   have hnq : y ∉ x :: q := fun hm => by
    have := isDist_uniq hd (h.dist y (d + 1) (f2 y hm))
    omega
   rcases h.shut y ⟨e, he⟩ hnq with h1 | ⟨_, hf, _⟩
   ·exact h1 c hc
   ·exact hf.elim
theorem BInv.skip {adj : Nat → List Nat} {s : Nat} {L : List (Nat × Nat)} {x c : Nat} {l q : List Nat} {d : Nat} (h : BInv adj s L q d (fun y m => y = x ∧ m = c :: l)) (hc : knows L c) : BInv adj s L q d (fun y m => y = x ∧ m = l) := by
 refine ⟨h.dist, h.front, fun y hy hq => ?_, h.near⟩
 rcases h.shut y hy hq with h1 | ⟨m, ⟨rfl, rfl⟩, h1⟩
 ·exact .inl h1
 ·refine .inr ⟨l, ⟨rfl, rfl⟩, fun b hb => ?_⟩
  rcases h1 b hb with h2 | h2
  ·exact .inl h2
  ·rcases List.mem_cons.mp h2 with rfl | h2
   ·exact .inl hc
   ·exact .inr h2
theorem BInv.new {adj : Nat → List Nat} {s : Nat} {L : List (Nat × Nat)} {x c : Nat} {l q : List Nat} {d : Nat} (h : BInv adj s L q d (fun y m => y = x ∧ m = c :: l)) (hx : (x, d) ∈ L) (ha : c ∈ adj x) (hc : ¬ knows L c) : BInv adj s ((c, d + 1) :: L) (q ++ [c]) d (fun y m => y = x ∧ m = l) := by
 have up : ∀ y, knows L y → knows ((c, d + 1) :: L) y := fun y ⟨e, he⟩ => ⟨e, List.mem_cons_of_mem _ he⟩
 refine ⟨fun y e he => ?_, ?_, fun y hy hq => ?_, fun y hy => up y (h.near y hy)⟩
 ·rcases List.mem_cons.mp he with he | he
  ·simp only [Prod.mk.injEq] at he
   obtain ⟨rfl, rfl⟩ := he
   refine ⟨.inr ⟨x, (h.dist x d hx).1, ha⟩, fun e he hw => hc (h.near y (within_le hw (by omega)))⟩
  ·exact h.dist y e he
 ·obtain ⟨q1, q2, rfl, f1, f2⟩ := h.front
  refine ⟨q1, q2 ++ [c], by simp, fun z hz => List.mem_cons_of_mem _ (f1 z hz), fun z hz => ?_⟩
  rcases List.mem_append.mp hz with hz | hz
  ·exact List.mem_cons_of_mem _ (f2 z hz)
  ·simp only [List.mem_singleton] at hz; subst hz; exact List.mem_cons_self
 ·have hyc : y ≠ c := fun e => hq (by simp [e])
  have hy' : knows L y := by
   obtain ⟨e, he⟩ := hy
   rcases List.mem_cons.mp he with he | he
   ·simp only [Prod.mk.injEq] at he; exact absurd he.1 hyc
   ·exact ⟨e, he⟩
  rcases h.shut y hy' (fun hm => hq (by simp [hm])) with h1 | ⟨m, ⟨rfl, rfl⟩, h1⟩
  ·exact .inl fun b hb => up b (h1 b hb)
  ·refine .inr ⟨l, ⟨rfl, rfl⟩, fun b hb => ?_⟩
   rcases h1 b hb with h2 | h2
   ·exact .inl (up b h2)
   ·rcases List.mem_cons.mp h2 with rfl | h2
    ·exact .inl ⟨d + 1, List.mem_cons_self⟩
    ·exact .inr h2
theorem BInv.done {adj : Nat → List Nat} {s : Nat} {L : List (Nat × Nat)} {x : Nat} {q : List Nat} {d : Nat} (h : BInv adj s L q d (fun y m => y = x ∧ m = [])) : BInv adj s L q d (fun _ _ => False) := by
 refine ⟨h.dist, h.front, fun y hy hq => ?_, h.near⟩
 rcases h.shut y hy hq with h1 | ⟨m, ⟨rfl, rfl⟩, h1⟩
 ·exact .inl h1
 ·exact .inl fun b hb => (h1 b hb).resolve_right (by simp)
theorem BInv.end_ {adj : Nat → List Nat} {s : Nat} {L : List (Nat × Nat)} {d : Nat} (h : BInv adj s L [] d (fun _ _ => False)) (c e : Nat) : (c, e) ∈ L ↔ isDist adj s e c := by
 have all : ∀ n c, within adj s n c → knows L c := by
  intro n
  induction n with
  | zero => intro c hc; exact h.near c (within_le hc (Nat.zero_le _))
  | succ n ih =>
   intro c hc
   rcases hc with hc | ⟨x, hx, hc⟩
   ·exact ih c hc
   ·rcases h.shut x (ih x hx) (by simp) with h1 | ⟨_, hf, _⟩
    ·exact h1 c hc
    ·exact hf.elim
 constructor
 ·exact h.dist c e
 ·intro hd
  obtain ⟨e', he⟩ := all e c hd.1
  rw [isDist_uniq hd (h.dist c e' he)]; exact he

structure RndInv (adj : Nat → List Nat) (s : Nat) (f : Nat → Option Nat) (r : Nat) (seen : Nat → Prop) : Prop where
 dist : ∀ c d, f c = some d → isDist adj s d c
 bound : ∀ c d, f c = some d → d ≤ r + 1
 near : ∀ c, within adj s r c → f c ≠ none
 shut : ∀ x, seen x → f x = some r → ∀ c ∈ adj x, f c ≠ none
theorem RndInv.set {adj : Nat → List Nat} {s r : Nat} {f : Nat → Option Nat} {seen : Nat → Prop} {x c : Nat} (h : RndInv adj s f r seen) (hx : f x = some r) (ha : c ∈ adj x) (hc : f c = none) : RndInv adj s (fun y => if y = c then some (r + 1) else f y) r seen := by
 have keep : ∀ y, f y ≠ none → (if y = c then some (r + 1) else f y) ≠ none := fun y hy => by
  split
  ·simp
  ·exact hy
 refine ⟨fun y d e => ?_, fun y d e => ?_, fun y hy => keep y (h.near y hy), fun y hy e b hb => ?_⟩
 ·split at e
  ·rename_i hyc
   subst hyc
   injection e with e
   subst e
   exact ⟨.inr ⟨x, (h.dist x r hx).1, ha⟩, fun e he hw => h.near y (within_le hw (by omega)) hc⟩
  ·exact h.dist y d e
 ·split at e
  ·injection e with e; omega
  ·exact h.bound y d e
 ·split at e
  ·injection e with e; omega
  ·exact keep b (h.shut y hy e b hb)
theorem nodup_lt : ∀ (n : Nat) (l : List Nat), l.Nodup → (∀ x ∈ l, x < n) → l.length ≤ n
 | 0, l, _, h => by
  cases l with
  | nil => simp
  | cons x l => exact absurd (h x List.mem_cons_self) (by omega)
 | n + 1, l, hn, h => by
  have h1 := nodup_lt n (l.filter (· ≠ n)) (hn.filter _) (fun x hx => by
   obtain ⟨h2, h3⟩ := List.mem_filter.mp hx
   have := h x h2
   have h3' : x ≠ n := by simpa using h3
   omega)
  by_cases hm : n ∈ l
  ·have h2 : (l.erase n).length = l.length - 1 := List.length_erase_of_mem hm
   have h3 : l.erase n = l.filter (· != n) := hn.erase_eq_filter n
   have h4 : l.filter (· != n) = l.filter (· ≠ n) := by congr 1; funext x; by_cases e : x = n <;> simp [e]
   rw [h3, h4] at h2
   omega
  ·have h5 : l.filter (· ≠ n) = l := List.filter_eq_self.mpr (fun x hx => by
    have : x ≠ n := fun e => hm (by rw [← e]; exact hx)
    simpa using this)
   rw [h5] at h1; omega
theorem isDist_pred {adj : Nat → List Nat} {s d c : Nat} (h : isDist adj s (d + 1) c) : ∃ x, isDist adj s d x := by
 rcases h.1 with h1 | ⟨x, h1, h2⟩
 ·exact absurd h1 (h.2 d (by omega))
 ·refine ⟨x, h1, fun e he hw => h.2 (e + 1) (by omega) (.inr ⟨x, hw, h2⟩)⟩
theorem isDist_row {adj : Nat → List Nat} {s N : Nat} (hN : ∀ n c, within adj s n c → c < N) : ∀ (d c : Nat), isDist adj s d c → ∃ l : List Nat, l.length = d + 1 ∧ l.Nodup ∧ ∀ x ∈ l, x < N ∧ ∃ e, e ≤ d ∧ isDist adj s e x
 | 0, c, h => ⟨[c], rfl, by simp, fun x hx => by
   simp only [List.mem_singleton] at hx; subst hx; exact ⟨hN 0 x h.1, 0, Nat.le_refl _, h⟩⟩
 | d + 1, c, h => by
  obtain ⟨x, hx⟩ := isDist_pred h
  obtain ⟨l, h1, h2, h3⟩ := isDist_row hN d x hx
  refine ⟨c :: l, by simp [h1], List.nodup_cons.mpr ⟨fun hm => ?_, h2⟩, fun y hy => ?_⟩
  ·obtain ⟨_, e, he, hd⟩ := h3 c hm
   have := isDist_uniq hd h
   omega
  ·rcases List.mem_cons.mp hy with rfl | hy
   ·exact ⟨hN _ _ h.1, d + 1, Nat.le_refl _, h⟩
   ·obtain ⟨g1, e, g2, g3⟩ := h3 y hy
    exact ⟨g1, e, by omega, g3⟩
theorem isDist_lt {adj : Nat → List Nat} {s N : Nat} (hN : ∀ n c, within adj s n c → c < N) {d c : Nat} (h : isDist adj s d c) : d < N := by
 obtain ⟨l, h1, h2, h3⟩ := isDist_row hN d c h
 have := nodup_lt N l h2 (fun x hx => (h3 x hx).1)
 omega
theorem leO_ad {α : Type} {f : Nat → Option α} (h : ∀ k, LeO (f k) (f (k + 1))) (k : Nat) : ∀ d, LeO (f k) (f (k + d))
 | 0 => LeO.refl _
 | d + 1 => (leO_ad h k d).trans (h _)
theorem leO_k {α : Type} {f : Nat → Option α} (h : ∀ k, LeO (f k) (f (k + 1))) {a k : Nat} {r : α} (e : f a = some r) (hk : a ≤ k) : f k = some r := by
 obtain ⟨d, rfl⟩ : ∃ d, k = a + d := ⟨k - a, by omega⟩
 exact leO_ad h a d _ e
def code (y : List Int) : Nat := (num y).toNat
def mb (P : Int) (B : List Int) (C : List (List S37)) (c : Nat) (s : List Int) (i j : Nat) : Bool := (impl_mayChange.f 61 P B C s (i : Int) (j : Int) (c : Int)).getD false
theorem mb_eq {P : Int} {B : List Int} {C : List (List S37)} {s : List Int} (h : stOk P B C s = true) {i : Nat} (hi : i < C.length) {j : Nat} (hj : j < (rd_L5 C (i : Int)).length) {c : Nat} (hc : c < 64) {k : Nat} (hk : 60 < k) :
  impl_mayChange.f k P B C s (i : Int) (j : Int) (c : Int) = some (mb P B C c s i j) ∧ spec_l8May.f k P B C s (i : Int) (j : Int) (c : Int) = some (mb P B C c s i j) := by
 rw [rdC hi] at hj
 obtain ⟨r, e1, e2⟩ := may_same h hi (show (0 : Int) ≤ (j : Int) by omega) (show (j : Int) < (C[i].length : Int) by omega) hc (k := 61) (by omega)
 have e : mb P B C c s i j = r := by unfold mb; rw [e1]; rfl
 rw [e]
 exact ⟨leO_k (f := fun k => impl_mayChange.f k P B C s (i : Int) (j : Int) (c : Int)) (fun k => impl_mayChange.mono _ _ _ _ _ _ _ k) e1 (by omega), leO_k (f := fun k => spec_l8May.f k P B C s (i : Int) (j : Int) (c : Int)) (fun k => spec_l8May.mono _ _ _ _ _ _ _ k) e2 (by omega)⟩
def nbV (P : Int) (B : List Int) (C : List (List S37)) (c : Nat) (s : List Int) (i : Nat) : Nat → Nat → List Nat
 | _, 0 => []
 | j, d + 1 => if mb P B C c s i j = true then code (s.set i (j : Int)) :: nbV P B C c s i (j + 1) d else nbV P B C c s i (j + 1) d
def nbC (P : Int) (B : List Int) (C : List (List S37)) (c : Nat) (s : List Int) : Nat → Nat → List Nat
 | _, 0 => []
 | i, d + 1 => nbV P B C c s i 0 (rd_L5 C (i : Int)).length ++ nbC P B C c s (i + 1) d
def adj (P : Int) (B : List Int) (C : List (List S37)) (c : Nat) (x : Nat) : List Nat := nbC P B C c (stOf C.length x) 0 C.length
theorem nbV_mem {P : Int} {B : List Int} {C : List (List S37)} {c : Nat} {s : List Int} {i y : Nat} : ∀ {d j : Nat}, y ∈ nbV P B C c s i j d → ∃ v, j ≤ v ∧ v < j + d ∧ mb P B C c s i v = true ∧ y = code (s.set i (v : Int)) := by
 intro d
 induction d with
 | zero => intro j h; cases h
 | succ d ih =>
  intro j h
  rw [nbV] at h
  split at h
  ·rename_i hm
   rcases List.mem_cons.mp h with rfl | h
   ·exact ⟨j, by omega, by omega, hm, rfl⟩
   ·obtain ⟨v, h1, h2, h3⟩ := ih h; exact ⟨v, by omega, by omega, h3⟩
  ·obtain ⟨v, h1, h2, h3⟩ := ih h; exact ⟨v, by omega, by omega, h3⟩
theorem nbV_of {P : Int} {B : List Int} {C : List (List S37)} {c : Nat} {s : List Int} {i v : Nat} (hm : mb P B C c s i v = true) : ∀ {d j : Nat}, j ≤ v → v < j + d → code (s.set i (v : Int)) ∈ nbV P B C c s i j d := by
 intro d
 induction d with
 | zero => intro j h1 h2; omega
 | succ d ih =>
  intro j h1 h2
  rw [nbV]
  by_cases e : j = v
  ·subst e; rw [if_pos hm]; exact List.mem_cons_self
  ·have := ih (j := j + 1) (by omega) (by omega)
   split
   ·exact List.mem_cons_of_mem _ this
   ·exact this
theorem nbC_mem {P : Int} {B : List Int} {C : List (List S37)} {c : Nat} {s : List Int} {y : Nat} : ∀ {d i : Nat}, y ∈ nbC P B C c s i d → ∃ u v, i ≤ u ∧ u < i + d ∧ v < (rd_L5 C (u : Int)).length ∧ mb P B C c s u v = true ∧ y = code (s.set u (v : Int)) := by
 intro d
 induction d with
 | zero => intro i h; cases h
 | succ d ih =>
  intro i h
  rw [nbC] at h
  rcases List.mem_append.mp h with h | h
  ·obtain ⟨v, h1, h2, h3⟩ := nbV_mem h; exact ⟨i, v, by omega, by omega, by omega, h3⟩
  ·obtain ⟨u, v, h1, h2, h3⟩ := ih h; exact ⟨u, v, by omega, by omega, h3⟩
theorem nbC_of {P : Int} {B : List Int} {C : List (List S37)} {c : Nat} {s : List Int} {u v : Nat} (hm : mb P B C c s u v = true) (hv : v < (rd_L5 C (u : Int)).length) : ∀ {d i : Nat}, i ≤ u → u < i + d → code (s.set u (v : Int)) ∈ nbC P B C c s i d := by
 intro d
 induction d with
 | zero => intro i h1 h2; omega
 | succ d ih =>
  intro i h1 h2
  rw [nbC]
  by_cases e : i = u
  ·subst e; exact List.mem_append_left _ (nbV_of hm (by omega) (by omega))
  ·exact List.mem_append_right _ (ih (by omega) (by omega))
theorem code_cast {P : Int} {B : List Int} {C : List (List S37)} {s : List Int} (h : stOk P B C s = true) : ((code s : Nat) : Int) = num s ∧ code s < 27 := by
 obtain ⟨d, _, _, u⟩ := stOk_dig h
 have h1 := num_bd s d
 have h2 : 3 ^ s.length ≤ 3 ^ 3 := Nat.pow_le_pow_right (by decide) u
 unfold code; omega
theorem st_code {P : Int} {B : List Int} {C : List (List S37)} {s : List Int} (h : stOk P B C s = true) : stOf C.length (code s) = s := by
 obtain ⟨d, e, _, _⟩ := stOk_dig h
 rw [← e]; exact stOf_num s d
theorem code_inj {P : Int} {B : List Int} {C : List (List S37)} {s t : List Int} (h : stOk P B C s = true) (h' : stOk P B C t = true) (e : code s = code t) : s = t := by
 rw [← st_code h, ← st_code h', e]
theorem adj_st {P : Int} {B : List Int} {C : List (List S37)} {c : Nat} {s : List Int} (h : stOk P B C s = true) {y : Nat} (hy : y ∈ adj P B C c (code s)) : ∃ t, stOk P B C t = true ∧ y = code t := by
 unfold adj at hy
 rw [st_code h] at hy
 obtain ⟨u, v, h1, h2, h3, _, rfl⟩ := nbC_mem hy
 rw [rdC (by omega)] at h3
 exact ⟨_, stOk_set h (by omega) (by omega) (by omega), rfl⟩
theorem within_st {P : Int} {B : List Int} {C : List (List S37)} {c : Nat} {s : List Int} (h : stOk P B C s = true) : ∀ (n y : Nat), within (adj P B C c) (code s) n y → ∃ t, stOk P B C t = true ∧ y = code t
 | 0, y, hy => ⟨s, h, hy⟩
 | n + 1, y, hy => by
  rcases hy with hy | ⟨x, hx, hy⟩
  ·exact within_st h n y hy
  ·obtain ⟨t, ht, rfl⟩ := within_st h n x hx
   exact adj_st ht hy
theorem within_lt {P : Int} {B : List Int} {C : List (List S37)} {c : Nat} {s : List Int} (h : stOk P B C s = true) (n y : Nat) (hy : within (adj P B C c) (code s) n y) : y < 27 := by
 obtain ⟨t, ht, rfl⟩ := within_st h n y hy; exact (code_cast ht).2
def cst (L : List (Nat × Nat)) : List (Int × Int) := L.map fun p => ((p.1 : Int), (p.2 : Int))
theorem mhas_cst (c : Nat) : ∀ L, mhas (c : Int) (cst L) = true ↔ knows L c
 | [] => by simp [mhas, cst, knows]
 | p :: L => by
  have ih := mhas_cst c L
  have e : mhas (c : Int) (cst (p :: L)) = ((p.1 : Int) == (c : Int) || mhas (c : Int) (cst L)) := rfl
  rw [e, Bool.or_eq_true, ih]
  constructor
  ·rintro (h | ⟨d, h⟩)
   ·have : p.1 = c := by have := beq_iff_eq.mp h; omega
    exact ⟨p.2, by rw [← this]; exact List.mem_cons_self⟩
   ·exact ⟨d, List.mem_cons_of_mem _ h⟩
  ·rintro ⟨d, h⟩
   rcases List.mem_cons.mp h with h | h
   ·left; rw [← h]; simp
   ·right; exact ⟨d, h⟩
theorem mfind_cst (c : Nat) : ∀ (L : List (Nat × Nat)) (d : Nat), (c, d) ∈ L → (∀ e, (c, e) ∈ L → e = d) → mfind (c : Int) (cst L) = (d : Int)
 | [], _, h, _ => by cases h
 | p :: L, d, h, hu => by
  have e : mfind (c : Int) (cst (p :: L)) = if (p.1 : Int) = (c : Int) then (p.2 : Int) else mfind (c : Int) (cst L) := rfl
  rw [e]
  by_cases hc : p.1 = c
  ·rw [if_pos (by omega), hu p.2 (by rw [← hc]; exact List.mem_cons_self)]
  ·rw [if_neg (by omega)]
   refine mfind_cst c L d ?_ (fun e he => hu e (List.mem_cons_of_mem _ he))
   rcases List.mem_cons.mp h with h | h
   ·rw [← h] at hc; exact absurd rfl hc
   ·exact h
structure QI (P : Int) (B : List Int) (C : List (List S37)) (c s0 : Nat) (D : List (Int × Int)) (q : List (List Int)) (L : List (Nat × Nat)) (d pd : Nat) (cur : Nat → List Nat → Prop) : Prop where
 dD : D = cst L
 ok : ∀ y ∈ q, stOk P B C y = true
 nd : (L.map (·.1)).Nodup
 pl : L.length = q.length + pd
 inv : BInv (adj P B C c) s0 L (q.map code) d cur
def RRes (P : Int) (B : List Int) (C : List (List S37)) (c s0 : Nat) (D : List (Int × Int)) : Prop := ∃ L, D = cst L ∧ (L.map (·.1)).Nodup ∧ ∀ y e, (y, e) ∈ L ↔ isDist (adj P B C c) s0 e y
theorem QI.small {P : Int} {B : List Int} {C : List (List S37)} {c : Nat} {s : List Int} (h : stOk P B C s = true) {D : List (Int × Int)} {q : List (List Int)} {L : List (Nat × Nat)} {d pd : Nat} {cur : Nat → List Nat → Prop} (hq : QI P B C c (code s) D q L d pd cur) : L.length ≤ 27 := by
 have := nodup_lt 27 (L.map (·.1)) hq.nd (fun x hx => by
  obtain ⟨p, hp, rfl⟩ := List.mem_map.mp hx
  exact within_lt h _ _ (hq.inv.dist p.1 p.2 hp).1)
 simpa using this
theorem rch_v {P : Int} {B : List Int} {C : List (List S37)} {c : Nat} (hc : c < 64) {s : List Int} (h : stOk P B C s = true) {x : List Int} (hx : stOk P B C x = true) {i : Nat} (hi : i < C.length) {R : List Nat} {d pd K : Nat} (hK : 100 ≤ K) (hd : d < 27)
  (cont : ∀ k D q L, K ≤ k → QI P B C c (code s) D q L d pd (fun y m => y = code x ∧ m = R) → (code x, d) ∈ L → ∃ r, impl_reach.l1 k D q x (i + 1) P B C (c : Int) = some r ∧ RRes P B C c (code s) r) (hR : ∀ y ∈ R, y ∈ adj P B C c (code x)) :
  ∀ (e j k : Nat) D q L, j + e = (rd_L5 C (i : Int)).length → K + e + 1 ≤ k → QI P B C c (code s) D q L d pd (fun y m => y = code x ∧ m = nbV P B C c x i j e ++ R) → (code x, d) ∈ L → ∃ r, impl_reach.l2 k D q x i j P B C (c : Int) = some r ∧ RRes P B C c (code s) r := by
 intro e
 induction e with
 | zero =>
  intro j k D q L hj hk hq hL
  obtain ⟨k, rfl, _⟩ := fuel (show 0 < k by omega)
  rw [impl_reach.l2, if_neg (by omega)]
  exact cont k D q L (by omega) (by simpa [nbV] using hq) hL
 | succ e ih =>
  intro j k D q L hj hk hq hL
  obtain ⟨k, rfl, hk'⟩ := fuel (show 0 < k by omega)
  have hj' : j < (rd_L5 C (i : Int)).length := by omega
  have hjC : j < C[i].length := by rw [rdC hi] at hj'; exact hj'
  obtain ⟨dg, el, l1, l3⟩ := stOk_dig hx
  have hy : stOk P B C (x.set i (j : Int)) = true := stOk_set hx hi (by omega) (by omega)
  obtain ⟨dy, _, _, ly⟩ := stOk_dig hy
  obtain ⟨cx, cx'⟩ := code_cast hx
  obtain ⟨cy, cy'⟩ := code_cast hy
  have e1 : impl_changed.f x (i : Int) (j : Int) = some (x.set i (j : Int)) := by
   unfold impl_changed.f
   rw [bnd rfl, if_pos (by simp; omega), bnd rfl, List.nil_append, if_pos (by omega), if_pos (by omega)]; simp
  have e2 := stNum_f dy ly (k := k) (by omega)
  have e2' := stNum_f dg l3 (k := k) (by omega)
  rw [impl_reach.l2, if_pos hj', bnd e1, bnd e2, ← cy]
  have hm := (mb_eq hx hi hj' hc (k := k) (by omega)).1
  have hsm := hq.small h
  obtain ⟨rfl, ok, nd, pl, inv⟩ := hq
  rw [nbV] at inv
  by_cases hk2 : knows L (code (x.set i (j : Int)))
  ·rw [if_pos ((mhas_cst _ L).mpr hk2)]
   refine ih (j + 1) k _ q L (by omega) (by omega) ⟨rfl, ok, nd, pl, ?_⟩ hL
   split at inv
   ·exact inv.skip hk2
   ·exact inv
  ·rw [if_neg (fun e => hk2 ((mhas_cst _ L).mp e)), bnd hm]
   by_cases hb : mb P B C c x i j = true
   ·rw [if_pos hb] at inv
    have hmf : mfind (code x : Int) (cst L) = (d : Int) := mfind_cst _ L d hL (fun e he => isDist_uniq (inv.dist _ _ he) (inv.dist _ _ hL))
    have hql : q.length ≤ L.length := by omega
    have hcl : (cst L).length = L.length := by simp [cst]
    rw [if_pos hb, bnd e2', ← cx, hmf, w64s d (by omega), if_pos (by omega)]
    refine ih (j + 1) k _ _ ((code (x.set i (j : Int)), d + 1) :: L) (by omega) (by omega) ⟨rfl, ?_, ?_, by simp; omega, ?_⟩ (List.mem_cons_of_mem _ hL)
    ·intro y hy'
     rcases List.mem_append.mp hy' with hy' | hy'
     ·exact ok y hy'
     ·simp only [List.mem_singleton] at hy'; subst hy'; exact hy
    ·rw [List.map_cons, List.nodup_cons]
     refine ⟨fun hm => hk2 ?_, nd⟩
     obtain ⟨p, hp, e⟩ := List.mem_map.mp hm
     exact ⟨p.2, by rw [← show p.1 = code (x.set i (j : Int)) from e]; exact hp⟩
    ·rw [List.map_append]
     refine inv.new hL ?_ hk2
     unfold adj; rw [st_code hx]; exact nbC_of hb hj' (by omega) (by omega)
   ·rw [if_neg hb] at inv
    rw [if_neg hb]
    exact ih (j + 1) k _ q L (by omega) (by omega) ⟨rfl, ok, nd, pl, inv⟩ hL
theorem rch_c {P : Int} {B : List Int} {C : List (List S37)} {c : Nat} (hc : c < 64) {s : List Int} (h : stOk P B C s = true) {x : List Int} (hx : stOk P B C x = true) {d pd K : Nat} (hK : 100 ≤ K) (hd : d < 27)
  (cont : ∀ k D q L, K ≤ k → QI P B C c (code s) D q L d pd (fun y m => y = code x ∧ m = []) → ∃ r, impl_reach.l0 k D q P B C (c : Int) = some r ∧ RRes P B C c (code s) r) :
  ∀ (e i k : Nat) D q L, i + e = C.length → K + 6 * e + 1 ≤ k → QI P B C c (code s) D q L d pd (fun y m => y = code x ∧ m = nbC P B C c x i e) → (code x, d) ∈ L → ∃ r, impl_reach.l1 k D q x i P B C (c : Int) = some r ∧ RRes P B C c (code s) r := by
 intro e
 induction e with
 | zero =>
  intro i k D q L hi hk hq hL
  obtain ⟨k, rfl, _⟩ := fuel (show 0 < k by omega)
  rw [impl_reach.l1, if_neg (by omega)]
  exact cont k D q L (by omega) hq
 | succ e ih =>
  intro i k D q L hi hk hq hL
  obtain ⟨k, rfl, hk'⟩ := fuel (show 0 < k by omega)
  have hi' : i < C.length := by omega
  have h3 := (chOk_cl (stOk_at hx).1 hi').2.1
  rw [impl_reach.l1, if_pos hi']
  refine rch_v hc h hx hi' (K := K + 6 * e + 1) (R := nbC P B C c x (i + 1) e) (d := d) (pd := pd) (by omega) hd (fun k D q L hk hq hL => ih (i + 1) k D q L (by omega) hk hq hL) ?_ (rd_L5 C (i : Int)).length 0 k D q L (by omega) ?_ hq hL
  ·intro y hy
   unfold adj; rw [st_code hx]
   obtain ⟨u, v, h1, h2, h4, h5, rfl⟩ := nbC_mem hy
   exact nbC_of h5 h4 (by omega) (by omega)
  ·rw [rdC hi']; omega
theorem rch_0 {P : Int} {B : List Int} {C : List (List S37)} {c : Nat} (hc : c < 64) {s : List Int} (h : stOk P B C s = true) :
  ∀ (t pd d k : Nat) D q L, pd + t = 27 → 100 + 22 * t + 1 ≤ k → QI P B C c (code s) D q L d pd (fun _ _ => False) → ∃ r, impl_reach.l0 k D q P B C (c : Int) = some r ∧ RRes P B C c (code s) r := by
 intro t
 induction t with
 | zero =>
  intro pd d k D q L hp hk hq
  have hs := hq.small h
  have hpl := hq.pl
  obtain ⟨k, rfl, _⟩ := fuel (show 0 < k by omega)
  obtain rfl : q = [] := List.eq_nil_of_length_eq_zero (by omega)
  rw [impl_reach.l0]
  exact ⟨D, rfl, L, hq.dD, hq.nd, fun y e => hq.inv.end_ y e⟩
 | succ t ih =>
  intro pd d k D q L hp hk hq
  have hs := hq.small h
  have hpl := hq.pl
  obtain ⟨k, rfl, _⟩ := fuel (show 0 < k by omega)
  cases q with
  | nil =>
   rw [impl_reach.l0]
   exact ⟨D, rfl, L, hq.dD, hq.nd, fun y e => hq.inv.end_ y e⟩
  | cons x q =>
   rw [impl_reach.l0]
   obtain ⟨hD, ok, nd, pl, inv⟩ := hq
   have hx := ok x List.mem_cons_self
   rw [List.map_cons] at inv
   obtain ⟨d', hL, inv'⟩ := inv.pop
   have hd' : d' < 27 := isDist_lt (within_lt h) (inv.dist _ _ hL)
   have hC3 := (chOk_h (stOk_at hx).1).2.2
   refine rch_c hc h hx (K := 100 + 22 * t + 1) (d := d') (pd := pd + 1) (by omega) hd' (fun k D q L hk hq => ih (pd + 1) d' k D q L (by omega) hk ⟨hq.dD, hq.ok, hq.nd, hq.pl, hq.inv.done⟩) C.length 0 k D q L (by omega) (by omega) ⟨hD, fun y hy => ok y (List.mem_cons_of_mem _ hy), nd, by simp at pl; omega, ?_⟩ hL
   have e : adj P B C c (code x) = nbC P B C c x 0 C.length := by unfold adj; rw [st_code hx]
   rw [← e]; exact inv'
theorem rch_f {P : Int} {B : List Int} {C : List (List S37)} {c : Nat} (hc : c < 64) {s : List Int} (h : stOk P B C s = true) {k : Nat} (hk : 700 ≤ k) : ∃ r, impl_reach.f k P B C s (c : Int) = some r ∧ RRes P B C c (code s) r := by
 obtain ⟨dg, _, _, l3⟩ := stOk_dig h
 unfold impl_reach.f
 rw [stNum_f dg l3 (by omega), bnd rfl, ← (code_cast h).1]
 refine rch_0 hc h 27 0 0 k _ _ [(code s, 0)] (by omega) (by omega) ⟨rfl, fun y hy => ?_, by simp, rfl, BInv.start _ _⟩
 simp only [List.mem_singleton] at hy; subst hy; exact h
def fo (far : List Int) (c : Nat) : Option Nat := (far[c]?).bind fun v => if v < 0 then none else some v.toNat
structure FI (P : Int) (B : List Int) (C : List (List S37)) (c s0 : Nat) (far : List Int) (r x : Nat) : Prop where
 len : far.length = 27
 ge : ∀ v ∈ far, -1 ≤ v
 inv : RndInv (adj P B C c) s0 (fo far) r (fun y => y < x)
theorem isCI_of {P w : Int} (hc : isCI P w = true) : ∃ c : Nat, c < 64 ∧ w = (c : Int) := by
 simp only [isCI, Bool.and_eq_true, decide_eq_true_eq] at hc
 have hp6 : (2 : Nat) ^ P.toNat ≤ 64 := pow6 (by omega)
 obtain ⟨c, rfl⟩ := Int.eq_ofNat_of_zero_le hc.2.1
 have := hc.2.2
 exact ⟨c, by omega, rfl⟩

theorem crowdsOf_iff {so : Int → Bool} {x : Int} : ∀ n : Nat, x ∈ crowdsOf so n ↔ ∃ c : Nat, c < n ∧ x = (c : Int) ∧ so (c : Int) = true
 | 0 => by simp [crowdsOf]
 | m + 1 => by
  have ih := crowdsOf_iff (so := so) (x := x) m
  rw [crowdsOf]
  constructor
  ·intro h
   split at h
   ·rename_i hs
    rcases List.mem_append.mp h with h | h
    ·obtain ⟨c, h1, h2⟩ := ih.mp h; exact ⟨c, by omega, h2⟩
    ·simp only [List.mem_singleton] at h; exact ⟨m, by omega, h, hs⟩
   ·obtain ⟨c, h1, h2⟩ := ih.mp h; exact ⟨c, by omega, h2⟩
  ·rintro ⟨c, h1, h2, h3⟩
   by_cases e : c = m
   ·subst e; rw [if_pos h3]; simp [h2]
   ·have := ih.mpr ⟨c, by omega, h2, h3⟩
    split
    ·exact List.mem_append_left _ this
    ·exact this
theorem asc_nodup {l : List Int} (h : l.Pairwise (· < ·)) : l.Nodup := h.imp (fun h => by omega)
theorem sorted_asc {l : List Int} (h : l.Pairwise (· < ·)) : l.mergeSort (fun x y => decide (x ≤ y)) = l := List.mergeSort_of_pairwise (h.imp fun h => by simpa using Int.le_of_lt h)
theorem cst_nodup {L : List (Nat × Nat)} (h : (L.map (·.1)).Nodup) : ((cst L).map (·.1)).Nodup := by
 have e : (cst L).map (·.1) = (L.map (·.1)).map (fun n : Nat => (n : Int)) := by simp [cst]
 rw [e]
 exact List.pairwise_map.mpr (h.imp fun h e => h (Int.ofNat.inj e))
theorem keys_f {P : Int} {B : List Int} {C : List (List S37)} {c : Nat} {s : List Int} (h : stOk P B C s = true) {D : List (Int × Int)} (hD : RRes P B C c (code s) D) : ((D.map (·.1)).Nodup ∧ D.length ≤ 4096) ∧ sortedKeys D = crowdsOf (fun c => mhas c D) 27 := by
 obtain ⟨L, rfl, nd, hL⟩ := hD
 have hlt : ∀ p ∈ L, p.1 < 27 := fun p hp => within_lt h _ _ ((hL p.1 p.2).mp hp).1
 have hlen := nodup_lt 27 (L.map (·.1)) nd (fun x hx => by obtain ⟨p, hp, rfl⟩ := List.mem_map.mp hx; exact hlt p hp)
 refine ⟨⟨cst_nodup nd, by simp [cst] at hlen ⊢; omega⟩, ?_⟩
 unfold sortedKeys
 rw [mergeSort_of_perm_i (l' := crowdsOf (fun c => mhas c (cst L)) 27) ?_]
 ·exact sorted_asc (crowdsOf_asc _ _)
 ·refine (List.perm_ext_iff_of_nodup (cst_nodup nd) (asc_nodup (crowdsOf_asc _ _))).mpr (fun x => ?_)
  rw [crowdsOf_iff]
  constructor
  ·intro hx
   obtain ⟨p, hp, rfl⟩ := List.mem_map.mp hx
   obtain ⟨q, hq, rfl⟩ := List.mem_map.mp hp
   exact ⟨q.1, hlt q hq, rfl, (mhas_cst q.1 L).mpr ⟨q.2, hq⟩⟩
  ·rintro ⟨y, hy, rfl, hh⟩
   obtain ⟨d, hd⟩ := (mhas_cst y L).mp hh
   exact List.mem_map.mpr ⟨((y : Int), (d : Int)), List.mem_map.mpr ⟨(y, d), hd, rfl⟩, rfl⟩

theorem stOk_n {P : Int} {B : List Int} {C : List (List S37)} {s : List Int} (h : stOk P B C s = true) : ∃ n : Nat, P = (n : Int) ∧ n ≤ 6 := by
 have hh := (chOk_h (stOk_at h).1).1
 simp only [hOk, hTail, Bool.and_eq_true, decide_eq_true_eq] at hh
 obtain ⟨n, rfl⟩ := Int.eq_ofNat_of_zero_le (show 0 ≤ P by omega)
 exact ⟨n, rfl, by omega⟩
theorem crowdsOf_has {so : Int → Bool} : ∀ (n c : Nat), c < n → (crowdsOf so n).any (· == (c : Int)) = so (c : Int)
 | 0, c, h => by omega
 | m + 1, c, h => by
  rw [crowdsOf]
  by_cases e : c = m
  ·subst e
   have hno : (crowdsOf so c).any (· == (c : Int)) = false := by
    rw [List.any_eq_false]
    intro x hx
    have := crowdsOf_mem so c x hx
    simp; omega
   by_cases hs : so (c : Int) = true
   ·rw [if_pos hs, List.any_append, hno, hs]; simp
   ·rw [if_neg hs, hno, bfalse hs]
  ·have ih := crowdsOf_has (so := so) m c (by omega)
   by_cases hs : so (m : Int) = true
   ·rw [if_pos hs, List.any_append, ih]
    have : ((m : Int) == (c : Int)) = false := by simp; omega
    simp [this]
   ·rw [if_neg hs, ih]
def lk (l : List Int) (c : Int) : Bool := l.all fun d => d == c || (Go.bits .and .i64 d c != d)
noncomputable def mA (P : Int) (B : List Int) (C : List (List S37)) (s : List Int) (a : S59) : Bool := @decide (∃ k, impl_mayAct.f k P B C s a.f0 a.f1 a.f2 = some true) (Classical.propDecidable _)
structure cH (B : List Int) (C : List (List S37)) : Prop where
 b1 : B.length ≤ 1048576
 b2 : ∀ b ∈ B, b < 9223372036854775808
 c1 : C.length ≤ 1048576
 c2 : hLen C
noncomputable def fs (P : Int) (B : List Int) (C : List (List S37)) : List S59 → List Int → Option Nat
 | [], _ => none
 | a :: A, s => if mA P B C s a = true then (fs P B C A (s.set a.f0.toNat a.f1)).map (· + 1) else some 0
theorem within_map {adj adj' : Nat → List Nat} {s : Nat} {ok : Nat → Prop} (h0 : ok s) (hk : ∀ x, ok x → ∀ y ∈ adj x, y ∈ adj' x ∧ ok y) : ∀ n y, within adj s n y → within adj' s n y ∧ ok y
 | 0, y, hy => by have : y = s := hy; subst this; exact ⟨rfl, h0⟩
 | n + 1, y, hy => by
  rcases hy with hy | ⟨x, hx, hy⟩
  ·have := within_map h0 hk n y hy; exact ⟨.inl this.1, this.2⟩
  ·have h1 := within_map h0 hk n x hx
   have h2 := hk x h1.2 y hy
   exact ⟨.inr ⟨x, h1.1, h2.1⟩, h2.2⟩
theorem within_trans {adj : Nat → List Nat} {s x n : Nat} (h : within adj s n x) : ∀ {m y : Nat}, within adj x m y → within adj s (n + m) y
 | 0, y, hy => by have : y = x := hy; subst this; exact h
 | m + 1, y, hy => by
  rcases hy with hy | ⟨z, hz, hy⟩
  ·exact .inl (within_trans h hy)
  ·exact .inr ⟨z, within_trans h hz, hy⟩
theorem least_n {p : Nat → Prop} : ∀ n, p n → ∃ m, m ≤ n ∧ p m ∧ ∀ e, e < m → ¬ p e := by
 intro n
 induction n using Nat.strongRecOn with
 | _ n ih =>
  intro h
  by_cases hh : ∃ e, e < n ∧ p e
  ·obtain ⟨e, he, hp⟩ := hh
   obtain ⟨m, h1, h2, h3⟩ := ih e he hp
   exact ⟨m, by omega, h2, h3⟩
  ·exact ⟨n, Nat.le_refl _, h, fun e he hp => hh ⟨e, he, hp⟩⟩
theorem dist_of {adj : Nat → List Nat} {s n y : Nat} (h : within adj s n y) : ∃ e, e ≤ n ∧ isDist adj s e y := by
 obtain ⟨m, h1, h2, h3⟩ := least_n (p := fun n => within adj s n y) n h
 exact ⟨m, h1, h2, h3⟩
theorem mhas_iff {P : Int} {B : List Int} {C : List (List S37)} {c s0 : Nat} {D : List (Int × Int)} (hD : RRes P B C c s0 D) (y : Nat) : mhas (y : Int) D = true ↔ ∃ n, within (adj P B C c) s0 n y := by
 obtain ⟨L, rfl, nd, hL⟩ := hD
 rw [mhas_cst]
 constructor
 ·rintro ⟨e, he⟩; exact ⟨e, ((hL _ _).1 he).1⟩
 ·rintro ⟨n, hn⟩
  obtain ⟨e, _, he⟩ := dist_of hn
  exact ⟨e, (hL _ _).2 he⟩
def rch (P : Int) (B : List Int) (C : List (List S37)) (c : Nat) (s : List Int) (y : Nat) : Prop := ∃ n, within (adj P B C c) (code s) n y
theorem rch_self (P : Int) (B : List Int) (C : List (List S37)) (c : Nat) (s : List Int) : rch P B C c s (code s) := ⟨0, rfl⟩
theorem rch_step {P : Int} {B : List Int} {C : List (List S37)} {c : Nat} {s : List Int} (h : stOk P B C s = true) {i j : Nat} (hi : i < C.length) (hj : j < (rd_L5 C (i : Int)).length) (hm : mb P B C c s i j = true) : rch P B C c s (code (s.set i (j : Int))) := by
 refine ⟨1, .inr ⟨_, rfl, ?_⟩⟩
 unfold adj
 rw [st_code h]
 exact nbC_of hm hj (by omega) (by omega)
theorem rch_trans {P : Int} {B : List Int} {C : List (List S37)} {c : Nat} {s t : List Int} {y : Nat} (h1 : rch P B C c s (code t)) (h2 : rch P B C c t y) : rch P B C c s y := by
 obtain ⟨n, h1⟩ := h1
 obtain ⟨m, h2⟩ := h2
 exact ⟨n + m, within_trans h1 h2⟩
theorem ro_v {P : Int} {B : List Int} {C : List (List S37)} (H : cH B C) {s : List Int} (h : stOk P B C s = true) {c : Nat} (hc : c < 64) (hI : isCI P (c : Int) = true) {k : Nat} (hk : 20000000 < k) :
  ∃ l, impl_ReachOf.f k P B C s (c : Int) = some l ∧ l.length ≤ 27 ∧ l.Pairwise (· < ·) ∧ (∀ y : Nat, l.any (· == (y : Int)) = true ↔ rch P B C c s y) ∧ ∀ x ∈ l, ∃ y : Nat, x = (y : Int) ∧ rch P B C c s y := by
 have hB := H.b1; have hC := H.c1
 obtain ⟨D, e1, hD⟩ := rch_f hc h (k := k) (by omega)
 obtain ⟨hk1, hk2⟩ := keys_f h hD
 have hm : ∀ x ∈ crowdsOf (fun x => mhas x D) 27, ∃ y : Nat, x = (y : Int) ∧ rch P B C c s y := fun x hx => by
  obtain ⟨y, _, e, hy⟩ := (crowdsOf_iff 27).1 hx
  exact ⟨y, e, (mhas_iff hD y).1 hy⟩
 refine ⟨crowdsOf (fun x => mhas x D) 27, ?_, crowdsOf_len _ _, crowdsOf_asc _ _, fun y => ?_, hm⟩
 ·unfold impl_ReachOf.f
  rw [isSt_f P B C s (by omega) (by omega) (fun L hL x hx => Nat.lt_of_le_of_lt ((H.c2 L hL).2 x hx) (by decide)) (by omega), bnd rfl, if_pos h, iCI_f, bnd rfl, if_pos hI, bnd e1, if_pos hk1, hk2]
 ·constructor
  ·intro hy
   rw [List.any_eq_true] at hy
   obtain ⟨x, hx, e⟩ := hy
   obtain ⟨z, rfl, hz⟩ := hm x hx
   have : z = y := by have := eq_of_beq e; omega
   rwa [← this]
  ·intro hy
   obtain ⟨n, hn⟩ := hy
   have := within_lt h n y hn
   rw [crowdsOf_has 27 y this]
   exact (mhas_iff hD y).2 ⟨n, hn⟩
theorem num_asc {P : Int} {B : List Int} {C : List (List S37)} {L : List (List Int)} (h : L.Nodup) (hL : ∀ s ∈ L, stOk P B C s = true) : (L.map num).Nodup := by
 refine List.pairwise_map.mpr (List.Pairwise.imp_of_mem (fun {a b} ha hb hne e => hne ?_) h)
 exact code_inj (hL a ha) (hL b hb) (by unfold code; rw [e])
theorem chOk_3 {P : Int} {B : List Int} {C : List (List S37)} (h : chOk P B C = true) : ∀ L ∈ C, L.length ≤ 3 := by
 intro L hL
 obtain ⟨i, hi, rfl⟩ := List.getElem_of_mem hL
 simp only [chOk, Bool.and_eq_true, decide_eq_true_eq] at h
 have := clsOk_at C 0 i hi h.2.2
 simp only [clOk, Bool.and_eq_true, decide_eq_true_eq] at this
 exact this.1.2

def cV (V : S37) : S37 := ⟨V.f0, -1, 0⟩
def frC (C : List (List S37)) : List (List S37) := C.map fun L => L.map cV
theorem frC_len (C : List (List S37)) : (frC C).length = C.length := List.length_map _
theorem frC_at {C : List (List S37)} {i : Nat} (h : i < (frC C).length) : (frC C)[i] = (C[i]'(by rw [frC_len] at h; exact h)).map cV := by simp [frC]
def cnb (P : Int) (B : List Int) (c : Nat) (V : S37) : Bool := (impl_consents.f 61 P B V.f0 (c : Int)).getD false
def okC (P : Int) (B : List Int) (c : Nat) (C : List (List S37)) (s : List Int) (i : Nat) : Bool := cnb P B c (rd_T37 (rd_L5 C (i : Int)) (rd s (i : Int)))
theorem cls_fr {P : Int} {B : List Int} {C D : List (List S37)} : ∀ (X : List (List S37)) (i : Nat), clsOk P B C i X = true → clsOk P B D i (frC X) = true
 | [], _, _ => rfl
 | L :: r, i, h => by
  simp only [clsOk, Bool.and_eq_true] at h
  rw [show frC (L :: r) = L.map cV :: frC r from rfl]
  simp only [clsOk, Bool.and_eq_true]
  refine ⟨?_, cls_fr r (i + 1) h.2⟩
  have h1 := h.1
  simp only [clOk, Bool.and_eq_true, List.length_map, List.all_eq_true] at h1 ⊢
  refine ⟨h1.1, fun v hv => ?_⟩
  obtain ⟨V, hV, rfl⟩ := List.mem_map.mp hv
  have h2 := h1.2 V hV
  simp only [vOk, Bool.and_eq_true] at h2 ⊢
  exact ⟨h2.1, by simp [ifOk, cV]⟩
theorem cls_of {P : Int} {B : List Int} {D E : List (List S37)} : ∀ (X : List (List S37)) (i j : Nat), (∀ L ∈ X, ∀ V ∈ L, V.f1 = -1 ∧ V.f2 = 0) → clsOk P B D i X = true → clsOk P B E j X = true
 | [], _, _, _, _ => rfl
 | L :: r, i, j, hf, h => by
  simp only [clsOk, Bool.and_eq_true] at h ⊢
  refine ⟨?_, cls_of r (i + 1) (j + 1) (fun L hL => hf L (List.mem_cons_of_mem _ hL)) h.2⟩
  have h1 := h.1
  simp only [clOk, Bool.and_eq_true, List.all_eq_true] at h1 ⊢
  refine ⟨h1.1, fun V hV => ?_⟩
  have h2 := h1.2 V hV
  obtain ⟨e1, e2⟩ := hf L List.mem_cons_self V hV
  simp only [vOk, Bool.and_eq_true] at h2 ⊢
  exact ⟨h2.1, by simp [ifOk, e1, e2]⟩
def isFr (G : List (List S37)) : Prop := ∀ L ∈ G, ∀ V ∈ L, V.f1 = -1 ∧ V.f2 = 0
theorem frC_fr (C : List (List S37)) : isFr (frC C) := by
 intro L hL V hV
 obtain ⟨X, _, rfl⟩ := List.mem_map.mp hL
 obtain ⟨W, _, rfl⟩ := List.mem_map.mp hV
 exact ⟨rfl, rfl⟩
theorem chOk_fr {P : Int} {B : List Int} {C : List (List S37)} (h : chOk P B C = true) : chOk P B (frC C) = true := by
 simp only [chOk, Bool.and_eq_true, frC_len] at h ⊢
 exact ⟨h.1, h.2.1, cls_fr C 0 h.2.2⟩
theorem stOk_fr {P : Int} {B : List Int} {C : List (List S37)} {s : List Int} (h : stOk P B C s = true) : stOk P B (frC C) s = true := by
 obtain ⟨h1, h2, h3⟩ := stOk_at h
 refine stOk_of (chOk_fr h1) (by rw [frC_len]; exact h2) (fun i hi hs => ?_)
 rw [frC_at hi, List.length_map]
 exact h3 i (by rw [frC_len] at hi; exact hi) hs
theorem hLen_fr {C : List (List S37)} (h : hLen C) : hLen (frC C) := by
 intro L hL
 obtain ⟨X, hX, rfl⟩ := List.mem_map.mp hL
 refine ⟨by rw [List.length_map]; exact (h X hX).1, fun V hV => ?_⟩
 obtain ⟨W, hW, rfl⟩ := List.mem_map.mp hV
 exact (h X hX).2 W hW
theorem mb_cn {P : Int} {B : List Int} {C : List (List S37)} {s : List Int} (h : stOk P B C s = true) {i j : Nat} (hi : i < C.length) (hj : j < C[i].length) {c : Nat} (hc : c < 64) :
  (mb P B C c s i j = true → okC P B c C s i = true ∧ (j : Int) ≠ rd s (i : Int)) ∧
  ((∀ V ∈ C[i], V.f1 = -1) → okC P B c C s i = true → (j : Int) ≠ rd s (i : Int) → mb P B C c s i j = true) := by
 obtain ⟨hch, hl, hs⟩ := stOk_at h
 have hsl : i < s.length := by omega
 have hsi := hs i hi hsl
 obtain ⟨q1, q2, q3⟩ := chOk_cl hch hi
 obtain ⟨m, hm⟩ := Int.eq_ofNat_of_zero_le hsi.1
 rw [hm] at hsi
 have hml : m < C[i].length := by omega
 have hvo := q3 C[i][m] (List.getElem_mem hml)
 obtain ⟨V, hV⟩ : ∃ V, V = C[i][m] := ⟨_, rfl⟩
 rw [← hV] at hvo
 have g1 : ¬ ((i : Int) < 0) := by omega
 have g2 : ¬ ((i : Int) ≥ (s.length : Int)) := by omega
 have g3 : ¬ ((j : Int) < 0) := by omega
 have g4 : (0 : Int) ≤ (i : Int) := by omega
 have g5 : (i : Int) < (C.length : Int) := by omega
 have g6 : ¬ ((j : Int) ≥ (C[i].length : Int)) := by omega
 have g7 : (i : Int) < (s.length : Int) := by omega
 have g8 : (0 : Int) ≤ (m : Int) := by omega
 have g9 : (m : Int) < (C[i].length : Int) := by omega
 simp only [vOk, Bool.and_eq_true] at hvo
 obtain ⟨hh, ht9, T, hT, hf⟩ := tm_tree hvo.1
 rw [hf] at ht9
 have hcn : okC P B c C s i = val B c T := by
  unfold okC cnb
  rw [rdC hi, rd_lt hsl, hm, rdV hml, ← hV, hf, consents_f hh hT ht9 hc (by omega)]
  rfl
 have st : mb P B C c s i j = (if (j : Int) = (m : Int) then some false else (impl_consents.f 61 P B V.f0 (c : Int)).bind fun t634 =>
   if t634 = true then if V.f1 = -1 then some true else if 0 ≤ V.f1 then if V.f1 < (s.length : Int) then some (rd s V.f1 == V.f2) else none else none else some false).getD false := by
  unfold mb impl_mayChange.f
  rw [rdC hi, rd_lt hsl, hm, rdV hml, ← hV, if_neg g1, if_neg g2, if_neg g3, if_pos g4, if_pos g5, if_neg g6, if_pos g7, if_pos g8, if_pos g9]
 rw [st, hcn, rd_lt hsl, hm]
 refine ⟨fun hb => ?_, fun hfr hok hne => ?_⟩
 ·by_cases e : (j : Int) = (m : Int)
  ·rw [if_pos e] at hb; cases hb
  ·rw [if_neg e, hf, consents_f hh hT ht9 hc (by omega), bnd rfl] at hb
   refine ⟨?_, e⟩
   cases hv : val B c T with
   | true => rfl
   | false => rw [hv, if_neg (by simp)] at hb; cases hb
 ·have hf1 : V.f1 = -1 := by rw [hV]; exact hfr _ (List.getElem_mem hml)
  rw [if_neg hne, hf, consents_f hh hT ht9 hc (by omega), bnd rfl, hok, if_pos rfl, if_pos hf1]
  rfl
theorem okC_fr {P : Int} {B : List Int} {c : Nat} {C : List (List S37)} {s : List Int} {i : Nat} (h : stOk P B C s = true) (hi : i < C.length) : okC P B c (frC C) s i = okC P B c C s i := by
 obtain ⟨hch, hl, hs⟩ := stOk_at h
 have hsl : i < s.length := by omega
 have hsi := hs i hi hsl
 obtain ⟨m, hm⟩ := Int.eq_ofNat_of_zero_le hsi.1
 rw [hm] at hsi
 have hml : m < C[i].length := by omega
 have hi' : i < (frC C).length := by rw [frC_len]; exact hi
 unfold okC
 rw [rdC hi, rdC hi', frC_at hi', rd_lt hsl, hm, rdV hml, rdV (by rw [List.length_map]; exact hml), List.getElem_map]
 rfl
theorem adj_iff {P : Int} {B : List Int} {C : List (List S37)} {c : Nat} {s : List Int} (h : stOk P B C s = true) {y : Nat} : y ∈ adj P B C c (code s) ↔ ∃ i j, i < C.length ∧ j < (rd_L5 C (i : Int)).length ∧ mb P B C c s i j = true ∧ y = code (s.set i (j : Int)) := by
 unfold adj
 rw [st_code h]
 constructor
 ·intro hy
  obtain ⟨i, j, _, h2, h3, h4, h5⟩ := nbC_mem hy
  exact ⟨i, j, by omega, h3, h4, h5⟩
 ·rintro ⟨i, j, hi, hj, hm, rfl⟩
  exact nbC_of hm hj (Nat.zero_le _) (by omega)
theorem rch_fr {P : Int} {B : List Int} {C : List (List S37)} {c : Nat} (hc : c < 64) {s : List Int} (h : stOk P B C s = true) {y : Nat} (hy : rch P B C c s y) : rch P B (frC C) c s y := by
 obtain ⟨n, hn⟩ := hy
 refine ⟨n, (within_map (ok := fun x => ∃ t, stOk P B C t = true ∧ x = code t) ⟨s, h, rfl⟩ (fun x hx y hy => ?_) n y hn).1⟩
 obtain ⟨t, ht, rfl⟩ := hx
 obtain ⟨i, j, hi, hj, hm, rfl⟩ := (adj_iff ht).mp hy
 have hi' : i < (frC C).length := by rw [frC_len]; exact hi
 rw [rdC hi] at hj
 obtain ⟨h1, h2⟩ := (mb_cn ht hi hj hc).1 hm
 refine ⟨(adj_iff (stOk_fr ht)).mpr ⟨i, j, hi', by rw [rdC hi', frC_at hi', List.length_map]; exact hj, ?_, rfl⟩, t.set i (j : Int), stOk_set ht hi (by omega) (by omega), rfl⟩
 refine (mb_cn (stOk_fr ht) hi' (by rw [frC_at hi', List.length_map]; exact hj) hc).2 (fun V hV => (frC_fr C _ (List.getElem_mem hi') V hV).1) ?_ h2
 rw [okC_fr ht hi]; exact h1
theorem okC_same {P : Int} {B : List Int} {c : Nat} {C : List (List S37)} {s t : List Int} {i : Nat} (e : rd t (i : Int) = rd s (i : Int)) : okC P B c C t i = okC P B c C s i := by unfold okC; rw [e]
theorem fr_iff {P : Int} {B : List Int} {G : List (List S37)} (hG : isFr G) {c : Nat} (hc : c < 64) {s : List Int} (h : stOk P B G s = true) (y : Nat) :
  rch P B G c s y ↔ ∃ t, stOk P B G t = true ∧ y = code t ∧ ∀ i, i < G.length → okC P B c G s i = true ∨ rd t (i : Int) = rd s (i : Int) := by
 constructor
 ·rintro ⟨n, hn⟩
  refine (within_map (adj' := adj P B G c) (ok := fun x => ∃ t, stOk P B G t = true ∧ x = code t ∧ ∀ i, i < G.length → okC P B c G s i = true ∨ rd t (i : Int) = rd s (i : Int)) ⟨s, h, rfl, fun i _ => .inr rfl⟩ (fun x hx y hy => ?_) n y hn).2
  obtain ⟨t, ht, rfl, hp⟩ := hx
  refine ⟨hy, ?_⟩
  obtain ⟨i, j, hi, hj, hm, rfl⟩ := (adj_iff ht).mp hy
  rw [rdC hi] at hj
  obtain ⟨h1, h2⟩ := (mb_cn ht hi hj hc).1 hm
  obtain ⟨_, htl, _⟩ := stOk_at ht
  refine ⟨t.set i (j : Int), stOk_set ht hi (by omega) (by omega), rfl, fun k hk => ?_⟩
  by_cases e : k = i
  ·subst e
   rcases hp k hk with hp | hp
   ·exact .inl hp
   ·left; rw [← okC_same hp]; exact h1
  ·rcases hp k hk with hp | hp
   ·exact .inl hp
   ·right
    rw [rd_lt (i := k) (by rw [List.length_set]; omega), List.getElem_set_ne (fun e' => e e'.symm), ← rd_lt (i := k) (by omega)]
    exact hp
 ·rintro ⟨t, ht, rfl, hp⟩
  obtain ⟨_, hsl, hsb⟩ := stOk_at h
  obtain ⟨_, htl, htb⟩ := stOk_at ht
  have key : ∀ k, k ≤ G.length → stOk P B G (t.take k ++ s.drop k) = true ∧ rch P B G c s (code (t.take k ++ s.drop k)) := by
   intro k
   induction k with
   | zero => intro _; simp only [List.take_zero, List.nil_append, List.drop_zero]; exact ⟨h, rch_self _ _ _ _ _⟩
   | succ k ih =>
    intro hk
    obtain ⟨i1, i2⟩ := ih (by omega)
    have hkt : k < t.length := by omega
    have hks : k < s.length := by omega
    have hkG : k < G.length := by omega
    have hul : (t.take k ++ s.drop k).length = G.length := by simp; omega
    have e : t.take (k + 1) ++ s.drop (k + 1) = (t.take k ++ s.drop k).set k t[k] := by
     rw [List.set_append_right _ _ (by simp; omega), show k - (t.take k).length = 0 by simp; omega, List.drop_eq_getElem_cons hks, List.set_cons_zero, List.take_succ_eq_append_getElem hkt, List.append_assoc, List.singleton_append]
    have er : rd (t.take k ++ s.drop k) (k : Int) = rd s (k : Int) := by
     rw [rd_lt (i := k) (by omega), rd_lt hks, List.getElem_append_right (by simp; omega)]
     simp [List.getElem_drop, show min k t.length = k by omega]
    have hb := htb k hkG hkt
    by_cases hs : t[k] = s[k]
    ·have : (t.take k ++ s.drop k).set k t[k] = t.take k ++ s.drop k := by
      have e2 : (t.take k ++ s.drop k)[k]'(by omega) = t[k] := by
       have := er; rw [rd_lt (i := k) (by omega), rd_lt hks] at this; rw [this, hs]
      rw [← e2]; exact List.set_getElem_self _
     rw [e, this]; exact ⟨i1, i2⟩
    ·obtain ⟨j, hj⟩ := Int.eq_ofNat_of_zero_le hb.1
     rw [hj] at hb
     have hok : okC P B c G s k = true := by
      rcases hp k hkG with hp | hp
      ·exact hp
      ·rw [rd_lt hkt, rd_lt hks] at hp; exact absurd hp hs
     have hm : mb P B G c (t.take k ++ s.drop k) k j = true := (mb_cn i1 hkG (by omega) hc).2 (fun V hV => (hG _ (List.getElem_mem hkG) V hV).1) (by rw [okC_same er]; exact hok) (by rw [er, rd_lt hks, ← hj]; exact hs)
     rw [e, hj]
     exact ⟨stOk_set i1 hkG (by omega) (by omega), rch_trans i2 (rch_step i1 hkG (by rw [rdC hkG]; omega) hm)⟩
  have := (key G.length (Nat.le_refl _)).2
  rw [List.take_of_length_le (by omega), List.drop_of_length_le (by omega), List.append_nil] at this
  exact this
def alw (P : Int) (B : List Int) (c : Nat) : List (List S37) → List Int → List (List Int)
 | V :: r, x :: u => (if cnb P B c (rd_T37 V x) = true then (List.range V.length).map (fun n : Nat => (n : Int)) else [x]).flatMap fun v => (alw P B c r u).map (v :: ·)
 | _, _ => [[]]
def prd (P : Int) (B : List Int) (c : Nat) : List (List S37) → List Int → Nat
 | V :: r, x :: u => (if cnb P B c (rd_T37 V x) = true then V.length else 1) * prd P B c r u
 | _, _ => 1
theorem flat_len {α β : Type} (g : α → β → β) (w : List β) : ∀ l : List α, (l.flatMap fun v => w.map (g v)).length = l.length * w.length
 | [] => by simp
 | x :: r => by
  rw [List.flatMap_cons, List.length_append, flat_len g w r, List.length_map, List.length_cons, Nat.succ_mul, Nat.add_comm]
theorem alw_len (P : Int) (B : List Int) (c : Nat) : ∀ (C : List (List S37)) (s : List Int), (alw P B c C s).length = prd P B c C s
 | V :: r, x :: u => by
  rw [alw, prd, flat_len (fun (v : Int) (w : List Int) => v :: w), alw_len P B c r u]
  by_cases h : cnb P B c (rd_T37 V x) = true
  ·rw [if_pos h, if_pos h, List.length_map, List.length_range]
  ·rw [if_neg h, if_neg h]; rfl
 | [], _ => by simp [alw, prd]
 | _ :: _, [] => by simp [alw, prd]
theorem alw_nodup (P : Int) (B : List Int) (c : Nat) : ∀ (C : List (List S37)) (s : List Int), (alw P B c C s).Nodup
 | V :: r, x :: u => by
  rw [alw]
  refine List.pairwise_flatMap.mpr ⟨fun v _ => ?_, ?_⟩
  ·exact List.pairwise_map.mpr ((alw_nodup P B c r u).imp fun hab e => hab (List.cons.inj e).2)
  ·have : (if cnb P B c (rd_T37 V x) = true then (List.range V.length).map (fun n : Nat => (n : Int)) else [x]).Nodup := by
    by_cases h : cnb P B c (rd_T37 V x) = true
    ·rw [if_pos h]; exact List.pairwise_map.mpr ((List.nodup_range).imp fun hab e => hab (Int.ofNat.inj e))
    ·rw [if_neg h]; simp
   refine this.imp (fun {a b} hab y hy z hz e => ?_)
   obtain ⟨_, _, rfl⟩ := List.mem_map.mp hy
   obtain ⟨_, _, rfl⟩ := List.mem_map.mp hz
   exact hab (List.cons.inj e).1
 | [], _ => by simp [alw]
 | _ :: _, [] => by simp [alw]
theorem alw_mem {P : Int} {B : List Int} {c : Nat} : ∀ (C : List (List S37)) (s t : List Int), s.length = C.length → (∀ i (hi : i < C.length) (hs : i < s.length), 0 ≤ s[i] ∧ s[i] < (C[i].length : Int)) →
  (t ∈ alw P B c C s ↔ t.length = C.length ∧ (∀ i (hi : i < C.length) (hs : i < t.length), 0 ≤ t[i] ∧ t[i] < (C[i].length : Int)) ∧ ∀ i, i < C.length → okC P B c C s i = true ∨ rd t (i : Int) = rd s (i : Int))
 | [], s, t, hl, _ => by
  obtain rfl : s = [] := List.eq_nil_of_length_eq_zero hl
  simp only [alw, List.mem_singleton, List.length_nil]
  constructor
  ·rintro rfl; exact ⟨rfl, fun i hi => absurd hi (Nat.not_lt_zero _), fun i hi => absurd hi (Nat.not_lt_zero _)⟩
  ·rintro ⟨h, _⟩; exact List.eq_nil_of_length_eq_zero h
 | V :: r, [], t, hl, _ => by simp at hl
 | V :: r, x :: u, t, hl, hb => by
  have hx := hb 0 (by simp) (by simp)
  simp only [List.getElem_cons_zero] at hx
  have ih := fun w => alw_mem (P := P) (B := B) (c := c) r u w (by simpa using hl) (fun i hi hs => hb (i + 1) (by simp; omega) (by simp; omega))
  have k0 : okC P B c (V :: r) (x :: u) 0 = cnb P B c (rd_T37 V x) := rfl
  have rs : ∀ (a : Int) (l : List Int) (i : Nat), rd (a :: l) ((i + 1 : Nat) : Int) = rd l (i : Int) := fun a l i => by
   unfold rd
   rw [show (((i + 1 : Nat) : Int)).toNat = i + 1 by omega, show ((i : Int)).toNat = i by omega]; rfl
  have ks : ∀ i : Nat, okC P B c (V :: r) (x :: u) (i + 1) = okC P B c r u i := fun i => by
   unfold okC
   rw [rs]
   unfold rd_L5
   rw [show (((i + 1 : Nat) : Int)).toNat = i + 1 by omega, show ((i : Int)).toNat = i by omega]; rfl
  rw [alw]
  simp only [List.mem_flatMap, List.mem_map]
  constructor
  ·rintro ⟨v, hv, w, hw, rfl⟩
   obtain ⟨w1, w2, w3⟩ := (ih w).mp hw
   have hv2 : (0 ≤ v ∧ v < (V.length : Int)) ∧ (cnb P B c (rd_T37 V x) = true ∨ v = x) := by
    by_cases h : cnb P B c (rd_T37 V x) = true
    ·rw [if_pos h] at hv
     obtain ⟨n, hn, rfl⟩ := List.mem_map.mp hv
     have := List.mem_range.mp hn
     exact ⟨⟨by omega, by omega⟩, .inl h⟩
    ·rw [if_neg h] at hv
     obtain rfl := List.mem_singleton.mp hv
     exact ⟨hx, .inr rfl⟩
   refine ⟨by simp [w1], fun i hi hs => ?_, fun i hi => ?_⟩
   ·cases i with
    | zero => exact hv2.1
    | succ i => exact w2 i (by simpa using hi) (by simpa using hs)
   ·cases i with
    | zero =>
     rcases hv2.2 with h | h
     ·left; exact h
     ·right; rw [h]; rfl
    | succ i => rw [ks, rs, rs]; exact w3 i (by simpa using hi)
  ·rintro ⟨h1, h2, h3⟩
   cases t with
   | nil => simp at h1
   | cons v w =>
    have hv := h2 0 (by simp) (by simp)
    simp only [List.getElem_cons_zero] at hv
    refine ⟨v, ?_, w, (ih w).mpr ⟨by simpa using h1, fun i hi hs => h2 (i + 1) (by simp; omega) (by simp; omega), fun i hi => by have := h3 (i + 1) (by simp; omega); rw [ks, rs, rs] at this; exact this⟩, rfl⟩
    by_cases h : cnb P B c (rd_T37 V x) = true
    ·rw [if_pos h]
     exact List.mem_map.mpr ⟨v.toNat, List.mem_range.mpr (by omega), Int.toNat_of_nonneg hv.1⟩
    ·rw [if_neg h]
     rcases h3 0 (by simp) with h' | h'
     ·exact absurd h' h
     ·exact List.mem_singleton.mpr h'
theorem fr_len {P : Int} {B : List Int} {G : List (List S37)} (hG : isFr G) {c : Nat} (hc : c < 64) {s : List Int} (h : stOk P B G s = true) {l : List Int} (ha : l.Pairwise (· < ·)) (hr : ∀ y : Nat, l.any (· == (y : Int)) = true ↔ rch P B G c s y) (hm : ∀ x ∈ l, ∃ y : Nat, x = (y : Int) ∧ rch P B G c s y) : l.length = prd P B c G s := by
 obtain ⟨hch, hsl, hsb⟩ := stOk_at h
 have hst : ∀ t ∈ alw P B c G s, stOk P B G t = true := fun t ht => by
  obtain ⟨t1, t2, _⟩ := (alw_mem G s t hsl hsb).mp ht
  exact stOk_of hch t1 t2
 have hp : l.Perm ((alw P B c G s).map num) := by
  refine (List.perm_ext_iff_of_nodup (asc_nodup ha) (num_asc (alw_nodup P B c G s) hst)).mpr (fun x => ?_)
  constructor
  ·intro hx
   obtain ⟨y, rfl, hy⟩ := hm x hx
   obtain ⟨t, ht, rfl, hp⟩ := (fr_iff hG hc h y).mp hy
   obtain ⟨_, t1, t2⟩ := stOk_at ht
   exact List.mem_map.mpr ⟨t, (alw_mem G s t hsl hsb).mpr ⟨t1, t2, hp⟩, (code_cast ht).1.symm⟩
  ·intro hx
   obtain ⟨t, ht, rfl⟩ := List.mem_map.mp hx
   obtain ⟨t1, t2, t3⟩ := (alw_mem G s t hsl hsb).mp ht
   have h3 := (hr (code t)).mpr ((fr_iff hG hc h _).mpr ⟨t, hst t ht, rfl, t3⟩)
   obtain ⟨z, hz, e⟩ := List.any_eq_true.mp h3
   rw [← (code_cast (hst t ht)).1]
   have e' : z = ((code t : Nat) : Int) := by simpa using e
   rw [← e']; exact hz
 rw [hp.length_eq, List.length_map, alw_len]

theorem mid_one {α : Type} {l : List α} {i : Nat} (h : i < l.length) : (l.take (i + 1)).drop i = [l[i]] := by
 rw [List.drop_take, List.drop_eq_getElem_cons h, Nat.add_sub_cancel_left]; rfl
theorem len_sub : ∀ (m l : List Int), m.Nodup → (∀ x ∈ m, x ∈ l) → m.length ≤ l.length
 | [], _, _, _ => Nat.zero_le _
 | x :: r, l, hn, hs => by
  rw [List.nodup_cons] at hn
  have h1 := len_sub r (l.erase x) hn.2 (fun y hy => (List.mem_erase_of_ne (fun e => hn.1 (by rw [← e]; exact hy))).mpr (hs y (List.mem_cons_of_mem _ hy)))
  have hx := hs x List.mem_cons_self
  rw [List.length_erase_of_mem hx] at h1
  have := List.length_pos_of_mem hx
  rw [List.length_cons]
  omega
theorem prd_le (P : Int) (B : List Int) (c : Nat) : ∀ (C : List (List S37)) (s : List Int), (∀ L ∈ C, L.length ≤ 3) → prd P B c C s ≤ 3 ^ C.length
 | V :: r, x :: u, h => by
  rw [prd, List.length_cons, Nat.pow_succ, Nat.mul_comm]
  refine Nat.mul_le_mul (prd_le P B c r u fun L hL => h L (List.mem_cons_of_mem _ hL)) ?_
  by_cases hc : cnb P B c (rd_T37 V x) = true
  ·rw [if_pos hc]; exact h V List.mem_cons_self
  ·rw [if_neg hc]; omega
 | [], s, _ => by simp [prd]
 | V :: r, [], _ => by rw [prd]; exact Nat.one_le_pow _ _ (by omega); all_goals simp
theorem prd_cons {P : Int} {B : List Int} {c : Nat} {G : List (List S37)} {s : List Int} {i : Nat} (hi : i < G.length) (hs : i < s.length) : prd P B c (G.drop i) (s.drop i) = prd P B c [G[i]] [s[i]] * prd P B c (G.drop (i + 1)) (s.drop (i + 1)) := by
 rw [List.drop_eq_getElem_cons hi, List.drop_eq_getElem_cons hs]
 simp only [prd, Nat.mul_one]
theorem stOk_one {P : Int} {B : List Int} {G : List (List S37)} {s : List Int} (hG : isFr G) (h : stOk P B G s = true) {i : Nat} (hi : i < G.length) (hs : i < s.length) : stOk P B [G[i]] [s[i]] = true := by
 obtain ⟨hch, _, hb⟩ := stOk_at h
 refine stOk_of ?_ rfl (fun k hk _ => ?_)
 ·have h1 := hch
  simp only [chOk, Bool.and_eq_true] at h1 ⊢
  have h2 := clsOk_at G 0 i hi h1.2.2
  have h3 : clsOk P B G (0 + i) [G[i]] = true := by simp only [clsOk, Bool.and_eq_true]; exact ⟨h2, trivial⟩
  exact ⟨h1.1, by simp, cls_of [G[i]] (0 + i) 0 (fun L hL => by rw [List.mem_singleton.mp hL]; exact hG _ (List.getElem_mem hi)) h3⟩
 ·obtain rfl : k = 0 := by simpa using hk
  exact hb i hi hs
section
variable {n : Nat} {B : List Int} {C : List (List S37)} (H : cH B C) {s : List Int} (h : stOk (n : Int) B C s = true) {c : Nat} (hc : c < 64) (hI : isCI (n : Int) (c : Int) = true)
include H h hc hI
theorem FnFreeProduct_2 : ∀ (d i a k : Nat), i + d = C.length → a * prd (n : Int) B c ((frC C).drop i) (s.drop i) = prd (n : Int) B c (frC C) s → a ≤ 3 ^ i → 20000100 + d < k →
  laws_FnFreeProduct.l2 k s (c : Int) (a : Int) (i : Int) (n : Int) B C (n : Int) B (frC C) = some true := by
 obtain ⟨hch, hsl, hsb⟩ := stOk_at h
 have hC3 := (chOk_h hch).2.2
 have hF := stOk_fr h
 have HF : cH B (frC C) := ⟨H.b1, H.b2, by rw [frC_len]; exact H.c1, hLen_fr H.c2⟩
 have hlen := frC_len C
 intro d
 induction d with
 | zero =>
  intro i a k hi he ha hk
  obtain ⟨k, rfl, _⟩ := fuel (show 20000099 < k by omega)
  obtain rfl : i = C.length := by omega
  obtain ⟨l, el, l1, l2, l3, l4⟩ := ro_v HF hF hc hI (k := k) (by omega)
  obtain ⟨m, em, m1, m2, m3, m4⟩ := ro_v H h hc hI (k := k) (by omega)
  have e1 := fr_len (frC_fr C) hc hF l2 l3 l4
  rw [List.drop_of_length_le (by omega), prd, Nat.mul_one] at he
  have hle : m.length ≤ l.length := by
   have hm : ∀ x ∈ m, x ∈ l := fun x hx => by
    obtain ⟨y, rfl, hy⟩ := m4 x hx
    obtain ⟨z, hz, e⟩ := List.any_eq_true.mp ((l3 y).mpr (rch_fr hc h hy))
    obtain rfl : z = (y : Int) := by simpa using e
    exact hz
   exact len_sub m l (asc_nodup m2) hm
  rw [laws_FnFreeProduct.l2, if_neg (by omega), bnd alive_f, if_pos rfl, bnd el, if_pos (by omega), bnd em]
  simp only [Option.some.injEq, decide_eq_true_eq]
  omega
  all_goals simp
 | succ d ih =>
  intro i a k hi he ha hk
  obtain ⟨k, rfl, _⟩ := fuel hk
  have hlt : i < C.length := by omega
  have hltF : i < (frC C).length := by omega
  have hlts : i < s.length := by omega
  have h1 := stOk_one (frC_fr C) hF hltF hlts
  have H1 : cH B [(frC C)[i]] := ⟨H.b1, H.b2, by simp, fun L hL => by rw [List.mem_singleton.mp hL]; exact HF.c2 _ (List.getElem_mem hltF)⟩
  obtain ⟨l, el, l1, l2, l3, l4⟩ := ro_v H1 h1 hc hI (k := k) (by omega)
  have e1 := fr_len (G := [(frC C)[i]]) (fun L hL => by rw [List.mem_singleton.mp hL]; exact frC_fr C _ (List.getElem_mem hltF)) hc h1 l2 l3 l4
  have hX := chOk_3 (chOk_fr hch)
  have p3 : l.length ≤ 3 := by rw [e1]; exact Nat.le_trans (prd_le _ _ _ _ _ (fun L hL => by rw [List.mem_singleton.mp hL]; exact hX _ (List.getElem_mem hltF))) (by simp)
  have ha9 : a ≤ 9 := Nat.le_trans ha (Nat.le_trans (Nat.pow_le_pow_right (by decide) (show i ≤ 2 by omega)) (by decide))
  have hm9 : a * l.length ≤ 9 * 3 := Nat.mul_le_mul ha9 p3
  have ew : wrap64 ((a : Int) * (l.length : Int)) = ((a * l.length : Nat) : Int) := by
   rw [← Int.natCast_mul, w64 (by omega) (by omega)]
  have t1 : (((i + 1 : Nat) : Int)).toNat = i + 1 := by omega
  have t2 : ((i : Int)).toNat = i := by omega
  rw [laws_FnFreeProduct.l2, if_pos (by omega), if_pos (by omega), w64s i (by omega), if_pos (by omega), if_pos (by omega), if_pos (by omega), t1, t2, mid_one hltF, mid_one hlts, bnd el, ew]
  refine ih (i + 1) _ k (by omega) ?_ (by rw [Nat.pow_succ]; exact Nat.mul_le_mul ha p3) (by omega)
  rw [← he, prd_cons hltF hlts, e1, Nat.mul_assoc]
theorem FnFreeProduct_1 {i K : Nat} (hi : i < C.length) (hK : 100 ≤ K) (next : ∀ k, K ≤ k → laws_FnFreeProduct.l0 k s (c : Int) ((i + 1 : Nat) : Int) (n : Int) B C (n : Int) B (frC (C.take (i + 1))) = some true) :
  ∀ (d j k : Nat), j + d = C[i].length → K + d < k → laws_FnFreeProduct.l1 k s (c : Int) (i : Int) ((C[i].take j).map cV) (j : Int) (n : Int) B C (n : Int) B (frC (C.take i)) = some true := by
 obtain ⟨hch, hsl, hsb⟩ := stOk_at h
 have hC3 := (chOk_h hch).2.2
 have hX := chOk_3 hch _ (List.getElem_mem hi)
 have _ := H; have _ := hc; have _ := hI
 intro d
 induction d with
 | zero =>
  intro j k hj hk
  obtain ⟨k, rfl, _⟩ := fuel hk
  obtain rfl : j = C[i].length := by omega
  have hl : (frC (C.take i)).length < 5864062014805 := by rw [frC_len, List.length_take]; omega
  have e := next k (by omega)
  rw [List.take_succ_eq_append_getElem hi, show frC (C.take i ++ [C[i]]) = frC (C.take i) ++ [C[i].map cV] by unfold frC; rw [List.map_append]; rfl] at e
  rw [laws_FnFreeProduct.l1, if_pos (by omega), if_pos (by omega), rdC hi, if_neg (by omega), if_pos hl, w64s i (by omega), List.take_length]
  exact e
 | succ d ih =>
  intro j k hj hk
  obtain ⟨k, rfl, _⟩ := fuel hk
  have hlt : j < C[i].length := by omega
  have hl : ((C[i].take j).map cV).length < 3518437208883 := by rw [List.length_map, List.length_take]; omega
  have e := ih (j + 1) k (by omega) (by omega)
  rw [List.take_succ_eq_append_getElem hlt, List.map_append, List.map_singleton] at e
  rw [laws_FnFreeProduct.l1, if_pos (by omega), if_pos (by omega), rdC hi, if_pos (by omega), if_pos (by omega), if_pos hl, rdV hlt, w64s j (by omega)]
  exact e
theorem FnFreeProduct_0 : ∀ (d i k : Nat), i + d = C.length → 20000300 + 10 * d < k → laws_FnFreeProduct.l0 k s (c : Int) (i : Int) (n : Int) B C (n : Int) B (frC (C.take i)) = some true := by
 obtain ⟨hch, hsl, hsb⟩ := stOk_at h
 have hC3 := (chOk_h hch).2.2
 intro d
 induction d with
 | zero =>
  intro i k hi hk
  obtain ⟨k, rfl, _⟩ := fuel (show 20000299 < k by omega)
  obtain rfl : i = C.length := by omega
  rw [laws_FnFreeProduct.l0, if_neg (by omega), List.take_length]
  exact FnFreeProduct_2 H h hc hI C.length 0 1 k (Nat.zero_add _) (by rw [Nat.one_mul, List.drop_zero, List.drop_zero]) (Nat.le_refl _) (by omega)
 | succ d ih =>
  intro i k hi hk
  obtain ⟨k, rfl, _⟩ := fuel hk
  have hlt : i < C.length := by omega
  have hX := chOk_3 hch _ (List.getElem_mem hlt)
  obtain ⟨K, hKe⟩ : ∃ K, K = 20000300 + 10 * d + 1 := ⟨_, rfl⟩
  rw [laws_FnFreeProduct.l0, if_pos (by omega)]
  exact FnFreeProduct_1 H h hc hI hlt (K := K) (by omega) (fun k hk => ih (i + 1) k (by omega) (by omega)) C[i].length 0 k (Nat.zero_add _) (by omega)
end
theorem FnFreeProduct : laws_FnFreeProduct.Pure := by
 intro l0 _ _ hb8
 obtain ⟨K, hK⟩ : ∃ K, K = 24000000 := ⟨_, rfl⟩
 refine ⟨K + 10, ?_⟩
 unfold laws_FnFreeProduct.f
 by_cases h : (l0.length : Int) > 1048576
 ·rw [if_pos h]
 ·rw [if_neg h]
  obtain ⟨b, eo, hb⟩ := open_f hb8
  obtain ⟨r, ec, c1, c2, c3⟩ := reach_d eo hb (k := K + 10) (by omega)
  obtain ⟨P, B, C, s, w⟩ := r
  dsimp only at c1 c2 c3
  obtain ⟨hB1, hB2⟩ := bOk_h c1 (by omega)
  obtain ⟨hC1, hC2⟩ := cS_h c2
  have H : cH B C := ⟨hB1, hB2, hC1, hC2⟩
  have s1 := sSt_f P B C s hB1 hB2 hC1 hC2 (by omega) (k := K + 10) (by omega)
  rw [bnd ec]
  dsimp only
  rw [bnd s1]
  by_cases h1 : stOk P B C s = true
  ·rw [if_pos h1, sCI_f, bnd rfl]
   by_cases h2 : isCI P w = true
   ·obtain ⟨c, hc, rfl⟩ := isCI_of h2
    obtain ⟨n, rfl, hn⟩ := stOk_n h1
    rw [h2, Bool.not_true, laws_FnFreeProduct.j0, if_neg (by simp)]
    exact FnFreeProduct_0 H h1 hc h2 C.length 0 (K + 9) (Nat.zero_add _) (by have := (chOk_h (stOk_at h1).1).2.2; omega)
   ·rw [bfalse h2, Bool.not_false, laws_FnFreeProduct.j0, if_pos rfl, bnd alive_f]
  ·rw [if_neg h1, laws_FnFreeProduct.j0, if_pos rfl, bnd alive_f]

end Go.Proofs.Ytkogboechfieeaa.Pure
