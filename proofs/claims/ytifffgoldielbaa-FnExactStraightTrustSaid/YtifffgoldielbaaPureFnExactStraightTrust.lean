/- For every row of numbers the program's StraightTrust answers as the reference's, leaves its row as it was, and answers in new memory. Condition: none. -/
import Derived.Test.YtifffgoldielbaaPFnExactStraightTrustx3
import Derived.Test.YtifffgoldielbaaM
namespace Go.Proofs.Ytifffgoldielbaa.Pure
open Go.RowKit Go.Proofs.Ytifffgoldielbaa.PFnExactStraightTrust Go.Proofs.YtifffgoldielbaaW.PrintWords Go.Proofs.YtifffgoldielbaaW.PrintLast Go.Proofs.YtifffgoldielbaaW.PrintMore Go.Proofs.Ytifffgoldielbaa.M
set_option linter.unusedVariables false
set_option linter.unusedSimpArgs false

/-! ### copies and equal rows -/
theorem toIntS_l (l : List Int) (hl : l.length < 4611686018427387904) : ∀ (d i k : Nat) (m : List Int), i + d = l.length → d < k → m.length = l.length → m.take i = l.take i →
    laws_toIntS.l0 k l m (i : Int) = some l := by
  intro d
  induction d with
  | zero =>
    intro i k m hi hk hm he
    obtain ⟨k, rfl, _⟩ := fuel hk
    simp only [laws_toIntS.l0]
    rw [if_neg (by omega)]
    rw [List.take_of_length_le (by omega), List.take_of_length_le (by omega)] at he
    rw [he]
  | succ d ih =>
    intro i k m hi hk hm he
    obtain ⟨k, rfl, hk'⟩ := fuel hk
    have hlt : i < l.length := by omega
    simp only [laws_toIntS.l0]
    rw [if_pos (by omega), if_pos (by omega), if_pos (by omega), w64s i (by omega), rd_lt hlt]
    refine ih (i + 1) k _ (by omega) (by omega) (by simpa using hm) ?_
    rw [show ((i : Int)).toNat = i from by omega, List.take_succ_eq_append_getElem (by simp; omega), List.take_succ_eq_append_getElem hlt, List.take_set_of_le (Nat.le_refl _), he]
    simp
theorem toIntS_f (l : List Int) (hl : l.length ≤ 1048576) {k : Nat} (hk : l.length < k) : laws_toIntS.f k l = some l := by
  unfold laws_toIntS.f
  rw [if_pos (by omega), if_pos (by omega)]
  exact toIntS_l l (by omega) l.length 0 k _ (by omega) hk (by simp) (by simp)
theorem eqIntS_l (l : List Int) (hl : l.length < 4611686018427387904) : ∀ (d i k : Nat), i + d = l.length → d < k → laws_eqIntS.l0 k l l (i : Int) = some true := by
  intro d
  induction d with
  | zero =>
    intro i k hi hk
    obtain ⟨k, rfl, _⟩ := fuel hk
    simp only [laws_eqIntS.l0]
    rw [if_neg (by omega)]
  | succ d ih =>
    intro i k hi hk
    obtain ⟨k, rfl, hk'⟩ := fuel hk
    simp only [laws_eqIntS.l0]
    rw [if_pos (by omega), if_pos (by omega), if_pos (by omega), if_pos trivial, w64s i (by omega)]
    exact ih (i + 1) k (by omega) (by omega)
theorem eqIntS_f (l : List Int) (hl : l.length < 4611686018427387904) {k : Nat} (hk : l.length < k) : laws_eqIntS.f k l l = some true := by
  unfold laws_eqIntS.f
  rw [if_pos rfl]
  exact eqIntS_l l hl l.length 0 k (by omega) hk

/-! ### marks -/
theorem mark_l : ∀ (d i k : Nat) (l : List Int), l.length < 2305843009213693952 → i + d = l.length → d < k → (∀ j, (h : j < l.length) → j < i → l[j] = ((j + 1 : Nat) : Int)) →
    ∃ m, laws_markIntS.l0 k l ((i + 1 : Nat) : Int) (i : Int) = some (((l.length + 1 : Nat) : Int), m) ∧ m.length = l.length ∧ ∀ j, (h : j < m.length) → m[j] = ((j + 1 : Nat) : Int) := by
  intro d
  induction d with
  | zero =>
    intro i k l hl hi hk hj
    obtain ⟨k, rfl, _⟩ := fuel hk
    simp only [laws_markIntS.l0]
    rw [if_neg (by omega)]
    exact ⟨l, by rw [show i = l.length from by omega], rfl, fun j h => hj j h (by omega)⟩
  | succ d ih =>
    intro i k l hl hi hk hj
    obtain ⟨k, rfl, hk'⟩ := fuel hk
    simp only [laws_markIntS.l0]
    rw [if_pos (by omega), if_pos (by omega), w64s i (by omega), w64s (i + 1) (by omega)]
    obtain ⟨m, e, h1, h2⟩ := ih (i + 1) k (l.set ((i : Int)).toNat ((i + 1 : Nat) : Int)) (by simpa using hl) (by simp; omega) (by omega) (by
      intro j h hji
      rw [List.getElem_set]
      split
      · omega
      · exact hj j (by simpa using h) (by omega))
    refine ⟨m, ?_, by simpa using h1, h2⟩
    rw [e]; simp
theorem mark_f (l : List Int) (hl : l.length < 2305843009213693952) {k : Nat} (hk : l.length < k) :
    ∃ m, laws_markIntS.f k l 1 = some (((l.length + 1 : Nat) : Int), m) ∧ m.length = l.length ∧ ∀ j, (h : j < m.length) → m[j] = ((j + 1 : Nat) : Int) :=
  mark_l l.length 0 k l hl (by omega) hk (fun j _ h => absurd h (Nat.not_lt_zero j))
theorem held_l (m : List Int) (hl : m.length < 2305843009213693952) (hm : ∀ j, (h : j < m.length) → m[j] = ((j + 1 : Nat) : Int)) : ∀ (d i k : Nat), i + d = m.length → d < k →
    laws_heldIntS.l0 k m ((i + 1 : Nat) : Int) (i : Int) = some ((m.length + 1 : Nat) : Int) := by
  intro d
  induction d with
  | zero =>
    intro i k hi hk
    obtain ⟨k, rfl, _⟩ := fuel hk
    simp only [laws_heldIntS.l0]
    rw [if_neg (by omega), show i = m.length from by omega]
  | succ d ih =>
    intro i k hi hk
    obtain ⟨k, rfl, hk'⟩ := fuel hk
    have hlt : i < m.length := by omega
    simp only [laws_heldIntS.l0]
    rw [if_pos (by omega), if_pos (by omega), rd_lt hlt, if_pos (hm i hlt), w64s i (by omega), w64s (i + 1) (by omega)]
    exact ih (i + 1) k (by omega) (by omega)
theorem held_f {m : List Int} (hl : m.length < 2305843009213693952) (hm : ∀ j, (h : j < m.length) → m[j] = ((j + 1 : Nat) : Int)) {k : Nat} (hk : m.length < k) :
    laws_heldIntS.f k m 1 = some ((m.length + 1 : Nat) : Int) := held_l m hl hm m.length 0 k (by omega) hk

/-! ### who is trust -/
theorem isTrust_l (t : List Int) (hl : t.length < 4611686018427387904) : ∀ (d i k : Nat), i + d = t.length → d < k →
    impl_isTrust.l0 k t t (t.length : Int) (i : Int) = some ((t.drop i).all (fun x => decide (0 ≤ x) && decide (x < (t.length : Int))) && (decide (1 ≤ t.length) && decide (t.length ≤ 6))) := by
  intro d
  induction d with
  | zero =>
    intro i k hi hk
    obtain ⟨k, rfl, _⟩ := fuel hk
    have e : t.drop i = [] := List.drop_eq_nil_of_le (by omega)
    have h6 : decide ((t.length : Int) ≤ 6) = decide (t.length ≤ 6) := decide_eq_decide.2 (by omega)
    have h1 : ((t.length : Int) ≥ 1) ↔ (1 ≤ t.length) := by omega
    simp only [impl_isTrust.l0, impl_arePeople.f]
    rw [if_neg (by omega), e]
    by_cases h : 1 ≤ t.length
    · rw [if_pos (h1.2 h)]; simp [h6, h]
    · rw [if_neg (fun x => h (h1.1 x))]; simp [h]
  | succ d ih =>
    intro i k hi hk
    obtain ⟨k, rfl, hk'⟩ := fuel hk
    have hlt : i < t.length := by omega
    simp only [impl_isTrust.l0]
    rw [if_pos (by omega), if_pos (by omega), if_pos (by omega), rd_lt hlt, w64s i (by omega), ih (i + 1) k (by omega) (by omega), List.drop_eq_getElem_cons hlt, List.all_cons]
    by_cases h1 : t[i] < 0
    · rw [if_pos h1, decide_eq_false (by omega : ¬ (0 : Int) ≤ t[i])]; simp
    · rw [if_neg h1, decide_eq_true (by omega : (0 : Int) ≤ t[i])]
      by_cases h2 : t[i] ≥ (t.length : Int)
      · rw [if_pos h2, decide_eq_false (by omega : ¬ t[i] < (t.length : Int))]; simp
      · rw [if_neg h2, decide_eq_true (by omega : t[i] < (t.length : Int))]; simp
theorem isTrust_f (t : List Int) (hl : t.length < 4611686018427387904) {k : Nat} (hk : t.length < k) : impl_isTrust.f k t = some (tOk t) := by
  unfold impl_isTrust.f
  have := isTrust_l t hl t.length 0 k (by omega) hk
  simpa [tOk] using this

theorem sTrustOk_l (t : List Int) (hl : t.length < 4611686018427387904) : ∀ (d i k : Nat), i + d = t.length → d < k →
    spec_TrustOk.l0 k t (i : Int) = some ((t.drop i).all (fun x => decide (0 ≤ x) && decide (x < (t.length : Int))) && (decide (1 ≤ t.length) && decide (t.length ≤ 6))) := by
  intro d
  induction d with
  | zero =>
    intro i k hi hk
    obtain ⟨k, rfl, _⟩ := fuel hk
    have e : t.drop i = [] := List.drop_eq_nil_of_le (by omega)
    have h6 : decide ((t.length : Int) ≤ 6) = decide (t.length ≤ 6) := decide_eq_decide.2 (by omega)
    have h1 : ((t.length : Int) ≥ 1) ↔ (1 ≤ t.length) := by omega
    simp only [spec_TrustOk.l0, spec_l1In.f]
    rw [if_neg (by omega), e]
    by_cases h : 1 ≤ t.length
    · rw [if_pos (h1.2 h)]; simp [h6, h]
    · rw [if_neg (fun x => h (h1.1 x))]; simp [h]
  | succ d ih =>
    intro i k hi hk
    obtain ⟨k, rfl, hk'⟩ := fuel hk
    have hlt : i < t.length := by omega
    simp only [spec_TrustOk.l0, spec_l1In.f]
    rw [if_pos (by omega), if_pos (by omega), rd_lt hlt, w64s i (by omega), ih (i + 1) k (by omega) (by omega), List.drop_eq_getElem_cons hlt, List.all_cons, w64 (by omega) (by omega)]
    by_cases h1 : t[i] ≥ 0
    · rw [if_pos h1, decide_eq_true (by omega : (0 : Int) ≤ t[i])]
      by_cases h2 : t[i] < (t.length : Int)
      · rw [decide_eq_true (by omega : t[i] ≤ (t.length : Int) - 1), decide_eq_true h2]; simp
      · rw [decide_eq_false (by omega : ¬ t[i] ≤ (t.length : Int) - 1), decide_eq_false h2]; simp
    · rw [if_neg h1, decide_eq_false (by omega : ¬ (0 : Int) ≤ t[i])]; simp
theorem sTrustOk_f (t : List Int) (hl : t.length < 4611686018427387904) {k : Nat} (hk : t.length < k) : spec_TrustOk.f k t = some (tOk t) := by
  unfold spec_TrustOk.f
  have := sTrustOk_l t hl t.length 0 k (by omega) hk
  simpa [tOk] using this

/-! ### the voice -/
theorem voiceOf_l {t : List Int} (h : tOk t = true) : ∀ (d i k : Nat) (w : Int), inT t w → i + d = t.length → d < k →
    impl_voiceOf.l0 k t w (t.length : Int) (i : Int) = some (if rd t (itT t d w) = itT t d w then itT t d w else -1) := by
  have hlen := tOk_len h
  intro d
  induction d with
  | zero =>
    intro i k w hw hi hk
    obtain ⟨k, rfl, _⟩ := fuel hk
    unfold inT at hw
    simp only [impl_voiceOf.l0]
    rw [if_neg (by omega), if_pos hw.1, if_pos hw.2]
    show _ = some (if rd t w = w then w else -1)
    split <;> rfl
  | succ d ih =>
    intro i k w hw hi hk
    obtain ⟨k, rfl, hk'⟩ := fuel hk
    have hw' := hw
    unfold inT at hw'
    simp only [impl_voiceOf.l0]
    rw [if_pos (by omega), if_pos hw'.1, if_pos hw'.2, w64s i (by omega), ih (i + 1) k (rd t w) (tOk_rd h hw) (by omega) (by omega)]
    rfl
theorem voiceOf_f {t : List Int} (h : tOk t = true) {k : Nat} (hk : t.length < k) {w : Int} (hw : inT t w) : impl_voiceOf.f k t w = some (vo t w) := by
  unfold impl_voiceOf.f vo
  exact voiceOf_l h t.length 0 k w hw (by omega) hk

theorem l9_l {t : List Int} (h : tOk t = true) : ∀ (d i k : Nat) (w : Int), inT t w → i + d = t.length → d < k →
    spec_l9Voice.l0 k t w (i : Int) = some (sv t d w) := by
  have hlen := tOk_len h
  intro d
  induction d with
  | zero =>
    intro i k w hw hi hk
    obtain ⟨k, rfl, _⟩ := fuel hk
    simp only [spec_l9Voice.l0]
    rw [if_neg (by omega)]; rfl
  | succ d ih =>
    intro i k w hw hi hk
    obtain ⟨k, rfl, hk'⟩ := fuel hk
    have hw' := hw
    unfold inT at hw'
    simp only [spec_l9Voice.l0]
    rw [if_pos (by omega), if_pos hw'.1, if_pos hw'.2, w64s i (by omega), ih (i + 1) k (rd t w) (tOk_rd h hw) (by omega) (by omega)]
    show _ = some (if rd t w = w then w else sv t d (rd t w))
    split <;> rfl
theorem l9_f {t : List Int} (h : tOk t = true) {k : Nat} (hk : t.length < k) {w : Int} (hw : inT t w) : spec_l9Voice.f k t w = some (vo t w) := by
  unfold spec_l9Voice.f
  rw [← sv_eq h hw]
  exact l9_l h t.length 0 k w hw (by omega) hk

/-! ### trust made straight -/
def stV (t : List Int) (i : Nat) : Int := if vo t (i : Int) < 0 then rd t (i : Int) else vo t (i : Int)
def ST (t : List Int) : List Int := if tOk t = true then (List.range t.length).map (stV t) else []
theorem ST_snoc (t : List Int) (i : Nat) : (List.range (i + 1)).map (stV t) = (List.range i).map (stV t) ++ [stV t i] := by
  rw [List.range_succ, List.map_append]; rfl
theorem iStraight_l {t : List Int} (h : tOk t = true) : ∀ (d i k : Nat), i + d = t.length → d + t.length < k →
    impl_StraightTrust.l0 k t ((List.range i).map (stV t)) t (t.length : Int) (i : Int) = some ((List.range t.length).map (stV t)) := by
  have hlen := tOk_len h
  intro d
  induction d with
  | zero =>
    intro i k hi hk
    obtain ⟨k, rfl, _⟩ := fuel hk
    simp only [impl_StraightTrust.l0]
    rw [if_neg (by omega), show i = t.length from by omega]
  | succ d ih =>
    intro i k hi hk
    obtain ⟨k, rfl, hk'⟩ := fuel hk
    have hin : inT t (i : Int) := ⟨by omega, by omega⟩
    have ih' := ih (i + 1) k (by omega) (by omega)
    rw [ST_snoc] at ih'
    simp only [impl_StraightTrust.l0]
    rw [if_pos (by omega), if_pos (by omega), if_pos (by omega), voiceOf_f h (by omega) hin]
    simp only [Option.bind_some]
    rw [w64s i (by omega)]
    have hl : ((List.range i).map (stV t)).length < 17592186044416 := by simp; omega
    by_cases hv : vo t (i : Int) ≥ 0
    · rw [if_pos hv, if_pos hl]
      rw [show stV t i = vo t (i : Int) from by unfold stV; rw [if_neg (by omega)]] at ih'
      exact ih'
    · rw [if_neg hv, if_pos hl]
      rw [show stV t i = rd t (i : Int) from by unfold stV; rw [if_pos (by omega)]] at ih'
      exact ih'
theorem iStraight_f (t : List Int) (hl : t.length < 2305843009213693952) {k : Nat} (hk : 2 * t.length < k) : impl_StraightTrust.f k t = some (ST t) := by
  unfold impl_StraightTrust.f ST
  rw [isTrust_f t (by omega) (by omega)]; simp only [Option.bind_some]
  by_cases h : tOk t = true
  · rw [if_pos h, if_pos h]; exact iStraight_l h t.length 0 k (by omega) (by omega)
  · rw [if_neg h, if_neg h]

theorem sStraight_l {t : List Int} (h : tOk t = true) : ∀ (d i k : Nat), i + d = t.length → 2 * d + t.length + 1 < k →
    spec_StraightTrust.l0 k t ((List.range i).map (stV t)) (i : Int) = some ((List.range t.length).map (stV t)) := by
  have hlen := tOk_len h
  intro d
  induction d with
  | zero =>
    intro i k hi hk
    obtain ⟨k, rfl, hk1⟩ := fuel hk
    obtain ⟨k, rfl, hk2⟩ := fuel (show t.length < k by omega)
    simp only [spec_StraightTrust.l0]
    rw [if_neg (by omega), show i = t.length from by omega]
    simp [spec_StraightTrust.j1]
  | succ d ih =>
    intro i k hi hk
    obtain ⟨k, rfl, hk'⟩ := fuel hk
    have hin : inT t (i : Int) := ⟨by omega, by omega⟩
    simp only [spec_StraightTrust.l0]
    rw [if_pos (by omega), sTrustOk_f t (by omega) (by omega)]
    simp only [Option.bind_some]
    obtain ⟨k, rfl, hk2⟩ := fuel (show 2 * d + t.length + 1 < k by omega)
    have ih' := ih (i + 1) k (by omega) (by omega)
    rw [ST_snoc] at ih'
    simp only [spec_StraightTrust.j1]
    rw [if_pos h, l9_f h (by omega) hin]
    simp only [Option.bind_some]
    rw [w64s i (by omega)]
    have hl : ((List.range i).map (stV t)).length < 17592186044416 := by simp; omega
    by_cases hv : vo t (i : Int) < 0
    · rw [if_pos hv, if_pos (by omega), if_pos (by omega), if_pos hl]
      rw [show stV t i = rd t (i : Int) from by unfold stV; rw [if_pos hv]] at ih'
      exact ih'
    · rw [if_neg hv, if_pos hl]
      rw [show stV t i = vo t (i : Int) from by unfold stV; rw [if_neg hv]] at ih'
      exact ih'
theorem sStraight_f (t : List Int) (hl : t.length < 1152921504606846976) {k : Nat} (hk : 3 * t.length + 2 < k) : spec_StraightTrust.f k t = some (ST t) := by
  unfold spec_StraightTrust.f ST
  by_cases h : tOk t = true
  · rw [if_pos h]; exact sStraight_l h t.length 0 k (by omega) (by omega)
  · rw [if_neg h]
    obtain ⟨k, rfl, hk1⟩ := fuel hk
    obtain ⟨k, rfl, hk2⟩ := fuel (show 3 * t.length + 1 < k by omega)
    simp only [spec_StraightTrust.l0]
    have hf : tOk t = false := by simpa using h
    by_cases h0 : (0 : Int) < (t.length : Int)
    · rw [if_pos h0, sTrustOk_f t (by omega) (by omega), hf]
      simp [spec_StraightTrust.j1]
    · rw [if_neg h0]; simp [spec_StraightTrust.j1]

theorem FnExactStraightTrust : laws_FnExactStraightTrust.Pure := by
  intro l0 _ _ _
  by_cases hl : (l0.length : Int) > 1048576
  · exact ⟨0, by unfold laws_FnExactStraightTrust.f; rw [if_pos hl]⟩
  · have hst : (ST l0).length ≤ l0.length := by unfold ST; split <;> simp
    refine ⟨3 * l0.length + 3 + 1, ?_⟩
    have e1 := toIntS_f l0 (by omega) (k := 3 * l0.length + 4) (by omega)
    have e1' := toIntS_f l0 (by omega) (k := 3 * l0.length + 3) (by omega)
    have e2 := eqIntS_f l0 (by omega) (k := 3 * l0.length + 4) (by omega)
    have e3 := sStraight_f l0 (by omega) (k := 3 * l0.length + 4) (by omega)
    have e4 := iStraight_f l0 (by omega) (k := 3 * l0.length + 4) (by omega)
    have e4' := iStraight_f l0 (by omega) (k := 3 * l0.length + 3) (by omega)
    have e5 := eqIntS_f (ST l0) (by omega) (k := 3 * l0.length + 4) (by omega)
    have e5' := eqIntS_f (ST l0) (by omega) (k := 3 * l0.length + 3) (by omega)
    obtain ⟨m, f1, _, _⟩ := mark_f l0 (by omega) (k := 3 * l0.length + 4) (by omega)
    obtain ⟨n, g1, g2, g3⟩ := mark_f (ST l0) (by omega) (k := 3 * l0.length + 3) (by omega)
    have g4 := held_f (m := n) (by omega) g3 (k := 3 * l0.length + 3) (by omega)
    have n1 : ¬ (((l0.length + 1 : Nat) : Int) < 0) := by omega
    have n2 : ¬ ((((ST l0).length + 1 : Nat) : Int) < 0) := by omega
    rw [g2] at g4
    unfold laws_FnExactStraightTrust.f
    rw [if_neg hl, e1]
    simp only [Option.bind_some, e3, e4, e5, e1, e2, f1, if_true, if_neg n1, Bool.not_true, laws_FnExactStraightTrust.j0, Bool.false_eq_true, if_false, g1, g4, if_neg n2, e1', e4', e5']

end Go.Proofs.Ytifffgoldielbaa.Pure
