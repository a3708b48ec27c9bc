/- For every row of numbers and every crowd the program's SpokenFor answers as the reference's, and leaves its row as it was. Condition: none. -/
import Derived.Test.YtifffgoldielbaaPFnExactSpokenForx2
import Derived.Test.YtifffgoldielbaaM
namespace Go.Proofs.Ytifffgoldielbaa.Pure
open Go.RowKit Go.Proofs.Ytifffgoldielbaa.PFnExactSpokenFor Go.Proofs.YtifffgoldielbaaW.PrintWords Go.Proofs.YtifffgoldielbaaW.PrintLast Go.Proofs.YtifffgoldielbaaW.PrintMore Go.Proofs.Ytifffgoldielbaa.M
set_option linter.unusedVariables false
set_option linter.unusedSimpArgs false

/-! ### copies and equal rows -/
theorem toIntS_l (l : List Int) (hl : l.length < 4611686018427387904) : ∀ (d i k : Nat) (m : List Int), i + d = l.length → d < k → m.length = l.length → m.take i = l.take i →
    laws_toIntS.l0 k l m (i : Int) = some l := by
  intro d
  induction d with
  | zero =>
    intro i k m hi hk hm he
    obtain ⟨k, rfl, _⟩ := fuel hk
    simp only [laws_toIntS.l0]
    rw [if_neg (by omega)]
    rw [List.take_of_length_le (by omega), List.take_of_length_le (by omega)] at he
    rw [he]
  | succ d ih =>
    intro i k m hi hk hm he
    obtain ⟨k, rfl, hk'⟩ := fuel hk
    have hlt : i < l.length := by omega
    simp only [laws_toIntS.l0]
    rw [if_pos (by omega), if_pos (by omega), if_pos (by omega), w64s i (by omega), rd_lt hlt]
    refine ih (i + 1) k _ (by omega) (by omega) (by simpa using hm) ?_
    rw [show ((i : Int)).toNat = i from by omega, List.take_succ_eq_append_getElem (by simp; omega), List.take_succ_eq_append_getElem hlt, List.take_set_of_le (Nat.le_refl _), he]
    simp
theorem toIntS_f (l : List Int) (hl : l.length ≤ 1048576) {k : Nat} (hk : l.length < k) : laws_toIntS.f k l = some l := by
  unfold laws_toIntS.f
  rw [if_pos (by omega), if_pos (by omega)]
  exact toIntS_l l (by omega) l.length 0 k _ (by omega) hk (by simp) (by simp)
theorem eqIntS_l (l : List Int) (hl : l.length < 4611686018427387904) : ∀ (d i k : Nat), i + d = l.length → d < k → laws_eqIntS.l0 k l l (i : Int) = some true := by
  intro d
  induction d with
  | zero =>
    intro i k hi hk
    obtain ⟨k, rfl, _⟩ := fuel hk
    simp only [laws_eqIntS.l0]
    rw [if_neg (by omega)]
  | succ d ih =>
    intro i k hi hk
    obtain ⟨k, rfl, hk'⟩ := fuel hk
    simp only [laws_eqIntS.l0]
    rw [if_pos (by omega), if_pos (by omega), if_pos (by omega), if_pos trivial, w64s i (by omega)]
    exact ih (i + 1) k (by omega) (by omega)
theorem eqIntS_f (l : List Int) (hl : l.length < 4611686018427387904) {k : Nat} (hk : l.length < k) : laws_eqIntS.f k l l = some true := by
  unfold laws_eqIntS.f
  rw [if_pos rfl]
  exact eqIntS_l l hl l.length 0 k (by omega) hk

/-! ### who is trust -/
theorem isTrust_l (t : List Int) (hl : t.length < 4611686018427387904) : ∀ (d i k : Nat), i + d = t.length → d < k →
    impl_isTrust.l0 k t t (t.length : Int) (i : Int) = some ((t.drop i).all (fun x => decide (0 ≤ x) && decide (x < (t.length : Int))) && (decide (1 ≤ t.length) && decide (t.length ≤ 6))) := by
  intro d
  induction d with
  | zero =>
    intro i k hi hk
    obtain ⟨k, rfl, _⟩ := fuel hk
    have e : t.drop i = [] := List.drop_eq_nil_of_le (by omega)
    have h6 : decide ((t.length : Int) ≤ 6) = decide (t.length ≤ 6) := decide_eq_decide.2 (by omega)
    have h1 : ((t.length : Int) ≥ 1) ↔ (1 ≤ t.length) := by omega
    simp only [impl_isTrust.l0, impl_arePeople.f]
    rw [if_neg (by omega), e]
    by_cases h : 1 ≤ t.length
    · rw [if_pos (h1.2 h)]; simp [h6, h]
    · rw [if_neg (fun x => h (h1.1 x))]; simp [h]
  | succ d ih =>
    intro i k hi hk
    obtain ⟨k, rfl, hk'⟩ := fuel hk
    have hlt : i < t.length := by omega
    simp only [impl_isTrust.l0]
    rw [if_pos (by omega), if_pos (by omega), if_pos (by omega), rd_lt hlt, w64s i (by omega), ih (i + 1) k (by omega) (by omega), List.drop_eq_getElem_cons hlt, List.all_cons]
    by_cases h1 : t[i] < 0
    · rw [if_pos h1, decide_eq_false (by omega : ¬ (0 : Int) ≤ t[i])]; simp
    · rw [if_neg h1, decide_eq_true (by omega : (0 : Int) ≤ t[i])]
      by_cases h2 : t[i] ≥ (t.length : Int)
      · rw [if_pos h2, decide_eq_false (by omega : ¬ t[i] < (t.length : Int))]; simp
      · rw [if_neg h2, decide_eq_true (by omega : t[i] < (t.length : Int))]; simp
theorem isTrust_f (t : List Int) (hl : t.length < 4611686018427387904) {k : Nat} (hk : t.length < k) : impl_isTrust.f k t = some (tOk t) := by
  unfold impl_isTrust.f
  have := isTrust_l t hl t.length 0 k (by omega) hk
  simpa [tOk] using this

theorem sTrustOk_l (t : List Int) (hl : t.length < 4611686018427387904) : ∀ (d i k : Nat), i + d = t.length → d < k →
    spec_TrustOk.l0 k t (i : Int) = some ((t.drop i).all (fun x => decide (0 ≤ x) && decide (x < (t.length : Int))) && (decide (1 ≤ t.length) && decide (t.length ≤ 6))) := by
  intro d
  induction d with
  | zero =>
    intro i k hi hk
    obtain ⟨k, rfl, _⟩ := fuel hk
    have e : t.drop i = [] := List.drop_eq_nil_of_le (by omega)
    have h6 : decide ((t.length : Int) ≤ 6) = decide (t.length ≤ 6) := decide_eq_decide.2 (by omega)
    have h1 : ((t.length : Int) ≥ 1) ↔ (1 ≤ t.length) := by omega
    simp only [spec_TrustOk.l0, spec_l1In.f]
    rw [if_neg (by omega), e]
    by_cases h : 1 ≤ t.length
    · rw [if_pos (h1.2 h)]; simp [h6, h]
    · rw [if_neg (fun x => h (h1.1 x))]; simp [h]
  | succ d ih =>
    intro i k hi hk
    obtain ⟨k, rfl, hk'⟩ := fuel hk
    have hlt : i < t.length := by omega
    simp only [spec_TrustOk.l0, spec_l1In.f]
    rw [if_pos (by omega), if_pos (by omega), rd_lt hlt, w64s i (by omega), ih (i + 1) k (by omega) (by omega), List.drop_eq_getElem_cons hlt, List.all_cons, w64 (by omega) (by omega)]
    by_cases h1 : t[i] ≥ 0
    · rw [if_pos h1, decide_eq_true (by omega : (0 : Int) ≤ t[i])]
      by_cases h2 : t[i] < (t.length : Int)
      · rw [decide_eq_true (by omega : t[i] ≤ (t.length : Int) - 1), decide_eq_true h2]; simp
      · rw [decide_eq_false (by omega : ¬ t[i] ≤ (t.length : Int) - 1), decide_eq_false h2]; simp
    · rw [if_neg h1, decide_eq_false (by omega : ¬ (0 : Int) ≤ t[i])]; simp
theorem sTrustOk_f (t : List Int) (hl : t.length < 4611686018427387904) {k : Nat} (hk : t.length < k) : spec_TrustOk.f k t = some (tOk t) := by
  unfold spec_TrustOk.f
  have := sTrustOk_l t hl t.length 0 k (by omega) hk
  simpa [tOk] using this

/-! ### the voice -/
theorem voiceOf_l {t : List Int} (h : tOk t = true) : ∀ (d i k : Nat) (w : Int), inT t w → i + d = t.length → d < k →
    impl_voiceOf.l0 k t w (t.length : Int) (i : Int) = some (if rd t (itT t d w) = itT t d w then itT t d w else -1) := by
  have hlen := tOk_len h
  intro d
  induction d with
  | zero =>
    intro i k w hw hi hk
    obtain ⟨k, rfl, _⟩ := fuel hk
    unfold inT at hw
    simp only [impl_voiceOf.l0]
    rw [if_neg (by omega), if_pos hw.1, if_pos hw.2]
    show _ = some (if rd t w = w then w else -1)
    split <;> rfl
  | succ d ih =>
    intro i k w hw hi hk
    obtain ⟨k, rfl, hk'⟩ := fuel hk
    have hw' := hw
    unfold inT at hw'
    simp only [impl_voiceOf.l0]
    rw [if_pos (by omega), if_pos hw'.1, if_pos hw'.2, w64s i (by omega), ih (i + 1) k (rd t w) (tOk_rd h hw) (by omega) (by omega)]
    rfl
theorem voiceOf_f {t : List Int} (h : tOk t = true) {k : Nat} (hk : t.length < k) {w : Int} (hw : inT t w) : impl_voiceOf.f k t w = some (vo t w) := by
  unfold impl_voiceOf.f vo
  exact voiceOf_l h t.length 0 k w hw (by omega) hk

theorem l9_l {t : List Int} (h : tOk t = true) : ∀ (d i k : Nat) (w : Int), inT t w → i + d = t.length → d < k →
    spec_l9Voice.l0 k t w (i : Int) = some (sv t d w) := by
  have hlen := tOk_len h
  intro d
  induction d with
  | zero =>
    intro i k w hw hi hk
    obtain ⟨k, rfl, _⟩ := fuel hk
    simp only [spec_l9Voice.l0]
    rw [if_neg (by omega)]; rfl
  | succ d ih =>
    intro i k w hw hi hk
    obtain ⟨k, rfl, hk'⟩ := fuel hk
    have hw' := hw
    unfold inT at hw'
    simp only [spec_l9Voice.l0]
    rw [if_pos (by omega), if_pos hw'.1, if_pos hw'.2, w64s i (by omega), ih (i + 1) k (rd t w) (tOk_rd h hw) (by omega) (by omega)]
    show _ = some (if rd t w = w then w else sv t d (rd t w))
    split <;> rfl
theorem l9_f {t : List Int} (h : tOk t = true) {k : Nat} (hk : t.length < k) {w : Int} (hw : inT t w) : spec_l9Voice.f k t w = some (vo t w) := by
  unfold spec_l9Voice.f
  rw [← sv_eq h hw]
  exact l9_l h t.length 0 k w hw (by omega) hk

/-! ### crowds -/
/-- A crowd of so many people, 1 to 6. -/
def isC (n : Nat) (a : Int) : Bool := decide (1 ≤ n) && decide (n ≤ 6) && (decide (0 ≤ a) && decide (a < ((2 ^ n : Nat) : Int)))
theorem iCrowd_f {n : Nat} {a : Int} : impl_isCrowd.f (n : Int) a = some (isC n a) := by
  unfold impl_isCrowd.f impl_arePeople.f isC
  by_cases h1 : 1 ≤ n
  · rw [if_pos (by omega), decide_eq_true h1]
    by_cases h2 : n ≤ 6
    · simp only [decide_eq_true (by omega : (n : Int) ≤ 6), Option.bind_some, if_true, decide_eq_true h2, Bool.true_and]
      by_cases h3 : a ≥ 0
      · rw [if_pos h3, if_pos (by omega), shl_one (by omega), decide_eq_true (by omega : 0 ≤ a)]; simp
      · rw [if_neg h3, decide_eq_false (by omega : ¬ 0 ≤ a)]; simp
    · simp only [decide_eq_false (by omega : ¬ (n : Int) ≤ 6), Option.bind_some, decide_eq_false h2]; simp
  · rw [if_neg (by omega), decide_eq_false h1]; simp

theorem sCrowd_f {n : Nat} {a : Int} : spec_CrowdOk.f (n : Int) a = some (isC n a) := by
  unfold spec_CrowdOk.f spec_l1In.f isC
  by_cases h1 : 1 ≤ n
  · rw [if_pos (by omega), decide_eq_true h1]
    by_cases h2 : n ≤ 6
    · have h62 : 2 ^ n ≤ 64 := pow6 h2
      have hpos := Nat.two_pow_pos n
      simp only [decide_eq_true (by omega : (n : Int) ≤ 6), Option.bind_some, if_true, decide_eq_true h2, Bool.true_and]
      rw [if_pos (by omega), shl_one (by omega), w64 (by omega) (by omega)]
      by_cases h3 : a ≥ 0
      · rw [if_pos h3, decide_eq_true (by omega : 0 ≤ a)]
        simp only [Option.bind_some, Bool.true_and]
        congr 1
        exact decide_eq_decide.2 (by omega)
      · rw [if_neg h3, decide_eq_false (by omega : ¬ 0 ≤ a)]; simp
    · simp only [decide_eq_false (by omega : ¬ (n : Int) ≤ 6), Option.bind_some, decide_eq_false h2]; simp
  · rw [if_neg (by omega), decide_eq_false h1]; simp

/-! ### who is spoken for -/
def spB (t : List Int) (c : Nat) (k : Nat) : Bool := decide (0 ≤ vo t (k : Int)) && c.testBit (vo t (k : Int)).toNat
def sp (t : List Int) (c : Nat) : Nat := crN (spB t c) t.length
def SP (t : List Int) (a : Int) : Int := if tOk t = true ∧ isC t.length a = true then (sp t a.toNat : Int) else -1
theorem sp_or {c i : Nat} (hc : c < 2 ^ i) (hi : i < 6) : Go.bits .or .i64 (c : Int) (shl .i64 1 (i : Int)) = ((c ||| 2 ^ i : Nat) : Int) := by
  rw [shl_one (by omega), bor (Nat.lt_of_lt_of_le hc (Nat.pow_le_pow_right (by decide) (by omega))) (Nat.pow_lt_pow_right (by decide) (by omega))]
theorem iSpoken_l {t : List Int} (h : tOk t = true) (c : Nat) (hc : c < 2 ^ 62) : ∀ (d i k : Nat), i + d = t.length → d + t.length < k →
    impl_SpokenFor.l0 k t (c : Int) ((crN (spB t c) i : Nat) : Int) (t.length : Int) (i : Int) = some (sp t c : Int) := by
  have hlen := tOk_len h
  intro d
  induction d with
  | zero =>
    intro i k hi hk
    obtain ⟨k, rfl, _⟩ := fuel hk
    simp only [impl_SpokenFor.l0]
    rw [if_neg (by omega), show i = t.length from by omega]; rfl
  | succ d ih =>
    intro i k hi hk
    obtain ⟨k, rfl, hk'⟩ := fuel hk
    have hin : inT t (i : Int) := ⟨by omega, by omega⟩
    simp only [impl_SpokenFor.l0]
    rw [if_pos (by omega), voiceOf_f h (by omega) hin]
    simp only [Option.bind_some]
    have ih' := ih (i + 1) k (by omega) (by omega)
    rw [w64s i (by omega)]
    by_cases hv : vo t (i : Int) ≥ 0
    · rw [if_pos hv, if_pos (by omega)]
      obtain ⟨v, ev⟩ := Int.eq_ofNat_of_zero_le hv
      have hv2 := vo_ge h hin
      have eb : spB t c i = c.testBit v := by unfold spB; rw [ev]; simp
      rw [ev, shr_and (by omega) hc]
      rw [crN, eb] at ih'
      by_cases hb : c.testBit v = true
      · rw [if_pos hb] at ih' ⊢
        rw [if_pos rfl, if_pos (by omega), sp_or (crN_lt _ i) (by omega)]; exact ih'
      · rw [if_neg hb] at ih' ⊢
        rw [if_neg (by omega)]; exact ih'
    · rw [if_neg hv]
      have eb : spB t c i = false := by unfold spB; rw [decide_eq_false (by omega)]; rfl
      rw [crN, eb, if_neg (by simp)] at ih'; exact ih'
theorem iSpoken_f (t : List Int) (a : Int) (hl : t.length < 2305843009213693952) {k : Nat} (hk : 2 * t.length + 1 < k) : impl_SpokenFor.f k t a = some (SP t a) := by
  obtain ⟨k, rfl, hk'⟩ := fuel hk
  unfold impl_SpokenFor.f SP
  rw [isTrust_f t (by omega) (by omega)]; simp only [Option.bind_some]
  by_cases h : tOk t = true
  · rw [if_pos h, iCrowd_f]
    simp only [Option.bind_some, impl_SpokenFor.j0]
    by_cases hc : isC t.length a = true
    · have h6 := tOk_len h
      have hc' := hc
      simp only [isC, Bool.and_eq_true, decide_eq_true_eq] at hc'
      have hp := pow6 h6.2
      rw [if_pos (show tOk t = true ∧ isC t.length a = true from ⟨h, hc⟩), hc, if_neg (by simp)]
      have := iSpoken_l h a.toNat (by rw [p62]; omega) t.length 0 k (by omega) (by omega)
      rw [show ((a.toNat : Nat) : Int) = a from by omega] at this
      exact this
    · rw [if_neg (show ¬ (tOk t = true ∧ isC t.length a = true) from fun x => hc x.2), show isC t.length a = false from by simpa using hc]; simp
  · rw [if_neg h, if_neg (show ¬ (tOk t = true ∧ isC t.length a = true) from fun x => h x.1)]
    simp only [impl_SpokenFor.j0, if_true]

theorem sSpoken_l {t : List Int} (h : tOk t = true) (c : Nat) (hc : c < 2 ^ 62) : ∀ (d i k : Nat), i + d = t.length → d + t.length < k →
    spec_SpokenFor.l0 k t (c : Int) ((crN (spB t c) i : Nat) : Int) (i : Int) = some (sp t c : Int) := by
  have hlen := tOk_len h
  intro d
  induction d with
  | zero =>
    intro i k hi hk
    obtain ⟨k, rfl, _⟩ := fuel hk
    simp only [spec_SpokenFor.l0]
    rw [if_neg (by omega), show i = t.length from by omega]; rfl
  | succ d ih =>
    intro i k hi hk
    obtain ⟨k, rfl, hk'⟩ := fuel hk
    have hin : inT t (i : Int) := ⟨by omega, by omega⟩
    simp only [spec_SpokenFor.l0]
    rw [if_pos (by omega), l9_f h (by omega) hin]
    simp only [Option.bind_some]
    have ih' := ih (i + 1) k (by omega) (by omega)
    rw [w64s i (by omega)]
    by_cases hv : vo t (i : Int) ≥ 0
    · rw [if_pos hv, if_pos (by omega)]
      obtain ⟨v, ev⟩ := Int.eq_ofNat_of_zero_le hv
      have hv2 := vo_ge h hin
      have eb : spB t c i = c.testBit v := by unfold spB; rw [ev]; simp
      rw [ev, shr_bit (by omega)]
      rw [crN, eb] at ih'
      by_cases hb : c.testBit v = true
      · rw [if_pos hb] at ih' ⊢
        rw [if_pos rfl, if_pos (by omega), sp_or (crN_lt _ i) (by omega)]; exact ih'
      · rw [if_neg hb] at ih' ⊢
        rw [if_neg (by omega)]; exact ih'
    · rw [if_neg hv]
      have eb : spB t c i = false := by unfold spB; rw [decide_eq_false (by omega)]; rfl
      rw [crN, eb, if_neg (by simp)] at ih'; exact ih'
theorem sSpoken_f (t : List Int) (a : Int) (hl : t.length < 2305843009213693952) {k : Nat} (hk : 2 * t.length + 1 < k) : spec_SpokenFor.f k t a = some (SP t a) := by
  obtain ⟨k, rfl, hk'⟩ := fuel hk
  unfold spec_SpokenFor.f SP
  rw [sTrustOk_f t (by omega) (by omega)]; simp only [Option.bind_some]
  by_cases h : tOk t = true
  · rw [if_pos h, sCrowd_f]
    simp only [Option.bind_some, spec_SpokenFor.j0]
    by_cases hc : isC t.length a = true
    · have h6 := tOk_len h
      have hc' := hc
      simp only [isC, Bool.and_eq_true, decide_eq_true_eq] at hc'
      have hp := pow6 h6.2
      rw [if_pos (show tOk t = true ∧ isC t.length a = true from ⟨h, hc⟩), hc, if_neg (by simp)]
      have := sSpoken_l h a.toNat (by rw [p62]; omega) t.length 0 k (by omega) (by omega)
      rw [show ((a.toNat : Nat) : Int) = a from by omega] at this
      exact this
    · rw [if_neg (show ¬ (tOk t = true ∧ isC t.length a = true) from fun x => hc x.2), show isC t.length a = false from by simpa using hc]; simp
  · rw [if_neg h, if_neg (show ¬ (tOk t = true ∧ isC t.length a = true) from fun x => h x.1)]
    simp only [spec_SpokenFor.j0, if_true]

theorem FnExactSpokenFor : laws_FnExactSpokenFor.Pure := by
  intro l0 a1 _ _ _ _
  by_cases hl : (l0.length : Int) > 1048576
  · exact ⟨0, by unfold laws_FnExactSpokenFor.f; rw [if_pos hl]⟩
  · refine ⟨2 * l0.length + 2, ?_⟩
    have e1 := toIntS_f l0 (by omega) (k := 2 * l0.length + 2) (by omega)
    have e2 := eqIntS_f l0 (by omega) (k := 2 * l0.length + 2) (by omega)
    have e3 := sSpoken_f l0 a1 (by omega) (k := 2 * l0.length + 2) (by omega)
    have e4 := iSpoken_f l0 a1 (by omega) (k := 2 * l0.length + 2) (by omega)
    simp [laws_FnExactSpokenFor.f, hl, e1, e2, e3, e4]

end Go.Proofs.Ytifffgoldielbaa.Pure
