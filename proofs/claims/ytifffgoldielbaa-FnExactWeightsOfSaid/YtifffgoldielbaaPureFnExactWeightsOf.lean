/- For every row of numbers the program's WeightsOf answers as the reference's, leaves its row as it was, and answers in new memory. Condition: none. -/
import Derived.Test.YtifffgoldielbaaPFnExactWeightsOfx3
import Derived.Test.YtifffgoldielbaaM
namespace Go.Proofs.Ytifffgoldielbaa.Pure
open Go.RowKit Go.Proofs.Ytifffgoldielbaa.PFnExactWeightsOf Go.Proofs.YtifffgoldielbaaW.PrintWords Go.Proofs.YtifffgoldielbaaW.PrintLast Go.Proofs.YtifffgoldielbaaW.PrintMore Go.Proofs.Ytifffgoldielbaa.M
set_option linter.unusedVariables false
set_option linter.unusedSimpArgs false

/-! ### copies and equal rows -/
theorem toIntS_l (l : List Int) (hl : l.length < 4611686018427387904) : ∀ (d i k : Nat) (m : List Int), i + d = l.length → d < k → m.length = l.length → m.take i = l.take i →
    laws_toIntS.l0 k l m (i : Int) = some l := by
  intro d
  induction d with
  | zero =>
    intro i k m hi hk hm he
    obtain ⟨k, rfl, _⟩ := fuel hk
    simp only [laws_toIntS.l0]
    rw [if_neg (by omega)]
    rw [List.take_of_length_le (by omega), List.take_of_length_le (by omega)] at he
    rw [he]
  | succ d ih =>
    intro i k m hi hk hm he
    obtain ⟨k, rfl, hk'⟩ := fuel hk
    have hlt : i < l.length := by omega
    simp only [laws_toIntS.l0]
    rw [if_pos (by omega), if_pos (by omega), if_pos (by omega), w64s i (by omega), rd_lt hlt]
    refine ih (i + 1) k _ (by omega) (by omega) (by simpa using hm) ?_
    rw [show ((i : Int)).toNat = i from by omega, List.take_succ_eq_append_getElem (by simp; omega), List.take_succ_eq_append_getElem hlt, List.take_set_of_le (Nat.le_refl _), he]
    simp
theorem toIntS_f (l : List Int) (hl : l.length ≤ 1048576) {k : Nat} (hk : l.length < k) : laws_toIntS.f k l = some l := by
  unfold laws_toIntS.f
  rw [if_pos (by omega), if_pos (by omega)]
  exact toIntS_l l (by omega) l.length 0 k _ (by omega) hk (by simp) (by simp)
theorem eqIntS_l (l : List Int) (hl : l.length < 4611686018427387904) : ∀ (d i k : Nat), i + d = l.length → d < k → laws_eqIntS.l0 k l l (i : Int) = some true := by
  intro d
  induction d with
  | zero =>
    intro i k hi hk
    obtain ⟨k, rfl, _⟩ := fuel hk
    simp only [laws_eqIntS.l0]
    rw [if_neg (by omega)]
  | succ d ih =>
    intro i k hi hk
    obtain ⟨k, rfl, hk'⟩ := fuel hk
    simp only [laws_eqIntS.l0]
    rw [if_pos (by omega), if_pos (by omega), if_pos (by omega), if_pos trivial, w64s i (by omega)]
    exact ih (i + 1) k (by omega) (by omega)
theorem eqIntS_f (l : List Int) (hl : l.length < 4611686018427387904) {k : Nat} (hk : l.length < k) : laws_eqIntS.f k l l = some true := by
  unfold laws_eqIntS.f
  rw [if_pos rfl]
  exact eqIntS_l l hl l.length 0 k (by omega) hk

/-! ### marks -/
theorem mark_l : ∀ (d i k : Nat) (l : List Int), l.length < 2305843009213693952 → i + d = l.length → d < k → (∀ j, (h : j < l.length) → j < i → l[j] = ((j + 1 : Nat) : Int)) →
    ∃ m, laws_markIntS.l0 k l ((i + 1 : Nat) : Int) (i : Int) = some (((l.length + 1 : Nat) : Int), m) ∧ m.length = l.length ∧ ∀ j, (h : j < m.length) → m[j] = ((j + 1 : Nat) : Int) := by
  intro d
  induction d with
  | zero =>
    intro i k l hl hi hk hj
    obtain ⟨k, rfl, _⟩ := fuel hk
    simp only [laws_markIntS.l0]
    rw [if_neg (by omega)]
    exact ⟨l, by rw [show i = l.length from by omega], rfl, fun j h => hj j h (by omega)⟩
  | succ d ih =>
    intro i k l hl hi hk hj
    obtain ⟨k, rfl, hk'⟩ := fuel hk
    simp only [laws_markIntS.l0]
    rw [if_pos (by omega), if_pos (by omega), w64s i (by omega), w64s (i + 1) (by omega)]
    obtain ⟨m, e, h1, h2⟩ := ih (i + 1) k (l.set ((i : Int)).toNat ((i + 1 : Nat) : Int)) (by simpa using hl) (by simp; omega) (by omega) (by
      intro j h hji
      rw [List.getElem_set]
      split
      · omega
      · exact hj j (by simpa using h) (by omega))
    refine ⟨m, ?_, by simpa using h1, h2⟩
    rw [e]; simp
theorem mark_f (l : List Int) (hl : l.length < 2305843009213693952) {k : Nat} (hk : l.length < k) :
    ∃ m, laws_markIntS.f k l 1 = some (((l.length + 1 : Nat) : Int), m) ∧ m.length = l.length ∧ ∀ j, (h : j < m.length) → m[j] = ((j + 1 : Nat) : Int) :=
  mark_l l.length 0 k l hl (by omega) hk (fun j _ h => absurd h (Nat.not_lt_zero j))
theorem held_l (m : List Int) (hl : m.length < 2305843009213693952) (hm : ∀ j, (h : j < m.length) → m[j] = ((j + 1 : Nat) : Int)) : ∀ (d i k : Nat), i + d = m.length → d < k →
    laws_heldIntS.l0 k m ((i + 1 : Nat) : Int) (i : Int) = some ((m.length + 1 : Nat) : Int) := by
  intro d
  induction d with
  | zero =>
    intro i k hi hk
    obtain ⟨k, rfl, _⟩ := fuel hk
    simp only [laws_heldIntS.l0]
    rw [if_neg (by omega), show i = m.length from by omega]
  | succ d ih =>
    intro i k hi hk
    obtain ⟨k, rfl, hk'⟩ := fuel hk
    have hlt : i < m.length := by omega
    simp only [laws_heldIntS.l0]
    rw [if_pos (by omega), if_pos (by omega), rd_lt hlt, if_pos (hm i hlt), w64s i (by omega), w64s (i + 1) (by omega)]
    exact ih (i + 1) k (by omega) (by omega)
theorem held_f {m : List Int} (hl : m.length < 2305843009213693952) (hm : ∀ j, (h : j < m.length) → m[j] = ((j + 1 : Nat) : Int)) {k : Nat} (hk : m.length < k) :
    laws_heldIntS.f k m 1 = some ((m.length + 1 : Nat) : Int) := held_l m hl hm m.length 0 k (by omega) hk

/-! ### who is trust -/
theorem isTrust_l (t : List Int) (hl : t.length < 4611686018427387904) : ∀ (d i k : Nat), i + d = t.length → d < k →
    impl_isTrust.l0 k t t (t.length : Int) (i : Int) = some ((t.drop i).all (fun x => decide (0 ≤ x) && decide (x < (t.length : Int))) && (decide (1 ≤ t.length) && decide (t.length ≤ 6))) := by
  intro d
  induction d with
  | zero =>
    intro i k hi hk
    obtain ⟨k, rfl, _⟩ := fuel hk
    have e : t.drop i = [] := List.drop_eq_nil_of_le (by omega)
    have h6 : decide ((t.length : Int) ≤ 6) = decide (t.length ≤ 6) := decide_eq_decide.2 (by omega)
    have h1 : ((t.length : Int) ≥ 1) ↔ (1 ≤ t.length) := by omega
    simp only [impl_isTrust.l0, impl_arePeople.f]
    rw [if_neg (by omega), e]
    by_cases h : 1 ≤ t.length
    · rw [if_pos (h1.2 h)]; simp [h6, h]
    · rw [if_neg (fun x => h (h1.1 x))]; simp [h]
  | succ d ih =>
    intro i k hi hk
    obtain ⟨k, rfl, hk'⟩ := fuel hk
    have hlt : i < t.length := by omega
    simp only [impl_isTrust.l0]
    rw [if_pos (by omega), if_pos (by omega), if_pos (by omega), rd_lt hlt, w64s i (by omega), ih (i + 1) k (by omega) (by omega), List.drop_eq_getElem_cons hlt, List.all_cons]
    by_cases h1 : t[i] < 0
    · rw [if_pos h1, decide_eq_false (by omega : ¬ (0 : Int) ≤ t[i])]; simp
    · rw [if_neg h1, decide_eq_true (by omega : (0 : Int) ≤ t[i])]
      by_cases h2 : t[i] ≥ (t.length : Int)
      · rw [if_pos h2, decide_eq_false (by omega : ¬ t[i] < (t.length : Int))]; simp
      · rw [if_neg h2, decide_eq_true (by omega : t[i] < (t.length : Int))]; simp
theorem isTrust_f (t : List Int) (hl : t.length < 4611686018427387904) {k : Nat} (hk : t.length < k) : impl_isTrust.f k t = some (tOk t) := by
  unfold impl_isTrust.f
  have := isTrust_l t hl t.length 0 k (by omega) hk
  simpa [tOk] using this

theorem sTrustOk_l (t : List Int) (hl : t.length < 4611686018427387904) : ∀ (d i k : Nat), i + d = t.length → d < k →
    spec_TrustOk.l0 k t (i : Int) = some ((t.drop i).all (fun x => decide (0 ≤ x) && decide (x < (t.length : Int))) && (decide (1 ≤ t.length) && decide (t.length ≤ 6))) := by
  intro d
  induction d with
  | zero =>
    intro i k hi hk
    obtain ⟨k, rfl, _⟩ := fuel hk
    have e : t.drop i = [] := List.drop_eq_nil_of_le (by omega)
    have h6 : decide ((t.length : Int) ≤ 6) = decide (t.length ≤ 6) := decide_eq_decide.2 (by omega)
    have h1 : ((t.length : Int) ≥ 1) ↔ (1 ≤ t.length) := by omega
    simp only [spec_TrustOk.l0, spec_l1In.f]
    rw [if_neg (by omega), e]
    by_cases h : 1 ≤ t.length
    · rw [if_pos (h1.2 h)]; simp [h6, h]
    · rw [if_neg (fun x => h (h1.1 x))]; simp [h]
  | succ d ih =>
    intro i k hi hk
    obtain ⟨k, rfl, hk'⟩ := fuel hk
    have hlt : i < t.length := by omega
    simp only [spec_TrustOk.l0, spec_l1In.f]
    rw [if_pos (by omega), if_pos (by omega), rd_lt hlt, w64s i (by omega), ih (i + 1) k (by omega) (by omega), List.drop_eq_getElem_cons hlt, List.all_cons, w64 (by omega) (by omega)]
    by_cases h1 : t[i] ≥ 0
    · rw [if_pos h1, decide_eq_true (by omega : (0 : Int) ≤ t[i])]
      by_cases h2 : t[i] < (t.length : Int)
      · rw [decide_eq_true (by omega : t[i] ≤ (t.length : Int) - 1), decide_eq_true h2]; simp
      · rw [decide_eq_false (by omega : ¬ t[i] ≤ (t.length : Int) - 1), decide_eq_false h2]; simp
    · rw [if_neg h1, decide_eq_false (by omega : ¬ (0 : Int) ≤ t[i])]; simp
theorem sTrustOk_f (t : List Int) (hl : t.length < 4611686018427387904) {k : Nat} (hk : t.length < k) : spec_TrustOk.f k t = some (tOk t) := by
  unfold spec_TrustOk.f
  have := sTrustOk_l t hl t.length 0 k (by omega) hk
  simpa [tOk] using this

/-! ### the voice -/
theorem voiceOf_l {t : List Int} (h : tOk t = true) : ∀ (d i k : Nat) (w : Int), inT t w → i + d = t.length → d < k →
    impl_voiceOf.l0 k t w (t.length : Int) (i : Int) = some (if rd t (itT t d w) = itT t d w then itT t d w else -1) := by
  have hlen := tOk_len h
  intro d
  induction d with
  | zero =>
    intro i k w hw hi hk
    obtain ⟨k, rfl, _⟩ := fuel hk
    unfold inT at hw
    simp only [impl_voiceOf.l0]
    rw [if_neg (by omega), if_pos hw.1, if_pos hw.2]
    show _ = some (if rd t w = w then w else -1)
    split <;> rfl
  | succ d ih =>
    intro i k w hw hi hk
    obtain ⟨k, rfl, hk'⟩ := fuel hk
    have hw' := hw
    unfold inT at hw'
    simp only [impl_voiceOf.l0]
    rw [if_pos (by omega), if_pos hw'.1, if_pos hw'.2, w64s i (by omega), ih (i + 1) k (rd t w) (tOk_rd h hw) (by omega) (by omega)]
    rfl
theorem voiceOf_f {t : List Int} (h : tOk t = true) {k : Nat} (hk : t.length < k) {w : Int} (hw : inT t w) : impl_voiceOf.f k t w = some (vo t w) := by
  unfold impl_voiceOf.f vo
  exact voiceOf_l h t.length 0 k w hw (by omega) hk

theorem l9_l {t : List Int} (h : tOk t = true) : ∀ (d i k : Nat) (w : Int), inT t w → i + d = t.length → d < k →
    spec_l9Voice.l0 k t w (i : Int) = some (sv t d w) := by
  have hlen := tOk_len h
  intro d
  induction d with
  | zero =>
    intro i k w hw hi hk
    obtain ⟨k, rfl, _⟩ := fuel hk
    simp only [spec_l9Voice.l0]
    rw [if_neg (by omega)]; rfl
  | succ d ih =>
    intro i k w hw hi hk
    obtain ⟨k, rfl, hk'⟩ := fuel hk
    have hw' := hw
    unfold inT at hw'
    simp only [spec_l9Voice.l0]
    rw [if_pos (by omega), if_pos hw'.1, if_pos hw'.2, w64s i (by omega), ih (i + 1) k (rd t w) (tOk_rd h hw) (by omega) (by omega)]
    show _ = some (if rd t w = w then w else sv t d (rd t w))
    split <;> rfl
theorem l9_f {t : List Int} (h : tOk t = true) {k : Nat} (hk : t.length < k) {w : Int} (hw : inT t w) : spec_l9Voice.f k t w = some (vo t w) := by
  unfold spec_l9Voice.f
  rw [← sv_eq h hw]
  exact l9_l h t.length 0 k w hw (by omega) hk

/-! ### weights -/
def voIs (t : List Int) (w : Nat) (j : Nat) : Bool := decide (vo t (j : Int) = (w : Int))
def wtL (t : List Int) (i : Nat) : List Int := (List.range t.length).map fun w => ((ctN (voIs t w) i : Nat) : Int)
def WT (t : List Int) : List Int := if tOk t = true then wtL t t.length else []
theorem wtL_len (t : List Int) (i : Nat) : (wtL t i).length = t.length := by simp [wtL]
theorem wtL_at (t : List Int) (i w : Nat) (h : w < (wtL t i).length) : (wtL t i)[w] = ((ctN (voIs t w) i : Nat) : Int) := by simp [wtL]
theorem wtL_put {t : List Int} {i v : Nat} (hv : v < t.length) (e : vo t (i : Int) = (v : Int)) : (wtL t i).set v (rd (wtL t i) (v : Int) + 1) = wtL t (i + 1) := by
  have hr : rd (wtL t i) (v : Int) = ((ctN (voIs t v) i : Nat) : Int) := by rw [rd_lt (by rw [wtL_len]; exact hv), wtL_at]
  rw [hr]
  apply List.ext_getElem (by simp [wtL_len])
  intro w h1 h2
  have e1 : (wtL t (i + 1))[w] = ((ctN (voIs t w) (i + 1) : Nat) : Int) := wtL_at t (i + 1) w h2
  rw [e1, List.getElem_set]
  have hw : (voIs t w i = true) ↔ v = w := by unfold voIs; rw [decide_eq_true_iff, e]; omega
  by_cases hvw : v = w
  · rw [if_pos hvw]
    subst hvw
    simp only [ctN]; rw [if_pos (hw.2 rfl)]; omega
  · rw [if_neg hvw, wtL_at]
    simp only [ctN]; rw [if_neg (fun x => hvw (hw.1 x))]; omega
theorem wtL_same {t : List Int} {i : Nat} (e : vo t (i : Int) < 0) : wtL t i = wtL t (i + 1) := by
  unfold wtL
  apply List.map_congr_left
  intro w _
  simp only [ctN]
  rw [if_neg (by unfold voIs; rw [decide_eq_true_iff]; omega)]; simp
theorem iWeights_l {t : List Int} (h : tOk t = true) : ∀ (d i k : Nat), i + d = t.length → d + t.length < k →
    impl_WeightsOf.l0 k t (wtL t i) (t.length : Int) (i : Int) = some (wtL t t.length) := by
  have hlen := tOk_len h
  intro d
  induction d with
  | zero =>
    intro i k hi hk
    obtain ⟨k, rfl, _⟩ := fuel hk
    simp only [impl_WeightsOf.l0]
    rw [if_neg (by omega), show i = t.length from by omega]
  | succ d ih =>
    intro i k hi hk
    obtain ⟨k, rfl, hk'⟩ := fuel hk
    have hin : inT t (i : Int) := ⟨by omega, by omega⟩
    have ih' := ih (i + 1) k (by omega) (by omega)
    have hv2 := vo_ge h hin
    simp only [impl_WeightsOf.l0]
    rw [if_pos (by omega), voiceOf_f h (by omega) hin]
    simp only [Option.bind_some]
    rw [w64s i (by omega)]
    by_cases hv : vo t (i : Int) ≥ 0
    · obtain ⟨v, ev⟩ := Int.eq_ofNat_of_zero_le hv
      have hvl : v < t.length := by omega
      have hvl2 : v < (wtL t i).length := by rw [wtL_len]; exact hvl
      have hb : rd (wtL t i) (v : Int) = ((ctN (voIs t v) i : Nat) : Int) := by rw [rd_lt hvl2, wtL_at]
      rw [if_pos hv, if_pos (by omega), if_pos (by rw [wtL_len]; omega), ev]
      have hc := ctN_le (voIs t v) i
      rw [w64 (by omega) (by omega), show ((v : Int)).toNat = v from by omega, wtL_put hvl ev]
      exact ih'
    · rw [if_neg hv, wtL_same (by omega)]; exact ih'
theorem iWeights_f (t : List Int) (hl : t.length ≤ 1048576) {k : Nat} (hk : 2 * t.length < k) : impl_WeightsOf.f k t = some (WT t) := by
  unfold impl_WeightsOf.f WT
  rw [isTrust_f t (by omega) (by omega)]; simp only [Option.bind_some]
  by_cases h : tOk t = true
  · rw [if_pos h, if_pos h, if_pos (by omega), if_pos (by omega)]
    have e : List.replicate ((t.length : Int)).toNat (0 : Int) = wtL t 0 := by
      apply List.ext_getElem (by simp [wtL_len])
      intro w h1 h2
      rw [wtL_at]; simp [ctN]
    rw [e]
    exact iWeights_l h t.length 0 k (by omega) (by omega)
  · rw [if_neg h, if_neg h]

def wtV (t : List Int) (w : Nat) : Int := ((ctN (voIs t w) t.length : Nat) : Int)
theorem WT_snoc (t : List Int) (i : Nat) : (List.range (i + 1)).map (wtV t) = (List.range i).map (wtV t) ++ [wtV t i] := by
  rw [List.range_succ, List.map_append]; rfl
theorem sWeights_in {t : List Int} (h : tOk t = true) (w : Nat) (hw : w < t.length) (q : List Int) (hq : q.length < 17592186044416) : ∀ (d i k : Nat), i + d = t.length → d + t.length < k →
    ∃ k', k ≤ k' + d + 1 ∧ spec_WeightsOf.l1 k t q (w : Int) ((ctN (voIs t w) i : Nat) : Int) (i : Int) = spec_WeightsOf.l0 k' t (q ++ [wtV t w]) ((w + 1 : Nat) : Int) := by
  have hlen := tOk_len h
  intro d
  induction d with
  | zero =>
    intro i k hi hk
    obtain ⟨k, rfl, _⟩ := fuel hk
    refine ⟨k, by omega, ?_⟩
    simp only [spec_WeightsOf.l1]
    rw [if_neg (by omega), if_pos hq, w64s w (by omega), show i = t.length from by omega]; rfl
  | succ d ih =>
    intro i k hi hk
    obtain ⟨k, rfl, hk'⟩ := fuel hk
    have hin : inT t (i : Int) := ⟨by omega, by omega⟩
    obtain ⟨k', h1, h2⟩ := ih (i + 1) k (by omega) (by omega)
    refine ⟨k', by omega, ?_⟩
    rw [← h2]
    have hc := ctN_le (voIs t w) i
    simp only [spec_WeightsOf.l1]
    rw [if_pos (by omega), l9_f h (by omega) hin]
    simp only [Option.bind_some]
    rw [w64s i (by omega)]
    by_cases hv : vo t (i : Int) = (w : Int)
    · rw [if_pos hv, w64s _ (by omega)]
      simp only [ctN]; rw [if_pos (by unfold voIs; exact decide_eq_true hv)]
    · rw [if_neg hv]
      simp only [ctN]; rw [if_neg (by unfold voIs; simpa using hv)]; simp
theorem sWeights_l {t : List Int} (h : tOk t = true) : ∀ (d i k : Nat), i + d = t.length → d * (t.length + 3) + 2 * t.length + 3 < k →
    spec_WeightsOf.l0 k t ((List.range i).map (wtV t)) (i : Int) = some ((List.range t.length).map (wtV t)) := by
  have hlen := tOk_len h
  intro d
  induction d with
  | zero =>
    intro i k hi hk
    obtain ⟨k, rfl, hk1⟩ := fuel hk
    obtain ⟨k, rfl, hk2⟩ := fuel (show 2 * t.length + 2 < k by omega)
    simp only [spec_WeightsOf.l0]
    rw [if_neg (by omega), show i = t.length from by omega]
    simp [spec_WeightsOf.j1]
  | succ d ih =>
    intro i k hi hk
    obtain ⟨k, rfl, hk'⟩ := fuel hk
    rw [Nat.add_mul] at hk'
    simp only [spec_WeightsOf.l0]
    rw [if_pos (by omega), sTrustOk_f t (by omega) (by omega)]
    simp only [Option.bind_some]
    obtain ⟨k, rfl, hk2⟩ := fuel (show d * (t.length + 3) + t.length + 2 + 2 * t.length + 3 < k by omega)
    simp only [spec_WeightsOf.j1]
    rw [if_pos h]
    obtain ⟨k', h1, h2⟩ := sWeights_in h i (by omega) ((List.range i).map (wtV t)) (by simp; omega) t.length 0 k (by omega) (by omega)
    have h2' : spec_WeightsOf.l1 k t ((List.range i).map (wtV t)) (i : Int) 0 0 = _ := h2
    rw [h2', ← WT_snoc]
    exact ih (i + 1) k' (by omega) (by omega)
theorem sWeights_f (t : List Int) (hl : t.length ≤ 1048576) {k : Nat} (hk : 200 + t.length < k) : spec_WeightsOf.f k t = some (WT t) := by
  unfold spec_WeightsOf.f WT
  by_cases h : tOk t = true
  · rw [if_pos h]
    have hlen := tOk_len h
    have hm : t.length * (t.length + 3) ≤ 6 * 9 := Nat.mul_le_mul hlen.2 (by omega)
    exact sWeights_l h t.length 0 k (by omega) (by omega)
  · rw [if_neg h]
    obtain ⟨k, rfl, hk1⟩ := fuel hk
    obtain ⟨k, rfl, hk2⟩ := fuel (show 199 + t.length < k by omega)
    simp only [spec_WeightsOf.l0]
    have hf : tOk t = false := by simpa using h
    by_cases h0 : (0 : Int) < (t.length : Int)
    · rw [if_pos h0, sTrustOk_f t (by omega) (by omega), hf]
      simp [spec_WeightsOf.j1]
    · rw [if_neg h0]; simp [spec_WeightsOf.j1]

theorem FnExactWeightsOf : laws_FnExactWeightsOf.Pure := by
  intro l0 _ _ _
  by_cases hl : (l0.length : Int) > 1048576
  · exact ⟨0, by unfold laws_FnExactWeightsOf.f; rw [if_pos hl]⟩
  · have hst : (WT l0).length ≤ l0.length := by unfold WT; split <;> simp [wtL]
    refine ⟨200 + l0.length + l0.length + 3 + 1, ?_⟩
    have e1 := toIntS_f l0 (by omega) (k := 200 + l0.length + l0.length + 4) (by omega)
    have e1' := toIntS_f l0 (by omega) (k := 200 + l0.length + l0.length + 3) (by omega)
    have e2 := eqIntS_f l0 (by omega) (k := 200 + l0.length + l0.length + 4) (by omega)
    have e3 := sWeights_f l0 (by omega) (k := 200 + l0.length + l0.length + 4) (by omega)
    have e4 := iWeights_f l0 (by omega) (k := 200 + l0.length + l0.length + 4) (by omega)
    have e4' := iWeights_f l0 (by omega) (k := 200 + l0.length + l0.length + 3) (by omega)
    have e5 := eqIntS_f (WT l0) (by omega) (k := 200 + l0.length + l0.length + 4) (by omega)
    have e5' := eqIntS_f (WT l0) (by omega) (k := 200 + l0.length + l0.length + 3) (by omega)
    obtain ⟨m, f1, _, _⟩ := mark_f l0 (by omega) (k := 200 + l0.length + l0.length + 4) (by omega)
    obtain ⟨n, g1, g2, g3⟩ := mark_f (WT l0) (by omega) (k := 200 + l0.length + l0.length + 3) (by omega)
    have g4 := held_f (m := n) (by omega) g3 (k := 200 + l0.length + l0.length + 3) (by omega)
    have n1 : ¬ (((l0.length + 1 : Nat) : Int) < 0) := by omega
    have n2 : ¬ ((((WT l0).length + 1 : Nat) : Int) < 0) := by omega
    rw [g2] at g4
    unfold laws_FnExactWeightsOf.f
    rw [if_neg hl, e1]
    simp only [Option.bind_some, e3, e4, e5, e1, e2, f1, if_true, if_neg n1, Bool.not_true, laws_FnExactWeightsOf.j0, Bool.false_eq_true, if_false, g1, g4, if_neg n2, e1', e4', e5']

end Go.Proofs.Ytifffgoldielbaa.Pure
