/- All weights and the heads of who is lost are together the people, and a weight is not 0 just for those who speak alone. Condition: the code is of bytes. -/
import Derived.Test.YtiiddglmoffonaaPFnWeightsOfx4
import Derived.Test.YtiiddglmoffonaaM
namespace Go.Proofs.Ytiiddglmoffonaa.Pure
open Go.RowKit Go.Proofs.Ytiiddglmoffonaa.PFnWeightsOf Go.Proofs.YtiiddglmoffonaaW.PrintWords Go.Proofs.YtiiddglmoffonaaW.PrintLast Go.Proofs.YtiiddglmoffonaaW.PrintMore Go.Proofs.Ytiiddglmoffonaa.M
set_option linter.unusedVariables false
set_option linter.unusedSimpArgs false

theorem sameInts_l (l : List Int) (hl : l.length < 4611686018427387904) : ∀ (d i k : Nat), i + d = l.length → d < k → laws_sameInts.l0 k l l (i : Int) = some true := by
  intro d
  induction d with
  | zero =>
    intro i k hi hk
    obtain ⟨k, rfl, _⟩ := fuel hk
    simp only [laws_sameInts.l0]
    rw [if_neg (by omega)]
  | succ d ih =>
    intro i k hi hk
    obtain ⟨k, rfl, hk'⟩ := fuel hk
    simp only [laws_sameInts.l0]
    rw [if_pos (by omega), if_pos (by omega), if_pos (by omega), if_pos trivial, w64s i (by omega)]
    exact ih (i + 1) k (by omega) (by omega)
theorem sameInts_f (l : List Int) (hl : l.length < 4611686018427387904) {k : Nat} (hk : l.length < k) : laws_sameInts.f k l l = some true := by
  unfold laws_sameInts.f
  rw [if_pos rfl]
  exact sameInts_l l hl l.length 0 k (by omega) hk

/-! ### who is trust -/
theorem isTrust_l (t : List Int) (hl : t.length < 4611686018427387904) : ∀ (d i k : Nat), i + d = t.length → d < k →
    impl_isTrust.l0 k t t (t.length : Int) (i : Int) = some ((t.drop i).all (fun x => decide (0 ≤ x) && decide (x < (t.length : Int))) && (decide (1 ≤ t.length) && decide (t.length ≤ 6))) := by
  intro d
  induction d with
  | zero =>
    intro i k hi hk
    obtain ⟨k, rfl, _⟩ := fuel hk
    have e : t.drop i = [] := List.drop_eq_nil_of_le (by omega)
    have h6 : decide ((t.length : Int) ≤ 6) = decide (t.length ≤ 6) := decide_eq_decide.2 (by omega)
    have h1 : ((t.length : Int) ≥ 1) ↔ (1 ≤ t.length) := by omega
    simp only [impl_isTrust.l0, impl_arePeople.f]
    rw [if_neg (by omega), e]
    by_cases h : 1 ≤ t.length
    · rw [if_pos (h1.2 h)]; simp [h6, h]
    · rw [if_neg (fun x => h (h1.1 x))]; simp [h]
  | succ d ih =>
    intro i k hi hk
    obtain ⟨k, rfl, hk'⟩ := fuel hk
    have hlt : i < t.length := by omega
    simp only [impl_isTrust.l0]
    rw [if_pos (by omega), if_pos (by omega), if_pos (by omega), rd_lt hlt, w64s i (by omega), ih (i + 1) k (by omega) (by omega), List.drop_eq_getElem_cons hlt, List.all_cons]
    by_cases h1 : t[i] < 0
    · rw [if_pos h1, decide_eq_false (by omega : ¬ (0 : Int) ≤ t[i])]; simp
    · rw [if_neg h1, decide_eq_true (by omega : (0 : Int) ≤ t[i])]
      by_cases h2 : t[i] ≥ (t.length : Int)
      · rw [if_pos h2, decide_eq_false (by omega : ¬ t[i] < (t.length : Int))]; simp
      · rw [if_neg h2, decide_eq_true (by omega : t[i] < (t.length : Int))]; simp
theorem isTrust_f (t : List Int) (hl : t.length < 4611686018427387904) {k : Nat} (hk : t.length < k) : impl_isTrust.f k t = some (tOk t) := by
  unfold impl_isTrust.f
  have := isTrust_l t hl t.length 0 k (by omega) hk
  simpa [tOk] using this

theorem iTrustOk_f (t : List Int) (hl : t.length < 4611686018427387904) {k : Nat} (hk : t.length < k) : impl_TrustOk.f k t = some (tOk t) := by
  unfold impl_TrustOk.f; rw [isTrust_f t hl hk]; rfl

theorem sTrustOk_l (t : List Int) (hl : t.length < 4611686018427387904) : ∀ (d i k : Nat), i + d = t.length → d < k →
    spec_TrustOk.l0 k t (i : Int) = some ((t.drop i).all (fun x => decide (0 ≤ x) && decide (x < (t.length : Int))) && (decide (1 ≤ t.length) && decide (t.length ≤ 6))) := by
  intro d
  induction d with
  | zero =>
    intro i k hi hk
    obtain ⟨k, rfl, _⟩ := fuel hk
    have e : t.drop i = [] := List.drop_eq_nil_of_le (by omega)
    have h6 : decide ((t.length : Int) ≤ 6) = decide (t.length ≤ 6) := decide_eq_decide.2 (by omega)
    have h1 : ((t.length : Int) ≥ 1) ↔ (1 ≤ t.length) := by omega
    simp only [spec_TrustOk.l0, spec_l1In.f]
    rw [if_neg (by omega), e]
    by_cases h : 1 ≤ t.length
    · rw [if_pos (h1.2 h)]; simp [h6, h]
    · rw [if_neg (fun x => h (h1.1 x))]; simp [h]
  | succ d ih =>
    intro i k hi hk
    obtain ⟨k, rfl, hk'⟩ := fuel hk
    have hlt : i < t.length := by omega
    simp only [spec_TrustOk.l0, spec_l1In.f]
    rw [if_pos (by omega), if_pos (by omega), rd_lt hlt, w64s i (by omega), ih (i + 1) k (by omega) (by omega), List.drop_eq_getElem_cons hlt, List.all_cons, w64 (by omega) (by omega)]
    by_cases h1 : t[i] ≥ 0
    · rw [if_pos h1, decide_eq_true (by omega : (0 : Int) ≤ t[i])]
      by_cases h2 : t[i] < (t.length : Int)
      · rw [decide_eq_true (by omega : t[i] ≤ (t.length : Int) - 1), decide_eq_true h2]; simp
      · rw [decide_eq_false (by omega : ¬ t[i] ≤ (t.length : Int) - 1), decide_eq_false h2]; simp
    · rw [if_neg h1, decide_eq_false (by omega : ¬ (0 : Int) ≤ t[i])]; simp
theorem sTrustOk_f (t : List Int) (hl : t.length < 4611686018427387904) {k : Nat} (hk : t.length < k) : spec_TrustOk.f k t = some (tOk t) := by
  unfold spec_TrustOk.f
  have := sTrustOk_l t hl t.length 0 k (by omega) hk
  simpa [tOk] using this

/-! ### the voice -/
theorem voiceOf_l {t : List Int} (h : tOk t = true) : ∀ (d i k : Nat) (w : Int), inT t w → i + d = t.length → d < k →
    impl_voiceOf.l0 k t w (t.length : Int) (i : Int) = some (if rd t (itT t d w) = itT t d w then itT t d w else -1) := by
  have hlen := tOk_len h
  intro d
  induction d with
  | zero =>
    intro i k w hw hi hk
    obtain ⟨k, rfl, _⟩ := fuel hk
    unfold inT at hw
    simp only [impl_voiceOf.l0]
    rw [if_neg (by omega), if_pos hw.1, if_pos hw.2]
    show _ = some (if rd t w = w then w else -1)
    split <;> rfl
  | succ d ih =>
    intro i k w hw hi hk
    obtain ⟨k, rfl, hk'⟩ := fuel hk
    have hw' := hw
    unfold inT at hw'
    simp only [impl_voiceOf.l0]
    rw [if_pos (by omega), if_pos hw'.1, if_pos hw'.2, w64s i (by omega), ih (i + 1) k (rd t w) (tOk_rd h hw) (by omega) (by omega)]
    rfl
theorem voiceOf_f {t : List Int} (h : tOk t = true) {k : Nat} (hk : t.length < k) {w : Int} (hw : inT t w) : impl_voiceOf.f k t w = some (vo t w) := by
  unfold impl_voiceOf.f vo
  exact voiceOf_l h t.length 0 k w hw (by omega) hk

theorem l9_l {t : List Int} (h : tOk t = true) : ∀ (d i k : Nat) (w : Int), inT t w → i + d = t.length → d < k →
    spec_l9Voice.l0 k t w (i : Int) = some (sv t d w) := by
  have hlen := tOk_len h
  intro d
  induction d with
  | zero =>
    intro i k w hw hi hk
    obtain ⟨k, rfl, _⟩ := fuel hk
    simp only [spec_l9Voice.l0]
    rw [if_neg (by omega)]; rfl
  | succ d ih =>
    intro i k w hw hi hk
    obtain ⟨k, rfl, hk'⟩ := fuel hk
    have hw' := hw
    unfold inT at hw'
    simp only [spec_l9Voice.l0]
    rw [if_pos (by omega), if_pos hw'.1, if_pos hw'.2, w64s i (by omega), ih (i + 1) k (rd t w) (tOk_rd h hw) (by omega) (by omega)]
    show _ = some (if rd t w = w then w else sv t d (rd t w))
    split <;> rfl
theorem l9_f {t : List Int} (h : tOk t = true) {k : Nat} (hk : t.length < k) {w : Int} (hw : inT t w) : spec_l9Voice.f k t w = some (vo t w) := by
  unfold spec_l9Voice.f
  rw [← sv_eq h hw]
  exact l9_l h t.length 0 k w hw (by omega) hk

/-- What LostOf answers. -/
def lo (t : List Int) : Nat := crN (fun k => decide (vo t (k : Int) < 0)) t.length
def LO (t : List Int) : Int := if tOk t = true then (lo t : Int) else -1
theorem lost_or {c i : Nat} (hc : c < 2 ^ i) (hi : i < 6) : Go.bits .or .i64 (c : Int) (shl .i64 1 (i : Int)) = ((c ||| 2 ^ i : Nat) : Int) := by
  rw [shl_one (by omega), bor (Nat.lt_of_lt_of_le hc (Nat.pow_le_pow_right (by decide) (by omega))) (Nat.pow_lt_pow_right (by decide) (by omega))]
theorem iLost_l {t : List Int} (h : tOk t = true) : ∀ (d i k : Nat), i + d = t.length → d + t.length < k →
    impl_LostOf.l0 k t ((crN (fun k => decide (vo t (k : Int) < 0)) i : Nat) : Int) (t.length : Int) (i : Int) = some (lo t : Int) := by
  have hlen := tOk_len h
  intro d
  induction d with
  | zero =>
    intro i k hi hk
    obtain ⟨k, rfl, _⟩ := fuel hk
    simp only [impl_LostOf.l0]
    rw [if_neg (by omega), show i = t.length from by omega]; rfl
  | succ d ih =>
    intro i k hi hk
    obtain ⟨k, rfl, hk'⟩ := fuel hk
    simp only [impl_LostOf.l0]
    rw [if_pos (by omega), voiceOf_f h (by omega) (⟨by omega, by omega⟩ : inT t (i : Int))]
    simp only [Option.bind_some]
    have ih' := ih (i + 1) k (by omega) (by omega)
    rw [w64s i (by omega)]
    by_cases hv : vo t (i : Int) < 0
    · rw [if_pos hv, if_pos (by omega), lost_or (crN_lt _ i) (by omega)]
      rw [crN, if_pos (decide_eq_true hv)] at ih'; exact ih'
    · rw [if_neg hv]
      rw [crN, if_neg (by simpa using hv)] at ih'; exact ih'
theorem iLostOf_f (t : List Int) (hl : t.length < 2305843009213693952) {k : Nat} (hk : 2 * t.length < k) : impl_LostOf.f k t = some (LO t) := by
  unfold impl_LostOf.f LO
  rw [isTrust_f t (by omega) (by omega)]; simp only [Option.bind_some]
  by_cases h : tOk t = true
  · rw [if_pos h, if_pos h]; exact iLost_l h t.length 0 k (by omega) (by omega)
  · rw [if_neg h, if_neg h]

/-! ### weights -/
def voIs (t : List Int) (w : Nat) (j : Nat) : Bool := decide (vo t (j : Int) = (w : Int))
def wtL (t : List Int) (i : Nat) : List Int := (List.range t.length).map fun w => ((ctN (voIs t w) i : Nat) : Int)
def WT (t : List Int) : List Int := if tOk t = true then wtL t t.length else []
theorem wtL_len (t : List Int) (i : Nat) : (wtL t i).length = t.length := by simp [wtL]
theorem wtL_at (t : List Int) (i w : Nat) (h : w < (wtL t i).length) : (wtL t i)[w] = ((ctN (voIs t w) i : Nat) : Int) := by simp [wtL]
theorem wtL_put {t : List Int} {i v : Nat} (hv : v < t.length) (e : vo t (i : Int) = (v : Int)) : (wtL t i).set v (rd (wtL t i) (v : Int) + 1) = wtL t (i + 1) := by
  have hr : rd (wtL t i) (v : Int) = ((ctN (voIs t v) i : Nat) : Int) := by rw [rd_lt (by rw [wtL_len]; exact hv), wtL_at]
  rw [hr]
  apply List.ext_getElem (by simp [wtL_len])
  intro w h1 h2
  have e1 : (wtL t (i + 1))[w] = ((ctN (voIs t w) (i + 1) : Nat) : Int) := wtL_at t (i + 1) w h2
  rw [e1, List.getElem_set]
  have hw : (voIs t w i = true) ↔ v = w := by unfold voIs; rw [decide_eq_true_iff, e]; omega
  by_cases hvw : v = w
  · rw [if_pos hvw]
    subst hvw
    simp only [ctN]; rw [if_pos (hw.2 rfl)]; omega
  · rw [if_neg hvw, wtL_at]
    simp only [ctN]; rw [if_neg (fun x => hvw (hw.1 x))]; omega
theorem wtL_same {t : List Int} {i : Nat} (e : vo t (i : Int) < 0) : wtL t i = wtL t (i + 1) := by
  unfold wtL
  apply List.map_congr_left
  intro w _
  simp only [ctN]
  rw [if_neg (by unfold voIs; rw [decide_eq_true_iff]; omega)]; simp
theorem iWeights_l {t : List Int} (h : tOk t = true) : ∀ (d i k : Nat), i + d = t.length → d + t.length < k →
    impl_WeightsOf.l0 k t (wtL t i) (t.length : Int) (i : Int) = some (wtL t t.length) := by
  have hlen := tOk_len h
  intro d
  induction d with
  | zero =>
    intro i k hi hk
    obtain ⟨k, rfl, _⟩ := fuel hk
    simp only [impl_WeightsOf.l0]
    rw [if_neg (by omega), show i = t.length from by omega]
  | succ d ih =>
    intro i k hi hk
    obtain ⟨k, rfl, hk'⟩ := fuel hk
    have hin : inT t (i : Int) := ⟨by omega, by omega⟩
    have ih' := ih (i + 1) k (by omega) (by omega)
    have hv2 := vo_ge h hin
    simp only [impl_WeightsOf.l0]
    rw [if_pos (by omega), voiceOf_f h (by omega) hin]
    simp only [Option.bind_some]
    rw [w64s i (by omega)]
    by_cases hv : vo t (i : Int) ≥ 0
    · obtain ⟨v, ev⟩ := Int.eq_ofNat_of_zero_le hv
      have hvl : v < t.length := by omega
      have hvl2 : v < (wtL t i).length := by rw [wtL_len]; exact hvl
      have hb : rd (wtL t i) (v : Int) = ((ctN (voIs t v) i : Nat) : Int) := by rw [rd_lt hvl2, wtL_at]
      rw [if_pos hv, if_pos (by omega), if_pos (by rw [wtL_len]; omega), ev]
      have hc := ctN_le (voIs t v) i
      rw [w64 (by omega) (by omega), show ((v : Int)).toNat = v from by omega, wtL_put hvl ev]
      exact ih'
    · rw [if_neg hv, wtL_same (by omega)]; exact ih'
theorem iWeights_f (t : List Int) (hl : t.length ≤ 1048576) {k : Nat} (hk : 2 * t.length < k) : impl_WeightsOf.f k t = some (WT t) := by
  unfold impl_WeightsOf.f WT
  rw [isTrust_f t (by omega) (by omega)]; simp only [Option.bind_some]
  by_cases h : tOk t = true
  · rw [if_pos h, if_pos h, if_pos (by omega), if_pos (by omega)]
    have e : List.replicate ((t.length : Int)).toNat (0 : Int) = wtL t 0 := by
      apply List.ext_getElem (by simp [wtL_len])
      intro w h1 h2
      rw [wtL_at]; simp [ctN]
    rw [e]
    exact iWeights_l h t.length 0 k (by omega) (by omega)
  · rw [if_neg h, if_neg h]

def wtV (t : List Int) (w : Nat) : Int := ((ctN (voIs t w) t.length : Nat) : Int)
theorem WT_snoc (t : List Int) (i : Nat) : (List.range (i + 1)).map (wtV t) = (List.range i).map (wtV t) ++ [wtV t i] := by
  rw [List.range_succ, List.map_append]; rfl
theorem sWeights_in {t : List Int} (h : tOk t = true) (w : Nat) (hw : w < t.length) (q : List Int) (hq : q.length < 17592186044416) : ∀ (d i k : Nat), i + d = t.length → d + t.length < k →
    ∃ k', k ≤ k' + d + 1 ∧ spec_WeightsOf.l1 k t q (w : Int) ((ctN (voIs t w) i : Nat) : Int) (i : Int) = spec_WeightsOf.l0 k' t (q ++ [wtV t w]) ((w + 1 : Nat) : Int) := by
  have hlen := tOk_len h
  intro d
  induction d with
  | zero =>
    intro i k hi hk
    obtain ⟨k, rfl, _⟩ := fuel hk
    refine ⟨k, by omega, ?_⟩
    simp only [spec_WeightsOf.l1]
    rw [if_neg (by omega), if_pos hq, w64s w (by omega), show i = t.length from by omega]; rfl
  | succ d ih =>
    intro i k hi hk
    obtain ⟨k, rfl, hk'⟩ := fuel hk
    have hin : inT t (i : Int) := ⟨by omega, by omega⟩
    obtain ⟨k', h1, h2⟩ := ih (i + 1) k (by omega) (by omega)
    refine ⟨k', by omega, ?_⟩
    rw [← h2]
    have hc := ctN_le (voIs t w) i
    simp only [spec_WeightsOf.l1]
    rw [if_pos (by omega), l9_f h (by omega) hin]
    simp only [Option.bind_some]
    rw [w64s i (by omega)]
    by_cases hv : vo t (i : Int) = (w : Int)
    · rw [if_pos hv, w64s _ (by omega)]
      simp only [ctN]; rw [if_pos (by unfold voIs; exact decide_eq_true hv)]
    · rw [if_neg hv]
      simp only [ctN]; rw [if_neg (by unfold voIs; simpa using hv)]; simp
theorem sWeights_l {t : List Int} (h : tOk t = true) : ∀ (d i k : Nat), i + d = t.length → d * (t.length + 3) + 2 * t.length + 3 < k →
    spec_WeightsOf.l0 k t ((List.range i).map (wtV t)) (i : Int) = some ((List.range t.length).map (wtV t)) := by
  have hlen := tOk_len h
  intro d
  induction d with
  | zero =>
    intro i k hi hk
    obtain ⟨k, rfl, hk1⟩ := fuel hk
    obtain ⟨k, rfl, hk2⟩ := fuel (show 2 * t.length + 2 < k by omega)
    simp only [spec_WeightsOf.l0]
    rw [if_neg (by omega), show i = t.length from by omega]
    simp [spec_WeightsOf.j1]
  | succ d ih =>
    intro i k hi hk
    obtain ⟨k, rfl, hk'⟩ := fuel hk
    rw [Nat.add_mul] at hk'
    simp only [spec_WeightsOf.l0]
    rw [if_pos (by omega), sTrustOk_f t (by omega) (by omega)]
    simp only [Option.bind_some]
    obtain ⟨k, rfl, hk2⟩ := fuel (show d * (t.length + 3) + t.length + 2 + 2 * t.length + 3 < k by omega)
    simp only [spec_WeightsOf.j1]
    rw [if_pos h]
    obtain ⟨k', h1, h2⟩ := sWeights_in h i (by omega) ((List.range i).map (wtV t)) (by simp; omega) t.length 0 k (by omega) (by omega)
    have h2' : spec_WeightsOf.l1 k t ((List.range i).map (wtV t)) (i : Int) 0 0 = _ := h2
    rw [h2', ← WT_snoc]
    exact ih (i + 1) k' (by omega) (by omega)
theorem sWeights_f (t : List Int) (hl : t.length ≤ 1048576) {k : Nat} (hk : 200 + t.length < k) : spec_WeightsOf.f k t = some (WT t) := by
  unfold spec_WeightsOf.f WT
  by_cases h : tOk t = true
  · rw [if_pos h]
    have hlen := tOk_len h
    have hm : t.length * (t.length + 3) ≤ 6 * 9 := Nat.mul_le_mul hlen.2 (by omega)
    exact sWeights_l h t.length 0 k (by omega) (by omega)
  · rw [if_neg h]
    obtain ⟨k, rfl, hk1⟩ := fuel hk
    obtain ⟨k, rfl, hk2⟩ := fuel (show 199 + t.length < k by omega)
    simp only [spec_WeightsOf.l0]
    have hf : tOk t = false := by simpa using h
    by_cases h0 : (0 : Int) < (t.length : Int)
    · rw [if_pos h0, sTrustOk_f t (by omega) (by omega), hf]
      simp [spec_WeightsOf.j1]
    · rw [if_neg h0]; simp [spec_WeightsOf.j1]

/-! ### crowds -/
/-- A crowd of so many people, 1 to 6. -/
def isC (n : Nat) (a : Int) : Bool := decide (1 ≤ n) && decide (n ≤ 6) && (decide (0 ≤ a) && decide (a < ((2 ^ n : Nat) : Int)))
theorem iCrowd_f {n : Nat} {a : Int} : impl_isCrowd.f (n : Int) a = some (isC n a) := by
  unfold impl_isCrowd.f impl_arePeople.f isC
  by_cases h1 : 1 ≤ n
  · rw [if_pos (by omega), decide_eq_true h1]
    by_cases h2 : n ≤ 6
    · simp only [decide_eq_true (by omega : (n : Int) ≤ 6), Option.bind_some, if_true, decide_eq_true h2, Bool.true_and]
      by_cases h3 : a ≥ 0
      · rw [if_pos h3, if_pos (by omega), shl_one (by omega), decide_eq_true (by omega : 0 ≤ a)]; simp
      · rw [if_neg h3, decide_eq_false (by omega : ¬ 0 ≤ a)]; simp
    · simp only [decide_eq_false (by omega : ¬ (n : Int) ≤ 6), Option.bind_some, decide_eq_false h2]; simp
  · rw [if_neg (by omega), decide_eq_false h1]; simp

/-! ### heads of a crowd -/
def hd (c : Nat) : Nat := ctN (fun i => c.testBit i) 6
set_option maxRecDepth 100000 in
theorem heads_all : ∀ c : Fin 64, impl_headsOf.f ((c.val : Nat) : Int) = some ((hd c.val : Nat) : Int) := by decide +kernel
theorem heads_f {c : Nat} (h : c < 64) : impl_headsOf.f (c : Int) = some (hd c : Int) := heads_all ⟨c, h⟩
theorem hd_crN (p : Nat → Bool) {n : Nat} (h : n ≤ 6) : hd (crN p n) = ctN p n := by
  unfold hd
  rw [ctN_congr (q := fun i => decide (i < n) && p i) (fun i _ => crN_bit p n i)]
  have key : ∀ m, n ≤ m → ctN (fun i => decide (i < n) && p i) m = ctN p n := by
    intro m
    induction m with
    | zero => intro hm; obtain rfl : n = 0 := by omega
              rfl
    | succ m ih =>
      intro hm
      by_cases e : n = m + 1
      · subst e
        apply ctN_congr
        intro i hi
        simp [hi]
      · simp only [ctN]
        have hf : (decide (m < n) && p m) = false := by rw [decide_eq_false (by omega : ¬ m < n)]; rfl
        rw [ih (by omega), if_neg (by rw [hf]; simp)]; rfl
  exact key 6 h

theorem alive_f : laws_alive.f = some true := by decide

/-! ### draws -/
/-- A code: bytes, at most 2000. -/
def okB (b : List Int) : Prop := b.length ≤ 2000 ∧ ∀ x ∈ b, 0 ≤ x ∧ x < 256
theorem okB_rd {b : List Int} (h : okB b) {i : Int} (h0 : 0 ≤ i) (h1 : i < b.length) : 0 ≤ rd b i ∧ rd b i < 256 := h.2 _ (rd_mem h0 h1)
theorem tmod_in {a : Int} {n : Int} (ha : 0 ≤ a) (hn : 0 < n) : 0 ≤ Int.tmod a n ∧ Int.tmod a n < n :=
  ⟨Int.tmod_nonneg n ha, Int.tmod_lt_of_pos a hn⟩
theorem pick_f {b : List Int} (hb : okB b) {p : Int} (hp0 : 0 ≤ p) (hp : p < 1099511627776) (n : Int) {k : Nat} (hk : 0 < k) :
    ∃ v, spec_l20Rd_pick.f k b p n = some (v, p + 1) ∧ 0 ≤ v ∧ (v < n ∨ v = 0) := by
  obtain ⟨k, rfl, _⟩ := fuel hk
  unfold spec_l20Rd_pick.f
  simp only [spec_l20Rd_pick.j0]
  rw [w64 (x := p + 1) (by omega) (by omega), show p + 1 - 1 = p from by omega, w64 (x := p) (by omega) (by omega)]
  by_cases h1 : n < 1
  · rw [if_pos h1]; exact ⟨0, by simp, by omega, .inr rfl⟩
  · rw [if_neg h1]
    by_cases h2 : (b.length : Int) = 0
    · rw [h2]; exact ⟨0, by simp, by omega, .inr rfl⟩
    · have h2' : ((b.length : Int) == 0) = false := by simpa using h2
      rw [h2', if_neg (by simp)]
      have hb1 := hb.1
      by_cases h3 : p < (b.length : Int)
      · have hr := okB_rd hb hp0 h3
        rw [if_pos h3, if_pos hp0, if_neg (by omega), w64 (x := rd b p) (by omega) (by omega)]
        have := tmod_in hr.1 (show 0 < n by omega)
        exact ⟨_, rfl, this.1, .inl this.2⟩
      · have m1 := tmod_in hp0 (show (0 : Int) < (b.length : Int) by omega)
        have m2 := tmod_in (show (0 : Int) ≤ p * 7 + 3 by omega) (show (0 : Int) < (b.length : Int) by omega)
        have r1 := okB_rd hb m1.1 m1.2
        have r2 := okB_rd hb m2.1 m2.2
        have d1 : 0 ≤ Int.tdiv p (b.length : Int) := Int.tdiv_nonneg hp0 (by omega)
        have d2 : Int.tdiv p (b.length : Int) ≤ p := Int.tdiv_le_self _ hp0
        rw [if_neg h3, if_neg h2]
        rw [w64 (x := p * 7) (by omega) (by omega), w64 (x := p * 7 + 3) (by omega) (by omega)]
        rw [if_pos m1.1, if_pos m1.2, if_pos m2.1, if_pos m2.2, if_neg (by omega)]
        generalize rd b (Int.tmod p (b.length : Int)) = x1 at *
        generalize rd b (Int.tmod (p * 7 + 3) (b.length : Int)) = x2 at *
        generalize Int.tdiv p (b.length : Int) = q at *
        rw [w64 (x := x1) (by omega) (by omega), w64 (x := x2) (by omega) (by omega), w64 (x := x1 * 131) (by omega) (by omega), w64 (x := x2 * 1117) (by omega) (by omega), w64 (x := p * 29) (by omega) (by omega), w64 (x := q) (by omega) (by omega), w64 (x := q * 53) (by omega) (by omega), w64 (x := x1 * 131 + x2 * 1117) (by omega) (by omega), w64 (x := x1 * 131 + x2 * 1117 + p * 29) (by omega) (by omega), w64 (x := x1 * 131 + x2 * 1117 + p * 29 + q * 53) (by omega) (by omega)]
        obtain ⟨X, eX⟩ := Int.eq_ofNat_of_zero_le (show 0 ≤ x1 * 131 + x2 * 1117 + p * 29 + q * 53 by omega)
        have hX : X < 4611686018427387904 := by omega
        rw [eX]
        have e64 : Int.tdiv (X : Int) 64 = ((X / 64 : Nat) : Int) := by rw [show (64 : Int) = ((64 : Nat) : Int) from rfl, ← Int.ofNat_tdiv]
        rw [e64, w64 (by omega) (by omega), bxor (by rw [p62]; omega) (by rw [p62]; omega)]
        have := tmod_in (Int.natCast_nonneg (X ^^^ (X / 64))) (show 0 < n by omega)
        exact ⟨_, rfl, this.1, .inl this.2⟩
theorem odd_f {b : List Int} (hb : okB b) {p : Int} (hp0 : 0 ≤ p) (hp : p < 1099511627776) (n : Int) {k : Nat} (hk : 0 < k) :
    ∃ v q, spec_l20Rd_odd.f k b p n = some (v, q) ∧ p ≤ q ∧ q ≤ p + 1 := by
  unfold spec_l20Rd_odd.f
  by_cases h : n > 0
  · obtain ⟨v, e, _, _⟩ := pick_f hb hp0 hp n hk
    rw [if_pos h, e]; exact ⟨_, _, rfl, by omega, by omega⟩
  · rw [if_neg h]; exact ⟨_, _, rfl, by omega, by omega⟩
theorem open_f {l : List Int} (hb : ∀ x ∈ l, (Lit.int .u8 x).wf = true) : ∃ b, spec_l20Open.f l = some (b, 0) ∧ okB b := by
  have hw : ∀ x ∈ l, 0 ≤ x ∧ x < 256 := by
    exact fun x hx => u8_wf (hb x hx)
  unfold spec_l20Open.f
  by_cases h : (l.length : Int) > 2000
  · rw [if_pos h, if_pos (by omega)]
    exact ⟨_, rfl, by simp; omega, fun x hx => hw x (List.mem_of_mem_take hx)⟩
  · rw [if_neg h]; exact ⟨_, rfl, by omega, hw⟩

theorem l20Trust_l {b : List Int} (hb : okB b) (n : Int) (P : Nat) (hP1 : 1 ≤ P) (hP : P ≤ 6) : ∀ (d k : Nat) (l : List Int) (p : Int), l.length + d = P → d + 3 < k → 0 ≤ p → p + 3 * d < 1000 →
    ∃ t q, spec_l20Trust.l0 k n l (P : Int) (l.length : Int) b p = some (t, q) ∧ t.length ≤ 6 ∧ 0 ≤ q ∧ q < 1010 := by
  intro d
  induction d with
  | zero =>
    intro k l p hl hk hp0 hp
    obtain ⟨k, rfl, _⟩ := fuel hk
    obtain ⟨v, q, e, h1, h2⟩ := odd_f hb hp0 (by omega) n (k := k) (by omega)
    simp only [spec_l20Trust.l0]
    rw [if_neg (by omega), e]
    simp only [Option.bind_some]
    cases v with
    | false => rw [if_neg (by simp)]; exact ⟨_, _, rfl, by omega, by omega, by omega⟩
    | true =>
      rw [if_pos rfl]
      obtain ⟨v, e, h3, h4⟩ := pick_f hb (p := q) (by omega) (by omega) 2 (k := k) (by omega)
      rw [e]; simp only [Option.bind_some]
      by_cases hv : v = 0
      · rw [if_pos hv]; exact ⟨_, _, rfl, by simp, by omega, by omega⟩
      · rw [if_neg hv]
        obtain ⟨u, e, h5, h6⟩ := pick_f hb (p := q + 1) (by omega) (by omega) (P : Int) (k := k) (by omega)
        rw [e]; simp only [Option.bind_some]
        rw [if_pos h5, if_pos (by omega)]
        exact ⟨_, _, rfl, by simp; omega, by omega, by omega⟩
  | succ d ih =>
    intro k l p hl hk hp0 hp
    obtain ⟨k, rfl, _⟩ := fuel hk
    obtain ⟨v, e, h3, h4⟩ := pick_f hb (p := p) (by omega) (by omega) (P : Int) (k := k) (by omega)
    obtain ⟨u, e2, h5, h6⟩ := pick_f hb (p := p + 1) (by omega) (by omega) 3 (k := k) (by omega)
    simp only [spec_l20Trust.l0]
    rw [if_pos (by omega), e]
    simp only [Option.bind_some]
    rw [e2]
    simp only [Option.bind_some]
    rw [w64s l.length (by omega)]
    by_cases hu : u = 0
    · rw [if_pos hu, if_pos (by omega)]
      have := ih k (l ++ [(l.length : Int)]) (p + 1 + 1) (by simp; omega) (by omega) (by omega) (by omega)
      simpa using this
    · rw [if_neg hu, if_pos (by omega)]
      have := ih k (l ++ [v]) (p + 1 + 1) (by simp; omega) (by omega) (by omega) (by omega)
      simpa using this
theorem l20Trust_f {b : List Int} (hb : okB b) (n : Int) {k : Nat} (hk : 20 ≤ k) :
    ∃ t q, spec_l20Trust.f k b 0 n = some (t, q) ∧ t.length ≤ 6 ∧ 0 ≤ q ∧ q < 1010 := by
  unfold spec_l20Trust.f
  obtain ⟨v, e, h3, h4⟩ := pick_f hb (p := 0) (by omega) (by omega) 6 (k := k) (by omega)
  rw [e]; simp only [Option.bind_some]
  obtain ⟨v, rfl⟩ := Int.eq_ofNat_of_zero_le h3
  rw [w64 (by omega) (by omega), show (1 : Int) + (v : Int) = ((v + 1 : Nat) : Int) from by omega]
  exact l20Trust_l hb n (v + 1) (by omega) (by omega) (v + 1) k [] (0 + 1) (by simp) (by omega) (by omega) (by omega)

def sumF (f : Nat → Nat) : Nat → Nat
  | 0 => 0
  | n + 1 => sumF f n + f n
theorem sumF_congr {f g : Nat → Nat} {n : Nat} (h : ∀ w, w < n → f w = g w) : sumF f n = sumF g n := by
  induction n with
  | zero => rfl
  | succ n ih => simp only [sumF]; rw [ih (fun w hw => h w (by omega)), h n (by omega)]
theorem sumF_add (f g : Nat → Nat) (n : Nat) : sumF (fun w => f w + g w) n = sumF f n + sumF g n := by
  induction n with
  | zero => rfl
  | succ n ih => simp only [sumF]; rw [ih]; omega
theorem sumF_one (v n : Nat) : sumF (fun w => if v = w then 1 else 0) n = if v < n then 1 else 0 := by
  induction n with
  | zero => rfl
  | succ n ih =>
    simp only [sumF]; rw [ih]
    by_cases h : v = n
    · subst h; rw [if_neg (by omega), if_pos rfl, if_pos (by omega)]
    · by_cases h2 : v < n
      · rw [if_pos h2, if_neg h, if_pos (by omega)]
      · rw [if_neg h2, if_neg h, if_neg (by omega)]
theorem sumF_zero (n : Nat) : sumF (fun _ => 0) n = 0 := by
  induction n with
  | zero => rfl
  | succ n ih => simp only [sumF]; rw [ih]
theorem all_people {t : List Int} (h : tOk t = true) : ∀ m, m ≤ t.length → ctN (fun k => decide (vo t (k : Int) < 0)) m + sumF (fun w => ctN (voIs t w) m) t.length = m := by
  intro m
  induction m with
  | zero => intro _; simp only [ctN]; rw [sumF_zero]
  | succ m ih =>
    intro hm
    have hin : inT t (m : Int) := ⟨by omega, by omega⟩
    have hv := vo_ge h hin
    have ih' := ih (by omega)
    have e : sumF (fun w => ctN (voIs t w) (m + 1)) t.length = sumF (fun w => ctN (voIs t w) m) t.length + sumF (fun w => if voIs t w m then 1 else 0) t.length := sumF_add _ _ _
    rw [e]
    simp only [ctN]
    by_cases hl : vo t (m : Int) < 0
    · rw [if_pos (decide_eq_true hl), sumF_congr (f := fun w => if voIs t w m then 1 else 0) (g := fun _ => 0) (fun w _ => if_neg (by unfold voIs; simp; omega)), sumF_zero]
      omega
    · obtain ⟨v, ev⟩ := Int.eq_ofNat_of_zero_le (show 0 ≤ vo t (m : Int) by omega)
      rw [if_neg (by simpa using hl), sumF_congr (f := fun w => if voIs t w m then 1 else 0) (g := fun w => if v = w then 1 else 0) (fun w _ => by
        unfold voIs; rw [ev]
        by_cases e : v = w
        · rw [if_pos (by simp; omega), if_pos e]
        · rw [if_neg (by simp; omega), if_neg e]), sumF_one, if_pos (by omega)]
      omega
theorem WT_at {t : List Int} (h : tOk t = true) {w : Nat} (hw : w < t.length) : rd (WT t) (w : Int) = ((ctN (voIs t w) t.length : Nat) : Int) := by
  have e : WT t = wtL t t.length := by unfold WT; rw [if_pos h]
  rw [e, rd_lt (by rw [wtL_len]; exact hw), wtL_at]
theorem WT_len {t : List Int} (h : tOk t = true) : (WT t).length = t.length := by unfold WT; rw [if_pos h, wtL_len]
theorem ctN_pos {p : Nat → Bool} {n : Nat} : 0 < ctN p n ↔ ∃ i, i < n ∧ p i = true := by
  induction n with
  | zero => simp [ctN]
  | succ n ih =>
    simp only [ctN]
    by_cases h : p n = true
    · rw [if_pos h]; exact ⟨fun _ => ⟨n, by omega, h⟩, fun _ => by omega⟩
    · rw [if_neg h, Nat.add_zero, ih]
      constructor
      · rintro ⟨i, hi, hp⟩; exact ⟨i, by omega, hp⟩
      · rintro ⟨i, hi, hp⟩
        refine ⟨i, ?_, hp⟩
        rcases Nat.lt_or_ge i n with h1 | h1
        · exact h1
        · obtain rfl : i = n := by omega
          exact absurd hp h
theorem wt_alone {t : List Int} (h : tOk t = true) {w : Nat} (hw : w < t.length) : (rd (WT t) (w : Int) > 0) ↔ rd t (w : Int) = (w : Int) := by
  have hin : inT t (w : Int) := ⟨by omega, by omega⟩
  rw [WT_at h hw, gt_iff_lt, show ((0 : Int) < ((ctN (voIs t w) t.length : Nat) : Int)) ↔ 0 < ctN (voIs t w) t.length from by omega, ctN_pos]
  constructor
  · rintro ⟨i, hi, hp⟩
    have hv : vo t (i : Int) = (w : Int) := by unfold voIs at hp; simpa using hp
    rcases vo_cases h (w := (i : Int)) ⟨by omega, by omega⟩ with ⟨_, k2, _⟩ | ⟨k1, _⟩
    · rw [hv] at k2; exact k2
    · omega
  · intro e
    exact ⟨w, hw, by unfold voIs; simp [vo_fix h hin e]⟩
theorem weights_l {t : List Int} (h : tOk t = true) (c : Nat) (hc : c + sumF (fun w => ctN (voIs t w) t.length) t.length = t.length) : ∀ (d i k : Nat), i + d = t.length → 2 * d + 2 < k →
    laws_FnWeightsOf.l0 k t (WT t) ((c + sumF (fun w => ctN (voIs t w) t.length) i : Nat) : Int) (i : Int) = some true := by
  have hlen := tOk_len h
  have hwl := WT_len h
  intro d
  induction d with
  | zero =>
    intro i k hi hk
    obtain ⟨k, rfl, h1⟩ := fuel hk
    obtain ⟨k, rfl, h2⟩ := fuel (show 1 < k by omega)
    obtain rfl : i = t.length := by omega
    rw [laws_FnWeightsOf.l0, if_neg (by omega), laws_FnWeightsOf.j1, if_neg (by simp), hc, if_pos rfl, hwl]
    simp
  | succ d ih =>
    intro i k hi hk
    obtain ⟨k, rfl, h1⟩ := fuel hk
    obtain ⟨k, rfl, h2⟩ := fuel (show 2 * d + 3 < k by omega)
    have ih' := ih (i + 1) k (by omega) (by omega)
    have ea := wt_alone h (w := i) (by omega)
    have hb : ctN (voIs t i) t.length ≤ t.length := ctN_le _ _
    have hs : sumF (fun w => ctN (voIs t w) t.length) i ≤ t.length * i := by
      clear ih' ea h2 hk hi ih
      induction i with
      | zero => simp [sumF]
      | succ i ihi => simp only [sumF]; rw [Nat.mul_succ]; have := ctN_le (voIs t i) t.length; omega
    have hs2 : t.length * i ≤ 36 := Nat.le_trans (Nat.mul_le_mul hlen.2 (show i ≤ 6 by omega)) (by decide)
    have hb2 : (decide (rd (WT t) (i : Int) > 0) != (rd t (i : Int) == (i : Int))) = false := by
      by_cases e : rd t (i : Int) = (i : Int)
      · rw [decide_eq_true (ea.2 e), beq_iff_eq.2 e]; rfl
      · rw [decide_eq_false (fun x => e (ea.1 x)), beq_eq_false_iff_ne.2 e]; rfl
    rw [laws_FnWeightsOf.l0, if_pos (by omega), laws_FnWeightsOf.j1, if_pos (by simp; omega), if_pos (by omega), if_pos (by omega), if_pos (by omega), hb2, if_neg (by simp), w64s i (by omega), WT_at h (by omega)]
    rw [w64 (by omega) (by omega)]
    simp only [sumF] at ih'
    rw [show (((c + sumF (fun w => ctN (voIs t w) t.length) i : Nat) : Int) + ((ctN (voIs t i) t.length : Nat) : Int)) = ((c + (sumF (fun w => ctN (voIs t w) t.length) i + ctN (voIs t i) t.length) : Nat) : Int) from by omega]
    exact ih'
theorem FnWeightsOf : laws_FnWeightsOf.Pure := by
  intro l0 _ _ hb
  by_cases hl : (l0.length : Int) > 1048576
  · exact ⟨0, by unfold laws_FnWeightsOf.f; rw [if_pos hl]⟩
  · obtain ⟨K, hK⟩ : ∃ K : Nat, K = 300 := ⟨_, rfl⟩
    obtain ⟨b, e1, okb⟩ := open_f hb
    obtain ⟨t, q, e2, ht, _, _⟩ := l20Trust_f okb 9 (k := K) (by omega)
    have e3 : spec_DrawWeightsOf.f K l0 = some t := by unfold spec_DrawWeightsOf.f; rw [bnd e1, bnd e2]
    have e4 := iWeights_f t (by omega) (k := K) (by omega)
    have e5 := sWeights_f t (by omega) (k := K) (by omega)
    have e6 := iTrustOk_f t (by omega) (k := K) (by omega)
    have e7 := iLostOf_f t (by omega) (k := K) (by omega)
    have hwl : (WT t).length ≤ t.length := by unfold WT; split <;> simp [wtL]
    have e8 := sameInts_f (WT t) (by omega) (k := K) (by omega)
    refine ⟨K, ?_⟩
    unfold laws_FnWeightsOf.f
    rw [if_neg hl, bnd e3, bnd e4, bnd e5, bnd e8, if_pos rfl]
    by_cases h : tOk t = true
    · have hlen := tOk_len h
      have hlo : lo t < 2 ^ t.length := crN_lt _ _
      have h64 := pow6 hlen.2
      have eh : impl_HeadsOf.f (t.length : Int) (lo t : Int) = some (hd (lo t) : Int) := by
        unfold impl_HeadsOf.f
        have hc : isC t.length (lo t : Int) = true := by simp only [isC, Bool.and_eq_true, decide_eq_true_eq]; omega
        rw [iCrowd_f, hc, bnd rfl, if_pos rfl, heads_f (by omega)]; rfl
      have eL : LO t = (lo t : Int) := by unfold LO; rw [if_pos h]
      rw [if_neg (by rw [WT_len h]; omega), bnd e7, eL, bnd eh]
      have hcount : hd (lo t) = ctN (fun k => decide (vo t (k : Int) < 0)) t.length := hd_crN _ hlen.2
      have := weights_l h (hd (lo t)) (by rw [hcount]; exact all_people h t.length (Nat.le_refl _)) t.length 0 K (by omega) (by omega)
      simpa [sumF] using this
    · have e : WT t = [] := by unfold WT; rw [if_neg h]
      have hf : tOk t = false := by simpa using h
      rw [e, if_pos (by simp), bnd e6, hf, if_neg (by simp), bnd alive_f]

end Go.Proofs.Ytiiddglmoffonaa.Pure
