/- Trust made straight is trust with the same voices and weights, and made straight again it stays. Condition: the code is of bytes. -/
import Derived.Test.YtifffgoldielbaaPFnStraightTrustx3
import Derived.Test.YtifffgoldielbaaM
namespace Go.Proofs.Ytifffgoldielbaa.Pure
open Go.RowKit Go.Proofs.Ytifffgoldielbaa.PFnStraightTrust Go.Proofs.YtifffgoldielbaaW.PrintWords Go.Proofs.YtifffgoldielbaaW.PrintLast Go.Proofs.YtifffgoldielbaaW.PrintMore Go.Proofs.Ytifffgoldielbaa.M
set_option linter.unusedVariables false
set_option linter.unusedSimpArgs false

theorem sameInts_l (l : List Int) (hl : l.length < 4611686018427387904) : ∀ (d i k : Nat), i + d = l.length → d < k → laws_sameInts.l0 k l l (i : Int) = some true := by
  intro d
  induction d with
  | zero =>
    intro i k hi hk
    obtain ⟨k, rfl, _⟩ := fuel hk
    simp only [laws_sameInts.l0]
    rw [if_neg (by omega)]
  | succ d ih =>
    intro i k hi hk
    obtain ⟨k, rfl, hk'⟩ := fuel hk
    simp only [laws_sameInts.l0]
    rw [if_pos (by omega), if_pos (by omega), if_pos (by omega), if_pos trivial, w64s i (by omega)]
    exact ih (i + 1) k (by omega) (by omega)
theorem sameInts_f (l : List Int) (hl : l.length < 4611686018427387904) {k : Nat} (hk : l.length < k) : laws_sameInts.f k l l = some true := by
  unfold laws_sameInts.f
  rw [if_pos rfl]
  exact sameInts_l l hl l.length 0 k (by omega) hk

/-! ### who is trust -/
theorem isTrust_l (t : List Int) (hl : t.length < 4611686018427387904) : ∀ (d i k : Nat), i + d = t.length → d < k →
    impl_isTrust.l0 k t t (t.length : Int) (i : Int) = some ((t.drop i).all (fun x => decide (0 ≤ x) && decide (x < (t.length : Int))) && (decide (1 ≤ t.length) && decide (t.length ≤ 6))) := by
  intro d
  induction d with
  | zero =>
    intro i k hi hk
    obtain ⟨k, rfl, _⟩ := fuel hk
    have e : t.drop i = [] := List.drop_eq_nil_of_le (by omega)
    have h6 : decide ((t.length : Int) ≤ 6) = decide (t.length ≤ 6) := decide_eq_decide.2 (by omega)
    have h1 : ((t.length : Int) ≥ 1) ↔ (1 ≤ t.length) := by omega
    simp only [impl_isTrust.l0, impl_arePeople.f]
    rw [if_neg (by omega), e]
    by_cases h : 1 ≤ t.length
    · rw [if_pos (h1.2 h)]; simp [h6, h]
    · rw [if_neg (fun x => h (h1.1 x))]; simp [h]
  | succ d ih =>
    intro i k hi hk
    obtain ⟨k, rfl, hk'⟩ := fuel hk
    have hlt : i < t.length := by omega
    simp only [impl_isTrust.l0]
    rw [if_pos (by omega), if_pos (by omega), if_pos (by omega), rd_lt hlt, w64s i (by omega), ih (i + 1) k (by omega) (by omega), List.drop_eq_getElem_cons hlt, List.all_cons]
    by_cases h1 : t[i] < 0
    · rw [if_pos h1, decide_eq_false (by omega : ¬ (0 : Int) ≤ t[i])]; simp
    · rw [if_neg h1, decide_eq_true (by omega : (0 : Int) ≤ t[i])]
      by_cases h2 : t[i] ≥ (t.length : Int)
      · rw [if_pos h2, decide_eq_false (by omega : ¬ t[i] < (t.length : Int))]; simp
      · rw [if_neg h2, decide_eq_true (by omega : t[i] < (t.length : Int))]; simp
theorem isTrust_f (t : List Int) (hl : t.length < 4611686018427387904) {k : Nat} (hk : t.length < k) : impl_isTrust.f k t = some (tOk t) := by
  unfold impl_isTrust.f
  have := isTrust_l t hl t.length 0 k (by omega) hk
  simpa [tOk] using this

theorem iTrustOk_f (t : List Int) (hl : t.length < 4611686018427387904) {k : Nat} (hk : t.length < k) : impl_TrustOk.f k t = some (tOk t) := by
  unfold impl_TrustOk.f; rw [isTrust_f t hl hk]; rfl

theorem sTrustOk_l (t : List Int) (hl : t.length < 4611686018427387904) : ∀ (d i k : Nat), i + d = t.length → d < k →
    spec_TrustOk.l0 k t (i : Int) = some ((t.drop i).all (fun x => decide (0 ≤ x) && decide (x < (t.length : Int))) && (decide (1 ≤ t.length) && decide (t.length ≤ 6))) := by
  intro d
  induction d with
  | zero =>
    intro i k hi hk
    obtain ⟨k, rfl, _⟩ := fuel hk
    have e : t.drop i = [] := List.drop_eq_nil_of_le (by omega)
    have h6 : decide ((t.length : Int) ≤ 6) = decide (t.length ≤ 6) := decide_eq_decide.2 (by omega)
    have h1 : ((t.length : Int) ≥ 1) ↔ (1 ≤ t.length) := by omega
    simp only [spec_TrustOk.l0, spec_l1In.f]
    rw [if_neg (by omega), e]
    by_cases h : 1 ≤ t.length
    · rw [if_pos (h1.2 h)]; simp [h6, h]
    · rw [if_neg (fun x => h (h1.1 x))]; simp [h]
  | succ d ih =>
    intro i k hi hk
    obtain ⟨k, rfl, hk'⟩ := fuel hk
    have hlt : i < t.length := by omega
    simp only [spec_TrustOk.l0, spec_l1In.f]
    rw [if_pos (by omega), if_pos (by omega), rd_lt hlt, w64s i (by omega), ih (i + 1) k (by omega) (by omega), List.drop_eq_getElem_cons hlt, List.all_cons, w64 (by omega) (by omega)]
    by_cases h1 : t[i] ≥ 0
    · rw [if_pos h1, decide_eq_true (by omega : (0 : Int) ≤ t[i])]
      by_cases h2 : t[i] < (t.length : Int)
      · rw [decide_eq_true (by omega : t[i] ≤ (t.length : Int) - 1), decide_eq_true h2]; simp
      · rw [decide_eq_false (by omega : ¬ t[i] ≤ (t.length : Int) - 1), decide_eq_false h2]; simp
    · rw [if_neg h1, decide_eq_false (by omega : ¬ (0 : Int) ≤ t[i])]; simp
theorem sTrustOk_f (t : List Int) (hl : t.length < 4611686018427387904) {k : Nat} (hk : t.length < k) : spec_TrustOk.f k t = some (tOk t) := by
  unfold spec_TrustOk.f
  have := sTrustOk_l t hl t.length 0 k (by omega) hk
  simpa [tOk] using this

/-! ### the voice -/
theorem voiceOf_l {t : List Int} (h : tOk t = true) : ∀ (d i k : Nat) (w : Int), inT t w → i + d = t.length → d < k →
    impl_voiceOf.l0 k t w (t.length : Int) (i : Int) = some (if rd t (itT t d w) = itT t d w then itT t d w else -1) := by
  have hlen := tOk_len h
  intro d
  induction d with
  | zero =>
    intro i k w hw hi hk
    obtain ⟨k, rfl, _⟩ := fuel hk
    unfold inT at hw
    simp only [impl_voiceOf.l0]
    rw [if_neg (by omega), if_pos hw.1, if_pos hw.2]
    show _ = some (if rd t w = w then w else -1)
    split <;> rfl
  | succ d ih =>
    intro i k w hw hi hk
    obtain ⟨k, rfl, hk'⟩ := fuel hk
    have hw' := hw
    unfold inT at hw'
    simp only [impl_voiceOf.l0]
    rw [if_pos (by omega), if_pos hw'.1, if_pos hw'.2, w64s i (by omega), ih (i + 1) k (rd t w) (tOk_rd h hw) (by omega) (by omega)]
    rfl
theorem voiceOf_f {t : List Int} (h : tOk t = true) {k : Nat} (hk : t.length < k) {w : Int} (hw : inT t w) : impl_voiceOf.f k t w = some (vo t w) := by
  unfold impl_voiceOf.f vo
  exact voiceOf_l h t.length 0 k w hw (by omega) hk

theorem l9_l {t : List Int} (h : tOk t = true) : ∀ (d i k : Nat) (w : Int), inT t w → i + d = t.length → d < k →
    spec_l9Voice.l0 k t w (i : Int) = some (sv t d w) := by
  have hlen := tOk_len h
  intro d
  induction d with
  | zero =>
    intro i k w hw hi hk
    obtain ⟨k, rfl, _⟩ := fuel hk
    simp only [spec_l9Voice.l0]
    rw [if_neg (by omega)]; rfl
  | succ d ih =>
    intro i k w hw hi hk
    obtain ⟨k, rfl, hk'⟩ := fuel hk
    have hw' := hw
    unfold inT at hw'
    simp only [spec_l9Voice.l0]
    rw [if_pos (by omega), if_pos hw'.1, if_pos hw'.2, w64s i (by omega), ih (i + 1) k (rd t w) (tOk_rd h hw) (by omega) (by omega)]
    show _ = some (if rd t w = w then w else sv t d (rd t w))
    split <;> rfl
theorem l9_f {t : List Int} (h : tOk t = true) {k : Nat} (hk : t.length < k) {w : Int} (hw : inT t w) : spec_l9Voice.f k t w = some (vo t w) := by
  unfold spec_l9Voice.f
  rw [← sv_eq h hw]
  exact l9_l h t.length 0 k w hw (by omega) hk

/-- What VoiceOf answers. -/
def VO (t : List Int) (w : Int) : Int := if tOk t = true ∧ inT t w then vo t w else -1
theorem iVoiceOf_f (t : List Int) (w : Int) (hl : t.length < 4611686018427387904) {k : Nat} (hk : t.length < k) : impl_VoiceOf.f k t w = some (VO t w) := by
  unfold impl_VoiceOf.f VO
  rw [isTrust_f t hl hk]; simp only [Option.bind_some]
  by_cases h : tOk t = true
  · rw [if_pos h]
    by_cases h1 : w < 0
    · rw [if_pos h1, if_neg (fun x => by have := x.2.1; omega)]
    · rw [if_neg h1]
      by_cases h2 : w ≥ (t.length : Int)
      · rw [if_pos h2, if_neg (fun x => by have := x.2.2; omega)]
      · have hw : inT t w := ⟨by omega, by omega⟩
        rw [if_neg h2, voiceOf_f h hk hw, if_pos ⟨h, hw⟩]; rfl
  · rw [if_neg h, if_neg (fun x => h x.1)]

/-! ### weights -/
def voIs (t : List Int) (w : Nat) (j : Nat) : Bool := decide (vo t (j : Int) = (w : Int))
def wtL (t : List Int) (i : Nat) : List Int := (List.range t.length).map fun w => ((ctN (voIs t w) i : Nat) : Int)
def WT (t : List Int) : List Int := if tOk t = true then wtL t t.length else []
theorem wtL_len (t : List Int) (i : Nat) : (wtL t i).length = t.length := by simp [wtL]
theorem wtL_at (t : List Int) (i w : Nat) (h : w < (wtL t i).length) : (wtL t i)[w] = ((ctN (voIs t w) i : Nat) : Int) := by simp [wtL]
theorem wtL_put {t : List Int} {i v : Nat} (hv : v < t.length) (e : vo t (i : Int) = (v : Int)) : (wtL t i).set v (rd (wtL t i) (v : Int) + 1) = wtL t (i + 1) := by
  have hr : rd (wtL t i) (v : Int) = ((ctN (voIs t v) i : Nat) : Int) := by rw [rd_lt (by rw [wtL_len]; exact hv), wtL_at]
  rw [hr]
  apply List.ext_getElem (by simp [wtL_len])
  intro w h1 h2
  have e1 : (wtL t (i + 1))[w] = ((ctN (voIs t w) (i + 1) : Nat) : Int) := wtL_at t (i + 1) w h2
  rw [e1, List.getElem_set]
  have hw : (voIs t w i = true) ↔ v = w := by unfold voIs; rw [decide_eq_true_iff, e]; omega
  by_cases hvw : v = w
  · rw [if_pos hvw]
    subst hvw
    simp only [ctN]; rw [if_pos (hw.2 rfl)]; omega
  · rw [if_neg hvw, wtL_at]
    simp only [ctN]; rw [if_neg (fun x => hvw (hw.1 x))]; omega
theorem wtL_same {t : List Int} {i : Nat} (e : vo t (i : Int) < 0) : wtL t i = wtL t (i + 1) := by
  unfold wtL
  apply List.map_congr_left
  intro w _
  simp only [ctN]
  rw [if_neg (by unfold voIs; rw [decide_eq_true_iff]; omega)]; simp
theorem iWeights_l {t : List Int} (h : tOk t = true) : ∀ (d i k : Nat), i + d = t.length → d + t.length < k →
    impl_WeightsOf.l0 k t (wtL t i) (t.length : Int) (i : Int) = some (wtL t t.length) := by
  have hlen := tOk_len h
  intro d
  induction d with
  | zero =>
    intro i k hi hk
    obtain ⟨k, rfl, _⟩ := fuel hk
    simp only [impl_WeightsOf.l0]
    rw [if_neg (by omega), show i = t.length from by omega]
  | succ d ih =>
    intro i k hi hk
    obtain ⟨k, rfl, hk'⟩ := fuel hk
    have hin : inT t (i : Int) := ⟨by omega, by omega⟩
    have ih' := ih (i + 1) k (by omega) (by omega)
    have hv2 := vo_ge h hin
    simp only [impl_WeightsOf.l0]
    rw [if_pos (by omega), voiceOf_f h (by omega) hin]
    simp only [Option.bind_some]
    rw [w64s i (by omega)]
    by_cases hv : vo t (i : Int) ≥ 0
    · obtain ⟨v, ev⟩ := Int.eq_ofNat_of_zero_le hv
      have hvl : v < t.length := by omega
      have hvl2 : v < (wtL t i).length := by rw [wtL_len]; exact hvl
      have hb : rd (wtL t i) (v : Int) = ((ctN (voIs t v) i : Nat) : Int) := by rw [rd_lt hvl2, wtL_at]
      rw [if_pos hv, if_pos (by omega), if_pos (by rw [wtL_len]; omega), ev]
      have hc := ctN_le (voIs t v) i
      rw [w64 (by omega) (by omega), show ((v : Int)).toNat = v from by omega, wtL_put hvl ev]
      exact ih'
    · rw [if_neg hv, wtL_same (by omega)]; exact ih'
theorem iWeights_f (t : List Int) (hl : t.length ≤ 1048576) {k : Nat} (hk : 2 * t.length < k) : impl_WeightsOf.f k t = some (WT t) := by
  unfold impl_WeightsOf.f WT
  rw [isTrust_f t (by omega) (by omega)]; simp only [Option.bind_some]
  by_cases h : tOk t = true
  · rw [if_pos h, if_pos h, if_pos (by omega), if_pos (by omega)]
    have e : List.replicate ((t.length : Int)).toNat (0 : Int) = wtL t 0 := by
      apply List.ext_getElem (by simp [wtL_len])
      intro w h1 h2
      rw [wtL_at]; simp [ctN]
    rw [e]
    exact iWeights_l h t.length 0 k (by omega) (by omega)
  · rw [if_neg h, if_neg h]

/-! ### trust made straight -/
def stV (t : List Int) (i : Nat) : Int := if vo t (i : Int) < 0 then rd t (i : Int) else vo t (i : Int)
def ST (t : List Int) : List Int := if tOk t = true then (List.range t.length).map (stV t) else []
theorem ST_snoc (t : List Int) (i : Nat) : (List.range (i + 1)).map (stV t) = (List.range i).map (stV t) ++ [stV t i] := by
  rw [List.range_succ, List.map_append]; rfl
theorem iStraight_l {t : List Int} (h : tOk t = true) : ∀ (d i k : Nat), i + d = t.length → d + t.length < k →
    impl_StraightTrust.l0 k t ((List.range i).map (stV t)) t (t.length : Int) (i : Int) = some ((List.range t.length).map (stV t)) := by
  have hlen := tOk_len h
  intro d
  induction d with
  | zero =>
    intro i k hi hk
    obtain ⟨k, rfl, _⟩ := fuel hk
    simp only [impl_StraightTrust.l0]
    rw [if_neg (by omega), show i = t.length from by omega]
  | succ d ih =>
    intro i k hi hk
    obtain ⟨k, rfl, hk'⟩ := fuel hk
    have hin : inT t (i : Int) := ⟨by omega, by omega⟩
    have ih' := ih (i + 1) k (by omega) (by omega)
    rw [ST_snoc] at ih'
    simp only [impl_StraightTrust.l0]
    rw [if_pos (by omega), if_pos (by omega), if_pos (by omega), voiceOf_f h (by omega) hin]
    simp only [Option.bind_some]
    rw [w64s i (by omega)]
    have hl : ((List.range i).map (stV t)).length < 17592186044416 := by simp; omega
    by_cases hv : vo t (i : Int) ≥ 0
    · rw [if_pos hv, if_pos hl]
      rw [show stV t i = vo t (i : Int) from by unfold stV; rw [if_neg (by omega)]] at ih'
      exact ih'
    · rw [if_neg hv, if_pos hl]
      rw [show stV t i = rd t (i : Int) from by unfold stV; rw [if_pos (by omega)]] at ih'
      exact ih'
theorem iStraight_f (t : List Int) (hl : t.length < 2305843009213693952) {k : Nat} (hk : 2 * t.length < k) : impl_StraightTrust.f k t = some (ST t) := by
  unfold impl_StraightTrust.f ST
  rw [isTrust_f t (by omega) (by omega)]; simp only [Option.bind_some]
  by_cases h : tOk t = true
  · rw [if_pos h, if_pos h]; exact iStraight_l h t.length 0 k (by omega) (by omega)
  · rw [if_neg h, if_neg h]

theorem sStraight_l {t : List Int} (h : tOk t = true) : ∀ (d i k : Nat), i + d = t.length → 2 * d + t.length + 1 < k →
    spec_StraightTrust.l0 k t ((List.range i).map (stV t)) (i : Int) = some ((List.range t.length).map (stV t)) := by
  have hlen := tOk_len h
  intro d
  induction d with
  | zero =>
    intro i k hi hk
    obtain ⟨k, rfl, hk1⟩ := fuel hk
    obtain ⟨k, rfl, hk2⟩ := fuel (show t.length < k by omega)
    simp only [spec_StraightTrust.l0]
    rw [if_neg (by omega), show i = t.length from by omega]
    simp [spec_StraightTrust.j1]
  | succ d ih =>
    intro i k hi hk
    obtain ⟨k, rfl, hk'⟩ := fuel hk
    have hin : inT t (i : Int) := ⟨by omega, by omega⟩
    simp only [spec_StraightTrust.l0]
    rw [if_pos (by omega), sTrustOk_f t (by omega) (by omega)]
    simp only [Option.bind_some]
    obtain ⟨k, rfl, hk2⟩ := fuel (show 2 * d + t.length + 1 < k by omega)
    have ih' := ih (i + 1) k (by omega) (by omega)
    rw [ST_snoc] at ih'
    simp only [spec_StraightTrust.j1]
    rw [if_pos h, l9_f h (by omega) hin]
    simp only [Option.bind_some]
    rw [w64s i (by omega)]
    have hl : ((List.range i).map (stV t)).length < 17592186044416 := by simp; omega
    by_cases hv : vo t (i : Int) < 0
    · rw [if_pos hv, if_pos (by omega), if_pos (by omega), if_pos hl]
      rw [show stV t i = rd t (i : Int) from by unfold stV; rw [if_pos hv]] at ih'
      exact ih'
    · rw [if_neg hv, if_pos hl]
      rw [show stV t i = vo t (i : Int) from by unfold stV; rw [if_neg hv]] at ih'
      exact ih'
theorem sStraight_f (t : List Int) (hl : t.length < 1152921504606846976) {k : Nat} (hk : 3 * t.length + 2 < k) : spec_StraightTrust.f k t = some (ST t) := by
  unfold spec_StraightTrust.f ST
  by_cases h : tOk t = true
  · rw [if_pos h]; exact sStraight_l h t.length 0 k (by omega) (by omega)
  · rw [if_neg h]
    obtain ⟨k, rfl, hk1⟩ := fuel hk
    obtain ⟨k, rfl, hk2⟩ := fuel (show 3 * t.length + 1 < k by omega)
    simp only [spec_StraightTrust.l0]
    have hf : tOk t = false := by simpa using h
    by_cases h0 : (0 : Int) < (t.length : Int)
    · rw [if_pos h0, sTrustOk_f t (by omega) (by omega), hf]
      simp [spec_StraightTrust.j1]
    · rw [if_neg h0]; simp [spec_StraightTrust.j1]

/-! ### crowds -/
/-- A crowd of so many people, 1 to 6. -/
def isC (n : Nat) (a : Int) : Bool := decide (1 ≤ n) && decide (n ≤ 6) && (decide (0 ≤ a) && decide (a < ((2 ^ n : Nat) : Int)))
theorem iCrowd_f {n : Nat} {a : Int} : impl_isCrowd.f (n : Int) a = some (isC n a) := by
  unfold impl_isCrowd.f impl_arePeople.f isC
  by_cases h1 : 1 ≤ n
  · rw [if_pos (by omega), decide_eq_true h1]
    by_cases h2 : n ≤ 6
    · simp only [decide_eq_true (by omega : (n : Int) ≤ 6), Option.bind_some, if_true, decide_eq_true h2, Bool.true_and]
      by_cases h3 : a ≥ 0
      · rw [if_pos h3, if_pos (by omega), shl_one (by omega), decide_eq_true (by omega : 0 ≤ a)]; simp
      · rw [if_neg h3, decide_eq_false (by omega : ¬ 0 ≤ a)]; simp
    · simp only [decide_eq_false (by omega : ¬ (n : Int) ≤ 6), Option.bind_some, decide_eq_false h2]; simp
  · rw [if_neg (by omega), decide_eq_false h1]; simp

theorem alive_f : laws_alive.f = some true := by decide

/-! ### draws -/
/-- A code: bytes, at most 2000. -/
def okB (b : List Int) : Prop := b.length ≤ 2000 ∧ ∀ x ∈ b, 0 ≤ x ∧ x < 256
theorem okB_rd {b : List Int} (h : okB b) {i : Int} (h0 : 0 ≤ i) (h1 : i < b.length) : 0 ≤ rd b i ∧ rd b i < 256 := h.2 _ (rd_mem h0 h1)
theorem tmod_in {a : Int} {n : Int} (ha : 0 ≤ a) (hn : 0 < n) : 0 ≤ Int.tmod a n ∧ Int.tmod a n < n :=
  ⟨Int.tmod_nonneg n ha, Int.tmod_lt_of_pos a hn⟩
theorem pick_f {b : List Int} (hb : okB b) {p : Int} (hp0 : 0 ≤ p) (hp : p < 1099511627776) (n : Int) {k : Nat} (hk : 0 < k) :
    ∃ v, spec_l20Rd_pick.f k b p n = some (v, p + 1) ∧ 0 ≤ v ∧ (v < n ∨ v = 0) := by
  obtain ⟨k, rfl, _⟩ := fuel hk
  unfold spec_l20Rd_pick.f
  simp only [spec_l20Rd_pick.j0]
  rw [w64 (x := p + 1) (by omega) (by omega), show p + 1 - 1 = p from by omega, w64 (x := p) (by omega) (by omega)]
  by_cases h1 : n < 1
  · rw [if_pos h1]; exact ⟨0, by simp, by omega, .inr rfl⟩
  · rw [if_neg h1]
    by_cases h2 : (b.length : Int) = 0
    · rw [h2]; exact ⟨0, by simp, by omega, .inr rfl⟩
    · have h2' : ((b.length : Int) == 0) = false := by simpa using h2
      rw [h2', if_neg (by simp)]
      have hb1 := hb.1
      by_cases h3 : p < (b.length : Int)
      · have hr := okB_rd hb hp0 h3
        rw [if_pos h3, if_pos hp0, if_neg (by omega), w64 (x := rd b p) (by omega) (by omega)]
        have := tmod_in hr.1 (show 0 < n by omega)
        exact ⟨_, rfl, this.1, .inl this.2⟩
      · have m1 := tmod_in hp0 (show (0 : Int) < (b.length : Int) by omega)
        have m2 := tmod_in (show (0 : Int) ≤ p * 7 + 3 by omega) (show (0 : Int) < (b.length : Int) by omega)
        have r1 := okB_rd hb m1.1 m1.2
        have r2 := okB_rd hb m2.1 m2.2
        have d1 : 0 ≤ Int.tdiv p (b.length : Int) := Int.tdiv_nonneg hp0 (by omega)
        have d2 : Int.tdiv p (b.length : Int) ≤ p := Int.tdiv_le_self _ hp0
        rw [if_neg h3, if_neg h2]
        rw [w64 (x := p * 7) (by omega) (by omega), w64 (x := p * 7 + 3) (by omega) (by omega)]
        rw [if_pos m1.1, if_pos m1.2, if_pos m2.1, if_pos m2.2, if_neg (by omega)]
        generalize rd b (Int.tmod p (b.length : Int)) = x1 at *
        generalize rd b (Int.tmod (p * 7 + 3) (b.length : Int)) = x2 at *
        generalize Int.tdiv p (b.length : Int) = q at *
        rw [w64 (x := x1) (by omega) (by omega), w64 (x := x2) (by omega) (by omega), w64 (x := x1 * 131) (by omega) (by omega), w64 (x := x2 * 1117) (by omega) (by omega), w64 (x := p * 29) (by omega) (by omega), w64 (x := q) (by omega) (by omega), w64 (x := q * 53) (by omega) (by omega), w64 (x := x1 * 131 + x2 * 1117) (by omega) (by omega), w64 (x := x1 * 131 + x2 * 1117 + p * 29) (by omega) (by omega), w64 (x := x1 * 131 + x2 * 1117 + p * 29 + q * 53) (by omega) (by omega)]
        obtain ⟨X, eX⟩ := Int.eq_ofNat_of_zero_le (show 0 ≤ x1 * 131 + x2 * 1117 + p * 29 + q * 53 by omega)
        have hX : X < 4611686018427387904 := by omega
        rw [eX]
        have e64 : Int.tdiv (X : Int) 64 = ((X / 64 : Nat) : Int) := by rw [show (64 : Int) = ((64 : Nat) : Int) from rfl, ← Int.ofNat_tdiv]
        rw [e64, w64 (by omega) (by omega), bxor (by rw [p62]; omega) (by rw [p62]; omega)]
        have := tmod_in (Int.natCast_nonneg (X ^^^ (X / 64))) (show 0 < n by omega)
        exact ⟨_, rfl, this.1, .inl this.2⟩
theorem odd_f {b : List Int} (hb : okB b) {p : Int} (hp0 : 0 ≤ p) (hp : p < 1099511627776) (n : Int) {k : Nat} (hk : 0 < k) :
    ∃ v q, spec_l20Rd_odd.f k b p n = some (v, q) ∧ p ≤ q ∧ q ≤ p + 1 := by
  unfold spec_l20Rd_odd.f
  by_cases h : n > 0
  · obtain ⟨v, e, _, _⟩ := pick_f hb hp0 hp n hk
    rw [if_pos h, e]; exact ⟨_, _, rfl, by omega, by omega⟩
  · rw [if_neg h]; exact ⟨_, _, rfl, by omega, by omega⟩
theorem open_f {l : List Int} (hb : ∀ x ∈ l, (Lit.int .u8 x).wf = true) : ∃ b, spec_l20Open.f l = some (b, 0) ∧ okB b := by
  have hw : ∀ x ∈ l, 0 ≤ x ∧ x < 256 := by
    exact fun x hx => u8_wf (hb x hx)
  unfold spec_l20Open.f
  by_cases h : (l.length : Int) > 2000
  · rw [if_pos h, if_pos (by omega)]
    exact ⟨_, rfl, by simp; omega, fun x hx => hw x (List.mem_of_mem_take hx)⟩
  · rw [if_neg h]; exact ⟨_, rfl, by omega, hw⟩

theorem l20Trust_l {b : List Int} (hb : okB b) (n : Int) (P : Nat) (hP1 : 1 ≤ P) (hP : P ≤ 6) : ∀ (d k : Nat) (l : List Int) (p : Int), l.length + d = P → d + 3 < k → 0 ≤ p → p + 3 * d < 1000 →
    ∃ t q, spec_l20Trust.l0 k n l (P : Int) (l.length : Int) b p = some (t, q) ∧ t.length ≤ 6 ∧ 0 ≤ q ∧ q < 1010 := by
  intro d
  induction d with
  | zero =>
    intro k l p hl hk hp0 hp
    obtain ⟨k, rfl, _⟩ := fuel hk
    obtain ⟨v, q, e, h1, h2⟩ := odd_f hb hp0 (by omega) n (k := k) (by omega)
    simp only [spec_l20Trust.l0]
    rw [if_neg (by omega), e]
    simp only [Option.bind_some]
    cases v with
    | false => rw [if_neg (by simp)]; exact ⟨_, _, rfl, by omega, by omega, by omega⟩
    | true =>
      rw [if_pos rfl]
      obtain ⟨v, e, h3, h4⟩ := pick_f hb (p := q) (by omega) (by omega) 2 (k := k) (by omega)
      rw [e]; simp only [Option.bind_some]
      by_cases hv : v = 0
      · rw [if_pos hv]; exact ⟨_, _, rfl, by simp, by omega, by omega⟩
      · rw [if_neg hv]
        obtain ⟨u, e, h5, h6⟩ := pick_f hb (p := q + 1) (by omega) (by omega) (P : Int) (k := k) (by omega)
        rw [e]; simp only [Option.bind_some]
        rw [if_pos h5, if_pos (by omega)]
        exact ⟨_, _, rfl, by simp; omega, by omega, by omega⟩
  | succ d ih =>
    intro k l p hl hk hp0 hp
    obtain ⟨k, rfl, _⟩ := fuel hk
    obtain ⟨v, e, h3, h4⟩ := pick_f hb (p := p) (by omega) (by omega) (P : Int) (k := k) (by omega)
    obtain ⟨u, e2, h5, h6⟩ := pick_f hb (p := p + 1) (by omega) (by omega) 3 (k := k) (by omega)
    simp only [spec_l20Trust.l0]
    rw [if_pos (by omega), e]
    simp only [Option.bind_some]
    rw [e2]
    simp only [Option.bind_some]
    rw [w64s l.length (by omega)]
    by_cases hu : u = 0
    · rw [if_pos hu, if_pos (by omega)]
      have := ih k (l ++ [(l.length : Int)]) (p + 1 + 1) (by simp; omega) (by omega) (by omega) (by omega)
      simpa using this
    · rw [if_neg hu, if_pos (by omega)]
      have := ih k (l ++ [v]) (p + 1 + 1) (by simp; omega) (by omega) (by omega) (by omega)
      simpa using this
theorem l20Trust_f {b : List Int} (hb : okB b) (n : Int) {k : Nat} (hk : 20 ≤ k) :
    ∃ t q, spec_l20Trust.f k b 0 n = some (t, q) ∧ t.length ≤ 6 ∧ 0 ≤ q ∧ q < 1010 := by
  unfold spec_l20Trust.f
  obtain ⟨v, e, h3, h4⟩ := pick_f hb (p := 0) (by omega) (by omega) 6 (k := k) (by omega)
  rw [e]; simp only [Option.bind_some]
  obtain ⟨v, rfl⟩ := Int.eq_ofNat_of_zero_le h3
  rw [w64 (by omega) (by omega), show (1 : Int) + (v : Int) = ((v + 1 : Nat) : Int) from by omega]
  exact l20Trust_l hb n (v + 1) (by omega) (by omega) (v + 1) k [] (0 + 1) (by simp) (by omega) (by omega) (by omega)

theorem ST_of {t : List Int} (h : tOk t = true) : ST t = (List.range t.length).map (stV t) := by unfold ST; rw [if_pos h]
theorem ST_len {t : List Int} (h : tOk t = true) : (ST t).length = t.length := by rw [ST_of h]; simp
theorem ST_rd {t : List Int} (h : tOk t = true) {i : Nat} (hi : i < t.length) : rd (ST t) (i : Int) = stV t i := by
  rw [rd_lt (by rw [ST_len h]; exact hi)]
  simp [ST_of h]
theorem stV_in {t : List Int} (h : tOk t = true) {i : Nat} (hi : i < t.length) : inT t (stV t i) := by
  have hin : inT t (i : Int) := ⟨by omega, by omega⟩
  unfold stV
  split
  · exact tOk_rd h hin
  · rcases vo_cases h hin with ⟨h1, _⟩ | ⟨h1, _⟩
    · exact h1
    · omega
theorem ST_ok {t : List Int} (h : tOk t = true) : tOk (ST t) = true := by
  have hl := tOk_len h
  refine tOk_of (by rw [ST_len h]; exact hl.1) (by rw [ST_len h]; exact hl.2) fun x hx => ?_
  rw [ST_len h]
  rw [ST_of h] at hx
  obtain ⟨i, hi, rfl⟩ := List.mem_map.1 hx
  exact stV_in h (List.mem_range.1 hi)
theorem ST_it {t : List Int} (h : tOk t = true) : ∀ (m : Nat) {w : Int}, inT t w → vo t w = -1 → itT (ST t) m w = itT t m w
  | 0, _, _, _ => rfl
  | m + 1, w, hw, hv => by
    obtain ⟨i, rfl⟩ := Int.eq_ofNat_of_zero_le hw.1
    have hw2 := hw.2
    have e : rd (ST t) (i : Int) = rd t (i : Int) := by rw [ST_rd h (by omega)]; unfold stV; rw [if_pos (by omega)]
    show itT (ST t) m (rd (ST t) (i : Int)) = itT t m (rd t (i : Int))
    rw [e]
    exact ST_it h m (tOk_rd h hw) (by rw [vo_step h hw, hv])
theorem vo_it {t : List Int} (h : tOk t = true) : ∀ (m : Nat) {w : Int}, inT t w → vo t (itT t m w) = vo t w
  | 0, _, _ => rfl
  | m + 1, _, hw => by
    show vo t (itT t m (rd t _)) = _
    rw [vo_it h m (tOk_rd h hw), vo_step h hw]
theorem ST_vo {t : List Int} (h : tOk t = true) {w : Int} (hw : inT t w) : vo (ST t) w = vo t w := by
  have hx := ST_ok h
  have hw' : inT (ST t) w := by unfold inT; rw [ST_len h]; exact hw
  rcases vo_cases h hw with ⟨h1, h2, _⟩ | ⟨h1, h2⟩
  · obtain ⟨i, rfl⟩ := Int.eq_ofNat_of_zero_le hw.1
    have hw2 := hw.2
    have e : rd (ST t) (i : Int) = vo t (i : Int) := by rw [ST_rd h (by omega)]; unfold stV; rw [if_neg (by have := h1.1; omega)]
    obtain ⟨v, ev⟩ := Int.eq_ofNat_of_zero_le h1.1
    rw [ev] at h1 h2
    have hv2 := h1.2
    have e2 : rd (ST t) (v : Int) = (v : Int) := by
      rw [ST_rd h (by omega)]; unfold stV; rw [vo_fix h h1 h2, if_neg (by omega)]
    have := vo_of hx hw' (m := 1) (by show rd (ST t) (rd (ST t) _) = rd (ST t) _; rw [e, ev, e2])
    rw [this]; exact e
  · rcases vo_cases hx hw' with ⟨_, k2, k3⟩ | ⟨k1, _⟩
    · exfalso
      rw [← k3, ST_it h _ hw h1] at k2
      have hin := itT_in h (ST t).length hw
      obtain ⟨i, ei⟩ := Int.eq_ofNat_of_zero_le hin.1
      have hin2 := hin.2
      have hv : vo t (itT t (ST t).length w) = -1 := by rw [vo_it h _ hw, h1]
      apply h2 (ST t).length
      rw [ei] at k2 hv hin2 ⊢
      rw [ST_rd h (by omega)] at k2
      unfold stV at k2
      rw [if_pos (by omega)] at k2
      exact k2
    · rw [k1, h1]
theorem ST_wt {t : List Int} (h : tOk t = true) : WT (ST t) = WT t := by
  unfold WT
  rw [if_pos h, if_pos (ST_ok h), ST_len h]
  unfold wtL
  rw [ST_len h]
  apply List.map_congr_left
  intro w _
  congr 1
  apply ctN_congr
  intro i hi
  unfold voIs
  rw [ST_vo h ⟨by omega, by omega⟩]
theorem ST_st {t : List Int} (h : tOk t = true) : ST (ST t) = ST t := by
  rw [ST_of (ST_ok h), ST_len h]
  conv => rhs; rw [ST_of h]
  apply List.map_congr_left
  intro i hi
  have hi := List.mem_range.1 hi
  have e := ST_vo h (w := (i : Int)) ⟨by omega, by omega⟩
  unfold stV
  rw [e, ST_rd h hi]
  unfold stV
  split
  · rfl
  · rfl
theorem VO_in {t : List Int} (h : tOk t = true) {w : Int} (hw : inT t w) : VO t w = vo t w := by unfold VO; rw [if_pos ⟨h, hw⟩]
theorem FnStraight_l {t : List Int} (h : tOk t = true) : ∀ (d i k : Nat), i + d = t.length → d + 25 < k → laws_FnStraightTrust.l0 k t (ST t) (i : Int) = some true := by
  have hlen := tOk_len h
  have hx := ST_ok h
  have hl := ST_len h
  intro d
  induction d with
  | zero =>
    intro i k hi hk
    obtain ⟨k, rfl, _⟩ := fuel hk
    simp only [laws_FnStraightTrust.l0]
    have hwl : (WT t).length ≤ 6 := by unfold WT; rw [if_pos h, wtL_len]; exact hlen.2
    rw [if_neg (by omega), iTrustOk_f (ST t) (by omega) (by omega), hx]
    simp only [Option.bind_some, if_true]
    rw [iWeights_f (ST t) (by omega) (by omega), iWeights_f t (by omega) (by omega)]
    simp only [Option.bind_some]
    rw [ST_wt h, sameInts_f (WT t) (by omega) (by omega)]
    simp only [Option.bind_some, if_true]
    rw [iStraight_f (ST t) (by omega) (by omega)]
    simp only [Option.bind_some]
    rw [ST_st h, sameInts_f (ST t) (by omega) (by omega)]
    rfl
  | succ d ih =>
    intro i k hi hk
    obtain ⟨k, rfl, _⟩ := fuel hk
    have hin : inT t (i : Int) := ⟨by omega, by omega⟩
    have hin' : inT (ST t) (i : Int) := by unfold inT; rw [hl]; exact hin
    simp only [laws_FnStraightTrust.l0]
    rw [if_pos (by omega), iVoiceOf_f (ST t) _ (by omega) (by omega), iVoiceOf_f t _ (by omega) (by omega)]
    simp only [Option.bind_some]
    rw [VO_in h hin, VO_in hx hin', ST_vo h hin, if_pos rfl, w64s i (by omega)]
    exact ih (i + 1) k (by omega) (by omega)
theorem FnStraightTrust : laws_FnStraightTrust.Pure := by
  intro l0 _ _ hb
  by_cases hl : (l0.length : Int) > 1048576
  · exact ⟨0, by unfold laws_FnStraightTrust.f; rw [if_pos hl]⟩
  · obtain ⟨K, hK⟩ : ∃ K : Nat, K = 40 := ⟨_, rfl⟩
    refine ⟨K, ?_⟩
    obtain ⟨b, e1, okb⟩ := open_f hb
    obtain ⟨t, q, e2, ht, _, _⟩ := l20Trust_f okb 9 (k := K) (by omega)
    have e3 : spec_DrawStraightTrust.f K l0 = some t := by unfold spec_DrawStraightTrust.f; rw [e1]; simp only [Option.bind_some]; rw [e2]; rfl
    have e4 := iStraight_f t (by omega) (k := K) (by omega)
    have e5 := sStraight_f t (by omega) (k := K) (by omega)
    have e6 := iTrustOk_f t (by omega) (k := K) (by omega)
    have hsl : (ST t).length ≤ t.length := by unfold ST; split <;> simp
    have e7 := sameInts_f (ST t) (by omega) (k := K) (by omega)
    unfold laws_FnStraightTrust.f
    rw [if_neg hl, e3]
    simp only [Option.bind_some, e4, e5, e6, e7, if_true]
    by_cases h : tOk t = true
    · have hlen := tOk_len h
      rw [if_neg (by rw [ST_len h]; omega)]
      exact FnStraight_l h t.length 0 K (by omega) (by omega)
    · have e : ST t = [] := by unfold ST; rw [if_neg h]
      rw [e]; simp [h, alive_f]

end Go.Proofs.Ytifffgoldielbaa.Pure
