/- For two crowds together who is spoken for is both together, nobody lost is, for all people all others are, and of those spoken for it is the same. Condition: the codes are of bytes. -/
import Derived.Test.YtifffgoldielbaaPFnSpokenForx3
import Derived.Test.YtifffgoldielbaaM
namespace Go.Proofs.Ytifffgoldielbaa.Pure
open Go.RowKit Go.Proofs.Ytifffgoldielbaa.PFnSpokenFor Go.Proofs.YtifffgoldielbaaW.PrintWords Go.Proofs.YtifffgoldielbaaW.PrintLast Go.Proofs.YtifffgoldielbaaW.PrintMore Go.Proofs.Ytifffgoldielbaa.M
set_option linter.unusedVariables false
set_option linter.unusedSimpArgs false

/-! ### who is trust -/
theorem isTrust_l (t : List Int) (hl : t.length < 4611686018427387904) : ∀ (d i k : Nat), i + d = t.length → d < k →
    impl_isTrust.l0 k t t (t.length : Int) (i : Int) = some ((t.drop i).all (fun x => decide (0 ≤ x) && decide (x < (t.length : Int))) && (decide (1 ≤ t.length) && decide (t.length ≤ 6))) := by
  intro d
  induction d with
  | zero =>
    intro i k hi hk
    obtain ⟨k, rfl, _⟩ := fuel hk
    have e : t.drop i = [] := List.drop_eq_nil_of_le (by omega)
    have h6 : decide ((t.length : Int) ≤ 6) = decide (t.length ≤ 6) := decide_eq_decide.2 (by omega)
    have h1 : ((t.length : Int) ≥ 1) ↔ (1 ≤ t.length) := by omega
    simp only [impl_isTrust.l0, impl_arePeople.f]
    rw [if_neg (by omega), e]
    by_cases h : 1 ≤ t.length
    · rw [if_pos (h1.2 h)]; simp [h6, h]
    · rw [if_neg (fun x => h (h1.1 x))]; simp [h]
  | succ d ih =>
    intro i k hi hk
    obtain ⟨k, rfl, hk'⟩ := fuel hk
    have hlt : i < t.length := by omega
    simp only [impl_isTrust.l0]
    rw [if_pos (by omega), if_pos (by omega), if_pos (by omega), rd_lt hlt, w64s i (by omega), ih (i + 1) k (by omega) (by omega), List.drop_eq_getElem_cons hlt, List.all_cons]
    by_cases h1 : t[i] < 0
    · rw [if_pos h1, decide_eq_false (by omega : ¬ (0 : Int) ≤ t[i])]; simp
    · rw [if_neg h1, decide_eq_true (by omega : (0 : Int) ≤ t[i])]
      by_cases h2 : t[i] ≥ (t.length : Int)
      · rw [if_pos h2, decide_eq_false (by omega : ¬ t[i] < (t.length : Int))]; simp
      · rw [if_neg h2, decide_eq_true (by omega : t[i] < (t.length : Int))]; simp
theorem isTrust_f (t : List Int) (hl : t.length < 4611686018427387904) {k : Nat} (hk : t.length < k) : impl_isTrust.f k t = some (tOk t) := by
  unfold impl_isTrust.f
  have := isTrust_l t hl t.length 0 k (by omega) hk
  simpa [tOk] using this

theorem sTrustOk_l (t : List Int) (hl : t.length < 4611686018427387904) : ∀ (d i k : Nat), i + d = t.length → d < k →
    spec_TrustOk.l0 k t (i : Int) = some ((t.drop i).all (fun x => decide (0 ≤ x) && decide (x < (t.length : Int))) && (decide (1 ≤ t.length) && decide (t.length ≤ 6))) := by
  intro d
  induction d with
  | zero =>
    intro i k hi hk
    obtain ⟨k, rfl, _⟩ := fuel hk
    have e : t.drop i = [] := List.drop_eq_nil_of_le (by omega)
    have h6 : decide ((t.length : Int) ≤ 6) = decide (t.length ≤ 6) := decide_eq_decide.2 (by omega)
    have h1 : ((t.length : Int) ≥ 1) ↔ (1 ≤ t.length) := by omega
    simp only [spec_TrustOk.l0, spec_l1In.f]
    rw [if_neg (by omega), e]
    by_cases h : 1 ≤ t.length
    · rw [if_pos (h1.2 h)]; simp [h6, h]
    · rw [if_neg (fun x => h (h1.1 x))]; simp [h]
  | succ d ih =>
    intro i k hi hk
    obtain ⟨k, rfl, hk'⟩ := fuel hk
    have hlt : i < t.length := by omega
    simp only [spec_TrustOk.l0, spec_l1In.f]
    rw [if_pos (by omega), if_pos (by omega), rd_lt hlt, w64s i (by omega), ih (i + 1) k (by omega) (by omega), List.drop_eq_getElem_cons hlt, List.all_cons, w64 (by omega) (by omega)]
    by_cases h1 : t[i] ≥ 0
    · rw [if_pos h1, decide_eq_true (by omega : (0 : Int) ≤ t[i])]
      by_cases h2 : t[i] < (t.length : Int)
      · rw [decide_eq_true (by omega : t[i] ≤ (t.length : Int) - 1), decide_eq_true h2]; simp
      · rw [decide_eq_false (by omega : ¬ t[i] ≤ (t.length : Int) - 1), decide_eq_false h2]; simp
    · rw [if_neg h1, decide_eq_false (by omega : ¬ (0 : Int) ≤ t[i])]; simp
theorem sTrustOk_f (t : List Int) (hl : t.length < 4611686018427387904) {k : Nat} (hk : t.length < k) : spec_TrustOk.f k t = some (tOk t) := by
  unfold spec_TrustOk.f
  have := sTrustOk_l t hl t.length 0 k (by omega) hk
  simpa [tOk] using this

/-! ### the voice -/
theorem voiceOf_l {t : List Int} (h : tOk t = true) : ∀ (d i k : Nat) (w : Int), inT t w → i + d = t.length → d < k →
    impl_voiceOf.l0 k t w (t.length : Int) (i : Int) = some (if rd t (itT t d w) = itT t d w then itT t d w else -1) := by
  have hlen := tOk_len h
  intro d
  induction d with
  | zero =>
    intro i k w hw hi hk
    obtain ⟨k, rfl, _⟩ := fuel hk
    unfold inT at hw
    simp only [impl_voiceOf.l0]
    rw [if_neg (by omega), if_pos hw.1, if_pos hw.2]
    show _ = some (if rd t w = w then w else -1)
    split <;> rfl
  | succ d ih =>
    intro i k w hw hi hk
    obtain ⟨k, rfl, hk'⟩ := fuel hk
    have hw' := hw
    unfold inT at hw'
    simp only [impl_voiceOf.l0]
    rw [if_pos (by omega), if_pos hw'.1, if_pos hw'.2, w64s i (by omega), ih (i + 1) k (rd t w) (tOk_rd h hw) (by omega) (by omega)]
    rfl
theorem voiceOf_f {t : List Int} (h : tOk t = true) {k : Nat} (hk : t.length < k) {w : Int} (hw : inT t w) : impl_voiceOf.f k t w = some (vo t w) := by
  unfold impl_voiceOf.f vo
  exact voiceOf_l h t.length 0 k w hw (by omega) hk

theorem l9_l {t : List Int} (h : tOk t = true) : ∀ (d i k : Nat) (w : Int), inT t w → i + d = t.length → d < k →
    spec_l9Voice.l0 k t w (i : Int) = some (sv t d w) := by
  have hlen := tOk_len h
  intro d
  induction d with
  | zero =>
    intro i k w hw hi hk
    obtain ⟨k, rfl, _⟩ := fuel hk
    simp only [spec_l9Voice.l0]
    rw [if_neg (by omega)]; rfl
  | succ d ih =>
    intro i k w hw hi hk
    obtain ⟨k, rfl, hk'⟩ := fuel hk
    have hw' := hw
    unfold inT at hw'
    simp only [spec_l9Voice.l0]
    rw [if_pos (by omega), if_pos hw'.1, if_pos hw'.2, w64s i (by omega), ih (i + 1) k (rd t w) (tOk_rd h hw) (by omega) (by omega)]
    show _ = some (if rd t w = w then w else sv t d (rd t w))
    split <;> rfl
theorem l9_f {t : List Int} (h : tOk t = true) {k : Nat} (hk : t.length < k) {w : Int} (hw : inT t w) : spec_l9Voice.f k t w = some (vo t w) := by
  unfold spec_l9Voice.f
  rw [← sv_eq h hw]
  exact l9_l h t.length 0 k w hw (by omega) hk

/-! ### crowds -/
/-- A crowd of so many people, 1 to 6. -/
def isC (n : Nat) (a : Int) : Bool := decide (1 ≤ n) && decide (n ≤ 6) && (decide (0 ≤ a) && decide (a < ((2 ^ n : Nat) : Int)))
theorem iCrowd_f {n : Nat} {a : Int} : impl_isCrowd.f (n : Int) a = some (isC n a) := by
  unfold impl_isCrowd.f impl_arePeople.f isC
  by_cases h1 : 1 ≤ n
  · rw [if_pos (by omega), decide_eq_true h1]
    by_cases h2 : n ≤ 6
    · simp only [decide_eq_true (by omega : (n : Int) ≤ 6), Option.bind_some, if_true, decide_eq_true h2, Bool.true_and]
      by_cases h3 : a ≥ 0
      · rw [if_pos h3, if_pos (by omega), shl_one (by omega), decide_eq_true (by omega : 0 ≤ a)]; simp
      · rw [if_neg h3, decide_eq_false (by omega : ¬ 0 ≤ a)]; simp
    · simp only [decide_eq_false (by omega : ¬ (n : Int) ≤ 6), Option.bind_some, decide_eq_false h2]; simp
  · rw [if_neg (by omega), decide_eq_false h1]; simp

theorem sCrowd_f {n : Nat} {a : Int} : spec_CrowdOk.f (n : Int) a = some (isC n a) := by
  unfold spec_CrowdOk.f spec_l1In.f isC
  by_cases h1 : 1 ≤ n
  · rw [if_pos (by omega), decide_eq_true h1]
    by_cases h2 : n ≤ 6
    · have h62 : 2 ^ n ≤ 64 := pow6 h2
      have hpos := Nat.two_pow_pos n
      simp only [decide_eq_true (by omega : (n : Int) ≤ 6), Option.bind_some, if_true, decide_eq_true h2, Bool.true_and]
      rw [if_pos (by omega), shl_one (by omega), w64 (by omega) (by omega)]
      by_cases h3 : a ≥ 0
      · rw [if_pos h3, decide_eq_true (by omega : 0 ≤ a)]
        simp only [Option.bind_some, Bool.true_and]
        congr 1
        exact decide_eq_decide.2 (by omega)
      · rw [if_neg h3, decide_eq_false (by omega : ¬ 0 ≤ a)]; simp
    · simp only [decide_eq_false (by omega : ¬ (n : Int) ≤ 6), Option.bind_some, decide_eq_false h2]; simp
  · rw [if_neg (by omega), decide_eq_false h1]; simp

/-- What LostOf answers. -/
def lo (t : List Int) : Nat := crN (fun k => decide (vo t (k : Int) < 0)) t.length
def LO (t : List Int) : Int := if tOk t = true then (lo t : Int) else -1
theorem lost_or {c i : Nat} (hc : c < 2 ^ i) (hi : i < 6) : Go.bits .or .i64 (c : Int) (shl .i64 1 (i : Int)) = ((c ||| 2 ^ i : Nat) : Int) := by
  rw [shl_one (by omega), bor (Nat.lt_of_lt_of_le hc (Nat.pow_le_pow_right (by decide) (by omega))) (Nat.pow_lt_pow_right (by decide) (by omega))]
theorem iLost_l {t : List Int} (h : tOk t = true) : ∀ (d i k : Nat), i + d = t.length → d + t.length < k →
    impl_LostOf.l0 k t ((crN (fun k => decide (vo t (k : Int) < 0)) i : Nat) : Int) (t.length : Int) (i : Int) = some (lo t : Int) := by
  have hlen := tOk_len h
  intro d
  induction d with
  | zero =>
    intro i k hi hk
    obtain ⟨k, rfl, _⟩ := fuel hk
    simp only [impl_LostOf.l0]
    rw [if_neg (by omega), show i = t.length from by omega]; rfl
  | succ d ih =>
    intro i k hi hk
    obtain ⟨k, rfl, hk'⟩ := fuel hk
    simp only [impl_LostOf.l0]
    rw [if_pos (by omega), voiceOf_f h (by omega) (⟨by omega, by omega⟩ : inT t (i : Int))]
    simp only [Option.bind_some]
    have ih' := ih (i + 1) k (by omega) (by omega)
    rw [w64s i (by omega)]
    by_cases hv : vo t (i : Int) < 0
    · rw [if_pos hv, if_pos (by omega), lost_or (crN_lt _ i) (by omega)]
      rw [crN, if_pos (decide_eq_true hv)] at ih'; exact ih'
    · rw [if_neg hv]
      rw [crN, if_neg (by simpa using hv)] at ih'; exact ih'
theorem iLostOf_f (t : List Int) (hl : t.length < 2305843009213693952) {k : Nat} (hk : 2 * t.length < k) : impl_LostOf.f k t = some (LO t) := by
  unfold impl_LostOf.f LO
  rw [isTrust_f t (by omega) (by omega)]; simp only [Option.bind_some]
  by_cases h : tOk t = true
  · rw [if_pos h, if_pos h]; exact iLost_l h t.length 0 k (by omega) (by omega)
  · rw [if_neg h, if_neg h]

/-! ### who is spoken for -/
def spB (t : List Int) (c : Nat) (k : Nat) : Bool := decide (0 ≤ vo t (k : Int)) && c.testBit (vo t (k : Int)).toNat
def sp (t : List Int) (c : Nat) : Nat := crN (spB t c) t.length
def SP (t : List Int) (a : Int) : Int := if tOk t = true ∧ isC t.length a = true then (sp t a.toNat : Int) else -1
theorem sp_or {c i : Nat} (hc : c < 2 ^ i) (hi : i < 6) : Go.bits .or .i64 (c : Int) (shl .i64 1 (i : Int)) = ((c ||| 2 ^ i : Nat) : Int) := by
  rw [shl_one (by omega), bor (Nat.lt_of_lt_of_le hc (Nat.pow_le_pow_right (by decide) (by omega))) (Nat.pow_lt_pow_right (by decide) (by omega))]
theorem iSpoken_l {t : List Int} (h : tOk t = true) (c : Nat) (hc : c < 2 ^ 62) : ∀ (d i k : Nat), i + d = t.length → d + t.length < k →
    impl_SpokenFor.l0 k t (c : Int) ((crN (spB t c) i : Nat) : Int) (t.length : Int) (i : Int) = some (sp t c : Int) := by
  have hlen := tOk_len h
  intro d
  induction d with
  | zero =>
    intro i k hi hk
    obtain ⟨k, rfl, _⟩ := fuel hk
    simp only [impl_SpokenFor.l0]
    rw [if_neg (by omega), show i = t.length from by omega]; rfl
  | succ d ih =>
    intro i k hi hk
    obtain ⟨k, rfl, hk'⟩ := fuel hk
    have hin : inT t (i : Int) := ⟨by omega, by omega⟩
    simp only [impl_SpokenFor.l0]
    rw [if_pos (by omega), voiceOf_f h (by omega) hin]
    simp only [Option.bind_some]
    have ih' := ih (i + 1) k (by omega) (by omega)
    rw [w64s i (by omega)]
    by_cases hv : vo t (i : Int) ≥ 0
    · rw [if_pos hv, if_pos (by omega)]
      obtain ⟨v, ev⟩ := Int.eq_ofNat_of_zero_le hv
      have hv2 := vo_ge h hin
      have eb : spB t c i = c.testBit v := by unfold spB; rw [ev]; simp
      rw [ev, shr_and (by omega) hc]
      rw [crN, eb] at ih'
      by_cases hb : c.testBit v = true
      · rw [if_pos hb] at ih' ⊢
        rw [if_pos rfl, if_pos (by omega), sp_or (crN_lt _ i) (by omega)]; exact ih'
      · rw [if_neg hb] at ih' ⊢
        rw [if_neg (by omega)]; exact ih'
    · rw [if_neg hv]
      have eb : spB t c i = false := by unfold spB; rw [decide_eq_false (by omega)]; rfl
      rw [crN, eb, if_neg (by simp)] at ih'; exact ih'
theorem iSpoken_f (t : List Int) (a : Int) (hl : t.length < 2305843009213693952) {k : Nat} (hk : 2 * t.length + 1 < k) : impl_SpokenFor.f k t a = some (SP t a) := by
  obtain ⟨k, rfl, hk'⟩ := fuel hk
  unfold impl_SpokenFor.f SP
  rw [isTrust_f t (by omega) (by omega)]; simp only [Option.bind_some]
  by_cases h : tOk t = true
  · rw [if_pos h, iCrowd_f]
    simp only [Option.bind_some, impl_SpokenFor.j0]
    by_cases hc : isC t.length a = true
    · have h6 := tOk_len h
      have hc' := hc
      simp only [isC, Bool.and_eq_true, decide_eq_true_eq] at hc'
      have hp := pow6 h6.2
      rw [if_pos (show tOk t = true ∧ isC t.length a = true from ⟨h, hc⟩), hc, if_neg (by simp)]
      have := iSpoken_l h a.toNat (by rw [p62]; omega) t.length 0 k (by omega) (by omega)
      rw [show ((a.toNat : Nat) : Int) = a from by omega] at this
      exact this
    · rw [if_neg (show ¬ (tOk t = true ∧ isC t.length a = true) from fun x => hc x.2), show isC t.length a = false from by simpa using hc]; simp
  · rw [if_neg h, if_neg (show ¬ (tOk t = true ∧ isC t.length a = true) from fun x => h x.1)]
    simp only [impl_SpokenFor.j0, if_true]

theorem sSpoken_l {t : List Int} (h : tOk t = true) (c : Nat) (hc : c < 2 ^ 62) : ∀ (d i k : Nat), i + d = t.length → d + t.length < k →
    spec_SpokenFor.l0 k t (c : Int) ((crN (spB t c) i : Nat) : Int) (i : Int) = some (sp t c : Int) := by
  have hlen := tOk_len h
  intro d
  induction d with
  | zero =>
    intro i k hi hk
    obtain ⟨k, rfl, _⟩ := fuel hk
    simp only [spec_SpokenFor.l0]
    rw [if_neg (by omega), show i = t.length from by omega]; rfl
  | succ d ih =>
    intro i k hi hk
    obtain ⟨k, rfl, hk'⟩ := fuel hk
    have hin : inT t (i : Int) := ⟨by omega, by omega⟩
    simp only [spec_SpokenFor.l0]
    rw [if_pos (by omega), l9_f h (by omega) hin]
    simp only [Option.bind_some]
    have ih' := ih (i + 1) k (by omega) (by omega)
    rw [w64s i (by omega)]
    by_cases hv : vo t (i : Int) ≥ 0
    · rw [if_pos hv, if_pos (by omega)]
      obtain ⟨v, ev⟩ := Int.eq_ofNat_of_zero_le hv
      have hv2 := vo_ge h hin
      have eb : spB t c i = c.testBit v := by unfold spB; rw [ev]; simp
      rw [ev, shr_bit (by omega)]
      rw [crN, eb] at ih'
      by_cases hb : c.testBit v = true
      · rw [if_pos hb] at ih' ⊢
        rw [if_pos rfl, if_pos (by omega), sp_or (crN_lt _ i) (by omega)]; exact ih'
      · rw [if_neg hb] at ih' ⊢
        rw [if_neg (by omega)]; exact ih'
    · rw [if_neg hv]
      have eb : spB t c i = false := by unfold spB; rw [decide_eq_false (by omega)]; rfl
      rw [crN, eb, if_neg (by simp)] at ih'; exact ih'
theorem sSpoken_f (t : List Int) (a : Int) (hl : t.length < 2305843009213693952) {k : Nat} (hk : 2 * t.length + 1 < k) : spec_SpokenFor.f k t a = some (SP t a) := by
  obtain ⟨k, rfl, hk'⟩ := fuel hk
  unfold spec_SpokenFor.f SP
  rw [sTrustOk_f t (by omega) (by omega)]; simp only [Option.bind_some]
  by_cases h : tOk t = true
  · rw [if_pos h, sCrowd_f]
    simp only [Option.bind_some, spec_SpokenFor.j0]
    by_cases hc : isC t.length a = true
    · have h6 := tOk_len h
      have hc' := hc
      simp only [isC, Bool.and_eq_true, decide_eq_true_eq] at hc'
      have hp := pow6 h6.2
      rw [if_pos (show tOk t = true ∧ isC t.length a = true from ⟨h, hc⟩), hc, if_neg (by simp)]
      have := sSpoken_l h a.toNat (by rw [p62]; omega) t.length 0 k (by omega) (by omega)
      rw [show ((a.toNat : Nat) : Int) = a from by omega] at this
      exact this
    · rw [if_neg (show ¬ (tOk t = true ∧ isC t.length a = true) from fun x => hc x.2), show isC t.length a = false from by simpa using hc]; simp
  · rw [if_neg h, if_neg (show ¬ (tOk t = true ∧ isC t.length a = true) from fun x => h x.1)]
    simp only [spec_SpokenFor.j0, if_true]

theorem alive_f : laws_alive.f = some true := by decide

/-! ### draws -/
/-- A code: bytes, at most 2000. -/
def okB (b : List Int) : Prop := b.length ≤ 2000 ∧ ∀ x ∈ b, 0 ≤ x ∧ x < 256
theorem okB_rd {b : List Int} (h : okB b) {i : Int} (h0 : 0 ≤ i) (h1 : i < b.length) : 0 ≤ rd b i ∧ rd b i < 256 := h.2 _ (rd_mem h0 h1)
theorem tmod_in {a : Int} {n : Int} (ha : 0 ≤ a) (hn : 0 < n) : 0 ≤ Int.tmod a n ∧ Int.tmod a n < n :=
  ⟨Int.tmod_nonneg n ha, Int.tmod_lt_of_pos a hn⟩
theorem pick_f {b : List Int} (hb : okB b) {p : Int} (hp0 : 0 ≤ p) (hp : p < 1099511627776) (n : Int) {k : Nat} (hk : 0 < k) :
    ∃ v, spec_l20Rd_pick.f k b p n = some (v, p + 1) ∧ 0 ≤ v ∧ (v < n ∨ v = 0) := by
  obtain ⟨k, rfl, _⟩ := fuel hk
  unfold spec_l20Rd_pick.f
  simp only [spec_l20Rd_pick.j0]
  rw [w64 (x := p + 1) (by omega) (by omega), show p + 1 - 1 = p from by omega, w64 (x := p) (by omega) (by omega)]
  by_cases h1 : n < 1
  · rw [if_pos h1]; exact ⟨0, by simp, by omega, .inr rfl⟩
  · rw [if_neg h1]
    by_cases h2 : (b.length : Int) = 0
    · rw [h2]; exact ⟨0, by simp, by omega, .inr rfl⟩
    · have h2' : ((b.length : Int) == 0) = false := by simpa using h2
      rw [h2', if_neg (by simp)]
      have hb1 := hb.1
      by_cases h3 : p < (b.length : Int)
      · have hr := okB_rd hb hp0 h3
        rw [if_pos h3, if_pos hp0, if_neg (by omega), w64 (x := rd b p) (by omega) (by omega)]
        have := tmod_in hr.1 (show 0 < n by omega)
        exact ⟨_, rfl, this.1, .inl this.2⟩
      · have m1 := tmod_in hp0 (show (0 : Int) < (b.length : Int) by omega)
        have m2 := tmod_in (show (0 : Int) ≤ p * 7 + 3 by omega) (show (0 : Int) < (b.length : Int) by omega)
        have r1 := okB_rd hb m1.1 m1.2
        have r2 := okB_rd hb m2.1 m2.2
        have d1 : 0 ≤ Int.tdiv p (b.length : Int) := Int.tdiv_nonneg hp0 (by omega)
        have d2 : Int.tdiv p (b.length : Int) ≤ p := Int.tdiv_le_self _ hp0
        rw [if_neg h3, if_neg h2]
        rw [w64 (x := p * 7) (by omega) (by omega), w64 (x := p * 7 + 3) (by omega) (by omega)]
        rw [if_pos m1.1, if_pos m1.2, if_pos m2.1, if_pos m2.2, if_neg (by omega)]
        generalize rd b (Int.tmod p (b.length : Int)) = x1 at *
        generalize rd b (Int.tmod (p * 7 + 3) (b.length : Int)) = x2 at *
        generalize Int.tdiv p (b.length : Int) = q at *
        rw [w64 (x := x1) (by omega) (by omega), w64 (x := x2) (by omega) (by omega), w64 (x := x1 * 131) (by omega) (by omega), w64 (x := x2 * 1117) (by omega) (by omega), w64 (x := p * 29) (by omega) (by omega), w64 (x := q) (by omega) (by omega), w64 (x := q * 53) (by omega) (by omega), w64 (x := x1 * 131 + x2 * 1117) (by omega) (by omega), w64 (x := x1 * 131 + x2 * 1117 + p * 29) (by omega) (by omega), w64 (x := x1 * 131 + x2 * 1117 + p * 29 + q * 53) (by omega) (by omega)]
        obtain ⟨X, eX⟩ := Int.eq_ofNat_of_zero_le (show 0 ≤ x1 * 131 + x2 * 1117 + p * 29 + q * 53 by omega)
        have hX : X < 4611686018427387904 := by omega
        rw [eX]
        have e64 : Int.tdiv (X : Int) 64 = ((X / 64 : Nat) : Int) := by rw [show (64 : Int) = ((64 : Nat) : Int) from rfl, ← Int.ofNat_tdiv]
        rw [e64, w64 (by omega) (by omega), bxor (by rw [p62]; omega) (by rw [p62]; omega)]
        have := tmod_in (Int.natCast_nonneg (X ^^^ (X / 64))) (show 0 < n by omega)
        exact ⟨_, rfl, this.1, .inl this.2⟩
theorem odd_f {b : List Int} (hb : okB b) {p : Int} (hp0 : 0 ≤ p) (hp : p < 1099511627776) (n : Int) {k : Nat} (hk : 0 < k) :
    ∃ v q, spec_l20Rd_odd.f k b p n = some (v, q) ∧ p ≤ q ∧ q ≤ p + 1 := by
  unfold spec_l20Rd_odd.f
  by_cases h : n > 0
  · obtain ⟨v, e, _, _⟩ := pick_f hb hp0 hp n hk
    rw [if_pos h, e]; exact ⟨_, _, rfl, by omega, by omega⟩
  · rw [if_neg h]; exact ⟨_, _, rfl, by omega, by omega⟩
theorem open_f {l : List Int} (hb : ∀ x ∈ l, (Lit.int .u8 x).wf = true) : ∃ b, spec_l20Open.f l = some (b, 0) ∧ okB b := by
  have hw : ∀ x ∈ l, 0 ≤ x ∧ x < 256 := by
    exact fun x hx => u8_wf (hb x hx)
  unfold spec_l20Open.f
  by_cases h : (l.length : Int) > 2000
  · rw [if_pos h, if_pos (by omega)]
    exact ⟨_, rfl, by simp; omega, fun x hx => hw x (List.mem_of_mem_take hx)⟩
  · rw [if_neg h]; exact ⟨_, rfl, by omega, hw⟩

theorem l20Trust_l {b : List Int} (hb : okB b) (n : Int) (P : Nat) (hP1 : 1 ≤ P) (hP : P ≤ 6) : ∀ (d k : Nat) (l : List Int) (p : Int), l.length + d = P → d + 3 < k → 0 ≤ p → p + 3 * d < 1000 →
    ∃ t q, spec_l20Trust.l0 k n l (P : Int) (l.length : Int) b p = some (t, q) ∧ t.length ≤ 6 ∧ 0 ≤ q ∧ q < 1010 := by
  intro d
  induction d with
  | zero =>
    intro k l p hl hk hp0 hp
    obtain ⟨k, rfl, _⟩ := fuel hk
    obtain ⟨v, q, e, h1, h2⟩ := odd_f hb hp0 (by omega) n (k := k) (by omega)
    simp only [spec_l20Trust.l0]
    rw [if_neg (by omega), e]
    simp only [Option.bind_some]
    cases v with
    | false => rw [if_neg (by simp)]; exact ⟨_, _, rfl, by omega, by omega, by omega⟩
    | true =>
      rw [if_pos rfl]
      obtain ⟨v, e, h3, h4⟩ := pick_f hb (p := q) (by omega) (by omega) 2 (k := k) (by omega)
      rw [e]; simp only [Option.bind_some]
      by_cases hv : v = 0
      · rw [if_pos hv]; exact ⟨_, _, rfl, by simp, by omega, by omega⟩
      · rw [if_neg hv]
        obtain ⟨u, e, h5, h6⟩ := pick_f hb (p := q + 1) (by omega) (by omega) (P : Int) (k := k) (by omega)
        rw [e]; simp only [Option.bind_some]
        rw [if_pos h5, if_pos (by omega)]
        exact ⟨_, _, rfl, by simp; omega, by omega, by omega⟩
  | succ d ih =>
    intro k l p hl hk hp0 hp
    obtain ⟨k, rfl, _⟩ := fuel hk
    obtain ⟨v, e, h3, h4⟩ := pick_f hb (p := p) (by omega) (by omega) (P : Int) (k := k) (by omega)
    obtain ⟨u, e2, h5, h6⟩ := pick_f hb (p := p + 1) (by omega) (by omega) 3 (k := k) (by omega)
    simp only [spec_l20Trust.l0]
    rw [if_pos (by omega), e]
    simp only [Option.bind_some]
    rw [e2]
    simp only [Option.bind_some]
    rw [w64s l.length (by omega)]
    by_cases hu : u = 0
    · rw [if_pos hu, if_pos (by omega)]
      have := ih k (l ++ [(l.length : Int)]) (p + 1 + 1) (by simp; omega) (by omega) (by omega) (by omega)
      simpa using this
    · rw [if_neg hu, if_pos (by omega)]
      have := ih k (l ++ [v]) (p + 1 + 1) (by simp; omega) (by omega) (by omega) (by omega)
      simpa using this
theorem l20Trust_f {b : List Int} (hb : okB b) (n : Int) {k : Nat} (hk : 20 ≤ k) :
    ∃ t q, spec_l20Trust.f k b 0 n = some (t, q) ∧ t.length ≤ 6 ∧ 0 ≤ q ∧ q < 1010 := by
  unfold spec_l20Trust.f
  obtain ⟨v, e, h3, h4⟩ := pick_f hb (p := 0) (by omega) (by omega) 6 (k := k) (by omega)
  rw [e]; simp only [Option.bind_some]
  obtain ⟨v, rfl⟩ := Int.eq_ofNat_of_zero_le h3
  rw [w64 (by omega) (by omega), show (1 : Int) + (v : Int) = ((v + 1 : Nat) : Int) from by omega]
  exact l20Trust_l hb n (v + 1) (by omega) (by omega) (v + 1) k [] (0 + 1) (by simp) (by omega) (by omega) (by omega)

theorem lo_bit (t : List Int) (i : Nat) : (lo t).testBit i = (decide (i < t.length) && decide (vo t (i : Int) < 0)) := crN_bit _ _ _
theorem sp_bit (t : List Int) (c i : Nat) : (sp t c).testBit i = (decide (i < t.length) && spB t c i) := crN_bit _ _ _
theorem isC_of {n c : Nat} (h1 : 1 ≤ n) (h6 : n ≤ 6) (h : c < 2 ^ n) : isC n (c : Int) = true := by
  simp only [isC, Bool.and_eq_true, decide_eq_true_eq]; omega
theorem SP_of {t : List Int} (h : tOk t = true) {c : Nat} (hc : c < 2 ^ t.length) : SP t (c : Int) = (sp t c : Int) := by
  have hlen := tOk_len h
  unfold SP; rw [if_pos ⟨h, isC_of hlen.1 hlen.2 hc⟩]; rfl
theorem sp_or2 (t : List Int) (a b : Nat) : sp t (a ||| b) = sp t a ||| sp t b := by
  apply Nat.eq_of_testBit_eq
  intro i
  rw [Nat.testBit_or, sp_bit, sp_bit, sp_bit]
  unfold spB
  rw [Nat.testBit_or]
  cases decide (i < t.length) <;> cases decide (0 ≤ vo t (i : Int)) <;> simp
theorem sp_lost (t : List Int) (c : Nat) : sp t c &&& lo t = 0 := by
  apply Nat.eq_of_testBit_eq
  intro i
  rw [Nat.testBit_and, sp_bit, lo_bit, Nat.zero_testBit]
  unfold spB
  by_cases h : vo t (i : Int) < 0
  · rw [decide_eq_false (by omega : ¬ 0 ≤ vo t (i : Int))]; simp
  · rw [decide_eq_false h]; simp
theorem sp_all {t : List Int} (h : tOk t = true) : sp t (2 ^ t.length - 1) + lo t = 2 ^ t.length - 1 := by
  have e : lo t = crN (fun i => !(spB t (2 ^ t.length - 1) i)) t.length := by
    apply crN_congr
    intro i hi
    have hin : inT t (i : Int) := ⟨by omega, by omega⟩
    have hv := vo_ge h hin
    show decide (vo t (i : Int) < 0) = !(decide (0 ≤ vo t (i : Int)) && (2 ^ t.length - 1).testBit (vo t (i : Int)).toNat)
    by_cases h0 : vo t (i : Int) < 0
    · rw [decide_eq_true h0, decide_eq_false (by omega)]; rfl
    · rw [decide_eq_false h0, decide_eq_true (by omega), Nat.testBit_two_pow_sub_one, decide_eq_true (by omega)]; rfl
  rw [e]; exact crN_not _ _
theorem sp_sp {t : List Int} (h : tOk t = true) (c : Nat) : sp t (sp t c) = sp t c := by
  apply crN_congr
  intro i hi
  have hin : inT t (i : Int) := ⟨by omega, by omega⟩
  have hv := vo_ge h hin
  show (decide (0 ≤ vo t (i : Int)) && (sp t c).testBit (vo t (i : Int)).toNat) = (decide (0 ≤ vo t (i : Int)) && c.testBit (vo t (i : Int)).toNat)
  by_cases h0 : 0 ≤ vo t (i : Int)
  · have e2 : (((vo t (i : Int)).toNat : Nat) : Int) = vo t (i : Int) := by omega
    rw [sp_bit, decide_eq_true (by omega : (vo t (i : Int)).toNat < t.length)]
    unfold spB
    rw [e2, vo_vo h hin h0]
    simp [h0]
  · rw [decide_eq_false h0]; rfl
theorem sp_draw {l0 : List Int} (hb : ∀ x ∈ l0, (Lit.int .u8 x).wf = true) {k : Nat} (hk : 20 ≤ k) : ∃ x a, spec_DrawSpokenFor.f k l0 = some (x, a) ∧ x.length ≤ 6 := by
  obtain ⟨b, e1, okb⟩ := open_f hb
  obtain ⟨t, q, e2, ht, hq0, hq⟩ := l20Trust_f okb 12 (k := k) (by omega)
  obtain ⟨v, e3, _, _⟩ := pick_f okb hq0 (by omega) ((wrap64 (2 ^ (mn (mx (t.length : Int) 1) 6).toNat))) (k := k) (by omega)
  obtain ⟨u, e4, _, _⟩ := pick_f okb (p := q + 1) (by omega) (by omega) 40 (k := k) (by omega)
  refine ⟨t, wrap64 (v + (wrap64 ((wrap64 (Int.tdiv u 39)) * 64))), ?_, ht⟩
  unfold spec_DrawSpokenFor.f
  rw [bnd e1, bnd e2, bnd e3, bnd e4]
theorem sp_rest {x : List Int} (h : tOk x = true) {c o K : Nat} (hK : 30 ≤ K) (hcl : c < 2 ^ x.length) (ho : o < 2 ^ x.length) : laws_FnSpokenFor.j1 (K + 1) x (c : Int) (sp x c : Int) ((2 ^ x.length - 1 : Nat) : Int) (o : Int) = some true := by
  have hlen := tOk_len h
  have h64 := pow6 hlen.2
  have hpos := Nat.two_pow_pos x.length
  have s1 : sp x c < 2 ^ x.length := crN_lt _ _
  have s2 : sp x o < 2 ^ x.length := crN_lt _ _
  have s3 : lo x < 2 ^ x.length := crN_lt _ _
  have s4 : sp x (2 ^ x.length - 1) < 2 ^ x.length := crN_lt _ _
  have g1 := iSpoken_f x ((c ||| o : Nat) : Int) (by omega) (k := K) (by omega)
  have g2 := iSpoken_f x (o : Int) (by omega) (k := K) (by omega)
  have g3 := iSpoken_f x ((2 ^ x.length - 1 : Nat) : Int) (by omega) (k := K) (by omega)
  have g4 := iSpoken_f x (sp x c : Int) (by omega) (k := K) (by omega)
  have g5 := iLostOf_f x (by omega) (k := K) (by omega)
  rw [SP_of h (Nat.or_lt_two_pow hcl ho)] at g1
  rw [SP_of h ho] at g2
  rw [SP_of h (by omega)] at g3
  rw [SP_of h s1, sp_sp h] at g4
  rw [show LO x = (lo x : Int) from by unfold LO; rw [if_pos h]] at g5
  have ea := sp_all h
  have eb : wrap64 ((sp x (2 ^ x.length - 1) : Nat) + (lo x : Nat) : Int) = ((2 ^ x.length - 1 : Nat) : Int) := by rw [w64 (by omega) (by omega)]; omega
  simp only [laws_FnSpokenFor.j1]
  rw [bor (lt62 hcl hlen.2) (lt62 ho hlen.2), bnd g1, bnd g2, bor (lt62 s1 hlen.2) (lt62 s2 hlen.2), sp_or2, if_pos rfl, bnd g5, band (lt62 s1 hlen.2) (lt62 s3 hlen.2), sp_lost, if_pos (show ((0 : Nat) : Int) = 0 from rfl), bnd g3, bnd g5, eb, if_pos rfl, bnd g4]
  simp
theorem sp_mid {x : List Int} (h : tOk x = true) {l1 : List Int} (hb1 : ∀ y ∈ l1, (Lit.int .u8 y).wf = true) {c K : Nat} (hK : 30 ≤ K) (hcl : c < 2 ^ x.length) :
    (if (l1.length : Int) > 0 then (if 0 < (l1.length : Int) then (if (wrap64 ((wrap64 ((shl .i64 1 (x.length : Int)) - 1)) + 1)) = 0 then (none) else (laws_FnSpokenFor.j1 (K + 1) x (c : Int) (sp x c : Int) (wrap64 ((shl .i64 1 (x.length : Int)) - 1)) (Int.tmod (wrap64 (rd l1 0)) (wrap64 ((wrap64 ((shl .i64 1 (x.length : Int)) - 1)) + 1))))) else (none)) else (laws_FnSpokenFor.j1 (K + 1) x (c : Int) (sp x c : Int) (wrap64 ((shl .i64 1 (x.length : Int)) - 1)) 0)) = some true := by
  have hlen := tOk_len h
  have h64 := pow6 hlen.2
  have hpos := Nat.two_pow_pos x.length
  have eall : wrap64 ((shl .i64 1 (x.length : Int)) - 1) = ((2 ^ x.length - 1 : Nat) : Int) := by
    rw [shl_one (by omega), w64 (by omega) (by omega)]; omega
  have eall2 : wrap64 (((2 ^ x.length - 1 : Nat) : Int) + 1) = ((2 ^ x.length - 1 : Nat) : Int) + 1 := w64 (by omega) (by omega)
  rw [eall, eall2]
  by_cases hm : (l1.length : Int) > 0
  · rw [if_pos hm, if_pos (by omega), if_neg (by omega)]
    have h8 := u8_wf (hb1 _ (rd_mem (xs := l1) (w := 0) (by omega) (by omega)))
    rw [w64 (by omega) (by omega)]
    have m := tmod_in h8.1 (show (0 : Int) < ((2 ^ x.length - 1 : Nat) : Int) + 1 by omega)
    obtain ⟨o, eo⟩ := Int.eq_ofNat_of_zero_le m.1
    rw [eo] at m ⊢
    exact sp_rest h hK hcl (by omega)
  · rw [if_neg hm]; exact sp_rest h hK hcl (o := 0) hpos
theorem FnSpokenFor : laws_FnSpokenFor.Pure := by
  intro l0 l1 _ _ hb _ _ hb1
  obtain ⟨K, hK⟩ : ∃ K : Nat, K = 30 := ⟨_, rfl⟩
  refine ⟨K + 1 + 1, ?_⟩
  unfold laws_FnSpokenFor.f
  by_cases hl : (l0.length : Int) > 1048576
  · rw [if_pos hl]; simp [laws_FnSpokenFor.j0]
  · rw [if_neg hl]
    by_cases hl1 : (l1.length : Int) > 1048576
    · rw [decide_eq_true hl1]; simp [laws_FnSpokenFor.j0]
    · rw [decide_eq_false hl1]
      obtain ⟨x, a, e5, hx⟩ := sp_draw hb (k := K + 1) (by omega)
      have f1 := iSpoken_f x a (by omega) (k := K + 1) (by omega)
      have f2 := sSpoken_f x a (by omega) (k := K + 1) (by omega)
      rw [laws_FnSpokenFor.j0, if_neg (by simp), bnd e5, bnd f1, bnd f2, if_pos rfl]
      by_cases hp : tOk x = true ∧ isC x.length a = true
      · have es : SP x a = (sp x a.toNat : Int) := by unfold SP; rw [if_pos hp]
        obtain ⟨h, hc⟩ := hp
        simp only [isC, Bool.and_eq_true, decide_eq_true_eq] at hc
        obtain ⟨c, rfl⟩ := Int.eq_ofNat_of_zero_le hc.2.1
        rw [show ((c : Int)).toNat = c from by omega] at es
        rw [es, if_neg (by omega)]
        exact sp_mid h hb1 (by omega) (by omega)
      · have es : SP x a = -1 := by unfold SP; rw [if_neg hp]
        rw [es, if_pos (by decide), if_pos rfl, bnd alive_f]

end Go.Proofs.Ytifffgoldielbaa.Pure
