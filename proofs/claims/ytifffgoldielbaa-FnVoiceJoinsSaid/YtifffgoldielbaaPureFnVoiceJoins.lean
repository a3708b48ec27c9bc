/- If a first voice trusts a second one, the second has the weights of both, the first none, and the weights of others stay. Condition: the code is of bytes. -/
import Derived.Test.YtifffgoldielbaaPFnVoiceJoinsx3
import Derived.Test.YtifffgoldielbaaM
namespace Go.Proofs.Ytifffgoldielbaa.Pure
open Go.RowKit Go.Proofs.Ytifffgoldielbaa.PFnVoiceJoins Go.Proofs.YtifffgoldielbaaW.PrintWords Go.Proofs.YtifffgoldielbaaW.PrintLast Go.Proofs.YtifffgoldielbaaW.PrintMore Go.Proofs.Ytifffgoldielbaa.M
set_option linter.unusedVariables false
set_option linter.unusedSimpArgs false

/-! ### who is trust -/
theorem isTrust_l (t : List Int) (hl : t.length < 4611686018427387904) : ∀ (d i k : Nat), i + d = t.length → d < k →
    impl_isTrust.l0 k t t (t.length : Int) (i : Int) = some ((t.drop i).all (fun x => decide (0 ≤ x) && decide (x < (t.length : Int))) && (decide (1 ≤ t.length) && decide (t.length ≤ 6))) := by
  intro d
  induction d with
  | zero =>
    intro i k hi hk
    obtain ⟨k, rfl, _⟩ := fuel hk
    have e : t.drop i = [] := List.drop_eq_nil_of_le (by omega)
    have h6 : decide ((t.length : Int) ≤ 6) = decide (t.length ≤ 6) := decide_eq_decide.2 (by omega)
    have h1 : ((t.length : Int) ≥ 1) ↔ (1 ≤ t.length) := by omega
    simp only [impl_isTrust.l0, impl_arePeople.f]
    rw [if_neg (by omega), e]
    by_cases h : 1 ≤ t.length
    · rw [if_pos (h1.2 h)]; simp [h6, h]
    · rw [if_neg (fun x => h (h1.1 x))]; simp [h]
  | succ d ih =>
    intro i k hi hk
    obtain ⟨k, rfl, hk'⟩ := fuel hk
    have hlt : i < t.length := by omega
    simp only [impl_isTrust.l0]
    rw [if_pos (by omega), if_pos (by omega), if_pos (by omega), rd_lt hlt, w64s i (by omega), ih (i + 1) k (by omega) (by omega), List.drop_eq_getElem_cons hlt, List.all_cons]
    by_cases h1 : t[i] < 0
    · rw [if_pos h1, decide_eq_false (by omega : ¬ (0 : Int) ≤ t[i])]; simp
    · rw [if_neg h1, decide_eq_true (by omega : (0 : Int) ≤ t[i])]
      by_cases h2 : t[i] ≥ (t.length : Int)
      · rw [if_pos h2, decide_eq_false (by omega : ¬ t[i] < (t.length : Int))]; simp
      · rw [if_neg h2, decide_eq_true (by omega : t[i] < (t.length : Int))]; simp
theorem isTrust_f (t : List Int) (hl : t.length < 4611686018427387904) {k : Nat} (hk : t.length < k) : impl_isTrust.f k t = some (tOk t) := by
  unfold impl_isTrust.f
  have := isTrust_l t hl t.length 0 k (by omega) hk
  simpa [tOk] using this

theorem sTrustOk_l (t : List Int) (hl : t.length < 4611686018427387904) : ∀ (d i k : Nat), i + d = t.length → d < k →
    spec_TrustOk.l0 k t (i : Int) = some ((t.drop i).all (fun x => decide (0 ≤ x) && decide (x < (t.length : Int))) && (decide (1 ≤ t.length) && decide (t.length ≤ 6))) := by
  intro d
  induction d with
  | zero =>
    intro i k hi hk
    obtain ⟨k, rfl, _⟩ := fuel hk
    have e : t.drop i = [] := List.drop_eq_nil_of_le (by omega)
    have h6 : decide ((t.length : Int) ≤ 6) = decide (t.length ≤ 6) := decide_eq_decide.2 (by omega)
    have h1 : ((t.length : Int) ≥ 1) ↔ (1 ≤ t.length) := by omega
    simp only [spec_TrustOk.l0, spec_l1In.f]
    rw [if_neg (by omega), e]
    by_cases h : 1 ≤ t.length
    · rw [if_pos (h1.2 h)]; simp [h6, h]
    · rw [if_neg (fun x => h (h1.1 x))]; simp [h]
  | succ d ih =>
    intro i k hi hk
    obtain ⟨k, rfl, hk'⟩ := fuel hk
    have hlt : i < t.length := by omega
    simp only [spec_TrustOk.l0, spec_l1In.f]
    rw [if_pos (by omega), if_pos (by omega), rd_lt hlt, w64s i (by omega), ih (i + 1) k (by omega) (by omega), List.drop_eq_getElem_cons hlt, List.all_cons, w64 (by omega) (by omega)]
    by_cases h1 : t[i] ≥ 0
    · rw [if_pos h1, decide_eq_true (by omega : (0 : Int) ≤ t[i])]
      by_cases h2 : t[i] < (t.length : Int)
      · rw [decide_eq_true (by omega : t[i] ≤ (t.length : Int) - 1), decide_eq_true h2]; simp
      · rw [decide_eq_false (by omega : ¬ t[i] ≤ (t.length : Int) - 1), decide_eq_false h2]; simp
    · rw [if_neg h1, decide_eq_false (by omega : ¬ (0 : Int) ≤ t[i])]; simp
theorem sTrustOk_f (t : List Int) (hl : t.length < 4611686018427387904) {k : Nat} (hk : t.length < k) : spec_TrustOk.f k t = some (tOk t) := by
  unfold spec_TrustOk.f
  have := sTrustOk_l t hl t.length 0 k (by omega) hk
  simpa [tOk] using this

/-! ### the voice -/
theorem voiceOf_l {t : List Int} (h : tOk t = true) : ∀ (d i k : Nat) (w : Int), inT t w → i + d = t.length → d < k →
    impl_voiceOf.l0 k t w (t.length : Int) (i : Int) = some (if rd t (itT t d w) = itT t d w then itT t d w else -1) := by
  have hlen := tOk_len h
  intro d
  induction d with
  | zero =>
    intro i k w hw hi hk
    obtain ⟨k, rfl, _⟩ := fuel hk
    unfold inT at hw
    simp only [impl_voiceOf.l0]
    rw [if_neg (by omega), if_pos hw.1, if_pos hw.2]
    show _ = some (if rd t w = w then w else -1)
    split <;> rfl
  | succ d ih =>
    intro i k w hw hi hk
    obtain ⟨k, rfl, hk'⟩ := fuel hk
    have hw' := hw
    unfold inT at hw'
    simp only [impl_voiceOf.l0]
    rw [if_pos (by omega), if_pos hw'.1, if_pos hw'.2, w64s i (by omega), ih (i + 1) k (rd t w) (tOk_rd h hw) (by omega) (by omega)]
    rfl
theorem voiceOf_f {t : List Int} (h : tOk t = true) {k : Nat} (hk : t.length < k) {w : Int} (hw : inT t w) : impl_voiceOf.f k t w = some (vo t w) := by
  unfold impl_voiceOf.f vo
  exact voiceOf_l h t.length 0 k w hw (by omega) hk

/-! ### weights -/
def voIs (t : List Int) (w : Nat) (j : Nat) : Bool := decide (vo t (j : Int) = (w : Int))
def wtL (t : List Int) (i : Nat) : List Int := (List.range t.length).map fun w => ((ctN (voIs t w) i : Nat) : Int)
def WT (t : List Int) : List Int := if tOk t = true then wtL t t.length else []
theorem wtL_len (t : List Int) (i : Nat) : (wtL t i).length = t.length := by simp [wtL]
theorem wtL_at (t : List Int) (i w : Nat) (h : w < (wtL t i).length) : (wtL t i)[w] = ((ctN (voIs t w) i : Nat) : Int) := by simp [wtL]
theorem wtL_put {t : List Int} {i v : Nat} (hv : v < t.length) (e : vo t (i : Int) = (v : Int)) : (wtL t i).set v (rd (wtL t i) (v : Int) + 1) = wtL t (i + 1) := by
  have hr : rd (wtL t i) (v : Int) = ((ctN (voIs t v) i : Nat) : Int) := by rw [rd_lt (by rw [wtL_len]; exact hv), wtL_at]
  rw [hr]
  apply List.ext_getElem (by simp [wtL_len])
  intro w h1 h2
  have e1 : (wtL t (i + 1))[w] = ((ctN (voIs t w) (i + 1) : Nat) : Int) := wtL_at t (i + 1) w h2
  rw [e1, List.getElem_set]
  have hw : (voIs t w i = true) ↔ v = w := by unfold voIs; rw [decide_eq_true_iff, e]; omega
  by_cases hvw : v = w
  · rw [if_pos hvw]
    subst hvw
    simp only [ctN]; rw [if_pos (hw.2 rfl)]; omega
  · rw [if_neg hvw, wtL_at]
    simp only [ctN]; rw [if_neg (fun x => hvw (hw.1 x))]; omega
theorem wtL_same {t : List Int} {i : Nat} (e : vo t (i : Int) < 0) : wtL t i = wtL t (i + 1) := by
  unfold wtL
  apply List.map_congr_left
  intro w _
  simp only [ctN]
  rw [if_neg (by unfold voIs; rw [decide_eq_true_iff]; omega)]; simp
theorem iWeights_l {t : List Int} (h : tOk t = true) : ∀ (d i k : Nat), i + d = t.length → d + t.length < k →
    impl_WeightsOf.l0 k t (wtL t i) (t.length : Int) (i : Int) = some (wtL t t.length) := by
  have hlen := tOk_len h
  intro d
  induction d with
  | zero =>
    intro i k hi hk
    obtain ⟨k, rfl, _⟩ := fuel hk
    simp only [impl_WeightsOf.l0]
    rw [if_neg (by omega), show i = t.length from by omega]
  | succ d ih =>
    intro i k hi hk
    obtain ⟨k, rfl, hk'⟩ := fuel hk
    have hin : inT t (i : Int) := ⟨by omega, by omega⟩
    have ih' := ih (i + 1) k (by omega) (by omega)
    have hv2 := vo_ge h hin
    simp only [impl_WeightsOf.l0]
    rw [if_pos (by omega), voiceOf_f h (by omega) hin]
    simp only [Option.bind_some]
    rw [w64s i (by omega)]
    by_cases hv : vo t (i : Int) ≥ 0
    · obtain ⟨v, ev⟩ := Int.eq_ofNat_of_zero_le hv
      have hvl : v < t.length := by omega
      have hvl2 : v < (wtL t i).length := by rw [wtL_len]; exact hvl
      have hb : rd (wtL t i) (v : Int) = ((ctN (voIs t v) i : Nat) : Int) := by rw [rd_lt hvl2, wtL_at]
      rw [if_pos hv, if_pos (by omega), if_pos (by rw [wtL_len]; omega), ev]
      have hc := ctN_le (voIs t v) i
      rw [w64 (by omega) (by omega), show ((v : Int)).toNat = v from by omega, wtL_put hvl ev]
      exact ih'
    · rw [if_neg hv, wtL_same (by omega)]; exact ih'
theorem iWeights_f (t : List Int) (hl : t.length ≤ 1048576) {k : Nat} (hk : 2 * t.length < k) : impl_WeightsOf.f k t = some (WT t) := by
  unfold impl_WeightsOf.f WT
  rw [isTrust_f t (by omega) (by omega)]; simp only [Option.bind_some]
  by_cases h : tOk t = true
  · rw [if_pos h, if_pos h, if_pos (by omega), if_pos (by omega)]
    have e : List.replicate ((t.length : Int)).toNat (0 : Int) = wtL t 0 := by
      apply List.ext_getElem (by simp [wtL_len])
      intro w h1 h2
      rw [wtL_at]; simp [ctN]
    rw [e]
    exact iWeights_l h t.length 0 k (by omega) (by omega)
  · rw [if_neg h, if_neg h]

/-! ### crowds -/
/-- A crowd of so many people, 1 to 6. -/
def isC (n : Nat) (a : Int) : Bool := decide (1 ≤ n) && decide (n ≤ 6) && (decide (0 ≤ a) && decide (a < ((2 ^ n : Nat) : Int)))
theorem iCrowd_f {n : Nat} {a : Int} : impl_isCrowd.f (n : Int) a = some (isC n a) := by
  unfold impl_isCrowd.f impl_arePeople.f isC
  by_cases h1 : 1 ≤ n
  · rw [if_pos (by omega), decide_eq_true h1]
    by_cases h2 : n ≤ 6
    · simp only [decide_eq_true (by omega : (n : Int) ≤ 6), Option.bind_some, if_true, decide_eq_true h2, Bool.true_and]
      by_cases h3 : a ≥ 0
      · rw [if_pos h3, if_pos (by omega), shl_one (by omega), decide_eq_true (by omega : 0 ≤ a)]; simp
      · rw [if_neg h3, decide_eq_false (by omega : ¬ 0 ≤ a)]; simp
    · simp only [decide_eq_false (by omega : ¬ (n : Int) ≤ 6), Option.bind_some, decide_eq_false h2]; simp
  · rw [if_neg (by omega), decide_eq_false h1]; simp

theorem alive_f : laws_alive.f = some true := by decide

/-! ### draws -/
/-- A code: bytes, at most 2000. -/
def okB (b : List Int) : Prop := b.length ≤ 2000 ∧ ∀ x ∈ b, 0 ≤ x ∧ x < 256
theorem okB_rd {b : List Int} (h : okB b) {i : Int} (h0 : 0 ≤ i) (h1 : i < b.length) : 0 ≤ rd b i ∧ rd b i < 256 := h.2 _ (rd_mem h0 h1)
theorem tmod_in {a : Int} {n : Int} (ha : 0 ≤ a) (hn : 0 < n) : 0 ≤ Int.tmod a n ∧ Int.tmod a n < n :=
  ⟨Int.tmod_nonneg n ha, Int.tmod_lt_of_pos a hn⟩
theorem pick_f {b : List Int} (hb : okB b) {p : Int} (hp0 : 0 ≤ p) (hp : p < 1099511627776) (n : Int) {k : Nat} (hk : 0 < k) :
    ∃ v, spec_l20Rd_pick.f k b p n = some (v, p + 1) ∧ 0 ≤ v ∧ (v < n ∨ v = 0) := by
  obtain ⟨k, rfl, _⟩ := fuel hk
  unfold spec_l20Rd_pick.f
  simp only [spec_l20Rd_pick.j0]
  rw [w64 (x := p + 1) (by omega) (by omega), show p + 1 - 1 = p from by omega, w64 (x := p) (by omega) (by omega)]
  by_cases h1 : n < 1
  · rw [if_pos h1]; exact ⟨0, by simp, by omega, .inr rfl⟩
  · rw [if_neg h1]
    by_cases h2 : (b.length : Int) = 0
    · rw [h2]; exact ⟨0, by simp, by omega, .inr rfl⟩
    · have h2' : ((b.length : Int) == 0) = false := by simpa using h2
      rw [h2', if_neg (by simp)]
      have hb1 := hb.1
      by_cases h3 : p < (b.length : Int)
      · have hr := okB_rd hb hp0 h3
        rw [if_pos h3, if_pos hp0, if_neg (by omega), w64 (x := rd b p) (by omega) (by omega)]
        have := tmod_in hr.1 (show 0 < n by omega)
        exact ⟨_, rfl, this.1, .inl this.2⟩
      · have m1 := tmod_in hp0 (show (0 : Int) < (b.length : Int) by omega)
        have m2 := tmod_in (show (0 : Int) ≤ p * 7 + 3 by omega) (show (0 : Int) < (b.length : Int) by omega)
        have r1 := okB_rd hb m1.1 m1.2
        have r2 := okB_rd hb m2.1 m2.2
        have d1 : 0 ≤ Int.tdiv p (b.length : Int) := Int.tdiv_nonneg hp0 (by omega)
        have d2 : Int.tdiv p (b.length : Int) ≤ p := Int.tdiv_le_self _ hp0
        rw [if_neg h3, if_neg h2]
        rw [w64 (x := p * 7) (by omega) (by omega), w64 (x := p * 7 + 3) (by omega) (by omega)]
        rw [if_pos m1.1, if_pos m1.2, if_pos m2.1, if_pos m2.2, if_neg (by omega)]
        generalize rd b (Int.tmod p (b.length : Int)) = x1 at *
        generalize rd b (Int.tmod (p * 7 + 3) (b.length : Int)) = x2 at *
        generalize Int.tdiv p (b.length : Int) = q at *
        rw [w64 (x := x1) (by omega) (by omega), w64 (x := x2) (by omega) (by omega), w64 (x := x1 * 131) (by omega) (by omega), w64 (x := x2 * 1117) (by omega) (by omega), w64 (x := p * 29) (by omega) (by omega), w64 (x := q) (by omega) (by omega), w64 (x := q * 53) (by omega) (by omega), w64 (x := x1 * 131 + x2 * 1117) (by omega) (by omega), w64 (x := x1 * 131 + x2 * 1117 + p * 29) (by omega) (by omega), w64 (x := x1 * 131 + x2 * 1117 + p * 29 + q * 53) (by omega) (by omega)]
        obtain ⟨X, eX⟩ := Int.eq_ofNat_of_zero_le (show 0 ≤ x1 * 131 + x2 * 1117 + p * 29 + q * 53 by omega)
        have hX : X < 4611686018427387904 := by omega
        rw [eX]
        have e64 : Int.tdiv (X : Int) 64 = ((X / 64 : Nat) : Int) := by rw [show (64 : Int) = ((64 : Nat) : Int) from rfl, ← Int.ofNat_tdiv]
        rw [e64, w64 (by omega) (by omega), bxor (by rw [p62]; omega) (by rw [p62]; omega)]
        have := tmod_in (Int.natCast_nonneg (X ^^^ (X / 64))) (show 0 < n by omega)
        exact ⟨_, rfl, this.1, .inl this.2⟩
theorem odd_f {b : List Int} (hb : okB b) {p : Int} (hp0 : 0 ≤ p) (hp : p < 1099511627776) (n : Int) {k : Nat} (hk : 0 < k) :
    ∃ v q, spec_l20Rd_odd.f k b p n = some (v, q) ∧ p ≤ q ∧ q ≤ p + 1 := by
  unfold spec_l20Rd_odd.f
  by_cases h : n > 0
  · obtain ⟨v, e, _, _⟩ := pick_f hb hp0 hp n hk
    rw [if_pos h, e]; exact ⟨_, _, rfl, by omega, by omega⟩
  · rw [if_neg h]; exact ⟨_, _, rfl, by omega, by omega⟩
theorem open_f {l : List Int} (hb : ∀ x ∈ l, (Lit.int .u8 x).wf = true) : ∃ b, spec_l20Open.f l = some (b, 0) ∧ okB b := by
  have hw : ∀ x ∈ l, 0 ≤ x ∧ x < 256 := by
    exact fun x hx => u8_wf (hb x hx)
  unfold spec_l20Open.f
  by_cases h : (l.length : Int) > 2000
  · rw [if_pos h, if_pos (by omega)]
    exact ⟨_, rfl, by simp; omega, fun x hx => hw x (List.mem_of_mem_take hx)⟩
  · rw [if_neg h]; exact ⟨_, rfl, by omega, hw⟩

theorem l20Trust_l {b : List Int} (hb : okB b) (n : Int) (P : Nat) (hP1 : 1 ≤ P) (hP : P ≤ 6) : ∀ (d k : Nat) (l : List Int) (p : Int), l.length + d = P → d + 3 < k → 0 ≤ p → p + 3 * d < 1000 →
    ∃ t q, spec_l20Trust.l0 k n l (P : Int) (l.length : Int) b p = some (t, q) ∧ t.length ≤ 6 ∧ 0 ≤ q ∧ q < 1010 := by
  intro d
  induction d with
  | zero =>
    intro k l p hl hk hp0 hp
    obtain ⟨k, rfl, _⟩ := fuel hk
    obtain ⟨v, q, e, h1, h2⟩ := odd_f hb hp0 (by omega) n (k := k) (by omega)
    simp only [spec_l20Trust.l0]
    rw [if_neg (by omega), e]
    simp only [Option.bind_some]
    cases v with
    | false => rw [if_neg (by simp)]; exact ⟨_, _, rfl, by omega, by omega, by omega⟩
    | true =>
      rw [if_pos rfl]
      obtain ⟨v, e, h3, h4⟩ := pick_f hb (p := q) (by omega) (by omega) 2 (k := k) (by omega)
      rw [e]; simp only [Option.bind_some]
      by_cases hv : v = 0
      · rw [if_pos hv]; exact ⟨_, _, rfl, by simp, by omega, by omega⟩
      · rw [if_neg hv]
        obtain ⟨u, e, h5, h6⟩ := pick_f hb (p := q + 1) (by omega) (by omega) (P : Int) (k := k) (by omega)
        rw [e]; simp only [Option.bind_some]
        rw [if_pos h5, if_pos (by omega)]
        exact ⟨_, _, rfl, by simp; omega, by omega, by omega⟩
  | succ d ih =>
    intro k l p hl hk hp0 hp
    obtain ⟨k, rfl, _⟩ := fuel hk
    obtain ⟨v, e, h3, h4⟩ := pick_f hb (p := p) (by omega) (by omega) (P : Int) (k := k) (by omega)
    obtain ⟨u, e2, h5, h6⟩ := pick_f hb (p := p + 1) (by omega) (by omega) 3 (k := k) (by omega)
    simp only [spec_l20Trust.l0]
    rw [if_pos (by omega), e]
    simp only [Option.bind_some]
    rw [e2]
    simp only [Option.bind_some]
    rw [w64s l.length (by omega)]
    by_cases hu : u = 0
    · rw [if_pos hu, if_pos (by omega)]
      have := ih k (l ++ [(l.length : Int)]) (p + 1 + 1) (by simp; omega) (by omega) (by omega) (by omega)
      simpa using this
    · rw [if_neg hu, if_pos (by omega)]
      have := ih k (l ++ [v]) (p + 1 + 1) (by simp; omega) (by omega) (by omega) (by omega)
      simpa using this
theorem l20Trust_f {b : List Int} (hb : okB b) (n : Int) {k : Nat} (hk : 20 ≤ k) :
    ∃ t q, spec_l20Trust.f k b 0 n = some (t, q) ∧ t.length ≤ 6 ∧ 0 ≤ q ∧ q < 1010 := by
  unfold spec_l20Trust.f
  obtain ⟨v, e, h3, h4⟩ := pick_f hb (p := 0) (by omega) (by omega) 6 (k := k) (by omega)
  rw [e]; simp only [Option.bind_some]
  obtain ⟨v, rfl⟩ := Int.eq_ofNat_of_zero_le h3
  rw [w64 (by omega) (by omega), show (1 : Int) + (v : Int) = ((v + 1 : Nat) : Int) from by omega]
  exact l20Trust_l hb n (v + 1) (by omega) (by omega) (v + 1) k [] (0 + 1) (by simp) (by omega) (by omega) (by omega)

theorem jn_len (t : List Int) (a : Nat) (b : Int) : (t.set a b).length = t.length := by simp
theorem jn_rd {t : List Int} {a w : Nat} {b : Int} (hw : w < t.length) : rd (t.set a b) (w : Int) = if w = a then b else rd t (w : Int) := by
  rw [rd_lt (by rw [jn_len]; exact hw), rd_lt hw, List.getElem_set]
  by_cases e : a = w
  · subst e; simp
  · rw [if_neg e, if_neg (fun x => e x.symm)]
theorem jn_ok {t : List Int} (h : tOk t = true) {a b : Nat} (hb : b < t.length) : tOk (t.set a (b : Int)) = true := by
  have hl := tOk_len h
  refine tOk_of (by rw [jn_len]; exact hl.1) (by rw [jn_len]; exact hl.2) fun x hx => ?_
  rw [jn_len]
  rcases List.mem_or_eq_of_mem_set hx with hx | rfl
  · exact tOk_mem h hx
  · omega
theorem jn_path {t : List Int} (h : tOk t = true) {a b : Nat} : ∀ (m : Nat) {w : Int}, inT t w → (∀ j, j < m → itT t j w ≠ (a : Int)) → itT (t.set a (b : Int)) m w = itT t m w
  | 0, _, _, _ => rfl
  | m + 1, w, hw, hn => by
    have h0 := hn 0 (by omega)
    obtain ⟨i, rfl⟩ := Int.eq_ofNat_of_zero_le hw.1
    have hw2 := hw.2
    have e : rd (t.set a (b : Int)) (i : Int) = rd t (i : Int) := by
      rw [jn_rd (by omega), if_neg (fun x => h0 (by show (i : Int) = _; omega))]
    show itT _ m (rd _ (i : Int)) = itT t m (rd t (i : Int))
    rw [e]
    exact jn_path h m (tOk_rd h hw) (fun j hj => hn (j + 1) (by omega))
theorem jn_hit {t : List Int} (h : tOk t = true) {a b : Nat} (ha : a < t.length) : ∀ (m : Nat) {w : Int}, inT t w → itT t m w = (a : Int) → ∃ m', itT (t.set a (b : Int)) m' w = (b : Int)
  | 0, w, hw, e => by
    have e' : w = (a : Int) := e
    refine ⟨1, ?_⟩
    show rd (t.set a (b : Int)) w = _
    rw [e', jn_rd ha, if_pos rfl]
  | m + 1, w, hw, e => by
    obtain ⟨i, rfl⟩ := Int.eq_ofNat_of_zero_le hw.1
    have hw2 := hw.2
    by_cases hi : i = a
    · refine ⟨1, ?_⟩
      show rd (t.set a (b : Int)) (i : Int) = _
      rw [hi, jn_rd ha, if_pos rfl]
    · obtain ⟨m', e2⟩ := jn_hit h (b := b) ha m (tOk_rd h hw) e
      refine ⟨m' + 1, ?_⟩
      show itT _ m' (rd _ (i : Int)) = _
      rw [jn_rd (by omega), if_neg hi]; exact e2
theorem jn_vo {t : List Int} (h : tOk t = true) {a b : Nat} (hab : a ≠ b) (ha : a < t.length) (hb : b < t.length) (fa : rd t (a : Int) = (a : Int)) (fb : rd t (b : Int) = (b : Int)) {w : Int} (hw : inT t w) :
    vo (t.set a (b : Int)) w = if vo t w = (a : Int) then (b : Int) else vo t w := by
  have hx : tOk (t.set a (b : Int)) = true := jn_ok h hb
  have hw' : inT (t.set a (b : Int)) w := by unfold inT; rw [jn_len]; exact hw
  by_cases hva : vo t w = (a : Int)
  · rw [if_pos hva]
    have : ∃ m, itT t m w = (a : Int) := by
      rcases vo_cases h hw with ⟨_, _, h3⟩ | ⟨h1, _⟩
      · exact ⟨_, by rw [h3, hva]⟩
      · omega
    obtain ⟨m, e⟩ := this
    obtain ⟨m', e'⟩ := jn_hit h (b := b) ha m hw e
    have f : rd (t.set a (b : Int)) (b : Int) = (b : Int) := by rw [jn_rd hb, if_neg (fun x => hab x.symm)]; exact fb
    rw [vo_of hx hw' (m := m') (by rw [e']; exact f), e']
  · rw [if_neg hva]
    have hn : ∀ m, itT t m w ≠ (a : Int) := by
      intro m e
      apply hva
      rw [vo_of h hw (m := m) (by rw [e]; exact fa), e]
    have hp : ∀ m, itT (t.set a (b : Int)) m w = itT t m w := fun m => jn_path h m hw (fun j _ => hn j)
    have hr : ∀ m, rd (t.set a (b : Int)) (itT t m w) = rd t (itT t m w) := by
      intro m
      have hin := itT_in h m hw
      have hne := hn m
      obtain ⟨i, ei⟩ := Int.eq_ofNat_of_zero_le hin.1
      have hin2 := hin.2
      rw [ei] at hin2 hne ⊢
      rw [jn_rd (by omega), if_neg (by omega)]
    rcases vo_cases h hw with ⟨_, h2, h3⟩ | ⟨h1, h2⟩
    · have := vo_of hx hw' (m := t.length) (by rw [hp, hr, h3]; exact h2)
      rw [this, hp, h3]
    · rcases vo_cases hx hw' with ⟨_, k2, k3⟩ | ⟨k1, _⟩
      · exfalso
        rw [← k3, hp, hr] at k2
        exact h2 _ k2
      · rw [k1, h1]
theorem ctN_false {p : Nat → Bool} {n : Nat} (h : ∀ i, i < n → p i = false) : ctN p n = 0 := by
  induction n with
  | zero => rfl
  | succ n ih => simp only [ctN]; rw [ih (fun i hi => h i (by omega)), h n (by omega)]; rfl
theorem ctN_plus {p q r : Nat → Bool} {n : Nat} (h : ∀ i, i < n → (p i = true ↔ q i = true ∨ r i = true) ∧ ¬ (q i = true ∧ r i = true)) : ctN p n = ctN q n + ctN r n := by
  induction n with
  | zero => rfl
  | succ n ih =>
    simp only [ctN]; rw [ih (fun i hi => h i (by omega))]
    have := h n (by omega)
    by_cases h1 : q n = true <;> by_cases h2 : r n = true <;> simp_all <;> omega
theorem WT_at {t : List Int} (h : tOk t = true) {w : Nat} (hw : w < t.length) : rd (WT t) (w : Int) = ((ctN (voIs t w) t.length : Nat) : Int) := by
  have e : WT t = wtL t t.length := by unfold WT; rw [if_pos h]
  rw [e, rd_lt (by rw [wtL_len]; exact hw), wtL_at]
theorem WT_len {t : List Int} (h : tOk t = true) : (WT t).length = t.length := by unfold WT; rw [if_pos h, wtL_len]
theorem jn_wt {t : List Int} (h : tOk t = true) {a b : Nat} (hab : a ≠ b) (ha : a < t.length) (hb : b < t.length) (fa : rd t (a : Int) = (a : Int)) (fb : rd t (b : Int) = (b : Int)) {w : Nat} (hw : w < t.length) :
    rd (WT (t.set a (b : Int))) (w : Int) = if w = a then 0 else if w = b then rd (WT t) (a : Int) + rd (WT t) (b : Int) else rd (WT t) (w : Int) := by
  rw [WT_at (jn_ok h hb) (by rw [jn_len]; exact hw), jn_len, WT_at h ha, WT_at h hb, WT_at h hw]
  have key : ∀ i, i < t.length → (voIs (t.set a (b : Int)) w i = decide ((if vo t (i : Int) = (a : Int) then (b : Int) else vo t (i : Int)) = (w : Int))) := by
    intro i hi
    unfold voIs
    rw [jn_vo h hab ha hb fa fb ⟨by omega, by omega⟩]
  rw [ctN_congr key]
  by_cases h1 : w = a
  · rw [if_pos h1, ctN_false (by
      intro i hi
      rw [decide_eq_false_iff_not]
      split <;> omega)]
    rfl
  · rw [if_neg h1]
    by_cases h2 : w = b
    · rw [if_pos h2, ctN_plus (q := voIs t a) (r := voIs t b) (by
        intro i hi
        unfold voIs
        simp only [decide_eq_true_eq]
        constructor
        · split <;> omega
        · omega)]
      omega
    · rw [if_neg h2]
      congr 1
      apply ctN_congr
      intro i hi
      unfold voIs
      apply decide_eq_decide.2
      split <;> omega
theorem joins_l1 {t : List Int} (h : tOk t = true) {a b : Nat} (hab : a ≠ b) (ha : a < t.length) (hb : b < t.length) (fa : rd t (a : Int) = (a : Int)) (fb : rd t (b : Int) = (b : Int)) :
    ∀ (d i k : Nat), i + d = t.length → 3 * d < k → laws_FnVoiceJoins.l1 k (WT t) (a : Int) (b : Int) (WT (t.set a (b : Int))) (i : Int) = some true := by
  have hlen := tOk_len h
  have hl1 := WT_len h
  have hl2 : (WT (t.set a (b : Int))).length = t.length := by rw [WT_len (jn_ok h hb), jn_len]
  intro d
  induction d with
  | zero =>
    intro i k hi hk
    obtain ⟨k, rfl, _⟩ := fuel hk
    simp only [laws_FnVoiceJoins.l1]
    rw [if_neg (by omega)]; simp [alive_f]
  | succ d ih =>
    intro i k hi hk
    obtain ⟨k, rfl, h1⟩ := fuel hk
    obtain ⟨k, rfl, h2⟩ := fuel (show 3 * d + 1 < k by omega)
    obtain ⟨k, rfl, h3⟩ := fuel (show 3 * d < k by omega)
    have ih' := ih (i + 1) k (by omega) (by omega)
    have hw := jn_wt h hab ha hb fa fb (w := i) (by omega)
    have ca := WT_at h ha
    have cb := WT_at h hb
    have la := ctN_le (voIs t a) t.length
    have lb := ctN_le (voIs t b) t.length
    simp only [laws_FnVoiceJoins.l1]
    rw [if_pos (by omega)]
    by_cases e1 : i = a
    · rw [if_pos e1] at hw
      rw [if_pos (by omega), if_pos (by omega), if_pos (by omega), hw]
      simp only [laws_FnVoiceJoins.j3]
      rw [if_neg (by simp), if_neg (by omega)]
      simp only [laws_FnVoiceJoins.j4]
      rw [if_neg (by simp), if_pos (by omega), w64s i (by omega)]
      exact ih'
    · rw [if_neg e1] at hw
      rw [if_neg (by omega)]
      simp only [laws_FnVoiceJoins.j3]
      rw [if_neg (by simp)]
      by_cases e2 : i = b
      · rw [if_pos e2] at hw
        rw [if_pos (by omega), if_pos (by omega), if_pos (by omega), if_pos (by omega), if_pos (by omega), if_pos (by omega), if_pos (by omega), hw, w64 (by omega) (by omega)]
        simp only [laws_FnVoiceJoins.j4]
        rw [if_neg (by simp), if_neg (by omega), if_pos (by omega), w64s i (by omega)]
        exact ih'
      · rw [if_neg e2] at hw
        rw [if_neg (by omega)]
        simp only [laws_FnVoiceJoins.j4]
        rw [if_neg (by simp), if_neg (by omega), if_neg (by omega), if_pos (by omega), if_pos (by omega), if_pos (by omega), if_pos hw, w64s i (by omega)]
        exact ih'
theorem joins_end {t : List Int} (h : tOk t = true) {A B : Int} {k : Nat} (hk : 30 < k) (hs : B = -1 ∨ ∃ a b : Nat, A = (a : Int) ∧ B = (b : Int) ∧ a ≠ b ∧ a < t.length ∧ b < t.length ∧ rd t (a : Int) = (a : Int) ∧ rd t (b : Int) = (b : Int)) :
    laws_FnVoiceJoins.l0 k t (WT t) A B (-1) = some true := by
  have hlen := tOk_len h
  have hl1 := WT_len h
  obtain ⟨k, rfl, h1⟩ := fuel hk
  simp only [laws_FnVoiceJoins.l0]
  rw [if_neg (by omega)]
  rcases hs with rfl | ⟨a, b, rfl, rfl, hab, ha, hb, fa, fb⟩
  · rw [if_pos (by omega)]; simp [alive_f]
  · rw [if_neg (by omega)]
    simp only [Option.bind_some, List.nil_append, List.length_nil]
    rw [if_pos (by omega), if_pos (by omega), if_pos (by omega), show ((a : Int)).toNat = a from by omega]
    rw [iWeights_f (t.set a (b : Int)) (by rw [jn_len]; omega) (by rw [jn_len]; omega)]
    simp only [Option.bind_some]
    rw [if_pos (by rw [WT_len (jn_ok h hb), jn_len, hl1])]
    exact joins_l1 h hab ha hb fa fb t.length 0 k (by omega) (by omega)
theorem joins_l0 {t : List Int} (h : tOk t = true) : ∀ (i k : Nat) (A B : Int), i ≤ t.length → i + 30 < k →
    ((A = -1 ∧ B = -1) ∨ ∃ a : Nat, A = (a : Int) ∧ i ≤ a ∧ a < t.length ∧ rd t (a : Int) = (a : Int) ∧ (B = -1 ∨ ∃ b : Nat, B = (b : Int) ∧ a < b ∧ b < t.length ∧ rd t (b : Int) = (b : Int))) →
    laws_FnVoiceJoins.l0 k t (WT t) A B ((i : Int) - 1) = some true := by
  have hlen := tOk_len h
  intro i
  induction i with
  | zero =>
    intro k A B hi hk hs
    refine joins_end h (by omega) ?_
    rcases hs with ⟨_, hB⟩ | ⟨a, rfl, _, ha, fa, hB | ⟨b, rfl, hab, hb, fb⟩⟩
    · exact .inl hB
    · exact .inl hB
    · exact .inr ⟨a, b, rfl, rfl, by omega, ha, hb, fa, fb⟩
  | succ i ih =>
    intro k A B hi hk hs
    obtain ⟨k, rfl, h1⟩ := fuel hk
    simp only [laws_FnVoiceJoins.l0]
    rw [show ((i + 1 : Nat) : Int) - 1 = (i : Int) from by omega, if_pos (by omega), if_pos (by omega), if_pos (by omega), w64 (by omega) (by omega)]
    by_cases e : rd t (i : Int) = (i : Int)
    · rw [if_pos e]
      refine ih k _ _ (by omega) (by omega) (.inr ⟨i, rfl, Nat.le_refl _, by omega, e, ?_⟩)
      rcases hs with ⟨hA, _⟩ | ⟨a, rfl, h2, ha, fa, _⟩
      · exact .inl hA
      · exact .inr ⟨a, rfl, by omega, ha, fa⟩
    · rw [if_neg e]
      refine ih k _ _ (by omega) (by omega) ?_
      rcases hs with hs | ⟨a, hA, h2, ha, fa, hB⟩
      · exact .inl hs
      · exact .inr ⟨a, hA, by omega, ha, fa, hB⟩
theorem FnVoiceJoins : laws_FnVoiceJoins.Pure := by
  intro l0 _ _ hb
  by_cases hl : (l0.length : Int) > 1048576
  · exact ⟨0, by unfold laws_FnVoiceJoins.f; rw [if_pos hl]⟩
  · obtain ⟨K, hK⟩ : ∃ K : Nat, K = 59 := ⟨_, rfl⟩
    refine ⟨K + 1, ?_⟩
    obtain ⟨b, e1, okb⟩ := open_f hb
    obtain ⟨t, q, e2, ht, _, _⟩ := l20Trust_f okb 9 (k := K + 1) (by omega)
    have e3 : spec_DrawWeightsOf.f (K + 1) l0 = some t := by unfold spec_DrawWeightsOf.f; rw [e1]; simp only [Option.bind_some]; rw [e2]; rfl
    have e4 := iWeights_f t (by omega) (k := K + 1) (by omega)
    have e5 := sTrustOk_f t (by omega) (k := K + 1) (by omega)
    have e6 := sTrustOk_f t (by omega) (k := K) (by omega)
    unfold laws_FnVoiceJoins.f
    rw [if_neg hl, e3]
    simp only [Option.bind_some, e4, e5]
    by_cases h : tOk t = true
    · have hlen := tOk_len h
      rw [if_pos h, WT_len h]
      simp only [laws_FnVoiceJoins.j0]
      rw [if_neg (by simp), w64 (by omega) (by omega)]
      exact joins_l0 h t.length K (-1) (-1) (Nat.le_refl _) (by omega) (.inl ⟨rfl, rfl⟩)
    · have e : WT t = [] := by unfold WT; rw [if_neg h]
      rw [if_neg h, e]
      simp only [laws_FnVoiceJoins.j0, if_true, e6]
      simp [h]

end Go.Proofs.Ytifffgoldielbaa.Pure
