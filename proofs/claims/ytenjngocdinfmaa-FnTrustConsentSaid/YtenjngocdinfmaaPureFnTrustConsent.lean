/- If those whom a crowd speaks for bring a consent about, they do with one more in the crowd. Condition: the codes are of bytes. -/
import Derived.Test.YtenjngocdinfmaaCAll11
import Derived.Test.YtenjngocdinfmaaM
namespace Go.Proofs.Ytenjngocdinfmaa.Pure
open Go.RowKit Go.Proofs.Ytenjngocdinfmaa.PAll Go.Proofs.YtenjngocdinfmaaW.PrintWords Go.Proofs.YtenjngocdinfmaaW.PrintMore Go.Proofs.Ytenjngocdinfmaa.M
set_option linter.unusedVariables false
set_option linter.unusedSimpArgs false

/-! ### who is trust -/
theorem isTrust_l (t : List Int) (hl : t.length < 4611686018427387904) : ∀ (d i k : Nat), i + d = t.length → d < k →
    impl_isTrust.l0 k t t (t.length : Int) (i : Int) = some ((t.drop i).all (fun x => decide (0 ≤ x) && decide (x < (t.length : Int))) && (decide (1 ≤ t.length) && decide (t.length ≤ 6))) := by
  intro d
  induction d with
  | zero =>
    intro i k hi hk
    obtain ⟨k, rfl, _⟩ := fuel hk
    have e : t.drop i = [] := List.drop_eq_nil_of_le (by omega)
    have h6 : decide ((t.length : Int) ≤ 6) = decide (t.length ≤ 6) := decide_eq_decide.2 (by omega)
    have h1 : ((t.length : Int) ≥ 1) ↔ (1 ≤ t.length) := by omega
    simp only [impl_isTrust.l0, impl_arePeople.f]
    rw [if_neg (by omega), e]
    by_cases h : 1 ≤ t.length
    · rw [if_pos (h1.2 h)]; simp [h6, h]
    · rw [if_neg (fun x => h (h1.1 x))]; simp [h]
  | succ d ih =>
    intro i k hi hk
    obtain ⟨k, rfl, hk'⟩ := fuel hk
    have hlt : i < t.length := by omega
    simp only [impl_isTrust.l0]
    rw [if_pos (by omega), if_pos (by omega), if_pos (by omega), rd_lt hlt, w64s i (by omega), ih (i + 1) k (by omega) (by omega), List.drop_eq_getElem_cons hlt, List.all_cons]
    by_cases h1 : t[i] < 0
    · rw [if_pos h1, decide_eq_false (by omega : ¬ (0 : Int) ≤ t[i])]; simp
    · rw [if_neg h1, decide_eq_true (by omega : (0 : Int) ≤ t[i])]
      by_cases h2 : t[i] ≥ (t.length : Int)
      · rw [if_pos h2, decide_eq_false (by omega : ¬ t[i] < (t.length : Int))]; simp
      · rw [if_neg h2, decide_eq_true (by omega : t[i] < (t.length : Int))]; simp
theorem isTrust_f (t : List Int) (hl : t.length < 4611686018427387904) {k : Nat} (hk : t.length < k) : impl_isTrust.f k t = some (tOk t) := by
  unfold impl_isTrust.f
  have := isTrust_l t hl t.length 0 k (by omega) hk
  simpa [tOk] using this

/-! ### the voice -/
theorem voiceOf_l {t : List Int} (h : tOk t = true) : ∀ (d i k : Nat) (w : Int), inT t w → i + d = t.length → d < k →
    impl_voiceOf.l0 k t w (t.length : Int) (i : Int) = some (if rd t (itT t d w) = itT t d w then itT t d w else -1) := by
  have hlen := tOk_len h
  intro d
  induction d with
  | zero =>
    intro i k w hw hi hk
    obtain ⟨k, rfl, _⟩ := fuel hk
    unfold inT at hw
    simp only [impl_voiceOf.l0]
    rw [if_neg (by omega), if_pos hw.1, if_pos hw.2]
    show _ = some (if rd t w = w then w else -1)
    split <;> rfl
  | succ d ih =>
    intro i k w hw hi hk
    obtain ⟨k, rfl, hk'⟩ := fuel hk
    have hw' := hw
    unfold inT at hw'
    simp only [impl_voiceOf.l0]
    rw [if_pos (by omega), if_pos hw'.1, if_pos hw'.2, w64s i (by omega), ih (i + 1) k (rd t w) (tOk_rd h hw) (by omega) (by omega)]
    rfl
theorem voiceOf_f {t : List Int} (h : tOk t = true) {k : Nat} (hk : t.length < k) {w : Int} (hw : inT t w) : impl_voiceOf.f k t w = some (vo t w) := by
  unfold impl_voiceOf.f vo
  exact voiceOf_l h t.length 0 k w hw (by omega) hk

/-! ### crowds -/
/-- A crowd of so many people, 1 to 6. -/
def isC (n : Nat) (a : Int) : Bool := decide (1 ≤ n) && decide (n ≤ 6) && (decide (0 ≤ a) && decide (a < ((2 ^ n : Nat) : Int)))
theorem iCrowd_f {n : Nat} {a : Int} : impl_isCrowd.f (n : Int) a = some (isC n a) := by
  unfold impl_isCrowd.f impl_arePeople.f isC
  by_cases h1 : 1 ≤ n
  · rw [if_pos (by omega), decide_eq_true h1]
    by_cases h2 : n ≤ 6
    · simp only [decide_eq_true (by omega : (n : Int) ≤ 6), Option.bind_some, if_true, decide_eq_true h2, Bool.true_and]
      by_cases h3 : a ≥ 0
      · rw [if_pos h3, if_pos (by omega), shl_one (by omega), decide_eq_true (by omega : 0 ≤ a)]; simp
      · rw [if_neg h3, decide_eq_false (by omega : ¬ 0 ≤ a)]; simp
    · simp only [decide_eq_false (by omega : ¬ (n : Int) ≤ 6), Option.bind_some, decide_eq_false h2]; simp
  · rw [if_neg (by omega), decide_eq_false h1]; simp

theorem sCrowd_f {n : Nat} {a : Int} : spec_CrowdOk.f (n : Int) a = some (isC n a) := by
  unfold spec_CrowdOk.f spec_l1In.f isC
  by_cases h1 : 1 ≤ n
  · rw [if_pos (by omega), decide_eq_true h1]
    by_cases h2 : n ≤ 6
    · have h62 : 2 ^ n ≤ 64 := pow6 h2
      have hpos := Nat.two_pow_pos n
      simp only [decide_eq_true (by omega : (n : Int) ≤ 6), Option.bind_some, if_true, decide_eq_true h2, Bool.true_and]
      rw [if_pos (by omega), shl_one (by omega), w64 (by omega) (by omega)]
      by_cases h3 : a ≥ 0
      · rw [if_pos h3, decide_eq_true (by omega : 0 ≤ a)]
        simp only [Option.bind_some, Bool.true_and]
        congr 1
        exact decide_eq_decide.2 (by omega)
      · rw [if_neg h3, decide_eq_false (by omega : ¬ 0 ≤ a)]; simp
    · simp only [decide_eq_false (by omega : ¬ (n : Int) ≤ 6), Option.bind_some, decide_eq_false h2]; simp
  · rw [if_neg (by omega), decide_eq_false h1]; simp

/-! ### who is spoken for -/
def spB (t : List Int) (c : Nat) (k : Nat) : Bool := decide (0 ≤ vo t (k : Int)) && c.testBit (vo t (k : Int)).toNat
def sp (t : List Int) (c : Nat) : Nat := crN (spB t c) t.length
def SP (t : List Int) (a : Int) : Int := if tOk t = true ∧ isC t.length a = true then (sp t a.toNat : Int) else -1
theorem sp_or {c i : Nat} (hc : c < 2 ^ i) (hi : i < 6) : Go.bits .or .i64 (c : Int) (shl .i64 1 (i : Int)) = ((c ||| 2 ^ i : Nat) : Int) := by
  rw [shl_one (by omega), bor (Nat.lt_of_lt_of_le hc (Nat.pow_le_pow_right (by decide) (by omega))) (Nat.pow_lt_pow_right (by decide) (by omega))]
theorem iSpoken_l {t : List Int} (h : tOk t = true) (c : Nat) (hc : c < 2 ^ 62) : ∀ (d i k : Nat), i + d = t.length → d + t.length < k →
    impl_SpokenFor.l0 k t (c : Int) ((crN (spB t c) i : Nat) : Int) (t.length : Int) (i : Int) = some (sp t c : Int) := by
  have hlen := tOk_len h
  intro d
  induction d with
  | zero =>
    intro i k hi hk
    obtain ⟨k, rfl, _⟩ := fuel hk
    simp only [impl_SpokenFor.l0]
    rw [if_neg (by omega), show i = t.length from by omega]; rfl
  | succ d ih =>
    intro i k hi hk
    obtain ⟨k, rfl, hk'⟩ := fuel hk
    have hin : inT t (i : Int) := ⟨by omega, by omega⟩
    simp only [impl_SpokenFor.l0]
    rw [if_pos (by omega), voiceOf_f h (by omega) hin]
    simp only [Option.bind_some]
    have ih' := ih (i + 1) k (by omega) (by omega)
    rw [w64s i (by omega)]
    by_cases hv : vo t (i : Int) ≥ 0
    · rw [if_pos hv, if_pos (by omega)]
      obtain ⟨v, ev⟩ := Int.eq_ofNat_of_zero_le hv
      have hv2 := vo_ge h hin
      have eb : spB t c i = c.testBit v := by unfold spB; rw [ev]; simp
      rw [ev, shr_and (by omega) hc]
      rw [crN, eb] at ih'
      by_cases hb : c.testBit v = true
      · rw [if_pos hb] at ih' ⊢
        rw [if_pos rfl, if_pos (by omega), sp_or (crN_lt _ i) (by omega)]; exact ih'
      · rw [if_neg hb] at ih' ⊢
        rw [if_neg (by omega)]; exact ih'
    · rw [if_neg hv]
      have eb : spB t c i = false := by unfold spB; rw [decide_eq_false (by omega)]; rfl
      rw [crN, eb, if_neg (by simp)] at ih'; exact ih'
theorem iSpoken_f (t : List Int) (a : Int) (hl : t.length < 2305843009213693952) {k : Nat} (hk : 2 * t.length + 1 < k) : impl_SpokenFor.f k t a = some (SP t a) := by
  obtain ⟨k, rfl, hk'⟩ := fuel hk
  unfold impl_SpokenFor.f SP
  rw [isTrust_f t (by omega) (by omega)]; simp only [Option.bind_some]
  by_cases h : tOk t = true
  · rw [if_pos h, iCrowd_f]
    simp only [Option.bind_some, impl_SpokenFor.j0]
    by_cases hc : isC t.length a = true
    · have h6 := tOk_len h
      have hc' := hc
      simp only [isC, Bool.and_eq_true, decide_eq_true_eq] at hc'
      have hp := pow6 h6.2
      rw [if_pos (show tOk t = true ∧ isC t.length a = true from ⟨h, hc⟩), hc, if_neg (by simp)]
      have := iSpoken_l h a.toNat (by rw [p62]; omega) t.length 0 k (by omega) (by omega)
      rw [show ((a.toNat : Nat) : Int) = a from by omega] at this
      exact this
    · rw [if_neg (show ¬ (tOk t = true ∧ isC t.length a = true) from fun x => hc x.2), show isC t.length a = false from by simpa using hc]; simp
  · rw [if_neg h, if_neg (show ¬ (tOk t = true ∧ isC t.length a = true) from fun x => h x.1)]
    simp only [impl_SpokenFor.j0, if_true]

theorem alive_f : laws_alive.f = some true := by decide

/-! ### draws -/
/-- A code: bytes, at most 2000. -/
def okB (b : List Int) : Prop := b.length ≤ 2000 ∧ ∀ x ∈ b, 0 ≤ x ∧ x < 256
theorem okB_rd {b : List Int} (h : okB b) {i : Int} (h0 : 0 ≤ i) (h1 : i < b.length) : 0 ≤ rd b i ∧ rd b i < 256 := h.2 _ (rd_mem h0 h1)
theorem tmod_in {a : Int} {n : Int} (ha : 0 ≤ a) (hn : 0 < n) : 0 ≤ Int.tmod a n ∧ Int.tmod a n < n :=
  ⟨Int.tmod_nonneg n ha, Int.tmod_lt_of_pos a hn⟩
theorem pick_f {b : List Int} (hb : okB b) {p : Int} (hp0 : 0 ≤ p) (hp : p < 1099511627776) (n : Int) {k : Nat} (hk : 0 < k) :
    ∃ v, spec_l20Rd_pick.f k b p n = some (v, p + 1) ∧ 0 ≤ v ∧ (v < n ∨ v = 0) := by
  obtain ⟨k, rfl, _⟩ := fuel hk
  unfold spec_l20Rd_pick.f
  simp only [spec_l20Rd_pick.j0]
  rw [w64 (x := p + 1) (by omega) (by omega), show p + 1 - 1 = p from by omega, w64 (x := p) (by omega) (by omega)]
  by_cases h1 : n < 1
  · rw [if_pos h1]; exact ⟨0, by simp, by omega, .inr rfl⟩
  · rw [if_neg h1]
    by_cases h2 : (b.length : Int) = 0
    · rw [h2]; exact ⟨0, by simp, by omega, .inr rfl⟩
    · have h2' : ((b.length : Int) == 0) = false := by simpa using h2
      rw [h2', if_neg (by simp)]
      have hb1 := hb.1
      by_cases h3 : p < (b.length : Int)
      · have hr := okB_rd hb hp0 h3
        rw [if_pos h3, if_pos hp0, if_neg (by omega), w64 (x := rd b p) (by omega) (by omega)]
        have := tmod_in hr.1 (show 0 < n by omega)
        exact ⟨_, rfl, this.1, .inl this.2⟩
      · have m1 := tmod_in hp0 (show (0 : Int) < (b.length : Int) by omega)
        have m2 := tmod_in (show (0 : Int) ≤ p * 7 + 3 by omega) (show (0 : Int) < (b.length : Int) by omega)
        have r1 := okB_rd hb m1.1 m1.2
        have r2 := okB_rd hb m2.1 m2.2
        have d1 : 0 ≤ Int.tdiv p (b.length : Int) := Int.tdiv_nonneg hp0 (by omega)
        have d2 : Int.tdiv p (b.length : Int) ≤ p := Int.tdiv_le_self _ hp0
        rw [if_neg h3, if_neg h2]
        rw [w64 (x := p * 7) (by omega) (by omega), w64 (x := p * 7 + 3) (by omega) (by omega)]
        rw [if_pos m1.1, if_pos m1.2, if_pos m2.1, if_pos m2.2, if_neg (by omega)]
        generalize rd b (Int.tmod p (b.length : Int)) = x1 at *
        generalize rd b (Int.tmod (p * 7 + 3) (b.length : Int)) = x2 at *
        generalize Int.tdiv p (b.length : Int) = q at *
        rw [w64 (x := x1) (by omega) (by omega), w64 (x := x2) (by omega) (by omega), w64 (x := x1 * 131) (by omega) (by omega), w64 (x := x2 * 1117) (by omega) (by omega), w64 (x := p * 29) (by omega) (by omega), w64 (x := q) (by omega) (by omega), w64 (x := q * 53) (by omega) (by omega), w64 (x := x1 * 131 + x2 * 1117) (by omega) (by omega), w64 (x := x1 * 131 + x2 * 1117 + p * 29) (by omega) (by omega), w64 (x := x1 * 131 + x2 * 1117 + p * 29 + q * 53) (by omega) (by omega)]
        obtain ⟨X, eX⟩ := Int.eq_ofNat_of_zero_le (show 0 ≤ x1 * 131 + x2 * 1117 + p * 29 + q * 53 by omega)
        have hX : X < 4611686018427387904 := by omega
        rw [eX]
        have e64 : Int.tdiv (X : Int) 64 = ((X / 64 : Nat) : Int) := by rw [show (64 : Int) = ((64 : Nat) : Int) from rfl, ← Int.ofNat_tdiv]
        rw [e64, w64 (by omega) (by omega), bxor (by rw [p62]; omega) (by rw [p62]; omega)]
        have := tmod_in (Int.natCast_nonneg (X ^^^ (X / 64))) (show 0 < n by omega)
        exact ⟨_, rfl, this.1, .inl this.2⟩
theorem odd_f {b : List Int} (hb : okB b) {p : Int} (hp0 : 0 ≤ p) (hp : p < 1099511627776) (n : Int) {k : Nat} (hk : 0 < k) :
    ∃ v q, spec_l20Rd_odd.f k b p n = some (v, q) ∧ p ≤ q ∧ q ≤ p + 1 := by
  unfold spec_l20Rd_odd.f
  by_cases h : n > 0
  · obtain ⟨v, e, _, _⟩ := pick_f hb hp0 hp n hk
    rw [if_pos h, e]; exact ⟨_, _, rfl, by omega, by omega⟩
  · rw [if_neg h]; exact ⟨_, _, rfl, by omega, by omega⟩
theorem open_f {l : List Int} (hb : ∀ x ∈ l, (Lit.int .u8 x).wf = true) : ∃ b, spec_l20Open.f l = some (b, 0) ∧ okB b := by
  have hw : ∀ x ∈ l, 0 ≤ x ∧ x < 256 := by
    exact fun x hx => u8_wf (hb x hx)
  unfold spec_l20Open.f
  by_cases h : (l.length : Int) > 2000
  · rw [if_pos h, if_pos (by omega)]
    exact ⟨_, rfl, by simp; omega, fun x hx => hw x (List.mem_of_mem_take hx)⟩
  · rw [if_neg h]; exact ⟨_, rfl, by omega, hw⟩

theorem l20Trust_l {b : List Int} (hb : okB b) (n : Int) (P : Nat) (hP1 : 1 ≤ P) (hP : P ≤ 6) : ∀ (d k : Nat) (l : List Int) (p : Int), l.length + d = P → d + 3 < k → 0 ≤ p → p + 3 * d < 1000 →
    ∃ t q, spec_l20Trust.l0 k n l (P : Int) (l.length : Int) b p = some (t, q) ∧ t.length ≤ 6 ∧ 0 ≤ q ∧ q < 1010 := by
  intro d
  induction d with
  | zero =>
    intro k l p hl hk hp0 hp
    obtain ⟨k, rfl, _⟩ := fuel hk
    obtain ⟨v, q, e, h1, h2⟩ := odd_f hb hp0 (by omega) n (k := k) (by omega)
    simp only [spec_l20Trust.l0]
    rw [if_neg (by omega), e]
    simp only [Option.bind_some]
    cases v with
    | false => rw [if_neg (by simp)]; exact ⟨_, _, rfl, by omega, by omega, by omega⟩
    | true =>
      rw [if_pos rfl]
      obtain ⟨v, e, h3, h4⟩ := pick_f hb (p := q) (by omega) (by omega) 2 (k := k) (by omega)
      rw [e]; simp only [Option.bind_some]
      by_cases hv : v = 0
      · rw [if_pos hv]; exact ⟨_, _, rfl, by simp, by omega, by omega⟩
      · rw [if_neg hv]
        obtain ⟨u, e, h5, h6⟩ := pick_f hb (p := q + 1) (by omega) (by omega) (P : Int) (k := k) (by omega)
        rw [e]; simp only [Option.bind_some]
        rw [if_pos h5, if_pos (by omega)]
        exact ⟨_, _, rfl, by simp; omega, by omega, by omega⟩
  | succ d ih =>
    intro k l p hl hk hp0 hp
    obtain ⟨k, rfl, _⟩ := fuel hk
    obtain ⟨v, e, h3, h4⟩ := pick_f hb (p := p) (by omega) (by omega) (P : Int) (k := k) (by omega)
    obtain ⟨u, e2, h5, h6⟩ := pick_f hb (p := p + 1) (by omega) (by omega) 3 (k := k) (by omega)
    simp only [spec_l20Trust.l0]
    rw [if_pos (by omega), e]
    simp only [Option.bind_some]
    rw [e2]
    simp only [Option.bind_some]
    rw [w64s l.length (by omega)]
    by_cases hu : u = 0
    · rw [if_pos hu, if_pos (by omega)]
      have := ih k (l ++ [(l.length : Int)]) (p + 1 + 1) (by simp; omega) (by omega) (by omega) (by omega)
      simpa using this
    · rw [if_neg hu, if_pos (by omega)]
      have := ih k (l ++ [v]) (p + 1 + 1) (by simp; omega) (by omega) (by omega) (by omega)
      simpa using this
theorem l20Trust_f {b : List Int} (hb : okB b) (n : Int) {k : Nat} (hk : 20 ≤ k) :
    ∃ t q, spec_l20Trust.f k b 0 n = some (t, q) ∧ t.length ≤ 6 ∧ 0 ≤ q ∧ q < 1010 := by
  unfold spec_l20Trust.f
  obtain ⟨v, e, h3, h4⟩ := pick_f hb (p := 0) (by omega) (by omega) 6 (k := k) (by omega)
  rw [e]; simp only [Option.bind_some]
  obtain ⟨v, rfl⟩ := Int.eq_ofNat_of_zero_le h3
  rw [w64 (by omega) (by omega), show (1 : Int) + (v : Int) = ((v + 1 : Nat) : Int) from by omega]
  exact l20Trust_l hb n (v + 1) (by omega) (by omega) (v + 1) k [] (0 + 1) (by simp) (by omega) (by omega) (by omega)

/-! ### heads of a crowd -/
def hd (c : Nat) : Nat := ctN (fun i => c.testBit i) 6
set_option maxRecDepth 100000 in
theorem heads_all : ∀ c : Fin 64, impl_headsOf.f ((c.val : Nat) : Int) = some ((hd c.val : Nat) : Int) := by decide +kernel
theorem heads_f {c : Nat} (h : c < 64) : impl_headsOf.f (c : Int) = some (hd c : Int) := heads_all ⟨c, h⟩
/-! ### houses -/
def isCI (P a : Int) : Bool := decide (1 ≤ P) && decide (P ≤ 6) && (decide (0 ≤ a) && decide (a < ((2 ^ P.toNat : Nat) : Int)))
theorem isCI_nat (n : Nat) (a : Int) : isCI (n : Int) a = isC n a := by
  unfold isCI isC
  rw [show ((n : Int)).toNat = n from by omega, show decide (1 ≤ (n : Int)) = decide (1 ≤ n) from decide_eq_decide.2 (by omega), show decide ((n : Int) ≤ 6) = decide (n ≤ 6) from decide_eq_decide.2 (by omega)]
theorem iCI_f (P a : Int) : impl_isCrowd.f P a = some (isCI P a) := by
  by_cases h : 0 ≤ P
  · obtain ⟨n, rfl⟩ := Int.eq_ofNat_of_zero_le h
    rw [iCrowd_f, isCI_nat]
  · unfold impl_isCrowd.f impl_arePeople.f isCI
    rw [if_neg (by omega), decide_eq_false (by omega : ¬ 1 ≤ P)]; simp
def hTail (P : Int) (B : List Int) : Bool := decide (1 ≤ P) && decide (P ≤ 6) && decide (B.length ≤ 4)
def hOk (P : Int) (B : List Int) : Bool := B.all (fun b => isCI P b && !(b == 0)) && hTail P B
theorem isHouse_l (P : Int) (B : List Int) (hl : B.length < 4611686018427387904) : ∀ (d i k : Nat), i + d = B.length → d < k →
    impl_isHouse.l0 k B (B.length : Int) (i : Int) P B = some ((B.drop i).all (fun b => isCI P b && !(b == 0)) && hTail P B) := by
  intro d
  induction d with
  | zero =>
    intro i k hi hk
    obtain ⟨k, rfl, _⟩ := fuel hk
    have e : B.drop i = [] := List.drop_eq_nil_of_le (by omega)
    have h4 : decide ((B.length : Int) ≤ 4) = decide (B.length ≤ 4) := decide_eq_decide.2 (by omega)
    rw [impl_isHouse.l0, if_neg (by omega), e]
    unfold impl_arePeople.f hTail
    by_cases h : P ≥ 1
    · rw [if_pos h, bnd rfl, decide_eq_true (by omega : 1 ≤ P)]
      by_cases h2 : P ≤ 6
      · rw [decide_eq_true h2, if_pos rfl, h4]; simp
      · rw [decide_eq_false h2, if_neg (by simp)]; simp
    · rw [if_neg h, bnd rfl, if_neg (by simp), decide_eq_false (by omega : ¬ 1 ≤ P)]; simp
  | succ d ih =>
    intro i k hi hk
    obtain ⟨k, rfl, hk'⟩ := fuel hk
    have hlt : i < B.length := by omega
    rw [impl_isHouse.l0, if_pos (by omega), if_pos (by omega), if_pos (by omega), rd_lt hlt, iCI_f, bnd rfl, w64s i (by omega), ih (i + 1) k (by omega) (by omega), List.drop_eq_getElem_cons hlt, List.all_cons]
    by_cases h1 : isCI P B[i] = true
    · rw [if_pos h1, h1]
      by_cases h2 : B[i] = 0
      · rw [if_pos h2, beq_iff_eq.2 h2]; simp
      · rw [if_neg h2, beq_eq_false_iff_ne.2 h2]; simp
    · rw [if_neg h1, show isCI P B[i] = false from by simpa using h1]; simp
theorem isHouse_f (P : Int) (B : List Int) (hl : B.length < 4611686018427387904) {k : Nat} (hk : B.length < k) : impl_isHouse.f k P B = some (hOk P B) := by
  unfold impl_isHouse.f
  have := isHouse_l P B hl B.length 0 k (by omega) hk
  simpa [hOk] using this
theorem hOk_P {P : Int} {B : List Int} (h : hOk P B = true) : ∃ n : Nat, P = (n : Int) ∧ 1 ≤ n ∧ n ≤ 6 := by
  simp only [hOk, hTail, Bool.and_eq_true, decide_eq_true_eq] at h
  exact ⟨P.toNat, by omega, by omega, by omega⟩
theorem hOk_len {P : Int} {B : List Int} (h : hOk P B = true) : B.length ≤ 4 := by
  simp only [hOk, hTail, Bool.and_eq_true, decide_eq_true_eq] at h; exact h.2.2
theorem hOk_mem {P : Int} {B : List Int} (h : hOk P B = true) {b : Int} (hb : b ∈ B) : 0 < b ∧ b < 64 := by
  obtain ⟨n, rfl, h1, h6⟩ := hOk_P h
  simp only [hOk, Bool.and_eq_true, List.all_eq_true] at h
  have := h.1 b hb
  rw [isCI_nat] at this
  simp only [isC, decide_eq_true_eq, Bool.not_eq_true', beq_eq_false_iff_ne, Bool.and_eq_true] at this
  have := pow6 h6
  omega

theorem sCI_f (P a : Int) : spec_CrowdOk.f P a = some (isCI P a) := by
  by_cases h : 0 ≤ P
  · obtain ⟨n, rfl⟩ := Int.eq_ofNat_of_zero_le h
    rw [sCrowd_f, isCI_nat]
  · unfold spec_CrowdOk.f spec_l1In.f isCI
    rw [if_neg (by omega), decide_eq_false (by omega : ¬ 1 ≤ P)]; simp
theorem sHouse_l (P : Int) (B : List Int) (hl : B.length < 4611686018427387904) : ∀ (d i k : Nat), i + d = B.length → d < k →
    spec_HouseOk.l0 k (i : Int) P B = some ((B.drop i).all (fun b => isCI P b && !(b == 0)) && hTail P B) := by
  intro d
  induction d with
  | zero =>
    intro i k hi hk
    obtain ⟨k, rfl, _⟩ := fuel hk
    have e : B.drop i = [] := List.drop_eq_nil_of_le (by omega)
    have h4 : decide ((B.length : Int) ≤ 4) = decide (B.length ≤ 4) := decide_eq_decide.2 (by omega)
    rw [spec_HouseOk.l0, if_neg (by omega), e]
    unfold spec_l1In.f hTail
    by_cases h : P ≥ 1
    · rw [if_pos h, bnd rfl, decide_eq_true (by omega : 1 ≤ P)]
      by_cases h2 : P ≤ 6
      · rw [decide_eq_true h2, if_pos rfl, h4]; simp
      · rw [decide_eq_false h2, if_neg (by simp)]; simp
    · rw [if_neg h, bnd rfl, if_neg (by simp), decide_eq_false (by omega : ¬ 1 ≤ P)]; simp
  | succ d ih =>
    intro i k hi hk
    obtain ⟨k, rfl, hk'⟩ := fuel hk
    have hlt : i < B.length := by omega
    rw [spec_HouseOk.l0, if_pos (by omega), if_pos (by omega), rd_lt hlt, sCI_f, bnd rfl, w64s i (by omega), ih (i + 1) k (by omega) (by omega), List.drop_eq_getElem_cons hlt, List.all_cons]
    by_cases h1 : isCI P B[i] = true
    · rw [if_pos h1, h1]
      by_cases h2 : B[i] = 0
      · rw [if_pos h2, beq_iff_eq.2 h2]; simp
      · rw [if_neg h2, beq_eq_false_iff_ne.2 h2]; simp
    · rw [if_neg h1, show isCI P B[i] = false from by simpa using h1]; simp
theorem sHouse_f (P : Int) (B : List Int) (hl : B.length < 4611686018427387904) {k : Nat} (hk : B.length < k) : spec_HouseOk.f k P B = some (hOk P B) := by
  unfold spec_HouseOk.f
  have := sHouse_l P B hl B.length 0 k (by omega) hk
  simpa [hOk] using this

/-! ### terms -/
theorem rdM {l : List S35} {i : Nat} (h : i < l.length) : rd_T35 l (i : Int) = l[i] := by
  unfold rd_T35; simp [List.getD_eq_getElem?_getD, List.getElem?_eq_getElem h]
/-- Heads of a body that is told by a number. -/
def hdI (b : Int) : Int := (hd b.toNat : Int)
def aOk (B : List Int) (m : S35) : Bool := decide (m.f0 = 0) && (decide (0 ≤ m.f1) && (decide (m.f1 < (B.length : Int)) && (decide (1 ≤ m.f2) && decide (m.f2 ≤ hdI (rd B m.f1)))))
def oOk (m : S35) : Bool := (decide (m.f0 = 1) || decide (m.f0 = 2)) && (decide (m.f1 = 0) && decide (m.f2 = 0))
theorem aOk_iff {B : List Int} {m : S35} : aOk B m = true ↔ m.f0 = 0 ∧ 0 ≤ m.f1 ∧ m.f1 < (B.length : Int) ∧ 1 ≤ m.f2 ∧ m.f2 ≤ hdI (rd B m.f1) := by
  simp only [aOk, Bool.and_eq_true, decide_eq_true_eq]
theorem oOk_iff {m : S35} : oOk m = true ↔ (m.f0 = 1 ∨ m.f0 = 2) ∧ m.f1 = 0 ∧ m.f2 = 0 := by
  simp only [oOk, Bool.and_eq_true, Bool.or_eq_true, decide_eq_true_eq]
theorem bfalse {b : Bool} (h : ¬ b = true) : b = false := by simpa using h
/-- Parts are counted mark by mark. -/
def scan (B : List Int) : Nat → List S35 → Option Nat
  | p, [] => some p
  | p, m :: ms => if aOk B m = true then scan B (p + 1) ms else if oOk m = true ∧ 2 ≤ p then scan B (p - 1) ms else none
def tmOk (P : Int) (B : List Int) (t : List S35) : Bool := hOk P B && (decide (t.length ≤ 9) && (scan B 0 t == some 1))
inductive TR where
  | at (m : S35)
  | op (m : S35) (l r : TR)
def flat : TR → List S35
  | .at m => [m]
  | .op m l r => flat l ++ (flat r ++ [m])
def okT (B : List Int) : TR → Prop
  | .at m => aOk B m = true
  | .op m l r => oOk m = true ∧ okT B l ∧ okT B r
theorem flat_pos : ∀ T : TR, 0 < (flat T).length
  | .at _ => by simp [flat]
  | .op _ _ _ => by simp [flat]; omega
theorem forest (B : List Int) : ∀ (ms : List S35) (st : List TR) (q : Nat), (∀ x ∈ st, okT B x) → scan B st.length ms = some q →
    ∃ st' : List TR, (∀ x ∈ st', okT B x) ∧ st'.length = q ∧ st.reverse.flatMap flat ++ ms = st'.reverse.flatMap flat := by
  intro ms
  induction ms with
  | nil =>
    intro st q hok hs
    simp only [scan, Option.some.injEq] at hs
    exact ⟨st, hok, hs, by simp⟩
  | cons m ms ih =>
    intro st q hok hs
    simp only [scan] at hs
    by_cases ha : aOk B m = true
    · rw [if_pos ha] at hs
      obtain ⟨st', h1, h2, h3⟩ := ih (.at m :: st) q (by
        intro x hx
        rcases List.mem_cons.1 hx with rfl | hx
        · exact ha
        · exact hok x hx) hs
      exact ⟨st', h1, h2, by rw [← h3]; simp [flat]⟩
    · rw [if_neg ha] at hs
      by_cases ho : oOk m = true ∧ 2 ≤ st.length
      · rw [if_pos ho] at hs
        match st, hok, ho, hs with
        | r :: l :: st0, hok, ho, hs =>
          obtain ⟨st', h1, h2, h3⟩ := ih (.op m l r :: st0) q (by
            intro x hx
            rcases List.mem_cons.1 hx with rfl | hx
            · exact ⟨ho.1, hok l (by simp), hok r (by simp)⟩
            · exact hok x (by simp [hx])) (by simpa using hs)
          exact ⟨st', h1, h2, by rw [← h3]; simp [flat]⟩
        | [x], _, ho, _ => simp at ho
        | [], _, ho, _ => simp at ho
      · rw [if_neg ho] at hs; cases hs
/-- A term is a tree, written out. -/
theorem tree_of {B : List Int} {t : List S35} (h : scan B 0 t = some 1) : ∃ T, okT B T ∧ t = flat T := by
  obtain ⟨st', h1, h2, h3⟩ := forest B t [] 1 (by simp) h
  match st', h1, h2, h3 with
  | [T], h1, _, h3 => exact ⟨T, h1 T (by simp), by simpa using h3⟩
theorem tm_tree {P : Int} {B : List Int} {t : List S35} (h : tmOk P B t = true) : hOk P B = true ∧ t.length ≤ 9 ∧ ∃ T, okT B T ∧ t = flat T := by
  simp only [tmOk, Bool.and_eq_true, decide_eq_true_eq, beq_iff_eq] at h
  exact ⟨h.1, h.2.1, tree_of h.2.2⟩
/-- What a tree says of a crowd. -/
def sat (B : List Int) (m : S35) (c : Nat) : Bool := decide (m.f2 ≤ (hd ((rd B m.f1).toNat &&& c) : Int))
def val (B : List Int) (c : Nat) : TR → Bool
  | .at m => sat B m c
  | .op m l r => if m.f0 = 2 then val B c l || val B c r else val B c l && val B c r
theorem headsI_f {P : Int} {B : List Int} (h : hOk P B = true) {i : Int} (h0 : 0 ≤ i) (h1 : i < (B.length : Int)) : impl_headsOf.f (rd B i) = some (hdI (rd B i)) := by
  have hm := hOk_mem h (rd_mem h0 h1)
  have e := heads_f (c := (rd B i).toNat) (by omega)
  rw [show (((rd B i).toNat : Nat) : Int) = rd B i from by omega] at e
  exact e
theorem isTerm_l {P : Int} {B : List Int} (h : hOk P B = true) (t : List S35) (hl : t.length ≤ 9) : ∀ (d i p k : Nat), i + d = t.length → p ≤ i → 2 * d < k →
    impl_isTerm.l0 k (p : Int) t (t.length : Int) (i : Int) P B = some (scan B p (t.drop i) == some 1) := by
  intro d
  induction d with
  | zero =>
    intro i p k hi hp hk
    obtain ⟨k, rfl, _⟩ := fuel hk
    rw [impl_isTerm.l0, if_neg (by omega), List.drop_eq_nil_of_le (by omega)]
    simp only [scan]
    by_cases e : p = 1
    · subst e; rfl
    · rw [beq_eq_false_iff_ne.2 (show (p : Int) ≠ 1 by omega), beq_eq_false_iff_ne.2 (show some p ≠ some 1 by simpa using e)]
  | succ d ih =>
    intro i p k hi hp hk
    obtain ⟨k, rfl, hk1⟩ := fuel hk
    obtain ⟨k, rfl, hk2⟩ := fuel (show 2 * d + 1 < k by omega)
    have hlt : i < t.length := by omega
    rw [impl_isTerm.l0, if_pos (by omega), if_pos (by omega), if_pos (by omega), rdM hlt, List.drop_eq_getElem_cons hlt]
    generalize hm : t[i] = m
    simp only [scan]
    by_cases e0 : m.f0 = 0
    · have ho : ¬ (oOk m = true ∧ 2 ≤ p) := by rintro ⟨x, _⟩; rw [oOk_iff] at x; omega
      rw [if_pos e0, if_neg ho]
      by_cases e1 : m.f1 < 0
      · rw [if_pos e1, if_neg (fun x => by rw [aOk_iff] at x; omega)]; rfl
      · rw [if_neg e1]
        by_cases e2 : m.f1 ≥ (B.length : Int)
        · rw [if_pos e2, if_neg (fun x => by rw [aOk_iff] at x; omega)]; rfl
        · rw [if_neg e2]
          by_cases e3 : m.f2 < 1
          · rw [if_pos e3, if_neg (fun x => by rw [aOk_iff] at x; omega)]; rfl
          · rw [if_neg e3, if_pos (by omega), if_pos (by omega), headsI_f h (by omega) (by omega), bnd rfl]
            by_cases e4 : m.f2 > hdI (rd B m.f1)
            · rw [if_pos e4, if_neg (fun x => by rw [aOk_iff] at x; omega)]; rfl
            · have ha : aOk B m = true := by rw [aOk_iff]; omega
              rw [if_neg e4, if_pos ha, w64s i (by omega), w64s p (by omega)]
              exact ih (i + 1) (p + 1) (k + 1) (by omega) (by omega) (by omega)
    · have ha : ¬ aOk B m = true := by intro x; rw [aOk_iff] at x; omega
      rw [if_neg e0, if_neg ha]
      have key : ∀ b : Bool, (b = true ↔ m.f0 = 1 ∨ m.f0 = 2) → impl_isTerm.j2 (k + 1) (p : Int) t (t.length : Int) (i : Int) b P B m.f0 m.f1 m.f2 = some ((if oOk m = true ∧ 2 ≤ p then scan B (p - 1) (t.drop (i + 1)) else none) == some 1) := by
        intro b hb
        rw [impl_isTerm.j2]
        by_cases h1 : b = true
        · rw [if_pos h1]
          by_cases h2 : m.f1 = 0
          · rw [if_pos h2]
            by_cases h3 : m.f2 = 0
            · rw [if_pos h3]
              have ho : oOk m = true := by rw [oOk_iff]; exact ⟨hb.1 h1, h2, h3⟩
              by_cases h4 : (p : Int) < 2
              · rw [if_pos h4, if_neg (by omega)]; rfl
              · rw [if_neg h4, if_pos ⟨ho, by omega⟩, w64s i (by omega), w64 (by omega) (by omega), show (p : Int) - 1 = ((p - 1 : Nat) : Int) from by omega]
                exact ih (i + 1) (p - 1) k (by omega) (by omega) (by omega)
            · rw [if_neg h3, if_neg (fun x => by rw [oOk_iff] at x; exact h3 x.1.2.2)]; rfl
          · rw [if_neg h2, if_neg (fun x => by rw [oOk_iff] at x; exact h2 x.1.2.1)]; rfl
        · rw [if_neg h1, if_neg (fun x => by rw [oOk_iff] at x; exact h1 (hb.2 x.1.1))]; rfl
      by_cases e1 : m.f0 = 1
      · rw [if_pos e1]; exact key _ (by rw [beq_iff_eq]; omega)
      · rw [if_neg e1]; exact key _ (by rw [beq_iff_eq]; omega)
theorem isTerm_f (P : Int) (B : List Int) (t : List S35) (hB : B.length < 4611686018427387904) (hl : t.length < 4611686018427387904) {k : Nat} (hk : B.length + 40 < k) : impl_isTerm.f k P B t = some (tmOk P B t) := by
  unfold impl_isTerm.f
  rw [isHouse_f P B hB (by omega), bnd rfl]
  obtain ⟨k, rfl, hk'⟩ := fuel hk
  unfold tmOk
  by_cases h : hOk P B = true
  · rw [if_pos h, h]
    by_cases h1 : (t.length : Int) < 1
    · have : t = [] := List.length_eq_zero_iff.1 (by omega)
      subst this
      rw [if_pos h1, impl_isTerm.j0, if_pos rfl]; rfl
    · rw [if_neg h1, impl_isTerm.j0]
      by_cases h2 : (t.length : Int) > 9
      · rw [if_pos (decide_eq_true h2), decide_eq_false (by omega)]; rfl
      · rw [if_neg (by simpa using h2), decide_eq_true (by omega)]
        have := isTerm_l h t (by omega) t.length 0 0 k (by omega) (by omega) (by omega)
        simpa using this
  · rw [if_neg h, bfalse h, impl_isTerm.j0, if_pos rfl]; rfl

/-! ### consent, mark by mark -/
theorem rdB (st : List Bool) (a : Bool) (r : List Bool) : rdOf false (st ++ a :: r) (st.length : Int) = a := by
  unfold rdOf; simp
theorem rdB1 (st : List Bool) (a b : Bool) : rdOf false (st ++ [a, b]) ((st.length : Int) + 1) = b := by
  unfold rdOf
  rw [show ((st.length : Int) + 1).toNat = st.length + 1 from by omega]
  simp [List.getD_eq_getElem?_getD, List.getElem?_append_right]
theorem sat_f {P : Int} {B : List Int} (h : hOk P B = true) {m : S35} (ha : aOk B m = true) {c : Nat} (hc : c < 64) :
    impl_headsOf.f (Go.bits .and .i64 (rd B m.f1) (c : Int)) = some ((hd ((rd B m.f1).toNat &&& c) : Nat) : Int) := by
  rw [aOk_iff] at ha
  have hm := hOk_mem h (rd_mem ha.2.1 ha.2.2.1)
  obtain ⟨b, eb⟩ := Int.eq_ofNat_of_zero_le (show 0 ≤ rd B m.f1 by omega)
  rw [eb, band (lt62 (n := 6) (by omega) (by omega)) (lt62 (n := 6) (by omega) (by omega)), show ((b : Int)).toNat = b from by omega]
  exact heads_f (Nat.lt_of_le_of_lt Nat.and_le_right hc)
theorem consents_op {P : Int} {B : List Int} {c : Nat} {t : List S35} {m : S35} {p : Nat} (hlt : p < t.length) (hm : t[p] = m) (ho : oOk m = true) (hl : t.length ≤ 9) (st : List Bool) (a b : Bool) (hst : st.length ≤ 1000) (k : Nat) :
    impl_consents.l0 (k + 1) (c : Int) (st ++ [a, b]) t (t.length : Int) (p : Int) P B = impl_consents.l0 k (c : Int) (st ++ [if m.f0 = 2 then a || b else a && b]) t (t.length : Int) ((p + 1 : Nat) : Int) P B := by
  have ho' := oOk_iff.1 ho
  have hlen : (st ++ [a, b]).length = st.length + 2 := by simp
  have w2 : wrap64 (((st ++ [a, b]).length : Int) - 2) = (st.length : Int) := by rw [hlen, w64 (by omega) (by omega)]; omega
  have w1 : wrap64 (((st ++ [a, b]).length : Int) - 1) = (st.length : Int) + 1 := by rw [hlen, w64 (by omega) (by omega)]; omega
  have ht : (st ++ [a, b]).take ((st.length : Int)).toNat = st := by rw [show ((st.length : Int)).toNat = st.length from by omega]; simp
  rw [impl_consents.l0, if_pos (by omega), if_pos (by omega), if_pos (by omega), rdM hlt, hm, if_neg (by omega), w2, w1, if_pos (by omega), if_pos (by omega), if_pos (by omega), if_pos (by omega), rdB, rdB1, w64s p (by omega), ht]
  have hle : (st.length : Int) ≤ ((st ++ [a, b]).length : Int) := by omega
  cases a with
  | true =>
    rw [if_pos rfl]
    by_cases h2 : m.f0 = 2
    · rw [if_pos h2, if_pos hle, bnd rfl, if_pos (by omega), if_pos h2]; rfl
    · rw [if_neg h2, if_pos hle, bnd rfl, if_pos (by omega), if_neg h2]; simp
  | false =>
    rw [if_neg (by simp)]
    by_cases h2 : m.f0 = 2
    · rw [if_pos h2, if_pos hle, bnd rfl, if_pos (by omega), if_pos h2]; simp
    · rw [if_neg h2, if_pos hle, bnd rfl, if_pos (by omega), if_neg h2]; simp
theorem consents_T {P : Int} {B : List Int} (h : hOk P B = true) {c : Nat} (hc : c < 64) : ∀ (T : TR), okT B T → ∀ (t : List S35) (xs ys : List S35) (st : List Bool) (k : Nat), t = xs ++ (flat T ++ ys) → t.length ≤ 9 → st.length + (flat T).length ≤ 1000 →
    impl_consents.l0 (k + (flat T).length) (c : Int) st t (t.length : Int) (xs.length : Int) P B = impl_consents.l0 k (c : Int) (st ++ [val B c T]) t (t.length : Int) ((xs.length + (flat T).length : Nat) : Int) P B := by
  intro T
  induction T with
  | «at» m =>
    intro hok t xs ys st k ht hl hst
    have ha : aOk B m = true := hok
    have ha' := aOk_iff.1 ha
    have hlt : xs.length < t.length := by rw [ht]; simp [flat]
    have hm : t[xs.length] = m := by subst ht; simp [flat]
    simp only [flat, List.length_singleton] at hst
    show impl_consents.l0 (k + 1) _ _ _ _ _ _ _ = _
    rw [impl_consents.l0, if_pos (by omega), if_pos (by omega), if_pos (by omega), rdM hlt, hm, if_pos ha'.1, if_pos ha'.2.1, if_pos ha'.2.2.1, sat_f h ha hc, bnd rfl, if_pos (by omega), w64s _ (by omega)]
    rfl
  | op m l r ihl ihr =>
    intro hok t xs ys st k ht hl hst
    obtain ⟨ho, hL, hR⟩ := hok
    have hlen : (flat (.op m l r)).length = (flat l).length + ((flat r).length + 1) := by simp [flat]
    have pl := flat_pos l
    have htl : t.length = xs.length + ((flat l).length + ((flat r).length + 1) + ys.length) := by rw [ht]; simp [flat]; omega
    have e1 := ihl hL t xs (flat r ++ [m] ++ ys) st (k + ((flat r).length + 1)) (by rw [ht]; simp [flat]) hl (by omega)
    have e2 := ihr hR t (xs ++ flat l) ([m] ++ ys) (st ++ [val B c l]) (k + 1) (by rw [ht]; simp [flat]) hl (by simp only [List.length_append, List.length_singleton]; omega)
    have hlt : (xs ++ flat l).length + (flat r).length < t.length := by simp only [List.length_append]; omega
    have hm : t[(xs ++ flat l).length + (flat r).length] = m := by
      exact List.getElem_of_append (l₁ := xs ++ flat l ++ flat r) (l₂ := ys) (by rw [ht]; simp [flat]) (by simp only [List.length_append])
    rw [hlen, show k + ((flat l).length + ((flat r).length + 1)) = (k + ((flat r).length + 1)) + (flat l).length from by omega, e1]
    rw [show ((xs.length + (flat l).length : Nat) : Int) = ((xs ++ flat l).length : Int) from by simp, show k + ((flat r).length + 1) = (k + 1) + (flat r).length from by omega, e2]
    rw [List.append_assoc]
    have := consents_op (P := P) (B := B) (c := c) hlt hm ho hl st (val B c l) (val B c r) (by omega) k
    rw [show (xs.length + ((flat l).length + ((flat r).length + 1)) : Nat) = (xs ++ flat l).length + (flat r).length + 1 from by simp only [List.length_append]; omega]
    exact this
theorem consents_f {P : Int} {B : List Int} (h : hOk P B = true) {T : TR} (hT : okT B T) (hl : (flat T).length ≤ 9) {c : Nat} (hc : c < 64) {k : Nat} (hk : 20 < k) : impl_consents.f k P B (flat T) (c : Int) = some (val B c T) := by
  obtain ⟨j, rfl⟩ : ∃ j, k = (j + 1) + (flat T).length := ⟨k - 1 - (flat T).length, by omega⟩
  unfold impl_consents.f
  have := consents_T h hc T hT (flat T) [] [] [] (j + 1) (by simp) hl (by simp; omega)
  have e : impl_consents.l0 (j + 1 + (flat T).length) (c : Int) [] (flat T) ((flat T).length : Int) 0 P B = _ := this
  rw [e, impl_consents.l0, if_neg (by simp), if_pos (by simp)]
  rfl

/-! ### heads and terms, as the reference has them -/
set_option maxRecDepth 100000 in
theorem l1Heads_all : ∀ c : Fin 64, spec_l1Heads.f 8 ((c.val : Nat) : Int) = some ((hd c.val : Nat) : Int) := by decide +kernel
theorem l1Heads_f {c : Nat} (h : c < 64) {k : Nat} (hk : 8 ≤ k) : spec_l1Heads.f k (c : Int) = some (hd c : Int) :=
  at_rounds (fun j => spec_l1Heads.mono _ j) hk (l1Heads_all ⟨c, h⟩)
theorem l1Heads_l : ∀ (d : Nat) (x n : Int) (k : Nat), x < ((2 ^ d : Nat) : Int) → x < 9223372036854775808 → 0 ≤ n → n + d < 1000 → d < k → ∃ r, spec_l1Heads.l0 k x n = some r ∧ 0 ≤ r ∧ r < 1000 := by
  intro d
  induction d with
  | zero =>
    intro x n k hx _ h0 hn hk
    obtain ⟨k, rfl, _⟩ := fuel hk
    have hx0 : x < 1 := hx
    rw [spec_l1Heads.l0, if_neg (by omega)]
    exact ⟨n, rfl, h0, by omega⟩
  | succ d ih =>
    intro x n k hx hb h0 hn hk
    obtain ⟨k, rfl, _⟩ := fuel hk
    rw [spec_l1Heads.l0]
    by_cases h : x > 0
    · have e1 : Int.tdiv x 2 = x / 2 := Int.tdiv_eq_ediv_of_nonneg (by omega)
      have e2 : Int.tmod x 2 = x % 2 := Int.tmod_eq_emod_of_nonneg (by omega)
      rw [if_pos h, e1, e2, w64 (x := x / 2) (by omega) (by omega), w64 (by omega) (by omega)]
      refine ih _ _ k ?_ (by omega) (by omega) (by omega) (by omega)
      rw [Nat.pow_succ] at hx
      omega
    · rw [if_neg h]; exact ⟨n, rfl, h0, by omega⟩
theorem l1Heads_any {x : Int} (hx : x < 9223372036854775808) {k : Nat} (hk : 64 < k) : ∃ r, spec_l1Heads.f k x = some r ∧ 0 ≤ r ∧ r < 1000 :=
  l1Heads_l 63 x 0 k (by rw [show ((2 ^ 63 : Nat) : Int) = 9223372036854775808 by decide]; exact hx) hx (by omega) (by omega) (by omega)
theorem l1HeadsI_f {P : Int} {B : List Int} (h : hOk P B = true) {i : Int} (h0 : 0 ≤ i) (h1 : i < (B.length : Int)) {k : Nat} (hk : 8 ≤ k) : spec_l1Heads.f k (rd B i) = some (hdI (rd B i)) := by
  have hm := hOk_mem h (rd_mem h0 h1)
  have e := l1Heads_f (c := (rd B i).toNat) (by omega) hk
  rw [show (((rd B i).toNat : Nat) : Int) = rd B i from by omega] at e
  exact e
theorem oOk_eq (m : S35) : ((m.f0 == 1 && (m.f1 == 0 && (m.f2 == 0))) = true ∨ (m.f0 == 2 && (m.f1 == 0 && (m.f2 == 0))) = true) ↔ oOk m = true := by
  rw [oOk_iff]
  simp only [Bool.and_eq_true, beq_iff_eq]
  omega
theorem sTerm_end {P : Int} {B : List Int} {t : List S35} {p i k : Nat} (hB : B.length < 1152921504606846976) (hi : i = t.length) (hl : t.length < 1152921504606846976) (hk : B.length + 1 < k) :
    spec_TermOk.l0 k t (p : Int) (i : Int) P B = some (hOk P B && (decide (p = 1) && decide (t.length ≤ 9))) := by
  obtain ⟨k, rfl, hk'⟩ := fuel hk
  rw [spec_TermOk.l0, if_neg (by omega), sHouse_f P B (by omega) (by omega), bnd rfl]
  by_cases h : hOk P B = true
  · rw [if_pos h, h]
    by_cases e : p = 1
    · rw [if_pos (by omega), decide_eq_true e, show decide ((t.length : Int) ≤ 9) = decide (t.length ≤ 9) from decide_eq_decide.2 (by omega)]; simp
    · rw [if_neg (by omega), decide_eq_false e]; simp
  · rw [if_neg h, bfalse h]; rfl
theorem sTerm_l {P : Int} {B : List Int} (h : hOk P B = true) (t : List S35) (hl : t.length < 1152921504606846976) : ∀ (d i p k : Nat), i + d = t.length → p ≤ i → 2 * d + 60 < k →
    spec_TermOk.l0 k t (p : Int) (i : Int) P B = some ((scan B p (t.drop i) == some 1) && decide (t.length ≤ 9)) := by
  have hB := hOk_len h
  intro d
  induction d with
  | zero =>
    intro i p k hi hp hk
    rw [sTerm_end (by omega) (by omega) hl (by omega), h, List.drop_eq_nil_of_le (by omega)]
    simp only [scan]
    by_cases e : p = 1
    · subst e; rfl
    · rw [decide_eq_false e, beq_eq_false_iff_ne.2 (show some p ≠ some 1 by simpa using e)]; rfl
  | succ d ih =>
    intro i p k hi hp hk
    obtain ⟨k, rfl, hk1⟩ := fuel hk
    obtain ⟨k, rfl, hk2⟩ := fuel (show 2 * d + 61 < k by omega)
    have hlt : i < t.length := by omega
    rw [spec_TermOk.l0, if_pos (by omega), if_pos (by omega), rdM hlt, List.drop_eq_getElem_cons hlt]
    have hr : rd_T35 t (i : Int) = t[i] := rdM hlt
    generalize t[i] = m at *
    simp only [scan]
    have no : aOk B m = false → spec_TermOk.j1 (k + 1) t (p : Int) (i : Int) false P B = some (((if aOk B m = true then scan B (p + 1) (t.drop (i + 1)) else if oOk m = true ∧ 2 ≤ p then scan B (p - 1) (t.drop (i + 1)) else none) == some 1) && decide (t.length ≤ 9)) := by
      intro ha
      rw [spec_TermOk.j1, if_neg (by simp), if_pos (by omega), if_pos (by omega), hr, if_neg (show ¬ aOk B m = true by rw [ha]; simp)]
      have hoe := oOk_eq m
      have go : oOk m = true → (if (p : Int) ≥ 2 then spec_TermOk.l0 k t (wrap64 ((p : Int) - 1)) (wrap64 ((i : Int) + 1)) P B else some false) = some (((if oOk m = true ∧ 2 ≤ p then scan B (p - 1) (t.drop (i + 1)) else none) == some 1) && decide (t.length ≤ 9)) := by
        intro ho
        by_cases hp2 : (p : Int) ≥ 2
        · rw [if_pos hp2, if_pos ⟨ho, by omega⟩, w64s i (by omega), w64 (by omega) (by omega), show (p : Int) - 1 = ((p - 1 : Nat) : Int) from by omega]
          exact ih (i + 1) (p - 1) k (by omega) (by omega) (by omega)
        · rw [if_neg hp2, if_neg (fun x => hp2 (by omega))]; rfl
      by_cases h1 : (m.f0 == 1 && (m.f1 == 0 && (m.f2 == 0))) = true
      · rw [if_pos h1]; exact go (hoe.1 (.inl h1))
      · rw [if_neg h1]
        by_cases h2 : (m.f0 == 2 && (m.f1 == 0 && (m.f2 == 0))) = true
        · rw [if_pos h2]; exact go (hoe.1 (.inr h2))
        · rw [if_neg h2, if_neg (show ¬ (oOk m = true ∧ 2 ≤ p) from fun x => (hoe.2 x.1).elim h1 h2)]; rfl
    by_cases e0 : m.f0 = 0
    · rw [if_pos e0]
      unfold spec_l1In.f
      rw [w64 (x := (B.length : Int) - 1) (by omega) (by omega)]
      by_cases e1 : m.f1 ≥ 0
      · rw [if_pos e1, bnd rfl]
        by_cases e2 : m.f1 ≤ (B.length : Int) - 1
        · rw [decide_eq_true e2, if_pos rfl, if_pos e1, if_pos (by omega), l1HeadsI_f h e1 (by omega) (by omega), bnd rfl]
          by_cases e3 : m.f2 ≥ 1
          · rw [if_pos e3, bnd rfl]
            by_cases e4 : m.f2 ≤ hdI (rd B m.f1)
            · have ha : aOk B m = true := by rw [aOk_iff]; omega
              rw [decide_eq_true e4, spec_TermOk.j1, if_pos rfl, if_pos ha, w64s i (by omega), w64s p (by omega)]
              exact ih (i + 1) (p + 1) k (by omega) (by omega) (by omega)
            · rw [decide_eq_false e4]; exact no (bfalse (fun x => by rw [aOk_iff] at x; omega))
          · rw [if_neg e3, bnd rfl]; exact no (bfalse (fun x => by rw [aOk_iff] at x; omega))
        · rw [decide_eq_false e2, if_neg (by simp)]; exact no (bfalse (fun x => by rw [aOk_iff] at x; omega))
      · rw [if_neg e1, bnd rfl, if_neg (by simp)]; exact no (bfalse (fun x => by rw [aOk_iff] at x; omega))
    · rw [if_neg e0]; exact no (bfalse (fun x => by rw [aOk_iff] at x; omega))
/-- Of no house there is no term. -/
theorem sTerm_no {P : Int} {B : List Int} (h : hOk P B = false) (hB : B.length < 1152921504606846976) (hw : ∀ b ∈ B, b < 9223372036854775808) (t : List S35) (hl : t.length < 1152921504606846976) : ∀ (d i p k : Nat), i + d = t.length → p ≤ i → 2 * d + B.length + 70 < k →
    spec_TermOk.l0 k t (p : Int) (i : Int) P B = some false := by
  intro d
  induction d with
  | zero =>
    intro i p k hi hp hk
    rw [sTerm_end hB (by omega) hl (by omega), h]; rfl
  | succ d ih =>
    intro i p k hi hp hk
    obtain ⟨k, rfl, hk1⟩ := fuel hk
    obtain ⟨k, rfl, hk2⟩ := fuel (show 2 * d + B.length + 71 < k by omega)
    have hlt : i < t.length := by omega
    have hr : rd_T35 t (i : Int) = t[i] := rdM hlt
    rw [spec_TermOk.l0, if_pos (by omega), if_pos (by omega), hr]
    generalize t[i] = m at *
    have no : ∀ b : Bool, spec_TermOk.j1 (k + 1) t (p : Int) (i : Int) b P B = some false := by
      intro b
      rw [spec_TermOk.j1]
      by_cases hb : b = true
      · rw [if_pos hb, w64s i (by omega), w64s p (by omega)]
        exact ih (i + 1) (p + 1) k (by omega) (by omega) (by omega)
      · rw [if_neg hb, if_pos (by omega), if_pos (by omega), hr]
        have go : (if (p : Int) ≥ 2 then spec_TermOk.l0 k t (wrap64 ((p : Int) - 1)) (wrap64 ((i : Int) + 1)) P B else some false) = some false := by
          by_cases hp2 : (p : Int) ≥ 2
          · rw [if_pos hp2, w64s i (by omega), w64 (by omega) (by omega), show (p : Int) - 1 = ((p - 1 : Nat) : Int) from by omega]
            exact ih (i + 1) (p - 1) k (by omega) (by omega) (by omega)
          · rw [if_neg hp2]
        split
        · exact go
        · split
          · exact go
          · rfl
    by_cases e0 : m.f0 = 0
    · rw [if_pos e0]
      unfold spec_l1In.f
      rw [w64 (x := (B.length : Int) - 1) (by omega) (by omega)]
      by_cases e1 : m.f1 ≥ 0
      · rw [if_pos e1, bnd rfl]
        by_cases e2 : m.f1 ≤ (B.length : Int) - 1
        · obtain ⟨r, er, _, _⟩ := l1Heads_any (hw _ (rd_mem e1 (show m.f1 < (B.length : Int) by omega))) (k := k + 1) (by omega)
          rw [decide_eq_true e2, if_pos rfl, if_pos e1, if_pos (by omega), er, bnd rfl]
          split
          · rw [bnd rfl]; exact no _
          · rw [bnd rfl]; exact no _
        · rw [decide_eq_false e2, if_neg (by simp)]; exact no _
      · rw [if_neg e1, bnd rfl, if_neg (by simp)]; exact no _
    · rw [if_neg e0]; exact no _
theorem sTerm_f (P : Int) (B : List Int) (t : List S35) (hB : B.length < 1152921504606846976) (hw : ∀ b ∈ B, b < 9223372036854775808) (hl : t.length < 1152921504606846976) {k : Nat} (hk : 2 * t.length + B.length + 70 < k) : spec_TermOk.f k P B t = some (tmOk P B t) := by
  unfold spec_TermOk.f tmOk
  by_cases h : hOk P B = true
  · have := sTerm_l h t hl t.length 0 0 k (by omega) (by omega) (by omega)
    have e : spec_TermOk.l0 k t 0 0 P B = _ := this
    rw [e, h, List.drop_zero, Bool.and_comm (decide _)]; rfl
  · have := sTerm_no (bfalse h) hB hw t hl t.length 0 0 k (by omega) (by omega) (by omega)
    have e : spec_TermOk.l0 k t 0 0 P B = _ := this
    rw [e, bfalse h]; rfl

/-! ### draws: what is drawn, and within which bounds -/
/-- It answers, and so that P holds. -/
def Dr {α : Type} (x : Option α) (P : α → Prop) : Prop := ∃ r, x = some r ∧ P r
theorem Dr.some {α : Type} {a : α} {P : α → Prop} (h : P a) : Dr (Option.some a) P := ⟨a, rfl, h⟩
theorem Dr.bind {α β : Type} {x : Option α} {P : α → Prop} {f : α → Option β} {Q : β → Prop} (h : Dr x P) (hf : ∀ a, P a → Dr (f a) Q) : Dr (x.bind f) Q := by
  obtain ⟨a, rfl, ha⟩ := h
  exact hf a ha
theorem Dr.mono {α : Type} {x : Option α} {P Q : α → Prop} (h : Dr x P) (hpq : ∀ a, P a → Q a) : Dr x Q := by
  obtain ⟨a, e, ha⟩ := h
  exact ⟨a, e, hpq a ha⟩
theorem Dr.bnd {α β : Type} {a : α} {f : α → Option β} {Q : β → Prop} (h : Dr (f a) Q) : Dr ((Option.some a).bind f) Q := h
theorem Dr.ite {α : Type} {c : Prop} [Decidable c] {x y : Option α} {P : α → Prop} (h1 : c → Dr x P) (h2 : ¬ c → Dr y P) : Dr (if c then x else y) P := by
  by_cases h : c
  · rw [if_pos h]; exact h1 h
  · rw [if_neg h]; exact h2 h
theorem Dr.pos {α : Type} {c : Prop} [Decidable c] {x y : Option α} {P : α → Prop} (h : c) (h1 : Dr x P) : Dr (if c then x else y) P := by rw [if_pos h]; exact h1
theorem pick_d {b : List Int} (hb : okB b) {p : Int} (hp0 : 0 ≤ p) (hp : p < 1000000) (n : Int) {k : Nat} (hk : 0 < k) :
    Dr (spec_l20Rd_pick.f k b p n) (fun r => r.2 = p + 1 ∧ 0 ≤ r.1 ∧ (r.1 < n ∨ r.1 = 0)) := by
  obtain ⟨v, e, h1, h2⟩ := pick_f hb hp0 (by omega) n hk
  exact ⟨_, e, rfl, h1, h2⟩
theorem odd_d {b : List Int} (hb : okB b) {p : Int} (hp0 : 0 ≤ p) (hp : p < 1000000) (n : Int) {k : Nat} (hk : 0 < k) :
    Dr (spec_l20Rd_odd.f k b p n) (fun r => p ≤ r.2 ∧ r.2 ≤ p + 1 ∧ (n ≤ 0 → r.1 = false)) := by
  unfold spec_l20Rd_odd.f
  refine Dr.ite (fun h => ?_) (fun h => ?_)
  · exact Dr.bind (pick_d hb hp0 hp n hk) (fun r ⟨h1, _, _⟩ => Dr.some ⟨by omega, by omega, fun hn => by omega⟩)
  · exact Dr.some ⟨by dsimp only; omega, by dsimp only; omega, fun _ => rfl⟩
/-- Bodies as they are drawn. -/
def bOk (m : Nat) (B : List Int) : Prop := B.length ≤ m ∧ ∀ x ∈ B, 0 ≤ x ∧ x < 64
theorem bOk_app {m : Nat} {B : List Int} (h : bOk m B) {v : Int} (h0 : 0 ≤ v) (h1 : v < 64) : bOk (m + 1) (B ++ [v]) := by
  refine ⟨by have := h.1; simp; omega, fun x hx => ?_⟩
  rcases List.mem_append.1 hx with hx | hx
  · exact h.2 x hx
  · rw [List.mem_singleton.1 hx]; exact ⟨h0, h1⟩
theorem bOk_mono {m m' : Nat} {B : List Int} (h : bOk m B) (hm : m ≤ m') : bOk m' B := ⟨Nat.le_trans h.1 hm, h.2⟩
theorem house_l {b : List Int} (hb : okB b) (n : Int) {P : Nat} (hP1 : 1 ≤ P) (hP : P ≤ 6) : ∀ (d k m : Nat) (B : List Int) (p : Int), d + 3 < k → 0 ≤ p → p + d + 10 < 1000000 → bOk m B → m + d ≤ 3 →
    Dr (spec_l20House.l0 k n (d : Int) b p (P : Int) B) (fun r => 0 ≤ r.1 ∧ r.1 ≤ 7 ∧ bOk 4 r.2.1 ∧ p ≤ r.2.2 ∧ r.2.2 ≤ p + d + 5 ∧ (n ≤ 0 → r.1 = (P : Int) ∧ bOk 3 r.2.1 ∧ (1 ≤ B.length + d → 1 ≤ r.2.1.length))) := by
  intro d
  induction d with
  | zero =>
    intro k m B p hk hp0 hp hB hm
    obtain ⟨k, rfl, _⟩ := fuel hk
    rw [spec_l20House.l0, if_neg (by omega)]
    refine Dr.bind (odd_d hb hp0 (by omega) n (by omega)) (fun r ⟨h1, h2, h3⟩ => ?_)
    refine Dr.ite (fun h => ?_) (fun h => ?_)
    · refine Dr.bind (pick_d hb (by omega) (by omega) 3 (by omega)) (fun u ⟨g1, g2, g3⟩ => ?_)
      have hn : ¬ n ≤ 0 := fun hn => by rw [h3 hn] at h; exact absurd h (by simp)
      refine Dr.ite (fun h => ?_) (fun h => Dr.ite (fun h => ?_) (fun h => ?_))
      · refine Dr.bnd (Dr.bind (pick_d hb (by omega) (by omega) 2 (by omega)) (fun v ⟨f1, f2, f3⟩ => ?_))
        refine Dr.pos f2 (Dr.pos (by simp; omega) (Dr.some ?_))
        have hv : v.1 = 0 ∨ v.1 = 1 := by omega
        refine ⟨?_, ?_, bOk_mono hB (by omega), by dsimp only; omega, by dsimp only; omega, fun h => absurd h hn⟩
        · rcases hv with e | e <;> rw [e] <;> simp [rd]
        · rcases hv with e | e <;> rw [e] <;> simp [rd]
      · refine Dr.pos (by have := hB.1; omega) (Dr.some ?_)
        exact ⟨by dsimp only; omega, by dsimp only; omega, bOk_mono (bOk_app hB (by omega) (by omega)) (by omega), by dsimp only; omega, by dsimp only; omega, fun h => absurd h hn⟩
      · exact Dr.some ⟨by dsimp only; omega, by dsimp only; omega, ⟨by simp, by simp⟩, by dsimp only; omega, by dsimp only; omega, fun h => absurd h hn⟩
    · exact Dr.some ⟨by dsimp only; omega, by dsimp only; omega, bOk_mono hB (by omega), by dsimp only; omega, by dsimp only; omega, fun _ => ⟨rfl, bOk_mono hB (by omega), fun h => by simpa using h⟩⟩
  | succ d ih =>
    intro k m B p hk hp0 hp hB hm
    obtain ⟨k, rfl, _⟩ := fuel hk
    have hP2 : 2 ^ P ≤ 64 := pow6 hP
    have hpp : 1 ≤ 2 ^ P := Nat.one_le_two_pow
    rw [spec_l20House.l0, if_pos (by omega), if_pos (by omega), shl_one (by omega)]
    generalize 2 ^ P = T at hP2 hpp ⊢
    refine Dr.bind (pick_d hb hp0 (by omega) _ (by omega)) (fun r ⟨h1, h2, h3⟩ => ?_)
    rw [w64 (x := (T : Int) - 1) (by omega) (by omega)] at h3
    refine Dr.pos (by have := hB.1; omega) ?_
    rw [w64 (x := ((d + 1 : Nat) : Int) - 1) (by omega) (by omega), w64 (x := 1 + r.1) (by omega) (by omega), show ((d + 1 : Nat) : Int) - 1 = (d : Int) from by omega, h1]
    refine (ih k (m + 1) (B ++ [1 + r.1]) (p + 1) (by omega) (by omega) (by omega) (bOk_app hB (by omega) (by omega)) (by omega)).mono (fun u ⟨a1, a2, a3, a4, a5, a6⟩ => ⟨a1, a2, a3, by omega, by omega, fun hn => ⟨(a6 hn).1, (a6 hn).2.1, fun _ => (a6 hn).2.2 (by rw [List.length_append]; simp; omega)⟩⟩)
/-- A house, as it is drawn. -/
theorem house_d {b : List Int} (hb : okB b) (n : Int) {p : Int} (hp0 : 0 ≤ p) (hp : p < 900000) {k : Nat} (hk : 10 ≤ k) :
    Dr (spec_l20House.f k b p n) (fun r => 0 ≤ r.1 ∧ r.1 ≤ 7 ∧ bOk 4 r.2.1 ∧ p ≤ r.2.2 ∧ r.2.2 ≤ p + 20 ∧ (n ≤ 0 → 1 ≤ r.1 ∧ r.1 ≤ 6 ∧ bOk 3 r.2.1 ∧ 1 ≤ r.2.1.length)) := by
  unfold spec_l20House.f
  refine Dr.bind (pick_d hb hp0 (by omega) 5 (by omega)) (fun r ⟨h1, h2, h3⟩ => ?_)
  refine Dr.bind (pick_d hb (by omega) (by omega) 9 (by omega)) (fun s ⟨f1, f2, f3⟩ => ?_)
  refine Dr.bind (pick_d hb (by omega) (by omega) 3 (by omega)) (fun t ⟨g1, g2, g3⟩ => ?_)
  have hs : Int.tdiv s.1 8 = 0 ∨ Int.tdiv s.1 8 = 1 := by
    rw [Int.tdiv_eq_ediv_of_nonneg f2]; omega
  rw [w64 (x := 1 + r.1) (by omega) (by omega), w64 (x := Int.tdiv s.1 8) (by omega) (by omega), w64 (x := 1 + t.1) (by omega) (by omega), w64 (by omega) (by omega)]
  obtain ⟨P, eP⟩ := Int.eq_ofNat_of_zero_le (show 0 ≤ 1 + r.1 + Int.tdiv s.1 8 by omega)
  obtain ⟨d, ed⟩ := Int.eq_ofNat_of_zero_le (show 0 ≤ 1 + t.1 by omega)
  rw [eP, ed]
  refine (house_l hb n (P := P) (by omega) (by omega) d k 0 [] t.2 (by omega) (by omega) (by omega) ⟨by simp, by simp⟩ (by omega)).mono (fun u ⟨a1, a2, a3, a4, a5, a6⟩ => ⟨a1, a2, a3, by omega, by omega, fun hn => ⟨by have := (a6 hn).1; omega, by have := (a6 hn).1; omega, (a6 hn).2.1, (a6 hn).2.2 (by simp; omega)⟩⟩)
theorem heads_d {a : Int} (h0 : 0 ≤ a) (h1 : a < 64) {k : Nat} (hk : 100 < k) : Dr (spec_l1Heads.f k a) (fun r => 0 ≤ r ∧ r ≤ 6) := by
  obtain ⟨c, rfl⟩ := Int.eq_ofNat_of_zero_le h0
  exact ⟨_, l1Heads_f (by omega) (by omega), by omega, by have : hd c ≤ 6 := ctN_le _ _; omega⟩

/-! ### a term as it is drawn: at most seven marks -/
def tot (X : List (List S35)) : Nat := (X.map List.length).sum
theorem tot_app (X Y : List (List S35)) : tot (X ++ Y) = tot X + tot Y := by unfold tot; rw [List.map_append, List.sum_append]
theorem tot_one (r : List S35) : tot [r] = r.length := by simp [tot]
theorem tot_cons (r : List S35) (X : List (List S35)) : tot (r :: X) = r.length + tot X := by simp [tot]
theorem rdT {X : List (List S35)} {i : Nat} (h : i < X.length) : rd_L3 X (i : Int) = X[i] := by
  unfold rd_L3; simp [List.getD_eq_getElem?_getD, List.getElem?_eq_getElem h]
theorem tot_split {X : List (List S35)} {a : Nat} (h : a + 1 < X.length) : tot X = tot (X.take a) + (X[a].length + (X[a + 1].length + tot (X.drop (a + 2)))) := by
  conv => lhs; rw [← List.take_append_drop a X, tot_app, List.drop_eq_getElem_cons (show a < X.length by omega), tot_cons, List.drop_eq_getElem_cons h, tot_cons]
theorem term_l1 {b : List Int} (hb : okB b) : ∀ (d k : Nat) (X : List (List S35)) (p : Int), X.length = d + 1 → tot X + X.length ≤ 8 → d + 3 < k → 0 ≤ p → p + 2 * d + 10 < 1000000 →
    Dr (spec_l20Term.l1 k X b p) (fun r => r.1.length ≤ 7 ∧ p ≤ r.2 ∧ r.2 ≤ p + 2 * d) := by
  intro d
  induction d with
  | zero =>
    intro k X p hX ht hk hp0 hp
    obtain ⟨k, rfl, _⟩ := fuel hk
    have e : tot X = X[0].length := by
      match X, hX with
      | [r], _ => simp [tot]
    have e0 := rdT (X := X) (i := 0) (by omega)
    simp only [Int.natCast_zero] at e0
    rw [spec_l20Term.l1, if_neg (by omega), if_pos (by omega)]
    refine Dr.some ⟨?_, by dsimp only; omega, by dsimp only; omega⟩
    dsimp only
    rw [e0]; omega
  | succ d ih =>
    intro k X p hX ht hk hp0 hp
    obtain ⟨k, rfl, _⟩ := fuel hk
    rw [spec_l20Term.l1, if_pos (by omega), w64 (x := (X.length : Int) - 1) (by omega) (by omega)]
    refine Dr.bind (pick_d hb hp0 (by omega) _ (by omega)) (fun r ⟨h1, h2, h3⟩ => ?_)
    obtain ⟨v, q⟩ := r
    dsimp only at h1 h2 h3 ⊢
    obtain ⟨a, rfl⟩ := Int.eq_ofNat_of_zero_le h2
    have ha : a + 1 < X.length := by omega
    have hs := tot_split ha
    have e0 := rdT (X := X) (i := a) (by omega)
    have e1 := rdT (X := X) (i := a + 1) (by omega)
    have lt : (X.take a).length = a := by rw [List.length_take]; omega
    have ld : (X.drop (a + 2)).length = X.length - (a + 2) := List.length_drop
    rw [w64 (x := (a : Int) + 1) (by omega) (by omega), w64 (x := (a : Int) + 2) (by omega) (by omega), show (a : Int) + 1 = ((a + 1 : Nat) : Int) from by omega, show (a : Int) + 2 = ((a + 2 : Nat) : Int) from by omega, e0, e1]
    refine Dr.bnd ?_
    refine Dr.pos (by first | omega | (simp only [List.nil_append, List.length_append, List.length_nil, List.length_singleton]; omega)) ?_
    refine Dr.pos (by first | omega | (simp only [List.nil_append, List.length_append, List.length_nil, List.length_singleton]; omega)) ?_
    refine Dr.pos (by first | omega | (simp only [List.nil_append, List.length_append, List.length_nil, List.length_singleton]; omega)) ?_
    refine Dr.bnd ?_
    refine Dr.pos (by first | omega | (simp only [List.nil_append, List.length_append, List.length_nil, List.length_singleton]; omega)) ?_
    refine Dr.pos (by first | omega | (simp only [List.nil_append, List.length_append, List.length_nil, List.length_singleton]; omega)) ?_
    refine Dr.pos (by first | omega | (simp only [List.nil_append, List.length_append, List.length_nil, List.length_singleton]; omega)) ?_
    refine Dr.bnd ?_
    refine Dr.bind (pick_d hb (by omega) (by omega) 2 (by omega)) (fun s ⟨g1, g2, g3⟩ => ?_)
    rw [show ((a : Int)).toNat = a from by omega, show (((a + 2 : Nat) : Int)).toNat = a + 2 from by omega]
    refine Dr.pos (by first | omega | (simp only [List.nil_append, List.length_append, List.length_nil, List.length_singleton]; omega)) ?_
    refine Dr.bnd ?_
    refine Dr.pos (by first | omega | (simp only [List.nil_append, List.length_append, List.length_nil, List.length_singleton]; omega)) ?_
    refine Dr.bnd ?_
    refine Dr.pos (by first | omega | (simp only [List.nil_append, List.length_append, List.length_nil, List.length_singleton]; omega)) ?_
    refine Dr.bnd ?_
    refine Dr.pos (by first | omega | (simp only [List.nil_append, List.length_append, List.length_nil, List.length_singleton]; omega)) ?_
    refine Dr.bnd ?_
    refine Dr.pos (by first | omega | (simp only [List.nil_append, List.length_append, List.length_nil, List.length_singleton]; omega)) ?_
    refine Dr.pos (by first | omega | (simp only [List.nil_append, List.length_append, List.length_nil, List.length_singleton]; omega)) ?_
    refine Dr.bnd ?_
    refine Dr.pos (by first | omega | (simp only [List.nil_append, List.length_append, List.length_nil, List.length_singleton]; omega)) ?_
    refine (ih k _ s.2 ?_ ?_ (by omega) (by omega) (by omega)).mono (fun u ⟨a1, a2, a3⟩ => ⟨a1, by omega, by omega⟩)
    · simp only [List.nil_append, List.length_append, List.length_singleton]; omega
    · simp only [List.nil_append, List.length_append, List.length_singleton, tot_app, tot_one]; omega
theorem term_l0 {b : List Int} (hb : okB b) (P : Int) {B : List Int} (hB : bOk 4 B) (hB1 : 1 ≤ B.length) : ∀ (d k : Nat) (X : List (List S35)) (p : Int), tot X = X.length → X.length + d ≤ 4 → 1 ≤ X.length + d → d + 110 < k → 0 ≤ p → p + 2 * d + 30 < 1000000 →
    Dr (spec_l20Term.l0 k X (d : Int) b p P B) (fun r => r.1.length ≤ 7 ∧ p ≤ r.2 ∧ r.2 ≤ p + 2 * d + 8) := by
  intro d
  induction d with
  | zero =>
    intro k X p ht hX h1 hk hp0 hp
    obtain ⟨k, rfl, _⟩ := fuel hk
    rw [spec_l20Term.l0, if_neg (by omega)]
    exact (term_l1 hb (X.length - 1) k X p (by omega) (by omega) (by omega) hp0 (by omega)).mono (fun u ⟨a1, a2, a3⟩ => ⟨a1, by omega, by omega⟩)
  | succ d ih =>
    intro k X p ht hX _ hk hp0 hp
    obtain ⟨k, rfl, _⟩ := fuel hk
    rw [spec_l20Term.l0, if_pos (by omega)]
    refine Dr.bind (pick_d hb hp0 (by omega) _ (by omega)) (fun r ⟨h1, h2, h3⟩ => ?_)
    have hr : r.1 < (B.length : Int) := by omega
    refine Dr.pos h2 (Dr.pos hr ?_)
    have hx := hB.2 _ (rd_mem h2 hr)
    have hmx : mx (rd B r.1) 0 = rd B r.1 := by unfold mx; split <;> omega
    rw [hmx]
    refine Dr.bind (heads_d hx.1 hx.2 (by omega)) (fun t ⟨t1, t2⟩ => ?_)
    refine Dr.bind (pick_d hb (by omega) (by omega) _ (by omega)) (fun s ⟨f1, f2, f3⟩ => ?_)
    refine Dr.pos (by omega) ?_
    rw [w64 (x := ((d + 1 : Nat) : Int) - 1) (by omega) (by omega), show ((d + 1 : Nat) : Int) - 1 = (d : Int) from by omega]
    refine (ih k _ s.2 ?_ ?_ (by simp only [List.length_append, List.length_singleton]; omega) (by omega) (by omega) (by omega)).mono (fun u ⟨a1, a2, a3⟩ => ⟨a1, by omega, by omega⟩)
    · rw [tot_app, tot_one, ht]; simp
    · simp only [List.length_append, List.length_singleton]; omega
/-- A term, as it is drawn. -/
theorem term_d {b : List Int} (hb : okB b) (P : Int) {B : List Int} (hB : bOk 4 B) (n : Int) {p : Int} (hp0 : 0 ≤ p) (hp : p < 900000) {k : Nat} (hk : 200 ≤ k) :
    Dr (spec_l20Term.f k b p P B n) (fun r => r.1.length ≤ 7 ∧ p ≤ r.2 ∧ r.2 ≤ p + 30) := by
  obtain ⟨k, rfl, hk⟩ := fuel (show 199 < k by omega)
  have four : ∀ q : Int, 0 ≤ q → q < 910000 → Dr (spec_l20Term.j0 (k + 1) true b q P B) (fun r => r.1.length ≤ 7 ∧ q ≤ r.2 ∧ r.2 ≤ q + 10) := by
    intro q hq0 hq
    rw [spec_l20Term.j0, if_pos rfl]
    refine Dr.bnd (Dr.bind (pick_d hb hq0 (by omega) 4 (by omega)) (fun r ⟨h1, h2, h3⟩ => ?_))
    obtain ⟨v, e⟩ := Int.eq_ofNat_of_zero_le h2
    refine Dr.pos h2 (Dr.pos (by simp; omega) (Dr.some ⟨?_, by dsimp only; omega, by dsimp only; omega⟩))
    dsimp only
    rw [e]
    have : v = 0 ∨ v = 1 ∨ v = 2 ∨ v = 3 := by omega
    rcases this with rfl | rfl | rfl | rfl <;> simp [rd_L3]
  unfold spec_l20Term.f
  refine Dr.ite (fun h => ?_) (fun h => ?_)
  · exact (four p hp0 (by omega)).mono (fun u ⟨a1, a2, a3⟩ => ⟨a1, a2, by omega⟩)
  · refine Dr.bind (odd_d hb hp0 (by omega) n (by omega)) (fun r ⟨h1, h2, _⟩ => ?_)
    obtain ⟨v, q⟩ := r
    dsimp only at h1 h2 ⊢
    cases v with
    | true => exact (four q (by omega) (by omega)).mono (fun u ⟨a1, a2, a3⟩ => ⟨a1, by omega, by omega⟩)
    | false =>
      rw [spec_l20Term.j0, if_neg (by simp)]
      refine Dr.bind (pick_d hb (by omega) (by omega) 4 (by omega)) (fun s ⟨g1, g2, g3⟩ => ?_)
      obtain ⟨d, ed⟩ := Int.eq_ofNat_of_zero_le (show 0 ≤ 1 + s.1 by omega)
      rw [w64 (x := 1 + s.1) (by omega) (by omega), ed]
      exact (term_l0 hb P hB (by omega) d k [] s.2 rfl (by simp; omega) (by simp; omega) (by omega) (by omega) (by omega)).mono (fun u ⟨a1, a2, a3⟩ => ⟨a1, by omega, by omega⟩)
theorem termed_d {b : List Int} (hb : okB b) (n : Int) {p : Int} (hp0 : 0 ≤ p) (hp : p < 800000) {k : Nat} (hk : 200 ≤ k) :
    Dr (spec_l20Termed.f k b p n) (fun r => 0 ≤ r.1 ∧ r.1 ≤ 7 ∧ bOk 4 r.2.1 ∧ r.2.2.1.length ≤ 7 ∧ p ≤ r.2.2.2 ∧ r.2.2.2 ≤ p + 50) := by
  unfold spec_l20Termed.f
  refine Dr.bind (house_d hb 20 hp0 (by omega) (by omega)) (fun r ⟨h1, h2, h3, h4, h5, _⟩ => ?_)
  refine Dr.bind (term_d hb r.1 h3 n (by omega) (by omega) (by omega)) (fun s ⟨g1, g2, g3⟩ => ?_)
  exact Dr.some ⟨h1, h2, h3, g1, by dsimp only; omega, by dsimp only; omega⟩

/-! ### with more people no fewer changes may be -/
def sub (c d : Nat) : Prop := ∀ i, c.testBit i = true → d.testBit i = true
theorem ctN_mono {p q : Nat → Bool} : ∀ {n : Nat}, (∀ i, i < n → p i = true → q i = true) → ctN p n ≤ ctN q n
  | 0, _ => Nat.le_refl _
  | n + 1, h => by
    have ih := ctN_mono (n := n) (fun i hi => h i (by omega))
    have := h n (by omega)
    rw [ctN, ctN]
    cases e : p n <;> cases e' : q n <;> simp_all <;> omega
theorem hd_mono {c d : Nat} (h : sub c d) : hd c ≤ hd d := ctN_mono fun i _ => h i
theorem sub_and {c d : Nat} (h : sub c d) (x : Nat) : sub (x &&& c) (x &&& d) := fun i hi => by
  rw [Nat.testBit_and, Bool.and_eq_true] at hi ⊢
  exact ⟨hi.1, h i hi.2⟩
theorem val_mono {B : List Int} {c d : Nat} (h : sub c d) : ∀ T : TR, val B c T = true → val B d T = true
  | .at m, hv => by
    simp only [val, sat, decide_eq_true_eq] at hv ⊢
    have := hd_mono (sub_and h (rd B m.f1).toNat)
    omega
  | .op m l r, hv => by
    have hl := val_mono (B := B) h l
    have hr := val_mono (B := B) h r
    rw [val] at hv ⊢
    split
    · rename_i e
      rw [if_pos e, Bool.or_eq_true] at hv
      rw [Bool.or_eq_true]
      exact hv.imp hl hr
    · rename_i e
      rw [if_neg e, Bool.and_eq_true] at hv
      rw [Bool.and_eq_true]
      exact ⟨hl hv.1, hr hv.2⟩

theorem sp_draw {l0 : List Int} (hb : ∀ x ∈ l0, (Lit.int .u8 x).wf = true) {k : Nat} (hk : 20 ≤ k) : ∃ x a, spec_DrawSpokenFor.f k l0 = some (x, a) ∧ x.length ≤ 6 := by
  obtain ⟨b, e1, okb⟩ := open_f hb
  obtain ⟨t, q, e2, ht, hq0, hq⟩ := l20Trust_f okb 12 (k := k) (by omega)
  obtain ⟨v, e3, _, _⟩ := pick_f okb hq0 (by omega) ((wrap64 (2 ^ (mn (mx (t.length : Int) 1) 6).toNat))) (k := k) (by omega)
  obtain ⟨u, e4, _, _⟩ := pick_f okb (p := q + 1) (by omega) (by omega) 40 (k := k) (by omega)
  refine ⟨t, wrap64 (v + (wrap64 ((wrap64 (Int.tdiv u 39)) * 64))), ?_, ht⟩
  unfold spec_DrawSpokenFor.f
  rw [bnd e1, bnd e2, bnd e3, bnd e4]
theorem lc_draw {l0 : List Int} (hb : ∀ x ∈ l0, (Lit.int .u8 x).wf = true) {k : Nat} (hk : 200 ≤ k) : Dr (spec_DrawLeastConsents.f k l0) (fun r => 0 ≤ r.1 ∧ r.1 ≤ 7 ∧ bOk 4 r.2.1 ∧ r.2.2.length ≤ 7) := by
  obtain ⟨b, e1, okb⟩ := open_f hb
  unfold spec_DrawLeastConsents.f
  rw [bnd e1]
  exact Dr.bind (termed_d okb 9 (Int.le_refl 0) (by omega) hk) (fun r ⟨h1, h2, h3, h4, _, _⟩ => Dr.some ⟨h1, h2, h3, h4⟩)
theorem isC_of {n c : Nat} (h1 : 1 ≤ n) (h6 : n ≤ 6) (h : c < 2 ^ n) : isC n (c : Int) = true := by
  simp only [isC, Bool.and_eq_true, decide_eq_true_eq]; omega
theorem SP_of {t : List Int} (h : tOk t = true) {c : Nat} (hc : c < 2 ^ t.length) : SP t (c : Int) = (sp t c : Int) := by
  have hlen := tOk_len h
  unfold SP; rw [if_pos ⟨h, isC_of hlen.1 hlen.2 hc⟩]; rfl
theorem sp_bit (t : List Int) (c i : Nat) : (sp t c).testBit i = (decide (i < t.length) && spB t c i) := crN_bit _ _ _
theorem sp_sub (t : List Int) {a b : Nat} (h : sub a b) : sub (sp t a) (sp t b) := fun i hi => by
  rw [sp_bit] at hi ⊢
  unfold spB at hi ⊢
  simp only [Bool.and_eq_true] at hi ⊢
  exact ⟨hi.1, hi.2.1, h _ hi.2.2⟩
theorem cons_f {n : Nat} {B : List Int} {t : List S35} (h : tmOk (n : Int) B t = true) (hB : B.length ≤ 4) (h1 : 1 ≤ n) (h6 : n ≤ 6) {T : TR} (hT : okT B T) (e : t = flat T) (hl : t.length ≤ 9) {c : Nat} (hc : c < 2 ^ n) {k : Nat} (hk : 100 < k) : impl_ConsentOk.f k (n : Int) B t (c : Int) = some (val B c T) := by
  have hp := pow6 h6
  obtain ⟨hh, _, _⟩ := tm_tree h
  have e1 := isTerm_f (n : Int) B t (by omega) (by omega) (k := k) (by omega)
  rw [h] at e1
  have e2 := iCrowd_f (n := n) (a := (c : Int))
  rw [isC_of h1 h6 hc] at e2
  subst e
  have e3 := consents_f hh hT hl (c := c) (by omega) (k := k) (by omega)
  unfold impl_ConsentOk.f
  rw [bnd e1, if_pos rfl, bnd e2, if_pos rfl, bnd e3]
theorem tc_l {x : List Int} (hx : tOk x = true) {B : List Int} {t : List S35} (h : tmOk (x.length : Int) B t = true) (hB : B.length ≤ 4) {c : Nat} (hc : c < 2 ^ x.length) : ∀ (d i k : Nat), i + d = x.length → d + 110 < k →
    laws_FnTrustConsent.l0 k x (c : Int) t (sp x c : Int) (i : Int) (x.length : Int) B = some true := by
  have hlen := tOk_len hx
  have h64 := pow6 hlen.2
  obtain ⟨hh, hl, T, hT, e⟩ := tm_tree h
  have hs : sp x c < 2 ^ x.length := crN_lt _ _
  intro d
  induction d with
  | zero =>
    intro i k hi hk
    obtain ⟨k, rfl, _⟩ := fuel hk
    rw [laws_FnTrustConsent.l0, if_neg (by omega), bnd alive_f]
  | succ d ih =>
    intro i k hi hk
    obtain ⟨k, rfl, _⟩ := fuel hk
    have ih' := ih (i + 1) k (by omega) (by omega)
    have e1 := cons_f h hB hlen.1 hlen.2 hT e hl hs (k := k) (by omega)
    rw [laws_FnTrustConsent.l0, if_pos (by omega), bnd e1, w64s i (by omega)]
    by_cases hv : val B (sp x c) T = true
    · have ho : c ||| 2 ^ i < 2 ^ x.length := Nat.or_lt_two_pow hc (Nat.pow_lt_pow_right (by decide) (by omega))
      have hs2 : sp x (c ||| 2 ^ i) < 2 ^ x.length := crN_lt _ _
      have e2 := iSpoken_f x ((c ||| 2 ^ i : Nat) : Int) (by omega) (k := k) (by omega)
      rw [SP_of hx ho] at e2
      have e3 := cons_f h hB hlen.1 hlen.2 hT e hl hs2 (k := k) (by omega)
      have hv2 : val B (sp x (c ||| 2 ^ i)) T = true := val_mono (sp_sub x (fun j hj => by rw [Nat.testBit_or, hj]; rfl)) T hv
      rw [hv2] at e3
      have eo : Go.bits .or .i64 (c : Int) (shl .i64 1 (i : Int)) = ((c ||| 2 ^ i : Nat) : Int) := by
        rw [shl_one (by omega), bor (lt62 hc hlen.2) (lt62 (Nat.pow_lt_pow_right (by decide) (show i < x.length by omega)) hlen.2)]
      rw [if_pos hv, if_pos (by omega), eo, bnd e2, bnd e3, if_pos rfl]
      exact ih'
    · rw [if_neg hv]; exact ih'
theorem FnTrustConsent : laws_FnTrustConsent.Pure := by
  intro l0 l1 _ _ hb _ _ hb1
  obtain ⟨K, hK⟩ : ∃ K : Nat, K = 300 := ⟨_, rfl⟩
  refine ⟨K + 1 + 1, ?_⟩
  unfold laws_FnTrustConsent.f
  by_cases hl : (l0.length : Int) > 1048576
  · rw [if_pos hl]; simp [laws_FnTrustConsent.j0]
  · rw [if_neg hl]
    by_cases hl1 : (l1.length : Int) > 1048576
    · rw [decide_eq_true hl1]; simp [laws_FnTrustConsent.j0]
    · rw [decide_eq_false hl1]
      obtain ⟨x, a, e1, hx⟩ := sp_draw hb (k := K + 1) (by omega)
      obtain ⟨⟨P, B, t⟩, e2, hP0, hP7, hB, ht⟩ := lc_draw hb1 (k := K + 1) (by omega)
      dsimp only at hP0 hP7 hB ht
      have e3 := iSpoken_f x a (by omega) (k := K + 1) (by omega)
      rw [laws_FnTrustConsent.j0, if_neg (by simp), bnd e1, bnd e2, bnd e3]
      dsimp only
      have fin : ∀ y, laws_FnTrustConsent.j1 (K + 1) x a t y true P B = some true := fun y => by rw [laws_FnTrustConsent.j1, if_pos rfl, bnd alive_f]
      by_cases h0 : SP x a < 0
      · rw [if_pos h0]; exact fin _
      · rw [if_neg h0]
        by_cases hPx : P = (x.length : Int)
        · subst hPx
          have e4 := sTerm_f (x.length : Int) B t (by have := hB.1; omega) (fun y hy => by have := hB.2 y hy; omega) (by omega) (k := K + 1) (by have := hB.1; omega)
          rw [if_pos rfl, bnd e4]
          by_cases h : tmOk (x.length : Int) B t = true
          · have hp : tOk x = true ∧ isC x.length a = true := by
              by_cases hp : tOk x = true ∧ isC x.length a = true
              · exact hp
              · exact absurd (show SP x a < 0 by unfold SP; rw [if_neg hp]; decide) h0
            obtain ⟨hx, hc⟩ := hp
            simp only [isC, Bool.and_eq_true, decide_eq_true_eq] at hc
            obtain ⟨c, rfl⟩ := Int.eq_ofNat_of_zero_le hc.2.1
            have hcl : c < 2 ^ x.length := by omega
            rw [SP_of hx hcl, h, laws_FnTrustConsent.j1, if_neg (by simp)]
            exact tc_l hx h hB.1 hcl x.length 0 K (by omega) (by omega)
          · rw [bfalse h]; exact fin _
        · rw [if_neg hPx]; exact fin _

end Go.Proofs.Ytenjngocdinfmaa.Pure
