/- Walks of functions that All reaches, in the form of the print. -/
-- PRINTED
import Derived.Test.YtcafckapdgaogaaCAll0
namespace Go.Proofs.Ytcafckapdgaogaa.PAll
open Go.RowKit Go.Proofs.YtcafckapdgaogaaW.PrintWords Go.Proofs.YtcafckapdgaogaaW.PrintLast Go.Proofs.YtcafckapdgaogaaW.PrintMore
attribute [local go_sem] max2_int min2_int max_two min_two max_three min_three max_four min_four
set_option linter.unusedVariables false
set_option linter.unusedSimpArgs false

-- NOT PRINTED: function 133 (slices_IndexFunc_int_int)

-- NOT PRINTED: function 114 (slices_ContainsFunc_int_int)

-- NOT PRINTED: function 81 (impl_areBad)

/-! ### slices_Index_int_int: function 116 -/
def slices_Index_int_int.l0 : Nat → List Int → Int → Int → Int → Option (Int)
 | 0, _, _, _, _ => none
 | k + 1, x0, x1, x7, x8 => if x8 < x7 then (if 0 ≤ x8 then (if x8 < (x0.length : Int) then (if x1 = (rd x0 x8) then (some x8) else (slices_Index_int_int.l0 k x0 x1 x7 (wrap64 (x8 + 1)))) else (none)) else (none)) else (some (-1))
def slices_Index_int_int.f (k : Nat) (l0 : List Int) (a1 : Int) : Option (Int) := slices_Index_int_int.l0 k l0 a1 (l0.length : Int) 0
/-! ### slices_Contains_int_int: function 82 -/
def slices_Contains_int_int.f (k : Nat) (l0 : List Int) (a1 : Int) : Option (Bool) := (slices_Index_int_int.f k l0 a1).bind fun t816 => (some (decide (t816 ≥ 0)))
/-! ### impl_stateNumber: function 83 -/
def impl_stateNumber.l0 : Nat → List Int → Int → Int → Option (Int)
 | 0, _, _, _ => none
 | k + 1, x0, x3, x4 => if x4 ≥ 0 then (if 0 ≤ x4 then (if x4 < (x0.length : Int) then (impl_stateNumber.l0 k x0 (wrap64 ((wrap64 (x3 * 3)) + (rd x0 x4))) (wrap64 (x4 - 1))) else (none)) else (none)) else (some x3)
def impl_stateNumber.f (k : Nat) (l0 : List Int) : Option (Int) := impl_stateNumber.l0 k l0 0 (wrap64 ((l0.length : Int) - 1))
theorem impl_stateNumber.mono_l : ∀ k, (∀ y0 y1 y2, LeO (impl_stateNumber.l0 k y0 y1 y2) (impl_stateNumber.l0 (k + 1) y0 y1 y2))
 | 0 => fun _ _ _ r h => by simp [impl_stateNumber.l0] at h
 | k + 1 => by
  have ih0 := impl_stateNumber.mono_l k
  ·intro y0 y1 y2
   unfold impl_stateNumber.l0
   repeat' first
   | (with_reducible exact LeO.refl _)
   | exact ih0 _ _ _
   | exact LeO.none _
   | refine LeO.ite ?_ ?_
   | refine LeO.bind ?_ (fun _ => ?_)
theorem impl_stateNumber.mono : ∀ a0 k, LeO (impl_stateNumber.f k a0) (impl_stateNumber.f (k + 1) a0) := by
 intro a0 k
 have ih0 := impl_stateNumber.mono_l k
 unfold impl_stateNumber.f
 repeat' first
   | (with_reducible exact LeO.refl _)
   | exact ih0 _ _ _
   | exact LeO.none _
   | refine LeO.ite ?_ ?_
   | refine LeO.bind ?_ (fun _ => ?_)
set_option maxHeartbeats 8000000 in
set_option maxRecDepth 100000 in
theorem impl_stateNumber.calls (k : Nat) (A0 : Option Addr) (c0 : Nat) (l0 : List Int) (r : Int) (w : World) (hr0 : Kd.C (Kd.int .i64) w A0 l0.length l0) (hc0 : l0.length ≤ c0) (h : impl_stateNumber.f k l0 = some r) :
  Calls Try.prog 83 #[.slice A0 l0.length c0] w fun e w' => e = .returned (.int .i64 r) ∧ Drawn0 w w' := by
 have HR0 := Aside0.mk hr0
 have HC0 := Aside0.mk hc0
 clear hr0 hc0
 have H := h
 clear h
 unfold impl_stateNumber.f at H
 have H' := Aside0.mk H
 clear H
 go_enter Try.func83, Try.ntmps83
 go_wp2
 go_loopg [3, 4] k (fun kq v3 v4 w' => ∃ (x3_1 : Int) (x4_1 : Int), v3 = .int .i64 x3_1 ∧ v4 = .int .i64 x4_1 ∧ Aside0 (impl_stateNumber.l0 kq l0 x3_1 x4_1 = some r) ∧ Aside0 (kq ≤ k) ∧ Drawn0 w w')
 case atStart => exact ⟨(0), (wrap64 ((l0.length : Int) - 1)), (by rfl), (by rfl), H', ⟨Nat.le_refl _⟩, by repeat (exact Drawn0.refl _)⟩
 case round =>
  clear H'
  obtain ⟨x3_1, x4_1, rfl, rfl, HA, HK1, ⟨m1, rfl⟩⟩ := hrel
  cases gk with
  | zero => exact absurd HA.out (by simp [impl_stateNumber.l0])
  | succ k1 =>
   have H := HA.out
   clear HA
   simp only [impl_stateNumber.l0] at H
   by_cases c2 : x4_1 ≥ 0
   ·rw [if_pos c2] at H
    have c2b0 : decide (0 ≤ x4_1) = true := decide_eq_true c2
    clear c2
    obtain ⟨c3, H⟩ := Z.ifp H
    have c3b0 : decide (0 ≤ x4_1) = true := decide_eq_true c3
    clear c3
    obtain ⟨c4, H⟩ := Z.ifp H
    have c4b0 : decide (x4_1 < (l0.length : Int)) = true := decide_eq_true c4
    clear c4
    have H' := Aside0.mk H
    clear H
    have p817 : 0 ≤ (x4_1 : Int) := Z.od
    have q817 : x4_1 < (l0.length : Int) := Z.od
    obtain ⟨ad817, rfl, hx817_0⟩ := Kd.at_int HR0.out x4_1 p817 q817
    replace p817 := eq_true p817
    replace q817 := eq_true q817
    go_wp2
    go_roundg k1
    case measure => have := HK1.out; omega
    case rel => exact ⟨(wrap64 ((wrap64 (x3_1 * 3)) + (rd l0 x4_1))), (wrap64 (x4_1 - 1)), (by rfl), (by rfl), H', ⟨by have := HK1.out; omega⟩, by repeat (first | exact Drawn0.refl _ | apply Drawn0.step)⟩
   ·rw [if_neg c2] at H
    have c2b0 : decide (0 ≤ x4_1) = false := decide_eq_false c2
    clear c2
    obtain rfl := Option.some.inj H
    go_wp2
    go_ret
    exact ⟨by rfl, by repeat (first | exact Drawn0.refl _ | apply Drawn0.step)⟩

/-! ### impl_changed: function 84 -/
def impl_changed.f (l0 : List Int) (a1 : Int) (a2 : Int) : Option (List Int) := (some (([] : List Int) : List Int)).bind fun y818 => (if y818.length + l0.length < 17592186044416 then ((some (y818 ++ l0 : List Int)).bind fun y821 => (if 0 ≤ a1 then (if a1 < (y821.length : Int) then (some (y821.set (a1 : Int).toNat a2)) else (none)) else (none))) else (none))
set_option maxHeartbeats 8000000 in
set_option maxRecDepth 100000 in
theorem impl_changed.calls (A0 : Option Addr) (c0 : Nat) (l0 : List Int) (a1 : Int) (a2 : Int) (r : List Int) (w : World) (hr0 : Kd.C (Kd.int .i64) w A0 l0.length l0) (hc0 : l0.length ≤ c0) (h : impl_changed.f l0 a1 a2 = some r) :
  Calls Try.prog 84 #[.slice A0 l0.length c0, .int .i64 a1, .int .i64 a2] w fun e w' => ∃ v0_ : Value, e = .returned (v0_) ∧ Kd.R (Kd.int .i64) 3 w' w.heap.size (fun _ => True) v0_ r ∧ Below w.heap.size w w' := by
 have HR0 := Aside0.mk hr0
 have HC0 := Aside0.mk hc0
 clear hr0 hc0
 have HB := Aside0.mk (Below.refl w.heap.size w)
 have H := h
 clear h
 unfold impl_changed.f at H
 obtain ⟨y818, hy818⟩ : ∃ y_ : List Int, y_ = (([] : List Int)) := ⟨_, rfl⟩
 replace H : (if y818.length + l0.length < 17592186044416 then ((some (y818 ++ l0 : List Int)).bind fun y821 => (if 0 ≤ a1 then (if a1 < (y821.length : Int) then (some (y821.set (a1 : Int).toNat a2)) else (none)) else (none))) else (none)) = some r := by (have H2_ := (Option.bind_some _ _).symm.trans H; rw [hy818]; with_reducible exact H2_)
 have Ny818 := Aside0.mk hy818
 clear hy818
 obtain ⟨c4, H⟩ := Z.ifp H
 have LMc4 := Aside0.mk c4
 clear c4
 obtain ⟨y821, hy821⟩ : ∃ y_ : List Int, y_ = (y818 ++ l0) := ⟨_, rfl⟩
 replace H : (if 0 ≤ a1 then (if a1 < (y821.length : Int) then (some (y821.set (a1 : Int).toNat a2)) else (none)) else (none)) = some r := by (have H2_ := (Option.bind_some _ _).symm.trans H; rw [hy821]; with_reducible exact H2_)
 have Ny821 := Aside0.mk hy821
 clear hy821
 obtain ⟨c5, H⟩ := Z.ifp H
 have c5b0 : decide (0 ≤ a1) = true := decide_eq_true c5
 clear c5
 obtain ⟨c6, H⟩ := Z.ifp H
 have c6b0 : decide (a1 < (y821.length : Int)) = true := decide_eq_true c6
 clear c6
 obtain ⟨y824, hy824⟩ : ∃ y_ : List Int, y_ = (y821.set (a1 : Int).toNat a2) := ⟨_, rfl⟩
 replace H : (some y824) = some r := by (rw [hy824]; with_reducible exact H)
 have Ny824 := Aside0.mk hy824
 clear hy824
 obtain rfl := Option.some.inj H
 go_enter Try.func84, Try.ntmps84
 go_wp2_with (first | ((with_reducible refine gate_dst (N := 8) rfl ?_); refine Kd.R_lit (Kd.int .i64) _ 3 ?hg (N := 8) ?hd (xs := ([] : List Int)) (inner := []) (ok := fun _ => True) (okp := fun _ => True) ?hr ?hp (fun _ hk => hk) trivial (Below.refl _ _) (Nat.le_refl _) (by simp) ?_; (case hd | hg => rfl); (case hr => (go_simp; done)); (case hp => exact (Reps.none _ _)); intro v819 w8 ho9 hb hg_ hnew_; clear hg_ hnew_; (rw [← Ny818.out] at ho9); have HO820 := Aside0.mk (Kd.R_lower ho9 (below_size (Z.bl HB.out))); replace HB := Z.st (Z.bl HB.out) hb; clear hb ho9) | ((with_reducible refine gate_builtin (b := .append) (xs := #[.tmp 8, .tmp 9]) rfl ?_); at_builtin; refine Kd.R_append_rows (Kd.int .i64) (w0 := w) w.heap.size rfl (.tmp 8) (.tmp 9) 22 3 (.int .i64 0) 8 rfl Try.underlying22 info3 rfl (by decide) (by omega) v819 y818 l0 _ _ _ (fun _ => True) (fun _ => False) rfl rfl ?aO ?aR (fun _ _ h => h) (fun _ h => h.elim) ?aF ?aB ?aS ?aL ?_; (case aR => exact Z.cc HR0 HB); (case aB => exact (Z.bl HB.out)); (case aF => exact (fun _ _ => trivial)); (case aO => exact (by (with_reducible skip); exact HO820.out)); (case aS => exact (below_size (Z.bl HB.out))); (case aL => have := LMc4.out; omega); intro v822 w10 ho hb hg hat; rw [← Ny821.out] at ho; replace HB := Aside0.mk (hb); have HO823 := Aside0.mk (ho); clear HO820; clear ho hb hg hat; have p7 : 0 ≤ (a1 : Int) := Z.od; have q7 : (a1 : Int) < ((y821.length : Int) : Int) := Z.od; obtain ⟨go7, co7, eo7, gb7, gl7, cl7, HG7⟩ := Kd.R_form HO823.out (by omega); (cases eo7); have GB7 := Aside0.mk gb7; have GG7 := Aside0.mk HG7; clear gb7 gl7 HG7; obtain ⟨hx7_0, hf7_0⟩ := Kd.R_celln 0 HO823.out (a1 : Int) p7 q7; replace p7 := eq_true p7; replace q7 := eq_true q7; obtain ⟨hy11_, hz11_⟩ := Kd.R_celln 0 HO823.out (a1 : Int) (Z.od) (Z.od); have HP11 := Kd.R_putg HO823.out (a1 : Int) a2) | ((with_reducible refine gate_store (t := 3) (p := 14) rfl ?_); refine store_event (t := 3) (p := 14) (v := ?vo_w12) (w1 := (w10.setCell ⟨go7, (a1 : Int).toNat, none⟩ (.int .i64 a2))) ?hg ?ho ?hn ?hr ?_; (case ho => rfl); (case hg => rfl); (case hn => rfl); (case hr => (go_simp; done)); intro w12 hw; have hg : w10.grownBy w12 (some go7) := (by rw [hw]; exact HP11.2); have hp_ : Kd.R (Kd.int .i64) 3 w12 w.heap.size (fun _ => True) (.slice (some ⟨go7, 0, none⟩) y821.length co7) y824 := (by rw [hw, Ny824.out]; exact HP11.1); clear HP11; replace HO823 := Aside0.mk (hp_); replace HB := Aside0.mk ((by rw [hw]; exact below_set (HB.out) GB7.out : Below w.heap.size w w12)); clear hg hw hp_))
 go_ret
 exact ⟨_, by rfl, by (with_reducible skip); exact HO823.out, Z.bl HB.out⟩
-- NOT PRINTED: function 42 (impl_SafeActs)

-- NOT PRINTED: function 8 (laws_FnExactSafeActs)

/-! ### spec_l8State: function 90 -/
def spec_l8State.l0 : Nat → Int → List Int → Int → Int → List Int → List (List (S86)) → Option (List Int)
 | 0, _, _, _, _, _, _ => none
 | k + 1, x1, x5, x6, x867000, x867001, x867002 => if x6 < (x867002.length : Int) then (if x5.length < 17592186044416 then (spec_l8State.l0 k (wrap64 (Int.tdiv x1 3)) (x5 ++ [Int.tmod x1 3]) (wrap64 (x6 + 1)) x867000 x867001 x867002) else (none)) else (some x5)
def spec_l8State.f (k : Nat) (a0_0 : Int) (l0_1 : List Int) (l0_2 : List (List (S86))) (a1 : Int) : Option (List Int) := spec_l8State.l0 k a1 (([] : List Int)) 0 a0_0 l0_1 l0_2
set_option maxHeartbeats 8000000 in
set_option maxRecDepth 100000 in
theorem spec_l8State.calls (k : Nat) (a0_0 : Int) (A0_1 : Option Addr) (c0_1 : Nat) (l0_1 : List Int) (A0_2 : Option Addr) (c0_2 : Nat) (l0_2 : List (List (S86))) (a1 : Int) (r : List Int) (w : World) (hr0_1 : Kd.C (Kd.int .i64) w A0_1 l0_1.length l0_1) (hc0_1 : l0_1.length ≤ c0_1) (hr0_2 : Kd.C (Kd.slice 86 k86) w A0_2 l0_2.length l0_2) (hc0_2 : l0_2.length ≤ c0_2) (h : spec_l8State.f k a0_0 l0_1 l0_2 a1 = some r) :
  Calls Try.prog 90 #[.agg #[.int .i64 a0_0, .slice A0_1 l0_1.length c0_1, .slice A0_2 l0_2.length c0_2], .int .i64 a1] w fun e w' => ∃ v0_ : Value, e = .returned (v0_) ∧ Kd.R (Kd.int .i64) 3 w' w.heap.size (fun _ => True) v0_ r ∧ Below w.heap.size w w' := by
 have hu35 := Try.underlying35
 have HR0_1 := Aside0.mk hr0_1
 have HC0_1 := Aside0.mk hc0_1
 clear hr0_1 hc0_1
 have HR0_2 := Aside0.mk hr0_2
 have HC0_2 := Aside0.mk hc0_2
 clear hr0_2 hc0_2
 have HB := Aside0.mk (Below.refl w.heap.size w)
 have H := h
 clear h
 unfold spec_l8State.f at H
 obtain ⟨y867, hy867⟩ : ∃ y_ : List Int, y_ = (([] : List Int)) := ⟨_, rfl⟩
 replace H : (spec_l8State.l0 k a1 y867 0 a0_0 l0_1 l0_2) = some r := by (rw [hy867]; with_reducible exact H)
 have Ny867 := Aside0.mk hy867
 clear hy867
 have H' := Aside0.mk H
 clear H
 go_enter Try.func90, Try.ntmps90
 go_wp2_with (first | ((with_reducible refine gate_dst (N := 2) rfl ?_); refine Z.bx #[.int .i64 a0_0, .slice A0_1 l0_1.length c0_1, .slice A0_2 l0_2.length c0_2] 35 HB ?_; clear HB; intro gb866 w3 BK866 GE866 HB hg hb; have GW866 := GE866; clear hb hg) | ((with_reducible refine gate_dst (N := 7) rfl ?_); refine Kd.R_lit (Kd.int .i64) _ 3 ?hg (N := 7) ?hd (xs := ([] : List Int)) (inner := []) (ok := fun _ => True) (okp := fun _ => True) ?hr ?hp (fun _ hk => hk) trivial (Below.refl _ _) (Nat.le_refl _) (by simp) ?_; (case hd | hg => rfl); (case hr => (go_simp; done)); (case hp => exact (Reps.none _ _)); intro v868 w4 ho5 hb hg_ hnew_; clear hg_ hnew_; (rw [← Ny867.out] at ho5); have HO869 := Aside0.mk (Kd.R_lower ho5 (below_size (Z.bs HB.out GE866.out))); replace BK866 := Z.bb BK866 hb; replace HB := Z.st (Z.bs HB.out GE866.out) hb; clear hb ho5))
 go_loopg [1, 5, 6] k (fun kq v1 v5 v6 w' => ∃ (x1_1 : Int) (x5_1 : List Int) (x6_1 : Int), v1 = .int .i64 x1_1 ∧ v6 = .int .i64 x6_1 ∧ Aside0 (spec_l8State.l0 kq x1_1 x5_1 x6_1 a0_0 l0_1 l0_2 = some r) ∧ Aside0 (kq ≤ k) ∧ Aside0 (Kd.R (Kd.int .i64) 3 w' w.heap.size (fun _ => True) v5 x5_1) ∧ Aside0 (w'.heap[gb866]? = some (.cells #[.int .i64 a0_0, (.slice A0_1 l0_1.length c0_1), (.slice A0_2 l0_2.length c0_2)] 35 (0, 0))) ∧ Aside0 (Below w.heap.size w w'))
 case atStart => exact ⟨(a1), (y867), (0), (by rfl), (by rfl), H', ⟨Nat.le_refl _⟩, ⟨by (with_reducible skip); exact HO869.out⟩, ⟨by (with_reducible skip); exact BK866.out⟩, ⟨Z.bs HB.out GE866.out⟩⟩
 case round =>
  clear H'
  obtain ⟨x1_1, x5_1, x6_1, rfl, rfl, HA, HK1, HO_5, BK866, HB⟩ := hrel
  cases gk with
  | zero => exact absurd HA.out (by simp [spec_l8State.l0])
  | succ k1 =>
   have H := HA.out
   clear HA
   simp only [spec_l8State.l0] at H
   by_cases c6 : x6_1 < (l0_2.length : Int)
   ·rw [if_pos c6] at H
    have c6b0 : decide (x6_1 < (l0_2.length : Int)) = true := decide_eq_true c6
    clear c6
    obtain ⟨c7, H⟩ := Z.ifp H
    have LMc7 := Aside0.mk c7
    clear c7
    obtain ⟨y870, hy870⟩ : ∃ y_ : List Int, y_ = (x5_1 ++ [Int.tmod x1_1 3]) := ⟨_, rfl⟩
    replace H : (spec_l8State.l0 k1 (wrap64 (Int.tdiv x1_1 3)) y870 (wrap64 (x6_1 + 1)) a0_0 l0_1 l0_2) = some r := by (rw [hy870]; with_reducible exact H)
    have Ny870 := Aside0.mk hy870
    clear hy870
    have H' := Aside0.mk H
    clear H
    have hcz8 := Z.c3 BK866.out
    go_wp2_with (((with_reducible refine gate_builtin (b := .append) (xs := #[.tmp 15, .tmp 18]) rfl ?_); at_builtin; refine Kd.R_append (Kd.int .i64) (w0 := w) w.heap.size rfl (.tmp 15) (.tmp 18) 22 3 (.int .i64 0) 8 rfl Try.underlying22 info3 rfl (by decide) (by omega) u5 x5_1 (Int.tmod x1_1 3) [.int .i64 (Int.tmod x1_1 3)] (fun _ => True) (fun _ => False) rfl rfl ?aP (fun _ hk => hk.elim) ?aF ?aO ?aB ?aS ?aL ?_; (case aP => exact rfl); (case aB => exact (Z.bs HB.out GE866.out)); (case aF => exact (fun _ _ => trivial)); (case aO => exact (by (with_reducible skip); exact HO_5.out)); (case aS => exact (below_size (Z.bs HB.out GE866.out))); (case aL => have := LMc7.out; omega); intro v871 w9 ho hb hg hat; rw [← Ny870.out] at ho; replace BK866 := Aside0.mk (blk_grown (g := gb866) (o := .cells #[.int .i64 a0_0, .slice A0_1 l0_1.length c0_1, .slice A0_2 l0_2.length c0_2] 35 (0, 0)) (Z.bk BK866.out) hg (Kd.R_ne HO_5.out BK866.out (by decide))); replace HB := Aside0.mk (hb); have HO872 := Aside0.mk (ho); clear HO_5; clear ho hb hg hat))
    go_roundg k1
    case measure => have := HK1.out; omega
    case rel => exact ⟨(wrap64 (Int.tdiv x1_1 3)), (y870), (wrap64 (x6_1 + 1)), (by rfl), (by rfl), H', ⟨by have := HK1.out; omega⟩, ⟨by (with_reducible skip); exact HO872.out⟩, ⟨by (with_reducible skip); exact BK866.out⟩, ⟨Z.bs HB.out GE866.out⟩⟩
   ·rw [if_neg c6] at H
    have c6b0 : decide (x6_1 < (l0_2.length : Int)) = false := decide_eq_false c6
    clear c6
    obtain rfl := Option.some.inj H
    have hcz10 := Z.c3 BK866.out
    go_wp2
    go_ret
    exact ⟨_, by rfl, by (with_reducible skip); exact HO_5.out, Z.bs HB.out GE866.out⟩

end Go.Proofs.Ytcafckapdgaogaa.PAll
