/- Walks of functions that All reaches, in the form of the print. -/
-- PRINTED
import Derived.Test.YtcafckapdgaogaaCAll0
import Derived.Test.YtcafckapdgaogaaCAll14
import Derived.Test.YtcafckapdgaogaaCAll22
import Derived.Test.YtcafckapdgaogaaCAll23
import Derived.Test.YtcafckapdgaogaaZ
namespace Go.Proofs.Ytcafckapdgaogaa.PAll
open Go.RowKit Go.Proofs.YtcafckapdgaogaaW.PrintWords Go.Proofs.YtcafckapdgaogaaW.PrintLast Go.Proofs.YtcafckapdgaogaaW.PrintMore
attribute [local go_sem] max2_int min2_int max_two min_two max_three min_three max_four min_four
set_option linter.unusedVariables false
set_option linter.unusedSimpArgs false

/-! ### impl_hasClause: function 75 -/
def impl_hasClause.f (a0_0 : Int) (l0_1 : List Int) (l0_2 : List (List (S86))) (a1 : Int) : Option (Bool) := if a1 ≥ 0 then (some (decide (a1 < (l0_2.length : Int)))) else (some false)
set_option maxHeartbeats 8000000 in
set_option maxRecDepth 100000 in
theorem impl_hasClause.calls (a0_0 : Int) (A0_1 : Option Addr) (c0_1 : Nat) (l0_1 : List Int) (A0_2 : Option Addr) (c0_2 : Nat) (l0_2 : List (List (S86))) (a1 : Int) (r : Bool) (w : World) (hr0_1 : Kd.C (Kd.int .i64) w A0_1 l0_1.length l0_1) (hc0_1 : l0_1.length ≤ c0_1) (hr0_2 : Kd.C (Kd.slice 86 k86) w A0_2 l0_2.length l0_2) (hc0_2 : l0_2.length ≤ c0_2) (h : impl_hasClause.f a0_0 l0_1 l0_2 a1 = some r) :
  Calls Try.prog 75 #[.agg #[.int .i64 a0_0, .slice A0_1 l0_1.length c0_1, .slice A0_2 l0_2.length c0_2], .int .i64 a1] w fun e w' => e = .returned (.bool r) ∧ Below w.heap.size w w' := by
 have hu35 := Try.underlying35
 have HR0_1 := Aside0.mk hr0_1
 have HC0_1 := Aside0.mk hc0_1
 clear hr0_1 hc0_1
 have HR0_2 := Aside0.mk hr0_2
 have HC0_2 := Aside0.mk hc0_2
 clear hr0_2 hc0_2
 have HB := Aside0.mk (Below.refl w.heap.size w)
 have H := h
 clear h
 unfold impl_hasClause.f at H
 by_cases c3 : a1 ≥ 0
 ·rw [if_pos c3] at H
  have c3b0 : decide (0 ≤ a1) = true := decide_eq_true c3
  clear c3
  obtain rfl := Option.some.inj H
  go_enter Try.func75, Try.ntmps75
  go_wp2_with (((with_reducible refine gate_dst (N := 2) rfl ?_); (try (refine gate_guard (by rfl) ?_; dsimp only)); refine Z.bx #[.int .i64 a0_0, .slice A0_1 l0_1.length c0_1, .slice A0_2 l0_2.length c0_2] 35 HB ?_; clear HB; intro gb647 w4 BK647 GE647 HB hg hb; have GW647 := GE647; clear hb hg; have hcz5 := Z.c3 BK647.out))
  go_ret
  exact ⟨by rfl, Z.bs HB.out GE647.out⟩
 ·rw [if_neg c3] at H
  have c3b0 : decide (0 ≤ a1) = false := decide_eq_false c3
  clear c3
  obtain rfl := Option.some.inj H
  go_enter Try.func75, Try.ntmps75
  go_wp2_with (((with_reducible refine gate_dst (N := 2) rfl ?_); (try (refine gate_guard (by rfl) ?_; dsimp only)); refine Z.bx #[.int .i64 a0_0, .slice A0_1 l0_1.length c0_1, .slice A0_2 l0_2.length c0_2] 35 HB ?_; clear HB; intro gb647 w6 BK647 GE647 HB hg hb; have GW647 := GE647; clear hb hg))
  go_ret
  exact ⟨by rfl, Z.bs HB.out GE647.out⟩

-- NOT PRINTED: function 132 (impl_Variant_132)

-- NOT PRINTED: function 112 (impl_Variant_112)

-- NOT PRINTED: function 76 (impl_asksFor)

-- NOT PRINTED: function 38 (impl_ApartOk)

-- NOT PRINTED: function 6 (laws_FnExactApartOk)

/-! ### spec_l8Code: function 77 -/
def spec_l8Code.l0 : Nat → List Int → Int → Int → Option (Int)
 | 0, _, _, _ => none
 | k + 1, x0, x3, x4 => if x4 ≥ 0 then (if 0 ≤ x4 then (if x4 < (x0.length : Int) then (spec_l8Code.l0 k x0 (wrap64 ((wrap64 (x3 * 3)) + (rd x0 x4))) (wrap64 (x4 - 1))) else (none)) else (none)) else (some x3)
def spec_l8Code.f (k : Nat) (l0 : List Int) : Option (Int) := spec_l8Code.l0 k l0 0 (wrap64 ((l0.length : Int) - 1))
theorem spec_l8Code.mono_l : ∀ k, (∀ y0 y1 y2, LeO (spec_l8Code.l0 k y0 y1 y2) (spec_l8Code.l0 (k + 1) y0 y1 y2))
 | 0 => fun _ _ _ r h => by simp [spec_l8Code.l0] at h
 | k + 1 => by
  have ih0 := spec_l8Code.mono_l k
  ·intro y0 y1 y2
   unfold spec_l8Code.l0
   repeat' first
   | (with_reducible exact LeO.refl _)
   | exact ih0 _ _ _
   | exact LeO.none _
   | refine LeO.ite ?_ ?_
   | refine LeO.bind ?_ (fun _ => ?_)
theorem spec_l8Code.mono : ∀ a0 k, LeO (spec_l8Code.f k a0) (spec_l8Code.f (k + 1) a0) := by
 intro a0 k
 have ih0 := spec_l8Code.mono_l k
 unfold spec_l8Code.f
 repeat' first
   | (with_reducible exact LeO.refl _)
   | exact ih0 _ _ _
   | exact LeO.none _
   | refine LeO.ite ?_ ?_
   | refine LeO.bind ?_ (fun _ => ?_)
set_option maxHeartbeats 8000000 in
set_option maxRecDepth 100000 in
theorem spec_l8Code.calls (k : Nat) (A0 : Option Addr) (c0 : Nat) (l0 : List Int) (r : Int) (w : World) (hr0 : Kd.C (Kd.int .i64) w A0 l0.length l0) (hc0 : l0.length ≤ c0) (h : spec_l8Code.f k l0 = some r) :
  Calls Try.prog 77 #[.slice A0 l0.length c0] w fun e w' => e = .returned (.int .i64 r) ∧ Drawn0 w w' := by
 have HR0 := Aside0.mk hr0
 have HC0 := Aside0.mk hc0
 clear hr0 hc0
 have H := h
 clear h
 unfold spec_l8Code.f at H
 have H' := Aside0.mk H
 clear H
 go_enter Try.func77, Try.ntmps77
 go_wp2
 go_loopg [3, 4] k (fun kq v3 v4 w' => ∃ (x3_1 : Int) (x4_1 : Int), v3 = .int .i64 x3_1 ∧ v4 = .int .i64 x4_1 ∧ Aside0 (spec_l8Code.l0 kq l0 x3_1 x4_1 = some r) ∧ Aside0 (kq ≤ k) ∧ Drawn0 w w')
 case atStart => exact ⟨(0), (wrap64 ((l0.length : Int) - 1)), (by rfl), (by rfl), H', ⟨Nat.le_refl _⟩, by repeat (exact Drawn0.refl _)⟩
 case round =>
  clear H'
  obtain ⟨x3_1, x4_1, rfl, rfl, HA, HK1, ⟨m1, rfl⟩⟩ := hrel
  cases gk with
  | zero => exact absurd HA.out (by simp [spec_l8Code.l0])
  | succ k1 =>
   have H := HA.out
   clear HA
   simp only [spec_l8Code.l0] at H
   by_cases c2 : x4_1 ≥ 0
   ·rw [if_pos c2] at H
    have c2b0 : decide (0 ≤ x4_1) = true := decide_eq_true c2
    clear c2
    obtain ⟨c3, H⟩ := Z.ifp H
    have c3b0 : decide (0 ≤ x4_1) = true := decide_eq_true c3
    clear c3
    obtain ⟨c4, H⟩ := Z.ifp H
    have c4b0 : decide (x4_1 < (l0.length : Int)) = true := decide_eq_true c4
    clear c4
    have H' := Aside0.mk H
    clear H
    have p687 : 0 ≤ (x4_1 : Int) := Z.od
    have q687 : x4_1 < (l0.length : Int) := Z.od
    obtain ⟨ad687, rfl, hx687_0⟩ := Kd.at_int HR0.out x4_1 p687 q687
    replace p687 := eq_true p687
    replace q687 := eq_true q687
    go_wp2
    go_roundg k1
    case measure => have := HK1.out; omega
    case rel => exact ⟨(wrap64 ((wrap64 (x3_1 * 3)) + (rd l0 x4_1))), (wrap64 (x4_1 - 1)), (by rfl), (by rfl), H', ⟨by have := HK1.out; omega⟩, by repeat (first | exact Drawn0.refl _ | apply Drawn0.step)⟩
   ·rw [if_neg c2] at H
    have c2b0 : decide (0 ≤ x4_1) = false := decide_eq_false c2
    clear c2
    obtain rfl := Option.some.inj H
    go_wp2
    go_ret
    exact ⟨by rfl, by repeat (first | exact Drawn0.refl _ | apply Drawn0.step)⟩

/-! ### spec_EitherOrder: function 39 -/
def spec_EitherOrder.f (k : Nat) (a0_0 : Int) (l0_1 : List Int) (l0_2 : List (List (S86))) (l1 : List Int) (a2_0 : Int) (a2_1 : Int) (a2_2 : Int) (a3_0 : Int) (a3_1 : Int) (a3_2 : Int) : Option (Bool) := (spec_AfterActs.f k a0_0 l0_1 l0_2 l1 (([(⟨a2_0, a2_1, a2_2⟩ : S53), (⟨a3_0, a3_1, a3_2⟩ : S53)] : List (S53)))).bind fun bt694 => ((spec_AfterActs.f k a0_0 l0_1 l0_2 l1 (([(⟨a3_0, a3_1, a3_2⟩ : S53), (⟨a2_0, a2_1, a2_2⟩ : S53)] : List (S53)))).bind fun bt701 => (if bt694.2 = 2 then (if bt701.2 = 2 then ((spec_l8Code.f k bt694.1).bind fun t705 => ((spec_l8Code.f k bt701.1).bind fun t706 => (some (t705 == t706)))) else (some false)) else (some false)))
theorem spec_EitherOrder.mono : ∀ a0 a1 a2 a3 a4 a5 a6 a7 a8 a9 k, LeO (spec_EitherOrder.f k a0 a1 a2 a3 a4 a5 a6 a7 a8 a9) (spec_EitherOrder.f (k + 1) a0 a1 a2 a3 a4 a5 a6 a7 a8 a9) := by
 intro a0 a1 a2 a3 a4 a5 a6 a7 a8 a9 k
 unfold spec_EitherOrder.f
 repeat' first
   | (with_reducible exact LeO.refl _)
   | exact spec_AfterActs.mono _ _ _ _ _ _
   | exact spec_l8Code.mono _ _
   | exact LeO.none _
   | refine LeO.ite ?_ ?_
   | refine LeO.bind ?_ (fun _ => ?_)
set_option maxHeartbeats 8000000 in
set_option maxRecDepth 100000 in
theorem spec_EitherOrder.calls (k : Nat) (a0_0 : Int) (A0_1 : Option Addr) (c0_1 : Nat) (l0_1 : List Int) (A0_2 : Option Addr) (c0_2 : Nat) (l0_2 : List (List (S86))) (A1 : Option Addr) (c1 : Nat) (l1 : List Int) (a2_0 : Int) (a2_1 : Int) (a2_2 : Int) (a3_0 : Int) (a3_1 : Int) (a3_2 : Int) (r : Bool) (w : World) (hr0_1 : Kd.C (Kd.int .i64) w A0_1 l0_1.length l0_1) (hc0_1 : l0_1.length ≤ c0_1) (hr0_2 : Kd.C (Kd.slice 86 k86) w A0_2 l0_2.length l0_2) (hc0_2 : l0_2.length ≤ c0_2) (hr1 : Kd.C (Kd.int .i64) w A1 l1.length l1) (hc1 : l1.length ≤ c1) (h : spec_EitherOrder.f k a0_0 l0_1 l0_2 l1 a2_0 a2_1 a2_2 a3_0 a3_1 a3_2 = some r) :
  Calls Try.prog 39 #[.agg #[.int .i64 a0_0, .slice A0_1 l0_1.length c0_1, .slice A0_2 l0_2.length c0_2], .slice A1 l1.length c1, .agg #[.int .i64 a2_0, .int .i64 a2_1, .int .i64 a2_2], .agg #[.int .i64 a3_0, .int .i64 a3_1, .int .i64 a3_2]] w fun e w' => e = .returned (.bool r) ∧ Below w.heap.size w w' := by
 have hu35 := Try.underlying35
 have hu53 := Try.underlying53
 have HR0_1 := Aside0.mk hr0_1
 have HC0_1 := Aside0.mk hc0_1
 clear hr0_1 hc0_1
 have HR0_2 := Aside0.mk hr0_2
 have HC0_2 := Aside0.mk hc0_2
 clear hr0_2 hc0_2
 have HR1 := Aside0.mk hr1
 have HC1 := Aside0.mk hc1
 clear hr1 hc1
 have HB := Aside0.mk (Below.refl w.heap.size w)
 have H := h
 clear h
 unfold spec_EitherOrder.f at H
 obtain ⟨y691, hy691⟩ : ∃ y_ : List (S53), y_ = (([(⟨a2_0, a2_1, a2_2⟩ : S53), (⟨a3_0, a3_1, a3_2⟩ : S53)] : List (S53))) := ⟨_, rfl⟩
 replace H : ((spec_AfterActs.f k a0_0 l0_1 l0_2 l1 y691).bind fun bt694 => ((spec_AfterActs.f k a0_0 l0_1 l0_2 l1 (([(⟨a3_0, a3_1, a3_2⟩ : S53), (⟨a2_0, a2_1, a2_2⟩ : S53)] : List (S53)))).bind fun bt701 => (if bt694.2 = 2 then (if bt701.2 = 2 then ((spec_l8Code.f k bt694.1).bind fun t705 => ((spec_l8Code.f k bt701.1).bind fun t706 => (some (t705 == t706)))) else (some false)) else (some false)))) = some r := by (rw [hy691]; with_reducible exact H)
 have Ny691 := Aside0.mk hy691
 clear hy691
 replace H := Option.bind_eq_some_iff.mp H
 obtain ⟨⟨t694, t697⟩, A50, H⟩ := H
 try dsimp only at H
 have A5 := Aside0.mk A50
 clear A50
 obtain ⟨y698, hy698⟩ : ∃ y_ : List (S53), y_ = (([(⟨a3_0, a3_1, a3_2⟩ : S53), (⟨a2_0, a2_1, a2_2⟩ : S53)] : List (S53))) := ⟨_, rfl⟩
 replace H : ((spec_AfterActs.f k a0_0 l0_1 l0_2 l1 y698).bind fun bt701 => (if t697 = 2 then (if bt701.2 = 2 then ((spec_l8Code.f k t694).bind fun t705 => ((spec_l8Code.f k bt701.1).bind fun t706 => (some (t705 == t706)))) else (some false)) else (some false))) = some r := by (rw [hy698]; with_reducible exact H)
 have Ny698 := Aside0.mk hy698
 clear hy698
 replace H := Option.bind_eq_some_iff.mp H
 obtain ⟨⟨t701, t704⟩, A60, H⟩ := H
 try dsimp only at H
 have A6 := Aside0.mk A60
 clear A60
 by_cases c7 : t697 = 2
 ·rw [if_pos c7] at H
  have c7b0 : (t697 == 2) = true := beq_iff_eq.mpr c7
  have c7b1 : (t697 != 2) = false := bne_eq_false_iff_eq.mpr c7
  clear c7
  by_cases c8 : t704 = 2
  ·rw [if_pos c8] at H
   have c8b0 : (t704 == 2) = true := beq_iff_eq.mpr c8
   have c8b1 : (t704 != 2) = false := bne_eq_false_iff_eq.mpr c8
   clear c8
   replace H := Option.bind_eq_some_iff.mp H
   obtain ⟨t705, A90, H⟩ := H
   have A9 := Aside0.mk A90
   clear A90
   replace H := Option.bind_eq_some_iff.mp H
   obtain ⟨t706, A100, H⟩ := H
   have A10 := Aside0.mk A100
   clear A100
   obtain rfl := Option.some.inj H
   go_enter Try.func39, Try.ntmps39
   go_wp2_with (first | ((with_reducible refine gate_dst (N := 4) rfl ?_); refine Z.bx #[.int .i64 a0_0, .slice A0_1 l0_1.length c0_1, .slice A0_2 l0_2.length c0_2] 35 HB ?_; clear HB; intro gb688 w11 BK688 GE688 HB hg hb; have GW688 := GE688; clear hb hg) | ((with_reducible refine gate_dst (N := 6) rfl ?_); refine Z.bz #[.int .i64 a2_0, .int .i64 a2_1, .int .i64 a2_2] 53 HB GE688 ?_; clear HB; intro gb689 w12 BK689 GE689 HB hg hb; have GW689 := GE689; have NB688_689 := Z.nl hg BK688; have NB689_688 := Z.ng hg BK688; replace BK688 := Z.bb BK688 hb; clear hb hg) | ((with_reducible refine gate_dst (N := 7) rfl ?_); refine box_event ?hg (N := 7) ?hd (cs := #[.int .i64 a3_0, .int .i64 a3_1, .int .i64 a3_2]) (t := 53) ?hr ?_; (case hd | hg => rfl); (case hr => (go_simp; done)); intro gb690 hg w13 hbox hb; have BK690 := Aside0.mk (hbox); have GW690 := Aside0.mk ((by rw [hg]; exact (below_size (by repeat ((with_reducible exact HB.out)))) : w.heap.size ≤ gb690)); have GE690 := Aside0.mk ((by rw [hg]; exact (below_size (by repeat ((with_reducible exact HB.out)))) : w.heap.size ≤ gb690)); replace HB := Aside0.mk (below_step (by repeat ((with_reducible exact HB.out))) hb); have NB688_690 := Z.nl hg BK688; have NB690_688 := Z.ng hg BK688; replace BK688 := Z.bb BK688 hb; have NB689_690 := Z.nl hg BK689; have NB690_689 := Z.ng hg BK689; replace BK689 := Z.bb BK689 hb; clear hb hbox hg; have hnb14 := NB688_689.out; have hnc14 := NB689_688.out; have hnb15 := NB688_690.out; have hnc15 := NB690_688.out; have hcz16 := Z.c3 BK688.out; have hnb17 := NB689_690.out; have hnc17 := NB690_689.out; have hcz18 := Z.c3 BK689.out; have hcz19 := Z.c3 BK690.out) | ((with_reducible refine gate_dst (N := 18) rfl ?_); refine Kd.R_lit k53 _ 53 ?hg (N := 18) ?hd (xs := ([(⟨a2_0, a2_1, a2_2⟩ : S53), (⟨a3_0, a3_1, a3_2⟩ : S53)] : List (S53))) (inner := [.int .i64 a2_0, .int .i64 a2_1, .int .i64 a2_2, .int .i64 a3_0, .int .i64 a3_1, .int .i64 a3_2]) (ok := fun _ => True) (okp := fun _ => True) ?hr ?hp (fun _ hk => hk) trivial (Below.refl _ _) (Nat.le_refl _) (by simp) ?_; (case hd | hg => rfl); (case hr => (go_simp; done)); (case hp => exact (Reps.c3 (show Kd.M k53 _ _ _ (⟨a2_0, a2_1, a2_2⟩ : S53) [.int .i64 a2_0, .int .i64 a2_1, .int .i64 a2_2] from (k53_mkM _ _ _ (⟨a2_0, a2_1, a2_2⟩ : S53) )) (Reps.c3 (show Kd.M k53 _ _ _ (⟨a3_0, a3_1, a3_2⟩ : S53) [.int .i64 a3_0, .int .i64 a3_1, .int .i64 a3_2] from (k53_mkM _ _ _ (⟨a3_0, a3_1, a3_2⟩ : S53) )) (Reps.none _ _)))); intro v692 w20 ho21 hb hg_ hnew_; clear hg_ hnew_; (rw [← Ny691.out] at ho21); have HO693 := Aside0.mk (Kd.R_lower (Kd.R_newB (Kd.R_newB ho21 (g := gb689) (o := .cells #[.int .i64 a2_0, .int .i64 a2_1, .int .i64 a2_2] 53 (0, 0)) (Z.bk BK689.out)) (g := gb690) (o := .cells #[.int .i64 a3_0, .int .i64 a3_1, .int .i64 a3_2] 53 (0, 0)) (Z.bk BK690.out)) (below_size (by repeat ((with_reducible exact HB.out))))); replace BK688 := Z.bb BK688 hb; replace BK689 := Z.bb BK689 hb; replace BK690 := Z.bb BK690 hb; replace HB := Aside0.mk (below_step (by repeat ((with_reducible exact HB.out))) hb); clear hb ho21; obtain ⟨Ao22, co22, eo22⟩ := Kd.R_slice HO693.out; subst eo22) | ((with_reducible refine gate_callee (f := 27) rfl ?_); refine goesL_ (some 19) rfl rfl Try.func27 (by kernel_rfl) rfl #[.agg #[.int .i64 a0_0, .slice A0_1 l0_1.length c0_1, .slice A0_2 l0_2.length c0_2], .slice A1 l1.length c1, .slice Ao22 y691.length co22] rfl Z.ar ?_; (with_reducible refine (spec_AfterActs.calls k a0_0 _ _ l0_1 _ _ l0_2 _ _ l1 _ _ y691 t694 t697 _ ?q1 ?q2 ?q3 ?q4 ?q5 ?q6 ?q7 ?q8 A5.out).mono ?_); (case q1 => exact Z.cc HR0_1 HB); (case q2 => exact HC0_1.out); (case q3 => exact Z.cc HR0_2 HB); (case q4 => exact HC0_2.out); (case q5 => exact Z.cc HR1 HB); (case q6 => exact HC1.out); (case q7 => repeat (exact (Kd.R_reads' HO693.out).2.2)); (case q8 => exact (Kd.R_reads' HO693.out).2.1); rintro e w23 ⟨v695, rfl, ho0, hb⟩; refine ⟨_, rfl, ?_⟩; replace HO693 := Aside0.mk (Kd.R_below (by (with_reducible skip); exact HO693.out) hb); have HO696 := Aside0.mk (Kd.R_lower ho0 (below_size (by repeat ((with_reducible exact HB.out))))); replace BK688 := Z.bb BK688 hb; replace BK689 := Z.bb BK689 hb; replace BK690 := Z.bb BK690 hb; replace HB := Aside0.mk (below_step (by repeat ((with_reducible exact HB.out))) hb); (try clear hb); (try clear ho0); have hcz24 := Z.c3 BK688.out; have hcz25 := Z.c3 BK690.out; have hcz26 := Z.c3 BK689.out) | ((with_reducible refine gate_dst (N := 27) rfl ?_); refine Kd.R_lit k53 _ 53 ?hg (N := 27) ?hd (xs := ([(⟨a3_0, a3_1, a3_2⟩ : S53), (⟨a2_0, a2_1, a2_2⟩ : S53)] : List (S53))) (inner := [.int .i64 a3_0, .int .i64 a3_1, .int .i64 a3_2, .int .i64 a2_0, .int .i64 a2_1, .int .i64 a2_2]) (ok := fun _ => True) (okp := fun _ => True) ?hr ?hp (fun _ hk => hk) trivial (Below.refl _ _) (Nat.le_refl _) (by simp) ?_; (case hd | hg => rfl); (case hr => (go_simp; done)); (case hp => exact (Reps.c3 (show Kd.M k53 _ _ _ (⟨a3_0, a3_1, a3_2⟩ : S53) [.int .i64 a3_0, .int .i64 a3_1, .int .i64 a3_2] from (k53_mkM _ _ _ (⟨a3_0, a3_1, a3_2⟩ : S53) )) (Reps.c3 (show Kd.M k53 _ _ _ (⟨a2_0, a2_1, a2_2⟩ : S53) [.int .i64 a2_0, .int .i64 a2_1, .int .i64 a2_2] from (k53_mkM _ _ _ (⟨a2_0, a2_1, a2_2⟩ : S53) )) (Reps.none _ _)))); intro v699 w27 ho28 hb hg_ hnew_; clear hg_ hnew_; (rw [← Ny698.out] at ho28); replace HO696 := Aside0.mk (Kd.R_below (by (with_reducible skip); exact HO696.out) hb); have HO700 := Aside0.mk (Kd.R_lower (Kd.R_newB (Kd.R_newB (Kd.R_new' ho28 (Kd.R_lt (by (with_reducible skip); exact HO693.out))) (g := gb689) (o := .cells #[.int .i64 a2_0, .int .i64 a2_1, .int .i64 a2_2] 53 (0, 0)) (Z.bk BK689.out)) (g := gb690) (o := .cells #[.int .i64 a3_0, .int .i64 a3_1, .int .i64 a3_2] 53 (0, 0)) (Z.bk BK690.out)) (below_size (by repeat ((with_reducible exact HB.out))))); replace HO693 := Aside0.mk (Kd.R_elder' (by (with_reducible skip); exact HO693.out) (Kd.R_base ho28) hb); replace BK688 := Z.bb BK688 hb; replace BK689 := Z.bb BK689 hb; replace BK690 := Z.bb BK690 hb; replace HB := Aside0.mk (below_step (by repeat ((with_reducible exact HB.out))) hb); clear hb ho28; obtain ⟨Ao29, co29, eo29⟩ := Kd.R_slice HO700.out; subst eo29) | ((with_reducible refine gate_callee (f := 27) rfl ?_); refine goesL_ (some 28) rfl rfl Try.func27 (by kernel_rfl) rfl #[.agg #[.int .i64 a0_0, .slice A0_1 l0_1.length c0_1, .slice A0_2 l0_2.length c0_2], .slice A1 l1.length c1, .slice Ao29 y698.length co29] rfl Z.ar ?_; (with_reducible refine (spec_AfterActs.calls k a0_0 _ _ l0_1 _ _ l0_2 _ _ l1 _ _ y698 t701 t704 _ ?q1 ?q2 ?q3 ?q4 ?q5 ?q6 ?q7 ?q8 A6.out).mono ?_); (case q1 => exact Z.cc HR0_1 HB); (case q2 => exact HC0_1.out); (case q3 => exact Z.cc HR0_2 HB); (case q4 => exact HC0_2.out); (case q5 => exact Z.cc HR1 HB); (case q6 => exact HC1.out); (case q7 => repeat (exact (Kd.R_reads' HO700.out).2.2)); (case q8 => exact (Kd.R_reads' HO700.out).2.1); rintro e w30 ⟨v702, rfl, ho0, hb⟩; refine ⟨_, rfl, ?_⟩; replace HO693 := Aside0.mk (Kd.R_below (by (with_reducible skip); exact HO693.out) hb); replace HO700 := Aside0.mk (Kd.R_below (by (with_reducible skip); exact HO700.out) hb); have HO703 := Aside0.mk (Kd.R_lower (Kd.R_new' ho0 (Kd.R_lt (by (with_reducible skip); exact HO696.out))) (below_size (by repeat ((with_reducible exact HB.out))))); replace HO696 := Aside0.mk (Kd.R_elder' (by (with_reducible skip); exact HO696.out) (Kd.R_base ho0) hb); replace BK688 := Z.bb BK688 hb; replace BK689 := Z.bb BK689 hb; replace BK690 := Z.bb BK690 hb; replace HB := Aside0.mk (below_step (by repeat ((with_reducible exact HB.out))) hb); (try clear hb); (try clear ho0); obtain ⟨Ao31, co31, eo31⟩ := Kd.R_slice HO696.out; subst eo31) | (go_at_call 77; (with_reducible refine (spec_l8Code.calls k _ _ t694 t705 _ ?q1 ?q2 A9.out).mono ?_); (case q1 => repeat (exact (Kd.R_reads' HO696.out).2.2)); (case q2 => exact (Kd.R_reads' HO696.out).2.1); rintro e w' ⟨rfl, ⟨nd, rfl⟩⟩; obtain ⟨Ao32, co32, eo32⟩ := Kd.R_slice HO703.out; subst eo32) | (go_at_call 77; (with_reducible refine (spec_l8Code.calls k _ _ t701 t706 _ ?q1 ?q2 A10.out).mono ?_); (case q1 => repeat (exact (Kd.R_reads' HO703.out).2.2)); (case q2 => exact (Kd.R_reads' HO703.out).2.1); rintro e w' ⟨rfl, ⟨nd, rfl⟩⟩))
   go_ret
   exact ⟨by rfl, by repeat ((with_reducible first | exact HB.out | apply pw_below_drewN))⟩
  ·rw [if_neg c8] at H
   have c8b0 : (t704 == 2) = false := beq_eq_false_iff_ne.mpr c8
   have c8b1 : (t704 != 2) = true := bne_iff_ne.mpr c8
   obtain rfl := Option.some.inj H
   go_enter Try.func39, Try.ntmps39
   go_wp2_with (first | ((with_reducible refine gate_dst (N := 4) rfl ?_); refine Z.bx #[.int .i64 a0_0, .slice A0_1 l0_1.length c0_1, .slice A0_2 l0_2.length c0_2] 35 HB ?_; clear HB; intro gb688 w33 BK688 GE688 HB hg hb; have GW688 := GE688; clear hb hg) | ((with_reducible refine gate_dst (N := 6) rfl ?_); refine Z.bz #[.int .i64 a2_0, .int .i64 a2_1, .int .i64 a2_2] 53 HB GE688 ?_; clear HB; intro gb689 w34 BK689 GE689 HB hg hb; have GW689 := GE689; have NB688_689 := Z.nl hg BK688; have NB689_688 := Z.ng hg BK688; replace BK688 := Z.bb BK688 hb; clear hb hg) | ((with_reducible refine gate_dst (N := 7) rfl ?_); refine box_event ?hg (N := 7) ?hd (cs := #[.int .i64 a3_0, .int .i64 a3_1, .int .i64 a3_2]) (t := 53) ?hr ?_; (case hd | hg => rfl); (case hr => (go_simp; done)); intro gb690 hg w35 hbox hb; have BK690 := Aside0.mk (hbox); have GW690 := Aside0.mk ((by rw [hg]; exact (below_size (by repeat ((with_reducible exact HB.out)))) : w.heap.size ≤ gb690)); have GE690 := Aside0.mk ((by rw [hg]; exact (below_size (by repeat ((with_reducible exact HB.out)))) : w.heap.size ≤ gb690)); replace HB := Aside0.mk (below_step (by repeat ((with_reducible exact HB.out))) hb); have NB688_690 := Z.nl hg BK688; have NB690_688 := Z.ng hg BK688; replace BK688 := Z.bb BK688 hb; have NB689_690 := Z.nl hg BK689; have NB690_689 := Z.ng hg BK689; replace BK689 := Z.bb BK689 hb; clear hb hbox hg; have hnb36 := NB688_689.out; have hnc36 := NB689_688.out; have hnb37 := NB688_690.out; have hnc37 := NB690_688.out; have hcz38 := Z.c3 BK688.out; have hnb39 := NB689_690.out; have hnc39 := NB690_689.out; have hcz40 := Z.c3 BK689.out; have hcz41 := Z.c3 BK690.out) | ((with_reducible refine gate_dst (N := 18) rfl ?_); refine Kd.R_lit k53 _ 53 ?hg (N := 18) ?hd (xs := ([(⟨a2_0, a2_1, a2_2⟩ : S53), (⟨a3_0, a3_1, a3_2⟩ : S53)] : List (S53))) (inner := [.int .i64 a2_0, .int .i64 a2_1, .int .i64 a2_2, .int .i64 a3_0, .int .i64 a3_1, .int .i64 a3_2]) (ok := fun _ => True) (okp := fun _ => True) ?hr ?hp (fun _ hk => hk) trivial (Below.refl _ _) (Nat.le_refl _) (by simp) ?_; (case hd | hg => rfl); (case hr => (go_simp; done)); (case hp => exact (Reps.c3 (show Kd.M k53 _ _ _ (⟨a2_0, a2_1, a2_2⟩ : S53) [.int .i64 a2_0, .int .i64 a2_1, .int .i64 a2_2] from (k53_mkM _ _ _ (⟨a2_0, a2_1, a2_2⟩ : S53) )) (Reps.c3 (show Kd.M k53 _ _ _ (⟨a3_0, a3_1, a3_2⟩ : S53) [.int .i64 a3_0, .int .i64 a3_1, .int .i64 a3_2] from (k53_mkM _ _ _ (⟨a3_0, a3_1, a3_2⟩ : S53) )) (Reps.none _ _)))); intro v692 w42 ho43 hb hg_ hnew_; clear hg_ hnew_; (rw [← Ny691.out] at ho43); have HO693 := Aside0.mk (Kd.R_lower (Kd.R_newB (Kd.R_newB ho43 (g := gb689) (o := .cells #[.int .i64 a2_0, .int .i64 a2_1, .int .i64 a2_2] 53 (0, 0)) (Z.bk BK689.out)) (g := gb690) (o := .cells #[.int .i64 a3_0, .int .i64 a3_1, .int .i64 a3_2] 53 (0, 0)) (Z.bk BK690.out)) (below_size (by repeat ((with_reducible exact HB.out))))); replace BK688 := Z.bb BK688 hb; replace BK689 := Z.bb BK689 hb; replace BK690 := Z.bb BK690 hb; replace HB := Aside0.mk (below_step (by repeat ((with_reducible exact HB.out))) hb); clear hb ho43; obtain ⟨Ao44, co44, eo44⟩ := Kd.R_slice HO693.out; subst eo44) | ((with_reducible refine gate_callee (f := 27) rfl ?_); refine goesL_ (some 19) rfl rfl Try.func27 (by kernel_rfl) rfl #[.agg #[.int .i64 a0_0, .slice A0_1 l0_1.length c0_1, .slice A0_2 l0_2.length c0_2], .slice A1 l1.length c1, .slice Ao44 y691.length co44] rfl Z.ar ?_; (with_reducible refine (spec_AfterActs.calls k a0_0 _ _ l0_1 _ _ l0_2 _ _ l1 _ _ y691 t694 t697 _ ?q1 ?q2 ?q3 ?q4 ?q5 ?q6 ?q7 ?q8 A5.out).mono ?_); (case q1 => exact Z.cc HR0_1 HB); (case q2 => exact HC0_1.out); (case q3 => exact Z.cc HR0_2 HB); (case q4 => exact HC0_2.out); (case q5 => exact Z.cc HR1 HB); (case q6 => exact HC1.out); (case q7 => repeat (exact (Kd.R_reads' HO693.out).2.2)); (case q8 => exact (Kd.R_reads' HO693.out).2.1); rintro e w45 ⟨v695, rfl, ho0, hb⟩; refine ⟨_, rfl, ?_⟩; replace HO693 := Aside0.mk (Kd.R_below (by (with_reducible skip); exact HO693.out) hb); have HO696 := Aside0.mk (Kd.R_lower ho0 (below_size (by repeat ((with_reducible exact HB.out))))); replace BK688 := Z.bb BK688 hb; replace BK689 := Z.bb BK689 hb; replace BK690 := Z.bb BK690 hb; replace HB := Aside0.mk (below_step (by repeat ((with_reducible exact HB.out))) hb); (try clear hb); (try clear ho0); have hcz46 := Z.c3 BK688.out; have hcz47 := Z.c3 BK690.out; have hcz48 := Z.c3 BK689.out) | ((with_reducible refine gate_dst (N := 27) rfl ?_); refine Kd.R_lit k53 _ 53 ?hg (N := 27) ?hd (xs := ([(⟨a3_0, a3_1, a3_2⟩ : S53), (⟨a2_0, a2_1, a2_2⟩ : S53)] : List (S53))) (inner := [.int .i64 a3_0, .int .i64 a3_1, .int .i64 a3_2, .int .i64 a2_0, .int .i64 a2_1, .int .i64 a2_2]) (ok := fun _ => True) (okp := fun _ => True) ?hr ?hp (fun _ hk => hk) trivial (Below.refl _ _) (Nat.le_refl _) (by simp) ?_; (case hd | hg => rfl); (case hr => (go_simp; done)); (case hp => exact (Reps.c3 (show Kd.M k53 _ _ _ (⟨a3_0, a3_1, a3_2⟩ : S53) [.int .i64 a3_0, .int .i64 a3_1, .int .i64 a3_2] from (k53_mkM _ _ _ (⟨a3_0, a3_1, a3_2⟩ : S53) )) (Reps.c3 (show Kd.M k53 _ _ _ (⟨a2_0, a2_1, a2_2⟩ : S53) [.int .i64 a2_0, .int .i64 a2_1, .int .i64 a2_2] from (k53_mkM _ _ _ (⟨a2_0, a2_1, a2_2⟩ : S53) )) (Reps.none _ _)))); intro v699 w49 ho50 hb hg_ hnew_; clear hg_ hnew_; (rw [← Ny698.out] at ho50); replace HO696 := Aside0.mk (Kd.R_below (by (with_reducible skip); exact HO696.out) hb); have HO700 := Aside0.mk (Kd.R_lower (Kd.R_newB (Kd.R_newB (Kd.R_new' ho50 (Kd.R_lt (by (with_reducible skip); exact HO693.out))) (g := gb689) (o := .cells #[.int .i64 a2_0, .int .i64 a2_1, .int .i64 a2_2] 53 (0, 0)) (Z.bk BK689.out)) (g := gb690) (o := .cells #[.int .i64 a3_0, .int .i64 a3_1, .int .i64 a3_2] 53 (0, 0)) (Z.bk BK690.out)) (below_size (by repeat ((with_reducible exact HB.out))))); replace HO693 := Aside0.mk (Kd.R_elder' (by (with_reducible skip); exact HO693.out) (Kd.R_base ho50) hb); replace BK688 := Z.bb BK688 hb; replace BK689 := Z.bb BK689 hb; replace BK690 := Z.bb BK690 hb; replace HB := Aside0.mk (below_step (by repeat ((with_reducible exact HB.out))) hb); clear hb ho50; obtain ⟨Ao51, co51, eo51⟩ := Kd.R_slice HO700.out; subst eo51) | ((with_reducible refine gate_callee (f := 27) rfl ?_); refine goesL_ (some 28) rfl rfl Try.func27 (by kernel_rfl) rfl #[.agg #[.int .i64 a0_0, .slice A0_1 l0_1.length c0_1, .slice A0_2 l0_2.length c0_2], .slice A1 l1.length c1, .slice Ao51 y698.length co51] rfl Z.ar ?_; (with_reducible refine (spec_AfterActs.calls k a0_0 _ _ l0_1 _ _ l0_2 _ _ l1 _ _ y698 t701 t704 _ ?q1 ?q2 ?q3 ?q4 ?q5 ?q6 ?q7 ?q8 A6.out).mono ?_); (case q1 => exact Z.cc HR0_1 HB); (case q2 => exact HC0_1.out); (case q3 => exact Z.cc HR0_2 HB); (case q4 => exact HC0_2.out); (case q5 => exact Z.cc HR1 HB); (case q6 => exact HC1.out); (case q7 => repeat (exact (Kd.R_reads' HO700.out).2.2)); (case q8 => exact (Kd.R_reads' HO700.out).2.1); rintro e w52 ⟨v702, rfl, ho0, hb⟩; refine ⟨_, rfl, ?_⟩; replace HO693 := Aside0.mk (Kd.R_below (by (with_reducible skip); exact HO693.out) hb); replace HO700 := Aside0.mk (Kd.R_below (by (with_reducible skip); exact HO700.out) hb); have HO703 := Aside0.mk (Kd.R_lower (Kd.R_new' ho0 (Kd.R_lt (by (with_reducible skip); exact HO696.out))) (below_size (by repeat ((with_reducible exact HB.out))))); replace HO696 := Aside0.mk (Kd.R_elder' (by (with_reducible skip); exact HO696.out) (Kd.R_base ho0) hb); replace BK688 := Z.bb BK688 hb; replace BK689 := Z.bb BK689 hb; replace BK690 := Z.bb BK690 hb; replace HB := Aside0.mk (below_step (by repeat ((with_reducible exact HB.out))) hb); (try clear hb); (try clear ho0)))
   go_ret
   exact ⟨by rfl, by repeat ((with_reducible exact HB.out))⟩
 ·rw [if_neg c7] at H
  have c7b0 : (t697 == 2) = false := beq_eq_false_iff_ne.mpr c7
  have c7b1 : (t697 != 2) = true := bne_iff_ne.mpr c7
  obtain rfl := Option.some.inj H
  go_enter Try.func39, Try.ntmps39
  go_wp2_with (first | ((with_reducible refine gate_dst (N := 4) rfl ?_); refine Z.bx #[.int .i64 a0_0, .slice A0_1 l0_1.length c0_1, .slice A0_2 l0_2.length c0_2] 35 HB ?_; clear HB; intro gb688 w53 BK688 GE688 HB hg hb; have GW688 := GE688; clear hb hg) | ((with_reducible refine gate_dst (N := 6) rfl ?_); refine Z.bz #[.int .i64 a2_0, .int .i64 a2_1, .int .i64 a2_2] 53 HB GE688 ?_; clear HB; intro gb689 w54 BK689 GE689 HB hg hb; have GW689 := GE689; have NB688_689 := Z.nl hg BK688; have NB689_688 := Z.ng hg BK688; replace BK688 := Z.bb BK688 hb; clear hb hg) | ((with_reducible refine gate_dst (N := 7) rfl ?_); refine box_event ?hg (N := 7) ?hd (cs := #[.int .i64 a3_0, .int .i64 a3_1, .int .i64 a3_2]) (t := 53) ?hr ?_; (case hd | hg => rfl); (case hr => (go_simp; done)); intro gb690 hg w55 hbox hb; have BK690 := Aside0.mk (hbox); have GW690 := Aside0.mk ((by rw [hg]; exact (below_size (by repeat ((with_reducible exact HB.out)))) : w.heap.size ≤ gb690)); have GE690 := Aside0.mk ((by rw [hg]; exact (below_size (by repeat ((with_reducible exact HB.out)))) : w.heap.size ≤ gb690)); replace HB := Aside0.mk (below_step (by repeat ((with_reducible exact HB.out))) hb); have NB688_690 := Z.nl hg BK688; have NB690_688 := Z.ng hg BK688; replace BK688 := Z.bb BK688 hb; have NB689_690 := Z.nl hg BK689; have NB690_689 := Z.ng hg BK689; replace BK689 := Z.bb BK689 hb; clear hb hbox hg; have hnb56 := NB688_689.out; have hnc56 := NB689_688.out; have hnb57 := NB688_690.out; have hnc57 := NB690_688.out; have hcz58 := Z.c3 BK688.out; have hnb59 := NB689_690.out; have hnc59 := NB690_689.out; have hcz60 := Z.c3 BK689.out; have hcz61 := Z.c3 BK690.out) | ((with_reducible refine gate_dst (N := 18) rfl ?_); refine Kd.R_lit k53 _ 53 ?hg (N := 18) ?hd (xs := ([(⟨a2_0, a2_1, a2_2⟩ : S53), (⟨a3_0, a3_1, a3_2⟩ : S53)] : List (S53))) (inner := [.int .i64 a2_0, .int .i64 a2_1, .int .i64 a2_2, .int .i64 a3_0, .int .i64 a3_1, .int .i64 a3_2]) (ok := fun _ => True) (okp := fun _ => True) ?hr ?hp (fun _ hk => hk) trivial (Below.refl _ _) (Nat.le_refl _) (by simp) ?_; (case hd | hg => rfl); (case hr => (go_simp; done)); (case hp => exact (Reps.c3 (show Kd.M k53 _ _ _ (⟨a2_0, a2_1, a2_2⟩ : S53) [.int .i64 a2_0, .int .i64 a2_1, .int .i64 a2_2] from (k53_mkM _ _ _ (⟨a2_0, a2_1, a2_2⟩ : S53) )) (Reps.c3 (show Kd.M k53 _ _ _ (⟨a3_0, a3_1, a3_2⟩ : S53) [.int .i64 a3_0, .int .i64 a3_1, .int .i64 a3_2] from (k53_mkM _ _ _ (⟨a3_0, a3_1, a3_2⟩ : S53) )) (Reps.none _ _)))); intro v692 w62 ho63 hb hg_ hnew_; clear hg_ hnew_; (rw [← Ny691.out] at ho63); have HO693 := Aside0.mk (Kd.R_lower (Kd.R_newB (Kd.R_newB ho63 (g := gb689) (o := .cells #[.int .i64 a2_0, .int .i64 a2_1, .int .i64 a2_2] 53 (0, 0)) (Z.bk BK689.out)) (g := gb690) (o := .cells #[.int .i64 a3_0, .int .i64 a3_1, .int .i64 a3_2] 53 (0, 0)) (Z.bk BK690.out)) (below_size (by repeat ((with_reducible exact HB.out))))); replace BK688 := Z.bb BK688 hb; replace BK689 := Z.bb BK689 hb; replace BK690 := Z.bb BK690 hb; replace HB := Aside0.mk (below_step (by repeat ((with_reducible exact HB.out))) hb); clear hb ho63; obtain ⟨Ao64, co64, eo64⟩ := Kd.R_slice HO693.out; subst eo64) | ((with_reducible refine gate_callee (f := 27) rfl ?_); refine goesL_ (some 19) rfl rfl Try.func27 (by kernel_rfl) rfl #[.agg #[.int .i64 a0_0, .slice A0_1 l0_1.length c0_1, .slice A0_2 l0_2.length c0_2], .slice A1 l1.length c1, .slice Ao64 y691.length co64] rfl Z.ar ?_; (with_reducible refine (spec_AfterActs.calls k a0_0 _ _ l0_1 _ _ l0_2 _ _ l1 _ _ y691 t694 t697 _ ?q1 ?q2 ?q3 ?q4 ?q5 ?q6 ?q7 ?q8 A5.out).mono ?_); (case q1 => exact Z.cc HR0_1 HB); (case q2 => exact HC0_1.out); (case q3 => exact Z.cc HR0_2 HB); (case q4 => exact HC0_2.out); (case q5 => exact Z.cc HR1 HB); (case q6 => exact HC1.out); (case q7 => repeat (exact (Kd.R_reads' HO693.out).2.2)); (case q8 => exact (Kd.R_reads' HO693.out).2.1); rintro e w65 ⟨v695, rfl, ho0, hb⟩; refine ⟨_, rfl, ?_⟩; replace HO693 := Aside0.mk (Kd.R_below (by (with_reducible skip); exact HO693.out) hb); have HO696 := Aside0.mk (Kd.R_lower ho0 (below_size (by repeat ((with_reducible exact HB.out))))); replace BK688 := Z.bb BK688 hb; replace BK689 := Z.bb BK689 hb; replace BK690 := Z.bb BK690 hb; replace HB := Aside0.mk (below_step (by repeat ((with_reducible exact HB.out))) hb); (try clear hb); (try clear ho0); have hcz66 := Z.c3 BK688.out; have hcz67 := Z.c3 BK690.out; have hcz68 := Z.c3 BK689.out) | ((with_reducible refine gate_dst (N := 27) rfl ?_); refine Kd.R_lit k53 _ 53 ?hg (N := 27) ?hd (xs := ([(⟨a3_0, a3_1, a3_2⟩ : S53), (⟨a2_0, a2_1, a2_2⟩ : S53)] : List (S53))) (inner := [.int .i64 a3_0, .int .i64 a3_1, .int .i64 a3_2, .int .i64 a2_0, .int .i64 a2_1, .int .i64 a2_2]) (ok := fun _ => True) (okp := fun _ => True) ?hr ?hp (fun _ hk => hk) trivial (Below.refl _ _) (Nat.le_refl _) (by simp) ?_; (case hd | hg => rfl); (case hr => (go_simp; done)); (case hp => exact (Reps.c3 (show Kd.M k53 _ _ _ (⟨a3_0, a3_1, a3_2⟩ : S53) [.int .i64 a3_0, .int .i64 a3_1, .int .i64 a3_2] from (k53_mkM _ _ _ (⟨a3_0, a3_1, a3_2⟩ : S53) )) (Reps.c3 (show Kd.M k53 _ _ _ (⟨a2_0, a2_1, a2_2⟩ : S53) [.int .i64 a2_0, .int .i64 a2_1, .int .i64 a2_2] from (k53_mkM _ _ _ (⟨a2_0, a2_1, a2_2⟩ : S53) )) (Reps.none _ _)))); intro v699 w69 ho70 hb hg_ hnew_; clear hg_ hnew_; (rw [← Ny698.out] at ho70); replace HO696 := Aside0.mk (Kd.R_below (by (with_reducible skip); exact HO696.out) hb); have HO700 := Aside0.mk (Kd.R_lower (Kd.R_newB (Kd.R_newB (Kd.R_new' ho70 (Kd.R_lt (by (with_reducible skip); exact HO693.out))) (g := gb689) (o := .cells #[.int .i64 a2_0, .int .i64 a2_1, .int .i64 a2_2] 53 (0, 0)) (Z.bk BK689.out)) (g := gb690) (o := .cells #[.int .i64 a3_0, .int .i64 a3_1, .int .i64 a3_2] 53 (0, 0)) (Z.bk BK690.out)) (below_size (by repeat ((with_reducible exact HB.out))))); replace HO693 := Aside0.mk (Kd.R_elder' (by (with_reducible skip); exact HO693.out) (Kd.R_base ho70) hb); replace BK688 := Z.bb BK688 hb; replace BK689 := Z.bb BK689 hb; replace BK690 := Z.bb BK690 hb; replace HB := Aside0.mk (below_step (by repeat ((with_reducible exact HB.out))) hb); clear hb ho70; obtain ⟨Ao71, co71, eo71⟩ := Kd.R_slice HO700.out; subst eo71) | ((with_reducible refine gate_callee (f := 27) rfl ?_); refine goesL_ (some 28) rfl rfl Try.func27 (by kernel_rfl) rfl #[.agg #[.int .i64 a0_0, .slice A0_1 l0_1.length c0_1, .slice A0_2 l0_2.length c0_2], .slice A1 l1.length c1, .slice Ao71 y698.length co71] rfl Z.ar ?_; (with_reducible refine (spec_AfterActs.calls k a0_0 _ _ l0_1 _ _ l0_2 _ _ l1 _ _ y698 t701 t704 _ ?q1 ?q2 ?q3 ?q4 ?q5 ?q6 ?q7 ?q8 A6.out).mono ?_); (case q1 => exact Z.cc HR0_1 HB); (case q2 => exact HC0_1.out); (case q3 => exact Z.cc HR0_2 HB); (case q4 => exact HC0_2.out); (case q5 => exact Z.cc HR1 HB); (case q6 => exact HC1.out); (case q7 => repeat (exact (Kd.R_reads' HO700.out).2.2)); (case q8 => exact (Kd.R_reads' HO700.out).2.1); rintro e w72 ⟨v702, rfl, ho0, hb⟩; refine ⟨_, rfl, ?_⟩; replace HO693 := Aside0.mk (Kd.R_below (by (with_reducible skip); exact HO693.out) hb); replace HO700 := Aside0.mk (Kd.R_below (by (with_reducible skip); exact HO700.out) hb); have HO703 := Aside0.mk (Kd.R_lower (Kd.R_new' ho0 (Kd.R_lt (by (with_reducible skip); exact HO696.out))) (below_size (by repeat ((with_reducible exact HB.out))))); replace HO696 := Aside0.mk (Kd.R_elder' (by (with_reducible skip); exact HO696.out) (Kd.R_base ho0) hb); replace BK688 := Z.bb BK688 hb; replace BK689 := Z.bb BK689 hb; replace BK690 := Z.bb BK690 hb; replace HB := Aside0.mk (below_step (by repeat ((with_reducible exact HB.out))) hb); (try clear hb); (try clear ho0)))
  go_ret
  exact ⟨by rfl, by repeat ((with_reducible exact HB.out))⟩

/-! ### slices_Equal_int_int: function 78 -/
def slices_Equal_int_int.l0 : Nat → List Int → List Int → Int → Int → Option (Bool)
 | 0, _, _, _, _ => none
 | k + 1, x0, x1, x12, x13 => if x13 < x12 then (if 0 ≤ x13 then (if x13 < (x0.length : Int) then (if x13 < (x1.length : Int) then (if (rd x0 x13) = (rd x1 x13) then (slices_Equal_int_int.l0 k x0 x1 x12 (wrap64 (x13 + 1))) else (some false)) else (none)) else (none)) else (none)) else (some true)
def slices_Equal_int_int.f (k : Nat) (l0 : List Int) (l1 : List Int) : Option (Bool) := if (l0.length : Int) = (l1.length : Int) then (slices_Equal_int_int.l0 k l0 l1 (l0.length : Int) 0) else (some false)
theorem slices_Equal_int_int.mono_l : ∀ k, (∀ y0 y1 y2 y3, LeO (slices_Equal_int_int.l0 k y0 y1 y2 y3) (slices_Equal_int_int.l0 (k + 1) y0 y1 y2 y3))
 | 0 => fun _ _ _ _ r h => by simp [slices_Equal_int_int.l0] at h
 | k + 1 => by
  have ih0 := slices_Equal_int_int.mono_l k
  ·intro y0 y1 y2 y3
   unfold slices_Equal_int_int.l0
   repeat' first
   | (with_reducible exact LeO.refl _)
   | exact ih0 _ _ _ _
   | exact LeO.none _
   | refine LeO.ite ?_ ?_
   | refine LeO.bind ?_ (fun _ => ?_)
theorem slices_Equal_int_int.mono : ∀ a0 a1 k, LeO (slices_Equal_int_int.f k a0 a1) (slices_Equal_int_int.f (k + 1) a0 a1) := by
 intro a0 a1 k
 have ih0 := slices_Equal_int_int.mono_l k
 unfold slices_Equal_int_int.f
 repeat' first
   | (with_reducible exact LeO.refl _)
   | exact ih0 _ _ _ _
   | exact LeO.none _
   | refine LeO.ite ?_ ?_
   | refine LeO.bind ?_ (fun _ => ?_)
set_option maxHeartbeats 8000000 in
set_option maxRecDepth 100000 in
theorem slices_Equal_int_int.calls (k : Nat) (A0 : Option Addr) (c0 : Nat) (l0 : List Int) (A1 : Option Addr) (c1 : Nat) (l1 : List Int) (r : Bool) (w : World) (hr0 : Kd.C (Kd.int .i64) w A0 l0.length l0) (hc0 : l0.length ≤ c0) (hr1 : Kd.C (Kd.int .i64) w A1 l1.length l1) (hc1 : l1.length ≤ c1) (h : slices_Equal_int_int.f k l0 l1 = some r) :
  Calls Try.prog 78 #[.slice A0 l0.length c0, .slice A1 l1.length c1] w fun e w' => e = .returned (.bool r) ∧ Drawn0 w w' := by
 have HR0 := Aside0.mk hr0
 have HC0 := Aside0.mk hc0
 clear hr0 hc0
 have HR1 := Aside0.mk hr1
 have HC1 := Aside0.mk hc1
 clear hr1 hc1
 have H := h
 clear h
 unfold slices_Equal_int_int.f at H
 by_cases c3 : (l0.length : Int) = (l1.length : Int)
 ·rw [if_pos c3] at H
  have c3b0 : ((l0.length : Int) == (l1.length : Int)) = true := beq_iff_eq.mpr c3
  have c3b1 : ((l0.length : Int) != (l1.length : Int)) = false := bne_eq_false_iff_eq.mpr c3
  have c3b2 : (l0.length == l1.length) = true := by (simp at c3 ⊢; omega)
  clear c3
  have H' := Aside0.mk H
  clear H
  go_enter Try.func78, Try.ntmps78
  go_wp2
  go_loopg [13] k (fun kq v13 w' => ∃ (x13_1 : Int), v13 = .int .i64 x13_1 ∧ Aside0 (slices_Equal_int_int.l0 kq l0 l1 (l0.length : Int) x13_1 = some r) ∧ Aside0 (kq ≤ k) ∧ Drawn0 w w')
  case atStart => exact ⟨(0), (by rfl), H', ⟨Nat.le_refl _⟩, by repeat (exact Drawn0.refl _)⟩
  case round =>
   clear H'
   try clear c3b0
   try clear c3b1
   try clear c3b2
   obtain ⟨x13_1, rfl, HA, HK1, ⟨m1, rfl⟩⟩ := hrel
   cases gk with
   | zero => exact absurd HA.out (by simp [slices_Equal_int_int.l0])
   | succ k1 =>
    have H := HA.out
    clear HA
    simp only [slices_Equal_int_int.l0] at H
    by_cases c4 : x13_1 < (l0.length : Int)
    ·rw [if_pos c4] at H
     have c4b0 := decide_eq_true c4
     clear c4
     obtain ⟨c5, H⟩ := Z.ifp H
     have c5b0 : decide (0 ≤ x13_1) = true := decide_eq_true c5
     clear c5
     obtain ⟨c6, H⟩ := Z.ifp H
     have c6b0 : decide (x13_1 < (l0.length : Int)) = true := decide_eq_true c6
     clear c6
     obtain ⟨c7, H⟩ := Z.ifp H
     have c7b0 : decide (x13_1 < (l1.length : Int)) = true := decide_eq_true c7
     clear c7
     by_cases c8 : (rd l0 x13_1) = (rd l1 x13_1)
     ·rw [if_pos c8] at H
      have c8b0 : ((rd l0 x13_1) == (rd l1 x13_1)) = true := beq_iff_eq.mpr c8
      have c8b1 : ((rd l0 x13_1) != (rd l1 x13_1)) = false := bne_eq_false_iff_eq.mpr c8
      clear c8
      have H' := Aside0.mk H
      clear H
      have p707 : 0 ≤ (x13_1 : Int) := Z.od
      have q707 : x13_1 < (l0.length : Int) := Z.od
      obtain ⟨ad707, rfl, hx707_0⟩ := Kd.at_int HR0.out x13_1 p707 q707
      replace p707 := eq_true p707
      replace q707 := eq_true q707
      have p708 : 0 ≤ (x13_1 : Int) := Z.od
      have q708 : x13_1 < (l1.length : Int) := Z.od
      obtain ⟨ad708, rfl, hx708_0⟩ := Kd.at_int HR1.out x13_1 p708 q708
      replace p708 := eq_true p708
      replace q708 := eq_true q708
      go_wp2
      repeat (go_quiet (fail); try go_wp2)
      go_roundg k1
      case measure => have := HK1.out; omega
      case rel => exact ⟨(wrap64 (x13_1 + 1)), (by rfl), H', ⟨by have := HK1.out; omega⟩, by repeat (first | exact Drawn0.refl _ | apply Drawn0.step)⟩
     ·rw [if_neg c8] at H
      have c8b0 : ((rd l0 x13_1) == (rd l1 x13_1)) = false := beq_eq_false_iff_ne.mpr c8
      have c8b1 : ((rd l0 x13_1) != (rd l1 x13_1)) = true := bne_iff_ne.mpr c8
      obtain rfl := Option.some.inj H
      have p707 : 0 ≤ (x13_1 : Int) := Z.od
      have q707 : x13_1 < (l0.length : Int) := Z.od
      obtain ⟨ad707, rfl, hx707_0⟩ := Kd.at_int HR0.out x13_1 p707 q707
      replace p707 := eq_true p707
      replace q707 := eq_true q707
      have p708 : 0 ≤ (x13_1 : Int) := Z.od
      have q708 : x13_1 < (l1.length : Int) := Z.od
      obtain ⟨ad708, rfl, hx708_0⟩ := Kd.at_int HR1.out x13_1 p708 q708
      replace p708 := eq_true p708
      replace q708 := eq_true q708
      go_wp2
      repeat (go_quiet (fail); try go_wp2)
      go_ret
      exact ⟨by rfl, by repeat (first | exact Drawn0.refl _ | apply Drawn0.step)⟩
    ·rw [if_neg c4] at H
     have c4b0 := decide_eq_false c4
     clear c4
     obtain rfl := Option.some.inj H
     go_wp2
     go_ret
     exact ⟨by rfl, by repeat (first | exact Drawn0.refl _ | apply Drawn0.step)⟩
 ·rw [if_neg c3] at H
  have c3b0 : ((l0.length : Int) == (l1.length : Int)) = false := beq_eq_false_iff_ne.mpr c3
  have c3b1 : ((l0.length : Int) != (l1.length : Int)) = true := bne_iff_ne.mpr c3
  have c3b2 : (l0.length == l1.length) = false := by (simp at c3 ⊢; omega)
  obtain rfl := Option.some.inj H
  go_enter Try.func78, Try.ntmps78
  go_wp2
  go_ret
  exact ⟨by rfl, by repeat (exact Drawn0.refl _)⟩

/-! ### impl_EitherOrder: function 40 -/
def impl_EitherOrder.f (k : Nat) (a0_0 : Int) (l0_1 : List Int) (l0_2 : List (List (S86))) (l1 : List Int) (a2_0 : Int) (a2_1 : Int) (a2_2 : Int) (a3_0 : Int) (a3_1 : Int) (a3_2 : Int) : Option (Bool) := (impl_isState.f k a0_0 l0_1 l0_2 l1).bind fun t712 => (if t712 = true then ((impl_AfterActs.f k a0_0 l0_1 l0_2 l1 (([(⟨a2_0, a2_1, a2_2⟩ : S53), (⟨a3_0, a3_1, a3_2⟩ : S53)] : List (S53)))).bind fun bt716 => ((impl_AfterActs.f k a0_0 l0_1 l0_2 l1 (([(⟨a3_0, a3_1, a3_2⟩ : S53), (⟨a2_0, a2_1, a2_2⟩ : S53)] : List (S53)))).bind fun bt723 => (if bt716.2 = 2 then (if bt723.2 = 2 then ((slices_Equal_int_int.f k bt716.1 bt723.1).bind fun t727 => (some t727)) else (some false)) else (some false)))) else (some false))
theorem impl_EitherOrder.mono : ∀ a0 a1 a2 a3 a4 a5 a6 a7 a8 a9 k, LeO (impl_EitherOrder.f k a0 a1 a2 a3 a4 a5 a6 a7 a8 a9) (impl_EitherOrder.f (k + 1) a0 a1 a2 a3 a4 a5 a6 a7 a8 a9) := by
 intro a0 a1 a2 a3 a4 a5 a6 a7 a8 a9 k
 unfold impl_EitherOrder.f
 repeat' first
   | (with_reducible exact LeO.refl _)
   | exact impl_AfterActs.mono _ _ _ _ _ _
   | exact impl_isState.mono _ _ _ _ _
   | exact slices_Equal_int_int.mono _ _ _
   | exact LeO.none _
   | refine LeO.ite ?_ ?_
   | refine LeO.bind ?_ (fun _ => ?_)
set_option maxHeartbeats 8000000 in
set_option maxRecDepth 100000 in
theorem impl_EitherOrder.calls (k : Nat) (a0_0 : Int) (A0_1 : Option Addr) (c0_1 : Nat) (l0_1 : List Int) (A0_2 : Option Addr) (c0_2 : Nat) (l0_2 : List (List (S86))) (A1 : Option Addr) (c1 : Nat) (l1 : List Int) (a2_0 : Int) (a2_1 : Int) (a2_2 : Int) (a3_0 : Int) (a3_1 : Int) (a3_2 : Int) (r : Bool) (w : World) (hr0_1 : Kd.C (Kd.int .i64) w A0_1 l0_1.length l0_1) (hc0_1 : l0_1.length ≤ c0_1) (hr0_2 : Kd.C (Kd.slice 86 k86) w A0_2 l0_2.length l0_2) (hc0_2 : l0_2.length ≤ c0_2) (hr1 : Kd.C (Kd.int .i64) w A1 l1.length l1) (hc1 : l1.length ≤ c1) (h : impl_EitherOrder.f k a0_0 l0_1 l0_2 l1 a2_0 a2_1 a2_2 a3_0 a3_1 a3_2 = some r) :
  Calls Try.prog 40 #[.agg #[.int .i64 a0_0, .slice A0_1 l0_1.length c0_1, .slice A0_2 l0_2.length c0_2], .slice A1 l1.length c1, .agg #[.int .i64 a2_0, .int .i64 a2_1, .int .i64 a2_2], .agg #[.int .i64 a3_0, .int .i64 a3_1, .int .i64 a3_2]] w fun e w' => e = .returned (.bool r) ∧ Below w.heap.size w w' := by
 have hu35 := Try.underlying35
 have hu53 := Try.underlying53
 have HR0_1 := Aside0.mk hr0_1
 have HC0_1 := Aside0.mk hc0_1
 clear hr0_1 hc0_1
 have HR0_2 := Aside0.mk hr0_2
 have HC0_2 := Aside0.mk hc0_2
 clear hr0_2 hc0_2
 have HR1 := Aside0.mk hr1
 have HC1 := Aside0.mk hc1
 clear hr1 hc1
 have HB := Aside0.mk (Below.refl w.heap.size w)
 have H := h
 clear h
 unfold impl_EitherOrder.f at H
 replace H := Option.bind_eq_some_iff.mp H
 obtain ⟨t712, A50, H⟩ := H
 have A5 := Aside0.mk A50
 clear A50
 by_cases c6 : t712 = true
 ·subst c6
  rw [if_pos rfl] at H
  obtain ⟨y713, hy713⟩ : ∃ y_ : List (S53), y_ = (([(⟨a2_0, a2_1, a2_2⟩ : S53), (⟨a3_0, a3_1, a3_2⟩ : S53)] : List (S53))) := ⟨_, rfl⟩
  replace H : ((impl_AfterActs.f k a0_0 l0_1 l0_2 l1 y713).bind fun bt716 => ((impl_AfterActs.f k a0_0 l0_1 l0_2 l1 (([(⟨a3_0, a3_1, a3_2⟩ : S53), (⟨a2_0, a2_1, a2_2⟩ : S53)] : List (S53)))).bind fun bt723 => (if bt716.2 = 2 then (if bt723.2 = 2 then ((slices_Equal_int_int.f k bt716.1 bt723.1).bind fun t727 => (some t727)) else (some false)) else (some false)))) = some r := by (rw [hy713]; with_reducible exact H)
  have Ny713 := Aside0.mk hy713
  clear hy713
  replace H := Option.bind_eq_some_iff.mp H
  obtain ⟨⟨t716, t719⟩, A70, H⟩ := H
  try dsimp only at H
  have A7 := Aside0.mk A70
  clear A70
  obtain ⟨y720, hy720⟩ : ∃ y_ : List (S53), y_ = (([(⟨a3_0, a3_1, a3_2⟩ : S53), (⟨a2_0, a2_1, a2_2⟩ : S53)] : List (S53))) := ⟨_, rfl⟩
  replace H : ((impl_AfterActs.f k a0_0 l0_1 l0_2 l1 y720).bind fun bt723 => (if t719 = 2 then (if bt723.2 = 2 then ((slices_Equal_int_int.f k t716 bt723.1).bind fun t727 => (some t727)) else (some false)) else (some false))) = some r := by (rw [hy720]; with_reducible exact H)
  have Ny720 := Aside0.mk hy720
  clear hy720
  replace H := Option.bind_eq_some_iff.mp H
  obtain ⟨⟨t723, t726⟩, A80, H⟩ := H
  try dsimp only at H
  have A8 := Aside0.mk A80
  clear A80
  by_cases c9 : t719 = 2
  ·rw [if_pos c9] at H
   have c9b0 : (t719 == 2) = true := beq_iff_eq.mpr c9
   have c9b1 : (t719 != 2) = false := bne_eq_false_iff_eq.mpr c9
   clear c9
   by_cases c10 : t726 = 2
   ·rw [if_pos c10] at H
    have c10b0 : (t726 == 2) = true := beq_iff_eq.mpr c10
    have c10b1 : (t726 != 2) = false := bne_eq_false_iff_eq.mpr c10
    clear c10
    replace H := Option.bind_eq_some_iff.mp H
    obtain ⟨t727, A110, H⟩ := H
    have A11 := Aside0.mk A110
    clear A110
    obtain rfl := Option.some.inj H
    go_enter Try.func40, Try.ntmps40
    go_wp2_with (first | ((with_reducible refine gate_dst (N := 4) rfl ?_); refine Z.bx #[.int .i64 a0_0, .slice A0_1 l0_1.length c0_1, .slice A0_2 l0_2.length c0_2] 35 HB ?_; clear HB; intro gb709 w12 BK709 GE709 HB hg hb; have GW709 := GE709; clear hb hg) | ((with_reducible refine gate_dst (N := 6) rfl ?_); refine Z.bz #[.int .i64 a2_0, .int .i64 a2_1, .int .i64 a2_2] 53 HB GE709 ?_; clear HB; intro gb710 w13 BK710 GE710 HB hg hb; have GW710 := GE710; have NB709_710 := Z.nl hg BK709; have NB710_709 := Z.ng hg BK709; replace BK709 := Z.bb BK709 hb; clear hb hg) | ((with_reducible refine gate_dst (N := 7) rfl ?_); refine box_event ?hg (N := 7) ?hd (cs := #[.int .i64 a3_0, .int .i64 a3_1, .int .i64 a3_2]) (t := 53) ?hr ?_; (case hd | hg => rfl); (case hr => (go_simp; done)); intro gb711 hg w14 hbox hb; have BK711 := Aside0.mk (hbox); have GW711 := Aside0.mk ((by rw [hg]; exact (below_size (by repeat ((with_reducible exact HB.out)))) : w.heap.size ≤ gb711)); have GE711 := Aside0.mk ((by rw [hg]; exact (below_size (by repeat ((with_reducible exact HB.out)))) : w.heap.size ≤ gb711)); replace HB := Aside0.mk (below_step (by repeat ((with_reducible exact HB.out))) hb); have NB709_711 := Z.nl hg BK709; have NB711_709 := Z.ng hg BK709; replace BK709 := Z.bb BK709 hb; have NB710_711 := Z.nl hg BK710; have NB711_710 := Z.ng hg BK710; replace BK710 := Z.bb BK710 hb; clear hb hbox hg; have hnb15 := NB709_710.out; have hnc15 := NB710_709.out; have hnb16 := NB709_711.out; have hnc16 := NB711_709.out; have hcz17 := Z.c3 BK709.out) | ((with_reducible refine gate_callee (f := 65) rfl ?_); refine goesL_ (some 15) rfl rfl Try.func65 (by kernel_rfl) rfl #[.agg #[.int .i64 a0_0, .slice A0_1 l0_1.length c0_1, .slice A0_2 l0_2.length c0_2], .slice A1 l1.length c1] rfl Z.ar ?_; (with_reducible refine (impl_isState.calls k a0_0 _ _ l0_1 _ _ l0_2 _ _ l1 true _ ?q1 ?q2 ?q3 ?q4 ?q5 ?q6 A5.out).mono ?_); (case q1 => exact Z.cc HR0_1 HB); (case q2 => exact HC0_1.out); (case q3 => exact Z.cc HR0_2 HB); (case q4 => exact HC0_2.out); (case q5 => exact Z.cc HR1 HB); (case q6 => exact HC1.out); rintro e w18 ⟨rfl, hb⟩; refine ⟨_, rfl, ?_⟩; replace BK709 := Z.bb BK709 hb; replace BK710 := Z.bb BK710 hb; replace BK711 := Z.bb BK711 hb; replace HB := Aside0.mk (below_step (by repeat ((with_reducible exact HB.out))) hb); (try clear hb); have hcz19 := Z.c3 BK709.out; have hnb20 := NB710_711.out; have hnc20 := NB711_710.out; have hcz21 := Z.c3 BK710.out; have hcz22 := Z.c3 BK711.out) | ((with_reducible refine gate_dst (N := 22) rfl ?_); refine Kd.R_lit k53 _ 53 ?hg (N := 22) ?hd (xs := ([(⟨a2_0, a2_1, a2_2⟩ : S53), (⟨a3_0, a3_1, a3_2⟩ : S53)] : List (S53))) (inner := [.int .i64 a2_0, .int .i64 a2_1, .int .i64 a2_2, .int .i64 a3_0, .int .i64 a3_1, .int .i64 a3_2]) (ok := fun _ => True) (okp := fun _ => True) ?hr ?hp (fun _ hk => hk) trivial (Below.refl _ _) (Nat.le_refl _) (by simp) ?_; (case hd | hg => rfl); (case hr => (go_simp; done)); (case hp => exact (Reps.c3 (show Kd.M k53 _ _ _ (⟨a2_0, a2_1, a2_2⟩ : S53) [.int .i64 a2_0, .int .i64 a2_1, .int .i64 a2_2] from (k53_mkM _ _ _ (⟨a2_0, a2_1, a2_2⟩ : S53) )) (Reps.c3 (show Kd.M k53 _ _ _ (⟨a3_0, a3_1, a3_2⟩ : S53) [.int .i64 a3_0, .int .i64 a3_1, .int .i64 a3_2] from (k53_mkM _ _ _ (⟨a3_0, a3_1, a3_2⟩ : S53) )) (Reps.none _ _)))); intro v714 w23 ho24 hb hg_ hnew_; clear hg_ hnew_; (rw [← Ny713.out] at ho24); have HO715 := Aside0.mk (Kd.R_lower (Kd.R_newB (Kd.R_newB ho24 (g := gb710) (o := .cells #[.int .i64 a2_0, .int .i64 a2_1, .int .i64 a2_2] 53 (0, 0)) (Z.bk BK710.out)) (g := gb711) (o := .cells #[.int .i64 a3_0, .int .i64 a3_1, .int .i64 a3_2] 53 (0, 0)) (Z.bk BK711.out)) (below_size (by repeat ((with_reducible exact HB.out))))); replace BK709 := Z.bb BK709 hb; replace BK710 := Z.bb BK710 hb; replace BK711 := Z.bb BK711 hb; replace HB := Aside0.mk (below_step (by repeat ((with_reducible exact HB.out))) hb); clear hb ho24; obtain ⟨Ao25, co25, eo25⟩ := Kd.R_slice HO715.out; subst eo25) | ((with_reducible refine gate_callee (f := 28) rfl ?_); refine goesL_ (some 23) rfl rfl Try.func28 (by kernel_rfl) rfl #[.agg #[.int .i64 a0_0, .slice A0_1 l0_1.length c0_1, .slice A0_2 l0_2.length c0_2], .slice A1 l1.length c1, .slice Ao25 y713.length co25] rfl Z.ar ?_; (with_reducible refine (impl_AfterActs.calls k a0_0 _ _ l0_1 _ _ l0_2 _ _ l1 _ _ y713 t716 t719 _ ?q1 ?q2 ?q3 ?q4 ?q5 ?q6 ?q7 ?q8 A7.out).mono ?_); (case q1 => exact Z.cc HR0_1 HB); (case q2 => exact HC0_1.out); (case q3 => exact Z.cc HR0_2 HB); (case q4 => exact HC0_2.out); (case q5 => exact Z.cc HR1 HB); (case q6 => exact HC1.out); (case q7 => repeat (exact (Kd.R_reads' HO715.out).2.2)); (case q8 => exact (Kd.R_reads' HO715.out).2.1); rintro e w26 ⟨v717, rfl, ho0, hb⟩; refine ⟨_, rfl, ?_⟩; replace HO715 := Aside0.mk (Kd.R_below (by (with_reducible skip); exact HO715.out) hb); have HO718 := Aside0.mk (Kd.R_lower ho0 (below_size (by repeat ((with_reducible exact HB.out))))); replace BK709 := Z.bb BK709 hb; replace BK710 := Z.bb BK710 hb; replace BK711 := Z.bb BK711 hb; replace HB := Aside0.mk (below_step (by repeat ((with_reducible exact HB.out))) hb); (try clear hb); (try clear ho0); have hcz27 := Z.c3 BK709.out; have hcz28 := Z.c3 BK711.out; have hcz29 := Z.c3 BK710.out) | ((with_reducible refine gate_dst (N := 31) rfl ?_); refine Kd.R_lit k53 _ 53 ?hg (N := 31) ?hd (xs := ([(⟨a3_0, a3_1, a3_2⟩ : S53), (⟨a2_0, a2_1, a2_2⟩ : S53)] : List (S53))) (inner := [.int .i64 a3_0, .int .i64 a3_1, .int .i64 a3_2, .int .i64 a2_0, .int .i64 a2_1, .int .i64 a2_2]) (ok := fun _ => True) (okp := fun _ => True) ?hr ?hp (fun _ hk => hk) trivial (Below.refl _ _) (Nat.le_refl _) (by simp) ?_; (case hd | hg => rfl); (case hr => (go_simp; done)); (case hp => exact (Reps.c3 (show Kd.M k53 _ _ _ (⟨a3_0, a3_1, a3_2⟩ : S53) [.int .i64 a3_0, .int .i64 a3_1, .int .i64 a3_2] from (k53_mkM _ _ _ (⟨a3_0, a3_1, a3_2⟩ : S53) )) (Reps.c3 (show Kd.M k53 _ _ _ (⟨a2_0, a2_1, a2_2⟩ : S53) [.int .i64 a2_0, .int .i64 a2_1, .int .i64 a2_2] from (k53_mkM _ _ _ (⟨a2_0, a2_1, a2_2⟩ : S53) )) (Reps.none _ _)))); intro v721 w30 ho31 hb hg_ hnew_; clear hg_ hnew_; (rw [← Ny720.out] at ho31); replace HO718 := Aside0.mk (Kd.R_below (by (with_reducible skip); exact HO718.out) hb); have HO722 := Aside0.mk (Kd.R_lower (Kd.R_newB (Kd.R_newB (Kd.R_new' ho31 (Kd.R_lt (by (with_reducible skip); exact HO715.out))) (g := gb710) (o := .cells #[.int .i64 a2_0, .int .i64 a2_1, .int .i64 a2_2] 53 (0, 0)) (Z.bk BK710.out)) (g := gb711) (o := .cells #[.int .i64 a3_0, .int .i64 a3_1, .int .i64 a3_2] 53 (0, 0)) (Z.bk BK711.out)) (below_size (by repeat ((with_reducible exact HB.out))))); replace HO715 := Aside0.mk (Kd.R_elder' (by (with_reducible skip); exact HO715.out) (Kd.R_base ho31) hb); replace BK709 := Z.bb BK709 hb; replace BK710 := Z.bb BK710 hb; replace BK711 := Z.bb BK711 hb; replace HB := Aside0.mk (below_step (by repeat ((with_reducible exact HB.out))) hb); clear hb ho31; obtain ⟨Ao32, co32, eo32⟩ := Kd.R_slice HO722.out; subst eo32) | ((with_reducible refine gate_callee (f := 28) rfl ?_); refine goesL_ (some 32) rfl rfl Try.func28 (by kernel_rfl) rfl #[.agg #[.int .i64 a0_0, .slice A0_1 l0_1.length c0_1, .slice A0_2 l0_2.length c0_2], .slice A1 l1.length c1, .slice Ao32 y720.length co32] rfl Z.ar ?_; (with_reducible refine (impl_AfterActs.calls k a0_0 _ _ l0_1 _ _ l0_2 _ _ l1 _ _ y720 t723 t726 _ ?q1 ?q2 ?q3 ?q4 ?q5 ?q6 ?q7 ?q8 A8.out).mono ?_); (case q1 => exact Z.cc HR0_1 HB); (case q2 => exact HC0_1.out); (case q3 => exact Z.cc HR0_2 HB); (case q4 => exact HC0_2.out); (case q5 => exact Z.cc HR1 HB); (case q6 => exact HC1.out); (case q7 => repeat (exact (Kd.R_reads' HO722.out).2.2)); (case q8 => exact (Kd.R_reads' HO722.out).2.1); rintro e w33 ⟨v724, rfl, ho0, hb⟩; refine ⟨_, rfl, ?_⟩; replace HO715 := Aside0.mk (Kd.R_below (by (with_reducible skip); exact HO715.out) hb); replace HO722 := Aside0.mk (Kd.R_below (by (with_reducible skip); exact HO722.out) hb); have HO725 := Aside0.mk (Kd.R_lower (Kd.R_new' ho0 (Kd.R_lt (by (with_reducible skip); exact HO718.out))) (below_size (by repeat ((with_reducible exact HB.out))))); replace HO718 := Aside0.mk (Kd.R_elder' (by (with_reducible skip); exact HO718.out) (Kd.R_base ho0) hb); replace BK709 := Z.bb BK709 hb; replace BK710 := Z.bb BK710 hb; replace BK711 := Z.bb BK711 hb; replace HB := Aside0.mk (below_step (by repeat ((with_reducible exact HB.out))) hb); (try clear hb); (try clear ho0); obtain ⟨Ao34, co34, eo34⟩ := Kd.R_slice HO718.out; subst eo34; obtain ⟨Ao35, co35, eo35⟩ := Kd.R_slice HO725.out; subst eo35) | (go_at_call 78; (with_reducible refine (slices_Equal_int_int.calls k _ _ t716 _ _ t723 t727 _ ?q1 ?q2 ?q3 ?q4 A11.out).mono ?_); (case q1 => repeat (exact (Kd.R_reads' HO718.out).2.2)); (case q2 => exact (Kd.R_reads' HO718.out).2.1); (case q3 => repeat (exact (Kd.R_reads' HO725.out).2.2)); (case q4 => exact (Kd.R_reads' HO725.out).2.1); rintro e w' ⟨rfl, ⟨nd, rfl⟩⟩))
    go_ret
    exact ⟨by rfl, by repeat ((with_reducible first | exact HB.out | apply pw_below_drewN))⟩
   ·rw [if_neg c10] at H
    have c10b0 : (t726 == 2) = false := beq_eq_false_iff_ne.mpr c10
    have c10b1 : (t726 != 2) = true := bne_iff_ne.mpr c10
    obtain rfl := Option.some.inj H
    go_enter Try.func40, Try.ntmps40
    go_wp2_with (first | ((with_reducible refine gate_dst (N := 4) rfl ?_); refine Z.bx #[.int .i64 a0_0, .slice A0_1 l0_1.length c0_1, .slice A0_2 l0_2.length c0_2] 35 HB ?_; clear HB; intro gb709 w36 BK709 GE709 HB hg hb; have GW709 := GE709; clear hb hg) | ((with_reducible refine gate_dst (N := 6) rfl ?_); refine Z.bz #[.int .i64 a2_0, .int .i64 a2_1, .int .i64 a2_2] 53 HB GE709 ?_; clear HB; intro gb710 w37 BK710 GE710 HB hg hb; have GW710 := GE710; have NB709_710 := Z.nl hg BK709; have NB710_709 := Z.ng hg BK709; replace BK709 := Z.bb BK709 hb; clear hb hg) | ((with_reducible refine gate_dst (N := 7) rfl ?_); refine box_event ?hg (N := 7) ?hd (cs := #[.int .i64 a3_0, .int .i64 a3_1, .int .i64 a3_2]) (t := 53) ?hr ?_; (case hd | hg => rfl); (case hr => (go_simp; done)); intro gb711 hg w38 hbox hb; have BK711 := Aside0.mk (hbox); have GW711 := Aside0.mk ((by rw [hg]; exact (below_size (by repeat ((with_reducible exact HB.out)))) : w.heap.size ≤ gb711)); have GE711 := Aside0.mk ((by rw [hg]; exact (below_size (by repeat ((with_reducible exact HB.out)))) : w.heap.size ≤ gb711)); replace HB := Aside0.mk (below_step (by repeat ((with_reducible exact HB.out))) hb); have NB709_711 := Z.nl hg BK709; have NB711_709 := Z.ng hg BK709; replace BK709 := Z.bb BK709 hb; have NB710_711 := Z.nl hg BK710; have NB711_710 := Z.ng hg BK710; replace BK710 := Z.bb BK710 hb; clear hb hbox hg; have hnb39 := NB709_710.out; have hnc39 := NB710_709.out; have hnb40 := NB709_711.out; have hnc40 := NB711_709.out; have hcz41 := Z.c3 BK709.out) | ((with_reducible refine gate_callee (f := 65) rfl ?_); refine goesL_ (some 15) rfl rfl Try.func65 (by kernel_rfl) rfl #[.agg #[.int .i64 a0_0, .slice A0_1 l0_1.length c0_1, .slice A0_2 l0_2.length c0_2], .slice A1 l1.length c1] rfl Z.ar ?_; (with_reducible refine (impl_isState.calls k a0_0 _ _ l0_1 _ _ l0_2 _ _ l1 true _ ?q1 ?q2 ?q3 ?q4 ?q5 ?q6 A5.out).mono ?_); (case q1 => exact Z.cc HR0_1 HB); (case q2 => exact HC0_1.out); (case q3 => exact Z.cc HR0_2 HB); (case q4 => exact HC0_2.out); (case q5 => exact Z.cc HR1 HB); (case q6 => exact HC1.out); rintro e w42 ⟨rfl, hb⟩; refine ⟨_, rfl, ?_⟩; replace BK709 := Z.bb BK709 hb; replace BK710 := Z.bb BK710 hb; replace BK711 := Z.bb BK711 hb; replace HB := Aside0.mk (below_step (by repeat ((with_reducible exact HB.out))) hb); (try clear hb); have hcz43 := Z.c3 BK709.out; have hnb44 := NB710_711.out; have hnc44 := NB711_710.out; have hcz45 := Z.c3 BK710.out; have hcz46 := Z.c3 BK711.out) | ((with_reducible refine gate_dst (N := 22) rfl ?_); refine Kd.R_lit k53 _ 53 ?hg (N := 22) ?hd (xs := ([(⟨a2_0, a2_1, a2_2⟩ : S53), (⟨a3_0, a3_1, a3_2⟩ : S53)] : List (S53))) (inner := [.int .i64 a2_0, .int .i64 a2_1, .int .i64 a2_2, .int .i64 a3_0, .int .i64 a3_1, .int .i64 a3_2]) (ok := fun _ => True) (okp := fun _ => True) ?hr ?hp (fun _ hk => hk) trivial (Below.refl _ _) (Nat.le_refl _) (by simp) ?_; (case hd | hg => rfl); (case hr => (go_simp; done)); (case hp => exact (Reps.c3 (show Kd.M k53 _ _ _ (⟨a2_0, a2_1, a2_2⟩ : S53) [.int .i64 a2_0, .int .i64 a2_1, .int .i64 a2_2] from (k53_mkM _ _ _ (⟨a2_0, a2_1, a2_2⟩ : S53) )) (Reps.c3 (show Kd.M k53 _ _ _ (⟨a3_0, a3_1, a3_2⟩ : S53) [.int .i64 a3_0, .int .i64 a3_1, .int .i64 a3_2] from (k53_mkM _ _ _ (⟨a3_0, a3_1, a3_2⟩ : S53) )) (Reps.none _ _)))); intro v714 w47 ho48 hb hg_ hnew_; clear hg_ hnew_; (rw [← Ny713.out] at ho48); have HO715 := Aside0.mk (Kd.R_lower (Kd.R_newB (Kd.R_newB ho48 (g := gb710) (o := .cells #[.int .i64 a2_0, .int .i64 a2_1, .int .i64 a2_2] 53 (0, 0)) (Z.bk BK710.out)) (g := gb711) (o := .cells #[.int .i64 a3_0, .int .i64 a3_1, .int .i64 a3_2] 53 (0, 0)) (Z.bk BK711.out)) (below_size (by repeat ((with_reducible exact HB.out))))); replace BK709 := Z.bb BK709 hb; replace BK710 := Z.bb BK710 hb; replace BK711 := Z.bb BK711 hb; replace HB := Aside0.mk (below_step (by repeat ((with_reducible exact HB.out))) hb); clear hb ho48; obtain ⟨Ao49, co49, eo49⟩ := Kd.R_slice HO715.out; subst eo49) | ((with_reducible refine gate_callee (f := 28) rfl ?_); refine goesL_ (some 23) rfl rfl Try.func28 (by kernel_rfl) rfl #[.agg #[.int .i64 a0_0, .slice A0_1 l0_1.length c0_1, .slice A0_2 l0_2.length c0_2], .slice A1 l1.length c1, .slice Ao49 y713.length co49] rfl Z.ar ?_; (with_reducible refine (impl_AfterActs.calls k a0_0 _ _ l0_1 _ _ l0_2 _ _ l1 _ _ y713 t716 t719 _ ?q1 ?q2 ?q3 ?q4 ?q5 ?q6 ?q7 ?q8 A7.out).mono ?_); (case q1 => exact Z.cc HR0_1 HB); (case q2 => exact HC0_1.out); (case q3 => exact Z.cc HR0_2 HB); (case q4 => exact HC0_2.out); (case q5 => exact Z.cc HR1 HB); (case q6 => exact HC1.out); (case q7 => repeat (exact (Kd.R_reads' HO715.out).2.2)); (case q8 => exact (Kd.R_reads' HO715.out).2.1); rintro e w50 ⟨v717, rfl, ho0, hb⟩; refine ⟨_, rfl, ?_⟩; replace HO715 := Aside0.mk (Kd.R_below (by (with_reducible skip); exact HO715.out) hb); have HO718 := Aside0.mk (Kd.R_lower ho0 (below_size (by repeat ((with_reducible exact HB.out))))); replace BK709 := Z.bb BK709 hb; replace BK710 := Z.bb BK710 hb; replace BK711 := Z.bb BK711 hb; replace HB := Aside0.mk (below_step (by repeat ((with_reducible exact HB.out))) hb); (try clear hb); (try clear ho0); have hcz51 := Z.c3 BK709.out; have hcz52 := Z.c3 BK711.out; have hcz53 := Z.c3 BK710.out) | ((with_reducible refine gate_dst (N := 31) rfl ?_); refine Kd.R_lit k53 _ 53 ?hg (N := 31) ?hd (xs := ([(⟨a3_0, a3_1, a3_2⟩ : S53), (⟨a2_0, a2_1, a2_2⟩ : S53)] : List (S53))) (inner := [.int .i64 a3_0, .int .i64 a3_1, .int .i64 a3_2, .int .i64 a2_0, .int .i64 a2_1, .int .i64 a2_2]) (ok := fun _ => True) (okp := fun _ => True) ?hr ?hp (fun _ hk => hk) trivial (Below.refl _ _) (Nat.le_refl _) (by simp) ?_; (case hd | hg => rfl); (case hr => (go_simp; done)); (case hp => exact (Reps.c3 (show Kd.M k53 _ _ _ (⟨a3_0, a3_1, a3_2⟩ : S53) [.int .i64 a3_0, .int .i64 a3_1, .int .i64 a3_2] from (k53_mkM _ _ _ (⟨a3_0, a3_1, a3_2⟩ : S53) )) (Reps.c3 (show Kd.M k53 _ _ _ (⟨a2_0, a2_1, a2_2⟩ : S53) [.int .i64 a2_0, .int .i64 a2_1, .int .i64 a2_2] from (k53_mkM _ _ _ (⟨a2_0, a2_1, a2_2⟩ : S53) )) (Reps.none _ _)))); intro v721 w54 ho55 hb hg_ hnew_; clear hg_ hnew_; (rw [← Ny720.out] at ho55); replace HO718 := Aside0.mk (Kd.R_below (by (with_reducible skip); exact HO718.out) hb); have HO722 := Aside0.mk (Kd.R_lower (Kd.R_newB (Kd.R_newB (Kd.R_new' ho55 (Kd.R_lt (by (with_reducible skip); exact HO715.out))) (g := gb710) (o := .cells #[.int .i64 a2_0, .int .i64 a2_1, .int .i64 a2_2] 53 (0, 0)) (Z.bk BK710.out)) (g := gb711) (o := .cells #[.int .i64 a3_0, .int .i64 a3_1, .int .i64 a3_2] 53 (0, 0)) (Z.bk BK711.out)) (below_size (by repeat ((with_reducible exact HB.out))))); replace HO715 := Aside0.mk (Kd.R_elder' (by (with_reducible skip); exact HO715.out) (Kd.R_base ho55) hb); replace BK709 := Z.bb BK709 hb; replace BK710 := Z.bb BK710 hb; replace BK711 := Z.bb BK711 hb; replace HB := Aside0.mk (below_step (by repeat ((with_reducible exact HB.out))) hb); clear hb ho55; obtain ⟨Ao56, co56, eo56⟩ := Kd.R_slice HO722.out; subst eo56) | ((with_reducible refine gate_callee (f := 28) rfl ?_); refine goesL_ (some 32) rfl rfl Try.func28 (by kernel_rfl) rfl #[.agg #[.int .i64 a0_0, .slice A0_1 l0_1.length c0_1, .slice A0_2 l0_2.length c0_2], .slice A1 l1.length c1, .slice Ao56 y720.length co56] rfl Z.ar ?_; (with_reducible refine (impl_AfterActs.calls k a0_0 _ _ l0_1 _ _ l0_2 _ _ l1 _ _ y720 t723 t726 _ ?q1 ?q2 ?q3 ?q4 ?q5 ?q6 ?q7 ?q8 A8.out).mono ?_); (case q1 => exact Z.cc HR0_1 HB); (case q2 => exact HC0_1.out); (case q3 => exact Z.cc HR0_2 HB); (case q4 => exact HC0_2.out); (case q5 => exact Z.cc HR1 HB); (case q6 => exact HC1.out); (case q7 => repeat (exact (Kd.R_reads' HO722.out).2.2)); (case q8 => exact (Kd.R_reads' HO722.out).2.1); rintro e w57 ⟨v724, rfl, ho0, hb⟩; refine ⟨_, rfl, ?_⟩; replace HO715 := Aside0.mk (Kd.R_below (by (with_reducible skip); exact HO715.out) hb); replace HO722 := Aside0.mk (Kd.R_below (by (with_reducible skip); exact HO722.out) hb); have HO725 := Aside0.mk (Kd.R_lower (Kd.R_new' ho0 (Kd.R_lt (by (with_reducible skip); exact HO718.out))) (below_size (by repeat ((with_reducible exact HB.out))))); replace HO718 := Aside0.mk (Kd.R_elder' (by (with_reducible skip); exact HO718.out) (Kd.R_base ho0) hb); replace BK709 := Z.bb BK709 hb; replace BK710 := Z.bb BK710 hb; replace BK711 := Z.bb BK711 hb; replace HB := Aside0.mk (below_step (by repeat ((with_reducible exact HB.out))) hb); (try clear hb); (try clear ho0)))
    go_ret
    exact ⟨by rfl, by repeat ((with_reducible exact HB.out))⟩
  ·rw [if_neg c9] at H
   have c9b0 : (t719 == 2) = false := beq_eq_false_iff_ne.mpr c9
   have c9b1 : (t719 != 2) = true := bne_iff_ne.mpr c9
   obtain rfl := Option.some.inj H
   go_enter Try.func40, Try.ntmps40
   go_wp2_with (first | ((with_reducible refine gate_dst (N := 4) rfl ?_); refine Z.bx #[.int .i64 a0_0, .slice A0_1 l0_1.length c0_1, .slice A0_2 l0_2.length c0_2] 35 HB ?_; clear HB; intro gb709 w58 BK709 GE709 HB hg hb; have GW709 := GE709; clear hb hg) | ((with_reducible refine gate_dst (N := 6) rfl ?_); refine Z.bz #[.int .i64 a2_0, .int .i64 a2_1, .int .i64 a2_2] 53 HB GE709 ?_; clear HB; intro gb710 w59 BK710 GE710 HB hg hb; have GW710 := GE710; have NB709_710 := Z.nl hg BK709; have NB710_709 := Z.ng hg BK709; replace BK709 := Z.bb BK709 hb; clear hb hg) | ((with_reducible refine gate_dst (N := 7) rfl ?_); refine box_event ?hg (N := 7) ?hd (cs := #[.int .i64 a3_0, .int .i64 a3_1, .int .i64 a3_2]) (t := 53) ?hr ?_; (case hd | hg => rfl); (case hr => (go_simp; done)); intro gb711 hg w60 hbox hb; have BK711 := Aside0.mk (hbox); have GW711 := Aside0.mk ((by rw [hg]; exact (below_size (by repeat ((with_reducible exact HB.out)))) : w.heap.size ≤ gb711)); have GE711 := Aside0.mk ((by rw [hg]; exact (below_size (by repeat ((with_reducible exact HB.out)))) : w.heap.size ≤ gb711)); replace HB := Aside0.mk (below_step (by repeat ((with_reducible exact HB.out))) hb); have NB709_711 := Z.nl hg BK709; have NB711_709 := Z.ng hg BK709; replace BK709 := Z.bb BK709 hb; have NB710_711 := Z.nl hg BK710; have NB711_710 := Z.ng hg BK710; replace BK710 := Z.bb BK710 hb; clear hb hbox hg; have hnb61 := NB709_710.out; have hnc61 := NB710_709.out; have hnb62 := NB709_711.out; have hnc62 := NB711_709.out; have hcz63 := Z.c3 BK709.out) | ((with_reducible refine gate_callee (f := 65) rfl ?_); refine goesL_ (some 15) rfl rfl Try.func65 (by kernel_rfl) rfl #[.agg #[.int .i64 a0_0, .slice A0_1 l0_1.length c0_1, .slice A0_2 l0_2.length c0_2], .slice A1 l1.length c1] rfl Z.ar ?_; (with_reducible refine (impl_isState.calls k a0_0 _ _ l0_1 _ _ l0_2 _ _ l1 true _ ?q1 ?q2 ?q3 ?q4 ?q5 ?q6 A5.out).mono ?_); (case q1 => exact Z.cc HR0_1 HB); (case q2 => exact HC0_1.out); (case q3 => exact Z.cc HR0_2 HB); (case q4 => exact HC0_2.out); (case q5 => exact Z.cc HR1 HB); (case q6 => exact HC1.out); rintro e w64 ⟨rfl, hb⟩; refine ⟨_, rfl, ?_⟩; replace BK709 := Z.bb BK709 hb; replace BK710 := Z.bb BK710 hb; replace BK711 := Z.bb BK711 hb; replace HB := Aside0.mk (below_step (by repeat ((with_reducible exact HB.out))) hb); (try clear hb); have hcz65 := Z.c3 BK709.out; have hnb66 := NB710_711.out; have hnc66 := NB711_710.out; have hcz67 := Z.c3 BK710.out; have hcz68 := Z.c3 BK711.out) | ((with_reducible refine gate_dst (N := 22) rfl ?_); refine Kd.R_lit k53 _ 53 ?hg (N := 22) ?hd (xs := ([(⟨a2_0, a2_1, a2_2⟩ : S53), (⟨a3_0, a3_1, a3_2⟩ : S53)] : List (S53))) (inner := [.int .i64 a2_0, .int .i64 a2_1, .int .i64 a2_2, .int .i64 a3_0, .int .i64 a3_1, .int .i64 a3_2]) (ok := fun _ => True) (okp := fun _ => True) ?hr ?hp (fun _ hk => hk) trivial (Below.refl _ _) (Nat.le_refl _) (by simp) ?_; (case hd | hg => rfl); (case hr => (go_simp; done)); (case hp => exact (Reps.c3 (show Kd.M k53 _ _ _ (⟨a2_0, a2_1, a2_2⟩ : S53) [.int .i64 a2_0, .int .i64 a2_1, .int .i64 a2_2] from (k53_mkM _ _ _ (⟨a2_0, a2_1, a2_2⟩ : S53) )) (Reps.c3 (show Kd.M k53 _ _ _ (⟨a3_0, a3_1, a3_2⟩ : S53) [.int .i64 a3_0, .int .i64 a3_1, .int .i64 a3_2] from (k53_mkM _ _ _ (⟨a3_0, a3_1, a3_2⟩ : S53) )) (Reps.none _ _)))); intro v714 w69 ho70 hb hg_ hnew_; clear hg_ hnew_; (rw [← Ny713.out] at ho70); have HO715 := Aside0.mk (Kd.R_lower (Kd.R_newB (Kd.R_newB ho70 (g := gb710) (o := .cells #[.int .i64 a2_0, .int .i64 a2_1, .int .i64 a2_2] 53 (0, 0)) (Z.bk BK710.out)) (g := gb711) (o := .cells #[.int .i64 a3_0, .int .i64 a3_1, .int .i64 a3_2] 53 (0, 0)) (Z.bk BK711.out)) (below_size (by repeat ((with_reducible exact HB.out))))); replace BK709 := Z.bb BK709 hb; replace BK710 := Z.bb BK710 hb; replace BK711 := Z.bb BK711 hb; replace HB := Aside0.mk (below_step (by repeat ((with_reducible exact HB.out))) hb); clear hb ho70; obtain ⟨Ao71, co71, eo71⟩ := Kd.R_slice HO715.out; subst eo71) | ((with_reducible refine gate_callee (f := 28) rfl ?_); refine goesL_ (some 23) rfl rfl Try.func28 (by kernel_rfl) rfl #[.agg #[.int .i64 a0_0, .slice A0_1 l0_1.length c0_1, .slice A0_2 l0_2.length c0_2], .slice A1 l1.length c1, .slice Ao71 y713.length co71] rfl Z.ar ?_; (with_reducible refine (impl_AfterActs.calls k a0_0 _ _ l0_1 _ _ l0_2 _ _ l1 _ _ y713 t716 t719 _ ?q1 ?q2 ?q3 ?q4 ?q5 ?q6 ?q7 ?q8 A7.out).mono ?_); (case q1 => exact Z.cc HR0_1 HB); (case q2 => exact HC0_1.out); (case q3 => exact Z.cc HR0_2 HB); (case q4 => exact HC0_2.out); (case q5 => exact Z.cc HR1 HB); (case q6 => exact HC1.out); (case q7 => repeat (exact (Kd.R_reads' HO715.out).2.2)); (case q8 => exact (Kd.R_reads' HO715.out).2.1); rintro e w72 ⟨v717, rfl, ho0, hb⟩; refine ⟨_, rfl, ?_⟩; replace HO715 := Aside0.mk (Kd.R_below (by (with_reducible skip); exact HO715.out) hb); have HO718 := Aside0.mk (Kd.R_lower ho0 (below_size (by repeat ((with_reducible exact HB.out))))); replace BK709 := Z.bb BK709 hb; replace BK710 := Z.bb BK710 hb; replace BK711 := Z.bb BK711 hb; replace HB := Aside0.mk (below_step (by repeat ((with_reducible exact HB.out))) hb); (try clear hb); (try clear ho0); have hcz73 := Z.c3 BK709.out; have hcz74 := Z.c3 BK711.out; have hcz75 := Z.c3 BK710.out) | ((with_reducible refine gate_dst (N := 31) rfl ?_); refine Kd.R_lit k53 _ 53 ?hg (N := 31) ?hd (xs := ([(⟨a3_0, a3_1, a3_2⟩ : S53), (⟨a2_0, a2_1, a2_2⟩ : S53)] : List (S53))) (inner := [.int .i64 a3_0, .int .i64 a3_1, .int .i64 a3_2, .int .i64 a2_0, .int .i64 a2_1, .int .i64 a2_2]) (ok := fun _ => True) (okp := fun _ => True) ?hr ?hp (fun _ hk => hk) trivial (Below.refl _ _) (Nat.le_refl _) (by simp) ?_; (case hd | hg => rfl); (case hr => (go_simp; done)); (case hp => exact (Reps.c3 (show Kd.M k53 _ _ _ (⟨a3_0, a3_1, a3_2⟩ : S53) [.int .i64 a3_0, .int .i64 a3_1, .int .i64 a3_2] from (k53_mkM _ _ _ (⟨a3_0, a3_1, a3_2⟩ : S53) )) (Reps.c3 (show Kd.M k53 _ _ _ (⟨a2_0, a2_1, a2_2⟩ : S53) [.int .i64 a2_0, .int .i64 a2_1, .int .i64 a2_2] from (k53_mkM _ _ _ (⟨a2_0, a2_1, a2_2⟩ : S53) )) (Reps.none _ _)))); intro v721 w76 ho77 hb hg_ hnew_; clear hg_ hnew_; (rw [← Ny720.out] at ho77); replace HO718 := Aside0.mk (Kd.R_below (by (with_reducible skip); exact HO718.out) hb); have HO722 := Aside0.mk (Kd.R_lower (Kd.R_newB (Kd.R_newB (Kd.R_new' ho77 (Kd.R_lt (by (with_reducible skip); exact HO715.out))) (g := gb710) (o := .cells #[.int .i64 a2_0, .int .i64 a2_1, .int .i64 a2_2] 53 (0, 0)) (Z.bk BK710.out)) (g := gb711) (o := .cells #[.int .i64 a3_0, .int .i64 a3_1, .int .i64 a3_2] 53 (0, 0)) (Z.bk BK711.out)) (below_size (by repeat ((with_reducible exact HB.out))))); replace HO715 := Aside0.mk (Kd.R_elder' (by (with_reducible skip); exact HO715.out) (Kd.R_base ho77) hb); replace BK709 := Z.bb BK709 hb; replace BK710 := Z.bb BK710 hb; replace BK711 := Z.bb BK711 hb; replace HB := Aside0.mk (below_step (by repeat ((with_reducible exact HB.out))) hb); clear hb ho77; obtain ⟨Ao78, co78, eo78⟩ := Kd.R_slice HO722.out; subst eo78) | ((with_reducible refine gate_callee (f := 28) rfl ?_); refine goesL_ (some 32) rfl rfl Try.func28 (by kernel_rfl) rfl #[.agg #[.int .i64 a0_0, .slice A0_1 l0_1.length c0_1, .slice A0_2 l0_2.length c0_2], .slice A1 l1.length c1, .slice Ao78 y720.length co78] rfl Z.ar ?_; (with_reducible refine (impl_AfterActs.calls k a0_0 _ _ l0_1 _ _ l0_2 _ _ l1 _ _ y720 t723 t726 _ ?q1 ?q2 ?q3 ?q4 ?q5 ?q6 ?q7 ?q8 A8.out).mono ?_); (case q1 => exact Z.cc HR0_1 HB); (case q2 => exact HC0_1.out); (case q3 => exact Z.cc HR0_2 HB); (case q4 => exact HC0_2.out); (case q5 => exact Z.cc HR1 HB); (case q6 => exact HC1.out); (case q7 => repeat (exact (Kd.R_reads' HO722.out).2.2)); (case q8 => exact (Kd.R_reads' HO722.out).2.1); rintro e w79 ⟨v724, rfl, ho0, hb⟩; refine ⟨_, rfl, ?_⟩; replace HO715 := Aside0.mk (Kd.R_below (by (with_reducible skip); exact HO715.out) hb); replace HO722 := Aside0.mk (Kd.R_below (by (with_reducible skip); exact HO722.out) hb); have HO725 := Aside0.mk (Kd.R_lower (Kd.R_new' ho0 (Kd.R_lt (by (with_reducible skip); exact HO718.out))) (below_size (by repeat ((with_reducible exact HB.out))))); replace HO718 := Aside0.mk (Kd.R_elder' (by (with_reducible skip); exact HO718.out) (Kd.R_base ho0) hb); replace BK709 := Z.bb BK709 hb; replace BK710 := Z.bb BK710 hb; replace BK711 := Z.bb BK711 hb; replace HB := Aside0.mk (below_step (by repeat ((with_reducible exact HB.out))) hb); (try clear hb); (try clear ho0)))
   go_ret
   exact ⟨by rfl, by repeat ((with_reducible exact HB.out))⟩
 ·replace c6 := Bool.eq_false_iff.mpr c6
  subst c6
  rw [if_neg (show ¬ (false = true) by decide)] at H
  obtain rfl := Option.some.inj H
  go_enter Try.func40, Try.ntmps40
  go_wp2_with (first | ((with_reducible refine gate_dst (N := 4) rfl ?_); refine Z.bx #[.int .i64 a0_0, .slice A0_1 l0_1.length c0_1, .slice A0_2 l0_2.length c0_2] 35 HB ?_; clear HB; intro gb709 w80 BK709 GE709 HB hg hb; have GW709 := GE709; clear hb hg) | ((with_reducible refine gate_dst (N := 6) rfl ?_); refine Z.bz #[.int .i64 a2_0, .int .i64 a2_1, .int .i64 a2_2] 53 HB GE709 ?_; clear HB; intro gb710 w81 BK710 GE710 HB hg hb; have GW710 := GE710; have NB709_710 := Z.nl hg BK709; have NB710_709 := Z.ng hg BK709; replace BK709 := Z.bb BK709 hb; clear hb hg) | ((with_reducible refine gate_dst (N := 7) rfl ?_); refine box_event ?hg (N := 7) ?hd (cs := #[.int .i64 a3_0, .int .i64 a3_1, .int .i64 a3_2]) (t := 53) ?hr ?_; (case hd | hg => rfl); (case hr => (go_simp; done)); intro gb711 hg w82 hbox hb; have BK711 := Aside0.mk (hbox); have GW711 := Aside0.mk ((by rw [hg]; exact (below_size (by repeat ((with_reducible exact HB.out)))) : w.heap.size ≤ gb711)); have GE711 := Aside0.mk ((by rw [hg]; exact (below_size (by repeat ((with_reducible exact HB.out)))) : w.heap.size ≤ gb711)); replace HB := Aside0.mk (below_step (by repeat ((with_reducible exact HB.out))) hb); have NB709_711 := Z.nl hg BK709; have NB711_709 := Z.ng hg BK709; replace BK709 := Z.bb BK709 hb; have NB710_711 := Z.nl hg BK710; have NB711_710 := Z.ng hg BK710; replace BK710 := Z.bb BK710 hb; clear hb hbox hg; have hnb83 := NB709_710.out; have hnc83 := NB710_709.out; have hnb84 := NB709_711.out; have hnc84 := NB711_709.out; have hcz85 := Z.c3 BK709.out) | ((with_reducible refine gate_callee (f := 65) rfl ?_); refine goesL_ (some 15) rfl rfl Try.func65 (by kernel_rfl) rfl #[.agg #[.int .i64 a0_0, .slice A0_1 l0_1.length c0_1, .slice A0_2 l0_2.length c0_2], .slice A1 l1.length c1] rfl Z.ar ?_; (with_reducible refine (impl_isState.calls k a0_0 _ _ l0_1 _ _ l0_2 _ _ l1 false _ ?q1 ?q2 ?q3 ?q4 ?q5 ?q6 A5.out).mono ?_); (case q1 => exact Z.cc HR0_1 HB); (case q2 => exact HC0_1.out); (case q3 => exact Z.cc HR0_2 HB); (case q4 => exact HC0_2.out); (case q5 => exact Z.cc HR1 HB); (case q6 => exact HC1.out); rintro e w86 ⟨rfl, hb⟩; refine ⟨_, rfl, ?_⟩; replace BK709 := Z.bb BK709 hb; replace BK710 := Z.bb BK710 hb; replace BK711 := Z.bb BK711 hb; replace HB := Aside0.mk (below_step (by repeat ((with_reducible exact HB.out))) hb); (try clear hb)))
  go_ret
  exact ⟨by rfl, by repeat ((with_reducible exact HB.out))⟩

end Go.Proofs.Ytcafckapdgaogaa.PAll
