/- Walks of functions that laws of this seat reach, in the form of the print. -/
import Derived.Test.YtojoblllgddckaaCAll0
import Derived.Test.YtojoblllgddckaaCAll1
import Derived.Test.YtojoblllgddckaaCAll3
import Derived.Test.YtojoblllgddckaaCAll7
import Derived.Test.YtojoblllgddckaaCAll15
import Derived.Test.YtojoblllgddckaaCAll18
import Derived.Test.YtojoblllgddckaaZ
-- PRINTED
namespace Go.Proofs.Ytojoblllgddckaa.PAll
open Go.RowKit Go.Proofs.YtojoblllgddckaaW.PrintWords Go.Proofs.YtojoblllgddckaaW.PrintLast Go.Proofs.YtojoblllgddckaaW.PrintMore
attribute [local go_sem] max2_int min2_int max_two min_two max_three min_three max_four min_four
set_option linter.unusedVariables false
set_option linter.unusedSimpArgs false

/-! ### spec_StateOk: function 29 -/
mutual
def spec_StateOk.l0 : Nat → List Int → Int → Int → List Int → List (List (S91)) → Option (Bool)
 | 0, _, _, _, _, _ => none
 | k + 1, x1, x5, x644000, x644001, x644002 => if x5 < (x1.length : Int) then (spec_StateOk.j1 k x1 x5 (decide (x5 < (x644002.length : Int))) x644000 x644001 x644002) else (spec_StateOk.j1 k x1 x5 false x644000 x644001 x644002)
def spec_StateOk.j1 : Nat → List Int → Int → Bool → Int → List Int → List (List (S91)) → Option (Bool)
 | 0, _, _, _, _, _, _ => none
 | k + 1, x1, x5, x16, x644000, x644001, x644002 => if x16 = true then (if 0 ≤ x5 then (if x5 < (x1.length : Int) then (if x5 < (x644002.length : Int) then ((spec_l1In.f (rd x1 x5) 0 (wrap64 (((rd_L5 x644002 x5).length : Int) - 1))).bind fun t646 => (if t646 = true then (spec_StateOk.l0 k x1 (wrap64 (x5 + 1)) x644000 x644001 x644002) else (some false))) else (none)) else (none)) else (none)) else ((spec_CharterOk.f k x644000 x644001 x644002).bind fun t647 => (if t647 = true then (some ((x1.length : Int) == (x644002.length : Int))) else (some false)))
end
def spec_StateOk.f (k : Nat) (a0_0 : Int) (l0_1 : List Int) (l0_2 : List (List (S91))) (l1 : List Int) : Option (Bool) := spec_StateOk.l0 k l1 0 a0_0 l0_1 l0_2
set_option maxHeartbeats 8000000 in
set_option maxRecDepth 100000 in
theorem spec_StateOk.calls (k : Nat) (a0_0 : Int) (A0_1 : Option Addr) (c0_1 : Nat) (l0_1 : List Int) (A0_2 : Option Addr) (c0_2 : Nat) (l0_2 : List (List (S91))) (A1 : Option Addr) (c1 : Nat) (l1 : List Int) (r : Bool) (w : World) (hr0_1 : Kd.C (Kd.int .i64) w A0_1 l0_1.length l0_1) (hc0_1 : l0_1.length ≤ c0_1) (hr0_2 : Kd.C (Kd.slice 91 k91) w A0_2 l0_2.length l0_2) (hc0_2 : l0_2.length ≤ c0_2) (hr1 : Kd.C (Kd.int .i64) w A1 l1.length l1) (hc1 : l1.length ≤ c1) (h : spec_StateOk.f k a0_0 l0_1 l0_2 l1 = some r) :
  Calls Try.prog 29 #[.agg #[.int .i64 a0_0, .slice A0_1 l0_1.length c0_1, .slice A0_2 l0_2.length c0_2], .slice A1 l1.length c1] w fun e w' => e = .returned (.bool r) ∧ Below w.heap.size w w' := by
 have hu46 := Try.underlying46
 have HR0_1 := Z.k hr0_1
 have HC0_1 := Z.k hc0_1
 clear hr0_1 hc0_1
 have HR0_2 := Z.k hr0_2
 have HC0_2 := Z.k hc0_2
 clear hr0_2 hc0_2
 have HR1 := Z.k hr1
 have HC1 := Z.k hc1
 clear hr1 hc1
 have HB := Z.k (Below.refl w.heap.size w)
 have H := h
 clear h
 unfold spec_StateOk.f at H
 have H' := Z.k H
 clear H
 go_enter Try.func29, Try.ntmps29
 go_wp2_with (((with_reducible refine gate_dst (N := 2) rfl ?_); (try (refine gate_guard (by rfl) ?_; dsimp only)); refine Z.bx #[.int .i64 a0_0, .slice A0_1 l0_1.length c0_1, .slice A0_2 l0_2.length c0_2] 46 HB ?_; clear HB; intro gb643 w3 BK643 GE643 HB hg hb; have GW643 := GE643; clear hb hg))
 go_loopg [5] k (fun kq v5 w' => ∃ (x5_1 : Int), v5 = .int .i64 x5_1 ∧ Aside0 (spec_StateOk.l0 kq l1 x5_1 a0_0 l0_1 l0_2 = some r) ∧ Aside0 (kq ≤ k) ∧ Aside0 (w'.heap[gb643]? = some (.cells #[.int .i64 a0_0, (.slice A0_1 l0_1.length c0_1), (.slice A0_2 l0_2.length c0_2)] 46 (0, 0))) ∧ Aside0 (Below w.heap.size w w'))
 case atStart => exact ⟨(0), (by rfl), H', ⟨Nat.le_refl _⟩, ⟨by exact BK643.out⟩, ⟨Z.bs HB.out GE643.out⟩⟩
 case round =>
  clear H'
  obtain ⟨x5_1, rfl, HA, HK1, BK643, HB⟩ := hrel
  cases gk with
  | zero => exact absurd HA.out (by simp [spec_StateOk.l0])
  | succ k1 =>
   have H := HA.out
   clear HA
   simp only [spec_StateOk.l0] at H
   have HC4 := Z.k H
   clear H
   go_upto_region 2 with (fail)
   go_cut [16] (fun v16 wc => ∃ (kq : Nat) (x16_3 : Bool), v16 = .bool x16_3 ∧ Aside0 (spec_StateOk.j1 kq l1 x5_1 x16_3 a0_0 l0_1 l0_2 = some r) ∧ Aside0 (kq ≤ k1) ∧ Aside0 (wc.heap[gb643]? = some (.cells #[.int .i64 a0_0, (.slice A0_1 l0_1.length c0_1), (.slice A0_2 l0_2.length c0_2)] 46 (0, 0))) ∧ Aside0 (Below w.heap.size w wc))
   case first =>
    have H := HC4.out
    clear HC4
    by_cases c5 : x5_1 < (l1.length : Int)
    ·rw [if_pos c5] at H
     have c5b0 : decide (x5_1 < (l1.length : Int)) = true := decide_eq_true c5
     clear c5
     have H' := Z.k H
     clear H
     have hcz6 := Z.c3 BK643.out
     go_wp2
     go_meet
     case rel => exact ⟨_, (decide (x5_1 < (l0_2.length : Int))), (by rfl), H', ⟨by have := HK1.out; omega⟩, ⟨by exact BK643.out⟩, ⟨Z.bs HB.out GE643.out⟩⟩
    ·rw [if_neg c5] at H
     have c5b0 : decide (x5_1 < (l1.length : Int)) = false := decide_eq_false c5
     clear c5
     have H' := Z.k H
     clear H
     go_wp2
     go_meet
     case rel => exact ⟨_, (false), (by rfl), H', ⟨by have := HK1.out; omega⟩, ⟨by exact BK643.out⟩, ⟨Z.bs HB.out GE643.out⟩⟩
   case rest =>
    clear HC4
    obtain ⟨kq, x16_3, rfl, HA, HJ3, BK643, HB⟩ := hcut
    cases kq with
    | zero => exact absurd HA.out (by simp [spec_StateOk.j1])
    | succ kj3 =>
     have H := HA.out
     clear HA
     simp only [spec_StateOk.j1] at H
     by_cases c7 : x16_3 = true
     ·subst c7
      rw [if_pos rfl] at H
      obtain ⟨c8, H⟩ := Z.ifp H
      have c8b0 : decide (0 ≤ x5_1) = true := decide_eq_true c8
      clear c8
      obtain ⟨c9, H⟩ := Z.ifp H
      have c9b0 : decide (x5_1 < (l1.length : Int)) = true := decide_eq_true c9
      clear c9
      obtain ⟨c10, H⟩ := Z.ifp H
      have c10b0 : decide (x5_1 < (l0_2.length : Int)) = true := decide_eq_true c10
      clear c10
      replace H := Option.bind_eq_some_iff.mp H
      obtain ⟨t646, A110, H⟩ := H
      have A11 := Z.k A110
      clear A110
      by_cases c12 : t646 = true
      ·subst c12
       rw [if_pos rfl] at H
       have H' := Z.k H
       clear H
       have p644 : 0 ≤ (x5_1 : Int) := Z.od
       have q644 : x5_1 < (l1.length : Int) := Z.od
       obtain ⟨ad644, rfl, hx644_0⟩ := Kd.at_int HR1.out x5_1 p644 q644
       replace hx644_0 := Z.up HB.out hx644_0
       replace p644 := eq_true p644
       replace q644 := eq_true q644
       have hcz13 := Z.c3 BK643.out
       have p645 : 0 ≤ (x5_1 : Int) := Z.od
       have q645 : x5_1 < (l0_2.length : Int) := Z.od
       obtain ⟨ad645, A645_0, c645_0, rfl, hx645_0, hl645_0, hi645_0⟩ := at_L5 HR0_2.out x5_1 p645 q645
       replace hx645_0 := Z.up HB.out hx645_0
       have HR645_0 := Z.k hi645_0
       have HC645_0 := Z.k hl645_0
       clear hi645_0 hl645_0
       replace p645 := eq_true p645
       replace q645 := eq_true q645
       go_wp2_with ((go_at_call 54; (with_reducible refine (spec_l1In.calls (rd l1 x5_1) 0 (wrap64 (((rd_L5 l0_2 x5_1).length : Int) - 1)) true _ A11.out).mono ?_); rintro e w' ⟨rfl, ⟨nd, rfl⟩⟩))
       repeat (go_quiet ((go_at_call 54; (with_reducible refine (spec_l1In.calls (rd l1 x5_1) 0 (wrap64 (((rd_L5 l0_2 x5_1).length : Int) - 1)) true _ A11.out).mono ?_); rintro e w' ⟨rfl, ⟨nd, rfl⟩⟩; (try exact ⟨rfl, _, World.drewN_drewN _ _ _⟩))); try go_wp2_with ((go_at_call 54; (with_reducible refine (spec_l1In.calls (rd l1 x5_1) 0 (wrap64 (((rd_L5 l0_2 x5_1).length : Int) - 1)) true _ A11.out).mono ?_); rintro e w' ⟨rfl, ⟨nd, rfl⟩⟩)))
       go_roundg kj3
       case measure => have := HK1.out; have := HJ3.out; omega
       case rel => exact ⟨(wrap64 (x5_1 + 1)), (by rfl), H', ⟨by have := HK1.out; have := HJ3.out; omega⟩, ⟨by (with_reducible repeat (refine blk_drewN ?_ _)); exact BK643.out⟩, ⟨Z.bs HB.out GE643.out⟩⟩
      ·replace c12 := Bool.eq_false_iff.mpr c12
       subst c12
       rw [if_neg (show ¬ (false = true) by decide)] at H
       obtain rfl := Option.some.inj H
       have p644 : 0 ≤ (x5_1 : Int) := Z.od
       have q644 : x5_1 < (l1.length : Int) := Z.od
       obtain ⟨ad644, rfl, hx644_0⟩ := Kd.at_int HR1.out x5_1 p644 q644
       replace hx644_0 := Z.up HB.out hx644_0
       replace p644 := eq_true p644
       replace q644 := eq_true q644
       have hcz14 := Z.c3 BK643.out
       have p645 : 0 ≤ (x5_1 : Int) := Z.od
       have q645 : x5_1 < (l0_2.length : Int) := Z.od
       obtain ⟨ad645, A645_0, c645_0, rfl, hx645_0, hl645_0, hi645_0⟩ := at_L5 HR0_2.out x5_1 p645 q645
       replace hx645_0 := Z.up HB.out hx645_0
       have HR645_0 := Z.k hi645_0
       have HC645_0 := Z.k hl645_0
       clear hi645_0 hl645_0
       replace p645 := eq_true p645
       replace q645 := eq_true q645
       go_wp2_with ((go_at_call 54; (with_reducible refine (spec_l1In.calls (rd l1 x5_1) 0 (wrap64 (((rd_L5 l0_2 x5_1).length : Int) - 1)) false _ A11.out).mono ?_); rintro e w' ⟨rfl, ⟨nd, rfl⟩⟩))
       repeat (go_quiet ((go_at_call 54; (with_reducible refine (spec_l1In.calls (rd l1 x5_1) 0 (wrap64 (((rd_L5 l0_2 x5_1).length : Int) - 1)) false _ A11.out).mono ?_); rintro e w' ⟨rfl, ⟨nd, rfl⟩⟩; (try exact ⟨rfl, _, World.drewN_drewN _ _ _⟩))); try go_wp2_with ((go_at_call 54; (with_reducible refine (spec_l1In.calls (rd l1 x5_1) 0 (wrap64 (((rd_L5 l0_2 x5_1).length : Int) - 1)) false _ A11.out).mono ?_); rintro e w' ⟨rfl, ⟨nd, rfl⟩⟩)))
       go_ret
       exact ⟨by rfl, Z.bs HB.out GE643.out⟩
     ·replace c7 := Bool.eq_false_iff.mpr c7
      subst c7
      rw [if_neg (show ¬ (false = true) by decide)] at H
      replace H := Option.bind_eq_some_iff.mp H
      obtain ⟨t647, A150, H⟩ := H
      have A15 := Z.k A150
      clear A150
      by_cases c16 : t647 = true
      ·subst c16
       rw [if_pos rfl] at H
       obtain rfl := Option.some.inj H
       have hcz17 := Z.c3 BK643.out
       go_wp2_with ((go_at_call 70; (with_reducible refine (spec_CharterOk.calls kj3 a0_0 _ _ l0_1 _ _ l0_2 true _ ?q1 ?q2 ?q3 ?q4 A15.out).mono ?_); (case q1 => exact Z.cc HR0_1 HB); (case q2 => exact HC0_1.out); (case q3 => exact Z.cc HR0_2 HB); (case q4 => exact HC0_2.out); rintro e w18 ⟨rfl, hb⟩; replace BK643 := Z.bb BK643 hb; replace HB := Z.st (Z.bs HB.out GE643.out) hb; (try clear hb); have hcz19 := Z.c3 BK643.out))
       go_ret
       exact ⟨by rfl, Z.bs HB.out GE643.out⟩
      ·replace c16 := Bool.eq_false_iff.mpr c16
       subst c16
       rw [if_neg (show ¬ (false = true) by decide)] at H
       obtain rfl := Option.some.inj H
       have hcz20 := Z.c3 BK643.out
       go_wp2_with ((go_at_call 70; (with_reducible refine (spec_CharterOk.calls kj3 a0_0 _ _ l0_1 _ _ l0_2 false _ ?q1 ?q2 ?q3 ?q4 A15.out).mono ?_); (case q1 => exact Z.cc HR0_1 HB); (case q2 => exact HC0_1.out); (case q3 => exact Z.cc HR0_2 HB); (case q4 => exact HC0_2.out); rintro e w21 ⟨rfl, hb⟩; replace BK643 := Z.bb BK643 hb; replace HB := Z.st (Z.bs HB.out GE643.out) hb; (try clear hb)))
       go_ret
       exact ⟨by rfl, Z.bs HB.out GE643.out⟩

/-! ### impl_mayAct: function 76 -/
def impl_mayAct.f (k : Nat) (a0_0 : Int) (l0_1 : List Int) (l0_2 : List (List (S91))) (l1 : List Int) (a2_0 : Int) (a2_1 : Int) (a2_2 : Int) : Option (Bool) := (impl_isCrowd.f a0_0 a2_2).bind fun t650 => (if t650 = true then ((impl_mayChange.f k a0_0 l0_1 l0_2 l1 a2_0 a2_1 a2_2).bind fun t651 => (some t651)) else (some false))
theorem impl_mayAct.mono : ∀ a0 a1 a2 a3 a4 a5 a6 k, LeO (impl_mayAct.f k a0 a1 a2 a3 a4 a5 a6) (impl_mayAct.f (k + 1) a0 a1 a2 a3 a4 a5 a6) := by
 intro a0 a1 a2 a3 a4 a5 a6 k
 unfold impl_mayAct.f
 repeat' first
   | (with_reducible exact LeO.refl _)
   | exact impl_mayChange.mono _ _ _ _ _ _ _ _
   | exact LeO.none _
   | refine LeO.ite ?_ ?_
   | refine LeO.bind ?_ (fun _ => ?_)
set_option maxHeartbeats 8000000 in
set_option maxRecDepth 100000 in
theorem impl_mayAct.calls (k : Nat) (a0_0 : Int) (A0_1 : Option Addr) (c0_1 : Nat) (l0_1 : List Int) (A0_2 : Option Addr) (c0_2 : Nat) (l0_2 : List (List (S91))) (A1 : Option Addr) (c1 : Nat) (l1 : List Int) (a2_0 : Int) (a2_1 : Int) (a2_2 : Int) (r : Bool) (w : World) (hr0_1 : Kd.C (Kd.int .i64) w A0_1 l0_1.length l0_1) (hc0_1 : l0_1.length ≤ c0_1) (hr0_2 : Kd.C (Kd.slice 91 k91) w A0_2 l0_2.length l0_2) (hc0_2 : l0_2.length ≤ c0_2) (hr1 : Kd.C (Kd.int .i64) w A1 l1.length l1) (hc1 : l1.length ≤ c1) (h : impl_mayAct.f k a0_0 l0_1 l0_2 l1 a2_0 a2_1 a2_2 = some r) :
  Calls Try.prog 76 #[.agg #[.int .i64 a0_0, .slice A0_1 l0_1.length c0_1, .slice A0_2 l0_2.length c0_2], .slice A1 l1.length c1, .agg #[.int .i64 a2_0, .int .i64 a2_1, .int .i64 a2_2]] w fun e w' => e = .returned (.bool r) ∧ Below w.heap.size w w' := by
 have hu46 := Try.underlying46
 have hu48 := Try.underlying48
 have HR0_1 := Z.k hr0_1
 have HC0_1 := Z.k hc0_1
 clear hr0_1 hc0_1
 have HR0_2 := Z.k hr0_2
 have HC0_2 := Z.k hc0_2
 clear hr0_2 hc0_2
 have HR1 := Z.k hr1
 have HC1 := Z.k hc1
 clear hr1 hc1
 have HB := Z.k (Below.refl w.heap.size w)
 have H := h
 clear h
 unfold impl_mayAct.f at H
 replace H := Option.bind_eq_some_iff.mp H
 obtain ⟨t650, A40, H⟩ := H
 have A4 := Z.k A40
 clear A40
 by_cases c5 : t650 = true
 ·subst c5
  rw [if_pos rfl] at H
  replace H := Option.bind_eq_some_iff.mp H
  obtain ⟨t651, A60, H⟩ := H
  have A6 := Z.k A60
  clear A60
  obtain rfl := Option.some.inj H
  go_enter Try.func76, Try.ntmps76
  go_wp2_with (first | ((with_reducible refine gate_dst (N := 3) rfl ?_); refine Z.bx #[.int .i64 a0_0, .slice A0_1 l0_1.length c0_1, .slice A0_2 l0_2.length c0_2] 46 HB ?_; clear HB; intro gb648 w7 BK648 GE648 HB hg hb; have GW648 := GE648; clear hb hg) | ((with_reducible refine gate_dst (N := 5) rfl ?_); refine Z.bz #[.int .i64 a2_0, .int .i64 a2_1, .int .i64 a2_2] 48 HB GE648 ?_; clear HB; intro gb649 w8 BK649 GE649 HB hg hb; have GW649 := GE649; have NB648_649 := Z.nl hg BK648; have NB649_648 := Z.ng hg BK648; replace BK648 := Z.bb BK648 hb; clear hb hg; have hnb9 := NB648_649.out; have hnc9 := NB649_648.out; have hcz10 := Z.c3 BK648.out; have hcz11 := Z.c3 BK649.out) | ((with_reducible refine gate_callee (f := 63) rfl ?_); refine goesL_ (some 12) rfl rfl Try.func63 (by kernel_rfl) rfl #[.int .i64 a0_0, .int .i64 a2_2] rfl Z.ar ?_; (with_reducible refine (impl_isCrowd.calls a0_0 a2_2 true _ A4.out).mono ?_); rintro e w' ⟨rfl, ⟨nd, rfl⟩⟩; refine ⟨_, rfl, ?_⟩) | (go_at_call 77; (with_reducible refine (impl_mayChange.calls k a0_0 _ _ l0_1 _ _ l0_2 _ _ l1 a2_0 a2_1 a2_2 t651 _ ?q1 ?q2 ?q3 ?q4 ?q5 ?q6 A6.out).mono ?_); (case q1 => exact (Kd.C_below HR0_1.out (by repeat ((with_reducible first | exact HB.out | apply pw_below_drewN))))); (case q2 => exact HC0_1.out); (case q3 => exact (Kd.C_below HR0_2.out (by repeat ((with_reducible first | exact HB.out | apply pw_below_drewN))))); (case q4 => exact HC0_2.out); (case q5 => exact (Kd.C_below HR1.out (by repeat ((with_reducible first | exact HB.out | apply pw_below_drewN))))); (case q6 => exact HC1.out); rintro e w12 ⟨rfl, hb⟩; replace BK648 := Z.bb BK648 hb; replace BK649 := Z.bb BK649 hb; replace HB := Z.k (below_step (by repeat ((with_reducible first | exact HB.out | apply pw_below_drewN))) hb); (try clear hb)))
  go_ret
  exact ⟨by rfl, HB.out⟩
 ·replace c5 := Bool.eq_false_iff.mpr c5
  subst c5
  rw [if_neg (show ¬ (false = true) by decide)] at H
  obtain rfl := Option.some.inj H
  go_enter Try.func76, Try.ntmps76
  go_wp2_with (first | ((with_reducible refine gate_dst (N := 3) rfl ?_); refine Z.bx #[.int .i64 a0_0, .slice A0_1 l0_1.length c0_1, .slice A0_2 l0_2.length c0_2] 46 HB ?_; clear HB; intro gb648 w13 BK648 GE648 HB hg hb; have GW648 := GE648; clear hb hg) | ((with_reducible refine gate_dst (N := 5) rfl ?_); refine Z.bz #[.int .i64 a2_0, .int .i64 a2_1, .int .i64 a2_2] 48 HB GE648 ?_; clear HB; intro gb649 w14 BK649 GE649 HB hg hb; have GW649 := GE649; have NB648_649 := Z.nl hg BK648; have NB649_648 := Z.ng hg BK648; replace BK648 := Z.bb BK648 hb; clear hb hg; have hnb15 := NB648_649.out; have hnc15 := NB649_648.out; have hcz16 := Z.c3 BK648.out; have hcz17 := Z.c3 BK649.out) | ((with_reducible refine gate_callee (f := 63) rfl ?_); refine goesL_ (some 12) rfl rfl Try.func63 (by kernel_rfl) rfl #[.int .i64 a0_0, .int .i64 a2_2] rfl Z.ar ?_; (with_reducible refine (impl_isCrowd.calls a0_0 a2_2 false _ A4.out).mono ?_); rintro e w' ⟨rfl, ⟨nd, rfl⟩⟩; refine ⟨_, rfl, ?_⟩))
  go_ret
  exact ⟨by rfl, by repeat ((with_reducible first | exact HB.out | apply pw_below_drewN))⟩

end Go.Proofs.Ytojoblllgddckaa.PAll
