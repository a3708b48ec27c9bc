/- Walks of functions that FnExactMayChange reaches, in the form of the print. -/
import Derived.Test.YtiiddglmoffonaaCFnExactMayChange0
import Derived.Test.YtiiddglmoffonaaCFnExactMayChange2
import Derived.Test.YtiiddglmoffonaaCFnExactMayChange4
import Derived.Test.YtiiddglmoffonaaZ
namespace Go.Proofs.Ytiiddglmoffonaa.PFnExactMayChange
open Go.RowKit Go.Proofs.YtiiddglmoffonaaW.PrintWords Go.Proofs.YtiiddglmoffonaaW.PrintLast Go.Proofs.YtiiddglmoffonaaW.PrintMore

set_option linter.unusedVariables false
set_option linter.unusedSimpArgs false

/-! ### spec_StateOk: function 91 -/
mutual
def spec_StateOk.l0 : Nat → List Int → Int → Int → List Int → List (List (S124)) → Option (Bool)
 | 0, _, _, _, _, _ => none
 | k + 1, x1, x5, x145000, x145001, x145002 => if x5 < (x1.length : Int) then (spec_StateOk.j1 k x1 x5 (decide (x5 < (x145002.length : Int))) x145000 x145001 x145002) else (spec_StateOk.j1 k x1 x5 false x145000 x145001 x145002)
def spec_StateOk.j1 : Nat → List Int → Int → Bool → Int → List Int → List (List (S124)) → Option (Bool)
 | 0, _, _, _, _, _, _ => none
 | k + 1, x1, x5, x16, x145000, x145001, x145002 => if x16 = true then (if 0 ≤ x5 then (if x5 < (x1.length : Int) then (if x5 < (x145002.length : Int) then ((spec_l1In.f (rd x1 x5) 0 (wrap64 (((rd_L8 x145002 x5).length : Int) - 1))).bind fun t147 => (if t147 = true then (spec_StateOk.l0 k x1 (wrap64 (x5 + 1)) x145000 x145001 x145002) else (some false))) else (none)) else (none)) else (none)) else ((spec_CharterOk.f k x145000 x145001 x145002).bind fun t148 => (if t148 = true then (some ((x1.length : Int) == (x145002.length : Int))) else (some false)))
end
def spec_StateOk.f (k : Nat) (a0_0 : Int) (l0_1 : List Int) (l0_2 : List (List (S124))) (l1 : List Int) : Option (Bool) := spec_StateOk.l0 k l1 0 a0_0 l0_1 l0_2
theorem spec_StateOk.mono_l : ∀ k, (∀ y0 y1 y2 y3 y4, LeO (spec_StateOk.l0 k y0 y1 y2 y3 y4) (spec_StateOk.l0 (k + 1) y0 y1 y2 y3 y4)) ∧ (∀ y0 y1 y2 y3 y4 y5, LeO (spec_StateOk.j1 k y0 y1 y2 y3 y4 y5) (spec_StateOk.j1 (k + 1) y0 y1 y2 y3 y4 y5))
 | 0 => ⟨fun _ _ _ _ _ r h => by simp [spec_StateOk.l0] at h, fun _ _ _ _ _ _ r h => by simp [spec_StateOk.j1] at h⟩
 | k + 1 => by
  obtain ⟨ih0, ih1⟩ := spec_StateOk.mono_l k
  refine ⟨?_, ?_⟩
  ·intro y0 y1 y2 y3 y4
   unfold spec_StateOk.l0
   repeat' first
   | (with_reducible exact ih0 _ _ _ _ _)
   | (with_reducible exact ih1 _ _ _ _ _ _)
   | (with_reducible exact spec_CharterOk.mono _ _ _ _)
   | (with_reducible exact LeO.refl _)
   | (with_reducible exact LeO.none _)
   | (with_reducible refine LeO.ite ?_ ?_)
   | (with_reducible refine LeO.bind ?_ (fun _ => ?_))
   | exact ih0 _ _ _ _ _
   | exact ih1 _ _ _ _ _ _
   | exact spec_CharterOk.mono _ _ _ _
   | exact LeO.none _
   | refine LeO.ite ?_ ?_
   | refine LeO.bind ?_ (fun _ => ?_)
  ·intro y0 y1 y2 y3 y4 y5
   unfold spec_StateOk.j1
   repeat' first
   | (with_reducible exact ih0 _ _ _ _ _)
   | (with_reducible exact ih1 _ _ _ _ _ _)
   | (with_reducible exact spec_CharterOk.mono _ _ _ _)
   | (with_reducible exact LeO.refl _)
   | (with_reducible exact LeO.none _)
   | (with_reducible refine LeO.ite ?_ ?_)
   | (with_reducible refine LeO.bind ?_ (fun _ => ?_))
   | exact ih0 _ _ _ _ _
   | exact ih1 _ _ _ _ _ _
   | exact spec_CharterOk.mono _ _ _ _
   | exact LeO.none _
   | refine LeO.ite ?_ ?_
   | refine LeO.bind ?_ (fun _ => ?_)
theorem spec_StateOk.mono : ∀ a0 a1 a2 a3 k, LeO (spec_StateOk.f k a0 a1 a2 a3) (spec_StateOk.f (k + 1) a0 a1 a2 a3) := by
 intro a0 a1 a2 a3 k
 obtain ⟨ih0, ih1⟩ := spec_StateOk.mono_l k
 unfold spec_StateOk.f
 repeat' first
   | (with_reducible exact ih0 _ _ _ _ _)
   | (with_reducible exact ih1 _ _ _ _ _ _)
   | (with_reducible exact spec_CharterOk.mono _ _ _ _)
   | (with_reducible exact LeO.refl _)
   | (with_reducible exact LeO.none _)
   | (with_reducible refine LeO.ite ?_ ?_)
   | (with_reducible refine LeO.bind ?_ (fun _ => ?_))
   | exact ih0 _ _ _ _ _
   | exact ih1 _ _ _ _ _ _
   | exact spec_CharterOk.mono _ _ _ _
   | exact LeO.none _
   | refine LeO.ite ?_ ?_
   | refine LeO.bind ?_ (fun _ => ?_)
set_option maxHeartbeats 8000000 in
set_option maxRecDepth 100000 in
theorem spec_StateOk.calls (k : Nat) (a0_0 : Int) (A0_1 : Option Addr) (c0_1 : Nat) (l0_1 : List Int) (A0_2 : Option Addr) (c0_2 : Nat) (l0_2 : List (List (S124))) (A1 : Option Addr) (c1 : Nat) (l1 : List Int) (r : Bool) (w : World) (hr0_1 : Kd.C (Kd.int .i64) w A0_1 l0_1.length l0_1) (hc0_1 : l0_1.length ≤ c0_1) (hr0_2 : Kd.C (Kd.slice 124 k124) w A0_2 l0_2.length l0_2) (hc0_2 : l0_2.length ≤ c0_2) (hr1 : Kd.C (Kd.int .i64) w A1 l1.length l1) (hc1 : l1.length ≤ c1) (h : spec_StateOk.f k a0_0 l0_1 l0_2 l1 = some r) :
  Calls Try.prog 91 #[.agg #[.int .i64 a0_0, .slice A0_1 l0_1.length c0_1, .slice A0_2 l0_2.length c0_2], .slice A1 l1.length c1] w fun e w' => e = .returned (.bool r) ∧ Below w.heap.size w w' := by
 have hu67 := Try.underlying67
 have HR0_1 := Aside0.mk hr0_1
 have HC0_1 := Aside0.mk hc0_1
 clear hr0_1 hc0_1
 have HR0_2 := Aside0.mk hr0_2
 have HC0_2 := Aside0.mk hc0_2
 clear hr0_2 hc0_2
 have HR1 := Aside0.mk hr1
 have HC1 := Aside0.mk hc1
 clear hr1 hc1
 have HB := Aside0.mk (Below.refl w.heap.size w)
 have H : (spec_StateOk.l0 k l1 0 a0_0 l0_1 l0_2) = some r := h
 clear h
 have H' := Aside0.mk H
 clear H
 go_enter Try.func91, Try.ntmps91
 go_wp2_with (((with_reducible refine gate_dst (N := 2) rfl ?_); (try (refine gate_guard (by rfl) ?_; dsimp only)); refine box_event ?hg (N := 2) ?hd (cs := #[.int .i64 a0_0, .slice A0_1 l0_1.length c0_1, .slice A0_2 l0_2.length c0_2]) (t := 67) ?hr ?_; (case hd => rfl); (case hg => rfl); (case hr => (go_simp; done)); intro gb144 hg w3 hbox hb; have n0_ := Aside0.mk (below_step (Z.bl HB.out) hb); have n1_ := Aside0.mk (hbox); have n2_ := Aside0.mk ((by rw [hg]; exact (below_size (Z.bl HB.out)) : w.heap.size ≤ gb144)); have n3_ := Aside0.mk ((by rw [hg]; exact (below_size (Z.bl HB.out)) : w.heap.size ≤ gb144)); clear HB; have HB := n0_; have BK144 := n1_; have GW144 := n2_; have GE144 := n3_; clear n0_ n1_ n2_ n3_; clear hb hbox hg))
 go_loopg [5] k (fun kq v5 w' => ∃ (x5_1 : Int), v5 = .int .i64 x5_1 ∧ Aside0 (spec_StateOk.l0 kq l1 x5_1 a0_0 l0_1 l0_2 = some r) ∧ Aside0 (kq ≤ k) ∧ Aside0 (w'.heap[gb144]? = some (.cells #[.int .i64 a0_0, (.slice A0_1 l0_1.length c0_1), (.slice A0_2 l0_2.length c0_2)] 67 (0, 0))) ∧ Aside0 (Below w.heap.size w w'))
 case atStart => exact ⟨(0), (by rfl), H', ⟨Nat.le_refl _⟩, ⟨by (with_reducible skip); exact BK144.out⟩, ⟨Z.bs HB.out GE144.out⟩⟩
 case round =>
  clear H'
  obtain ⟨x5_1, rfl, HA, HK1, BK144, HB⟩ := hrel
  cases gk with
  | zero => exact absurd HA.out (by simp [spec_StateOk.l0])
  | succ k1 =>
   have H := HA.out
   clear HA
   simp only [spec_StateOk.l0] at H
   have HC4 := Aside0.mk H
   clear H
   go_upto_region 2 with (fail)
   go_cut [16] (fun v16 wc => ∃ (kq : Nat) (x16_3 : Bool), v16 = .bool x16_3 ∧ Aside0 (spec_StateOk.j1 kq l1 x5_1 x16_3 a0_0 l0_1 l0_2 = some r) ∧ Aside0 (kq ≤ k1) ∧ Aside0 (wc.heap[gb144]? = some (.cells #[.int .i64 a0_0, (.slice A0_1 l0_1.length c0_1), (.slice A0_2 l0_2.length c0_2)] 67 (0, 0))) ∧ Aside0 (Below w.heap.size w wc))
   case first =>
    have H := HC4.out
    clear HC4
    by_cases c5 : x5_1 < (l1.length : Int)
    ·rw [if_pos c5] at H
     have c5b0 : decide (x5_1 < (l1.length : Int)) = true := decide_eq_true c5
     clear c5
     have H' := Aside0.mk H
     clear H
     have hcz6_0 : wr.cell? ⟨gb144, 0, none⟩ = some (.int .i64 a0_0) := (blk_cell BK144.out 0).trans rfl
     have hcz6_1 : wr.cell? ⟨gb144, 1, none⟩ = some (.slice A0_1 l0_1.length c0_1) := (blk_cell BK144.out 1).trans rfl
     have hcz6_2 : wr.cell? ⟨gb144, 2, none⟩ = some (.slice A0_2 l0_2.length c0_2) := (blk_cell BK144.out 2).trans rfl
     have hfz6_0 := blk_frozen BK144.out 0
     have hfz6_1 := blk_frozen BK144.out 1
     have hfz6_2 := blk_frozen BK144.out 2
     go_wp2
     go_meet
     case rel => exact ⟨_, (decide (x5_1 < (l0_2.length : Int))), (by rfl), H', ⟨by have := HK1.out; omega⟩, ⟨by (with_reducible skip); exact BK144.out⟩, ⟨Z.bs HB.out GE144.out⟩⟩
    ·rw [if_neg c5] at H
     have c5b0 : decide (x5_1 < (l1.length : Int)) = false := decide_eq_false c5
     clear c5
     have H' := Aside0.mk H
     clear H
     go_wp2
     go_meet
     case rel => exact ⟨_, (false), (by rfl), H', ⟨by have := HK1.out; omega⟩, ⟨by (with_reducible skip); exact BK144.out⟩, ⟨Z.bs HB.out GE144.out⟩⟩
   case rest =>
    clear HC4
    obtain ⟨kq, x16_3, rfl, HA, HJ3, BK144, HB⟩ := hcut
    cases kq with
    | zero => exact absurd HA.out (by simp [spec_StateOk.j1])
    | succ kj3 =>
     have H := HA.out
     clear HA
     simp only [spec_StateOk.j1] at H
     by_cases c7 : x16_3 = true
     ·subst c7
      have H1 : (if 0 ≤ x5_1 then (if x5_1 < (l1.length : Int) then (if x5_1 < (l0_2.length : Int) then ((spec_l1In.f (rd l1 x5_1) 0 (wrap64 (((rd_L8 l0_2 x5_1).length : Int) - 1))).bind fun t147 => (if t147 = true then (spec_StateOk.l0 kj3 l1 (wrap64 (x5_1 + 1)) a0_0 l0_1 l0_2) else (some false))) else (none)) else (none)) else (none)) = some r := by rw [if_pos rfl] at H; exact H
      clear H
      have H := H1
      clear H1
      by_cases c8 : 0 ≤ x5_1
      ·rw [if_pos c8] at H
       have c8b0 : decide (0 ≤ x5_1) = true := decide_eq_true c8
       clear c8
       by_cases c9 : x5_1 < (l1.length : Int)
       ·rw [if_pos c9] at H
        have c9b0 : decide (x5_1 < (l1.length : Int)) = true := decide_eq_true c9
        clear c9
        by_cases c10 : x5_1 < (l0_2.length : Int)
        ·rw [if_pos c10] at H
         have c10b0 : decide (x5_1 < (l0_2.length : Int)) = true := decide_eq_true c10
         clear c10
         replace H := Option.bind_eq_some_iff.mp H
         obtain ⟨t147, A110, H⟩ := H
         replace H : (if t147 = true then (spec_StateOk.l0 kj3 l1 (wrap64 (x5_1 + 1)) a0_0 l0_1 l0_2) else (some false)) = some r := H
         have A11 := Aside0.mk A110
         clear A110
         by_cases c12 : t147 = true
         ·subst c12
          have H1 : (spec_StateOk.l0 kj3 l1 (wrap64 (x5_1 + 1)) a0_0 l0_1 l0_2) = some r := by rw [if_pos rfl] at H; exact H
          clear H
          have H := H1
          clear H1
          have H' := Aside0.mk H
          clear H
          have p145 : 0 ≤ (x5_1 : Int) := Z.od
          have q145 : x5_1 < (l1.length : Int) := Z.od
          obtain ⟨ad145, e145, hx145_0⟩ := Kd.at_int HR1.out x5_1 p145 q145
          cases e145
          replace hx145_0 := Z.up HB.out hx145_0
          replace p145 := eq_true p145
          replace q145 := eq_true q145
          have hcz13_0 : wc.cell? ⟨gb144, 0, none⟩ = some (.int .i64 a0_0) := (blk_cell BK144.out 0).trans rfl
          have hcz13_1 : wc.cell? ⟨gb144, 1, none⟩ = some (.slice A0_1 l0_1.length c0_1) := (blk_cell BK144.out 1).trans rfl
          have hcz13_2 : wc.cell? ⟨gb144, 2, none⟩ = some (.slice A0_2 l0_2.length c0_2) := (blk_cell BK144.out 2).trans rfl
          have hfz13_0 := blk_frozen BK144.out 0
          have hfz13_1 := blk_frozen BK144.out 1
          have hfz13_2 := blk_frozen BK144.out 2
          have p146 : 0 ≤ (x5_1 : Int) := Z.od
          have q146 : x5_1 < (l0_2.length : Int) := Z.od
          obtain ⟨ad146, A146_0, c146_0, e146, hx146_0, hl146_0, hi146_0⟩ := at_L8 HR0_2.out x5_1 p146 q146
          cases e146
          replace hx146_0 := Z.up HB.out hx146_0
          have HR146_0 := Aside0.mk hi146_0
          have HC146_0 := Aside0.mk hl146_0
          clear hi146_0 hl146_0
          replace p146 := eq_true p146
          replace q146 := eq_true q146
          go_wp2_with ((go_at_call 77; (with_reducible refine (spec_l1In.calls (rd l1 x5_1) 0 (wrap64 (((rd_L8 l0_2 x5_1).length : Int) - 1)) true _ A11.out).mono ?_); rintro e w' ⟨rfl, ⟨nd, rfl⟩⟩))
          repeat (go_quiet ((go_at_call 77; (with_reducible refine (spec_l1In.calls (rd l1 x5_1) 0 (wrap64 (((rd_L8 l0_2 x5_1).length : Int) - 1)) true _ A11.out).mono ?_); rintro e w' ⟨rfl, ⟨nd, rfl⟩⟩; (try exact ⟨rfl, _, World.drewN_drewN _ _ _⟩))); try go_wp2_with ((go_at_call 77; (with_reducible refine (spec_l1In.calls (rd l1 x5_1) 0 (wrap64 (((rd_L8 l0_2 x5_1).length : Int) - 1)) true _ A11.out).mono ?_); rintro e w' ⟨rfl, ⟨nd, rfl⟩⟩)))
          go_roundg kj3
          case measure => have := HK1.out; have := HJ3.out; omega
          case rel => exact ⟨(wrap64 (x5_1 + 1)), (by rfl), H', ⟨by have := HK1.out; have := HJ3.out; omega⟩, ⟨by (with_reducible repeat (refine blk_drewN ?_ _)); exact BK144.out⟩, ⟨Z.bs HB.out GE144.out⟩⟩
         ·replace c12 := Bool.eq_false_iff.mpr c12
          subst c12
          have H1 : (some false) = some r := by rw [if_neg (show ¬ (false = true) by decide)] at H; exact H
          clear H
          have H := H1
          clear H1
          obtain rfl := Option.some.inj H
          have p145 : 0 ≤ (x5_1 : Int) := Z.od
          have q145 : x5_1 < (l1.length : Int) := Z.od
          obtain ⟨ad145, e145, hx145_0⟩ := Kd.at_int HR1.out x5_1 p145 q145
          cases e145
          replace hx145_0 := Z.up HB.out hx145_0
          replace p145 := eq_true p145
          replace q145 := eq_true q145
          have hcz14_0 : wc.cell? ⟨gb144, 0, none⟩ = some (.int .i64 a0_0) := (blk_cell BK144.out 0).trans rfl
          have hcz14_1 : wc.cell? ⟨gb144, 1, none⟩ = some (.slice A0_1 l0_1.length c0_1) := (blk_cell BK144.out 1).trans rfl
          have hcz14_2 : wc.cell? ⟨gb144, 2, none⟩ = some (.slice A0_2 l0_2.length c0_2) := (blk_cell BK144.out 2).trans rfl
          have hfz14_0 := blk_frozen BK144.out 0
          have hfz14_1 := blk_frozen BK144.out 1
          have hfz14_2 := blk_frozen BK144.out 2
          have p146 : 0 ≤ (x5_1 : Int) := Z.od
          have q146 : x5_1 < (l0_2.length : Int) := Z.od
          obtain ⟨ad146, A146_0, c146_0, e146, hx146_0, hl146_0, hi146_0⟩ := at_L8 HR0_2.out x5_1 p146 q146
          cases e146
          replace hx146_0 := Z.up HB.out hx146_0
          have HR146_0 := Aside0.mk hi146_0
          have HC146_0 := Aside0.mk hl146_0
          clear hi146_0 hl146_0
          replace p146 := eq_true p146
          replace q146 := eq_true q146
          go_wp2_with ((go_at_call 77; (with_reducible refine (spec_l1In.calls (rd l1 x5_1) 0 (wrap64 (((rd_L8 l0_2 x5_1).length : Int) - 1)) false _ A11.out).mono ?_); rintro e w' ⟨rfl, ⟨nd, rfl⟩⟩))
          repeat (go_quiet ((go_at_call 77; (with_reducible refine (spec_l1In.calls (rd l1 x5_1) 0 (wrap64 (((rd_L8 l0_2 x5_1).length : Int) - 1)) false _ A11.out).mono ?_); rintro e w' ⟨rfl, ⟨nd, rfl⟩⟩; (try exact ⟨rfl, _, World.drewN_drewN _ _ _⟩))); try go_wp2_with ((go_at_call 77; (with_reducible refine (spec_l1In.calls (rd l1 x5_1) 0 (wrap64 (((rd_L8 l0_2 x5_1).length : Int) - 1)) false _ A11.out).mono ?_); rintro e w' ⟨rfl, ⟨nd, rfl⟩⟩)))
          go_ret
          exact ⟨by rfl, Z.bs HB.out GE144.out⟩
        ·rw [if_neg c10] at H
         exact absurd H (by simp)
       ·rw [if_neg c9] at H
        exact absurd H (by simp)
      ·rw [if_neg c8] at H
       exact absurd H (by simp)
     ·replace c7 := Bool.eq_false_iff.mpr c7
      subst c7
      have H1 : ((spec_CharterOk.f kj3 a0_0 l0_1 l0_2).bind fun t148 => (if t148 = true then (some ((l1.length : Int) == (l0_2.length : Int))) else (some false))) = some r := by rw [if_neg (show ¬ (false = true) by decide)] at H; exact H
      clear H
      have H := H1
      clear H1
      replace H := Option.bind_eq_some_iff.mp H
      obtain ⟨t148, A150, H⟩ := H
      replace H : (if t148 = true then (some ((l1.length : Int) == (l0_2.length : Int))) else (some false)) = some r := H
      have A15 := Aside0.mk A150
      clear A150
      by_cases c16 : t148 = true
      ·subst c16
       have H1 : (some ((l1.length : Int) == (l0_2.length : Int))) = some r := by rw [if_pos rfl] at H; exact H
       clear H
       have H := H1
       clear H1
       obtain rfl := Option.some.inj H
       have hcz17_0 : wc.cell? ⟨gb144, 0, none⟩ = some (.int .i64 a0_0) := (blk_cell BK144.out 0).trans rfl
       have hcz17_1 : wc.cell? ⟨gb144, 1, none⟩ = some (.slice A0_1 l0_1.length c0_1) := (blk_cell BK144.out 1).trans rfl
       have hcz17_2 : wc.cell? ⟨gb144, 2, none⟩ = some (.slice A0_2 l0_2.length c0_2) := (blk_cell BK144.out 2).trans rfl
       have hfz17_0 := blk_frozen BK144.out 0
       have hfz17_1 := blk_frozen BK144.out 1
       have hfz17_2 := blk_frozen BK144.out 2
       go_wp2_with ((go_at_call 112; (with_reducible refine (spec_CharterOk.calls kj3 a0_0 _ _ l0_1 _ _ l0_2 true _ ?side1 ?side2 ?side3 ?side4 A15.out).mono ?_); (case side1 => exact Z.cb (Kd.C_below HR0_1.out HB.out)); (case side2 => exact HC0_1.out); (case side3 => exact Z.cb (Kd.C_below HR0_2.out HB.out)); (case side4 => exact HC0_2.out); rintro e w18 ⟨rfl, hb⟩; have n0_ := Aside0.mk (blk_below (g := gb144) (o := .cells #[.int .i64 a0_0, .slice A0_1 l0_1.length c0_1, .slice A0_2 l0_2.length c0_2] 67 (0, 0)) (Z.bk BK144.out) hb); have n1_ := Aside0.mk (below_step (Z.bs HB.out GE144.out) hb); clear BK144; clear HB; have BK144 := n0_; have HB := n1_; clear n0_ n1_; (try clear hb); have hcz19_0 : w18.cell? ⟨gb144, 0, none⟩ = some (.int .i64 a0_0) := (blk_cell BK144.out 0).trans rfl; have hcz19_1 : w18.cell? ⟨gb144, 1, none⟩ = some (.slice A0_1 l0_1.length c0_1) := (blk_cell BK144.out 1).trans rfl; have hcz19_2 : w18.cell? ⟨gb144, 2, none⟩ = some (.slice A0_2 l0_2.length c0_2) := (blk_cell BK144.out 2).trans rfl; have hfz19_0 := blk_frozen BK144.out 0; have hfz19_1 := blk_frozen BK144.out 1; have hfz19_2 := blk_frozen BK144.out 2))
       go_ret
       exact ⟨by rfl, Z.bs HB.out GE144.out⟩
      ·replace c16 := Bool.eq_false_iff.mpr c16
       subst c16
       have H1 : (some false) = some r := by rw [if_neg (show ¬ (false = true) by decide)] at H; exact H
       clear H
       have H := H1
       clear H1
       obtain rfl := Option.some.inj H
       have hcz20_0 : wc.cell? ⟨gb144, 0, none⟩ = some (.int .i64 a0_0) := (blk_cell BK144.out 0).trans rfl
       have hcz20_1 : wc.cell? ⟨gb144, 1, none⟩ = some (.slice A0_1 l0_1.length c0_1) := (blk_cell BK144.out 1).trans rfl
       have hcz20_2 : wc.cell? ⟨gb144, 2, none⟩ = some (.slice A0_2 l0_2.length c0_2) := (blk_cell BK144.out 2).trans rfl
       have hfz20_0 := blk_frozen BK144.out 0
       have hfz20_1 := blk_frozen BK144.out 1
       have hfz20_2 := blk_frozen BK144.out 2
       go_wp2_with ((go_at_call 112; (with_reducible refine (spec_CharterOk.calls kj3 a0_0 _ _ l0_1 _ _ l0_2 false _ ?side1 ?side2 ?side3 ?side4 A15.out).mono ?_); (case side1 => exact Z.cb (Kd.C_below HR0_1.out HB.out)); (case side2 => exact HC0_1.out); (case side3 => exact Z.cb (Kd.C_below HR0_2.out HB.out)); (case side4 => exact HC0_2.out); rintro e w21 ⟨rfl, hb⟩; have n0_ := Aside0.mk (blk_below (g := gb144) (o := .cells #[.int .i64 a0_0, .slice A0_1 l0_1.length c0_1, .slice A0_2 l0_2.length c0_2] 67 (0, 0)) (Z.bk BK144.out) hb); have n1_ := Aside0.mk (below_step (Z.bs HB.out GE144.out) hb); clear BK144; clear HB; have BK144 := n0_; have HB := n1_; clear n0_ n1_; (try clear hb)))
       go_ret
       exact ⟨by rfl, Z.bs HB.out GE144.out⟩

/-! ### spec_l3Starts: function 110 -/
def spec_l3Starts.l0 : Nat → List (S48) → Int → Int → Option (Int)
 | 0, _, _, _ => none
 | k + 1, x0, x5, x6 => if x5 > 0 then (if 0 ≤ x6 then (if x6 < (x0.length : Int) then (if ((rd_T48 x0 x6).f0) = 0 then (spec_l3Starts.l0 k x0 (wrap64 (x5 - 1)) (wrap64 (x6 - 1))) else (spec_l3Starts.l0 k x0 (wrap64 (x5 + 1)) (wrap64 (x6 - 1)))) else (none)) else (none)) else (some (wrap64 (x6 + 1)))
def spec_l3Starts.f (k : Nat) (l0 : List (S48)) (a1 : Int) : Option (Int) := spec_l3Starts.l0 k l0 1 a1
theorem spec_l3Starts.mono_l : ∀ k, (∀ y0 y1 y2, LeO (spec_l3Starts.l0 k y0 y1 y2) (spec_l3Starts.l0 (k + 1) y0 y1 y2))
 | 0 => fun _ _ _ r h => by simp [spec_l3Starts.l0] at h
 | k + 1 => by
  have ih0 := spec_l3Starts.mono_l k
  ·intro y0 y1 y2
   unfold spec_l3Starts.l0
   repeat' first
   | (with_reducible exact ih0 _ _ _)
   | (with_reducible exact LeO.refl _)
   | (with_reducible exact LeO.none _)
   | (with_reducible refine LeO.ite ?_ ?_)
   | (with_reducible refine LeO.bind ?_ (fun _ => ?_))
   | exact ih0 _ _ _
   | exact LeO.none _
   | refine LeO.ite ?_ ?_
   | refine LeO.bind ?_ (fun _ => ?_)
theorem spec_l3Starts.mono : ∀ a0 a1 k, LeO (spec_l3Starts.f k a0 a1) (spec_l3Starts.f (k + 1) a0 a1) := by
 intro a0 a1 k
 have ih0 := spec_l3Starts.mono_l k
 unfold spec_l3Starts.f
 repeat' first
   | (with_reducible exact ih0 _ _ _)
   | (with_reducible exact LeO.refl _)
   | (with_reducible exact LeO.none _)
   | (with_reducible refine LeO.ite ?_ ?_)
   | (with_reducible refine LeO.bind ?_ (fun _ => ?_))
   | exact ih0 _ _ _
   | exact LeO.none _
   | refine LeO.ite ?_ ?_
   | refine LeO.bind ?_ (fun _ => ?_)
set_option maxHeartbeats 8000000 in
set_option maxRecDepth 100000 in
theorem spec_l3Starts.calls (k : Nat) (A0 : Option Addr) (c0 : Nat) (l0 : List (S48)) (a1 : Int) (r : Int) (w : World) (hr0 : Kd.C k48 w A0 l0.length l0) (hc0 : l0.length ≤ c0) (h : spec_l3Starts.f k l0 a1 = some r) :
  Calls Try.prog 110 #[.slice A0 l0.length c0, .int .i64 a1] w fun e w' => e = .returned (.int .i64 r) ∧ Drawn0 w w' := by
 have HR0 := Aside0.mk hr0
 have HC0 := Aside0.mk hc0
 clear hr0 hc0
 have H : (spec_l3Starts.l0 k l0 1 a1) = some r := h
 clear h
 have H' := Aside0.mk H
 clear H
 go_enter Try.func110, Try.ntmps110
 go_wp2
 go_loopg [5, 6] k (fun kq v5 v6 w' => ∃ (x5_1 : Int) (x6_1 : Int), v5 = .int .i64 x5_1 ∧ v6 = .int .i64 x6_1 ∧ Aside0 (spec_l3Starts.l0 kq l0 x5_1 x6_1 = some r) ∧ Aside0 (kq ≤ k) ∧ Drawn0 w w')
 case atStart => exact ⟨(1), (a1), (by rfl), (by rfl), H', ⟨Nat.le_refl _⟩, by repeat (exact Drawn0.refl _)⟩
 case round =>
  clear H'
  obtain ⟨x5_1, x6_1, rfl, rfl, HA, HK1, ⟨m1, rfl⟩⟩ := hrel
  cases gk with
  | zero => exact absurd HA.out (by simp [spec_l3Starts.l0])
  | succ k1 =>
   have H := HA.out
   clear HA
   simp only [spec_l3Starts.l0] at H
   by_cases c3 : x5_1 > 0
   ·rw [if_pos c3] at H
    have c3b0 : decide (0 < x5_1) = true := decide_eq_true c3
    clear c3
    by_cases c4 : 0 ≤ x6_1
    ·rw [if_pos c4] at H
     have c4b0 : decide (0 ≤ x6_1) = true := decide_eq_true c4
     clear c4
     by_cases c5 : x6_1 < (l0.length : Int)
     ·rw [if_pos c5] at H
      have c5b0 : decide (x6_1 < (l0.length : Int)) = true := decide_eq_true c5
      clear c5
      by_cases c6 : ((rd_T48 l0 x6_1).f0) = 0
      ·rw [if_pos c6] at H
       have c6b0 : (((rd_T48 l0 x6_1).f0) == 0) = true := beq_iff_eq.mpr c6
       have c6b1 : (((rd_T48 l0 x6_1).f0) != 0) = false := bne_eq_false_iff_eq.mpr c6
       clear c6
       have H' := Aside0.mk H
       clear H
       have p149 : 0 ≤ (x6_1 : Int) := Z.od
       have q149 : x6_1 < (l0.length : Int) := Z.od
       obtain ⟨ad149, e149, hx149_0, hx149_1, hx149_2⟩ := at_T48 HR0.out x6_1 p149 q149
       cases e149
       replace p149 := eq_true p149
       replace q149 := eq_true q149
       go_wp2
       go_roundg k1
       case measure => have := HK1.out; omega
       case rel => exact ⟨(wrap64 (x5_1 - 1)), (wrap64 (x6_1 - 1)), (by rfl), (by rfl), H', ⟨by have := HK1.out; omega⟩, by repeat (first | exact Drawn0.refl _ | apply Drawn0.step)⟩
      ·rw [if_neg c6] at H
       have c6b0 : (((rd_T48 l0 x6_1).f0) == 0) = false := beq_eq_false_iff_ne.mpr c6
       have c6b1 : (((rd_T48 l0 x6_1).f0) != 0) = true := bne_iff_ne.mpr c6
       have H' := Aside0.mk H
       clear H
       have p149 : 0 ≤ (x6_1 : Int) := Z.od
       have q149 : x6_1 < (l0.length : Int) := Z.od
       obtain ⟨ad149, e149, hx149_0, hx149_1, hx149_2⟩ := at_T48 HR0.out x6_1 p149 q149
       cases e149
       replace p149 := eq_true p149
       replace q149 := eq_true q149
       go_wp2
       go_roundg k1
       case measure => have := HK1.out; omega
       case rel => exact ⟨(wrap64 (x5_1 + 1)), (wrap64 (x6_1 - 1)), (by rfl), (by rfl), H', ⟨by have := HK1.out; omega⟩, by repeat (first | exact Drawn0.refl _ | apply Drawn0.step)⟩
     ·rw [if_neg c5] at H
      exact absurd H (by simp)
    ·rw [if_neg c4] at H
     exact absurd H (by simp)
   ·rw [if_neg c3] at H
    have c3b0 : decide (0 < x5_1) = false := decide_eq_false c3
    clear c3
    obtain rfl := Option.some.inj H
    go_wp2
    go_ret
    exact ⟨by rfl, by repeat (first | exact Drawn0.refl _ | apply Drawn0.step)⟩

end Go.Proofs.Ytiiddglmoffonaa.PFnExactMayChange
