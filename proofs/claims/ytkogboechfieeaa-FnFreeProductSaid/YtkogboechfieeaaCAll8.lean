/- Walks of functions that laws of this seat reach, in the form of the print. -/
import Derived.Test.YtkogboechfieeaaCAll7
-- PRINTED
namespace Go.Proofs.Ytkogboechfieeaa.PAll
open Go.RowKit Go.Proofs.YtkogboechfieeaaW.PrintWords Go.Proofs.YtkogboechfieeaaW.PrintLast Go.Proofs.YtkogboechfieeaaW.PrintMore
attribute [local go_sem] max2_int min2_int max_two min_two max_three min_three max_four min_four
set_option linter.unusedVariables false
set_option linter.unusedSimpArgs false

/-! ### impl_isCharter: function 92 -/
mutual
def impl_isCharter.j0 : Nat → Bool → Int → List Int → List (List (S37)) → Option (Bool)
 | 0, _, _, _, _ => none
 | k + 1, x22, x74, x75, x72 => if x22 = true then (some false) else (impl_isCharter.l0 k x72 (x72.length : Int) 0 x74 x75 x72)
def impl_isCharter.l0 : Nat → List (List (S37)) → Int → Int → Int → List Int → List (List (S37)) → Option (Bool)
 | 0, _, _, _, _, _, _ => none
 | k + 1, x24, x25, x26, x74, x75, x72 => if x26 < x25 then (if 0 ≤ x26 then (if x26 < (x24.length : Int) then (if ((rd_L5 x24 x26).length : Int) < 1 then (impl_isCharter.j2 k x26 (rd_L5 x24 x26) x24 x25 x26 true x74 x75 x72) else (impl_isCharter.j2 k x26 (rd_L5 x24 x26) x24 x25 x26 (decide (((rd_L5 x24 x26).length : Int) > 3)) x74 x75 x72)) else (none)) else (none)) else (some true)
def impl_isCharter.j2 : Nat → Int → List (S37) → List (List (S37)) → Int → Int → Bool → Int → List Int → List (List (S37)) → Option (Bool)
 | 0, _, _, _, _, _, _, _, _, _ => none
 | k + 1, x3, x4, x24, x25, x26, x38, x74, x75, x72 => if x38 = true then (some false) else (impl_isCharter.l1 k x3 x24 x25 x26 x4 (x4.length : Int) 0 x74 x75 x72)
def impl_isCharter.l1 : Nat → Int → List (List (S37)) → Int → Int → List (S37) → Int → Int → Int → List Int → List (List (S37)) → Option (Bool)
 | 0, _, _, _, _, _, _, _, _, _, _ => none
 | k + 1, x3, x24, x25, x26, x39, x40, x41, x74, x75, x72 => if x41 < x40 then (if 0 ≤ x41 then (if x41 < (x39.length : Int) then ((impl_isTerm.f k x74 x75 ((rd_T37 x39 x41).f0)).bind fun t79 => (if t79 = true then (if ((rd_T37 x39 x41).f1) = (-1) then (impl_isCharter.j4 k x3 x24 x25 x26 x39 x40 x41 (((rd_T37 x39 x41).f2) == 0) x74 x75 x72 ((rd_T37 x39 x41).f0) ((rd_T37 x39 x41).f1) ((rd_T37 x39 x41).f2)) else (impl_isCharter.j4 k x3 x24 x25 x26 x39 x40 x41 false x74 x75 x72 ((rd_T37 x39 x41).f0) ((rd_T37 x39 x41).f1) ((rd_T37 x39 x41).f2))) else (some false))) else (none)) else (none)) else (impl_isCharter.l0 k x24 x25 (wrap64 (x26 + 1)) x74 x75 x72)
def impl_isCharter.j4 : Nat → Int → List (List (S37)) → Int → Int → List (S37) → Int → Int → Bool → Int → List Int → List (List (S37)) → List (S111) → Int → Int → Option (Bool)
 | 0, _, _, _, _, _, _, _, _, _, _, _, _, _, _ => none
 | k + 1, x3, x24, x25, x26, x39, x40, x41, x58, x74, x75, x72, x81, x77, x78 => if x58 = true then (impl_isCharter.l1 k x3 x24 x25 x26 x39 x40 (wrap64 (x41 + 1)) x74 x75 x72) else (if x77 < 0 then (some false) else (if x77 ≥ (x72.length : Int) then (some false) else (if x77 = x3 then (some false) else (if x78 < 0 then (some false) else (if 0 ≤ x77 then (if x77 < (x72.length : Int) then (if x78 ≥ ((rd_L5 x72 x77).length : Int) then (some false) else (impl_isCharter.l1 k x3 x24 x25 x26 x39 x40 (wrap64 (x41 + 1)) x74 x75 x72)) else (none)) else (none))))))
end
def impl_isCharter.f (k : Nat) (a0_0 : Int) (l0_1 : List Int) (l0_2 : List (List (S37))) : Option (Bool) := (impl_isHouse.f k a0_0 l0_1).bind fun t80 => (if t80 = true then (if (l0_2.length : Int) < 1 then (impl_isCharter.j0 k true a0_0 l0_1 l0_2) else (impl_isCharter.j0 k (decide ((l0_2.length : Int) > 3)) a0_0 l0_1 l0_2)) else (impl_isCharter.j0 k true a0_0 l0_1 l0_2))
set_option maxHeartbeats 8000000 in
set_option maxRecDepth 100000 in
theorem impl_isCharter.calls (k : Nat) (a0_0 : Int) (A0_1 : Option Addr) (c0_1 : Nat) (l0_1 : List Int) (A0_2 : Option Addr) (c0_2 : Nat) (l0_2 : List (List (S37))) (r : Bool) (w : World) (hr0_1 : Kd.C (Kd.int .i64) w A0_1 l0_1.length l0_1) (hc0_1 : l0_1.length ≤ c0_1) (hr0_2 : Kd.C (Kd.slice 37 k37) w A0_2 l0_2.length l0_2) (hc0_2 : l0_2.length ≤ c0_2) (h : impl_isCharter.f k a0_0 l0_1 l0_2 = some r) :
  Calls Try.prog 92 #[.agg #[.int .i64 a0_0, .slice A0_1 l0_1.length c0_1, .slice A0_2 l0_2.length c0_2]] w fun e w' => e = .returned (.bool r) ∧ Below w.heap.size w w' := by
 have hu46 := Try.underlying28
 have hu25 := Try.underlying25
 have hu91 := Try.underlying37
 have HR0_1 := Z.k hr0_1
 have HC0_1 := Z.k hc0_1
 clear hr0_1 hc0_1
 have HR0_2 := Z.k hr0_2
 have HC0_2 := Z.k hc0_2
 clear hr0_2 hc0_2
 have HB := Z.k (Below.refl w.heap.size w)
 have H := h
 clear h
 unfold impl_isCharter.f at H
 have HC2 := Z.k H
 clear H
 go_enter Try.func92, Try.ntmps92
 go_upto_region 1 with (((with_reducible refine gate_dst (N := 1) rfl ?_); (try (refine gate_guard (by rfl) ?_; dsimp only)); refine Z.bx #[.int .i64 a0_0, .slice A0_1 l0_1.length c0_1, .slice A0_2 l0_2.length c0_2] 28 HB ?_; clear HB; intro gb69 w3 BK69 GE69 HB hg hb; have GW69 := GE69; clear hb hg))
 go_cut [22] (fun v22 wc => ∃ (kq : Nat) (x22_1 : Bool), v22 = .bool x22_1 ∧ Aside0 (impl_isCharter.j0 kq x22_1 a0_0 l0_1 l0_2 = some r) ∧ Aside0 (kq ≤ k) ∧ Aside0 (wc.heap[gb69]? = some (.cells #[.int .i64 a0_0, (.slice A0_1 l0_1.length c0_1), (.slice A0_2 l0_2.length c0_2)] 28 (0, 0))) ∧ Aside0 (Below w.heap.size w wc))
 case first =>
  have H := HC2.out
  clear HC2
  revert H; refine Z.bd ?_; rintro t80 A4 H
  by_cases c5 : t80 = true
  ·subst c5
   rw [if_pos rfl] at H
   by_cases c6 : (l0_2.length : Int) < 1
   ·rw [if_pos c6] at H
    have c6b0 := decide_eq_true c6
    have c6b1 : decide (l0_2.length < 1) = true := decide_eq_true (by omega)
    clear c6
    have H' := Z.k H
    clear H
    have hcz7 := Z.c3 BK69.out
    go_wp2_with ((go_at_call 109; (with_reducible refine (impl_isHouse.calls k a0_0 _ _ l0_1 true _ ?q1 ?q2 A4.out).mono ?_); (case q1 => exact Z.cc HR0_1 HB); (case q2 => exact HC0_1.out); rintro e w8 ⟨rfl, hb⟩; replace BK69 := Z.bb BK69 hb; replace HB := Z.st (Z.bs HB.out GE69.out) hb; (try clear hb); have hcz9 := Z.c3 BK69.out))
    go_meet
    case rel => exact ⟨_, (true), (by rfl), H', ⟨by omega⟩, ⟨by exact BK69.out⟩, ⟨Z.bs HB.out GE69.out⟩⟩
   rw [if_neg c6] at H
   have c6b0 := decide_eq_false c6
   have c6b1 : decide (l0_2.length < 1) = false := decide_eq_false (by omega)
   clear c6
   have H' := Z.k H
   clear H
   have hcz10 := Z.c3 BK69.out
   go_wp2_with ((go_at_call 109; (with_reducible refine (impl_isHouse.calls k a0_0 _ _ l0_1 true _ ?q1 ?q2 A4.out).mono ?_); (case q1 => exact Z.cc HR0_1 HB); (case q2 => exact HC0_1.out); rintro e w11 ⟨rfl, hb⟩; replace BK69 := Z.bb BK69 hb; replace HB := Z.st (Z.bs HB.out GE69.out) hb; (try clear hb); have hcz12 := Z.c3 BK69.out))
   go_meet
   case rel => exact ⟨_, (decide ((l0_2.length : Int) > 3)), (by rfl), H', ⟨by omega⟩, ⟨by exact BK69.out⟩, ⟨Z.bs HB.out GE69.out⟩⟩
  replace c5 := Bool.eq_false_iff.mpr c5
  subst c5
  rw [if_neg (show ¬ (false = true) by decide)] at H
  have H' := Z.k H
  clear H
  have hcz13 := Z.c3 BK69.out
  go_wp2_with ((go_at_call 109; (with_reducible refine (impl_isHouse.calls k a0_0 _ _ l0_1 false _ ?q1 ?q2 A4.out).mono ?_); (case q1 => exact Z.cc HR0_1 HB); (case q2 => exact HC0_1.out); rintro e w14 ⟨rfl, hb⟩; replace BK69 := Z.bb BK69 hb; replace HB := Z.st (Z.bs HB.out GE69.out) hb; (try clear hb)))
  go_meet
  case rel => exact ⟨_, (true), (by rfl), H', ⟨by omega⟩, ⟨by exact BK69.out⟩, ⟨Z.bs HB.out GE69.out⟩⟩
 case rest =>
  clear HC2
  obtain ⟨kq, x22_1, rfl, HA, HJ1, BK69, HB⟩ := hcut
  cases kq with
  | zero => exact absurd HA.out (by simp [impl_isCharter.j0])
  | succ kj1 =>
   have H := HA.out
   clear HA
   simp only [impl_isCharter.j0] at H
   by_cases c15 : x22_1 = true
   ·subst c15
    rw [if_pos rfl] at H
    obtain rfl := Option.some.inj H
    go_wp2
    go_ret
    exact ⟨by rfl, Z.bs HB.out GE69.out⟩
   replace c15 := Bool.eq_false_iff.mpr c15
   subst c15
   rw [if_neg (show ¬ (false = true) by decide)] at H
   have H' := Z.k H
   clear H
   have hcz16 := Z.c3 BK69.out
   go_wp2
   go_loopg [26] kj1 (fun kq v26 w' => ∃ (x26_2 : Int), v26 = .int .i64 x26_2 ∧ Aside0 (impl_isCharter.l0 kq l0_2 (l0_2.length : Int) x26_2 a0_0 l0_1 l0_2 = some r) ∧ Aside0 (kq ≤ kj1) ∧ Aside0 (w'.heap[gb69]? = some (.cells #[.int .i64 a0_0, (.slice A0_1 l0_1.length c0_1), (.slice A0_2 l0_2.length c0_2)] 28 (0, 0))) ∧ Aside0 (Below w.heap.size w w'))
   case atStart => exact ⟨(0), (by rfl), H', ⟨Nat.le_refl _⟩, ⟨by exact BK69.out⟩, ⟨Z.bs HB.out GE69.out⟩⟩
   clear H'
   obtain ⟨x26_2, rfl, HA, HK2, BK69, HB⟩ := hrel
   cases gk with
   | zero => exact absurd HA.out (by simp [impl_isCharter.l0])
   | succ k2 =>
    have H := HA.out
    clear HA
    simp only [impl_isCharter.l0] at H
    revert H; refine Z.fm ?_ ?_ <;> intro c17b0 H
    ·obtain rfl := Option.some.inj H
     go_wp2
     go_ret
     exact ⟨by rfl, Z.bs HB.out GE69.out⟩

    obtain ⟨c18b0, H⟩ := Z.fd H
    obtain ⟨c19b0, H⟩ := Z.fd H
    have HC20 := Z.k H
    clear H
    have p76 : (0 ≤ (x26_2 : Int)) = True := Z.oe
    have q76 : (x26_2 < (l0_2.length : Int)) = True := Z.oe
    obtain ⟨ad76, A76_0, c76_0, rfl, hx76_0, hl76_0, hi76_0⟩ := at_L5 HR0_2.out x26_2 Z.od Z.od
    replace hx76_0 := Z.up HB.out hx76_0
    have HR76_0 := Z.k hi76_0
    have HC76_0 := Z.k hl76_0
    clear hi76_0 hl76_0
    go_upto_region 6 with (fail)
    go_cut [38] (fun v38 wc => ∃ (kq : Nat) (x38_19 : Bool), v38 = .bool x38_19 ∧ Aside0 (impl_isCharter.j2 kq x26_2 (rd_L5 l0_2 x26_2) l0_2 (l0_2.length : Int) x26_2 x38_19 a0_0 l0_1 l0_2 = some r) ∧ Aside0 (kq ≤ k2) ∧ Aside0 (wc.heap[gb69]? = some (.cells #[.int .i64 a0_0, (.slice A0_1 l0_1.length c0_1), (.slice (some ad76) l0_2.length c0_2)] 28 (0, 0))) ∧ Aside0 (Below w.heap.size w wc))
    case first =>
     have H := HC20.out
     clear HC20
     by_cases c21 : ((rd_L5 l0_2 x26_2).length : Int) < 1
     ·rw [if_pos c21] at H
      have c21b0 := decide_eq_true c21
      have c21b1 : decide ((rd_L5 l0_2 x26_2).length < 1) = true := decide_eq_true (by omega)
      clear c21
      have H' := Z.k H
      clear H
      go_wp2
      go_meet
      case rel => exact ⟨_, (true), (by rfl), H', ⟨by have := HJ1.out; have := HK2.out; omega⟩, ⟨by exact BK69.out⟩, ⟨Z.bs HB.out GE69.out⟩⟩
     rw [if_neg c21] at H
     have c21b0 := decide_eq_false c21
     have c21b1 : decide ((rd_L5 l0_2 x26_2).length < 1) = false := decide_eq_false (by omega)
     clear c21
     have H' := Z.k H
     clear H
     go_wp2
     go_meet
     case rel => exact ⟨_, (decide (((rd_L5 l0_2 x26_2).length : Int) > 3)), (by rfl), H', ⟨by have := HJ1.out; have := HK2.out; omega⟩, ⟨by exact BK69.out⟩, ⟨Z.bs HB.out GE69.out⟩⟩
    case rest =>
     clear HC20
     try clear c17b0
     try clear c18b0
     try clear c19b0
     try clear hx76_0
     try clear p76
     try clear q76
     obtain ⟨kq, x38_19, rfl, HA, HJ19, BK69, HB⟩ := hcut
     cases kq with
     | zero => exact absurd HA.out (by simp [impl_isCharter.j2])
     | succ kj19 =>
      have H := HA.out
      clear HA
      simp only [impl_isCharter.j2] at H
      by_cases c22 : x38_19 = true
      ·subst c22
       rw [if_pos rfl] at H
       obtain rfl := Option.some.inj H
       go_wp2
       go_ret
       exact ⟨by rfl, Z.bs HB.out GE69.out⟩
      replace c22 := Bool.eq_false_iff.mpr c22
      subst c22
      rw [if_neg (show ¬ (false = true) by decide)] at H
      have H' := Z.k H
      clear H
      go_wp2
      go_loopg [41] kj19 (fun kq v41 w' => ∃ (x41_4 : Int), v41 = .int .i64 x41_4 ∧ Aside0 (impl_isCharter.l1 kq x26_2 l0_2 (l0_2.length : Int) x26_2 (rd_L5 l0_2 x26_2) ((rd_L5 l0_2 x26_2).length : Int) x41_4 a0_0 l0_1 l0_2 = some r) ∧ Aside0 (kq ≤ kj19) ∧ Aside0 (w'.heap[gb69]? = some (.cells #[.int .i64 a0_0, (.slice A0_1 l0_1.length c0_1), (.slice (some ad76) l0_2.length c0_2)] 28 (0, 0))) ∧ Aside0 (Below w.heap.size w w'))
      case atStart => exact ⟨(0), (by rfl), H', ⟨Nat.le_refl _⟩, ⟨by exact BK69.out⟩, ⟨Z.bs HB.out GE69.out⟩⟩
      clear H'
      obtain ⟨x41_4, rfl, HA, HK4, BK69, HB⟩ := hrel
      cases gk with
      | zero => exact absurd HA.out (by simp [impl_isCharter.l1])
      | succ k4 =>
       have H := HA.out
       clear HA
       simp only [impl_isCharter.l1] at H
       revert H; refine Z.fm ?_ ?_ <;> intro c23b0 H
       ·have H' := Z.k H
        clear H
        go_wp2
        go_roundg k4
        case measure => have := HJ1.out; have := HK2.out; have := HJ19.out; have := HK4.out; omega
        case rel => exact ⟨(wrap64 (x26_2 + 1)), (by rfl), H', ⟨by have := HJ1.out; have := HK2.out; have := HJ19.out; have := HK4.out; omega⟩, ⟨by exact BK69.out⟩, ⟨Z.bs HB.out GE69.out⟩⟩
       obtain ⟨c24b0, H⟩ := Z.fd H
       obtain ⟨c25b0, H⟩ := Z.fd H
       revert H; refine Z.bd ?_; rintro t79 A26 H
       by_cases c27 : t79 = true
       rotate_left
       ·replace c27 := Bool.eq_false_iff.mpr c27
        subst c27
        rw [if_neg (show ¬ (false = true) by decide)] at H
        obtain rfl := Option.some.inj H
        have p70 : (0 ≤ (x41_4 : Int)) = True := Z.oe
        have q70 : (x41_4 < ((rd_L5 l0_2 x26_2).length : Int)) = True := Z.oe
        obtain ⟨ad70, A70_0, c70_0, rfl, hx70_0, hx70_1, hx70_2, hl70_0, hi70_0⟩ := at_T37 HR76_0.out x41_4 Z.od Z.od
        replace hx70_0 := Z.up HB.out hx70_0
        replace hx70_1 := Z.up HB.out hx70_1
        replace hx70_2 := Z.up HB.out hx70_2
        have HR70_0 := Z.k hi70_0
        have HC70_0 := Z.k hl70_0
        clear hi70_0 hl70_0
        go_wp2_with (first | ((with_reducible refine gate_dst (N := 6) rfl ?_); (try (refine gate_guard (by rfl) ?_; dsimp only)); refine Z.bz #[.slice none 0 0, .int .i64 0, .int .i64 0] 37 HB GE69 ?_; clear HB; intro gb71 w64 BK71 GE71 HB hg hb; have GW71 := GE71; have NB69_71 := Z.nl hg BK69; have NB71_69 := Z.ng hg BK69; replace BK69 := Z.bb BK69 hb; clear hb hg; have hnb65 := NB71_69.out; have hnc65 := NB69_71.out; have hcz66 := Z.c3 BK71.out; have hcz67 := Z.c3 BK69.out) | (go_at_call 110; (with_reducible refine (impl_isTerm.calls k4 a0_0 _ _ l0_1 _ _ ((rd_T37 (rd_L5 l0_2 x26_2) x41_4).f0) false _ ?q1 ?q2 ?q3 ?q4 A26.out).mono ?_); (case q1 => exact Kd.C_below HR0_1.out (by repeat ((with_reducible first | exact HB.out | refine below_set ?_ GE71.out)))); (case q2 => exact HC0_1.out); (case q3 => exact Kd.C_below HR70_0.out (by repeat ((with_reducible first | exact HB.out | refine below_set ?_ GE71.out)))); (case q4 => exact HC70_0.out); rintro e w68 ⟨rfl, hb⟩; replace BK69 := Z.k (blk_below (g := gb69) (o := .cells #[.int .i64 a0_0, .slice A0_1 l0_1.length c0_1, .slice (some ad76) l0_2.length c0_2] 28 (0, 0)) (by refine blk_far ?_ NB69_71.out _; refine blk_far ?_ NB69_71.out _; refine blk_far ?_ NB69_71.out _; exact BK69.out) hb); replace BK71 := Z.k (blk_below (g := gb71) (o := .cells #[.slice A70_0 ((rd_T37 (rd_L5 l0_2 x26_2) x41_4).f0).length c70_0, .int .i64 ((rd_T37 (rd_L5 l0_2 x26_2) x41_4).f1), .int .i64 ((rd_T37 (rd_L5 l0_2 x26_2) x41_4).f2)] 37 (0, 0)) (by refine blk_put (cs := #[.slice A70_0 ((rd_T37 (rd_L5 l0_2 x26_2) x41_4).f0).length c70_0, .int .i64 ((rd_T37 (rd_L5 l0_2 x26_2) x41_4).f1), .int .i64 0]) ?_ 2 _ rfl; refine blk_put (cs := #[.slice A70_0 ((rd_T37 (rd_L5 l0_2 x26_2) x41_4).f0).length c70_0, .int .i64 0, .int .i64 0]) ?_ 1 _ rfl; refine blk_put (cs := #[.slice none 0 0, .int .i64 0, .int .i64 0]) ?_ 0 _ rfl; exact BK71.out) hb); replace HB := Z.k (below_step (by repeat ((with_reducible first | exact HB.out | refine below_set ?_ GE71.out))) hb); (try clear hb)))
        go_ret
        exact ⟨by rfl, HB.out⟩
       subst c27
       rw [if_pos rfl] at H
       have HC28 := Z.k H
       clear H
       have p70 : (0 ≤ (x41_4 : Int)) = True := Z.oe
       have q70 : (x41_4 < ((rd_L5 l0_2 x26_2).length : Int)) = True := Z.oe
       obtain ⟨ad70, A70_0, c70_0, rfl, hx70_0, hx70_1, hx70_2, hl70_0, hi70_0⟩ := at_T37 HR76_0.out x41_4 Z.od Z.od
       replace hx70_0 := Z.up HB.out hx70_0
       replace hx70_1 := Z.up HB.out hx70_1
       replace hx70_2 := Z.up HB.out hx70_2
       have HR70_0 := Z.k hi70_0
       have HC70_0 := Z.k hl70_0
       clear hi70_0 hl70_0
       go_upto_region 13 with (first | ((with_reducible refine gate_dst (N := 6) rfl ?_); (try (refine gate_guard (by rfl) ?_; dsimp only)); refine Z.bz #[.slice none 0 0, .int .i64 0, .int .i64 0] 37 HB GE69 ?_; clear HB; intro gb71 w29 BK71 GE71 HB hg hb; have GW71 := GE71; have NB69_71 := Z.nl hg BK69; have NB71_69 := Z.ng hg BK69; replace BK69 := Z.bb BK69 hb; clear hb hg; have hnb30 := NB71_69.out; have hnc30 := NB69_71.out; have hcz31 := Z.c3 BK71.out; have hcz32 := Z.c3 BK69.out) | (go_at_call 110; (with_reducible refine (impl_isTerm.calls k4 a0_0 _ _ l0_1 _ _ ((rd_T37 (rd_L5 l0_2 x26_2) x41_4).f0) true _ ?q1 ?q2 ?q3 ?q4 A26.out).mono ?_); (case q1 => exact Kd.C_below HR0_1.out (by repeat ((with_reducible first | exact HB.out | refine below_set ?_ GE71.out)))); (case q2 => exact HC0_1.out); (case q3 => exact Kd.C_below HR70_0.out (by repeat ((with_reducible first | exact HB.out | refine below_set ?_ GE71.out)))); (case q4 => exact HC70_0.out); rintro e w33 ⟨rfl, hb⟩; replace BK69 := Z.k (blk_below (g := gb69) (o := .cells #[.int .i64 a0_0, .slice A0_1 l0_1.length c0_1, .slice (some ad76) l0_2.length c0_2] 28 (0, 0)) (by refine blk_far ?_ NB69_71.out _; refine blk_far ?_ NB69_71.out _; refine blk_far ?_ NB69_71.out _; exact BK69.out) hb); replace BK71 := Z.k (blk_below (g := gb71) (o := .cells #[.slice A70_0 ((rd_T37 (rd_L5 l0_2 x26_2) x41_4).f0).length c70_0, .int .i64 ((rd_T37 (rd_L5 l0_2 x26_2) x41_4).f1), .int .i64 ((rd_T37 (rd_L5 l0_2 x26_2) x41_4).f2)] 37 (0, 0)) (by refine blk_put (cs := #[.slice A70_0 ((rd_T37 (rd_L5 l0_2 x26_2) x41_4).f0).length c70_0, .int .i64 ((rd_T37 (rd_L5 l0_2 x26_2) x41_4).f1), .int .i64 0]) ?_ 2 _ rfl; refine blk_put (cs := #[.slice A70_0 ((rd_T37 (rd_L5 l0_2 x26_2) x41_4).f0).length c70_0, .int .i64 0, .int .i64 0]) ?_ 1 _ rfl; refine blk_put (cs := #[.slice none 0 0, .int .i64 0, .int .i64 0]) ?_ 0 _ rfl; exact BK71.out) hb); replace HB := Z.k (below_step (by repeat ((with_reducible first | exact HB.out | refine below_set ?_ GE71.out))) hb); (try clear hb)))
       go_cut [58] (fun v58 wc => ∃ (kq : Nat) (x58_27 : Bool), v58 = .bool x58_27 ∧ Aside0 (impl_isCharter.j4 kq x26_2 l0_2 (l0_2.length : Int) x26_2 (rd_L5 l0_2 x26_2) ((rd_L5 l0_2 x26_2).length : Int) x41_4 x58_27 a0_0 l0_1 l0_2 ((rd_T37 (rd_L5 l0_2 x26_2) x41_4).f0) ((rd_T37 (rd_L5 l0_2 x26_2) x41_4).f1) ((rd_T37 (rd_L5 l0_2 x26_2) x41_4).f2) = some r) ∧ Aside0 (kq ≤ k4) ∧ Aside0 (wc.heap[gb69]? = some (.cells #[.int .i64 a0_0, (.slice A0_1 l0_1.length c0_1), (.slice (some ad76) l0_2.length c0_2)] 28 (0, 0))) ∧ Aside0 (wc.heap[gb71]? = some (.cells #[(.slice A70_0 ((rd_T37 (rd_L5 l0_2 x26_2) x41_4).f0).length c70_0), .int .i64 ((rd_T37 (rd_L5 l0_2 x26_2) x41_4).f1), .int .i64 ((rd_T37 (rd_L5 l0_2 x26_2) x41_4).f2)] 37 (0, 0))) ∧ Aside0 (Below w.heap.size w wc))
       case first =>
        have H := HC28.out
        clear HC28
        by_cases c34 : ((rd_T37 (rd_L5 l0_2 x26_2) x41_4).f1) = (-1)
        ·rw [if_pos c34] at H
         have c34b0 : (((rd_T37 (rd_L5 l0_2 x26_2) x41_4).f1) == (-1)) = true := beq_iff_eq.mpr c34
         have c34b1 : (((rd_T37 (rd_L5 l0_2 x26_2) x41_4).f1) != (-1)) = false := bne_eq_false_iff_eq.mpr c34
         clear c34
         have H' := Z.k H
         clear H
         have hnb35 := NB71_69.out
         have hnc35 := NB69_71.out
         have hcz36 := Z.c3 BK71.out
         go_wp2
         go_meet
         case rel => exact ⟨_, ((((rd_T37 (rd_L5 l0_2 x26_2) x41_4).f2) == 0)), (by rfl), H', ⟨by have := HJ1.out; have := HK2.out; have := HJ19.out; have := HK4.out; omega⟩, ⟨by exact BK69.out⟩, ⟨by exact BK71.out⟩, ⟨HB.out⟩⟩
        rw [if_neg c34] at H
        have c34b0 : (((rd_T37 (rd_L5 l0_2 x26_2) x41_4).f1) == (-1)) = false := beq_eq_false_iff_ne.mpr c34
        have c34b1 : (((rd_T37 (rd_L5 l0_2 x26_2) x41_4).f1) != (-1)) = true := bne_iff_ne.mpr c34
        have H' := Z.k H
        clear H
        have hnb37 := NB71_69.out
        have hnc37 := NB69_71.out
        have hcz38 := Z.c3 BK71.out
        go_wp2
        go_meet
        case rel => exact ⟨_, (false), (by rfl), H', ⟨by have := HJ1.out; have := HK2.out; have := HJ19.out; have := HK4.out; omega⟩, ⟨by exact BK69.out⟩, ⟨by exact BK71.out⟩, ⟨HB.out⟩⟩
       case rest =>
        clear HC28
        try clear c23b0
        try clear c24b0
        try clear c25b0
        try clear hx70_0
        try clear hx70_1
        try clear hx70_2
        try clear p70
        try clear q70
        obtain ⟨kq, x58_27, rfl, HA, HJ27, BK69, BK71, HB⟩ := hcut
        cases kq with
        | zero => exact absurd HA.out (by simp [impl_isCharter.j4])
        | succ kj27 =>
         have H := HA.out
         clear HA
         simp only [impl_isCharter.j4] at H
         by_cases c39 : x58_27 = true
         ·subst c39
          rw [if_pos rfl] at H
          have H' := Z.k H
          clear H
          go_wp2
          go_roundg kj27
          case measure => have := HJ1.out; have := HK2.out; have := HJ19.out; have := HK4.out; have := HJ27.out; omega
          case rel => exact ⟨(wrap64 (x41_4 + 1)), (by rfl), H', ⟨by have := HJ1.out; have := HK2.out; have := HJ19.out; have := HK4.out; have := HJ27.out; omega⟩, ⟨by exact BK69.out⟩, ⟨HB.out⟩⟩
         replace c39 := Bool.eq_false_iff.mpr c39
         subst c39
         rw [if_neg (show ¬ (false = true) by decide)] at H
         revert H; refine Z.fc ?_ ?_ <;> intro c40b0 H
         ·obtain rfl := Option.some.inj H
          have hnb41 := NB71_69.out
          have hnc41 := NB69_71.out
          have hcz42 := Z.c3 BK71.out
          go_wp2
          repeat (go_quiet (fail); try go_wp2)
          go_ret
          exact ⟨by rfl, by repeat ((with_reducible first | exact HB.out | apply pw_below_drewN))⟩
         revert H; refine Z.fc ?_ ?_ <;> intro c43b0 H
         ·obtain rfl := Option.some.inj H
          have hnb44 := NB71_69.out
          have hnc44 := NB69_71.out
          have hcz45 := Z.c3 BK71.out
          have hcz46 := Z.c3 BK69.out
          go_wp2
          repeat (go_quiet (fail); try go_wp2)
          go_ret
          exact ⟨by rfl, by repeat ((with_reducible first | exact HB.out | apply pw_below_drewN))⟩
         by_cases c47 : ((rd_T37 (rd_L5 l0_2 x26_2) x41_4).f1) = x26_2
         ·rw [if_pos c47] at H
          have c47b0 : (((rd_T37 (rd_L5 l0_2 x26_2) x41_4).f1) == x26_2) = true := beq_iff_eq.mpr c47
          have c47b1 : (((rd_T37 (rd_L5 l0_2 x26_2) x41_4).f1) != x26_2) = false := bne_eq_false_iff_eq.mpr c47
          clear c47
          obtain rfl := Option.some.inj H
          have hnb48 := NB71_69.out
          have hnc48 := NB69_71.out
          have hcz49 := Z.c3 BK71.out
          have hcz50 := Z.c3 BK69.out
          go_wp2
          repeat (go_quiet (fail); try go_wp2)
          go_ret
          exact ⟨by rfl, by repeat ((with_reducible first | exact HB.out | apply pw_below_drewN))⟩
         rw [if_neg c47] at H
         have c47b0 : (((rd_T37 (rd_L5 l0_2 x26_2) x41_4).f1) == x26_2) = false := beq_eq_false_iff_ne.mpr c47
         have c47b1 : (((rd_T37 (rd_L5 l0_2 x26_2) x41_4).f1) != x26_2) = true := bne_iff_ne.mpr c47
         revert H; refine Z.fc ?_ ?_ <;> intro c51b0 H
         ·obtain rfl := Option.some.inj H
          have hnb52 := NB71_69.out
          have hnc52 := NB69_71.out
          have hcz53 := Z.c3 BK71.out
          have hcz54 := Z.c3 BK69.out
          go_wp2
          repeat (go_quiet (fail); try go_wp2)
          go_ret
          exact ⟨by rfl, by repeat ((with_reducible first | exact HB.out | apply pw_below_drewN))⟩
         obtain ⟨c55, H⟩ := Z.ifp H
         have c55b0 : decide (0 ≤ ((rd_T37 (rd_L5 l0_2 x26_2) x41_4).f1)) = true := decide_eq_true c55
         clear c55
         obtain ⟨c56, H⟩ := Z.ifp H
         have c56b0 : decide (((rd_T37 (rd_L5 l0_2 x26_2) x41_4).f1) < (l0_2.length : Int)) = true := decide_eq_true c56
         clear c56
         revert H; refine Z.fc ?_ ?_ <;> intro c57b0 H
         ·obtain rfl := Option.some.inj H
          have hnb58 := NB71_69.out
          have hnc58 := NB69_71.out
          have hcz59 := Z.c3 BK71.out
          have hcz60 := Z.c3 BK69.out
          have p73 : (0 ≤ (((rd_T37 (rd_L5 l0_2 x26_2) x41_4).f1) : Int)) = True := Z.oe
          have q73 : (((rd_T37 (rd_L5 l0_2 x26_2) x41_4).f1) < (l0_2.length : Int)) = True := Z.oe
          obtain ⟨ad73, A73_0, c73_0, e73, hx73_0, hl73_0, hi73_0⟩ := at_L5 HR0_2.out ((rd_T37 (rd_L5 l0_2 x26_2) x41_4).f1) Z.od Z.od
          obtain rfl : ad76 = ad73 := (by injection e73)
          replace hx73_0 := Z.up HB.out hx73_0
          have HR73_0 := Z.k hi73_0
          have HC73_0 := Z.k hl73_0
          clear hi73_0 hl73_0
          go_wp2
          repeat (go_quiet (fail); try go_wp2)
          go_ret
          exact ⟨by rfl, by repeat ((with_reducible first | exact HB.out | apply pw_below_drewN))⟩
         have H' := Z.k H
         clear H
         have hnb61 := NB71_69.out
         have hnc61 := NB69_71.out
         have hcz62 := Z.c3 BK71.out
         have hcz63 := Z.c3 BK69.out
         have p73 : (0 ≤ (((rd_T37 (rd_L5 l0_2 x26_2) x41_4).f1) : Int)) = True := Z.oe
         have q73 : (((rd_T37 (rd_L5 l0_2 x26_2) x41_4).f1) < (l0_2.length : Int)) = True := Z.oe
         obtain ⟨ad73, A73_0, c73_0, e73, hx73_0, hl73_0, hi73_0⟩ := at_L5 HR0_2.out ((rd_T37 (rd_L5 l0_2 x26_2) x41_4).f1) Z.od Z.od
         obtain rfl : ad76 = ad73 := (by injection e73)
         replace hx73_0 := Z.up HB.out hx73_0
         have HR73_0 := Z.k hi73_0
         have HC73_0 := Z.k hl73_0
         clear hi73_0 hl73_0
         go_wp2
         repeat (go_quiet (fail); try go_wp2)
         go_roundg kj27
         case measure => have := HJ1.out; have := HK2.out; have := HJ19.out; have := HK4.out; have := HJ27.out; omega
         case rel => exact ⟨(wrap64 (x41_4 + 1)), (by rfl), H', ⟨by have := HJ1.out; have := HK2.out; have := HJ19.out; have := HK4.out; have := HJ27.out; omega⟩, ⟨by (with_reducible repeat (refine blk_drewN ?_ _)); exact BK69.out⟩, ⟨by repeat ((with_reducible first | exact HB.out | apply pw_below_drewN))⟩⟩
end Go.Proofs.Ytkogboechfieeaa.PAll
