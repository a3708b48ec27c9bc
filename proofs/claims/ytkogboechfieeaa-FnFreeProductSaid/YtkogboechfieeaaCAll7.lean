/- Walks of functions that laws of this seat reach, in the form of the print. -/
import Derived.Test.YtkogboechfieeaaCAll6
-- PRINTED
namespace Go.Proofs.Ytkogboechfieeaa.PAll
open Go.RowKit Go.Proofs.YtkogboechfieeaaW.PrintWords Go.Proofs.YtkogboechfieeaaW.PrintLast Go.Proofs.YtkogboechfieeaaW.PrintMore
attribute [local go_sem] max2_int min2_int max_two min_two max_three min_three max_four min_four
set_option linter.unusedVariables false
set_option linter.unusedSimpArgs false

/-! ### impl_isTerm: function 110 -/
mutual
def impl_isTerm.j0 : Nat → List (S111) → Bool → Int → List Int → Option (Bool)
 | 0, _, _, _, _ => none
 | k + 1, x1, x20, x68, x67 => if x20 = true then (some false) else (impl_isTerm.l0 k 0 x1 (x1.length : Int) 0 x68 x67)
def impl_isTerm.l0 : Nat → Int → List (S111) → Int → Int → Int → List Int → Option (Bool)
 | 0, _, _, _, _, _, _ => none
 | k + 1, x5, x21, x22, x23, x68, x67 => if x23 < x22 then (if 0 ≤ x23 then (if x23 < (x21.length : Int) then (if ((rd_T111 x21 x23).f0) = 0 then (if ((rd_T111 x21 x23).f1) < 0 then (some false) else (if ((rd_T111 x21 x23).f1) ≥ (x67.length : Int) then (some false) else (if ((rd_T111 x21 x23).f2) < 1 then (some false) else (if 0 ≤ ((rd_T111 x21 x23).f1) then (if ((rd_T111 x21 x23).f1) < (x67.length : Int) then ((impl_headsOf.f (rd x67 ((rd_T111 x21 x23).f1))).bind fun t69 => (if ((rd_T111 x21 x23).f2) > t69 then (some false) else (impl_isTerm.l0 k (wrap64 (x5 + 1)) x21 x22 (wrap64 (x23 + 1)) x68 x67))) else (none)) else (none))))) else (if ((rd_T111 x21 x23).f0) = 1 then (impl_isTerm.j2 k x5 x21 x22 x23 (((rd_T111 x21 x23).f0) == 1) x68 x67 ((rd_T111 x21 x23).f0) ((rd_T111 x21 x23).f1) ((rd_T111 x21 x23).f2)) else (impl_isTerm.j2 k x5 x21 x22 x23 (((rd_T111 x21 x23).f0) == 2) x68 x67 ((rd_T111 x21 x23).f0) ((rd_T111 x21 x23).f1) ((rd_T111 x21 x23).f2)))) else (none)) else (none)) else (some (x5 == 1))
def impl_isTerm.j2 : Nat → Int → List (S111) → Int → Int → Bool → Int → List Int → Int → Int → Int → Option (Bool)
 | 0, _, _, _, _, _, _, _, _, _, _ => none
 | k + 1, x5, x21, x22, x23, x61, x68, x67, x73, x70, x71 => if x61 = true then (if x70 = 0 then (if x71 = 0 then (if x5 < 2 then (some false) else (impl_isTerm.l0 k (wrap64 (x5 - 1)) x21 x22 (wrap64 (x23 + 1)) x68 x67)) else (some false)) else (some false)) else (some false)
end
def impl_isTerm.f (k : Nat) (a0_0 : Int) (l0_1 : List Int) (l1 : List (S111)) : Option (Bool) := (impl_isHouse.f k a0_0 l0_1).bind fun t72 => (if t72 = true then (if (l1.length : Int) < 1 then (impl_isTerm.j0 k l1 true a0_0 l0_1) else (impl_isTerm.j0 k l1 (decide ((l1.length : Int) > 9)) a0_0 l0_1)) else (impl_isTerm.j0 k l1 true a0_0 l0_1))
set_option maxHeartbeats 8000000 in
set_option maxRecDepth 100000 in
theorem impl_isTerm.calls (k : Nat) (a0_0 : Int) (A0_1 : Option Addr) (c0_1 : Nat) (l0_1 : List Int) (A1 : Option Addr) (c1 : Nat) (l1 : List (S111)) (r : Bool) (w : World) (hr0_1 : Kd.C (Kd.int .i64) w A0_1 l0_1.length l0_1) (hc0_1 : l0_1.length ≤ c0_1) (hr1 : Kd.C k111 w A1 l1.length l1) (hc1 : l1.length ≤ c1) (h : impl_isTerm.f k a0_0 l0_1 l1 = some r) :
  Calls Try.prog 110 #[.agg #[.int .i64 a0_0, .slice A0_1 l0_1.length c0_1], .slice A1 l1.length c1] w fun e w' => e = .returned (.bool r) ∧ Below w.heap.size w w' := by
 have hu25 := Try.underlying25
 have hu35 := Try.underlying111
 have HR0_1 := Z.k hr0_1
 have HC0_1 := Z.k hc0_1
 clear hr0_1 hc0_1
 have HR1 := Z.k hr1
 have HC1 := Z.k hc1
 clear hr1 hc1
 have HB := Z.k (Below.refl w.heap.size w)
 have H := h
 clear h
 unfold impl_isTerm.f at H
 have HC3 := Z.k H
 clear H
 go_enter Try.func110, Try.ntmps110
 go_upto_region 1 with (((with_reducible refine gate_dst (N := 2) rfl ?_); (try (refine gate_guard (by rfl) ?_; dsimp only)); refine Z.bx #[.int .i64 a0_0, .slice A0_1 l0_1.length c0_1] 25 HB ?_; clear HB; intro gb63 w4 BK63 GE63 HB hg hb; have GW63 := GE63; clear hb hg))
 go_cut [20] (fun v20 wc => ∃ (kq : Nat) (x20_2 : Bool), v20 = .bool x20_2 ∧ Aside0 (impl_isTerm.j0 kq l1 x20_2 a0_0 l0_1 = some r) ∧ Aside0 (kq ≤ k) ∧ Aside0 (wc.heap[gb63]? = some (.cells #[.int .i64 a0_0, (.slice A0_1 l0_1.length c0_1)] 25 (0, 0))) ∧ Aside0 (Below w.heap.size w wc))
 case first =>
  have H := HC3.out
  clear HC3
  revert H; refine Z.bd ?_; rintro t72 A5 H
  by_cases c6 : t72 = true
  ·subst c6
   rw [if_pos rfl] at H
   by_cases c7 : (l1.length : Int) < 1
   ·rw [if_pos c7] at H
    have c7b0 := decide_eq_true c7
    have c7b1 : decide (l1.length < 1) = true := decide_eq_true (by omega)
    clear c7
    have H' := Z.k H
    clear H
    have hcz8 := Z.c2 BK63.out
    go_wp2_with ((go_at_call 109; (with_reducible refine (impl_isHouse.calls k a0_0 _ _ l0_1 true _ ?q1 ?q2 A5.out).mono ?_); (case q1 => exact Z.cc HR0_1 HB); (case q2 => exact HC0_1.out); rintro e w9 ⟨rfl, hb⟩; replace BK63 := Z.bb BK63 hb; replace HB := Z.st (Z.bs HB.out GE63.out) hb; (try clear hb)))
    go_meet
    case rel => exact ⟨_, (true), (by rfl), H', ⟨by omega⟩, ⟨by exact BK63.out⟩, ⟨Z.bs HB.out GE63.out⟩⟩
   rw [if_neg c7] at H
   have c7b0 := decide_eq_false c7
   have c7b1 : decide (l1.length < 1) = false := decide_eq_false (by omega)
   clear c7
   have H' := Z.k H
   clear H
   have hcz10 := Z.c2 BK63.out
   go_wp2_with ((go_at_call 109; (with_reducible refine (impl_isHouse.calls k a0_0 _ _ l0_1 true _ ?q1 ?q2 A5.out).mono ?_); (case q1 => exact Z.cc HR0_1 HB); (case q2 => exact HC0_1.out); rintro e w11 ⟨rfl, hb⟩; replace BK63 := Z.bb BK63 hb; replace HB := Z.st (Z.bs HB.out GE63.out) hb; (try clear hb)))
   go_meet
   case rel => exact ⟨_, (decide ((l1.length : Int) > 9)), (by rfl), H', ⟨by omega⟩, ⟨by exact BK63.out⟩, ⟨Z.bs HB.out GE63.out⟩⟩
  replace c6 := Bool.eq_false_iff.mpr c6
  subst c6
  rw [if_neg (show ¬ (false = true) by decide)] at H
  have H' := Z.k H
  clear H
  have hcz12 := Z.c2 BK63.out
  go_wp2_with ((go_at_call 109; (with_reducible refine (impl_isHouse.calls k a0_0 _ _ l0_1 false _ ?q1 ?q2 A5.out).mono ?_); (case q1 => exact Z.cc HR0_1 HB); (case q2 => exact HC0_1.out); rintro e w13 ⟨rfl, hb⟩; replace BK63 := Z.bb BK63 hb; replace HB := Z.st (Z.bs HB.out GE63.out) hb; (try clear hb)))
  go_meet
  case rel => exact ⟨_, (true), (by rfl), H', ⟨by omega⟩, ⟨by exact BK63.out⟩, ⟨Z.bs HB.out GE63.out⟩⟩
 case rest =>
  clear HC3
  obtain ⟨kq, x20_2, rfl, HA, HJ2, BK63, HB⟩ := hcut
  cases kq with
  | zero => exact absurd HA.out (by simp [impl_isTerm.j0])
  | succ kj2 =>
   have H := HA.out
   clear HA
   simp only [impl_isTerm.j0] at H
   by_cases c14 : x20_2 = true
   ·subst c14
    rw [if_pos rfl] at H
    obtain rfl := Option.some.inj H
    go_wp2
    go_ret
    exact ⟨by rfl, Z.bs HB.out GE63.out⟩
   replace c14 := Bool.eq_false_iff.mpr c14
   subst c14
   rw [if_neg (show ¬ (false = true) by decide)] at H
   have H' := Z.k H
   clear H
   go_wp2
   go_loopg [5, 23] kj2 (fun kq v5 v23 w' => ∃ (x5_2 : Int) (x23_2 : Int), v5 = .int .i64 x5_2 ∧ v23 = .int .i64 x23_2 ∧ Aside0 (impl_isTerm.l0 kq x5_2 l1 (l1.length : Int) x23_2 a0_0 l0_1 = some r) ∧ Aside0 (kq ≤ kj2) ∧ Aside0 (w'.heap[gb63]? = some (.cells #[.int .i64 a0_0, (.slice A0_1 l0_1.length c0_1)] 25 (0, 0))) ∧ Aside0 (Below w.heap.size w w'))
   case atStart => exact ⟨(0), (0), (by rfl), (by rfl), H', ⟨Nat.le_refl _⟩, ⟨by exact BK63.out⟩, ⟨Z.bs HB.out GE63.out⟩⟩
   clear H'
   obtain ⟨x5_2, x23_2, rfl, rfl, HA, HK2, BK63, HB⟩ := hrel
   cases gk with
   | zero => exact absurd HA.out (by simp [impl_isTerm.l0])
   | succ k2 =>
    have H := HA.out
    clear HA
    simp only [impl_isTerm.l0] at H
    revert H; refine Z.fm ?_ ?_ <;> intro c15b0 H
    ·obtain rfl := Option.some.inj H
     go_wp2
     go_ret
     exact ⟨by rfl, Z.bs HB.out GE63.out⟩

    obtain ⟨c16b0, H⟩ := Z.fd H
    obtain ⟨c17b0, H⟩ := Z.fd H
    by_cases c18 : ((rd_T111 l1 x23_2).f0) = 0
    ·rw [if_pos c18] at H
     have c18b0 : (((rd_T111 l1 x23_2).f0) == 0) = true := beq_iff_eq.mpr c18
     have c18b1 : (((rd_T111 l1 x23_2).f0) != 0) = false := bne_eq_false_iff_eq.mpr c18
     clear c18
     revert H; refine Z.fc ?_ ?_ <;> intro c19b0 H
     ·obtain rfl := Option.some.inj H
      have p66 : (0 ≤ (x23_2 : Int)) = True := Z.oe
      have q66 : (x23_2 < (l1.length : Int)) = True := Z.oe
      obtain ⟨ad66, rfl, hx66_0, hx66_1, hx66_2⟩ := at_T111 HR1.out x23_2 Z.od Z.od
      replace hx66_0 := Z.up HB.out hx66_0
      replace hx66_1 := Z.up HB.out hx66_1
      replace hx66_2 := Z.up HB.out hx66_2
      go_wp2_with (((with_reducible refine gate_dst (N := 7) rfl ?_); (try (refine gate_guard (by rfl) ?_; dsimp only)); refine Z.bz #[.int .i64 0, .int .i64 0, .int .i64 0] 111 HB GE63 ?_; clear HB; intro gb62 w20 BK62 GE62 HB hg hb; have GW62 := GE62; have NB63_62 := Z.nl hg BK63; have NB62_63 := Z.ng hg BK63; replace BK63 := Z.bb BK63 hb; clear hb hg; have hnb21 := NB62_63.out; have hnc21 := NB63_62.out; have hcz22 := Z.c3 BK62.out))
      repeat (go_quiet (((with_reducible refine gate_dst (N := 7) rfl ?_); refine Z.bz #[.int .i64 0, .int .i64 0, .int .i64 0] 111 HB GE63 ?_; clear HB; intro gb62 w20 BK62 GE62 HB hg hb; have GW62 := GE62; have NB63_62 := Z.nl hg BK63; have NB62_63 := Z.ng hg BK63; replace BK63 := Z.bb BK63 hb; clear hb hg; have hnb21 := NB62_63.out; have hnc21 := NB63_62.out; have hcz22 := Z.c3 BK62.out)); try go_wp2_with (((with_reducible refine gate_dst (N := 7) rfl ?_); refine Z.bz #[.int .i64 0, .int .i64 0, .int .i64 0] 111 HB GE63 ?_; clear HB; intro gb62 w20 BK62 GE62 HB hg hb; have GW62 := GE62; have NB63_62 := Z.nl hg BK63; have NB62_63 := Z.ng hg BK63; replace BK63 := Z.bb BK63 hb; clear hb hg; have hnb21 := NB62_63.out; have hnc21 := NB63_62.out; have hcz22 := Z.c3 BK62.out)))
      go_ret
      exact ⟨by rfl, by repeat ((with_reducible first | exact HB.out | apply pw_below_drewN | refine below_set ?_ GE62.out))⟩
     revert H; refine Z.fc ?_ ?_ <;> intro c23b0 H
     ·obtain rfl := Option.some.inj H
      have p66 : (0 ≤ (x23_2 : Int)) = True := Z.oe
      have q66 : (x23_2 < (l1.length : Int)) = True := Z.oe
      obtain ⟨ad66, rfl, hx66_0, hx66_1, hx66_2⟩ := at_T111 HR1.out x23_2 Z.od Z.od
      replace hx66_0 := Z.up HB.out hx66_0
      replace hx66_1 := Z.up HB.out hx66_1
      replace hx66_2 := Z.up HB.out hx66_2
      go_wp2_with (((with_reducible refine gate_dst (N := 7) rfl ?_); (try (refine gate_guard (by rfl) ?_; dsimp only)); refine Z.bz #[.int .i64 0, .int .i64 0, .int .i64 0] 111 HB GE63 ?_; clear HB; intro gb62 w24 BK62 GE62 HB hg hb; have GW62 := GE62; have NB63_62 := Z.nl hg BK63; have NB62_63 := Z.ng hg BK63; replace BK63 := Z.bb BK63 hb; clear hb hg; have hnb25 := NB62_63.out; have hnc25 := NB63_62.out; have hcz26 := Z.c3 BK62.out; have hcz27 := Z.c2 BK63.out))
      repeat (go_quiet (((with_reducible refine gate_dst (N := 7) rfl ?_); refine Z.bz #[.int .i64 0, .int .i64 0, .int .i64 0] 111 HB GE63 ?_; clear HB; intro gb62 w24 BK62 GE62 HB hg hb; have GW62 := GE62; have NB63_62 := Z.nl hg BK63; have NB62_63 := Z.ng hg BK63; replace BK63 := Z.bb BK63 hb; clear hb hg; have hnb25 := NB62_63.out; have hnc25 := NB63_62.out; have hcz26 := Z.c3 BK62.out; have hcz27 := Z.c2 BK63.out)); try go_wp2_with (((with_reducible refine gate_dst (N := 7) rfl ?_); refine Z.bz #[.int .i64 0, .int .i64 0, .int .i64 0] 111 HB GE63 ?_; clear HB; intro gb62 w24 BK62 GE62 HB hg hb; have GW62 := GE62; have NB63_62 := Z.nl hg BK63; have NB62_63 := Z.ng hg BK63; replace BK63 := Z.bb BK63 hb; clear hb hg; have hnb25 := NB62_63.out; have hnc25 := NB63_62.out; have hcz26 := Z.c3 BK62.out; have hcz27 := Z.c2 BK63.out)))
      go_ret
      exact ⟨by rfl, by repeat ((with_reducible first | exact HB.out | apply pw_below_drewN | refine below_set ?_ GE62.out))⟩
     revert H; refine Z.fc ?_ ?_ <;> intro c28b0 H
     ·obtain rfl := Option.some.inj H
      have p66 : (0 ≤ (x23_2 : Int)) = True := Z.oe
      have q66 : (x23_2 < (l1.length : Int)) = True := Z.oe
      obtain ⟨ad66, rfl, hx66_0, hx66_1, hx66_2⟩ := at_T111 HR1.out x23_2 Z.od Z.od
      replace hx66_0 := Z.up HB.out hx66_0
      replace hx66_1 := Z.up HB.out hx66_1
      replace hx66_2 := Z.up HB.out hx66_2
      go_wp2_with (((with_reducible refine gate_dst (N := 7) rfl ?_); (try (refine gate_guard (by rfl) ?_; dsimp only)); refine Z.bz #[.int .i64 0, .int .i64 0, .int .i64 0] 111 HB GE63 ?_; clear HB; intro gb62 w29 BK62 GE62 HB hg hb; have GW62 := GE62; have NB63_62 := Z.nl hg BK63; have NB62_63 := Z.ng hg BK63; replace BK63 := Z.bb BK63 hb; clear hb hg; have hnb30 := NB62_63.out; have hnc30 := NB63_62.out; have hcz31 := Z.c3 BK62.out; have hcz32 := Z.c2 BK63.out))
      repeat (go_quiet (((with_reducible refine gate_dst (N := 7) rfl ?_); refine Z.bz #[.int .i64 0, .int .i64 0, .int .i64 0] 111 HB GE63 ?_; clear HB; intro gb62 w29 BK62 GE62 HB hg hb; have GW62 := GE62; have NB63_62 := Z.nl hg BK63; have NB62_63 := Z.ng hg BK63; replace BK63 := Z.bb BK63 hb; clear hb hg; have hnb30 := NB62_63.out; have hnc30 := NB63_62.out; have hcz31 := Z.c3 BK62.out; have hcz32 := Z.c2 BK63.out)); try go_wp2_with (((with_reducible refine gate_dst (N := 7) rfl ?_); refine Z.bz #[.int .i64 0, .int .i64 0, .int .i64 0] 111 HB GE63 ?_; clear HB; intro gb62 w29 BK62 GE62 HB hg hb; have GW62 := GE62; have NB63_62 := Z.nl hg BK63; have NB62_63 := Z.ng hg BK63; replace BK63 := Z.bb BK63 hb; clear hb hg; have hnb30 := NB62_63.out; have hnc30 := NB63_62.out; have hcz31 := Z.c3 BK62.out; have hcz32 := Z.c2 BK63.out)))
      go_ret
      exact ⟨by rfl, by repeat ((with_reducible first | exact HB.out | apply pw_below_drewN | refine below_set ?_ GE62.out))⟩
     obtain ⟨c33b0, H⟩ := Z.fd H
     obtain ⟨c34b0, H⟩ := Z.fd H
     revert H; refine Z.bd ?_; rintro t69 A35 H
     revert H; refine Z.fc ?_ ?_ <;> intro c36b0 H
     ·obtain rfl := Option.some.inj H
      have p66 : (0 ≤ (x23_2 : Int)) = True := Z.oe
      have q66 : (x23_2 < (l1.length : Int)) = True := Z.oe
      obtain ⟨ad66, rfl, hx66_0, hx66_1, hx66_2⟩ := at_T111 HR1.out x23_2 Z.od Z.od
      replace hx66_0 := Z.up HB.out hx66_0
      replace hx66_1 := Z.up HB.out hx66_1
      replace hx66_2 := Z.up HB.out hx66_2
      go_wp2_with (((with_reducible refine gate_dst (N := 7) rfl ?_); (try (refine gate_guard (by rfl) ?_; dsimp only)); refine Z.bz #[.int .i64 0, .int .i64 0, .int .i64 0] 111 HB GE63 ?_; clear HB; intro gb62 w37 BK62 GE62 HB hg hb; have GW62 := GE62; have NB63_62 := Z.nl hg BK63; have NB62_63 := Z.ng hg BK63; replace BK63 := Z.bb BK63 hb; clear hb hg; have hnb38 := NB62_63.out; have hnc38 := NB63_62.out; have hcz39 := Z.c3 BK62.out; have hcz40 := Z.c2 BK63.out; have p65 : 0 ≤ (((rd_T111 l1 x23_2).f1) : Int) := Z.od; have q65 : ((rd_T111 l1 x23_2).f1) < (l0_1.length : Int) := Z.od; obtain ⟨ad65, e65, hx65_0⟩ := Kd.at_int HR0_1.out ((rd_T111 l1 x23_2).f1) p65 q65; cases e65; have hn189_0 : ad65.block ≠ gb62 := Nat.ne_of_lt (Nat.lt_of_lt_of_le (by have := World.block_lt_of_cell? _ _ hx65_0; rwa [add_block] at this) GW62.out); have hn189_1 : ad65.block ≠ gb62 := Nat.ne_of_lt (Nat.lt_of_lt_of_le (by have := World.block_lt_of_cell? _ _ hx65_0; rwa [add_block] at this) GW62.out); have hn189_2 : ad65.block ≠ gb62 := Nat.ne_of_lt (Nat.lt_of_lt_of_le (by have := World.block_lt_of_cell? _ _ hx65_0; rwa [add_block] at this) GW62.out); replace hx65_0 := Z.up HB.out hx65_0; replace hx65_0 := (cell_far (p := ⟨gb62, 0, none⟩) (by (rw [add_block]; exact hn189_0)) (.int .i64 ((rd_T111 l1 x23_2).f0))).trans hx65_0; replace hx65_0 := (cell_far (p := ⟨gb62, 1, none⟩) (by (rw [add_block]; exact hn189_1)) (.int .i64 ((rd_T111 l1 x23_2).f1))).trans hx65_0; replace hx65_0 := (cell_far (p := ⟨gb62, 2, none⟩) (by (rw [add_block]; exact hn189_2)) (.int .i64 ((rd_T111 l1 x23_2).f2))).trans hx65_0; (try have hy65_0 := fun (n_ : Nat) => (show (((((w37.drewN n_).setCell ⟨gb62, 0, none⟩ (.int .i64 ((rd_T111 l1 x23_2).f0))).setCell ⟨gb62, 1, none⟩ (.int .i64 ((rd_T111 l1 x23_2).f1))).setCell ⟨gb62, 2, none⟩ (.int .i64 ((rd_T111 l1 x23_2).f2)))).cell? _ = some _ from hx65_0)); clear hn189_0; clear hn189_1; clear hn189_2; replace p65 := eq_true p65; replace q65 := eq_true q65))
      repeat (go_quiet ((go_at_call 116; (with_reducible refine (impl_headsOf.calls (rd l0_1 ((rd_T111 l1 x23_2).f1)) t69 _ A35.out).mono ?_); rintro e w' ⟨rfl, ⟨nd, rfl⟩⟩; (try exact ⟨rfl, _, World.drewN_drewN _ _ _⟩))); try go_wp2_with (((with_reducible refine gate_dst (N := 7) rfl ?_); refine Z.bz #[.int .i64 0, .int .i64 0, .int .i64 0] 111 HB GE63 ?_; clear HB; intro gb62 w37 BK62 GE62 HB hg hb; have GW62 := GE62; have NB63_62 := Z.nl hg BK63; have NB62_63 := Z.ng hg BK63; replace BK63 := Z.bb BK63 hb; clear hb hg; have hnb38 := NB62_63.out; have hnc38 := NB63_62.out; have hcz39 := Z.c3 BK62.out; have hcz40 := Z.c2 BK63.out; have p65 : 0 ≤ (((rd_T111 l1 x23_2).f1) : Int) := Z.od; have q65 : ((rd_T111 l1 x23_2).f1) < (l0_1.length : Int) := Z.od; obtain ⟨ad65, e65, hx65_0⟩ := Kd.at_int HR0_1.out ((rd_T111 l1 x23_2).f1) p65 q65; cases e65; have hn189_0 : ad65.block ≠ gb62 := Nat.ne_of_lt (Nat.lt_of_lt_of_le (by have := World.block_lt_of_cell? _ _ hx65_0; rwa [add_block] at this) GW62.out); have hn189_1 : ad65.block ≠ gb62 := Nat.ne_of_lt (Nat.lt_of_lt_of_le (by have := World.block_lt_of_cell? _ _ hx65_0; rwa [add_block] at this) GW62.out); have hn189_2 : ad65.block ≠ gb62 := Nat.ne_of_lt (Nat.lt_of_lt_of_le (by have := World.block_lt_of_cell? _ _ hx65_0; rwa [add_block] at this) GW62.out); replace hx65_0 := Z.up HB.out hx65_0; replace hx65_0 := (cell_far (p := ⟨gb62, 0, none⟩) (by (rw [add_block]; exact hn189_0)) (.int .i64 ((rd_T111 l1 x23_2).f0))).trans hx65_0; replace hx65_0 := (cell_far (p := ⟨gb62, 1, none⟩) (by (rw [add_block]; exact hn189_1)) (.int .i64 ((rd_T111 l1 x23_2).f1))).trans hx65_0; replace hx65_0 := (cell_far (p := ⟨gb62, 2, none⟩) (by (rw [add_block]; exact hn189_2)) (.int .i64 ((rd_T111 l1 x23_2).f2))).trans hx65_0; clear hn189_0; clear hn189_1; clear hn189_2; replace p65 := eq_true p65; replace q65 := eq_true q65)))
      go_ret
      exact ⟨by rfl, by repeat ((with_reducible first | exact HB.out | apply pw_below_drewN | refine below_set ?_ GE62.out))⟩
     have H' := Z.k H
     clear H
     have p66 : (0 ≤ (x23_2 : Int)) = True := Z.oe
     have q66 : (x23_2 < (l1.length : Int)) = True := Z.oe
     obtain ⟨ad66, rfl, hx66_0, hx66_1, hx66_2⟩ := at_T111 HR1.out x23_2 Z.od Z.od
     replace hx66_0 := Z.up HB.out hx66_0
     replace hx66_1 := Z.up HB.out hx66_1
     replace hx66_2 := Z.up HB.out hx66_2
     go_wp2_with (((with_reducible refine gate_dst (N := 7) rfl ?_); (try (refine gate_guard (by rfl) ?_; dsimp only)); refine Z.bz #[.int .i64 0, .int .i64 0, .int .i64 0] 111 HB GE63 ?_; clear HB; intro gb62 w41 BK62 GE62 HB hg hb; have GW62 := GE62; have NB63_62 := Z.nl hg BK63; have NB62_63 := Z.ng hg BK63; replace BK63 := Z.bb BK63 hb; clear hb hg; have hnb42 := NB62_63.out; have hnc42 := NB63_62.out; have hcz43 := Z.c3 BK62.out; have hcz44 := Z.c2 BK63.out; have p65 : 0 ≤ (((rd_T111 l1 x23_2).f1) : Int) := Z.od; have q65 : ((rd_T111 l1 x23_2).f1) < (l0_1.length : Int) := Z.od; obtain ⟨ad65, e65, hx65_0⟩ := Kd.at_int HR0_1.out ((rd_T111 l1 x23_2).f1) p65 q65; cases e65; have hn189_0 : ad65.block ≠ gb62 := Nat.ne_of_lt (Nat.lt_of_lt_of_le (by have := World.block_lt_of_cell? _ _ hx65_0; rwa [add_block] at this) GW62.out); have hn189_1 : ad65.block ≠ gb62 := Nat.ne_of_lt (Nat.lt_of_lt_of_le (by have := World.block_lt_of_cell? _ _ hx65_0; rwa [add_block] at this) GW62.out); have hn189_2 : ad65.block ≠ gb62 := Nat.ne_of_lt (Nat.lt_of_lt_of_le (by have := World.block_lt_of_cell? _ _ hx65_0; rwa [add_block] at this) GW62.out); replace hx65_0 := Z.up HB.out hx65_0; replace hx65_0 := (cell_far (p := ⟨gb62, 0, none⟩) (by (rw [add_block]; exact hn189_0)) (.int .i64 ((rd_T111 l1 x23_2).f0))).trans hx65_0; replace hx65_0 := (cell_far (p := ⟨gb62, 1, none⟩) (by (rw [add_block]; exact hn189_1)) (.int .i64 ((rd_T111 l1 x23_2).f1))).trans hx65_0; replace hx65_0 := (cell_far (p := ⟨gb62, 2, none⟩) (by (rw [add_block]; exact hn189_2)) (.int .i64 ((rd_T111 l1 x23_2).f2))).trans hx65_0; (try have hy65_0 := fun (n_ : Nat) => (show (((((w41.drewN n_).setCell ⟨gb62, 0, none⟩ (.int .i64 ((rd_T111 l1 x23_2).f0))).setCell ⟨gb62, 1, none⟩ (.int .i64 ((rd_T111 l1 x23_2).f1))).setCell ⟨gb62, 2, none⟩ (.int .i64 ((rd_T111 l1 x23_2).f2)))).cell? _ = some _ from hx65_0)); clear hn189_0; clear hn189_1; clear hn189_2; replace p65 := eq_true p65; replace q65 := eq_true q65))
     repeat (go_quiet ((go_at_call 116; (with_reducible refine (impl_headsOf.calls (rd l0_1 ((rd_T111 l1 x23_2).f1)) t69 _ A35.out).mono ?_); rintro e w' ⟨rfl, ⟨nd, rfl⟩⟩; (try exact ⟨rfl, _, World.drewN_drewN _ _ _⟩))); try go_wp2_with (((with_reducible refine gate_dst (N := 7) rfl ?_); refine Z.bz #[.int .i64 0, .int .i64 0, .int .i64 0] 111 HB GE63 ?_; clear HB; intro gb62 w41 BK62 GE62 HB hg hb; have GW62 := GE62; have NB63_62 := Z.nl hg BK63; have NB62_63 := Z.ng hg BK63; replace BK63 := Z.bb BK63 hb; clear hb hg; have hnb42 := NB62_63.out; have hnc42 := NB63_62.out; have hcz43 := Z.c3 BK62.out; have hcz44 := Z.c2 BK63.out; have p65 : 0 ≤ (((rd_T111 l1 x23_2).f1) : Int) := Z.od; have q65 : ((rd_T111 l1 x23_2).f1) < (l0_1.length : Int) := Z.od; obtain ⟨ad65, e65, hx65_0⟩ := Kd.at_int HR0_1.out ((rd_T111 l1 x23_2).f1) p65 q65; cases e65; have hn189_0 : ad65.block ≠ gb62 := Nat.ne_of_lt (Nat.lt_of_lt_of_le (by have := World.block_lt_of_cell? _ _ hx65_0; rwa [add_block] at this) GW62.out); have hn189_1 : ad65.block ≠ gb62 := Nat.ne_of_lt (Nat.lt_of_lt_of_le (by have := World.block_lt_of_cell? _ _ hx65_0; rwa [add_block] at this) GW62.out); have hn189_2 : ad65.block ≠ gb62 := Nat.ne_of_lt (Nat.lt_of_lt_of_le (by have := World.block_lt_of_cell? _ _ hx65_0; rwa [add_block] at this) GW62.out); replace hx65_0 := Z.up HB.out hx65_0; replace hx65_0 := (cell_far (p := ⟨gb62, 0, none⟩) (by (rw [add_block]; exact hn189_0)) (.int .i64 ((rd_T111 l1 x23_2).f0))).trans hx65_0; replace hx65_0 := (cell_far (p := ⟨gb62, 1, none⟩) (by (rw [add_block]; exact hn189_1)) (.int .i64 ((rd_T111 l1 x23_2).f1))).trans hx65_0; replace hx65_0 := (cell_far (p := ⟨gb62, 2, none⟩) (by (rw [add_block]; exact hn189_2)) (.int .i64 ((rd_T111 l1 x23_2).f2))).trans hx65_0; clear hn189_0; clear hn189_1; clear hn189_2; replace p65 := eq_true p65; replace q65 := eq_true q65)))
     go_roundg k2
     case measure => have := HJ2.out; have := HK2.out; omega
     case rel => exact ⟨(wrap64 (x5_2 + 1)), (wrap64 (x23_2 + 1)), (by rfl), (by rfl), H', ⟨by have := HJ2.out; have := HK2.out; omega⟩, ⟨by (with_reducible repeat (refine blk_drewN ?_ _)); refine blk_far ?_ NB63_62.out _; refine blk_far ?_ NB63_62.out _; refine blk_far ?_ NB63_62.out _; exact BK63.out⟩, ⟨by repeat ((with_reducible first | exact HB.out | apply pw_below_drewN | refine below_set ?_ GE62.out))⟩⟩
    rw [if_neg c18] at H
    have c18b0 : (((rd_T111 l1 x23_2).f0) == 0) = false := beq_eq_false_iff_ne.mpr c18
    have c18b1 : (((rd_T111 l1 x23_2).f0) != 0) = true := bne_iff_ne.mpr c18
    have HC45 := Z.k H
    clear H
    have p66 : (0 ≤ (x23_2 : Int)) = True := Z.oe
    have q66 : (x23_2 < (l1.length : Int)) = True := Z.oe
    obtain ⟨ad66, rfl, hx66_0, hx66_1, hx66_2⟩ := at_T111 HR1.out x23_2 Z.od Z.od
    replace hx66_0 := Z.up HB.out hx66_0
    replace hx66_1 := Z.up HB.out hx66_1
    replace hx66_2 := Z.up HB.out hx66_2
    go_upto_if 61 with (((with_reducible refine gate_dst (N := 7) rfl ?_); (try (refine gate_guard (by rfl) ?_; dsimp only)); refine Z.bz #[.int .i64 0, .int .i64 0, .int .i64 0] 111 HB GE63 ?_; clear HB; intro gb62 w46 BK62 GE62 HB hg hb; have GW62 := GE62; have NB63_62 := Z.nl hg BK63; have NB62_63 := Z.ng hg BK63; replace BK63 := Z.bb BK63 hb; clear hb hg; have hnb47 := NB62_63.out; have hnc47 := NB63_62.out; have hcz48 := Z.c3 BK62.out))
    go_cut [61] (fun v61 wc => ∃ (kq : Nat) (x61_44 : Bool), v61 = .bool x61_44 ∧ Aside0 (impl_isTerm.j2 kq x5_2 l1 (l1.length : Int) x23_2 x61_44 a0_0 l0_1 ((rd_T111 l1 x23_2).f0) ((rd_T111 l1 x23_2).f1) ((rd_T111 l1 x23_2).f2) = some r) ∧ Aside0 (kq ≤ k2) ∧ Aside0 (wc.heap[gb63]? = some (.cells #[.int .i64 a0_0, (.slice A0_1 l0_1.length c0_1)] 25 (0, 0))) ∧ Aside0 (wc.heap[gb62]? = some (.cells #[.int .i64 ((rd_T111 l1 x23_2).f0), .int .i64 ((rd_T111 l1 x23_2).f1), .int .i64 ((rd_T111 l1 x23_2).f2)] 111 (0, 0))) ∧ Aside0 (Below w.heap.size w wc))
    case first =>
     have H := HC45.out
     clear HC45
     by_cases c49 : ((rd_T111 l1 x23_2).f0) = 1
     ·rw [if_pos c49] at H
      have c49b0 : (((rd_T111 l1 x23_2).f0) == 1) = true := beq_iff_eq.mpr c49
      have c49b1 : (((rd_T111 l1 x23_2).f0) != 1) = false := bne_eq_false_iff_eq.mpr c49
      clear c49
      (rw [c49b0])
      have H' := Z.k H
      clear H
      go_wp2
      go_meet
      case rel => exact ⟨_, ((((rd_T111 l1 x23_2).f0) == 1)), (by (simp [*]; done)), H', ⟨by have := HJ2.out; have := HK2.out; omega⟩, ⟨by refine blk_far ?_ NB63_62.out _; refine blk_far ?_ NB63_62.out _; refine blk_far ?_ NB63_62.out _; exact BK63.out⟩, ⟨by refine blk_put (cs := #[.int .i64 ((rd_T111 l1 x23_2).f0), .int .i64 ((rd_T111 l1 x23_2).f1), .int .i64 0]) ?_ 2 _ rfl; refine blk_put (cs := #[.int .i64 ((rd_T111 l1 x23_2).f0), .int .i64 0, .int .i64 0]) ?_ 1 _ rfl; refine blk_put (cs := #[.int .i64 0, .int .i64 0, .int .i64 0]) ?_ 0 _ rfl; exact BK62.out⟩, ⟨by repeat ((with_reducible first | exact HB.out | refine below_set ?_ GE62.out))⟩⟩
     rw [if_neg c49] at H
     have c49b0 : (((rd_T111 l1 x23_2).f0) == 1) = false := beq_eq_false_iff_ne.mpr c49
     have c49b1 : (((rd_T111 l1 x23_2).f0) != 1) = true := bne_iff_ne.mpr c49
     (rw [c49b0])
     have H' := Z.k H
     clear H
     go_wp2
     go_meet
     case rel => exact ⟨_, ((((rd_T111 l1 x23_2).f0) == 2)), (by rfl), H', ⟨by have := HJ2.out; have := HK2.out; omega⟩, ⟨by refine blk_far ?_ NB63_62.out _; refine blk_far ?_ NB63_62.out _; refine blk_far ?_ NB63_62.out _; exact BK63.out⟩, ⟨by refine blk_put (cs := #[.int .i64 ((rd_T111 l1 x23_2).f0), .int .i64 ((rd_T111 l1 x23_2).f1), .int .i64 0]) ?_ 2 _ rfl; refine blk_put (cs := #[.int .i64 ((rd_T111 l1 x23_2).f0), .int .i64 0, .int .i64 0]) ?_ 1 _ rfl; refine blk_put (cs := #[.int .i64 0, .int .i64 0, .int .i64 0]) ?_ 0 _ rfl; exact BK62.out⟩, ⟨by repeat ((with_reducible first | exact HB.out | refine below_set ?_ GE62.out))⟩⟩
    case rest =>
     clear HC45
     try clear c15b0
     try clear c16b0
     try clear c17b0
     try clear c18
     try clear c18b0
     try clear c18b1
     try clear hx66_0
     try clear hx66_1
     try clear hx66_2
     try clear p66
     try clear q66
     obtain ⟨kq, x61_44, rfl, HA, HJ44, BK63, BK62, HB⟩ := hcut
     cases kq with
     | zero => exact absurd HA.out (by simp [impl_isTerm.j2])
     | succ kj44 =>
      have H := HA.out
      clear HA
      simp only [impl_isTerm.j2] at H
      by_cases c50 : x61_44 = true
      rotate_left
      ·replace c50 := Bool.eq_false_iff.mpr c50
       subst c50
       rw [if_neg (show ¬ (false = true) by decide)] at H
       obtain rfl := Option.some.inj H
       go_wp2
       go_ret
       exact ⟨by rfl, HB.out⟩
      subst c50
      rw [if_pos rfl] at H
      by_cases c51 : ((rd_T111 l1 x23_2).f1) = 0
      rotate_left
      ·rw [if_neg c51] at H
       have c51b0 : (((rd_T111 l1 x23_2).f1) == 0) = false := beq_eq_false_iff_ne.mpr c51
       have c51b1 : (((rd_T111 l1 x23_2).f1) != 0) = true := bne_iff_ne.mpr c51
       obtain rfl := Option.some.inj H
       have hnb60 := NB62_63.out
       have hnc60 := NB63_62.out
       have hcz61 := Z.c3 BK62.out
       go_wp2
       go_ret
       exact ⟨by rfl, HB.out⟩
      rw [if_pos c51] at H
      have c51b0 : (((rd_T111 l1 x23_2).f1) == 0) = true := beq_iff_eq.mpr c51
      have c51b1 : (((rd_T111 l1 x23_2).f1) != 0) = false := bne_eq_false_iff_eq.mpr c51
      clear c51
      by_cases c52 : ((rd_T111 l1 x23_2).f2) = 0
      ·rw [if_pos c52] at H
       have c52b0 : (((rd_T111 l1 x23_2).f2) == 0) = true := beq_iff_eq.mpr c52
       have c52b1 : (((rd_T111 l1 x23_2).f2) != 0) = false := bne_eq_false_iff_eq.mpr c52
       clear c52
       revert H; refine Z.fc ?_ ?_ <;> intro c53b0 H
       ·obtain rfl := Option.some.inj H
        have hnb54 := NB62_63.out
        have hnc54 := NB63_62.out
        have hcz55 := Z.c3 BK62.out
        go_wp2
        go_ret
        exact ⟨by rfl, HB.out⟩
       have H' := Z.k H
       clear H
       have hnb56 := NB62_63.out
       have hnc56 := NB63_62.out
       have hcz57 := Z.c3 BK62.out
       go_wp2
       go_roundg kj44
       case measure => have := HJ2.out; have := HK2.out; have := HJ44.out; omega
       case rel => exact ⟨(wrap64 (x5_2 - 1)), (wrap64 (x23_2 + 1)), (by rfl), (by rfl), H', ⟨by have := HJ2.out; have := HK2.out; have := HJ44.out; omega⟩, ⟨by exact BK63.out⟩, ⟨HB.out⟩⟩
      rw [if_neg c52] at H
      have c52b0 : (((rd_T111 l1 x23_2).f2) == 0) = false := beq_eq_false_iff_ne.mpr c52
      have c52b1 : (((rd_T111 l1 x23_2).f2) != 0) = true := bne_iff_ne.mpr c52
      obtain rfl := Option.some.inj H
      have hnb58 := NB62_63.out
      have hnc58 := NB63_62.out
      have hcz59 := Z.c3 BK62.out
      go_wp2
      go_ret
      exact ⟨by rfl, HB.out⟩
end Go.Proofs.Ytkogboechfieeaa.PAll
