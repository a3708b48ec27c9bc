/- Walks of functions that laws of this seat reach, in the form of the print. -/
import Derived.Test.YtojoblllgddckaaCAll0
import Derived.Test.YtojoblllgddckaaCAll1
import Derived.Test.YtojoblllgddckaaCAll7
import Derived.Test.YtojoblllgddckaaCAll15
import Derived.Test.YtojoblllgddckaaZ
-- PRINTED
namespace Go.Proofs.Ytojoblllgddckaa.PAll
open Go.RowKit Go.Proofs.YtojoblllgddckaaW.PrintWords Go.Proofs.YtojoblllgddckaaW.PrintLast Go.Proofs.YtojoblllgddckaaW.PrintMore
attribute [local go_sem] max2_int min2_int max_two min_two max_three min_three max_four min_four
set_option linter.unusedVariables false
set_option linter.unusedSimpArgs false

/-! ### spec_ApartOk: function 26 -/
mutual
def spec_ApartOk.j0 : Nat → Bool → Int → List Int → List (List (S91)) → Int → Int → Int → Int → Int → Int → Option (Bool)
 | 0, _, _, _, _, _, _, _, _, _, _ => none
 | k + 1, x38, x529000, x529001, x529002, x530000, x530001, x530002, x531000, x531001, x531002 => if x38 = true then (some false) else (spec_ApartOk.l0 k 0 x529000 x529001 x529002 x530000 x530001 x530002 x531000 x531001 x531002)
def spec_ApartOk.l0 : Nat → Int → Int → List Int → List (List (S91)) → Int → Int → Int → Int → Int → Int → Option (Bool)
 | 0, _, _, _, _, _, _, _, _, _, _ => none
 | k + 1, x7, x529000, x529001, x529002, x530000, x530001, x530002, x531000, x531001, x531002 => if 0 ≤ x530000 then (if x530000 < (x529002.length : Int) then (if x7 < ((rd_L5 x529002 x530000).length : Int) then (if 0 ≤ x7 then (if ((rd_T91 (rd_L5 x529002 x530000) x7).f1) = x531000 then (some false) else (spec_ApartOk.l0 k (wrap64 (x7 + 1)) x529000 x529001 x529002 x530000 x530001 x530002 x531000 x531001 x531002)) else (none)) else (spec_ApartOk.l1 k 0 x529000 x529001 x529002 x530000 x530001 x530002 x531000 x531001 x531002)) else (none)) else (none)
def spec_ApartOk.l1 : Nat → Int → Int → List Int → List (List (S91)) → Int → Int → Int → Int → Int → Int → Option (Bool)
 | 0, _, _, _, _, _, _, _, _, _, _ => none
 | k + 1, x8, x529000, x529001, x529002, x530000, x530001, x530002, x531000, x531001, x531002 => if 0 ≤ x531000 then (if x531000 < (x529002.length : Int) then (if x8 < ((rd_L5 x529002 x531000).length : Int) then (if 0 ≤ x8 then (if ((rd_T91 (rd_L5 x529002 x531000) x8).f1) = x530000 then (some false) else (spec_ApartOk.l1 k (wrap64 (x8 + 1)) x529000 x529001 x529002 x530000 x530001 x530002 x531000 x531001 x531002)) else (none)) else (some true)) else (none)) else (none)
end
def spec_ApartOk.f (k : Nat) (a0_0 : Int) (l0_1 : List Int) (l0_2 : List (List (S91))) (a1_0 : Int) (a1_1 : Int) (a1_2 : Int) (a2_0 : Int) (a2_1 : Int) (a2_2 : Int) : Option (Bool) := (spec_CharterOk.f k a0_0 l0_1 l0_2).bind fun t531 => (if t531 = true then ((spec_l1In.f a1_0 0 (wrap64 ((l0_2.length : Int) - 1))).bind fun t532 => (if t532 = true then ((spec_l1In.f a2_0 0 (wrap64 ((l0_2.length : Int) - 1))).bind fun t533 => (if t533 = true then (spec_ApartOk.j0 k (a1_0 == a2_0) a0_0 l0_1 l0_2 a1_0 a1_1 a1_2 a2_0 a2_1 a2_2) else (spec_ApartOk.j0 k true a0_0 l0_1 l0_2 a1_0 a1_1 a1_2 a2_0 a2_1 a2_2))) else (spec_ApartOk.j0 k true a0_0 l0_1 l0_2 a1_0 a1_1 a1_2 a2_0 a2_1 a2_2))) else (spec_ApartOk.j0 k true a0_0 l0_1 l0_2 a1_0 a1_1 a1_2 a2_0 a2_1 a2_2))
set_option maxHeartbeats 8000000 in
set_option maxRecDepth 100000 in
theorem spec_ApartOk.calls (k : Nat) (a0_0 : Int) (A0_1 : Option Addr) (c0_1 : Nat) (l0_1 : List Int) (A0_2 : Option Addr) (c0_2 : Nat) (l0_2 : List (List (S91))) (a1_0 : Int) (a1_1 : Int) (a1_2 : Int) (a2_0 : Int) (a2_1 : Int) (a2_2 : Int) (r : Bool) (w : World) (hr0_1 : Kd.C (Kd.int .i64) w A0_1 l0_1.length l0_1) (hc0_1 : l0_1.length ≤ c0_1) (hr0_2 : Kd.C (Kd.slice 91 k91) w A0_2 l0_2.length l0_2) (hc0_2 : l0_2.length ≤ c0_2) (h : spec_ApartOk.f k a0_0 l0_1 l0_2 a1_0 a1_1 a1_2 a2_0 a2_1 a2_2 = some r) :
  Calls Try.prog 26 #[.agg #[.int .i64 a0_0, .slice A0_1 l0_1.length c0_1, .slice A0_2 l0_2.length c0_2], .agg #[.int .i64 a1_0, .int .i64 a1_1, .int .i64 a1_2], .agg #[.int .i64 a2_0, .int .i64 a2_1, .int .i64 a2_2]] w fun e w' => e = .returned (.bool r) ∧ Below w.heap.size w w' := by
 have hu46 := Try.underlying46
 have hu48 := Try.underlying48
 have HR0_1 := Aside0.mk hr0_1
 have HC0_1 := Aside0.mk hc0_1
 clear hr0_1 hc0_1
 have HR0_2 := Aside0.mk hr0_2
 have HC0_2 := Aside0.mk hc0_2
 clear hr0_2 hc0_2
 have HB := Aside0.mk (Below.refl w.heap.size w)
 have H := h
 clear h
 unfold spec_ApartOk.f at H
 have HC4 := Aside0.mk H
 clear H
 go_enter Try.func26, Try.ntmps26
 go_upto_region 1 with (first | ((with_reducible refine gate_dst (N := 3) rfl ?_); (try (refine gate_guard (by rfl) ?_; dsimp only)); refine Z.bx #[.int .i64 a0_0, .slice A0_1 l0_1.length c0_1, .slice A0_2 l0_2.length c0_2] 46 HB ?_; clear HB; intro gb528 w5 BK528 GE528 HB hg hb; have GW528 := GE528; clear hb hg) | ((with_reducible refine gate_dst (N := 4) rfl ?_); (try (refine gate_guard (by rfl) ?_; dsimp only)); refine Z.bz #[.int .i64 a1_0, .int .i64 a1_1, .int .i64 a1_2] 48 HB GE528 ?_; clear HB; intro gb529 w6 BK529 GE529 HB hg hb; have GW529 := GE529; have NB528_529 := Z.nl hg BK528; have NB529_528 := Z.ng hg BK528; replace BK528 := Z.bb BK528 hb; clear hb hg) | ((with_reducible refine gate_dst (N := 5) rfl ?_); (try (refine gate_guard (by rfl) ?_; dsimp only)); refine box_event ?hg (N := 5) ?hd (cs := #[.int .i64 a2_0, .int .i64 a2_1, .int .i64 a2_2]) (t := 48) ?hr ?_; (case hd | hg => rfl); (case hr => first | (go_simp; done) | (go_simp; rfl)); intro gb530 hg w7 hbox hb; have BK530 := Aside0.mk (hbox); have GW530 := Aside0.mk ((by rw [hg]; exact (below_size (by repeat (first | (with_reducible first | exact HB.out | apply below_alloc | apply pw_below_drewN | apply below_drew1 | refine below_set ?_ GE528.out | refine below_set ?_ GE529.out) | exact HB.out))) : w.heap.size ≤ gb530)); have GE530 := Aside0.mk ((by rw [hg]; exact (below_size (by repeat (first | (with_reducible first | exact HB.out | apply below_alloc | apply pw_below_drewN | apply below_drew1 | refine below_set ?_ GE528.out | refine below_set ?_ GE529.out) | exact HB.out))) : w.heap.size ≤ gb530)); replace HB := Aside0.mk (below_step (by repeat (first | (with_reducible first | exact HB.out | apply below_alloc | apply pw_below_drewN | apply below_drew1 | refine below_set ?_ GE528.out | refine below_set ?_ GE529.out) | exact HB.out)) hb); have NB528_530 := Z.nl hg BK528; have NB530_528 := Z.ng hg BK528; replace BK528 := Z.bb BK528 hb; have NB529_530 := Z.nl hg BK529; have NB530_529 := Z.ng hg BK529; replace BK529 := Z.bb BK529 hb; clear hb hbox hg))
 repeat (go_quiet (first | ((with_reducible refine gate_dst (N := 3) rfl ?_); (try (refine gate_guard (by rfl) ?_; dsimp only)); refine Z.bx #[.int .i64 a0_0, .slice A0_1 l0_1.length c0_1, .slice A0_2 l0_2.length c0_2] 46 HB ?_; clear HB; intro gb528 w5 BK528 GE528 HB hg hb; have GW528 := GE528; clear hb hg) | ((with_reducible refine gate_dst (N := 4) rfl ?_); (try (refine gate_guard (by rfl) ?_; dsimp only)); refine Z.bz #[.int .i64 a1_0, .int .i64 a1_1, .int .i64 a1_2] 48 HB GE528 ?_; clear HB; intro gb529 w6 BK529 GE529 HB hg hb; have GW529 := GE529; have NB528_529 := Z.nl hg BK528; have NB529_528 := Z.ng hg BK528; replace BK528 := Z.bb BK528 hb; clear hb hg) | ((with_reducible refine gate_dst (N := 5) rfl ?_); (try (refine gate_guard (by rfl) ?_; dsimp only)); refine box_event ?hg (N := 5) ?hd (cs := #[.int .i64 a2_0, .int .i64 a2_1, .int .i64 a2_2]) (t := 48) ?hr ?_; (case hd | hg => rfl); (case hr => first | (go_simp; done) | (go_simp; rfl)); intro gb530 hg w7 hbox hb; have BK530 := Aside0.mk (hbox); have GW530 := Aside0.mk ((by rw [hg]; exact (below_size (by repeat (first | (with_reducible first | exact HB.out | apply below_alloc | apply pw_below_drewN | apply below_drew1 | refine below_set ?_ GE528.out | refine below_set ?_ GE529.out) | exact HB.out))) : w.heap.size ≤ gb530)); have GE530 := Aside0.mk ((by rw [hg]; exact (below_size (by repeat (first | (with_reducible first | exact HB.out | apply below_alloc | apply pw_below_drewN | apply below_drew1 | refine below_set ?_ GE528.out | refine below_set ?_ GE529.out) | exact HB.out))) : w.heap.size ≤ gb530)); replace HB := Aside0.mk (below_step (by repeat (first | (with_reducible first | exact HB.out | apply below_alloc | apply pw_below_drewN | apply below_drew1 | refine below_set ?_ GE528.out | refine below_set ?_ GE529.out) | exact HB.out)) hb); have NB528_530 := Z.nl hg BK528; have NB530_528 := Z.ng hg BK528; replace BK528 := Z.bb BK528 hb; have NB529_530 := Z.nl hg BK529; have NB530_529 := Z.ng hg BK529; replace BK529 := Z.bb BK529 hb; clear hb hbox hg)); go_upto_region 1 with (first | ((with_reducible refine gate_dst (N := 3) rfl ?_); (try (refine gate_guard (by rfl) ?_; dsimp only)); refine Z.bx #[.int .i64 a0_0, .slice A0_1 l0_1.length c0_1, .slice A0_2 l0_2.length c0_2] 46 HB ?_; clear HB; intro gb528 w5 BK528 GE528 HB hg hb; have GW528 := GE528; clear hb hg) | ((with_reducible refine gate_dst (N := 4) rfl ?_); (try (refine gate_guard (by rfl) ?_; dsimp only)); refine Z.bz #[.int .i64 a1_0, .int .i64 a1_1, .int .i64 a1_2] 48 HB GE528 ?_; clear HB; intro gb529 w6 BK529 GE529 HB hg hb; have GW529 := GE529; have NB528_529 := Z.nl hg BK528; have NB529_528 := Z.ng hg BK528; replace BK528 := Z.bb BK528 hb; clear hb hg) | ((with_reducible refine gate_dst (N := 5) rfl ?_); (try (refine gate_guard (by rfl) ?_; dsimp only)); refine box_event ?hg (N := 5) ?hd (cs := #[.int .i64 a2_0, .int .i64 a2_1, .int .i64 a2_2]) (t := 48) ?hr ?_; (case hd | hg => rfl); (case hr => first | (go_simp; done) | (go_simp; rfl)); intro gb530 hg w7 hbox hb; have BK530 := Aside0.mk (hbox); have GW530 := Aside0.mk ((by rw [hg]; exact (below_size (by repeat (first | (with_reducible first | exact HB.out | apply below_alloc | apply pw_below_drewN | apply below_drew1 | refine below_set ?_ GE528.out | refine below_set ?_ GE529.out) | exact HB.out))) : w.heap.size ≤ gb530)); have GE530 := Aside0.mk ((by rw [hg]; exact (below_size (by repeat (first | (with_reducible first | exact HB.out | apply below_alloc | apply pw_below_drewN | apply below_drew1 | refine below_set ?_ GE528.out | refine below_set ?_ GE529.out) | exact HB.out))) : w.heap.size ≤ gb530)); replace HB := Aside0.mk (below_step (by repeat (first | (with_reducible first | exact HB.out | apply below_alloc | apply pw_below_drewN | apply below_drew1 | refine below_set ?_ GE528.out | refine below_set ?_ GE529.out) | exact HB.out)) hb); have NB528_530 := Z.nl hg BK528; have NB530_528 := Z.ng hg BK528; replace BK528 := Z.bb BK528 hb; have NB529_530 := Z.nl hg BK529; have NB530_529 := Z.ng hg BK529; replace BK529 := Z.bb BK529 hb; clear hb hbox hg)))
 (try simp only [Act.put, List.setIfInBounds_toArray, List.set_cons_zero, List.set_cons_succ])
 go_cut [38] (fun v38 wc => ∃ (kq : Nat) (x38_3 : Bool), v38 = .bool x38_3 ∧ Aside0 (spec_ApartOk.j0 kq x38_3 a0_0 l0_1 l0_2 a1_0 a1_1 a1_2 a2_0 a2_1 a2_2 = some r) ∧ Aside0 (kq ≤ k) ∧ Aside0 (wc.heap[gb528]? = some (.cells #[.int .i64 a0_0, (.slice A0_1 l0_1.length c0_1), (.slice A0_2 l0_2.length c0_2)] 46 (0, 0))) ∧ Aside0 (wc.heap[gb529]? = some (.cells #[.int .i64 a1_0, .int .i64 a1_1, .int .i64 a1_2] 48 (0, 0))) ∧ Aside0 (wc.heap[gb530]? = some (.cells #[.int .i64 a2_0, .int .i64 a2_1, .int .i64 a2_2] 48 (0, 0))) ∧ Aside0 (Below w.heap.size w wc))
 case first =>
  have H := HC4.out
  clear HC4
  replace H := Option.bind_eq_some_iff.mp H
  obtain ⟨t531, A80, H⟩ := H
  try dsimp only at H
  have A8 := Aside0.mk A80
  clear A80
  by_cases c9 : t531 = true
  ·subst c9
   rw [if_pos rfl] at H
   replace H := Option.bind_eq_some_iff.mp H
   obtain ⟨t532, A100, H⟩ := H
   try dsimp only at H
   have A10 := Aside0.mk A100
   clear A100
   by_cases c11 : t532 = true
   ·subst c11
    rw [if_pos rfl] at H
    replace H := Option.bind_eq_some_iff.mp H
    obtain ⟨t533, A120, H⟩ := H
    try dsimp only at H
    have A12 := Aside0.mk A120
    clear A120
    by_cases c13 : t533 = true
    ·subst c13
     rw [if_pos rfl] at H
     have H' := Aside0.mk H
     clear H
     have hnb14 := NB528_529.out
     have hnc14 := NB529_528.out
     have hnb15 := NB528_530.out
     have hnc15 := NB530_528.out
     have hcz16 := Z.c3 BK528.out
     go_wp2_with (first | (go_at_call 70; (with_reducible refine (spec_CharterOk.calls k a0_0 _ _ l0_1 _ _ l0_2 true _ ?q1 ?q2 ?q3 ?q4 A8.out).mono ?_); (case q1 => exact Z.cc HR0_1 HB); (case q2 => exact HC0_1.out); (case q3 => exact Z.cc HR0_2 HB); (case q4 => exact HC0_2.out); rintro e w17 ⟨rfl, hb⟩; replace BK528 := Z.bb BK528 hb; replace BK529 := Z.bb BK529 hb; replace BK530 := Z.bb BK530 hb; replace HB := Aside0.mk (below_step (by repeat (first | (with_reducible first | exact HB.out | apply below_alloc | apply pw_below_drewN | apply below_drew1 | refine below_set ?_ GE528.out | refine below_set ?_ GE529.out | refine below_set ?_ GE530.out) | exact HB.out)) hb); (try clear hb); (try clear hb2); (try clear hk); (try clear hi); have hnb18 := NB529_530.out; have hnc18 := NB530_529.out; have hcz19 := Z.c3 BK529.out; have hcz20 := Z.c3 BK528.out) | (go_at_call 54; (with_reducible refine (spec_l1In.calls a1_0 0 (wrap64 ((l0_2.length : Int) - 1)) true _ A10.out).mono ?_); rintro e w' ⟨rfl, ⟨nd, rfl⟩⟩; (try first | exact ⟨rfl, _, World.drewN_drewN _ _ _⟩ | exact ⟨rfl, _, Eq.trans (World.drewN_drewN _ _ _) (congrArg (World.drewN _) (Nat.add_assoc _ _ _))⟩); have hcz21 := Z.c3 BK530.out) | (go_at_call 54; (with_reducible refine (spec_l1In.calls a2_0 0 (wrap64 ((l0_2.length : Int) - 1)) true _ A12.out).mono ?_); rintro e w' ⟨rfl, ⟨nd, rfl⟩⟩; (try first | exact ⟨rfl, _, World.drewN_drewN _ _ _⟩ | exact ⟨rfl, _, Eq.trans (World.drewN_drewN _ _ _) (congrArg (World.drewN _) (Nat.add_assoc _ _ _))⟩)))
     repeat (go_quiet (first | (go_at_call 70; (with_reducible refine (spec_CharterOk.calls k a0_0 _ _ l0_1 _ _ l0_2 true _ ?q1 ?q2 ?q3 ?q4 A8.out).mono ?_); (case q1 => exact Z.cc HR0_1 HB); (case q2 => exact HC0_1.out); (case q3 => exact Z.cc HR0_2 HB); (case q4 => exact HC0_2.out); rintro e w17 ⟨rfl, hb⟩; replace BK528 := Z.bb BK528 hb; replace BK529 := Z.bb BK529 hb; replace BK530 := Z.bb BK530 hb; replace HB := Aside0.mk (below_step (by repeat (first | (with_reducible first | exact HB.out | apply below_alloc | apply pw_below_drewN | apply below_drew1 | refine below_set ?_ GE528.out | refine below_set ?_ GE529.out | refine below_set ?_ GE530.out) | exact HB.out)) hb); (try clear hb); (try clear hb2); (try clear hk); (try clear hi); have hnb18 := NB529_530.out; have hnc18 := NB530_529.out; have hcz19 := Z.c3 BK529.out; have hcz20 := Z.c3 BK528.out) | (go_at_call 54; (with_reducible refine (spec_l1In.calls a1_0 0 (wrap64 ((l0_2.length : Int) - 1)) true _ A10.out).mono ?_); rintro e w' ⟨rfl, ⟨nd, rfl⟩⟩; (try first | exact ⟨rfl, _, World.drewN_drewN _ _ _⟩ | exact ⟨rfl, _, Eq.trans (World.drewN_drewN _ _ _) (congrArg (World.drewN _) (Nat.add_assoc _ _ _))⟩); have hcz21 := Z.c3 BK530.out) | (go_at_call 54; (with_reducible refine (spec_l1In.calls a2_0 0 (wrap64 ((l0_2.length : Int) - 1)) true _ A12.out).mono ?_); rintro e w' ⟨rfl, ⟨nd, rfl⟩⟩; (try first | exact ⟨rfl, _, World.drewN_drewN _ _ _⟩ | exact ⟨rfl, _, Eq.trans (World.drewN_drewN _ _ _) (congrArg (World.drewN _) (Nat.add_assoc _ _ _))⟩))); try go_wp2_with (first | (go_at_call 70; (with_reducible refine (spec_CharterOk.calls k a0_0 _ _ l0_1 _ _ l0_2 true _ ?q1 ?q2 ?q3 ?q4 A8.out).mono ?_); (case q1 => exact Z.cc HR0_1 HB); (case q2 => exact HC0_1.out); (case q3 => exact Z.cc HR0_2 HB); (case q4 => exact HC0_2.out); rintro e w17 ⟨rfl, hb⟩; replace BK528 := Z.bb BK528 hb; replace BK529 := Z.bb BK529 hb; replace BK530 := Z.bb BK530 hb; replace HB := Aside0.mk (below_step (by repeat (first | (with_reducible first | exact HB.out | apply below_alloc | apply pw_below_drewN | apply below_drew1 | refine below_set ?_ GE528.out | refine below_set ?_ GE529.out | refine below_set ?_ GE530.out) | exact HB.out)) hb); (try clear hb); (try clear hb2); (try clear hk); (try clear hi); have hnb18 := NB529_530.out; have hnc18 := NB530_529.out; have hcz19 := Z.c3 BK529.out; have hcz20 := Z.c3 BK528.out) | (go_at_call 54; (with_reducible refine (spec_l1In.calls a1_0 0 (wrap64 ((l0_2.length : Int) - 1)) true _ A10.out).mono ?_); rintro e w' ⟨rfl, ⟨nd, rfl⟩⟩; (try first | exact ⟨rfl, _, World.drewN_drewN _ _ _⟩ | exact ⟨rfl, _, Eq.trans (World.drewN_drewN _ _ _) (congrArg (World.drewN _) (Nat.add_assoc _ _ _))⟩); have hcz21 := Z.c3 BK530.out) | (go_at_call 54; (with_reducible refine (spec_l1In.calls a2_0 0 (wrap64 ((l0_2.length : Int) - 1)) true _ A12.out).mono ?_); rintro e w' ⟨rfl, ⟨nd, rfl⟩⟩; (try first | exact ⟨rfl, _, World.drewN_drewN _ _ _⟩ | exact ⟨rfl, _, Eq.trans (World.drewN_drewN _ _ _) (congrArg (World.drewN _) (Nat.add_assoc _ _ _))⟩))))
     go_meet
     case rel => exact ⟨_, ((a1_0 == a2_0)), (by first | rfl | (simp; done) | (simp [*]; done)), H', ⟨by first | omega | exact Nat.le_refl _⟩, ⟨by (with_reducible repeat (first | refine blk_drewN ?_ _ | refine blk_drew ?_ | refine blk_alloc ?_ _)); exact BK528.out⟩, ⟨by (with_reducible repeat (first | refine blk_drewN ?_ _ | refine blk_drew ?_ | refine blk_alloc ?_ _)); exact BK529.out⟩, ⟨by (with_reducible repeat (first | refine blk_drewN ?_ _ | refine blk_drew ?_ | refine blk_alloc ?_ _)); exact BK530.out⟩, ⟨by repeat (first | (with_reducible first | exact HB.out | apply below_alloc | apply pw_below_drewN | apply below_drew1 | refine below_set ?_ GE528.out | refine below_set ?_ GE529.out | refine below_set ?_ GE530.out) | exact HB.out)⟩⟩
    ·replace c13 := Bool.eq_false_iff.mpr c13
     subst c13
     rw [if_neg (show ¬ (false = true) by decide)] at H
     have H' := Aside0.mk H
     clear H
     have hnb22 := NB528_529.out
     have hnc22 := NB529_528.out
     have hnb23 := NB528_530.out
     have hnc23 := NB530_528.out
     have hcz24 := Z.c3 BK528.out
     go_wp2_with (first | (go_at_call 70; (with_reducible refine (spec_CharterOk.calls k a0_0 _ _ l0_1 _ _ l0_2 true _ ?q1 ?q2 ?q3 ?q4 A8.out).mono ?_); (case q1 => exact Z.cc HR0_1 HB); (case q2 => exact HC0_1.out); (case q3 => exact Z.cc HR0_2 HB); (case q4 => exact HC0_2.out); rintro e w25 ⟨rfl, hb⟩; replace BK528 := Z.bb BK528 hb; replace BK529 := Z.bb BK529 hb; replace BK530 := Z.bb BK530 hb; replace HB := Aside0.mk (below_step (by repeat (first | (with_reducible first | exact HB.out | apply below_alloc | apply pw_below_drewN | apply below_drew1 | refine below_set ?_ GE528.out | refine below_set ?_ GE529.out | refine below_set ?_ GE530.out) | exact HB.out)) hb); (try clear hb); (try clear hb2); (try clear hk); (try clear hi); have hnb26 := NB529_530.out; have hnc26 := NB530_529.out; have hcz27 := Z.c3 BK529.out; have hcz28 := Z.c3 BK528.out) | (go_at_call 54; (with_reducible refine (spec_l1In.calls a1_0 0 (wrap64 ((l0_2.length : Int) - 1)) true _ A10.out).mono ?_); rintro e w' ⟨rfl, ⟨nd, rfl⟩⟩; (try first | exact ⟨rfl, _, World.drewN_drewN _ _ _⟩ | exact ⟨rfl, _, Eq.trans (World.drewN_drewN _ _ _) (congrArg (World.drewN _) (Nat.add_assoc _ _ _))⟩); have hcz29 := Z.c3 BK530.out) | (go_at_call 54; (with_reducible refine (spec_l1In.calls a2_0 0 (wrap64 ((l0_2.length : Int) - 1)) false _ A12.out).mono ?_); rintro e w' ⟨rfl, ⟨nd, rfl⟩⟩; (try first | exact ⟨rfl, _, World.drewN_drewN _ _ _⟩ | exact ⟨rfl, _, Eq.trans (World.drewN_drewN _ _ _) (congrArg (World.drewN _) (Nat.add_assoc _ _ _))⟩)))
     repeat (go_quiet (first | (go_at_call 70; (with_reducible refine (spec_CharterOk.calls k a0_0 _ _ l0_1 _ _ l0_2 true _ ?q1 ?q2 ?q3 ?q4 A8.out).mono ?_); (case q1 => exact Z.cc HR0_1 HB); (case q2 => exact HC0_1.out); (case q3 => exact Z.cc HR0_2 HB); (case q4 => exact HC0_2.out); rintro e w25 ⟨rfl, hb⟩; replace BK528 := Z.bb BK528 hb; replace BK529 := Z.bb BK529 hb; replace BK530 := Z.bb BK530 hb; replace HB := Aside0.mk (below_step (by repeat (first | (with_reducible first | exact HB.out | apply below_alloc | apply pw_below_drewN | apply below_drew1 | refine below_set ?_ GE528.out | refine below_set ?_ GE529.out | refine below_set ?_ GE530.out) | exact HB.out)) hb); (try clear hb); (try clear hb2); (try clear hk); (try clear hi); have hnb26 := NB529_530.out; have hnc26 := NB530_529.out; have hcz27 := Z.c3 BK529.out; have hcz28 := Z.c3 BK528.out) | (go_at_call 54; (with_reducible refine (spec_l1In.calls a1_0 0 (wrap64 ((l0_2.length : Int) - 1)) true _ A10.out).mono ?_); rintro e w' ⟨rfl, ⟨nd, rfl⟩⟩; (try first | exact ⟨rfl, _, World.drewN_drewN _ _ _⟩ | exact ⟨rfl, _, Eq.trans (World.drewN_drewN _ _ _) (congrArg (World.drewN _) (Nat.add_assoc _ _ _))⟩); have hcz29 := Z.c3 BK530.out) | (go_at_call 54; (with_reducible refine (spec_l1In.calls a2_0 0 (wrap64 ((l0_2.length : Int) - 1)) false _ A12.out).mono ?_); rintro e w' ⟨rfl, ⟨nd, rfl⟩⟩; (try first | exact ⟨rfl, _, World.drewN_drewN _ _ _⟩ | exact ⟨rfl, _, Eq.trans (World.drewN_drewN _ _ _) (congrArg (World.drewN _) (Nat.add_assoc _ _ _))⟩))); try go_wp2_with (first | (go_at_call 70; (with_reducible refine (spec_CharterOk.calls k a0_0 _ _ l0_1 _ _ l0_2 true _ ?q1 ?q2 ?q3 ?q4 A8.out).mono ?_); (case q1 => exact Z.cc HR0_1 HB); (case q2 => exact HC0_1.out); (case q3 => exact Z.cc HR0_2 HB); (case q4 => exact HC0_2.out); rintro e w25 ⟨rfl, hb⟩; replace BK528 := Z.bb BK528 hb; replace BK529 := Z.bb BK529 hb; replace BK530 := Z.bb BK530 hb; replace HB := Aside0.mk (below_step (by repeat (first | (with_reducible first | exact HB.out | apply below_alloc | apply pw_below_drewN | apply below_drew1 | refine below_set ?_ GE528.out | refine below_set ?_ GE529.out | refine below_set ?_ GE530.out) | exact HB.out)) hb); (try clear hb); (try clear hb2); (try clear hk); (try clear hi); have hnb26 := NB529_530.out; have hnc26 := NB530_529.out; have hcz27 := Z.c3 BK529.out; have hcz28 := Z.c3 BK528.out) | (go_at_call 54; (with_reducible refine (spec_l1In.calls a1_0 0 (wrap64 ((l0_2.length : Int) - 1)) true _ A10.out).mono ?_); rintro e w' ⟨rfl, ⟨nd, rfl⟩⟩; (try first | exact ⟨rfl, _, World.drewN_drewN _ _ _⟩ | exact ⟨rfl, _, Eq.trans (World.drewN_drewN _ _ _) (congrArg (World.drewN _) (Nat.add_assoc _ _ _))⟩); have hcz29 := Z.c3 BK530.out) | (go_at_call 54; (with_reducible refine (spec_l1In.calls a2_0 0 (wrap64 ((l0_2.length : Int) - 1)) false _ A12.out).mono ?_); rintro e w' ⟨rfl, ⟨nd, rfl⟩⟩; (try first | exact ⟨rfl, _, World.drewN_drewN _ _ _⟩ | exact ⟨rfl, _, Eq.trans (World.drewN_drewN _ _ _) (congrArg (World.drewN _) (Nat.add_assoc _ _ _))⟩))))
     go_meet
     case rel => exact ⟨_, (true), (by first | rfl | (simp; done) | (simp [*]; done)), H', ⟨by first | omega | exact Nat.le_refl _⟩, ⟨by (with_reducible repeat (first | refine blk_drewN ?_ _ | refine blk_drew ?_ | refine blk_alloc ?_ _)); exact BK528.out⟩, ⟨by (with_reducible repeat (first | refine blk_drewN ?_ _ | refine blk_drew ?_ | refine blk_alloc ?_ _)); exact BK529.out⟩, ⟨by (with_reducible repeat (first | refine blk_drewN ?_ _ | refine blk_drew ?_ | refine blk_alloc ?_ _)); exact BK530.out⟩, ⟨by repeat (first | (with_reducible first | exact HB.out | apply below_alloc | apply pw_below_drewN | apply below_drew1 | refine below_set ?_ GE528.out | refine below_set ?_ GE529.out | refine below_set ?_ GE530.out) | exact HB.out)⟩⟩
   ·replace c11 := Bool.eq_false_iff.mpr c11
    subst c11
    rw [if_neg (show ¬ (false = true) by decide)] at H
    have H' := Aside0.mk H
    clear H
    have hnb30 := NB528_529.out
    have hnc30 := NB529_528.out
    have hnb31 := NB528_530.out
    have hnc31 := NB530_528.out
    have hcz32 := Z.c3 BK528.out
    go_wp2_with (first | (go_at_call 70; (with_reducible refine (spec_CharterOk.calls k a0_0 _ _ l0_1 _ _ l0_2 true _ ?q1 ?q2 ?q3 ?q4 A8.out).mono ?_); (case q1 => exact Z.cc HR0_1 HB); (case q2 => exact HC0_1.out); (case q3 => exact Z.cc HR0_2 HB); (case q4 => exact HC0_2.out); rintro e w33 ⟨rfl, hb⟩; replace BK528 := Z.bb BK528 hb; replace BK529 := Z.bb BK529 hb; replace BK530 := Z.bb BK530 hb; replace HB := Aside0.mk (below_step (by repeat (first | (with_reducible first | exact HB.out | apply below_alloc | apply pw_below_drewN | apply below_drew1 | refine below_set ?_ GE528.out | refine below_set ?_ GE529.out | refine below_set ?_ GE530.out) | exact HB.out)) hb); (try clear hb); (try clear hb2); (try clear hk); (try clear hi); have hnb34 := NB529_530.out; have hnc34 := NB530_529.out; have hcz35 := Z.c3 BK529.out; have hcz36 := Z.c3 BK528.out) | (go_at_call 54; (with_reducible refine (spec_l1In.calls a1_0 0 (wrap64 ((l0_2.length : Int) - 1)) false _ A10.out).mono ?_); rintro e w' ⟨rfl, ⟨nd, rfl⟩⟩; (try first | exact ⟨rfl, _, World.drewN_drewN _ _ _⟩ | exact ⟨rfl, _, Eq.trans (World.drewN_drewN _ _ _) (congrArg (World.drewN _) (Nat.add_assoc _ _ _))⟩)))
    repeat (go_quiet (first | (go_at_call 70; (with_reducible refine (spec_CharterOk.calls k a0_0 _ _ l0_1 _ _ l0_2 true _ ?q1 ?q2 ?q3 ?q4 A8.out).mono ?_); (case q1 => exact Z.cc HR0_1 HB); (case q2 => exact HC0_1.out); (case q3 => exact Z.cc HR0_2 HB); (case q4 => exact HC0_2.out); rintro e w33 ⟨rfl, hb⟩; replace BK528 := Z.bb BK528 hb; replace BK529 := Z.bb BK529 hb; replace BK530 := Z.bb BK530 hb; replace HB := Aside0.mk (below_step (by repeat (first | (with_reducible first | exact HB.out | apply below_alloc | apply pw_below_drewN | apply below_drew1 | refine below_set ?_ GE528.out | refine below_set ?_ GE529.out | refine below_set ?_ GE530.out) | exact HB.out)) hb); (try clear hb); (try clear hb2); (try clear hk); (try clear hi); have hnb34 := NB529_530.out; have hnc34 := NB530_529.out; have hcz35 := Z.c3 BK529.out; have hcz36 := Z.c3 BK528.out) | (go_at_call 54; (with_reducible refine (spec_l1In.calls a1_0 0 (wrap64 ((l0_2.length : Int) - 1)) false _ A10.out).mono ?_); rintro e w' ⟨rfl, ⟨nd, rfl⟩⟩; (try first | exact ⟨rfl, _, World.drewN_drewN _ _ _⟩ | exact ⟨rfl, _, Eq.trans (World.drewN_drewN _ _ _) (congrArg (World.drewN _) (Nat.add_assoc _ _ _))⟩))); try go_wp2_with (first | (go_at_call 70; (with_reducible refine (spec_CharterOk.calls k a0_0 _ _ l0_1 _ _ l0_2 true _ ?q1 ?q2 ?q3 ?q4 A8.out).mono ?_); (case q1 => exact Z.cc HR0_1 HB); (case q2 => exact HC0_1.out); (case q3 => exact Z.cc HR0_2 HB); (case q4 => exact HC0_2.out); rintro e w33 ⟨rfl, hb⟩; replace BK528 := Z.bb BK528 hb; replace BK529 := Z.bb BK529 hb; replace BK530 := Z.bb BK530 hb; replace HB := Aside0.mk (below_step (by repeat (first | (with_reducible first | exact HB.out | apply below_alloc | apply pw_below_drewN | apply below_drew1 | refine below_set ?_ GE528.out | refine below_set ?_ GE529.out | refine below_set ?_ GE530.out) | exact HB.out)) hb); (try clear hb); (try clear hb2); (try clear hk); (try clear hi); have hnb34 := NB529_530.out; have hnc34 := NB530_529.out; have hcz35 := Z.c3 BK529.out; have hcz36 := Z.c3 BK528.out) | (go_at_call 54; (with_reducible refine (spec_l1In.calls a1_0 0 (wrap64 ((l0_2.length : Int) - 1)) false _ A10.out).mono ?_); rintro e w' ⟨rfl, ⟨nd, rfl⟩⟩; (try first | exact ⟨rfl, _, World.drewN_drewN _ _ _⟩ | exact ⟨rfl, _, Eq.trans (World.drewN_drewN _ _ _) (congrArg (World.drewN _) (Nat.add_assoc _ _ _))⟩))))
    go_meet
    case rel => exact ⟨_, (true), (by first | rfl | (simp; done) | (simp [*]; done)), H', ⟨by first | omega | exact Nat.le_refl _⟩, ⟨by (with_reducible repeat (first | refine blk_drewN ?_ _ | refine blk_drew ?_ | refine blk_alloc ?_ _)); exact BK528.out⟩, ⟨by (with_reducible repeat (first | refine blk_drewN ?_ _ | refine blk_drew ?_ | refine blk_alloc ?_ _)); exact BK529.out⟩, ⟨by (with_reducible repeat (first | refine blk_drewN ?_ _ | refine blk_drew ?_ | refine blk_alloc ?_ _)); exact BK530.out⟩, ⟨by repeat (first | (with_reducible first | exact HB.out | apply below_alloc | apply pw_below_drewN | apply below_drew1 | refine below_set ?_ GE528.out | refine below_set ?_ GE529.out | refine below_set ?_ GE530.out) | exact HB.out)⟩⟩
  ·replace c9 := Bool.eq_false_iff.mpr c9
   subst c9
   rw [if_neg (show ¬ (false = true) by decide)] at H
   have H' := Aside0.mk H
   clear H
   have hnb37 := NB528_529.out
   have hnc37 := NB529_528.out
   have hnb38 := NB528_530.out
   have hnc38 := NB530_528.out
   have hcz39 := Z.c3 BK528.out
   go_wp2_with (first | (go_at_call 70; (with_reducible refine (spec_CharterOk.calls k a0_0 _ _ l0_1 _ _ l0_2 false _ ?q1 ?q2 ?q3 ?q4 A8.out).mono ?_); (case q1 => exact Z.cc HR0_1 HB); (case q2 => exact HC0_1.out); (case q3 => exact Z.cc HR0_2 HB); (case q4 => exact HC0_2.out); rintro e w40 ⟨rfl, hb⟩; replace BK528 := Z.bb BK528 hb; replace BK529 := Z.bb BK529 hb; replace BK530 := Z.bb BK530 hb; replace HB := Aside0.mk (below_step (by repeat (first | (with_reducible first | exact HB.out | apply below_alloc | apply pw_below_drewN | apply below_drew1 | refine below_set ?_ GE528.out | refine below_set ?_ GE529.out | refine below_set ?_ GE530.out) | exact HB.out)) hb); (try clear hb); (try clear hb2); (try clear hk); (try clear hi)))
   repeat (go_quiet (first | (go_at_call 70; (with_reducible refine (spec_CharterOk.calls k a0_0 _ _ l0_1 _ _ l0_2 false _ ?q1 ?q2 ?q3 ?q4 A8.out).mono ?_); (case q1 => exact Z.cc HR0_1 HB); (case q2 => exact HC0_1.out); (case q3 => exact Z.cc HR0_2 HB); (case q4 => exact HC0_2.out); rintro e w40 ⟨rfl, hb⟩; replace BK528 := Z.bb BK528 hb; replace BK529 := Z.bb BK529 hb; replace BK530 := Z.bb BK530 hb; replace HB := Aside0.mk (below_step (by repeat (first | (with_reducible first | exact HB.out | apply below_alloc | apply pw_below_drewN | apply below_drew1 | refine below_set ?_ GE528.out | refine below_set ?_ GE529.out | refine below_set ?_ GE530.out) | exact HB.out)) hb); (try clear hb); (try clear hb2); (try clear hk); (try clear hi))); try go_wp2_with (first | (go_at_call 70; (with_reducible refine (spec_CharterOk.calls k a0_0 _ _ l0_1 _ _ l0_2 false _ ?q1 ?q2 ?q3 ?q4 A8.out).mono ?_); (case q1 => exact Z.cc HR0_1 HB); (case q2 => exact HC0_1.out); (case q3 => exact Z.cc HR0_2 HB); (case q4 => exact HC0_2.out); rintro e w40 ⟨rfl, hb⟩; replace BK528 := Z.bb BK528 hb; replace BK529 := Z.bb BK529 hb; replace BK530 := Z.bb BK530 hb; replace HB := Aside0.mk (below_step (by repeat (first | (with_reducible first | exact HB.out | apply below_alloc | apply pw_below_drewN | apply below_drew1 | refine below_set ?_ GE528.out | refine below_set ?_ GE529.out | refine below_set ?_ GE530.out) | exact HB.out)) hb); (try clear hb); (try clear hb2); (try clear hk); (try clear hi))))
   go_meet
   case rel => exact ⟨_, (true), (by first | rfl | (simp; done) | (simp [*]; done)), H', ⟨by first | omega | exact Nat.le_refl _⟩, ⟨by (with_reducible repeat (first | refine blk_drewN ?_ _ | refine blk_drew ?_ | refine blk_alloc ?_ _)); exact BK528.out⟩, ⟨by (with_reducible repeat (first | refine blk_drewN ?_ _ | refine blk_drew ?_ | refine blk_alloc ?_ _)); exact BK529.out⟩, ⟨by (with_reducible repeat (first | refine blk_drewN ?_ _ | refine blk_drew ?_ | refine blk_alloc ?_ _)); exact BK530.out⟩, ⟨by repeat (first | (with_reducible first | exact HB.out | apply below_alloc | apply pw_below_drewN | apply below_drew1 | refine below_set ?_ GE528.out | refine below_set ?_ GE529.out | refine below_set ?_ GE530.out) | exact HB.out)⟩⟩
 case rest =>
  clear HC4
  try clear c1
  try clear c2
  try clear p2
  try clear c3
  try clear p6
  try clear c9
  try clear c11
  try clear c13
  try clear c14
  try clear c15
  try clear c18
  try clear c22
  try clear c23
  try clear c26
  try clear c30
  try clear c31
  try clear c34
  try clear c37
  try clear c38
  try clear hcz16_0
  try clear hcz16_1
  try clear hcz16_2
  try clear hcz19_0
  try clear hcz19_1
  try clear hcz19_2
  try clear hcz20_0
  try clear hcz20_1
  try clear hcz20_2
  try clear hcz21_0
  try clear hcz21_1
  try clear hcz21_2
  try clear hcz24_0
  try clear hcz24_1
  try clear hcz24_2
  try clear hcz27_0
  try clear hcz27_1
  try clear hcz27_2
  try clear hcz28_0
  try clear hcz28_1
  try clear hcz28_2
  try clear hcz29_0
  try clear hcz29_1
  try clear hcz29_2
  try clear hcz32_0
  try clear hcz32_1
  try clear hcz32_2
  try clear hcz35_0
  try clear hcz35_1
  try clear hcz35_2
  try clear hcz36_0
  try clear hcz36_1
  try clear hcz36_2
  try clear hcz39_0
  try clear hcz39_1
  try clear hcz39_2
  try clear hfz16_0
  try clear hfz16_1
  try clear hfz16_2
  try clear hfz19_0
  try clear hfz19_1
  try clear hfz19_2
  try clear hfz20_0
  try clear hfz20_1
  try clear hfz20_2
  try clear hfz21_0
  try clear hfz21_1
  try clear hfz21_2
  try clear hfz24_0
  try clear hfz24_1
  try clear hfz24_2
  try clear hfz27_0
  try clear hfz27_1
  try clear hfz27_2
  try clear hfz28_0
  try clear hfz28_1
  try clear hfz28_2
  try clear hfz29_0
  try clear hfz29_1
  try clear hfz29_2
  try clear hfz32_0
  try clear hfz32_1
  try clear hfz32_2
  try clear hfz35_0
  try clear hfz35_1
  try clear hfz35_2
  try clear hfz36_0
  try clear hfz36_1
  try clear hfz36_2
  try clear hfz39_0
  try clear hfz39_1
  try clear hfz39_2
  obtain ⟨kq, x38_3, rfl, HA, HJ3, BK528, BK529, BK530, HB⟩ := hcut
  cases kq with
  | zero => exact absurd HA.out (by simp [spec_ApartOk.j0])
  | succ kj3 =>
   have H := HA.out
   clear HA
   simp only [spec_ApartOk.j0] at H
   by_cases c41 : x38_3 = true
   ·subst c41
    rw [if_pos rfl] at H
    obtain rfl := Option.some.inj H
    go_wp2
    repeat (go_quiet (fail); try go_wp2)
    go_ret
    exact ⟨by first | rfl | (simp [errW_none, errW_some] <;> rfl) | (simp [*, errW_none, errW_some] <;> rfl), by repeat (first | (with_reducible first | exact HB.out | apply below_alloc | apply pw_below_drewN | apply below_drew1 | refine below_set ?_ GE528.out | refine below_set ?_ GE529.out | refine below_set ?_ GE530.out) | exact HB.out)⟩
   ·replace c41 := Bool.eq_false_iff.mpr c41
    subst c41
    rw [if_neg (show ¬ (false = true) by decide)] at H
    have H' := Aside0.mk H
    clear H
    go_wp2
    repeat (go_quiet (fail); try go_wp2)
    go_loopg [7] kj3 (fun kq v7 w' => ∃ (x7_2 : Int), v7 = .int .i64 x7_2 ∧ Aside0 (spec_ApartOk.l0 kq x7_2 a0_0 l0_1 l0_2 a1_0 a1_1 a1_2 a2_0 a2_1 a2_2 = some r) ∧ Aside0 (kq ≤ kj3) ∧ Aside0 (w'.heap[gb528]? = some (.cells #[.int .i64 a0_0, (.slice A0_1 l0_1.length c0_1), (.slice A0_2 l0_2.length c0_2)] 46 (0, 0))) ∧ Aside0 (w'.heap[gb529]? = some (.cells #[.int .i64 a1_0, .int .i64 a1_1, .int .i64 a1_2] 48 (0, 0))) ∧ Aside0 (w'.heap[gb530]? = some (.cells #[.int .i64 a2_0, .int .i64 a2_1, .int .i64 a2_2] 48 (0, 0))) ∧ Aside0 (Below w.heap.size w w'))
    case atStart => exact ⟨(0), (by first | rfl | (simp; done) | (simp [*]; done)), H', ⟨Nat.le_refl _⟩, ⟨by (with_reducible repeat (first | refine blk_drewN ?_ _ | refine blk_drew ?_ | refine blk_alloc ?_ _)); exact BK528.out⟩, ⟨by (with_reducible repeat (first | refine blk_drewN ?_ _ | refine blk_drew ?_ | refine blk_alloc ?_ _)); exact BK529.out⟩, ⟨by (with_reducible repeat (first | refine blk_drewN ?_ _ | refine blk_drew ?_ | refine blk_alloc ?_ _)); exact BK530.out⟩, ⟨by repeat (first | (with_reducible first | exact HB.out | apply below_alloc | apply pw_below_drewN | apply below_drew1 | refine below_set ?_ GE528.out | refine below_set ?_ GE529.out | refine below_set ?_ GE530.out) | exact HB.out)⟩⟩
    case round =>
     clear H'
     try clear c1
     try clear c2
     try clear p2
     try clear c3
     try clear c4
     try clear p6
     try clear c9
     try clear c11
     try clear c13
     try clear c14
     try clear c15
     try clear c18
     try clear c22
     try clear c23
     try clear c26
     try clear c30
     try clear c31
     try clear c34
     try clear c37
     try clear c38
     try clear c41
     try clear hcz16_0
     try clear hcz16_1
     try clear hcz16_2
     try clear hcz19_0
     try clear hcz19_1
     try clear hcz19_2
     try clear hcz20_0
     try clear hcz20_1
     try clear hcz20_2
     try clear hcz21_0
     try clear hcz21_1
     try clear hcz21_2
     try clear hcz24_0
     try clear hcz24_1
     try clear hcz24_2
     try clear hcz27_0
     try clear hcz27_1
     try clear hcz27_2
     try clear hcz28_0
     try clear hcz28_1
     try clear hcz28_2
     try clear hcz29_0
     try clear hcz29_1
     try clear hcz29_2
     try clear hcz32_0
     try clear hcz32_1
     try clear hcz32_2
     try clear hcz35_0
     try clear hcz35_1
     try clear hcz35_2
     try clear hcz36_0
     try clear hcz36_1
     try clear hcz36_2
     try clear hcz39_0
     try clear hcz39_1
     try clear hcz39_2
     try clear hfz16_0
     try clear hfz16_1
     try clear hfz16_2
     try clear hfz19_0
     try clear hfz19_1
     try clear hfz19_2
     try clear hfz20_0
     try clear hfz20_1
     try clear hfz20_2
     try clear hfz21_0
     try clear hfz21_1
     try clear hfz21_2
     try clear hfz24_0
     try clear hfz24_1
     try clear hfz24_2
     try clear hfz27_0
     try clear hfz27_1
     try clear hfz27_2
     try clear hfz28_0
     try clear hfz28_1
     try clear hfz28_2
     try clear hfz29_0
     try clear hfz29_1
     try clear hfz29_2
     try clear hfz32_0
     try clear hfz32_1
     try clear hfz32_2
     try clear hfz35_0
     try clear hfz35_1
     try clear hfz35_2
     try clear hfz36_0
     try clear hfz36_1
     try clear hfz36_2
     try clear hfz39_0
     try clear hfz39_1
     try clear hfz39_2
     try clear p2
     try clear p6
     obtain ⟨x7_2, rfl, HA, HK2, BK528, BK529, BK530, HB⟩ := hrel
     cases gk with
     | zero => exact absurd HA.out (by simp [spec_ApartOk.l0])
     | succ k2 =>
      have H := HA.out
      clear HA
      simp only [spec_ApartOk.l0] at H
      obtain ⟨c42, H⟩ := Z.ifp H
      have c42b0 : decide (0 ≤ a1_0) = true := decide_eq_true c42
      clear c42
      obtain ⟨c43, H⟩ := Z.ifp H
      have c43b0 : decide (a1_0 < (l0_2.length : Int)) = true := decide_eq_true c43
      clear c43
      by_cases c44 : x7_2 < ((rd_L5 l0_2 a1_0).length : Int)
      ·rw [if_pos c44] at H
       have c44b0 := decide_eq_true c44
       clear c44
       obtain ⟨c45, H⟩ := Z.ifp H
       have c45b0 : decide (0 ≤ x7_2) = true := decide_eq_true c45
       clear c45
       by_cases c46 : ((rd_T91 (rd_L5 l0_2 a1_0) x7_2).f1) = a2_0
       ·rw [if_pos c46] at H
        have c46b0 : (((rd_T91 (rd_L5 l0_2 a1_0) x7_2).f1) == a2_0) = true := beq_iff_eq.mpr c46
        have c46b1 : (((rd_T91 (rd_L5 l0_2 a1_0) x7_2).f1) != a2_0) = false := bne_eq_false_iff_eq.mpr c46
        clear c46
        obtain rfl := Option.some.inj H
        have hnb47 := NB528_529.out
        have hnc47 := NB529_528.out
        have hnb48 := NB528_530.out
        have hnc48 := NB530_528.out
        have hcz49 := Z.c3 BK528.out
        have hnb50 := NB529_530.out
        have hnc50 := NB530_529.out
        have hcz51 := Z.c3 BK529.out
        have p534 : 0 ≤ (a1_0 : Int) := Z.od
        have q534 : a1_0 < (l0_2.length : Int) := Z.od
        obtain ⟨ad534, A534_0, c534_0, rfl, hx534_0, hl534_0, hi534_0⟩ := at_L5 HR0_2.out a1_0 p534 q534
        replace hx534_0 := Z.up HB.out hx534_0
        have HR534_0 := Aside0.mk hi534_0
        have HC534_0 := Aside0.mk hl534_0
        clear hi534_0 hl534_0
        replace p534 := eq_true p534
        replace q534 := eq_true q534
        have p535 : 0 ≤ (a1_0 : Int) := Z.od
        have q535 : a1_0 < (l0_2.length : Int) := Z.od
        obtain ⟨ad535, A535_0, c535_0, e535, hx535_0, hl535_0, hi535_0⟩ := at_L5 HR0_2.out a1_0 p535 q535
        obtain rfl : ad534 = ad535 := (by injection e535)
        replace hx535_0 := Z.up HB.out hx535_0
        have HR535_0 := Aside0.mk hi535_0
        have HC535_0 := Aside0.mk hl535_0
        clear hi535_0 hl535_0
        replace p535 := eq_true p535
        replace q535 := eq_true q535
        have ea_ := Option.some.inj (hx534_0.symm.trans hx535_0)
        injection ea_ with ea_ en_ ec_
        subst ea_
        subst ec_
        clear en_
        have p536 : 0 ≤ (x7_2 : Int) := Z.od
        have q536 : x7_2 < ((rd_L5 l0_2 a1_0).length : Int) := Z.od
        obtain ⟨ad536, A536_0, c536_0, rfl, hx536_0, hx536_1, hx536_2, hl536_0, hi536_0⟩ := at_T91 HR535_0.out x7_2 p536 q536
        replace hx536_0 := Z.up HB.out hx536_0
        replace hx536_1 := Z.up HB.out hx536_1
        replace hx536_2 := Z.up HB.out hx536_2
        have HR536_0 := Aside0.mk hi536_0
        have HC536_0 := Aside0.mk hl536_0
        clear hi536_0 hl536_0
        replace p536 := eq_true p536
        replace q536 := eq_true q536
        have hcz52 := Z.c3 BK530.out
        go_wp2
        repeat (go_quiet (fail); try go_wp2)
        go_ret
        exact ⟨by first | rfl | (simp [errW_none, errW_some] <;> rfl) | (simp [*, errW_none, errW_some] <;> rfl), by repeat (first | (with_reducible first | exact HB.out | apply below_alloc | apply pw_below_drewN | apply below_drew1 | refine below_set ?_ GE528.out | refine below_set ?_ GE529.out | refine below_set ?_ GE530.out) | exact HB.out)⟩
       ·rw [if_neg c46] at H
        have c46b0 : (((rd_T91 (rd_L5 l0_2 a1_0) x7_2).f1) == a2_0) = false := beq_eq_false_iff_ne.mpr c46
        have c46b1 : (((rd_T91 (rd_L5 l0_2 a1_0) x7_2).f1) != a2_0) = true := bne_iff_ne.mpr c46
        have H' := Aside0.mk H
        clear H
        have hnb53 := NB528_529.out
        have hnc53 := NB529_528.out
        have hnb54 := NB528_530.out
        have hnc54 := NB530_528.out
        have hcz55 := Z.c3 BK528.out
        have hnb56 := NB529_530.out
        have hnc56 := NB530_529.out
        have hcz57 := Z.c3 BK529.out
        have p534 : 0 ≤ (a1_0 : Int) := Z.od
        have q534 : a1_0 < (l0_2.length : Int) := Z.od
        obtain ⟨ad534, A534_0, c534_0, rfl, hx534_0, hl534_0, hi534_0⟩ := at_L5 HR0_2.out a1_0 p534 q534
        replace hx534_0 := Z.up HB.out hx534_0
        have HR534_0 := Aside0.mk hi534_0
        have HC534_0 := Aside0.mk hl534_0
        clear hi534_0 hl534_0
        replace p534 := eq_true p534
        replace q534 := eq_true q534
        have p535 : 0 ≤ (a1_0 : Int) := Z.od
        have q535 : a1_0 < (l0_2.length : Int) := Z.od
        obtain ⟨ad535, A535_0, c535_0, e535, hx535_0, hl535_0, hi535_0⟩ := at_L5 HR0_2.out a1_0 p535 q535
        obtain rfl : ad534 = ad535 := (by injection e535)
        replace hx535_0 := Z.up HB.out hx535_0
        have HR535_0 := Aside0.mk hi535_0
        have HC535_0 := Aside0.mk hl535_0
        clear hi535_0 hl535_0
        replace p535 := eq_true p535
        replace q535 := eq_true q535
        have ea_ := Option.some.inj (hx534_0.symm.trans hx535_0)
        injection ea_ with ea_ en_ ec_
        subst ea_
        subst ec_
        clear en_
        have p536 : 0 ≤ (x7_2 : Int) := Z.od
        have q536 : x7_2 < ((rd_L5 l0_2 a1_0).length : Int) := Z.od
        obtain ⟨ad536, A536_0, c536_0, rfl, hx536_0, hx536_1, hx536_2, hl536_0, hi536_0⟩ := at_T91 HR535_0.out x7_2 p536 q536
        replace hx536_0 := Z.up HB.out hx536_0
        replace hx536_1 := Z.up HB.out hx536_1
        replace hx536_2 := Z.up HB.out hx536_2
        have HR536_0 := Aside0.mk hi536_0
        have HC536_0 := Aside0.mk hl536_0
        clear hi536_0 hl536_0
        replace p536 := eq_true p536
        replace q536 := eq_true q536
        have hcz58 := Z.c3 BK530.out
        go_wp2
        repeat (go_quiet (fail); try go_wp2)
        go_roundg k2
        case measure => have := HJ3.out; have := HK2.out; omega
        case rel => exact ⟨(wrap64 (x7_2 + 1)), (by first | rfl | (simp; done) | (simp [*]; done)), H', ⟨by have := HJ3.out; have := HK2.out; omega⟩, ⟨by (with_reducible repeat (first | refine blk_drewN ?_ _ | refine blk_drew ?_ | refine blk_alloc ?_ _)); exact BK528.out⟩, ⟨by (with_reducible repeat (first | refine blk_drewN ?_ _ | refine blk_drew ?_ | refine blk_alloc ?_ _)); exact BK529.out⟩, ⟨by (with_reducible repeat (first | refine blk_drewN ?_ _ | refine blk_drew ?_ | refine blk_alloc ?_ _)); exact BK530.out⟩, ⟨by repeat (first | (with_reducible first | exact HB.out | apply below_alloc | apply pw_below_drewN | apply below_drew1 | refine below_set ?_ GE528.out | refine below_set ?_ GE529.out | refine below_set ?_ GE530.out) | exact HB.out)⟩⟩
      ·rw [if_neg c44] at H
       have c44b0 := decide_eq_false c44
       clear c44
       have H' := Aside0.mk H
       clear H
       have hnb59 := NB528_529.out
       have hnc59 := NB529_528.out
       have hnb60 := NB528_530.out
       have hnc60 := NB530_528.out
       have hcz61 := Z.c3 BK528.out
       have hnb62 := NB529_530.out
       have hnc62 := NB530_529.out
       have hcz63 := Z.c3 BK529.out
       have p534 : 0 ≤ (a1_0 : Int) := Z.od
       have q534 : a1_0 < (l0_2.length : Int) := Z.od
       obtain ⟨ad534, A534_0, c534_0, rfl, hx534_0, hl534_0, hi534_0⟩ := at_L5 HR0_2.out a1_0 p534 q534
       replace hx534_0 := Z.up HB.out hx534_0
       have HR534_0 := Aside0.mk hi534_0
       have HC534_0 := Aside0.mk hl534_0
       clear hi534_0 hl534_0
       replace p534 := eq_true p534
       replace q534 := eq_true q534
       go_wp2
       repeat (go_quiet (fail); try go_wp2)
       go_loopg [8] k2 (fun kq v8 w' => ∃ (x8_3 : Int), v8 = .int .i64 x8_3 ∧ Aside0 (spec_ApartOk.l1 kq x8_3 a0_0 l0_1 l0_2 a1_0 a1_1 a1_2 a2_0 a2_1 a2_2 = some r) ∧ Aside0 (kq ≤ k2) ∧ Aside0 (w'.heap[gb528]? = some (.cells #[.int .i64 a0_0, (.slice A0_1 l0_1.length c0_1), (.slice (some ad534) l0_2.length c0_2)] 46 (0, 0))) ∧ Aside0 (w'.heap[gb529]? = some (.cells #[.int .i64 a1_0, .int .i64 a1_1, .int .i64 a1_2] 48 (0, 0))) ∧ Aside0 (w'.heap[gb530]? = some (.cells #[.int .i64 a2_0, .int .i64 a2_1, .int .i64 a2_2] 48 (0, 0))) ∧ Aside0 (Below w.heap.size w w'))
       case atStart => exact ⟨(0), (by first | rfl | (simp; done) | (simp [*]; done)), H', ⟨Nat.le_refl _⟩, ⟨by (with_reducible repeat (first | refine blk_drewN ?_ _ | refine blk_drew ?_ | refine blk_alloc ?_ _)); exact BK528.out⟩, ⟨by (with_reducible repeat (first | refine blk_drewN ?_ _ | refine blk_drew ?_ | refine blk_alloc ?_ _)); exact BK529.out⟩, ⟨by (with_reducible repeat (first | refine blk_drewN ?_ _ | refine blk_drew ?_ | refine blk_alloc ?_ _)); exact BK530.out⟩, ⟨by repeat (first | (with_reducible first | exact HB.out | apply below_alloc | apply pw_below_drewN | apply below_drew1 | refine below_set ?_ GE528.out | refine below_set ?_ GE529.out | refine below_set ?_ GE530.out) | exact HB.out)⟩⟩
       case round =>
        clear H'
        try clear c1
        try clear c2
        try clear p2
        try clear c3
        try clear c4
        try clear c5
        try clear p5
        try clear q5
        try clear hx5
        try clear c6
        try clear p6
        try clear c9
        try clear c11
        try clear c13
        try clear c14
        try clear c15
        try clear c18
        try clear c22
        try clear c23
        try clear c26
        try clear c30
        try clear c31
        try clear c34
        try clear c37
        try clear c38
        try clear c41
        try clear c42
        try clear c42b0
        try clear c43
        try clear c43b0
        try clear c44
        try clear c44b0
        try clear c45
        try clear c45b0
        try clear c46
        try clear c46b0
        try clear c46b1
        try clear c47
        try clear c48
        try clear c50
        try clear c53
        try clear p53
        try clear q53
        try clear hx53
        try clear c54
        try clear c56
        try clear c59
        try clear c60
        try clear c62
        try clear hcz16_0
        try clear hcz16_1
        try clear hcz16_2
        try clear hcz19_0
        try clear hcz19_1
        try clear hcz19_2
        try clear hcz20_0
        try clear hcz20_1
        try clear hcz20_2
        try clear hcz21_0
        try clear hcz21_1
        try clear hcz21_2
        try clear hcz24_0
        try clear hcz24_1
        try clear hcz24_2
        try clear hcz27_0
        try clear hcz27_1
        try clear hcz27_2
        try clear hcz28_0
        try clear hcz28_1
        try clear hcz28_2
        try clear hcz29_0
        try clear hcz29_1
        try clear hcz29_2
        try clear hcz32_0
        try clear hcz32_1
        try clear hcz32_2
        try clear hcz35_0
        try clear hcz35_1
        try clear hcz35_2
        try clear hcz36_0
        try clear hcz36_1
        try clear hcz36_2
        try clear hcz39_0
        try clear hcz39_1
        try clear hcz39_2
        try clear hcz49_0
        try clear hcz49_1
        try clear hcz49_2
        try clear hcz51_0
        try clear hcz51_1
        try clear hcz51_2
        try clear hcz52_0
        try clear hcz52_1
        try clear hcz52_2
        try clear hcz55_0
        try clear hcz55_1
        try clear hcz55_2
        try clear hcz57_0
        try clear hcz57_1
        try clear hcz57_2
        try clear hcz58_0
        try clear hcz58_1
        try clear hcz58_2
        try clear hcz61_0
        try clear hcz61_1
        try clear hcz61_2
        try clear hcz63_0
        try clear hcz63_1
        try clear hcz63_2
        try clear hfz16_0
        try clear hfz16_1
        try clear hfz16_2
        try clear hfz19_0
        try clear hfz19_1
        try clear hfz19_2
        try clear hfz20_0
        try clear hfz20_1
        try clear hfz20_2
        try clear hfz21_0
        try clear hfz21_1
        try clear hfz21_2
        try clear hfz24_0
        try clear hfz24_1
        try clear hfz24_2
        try clear hfz27_0
        try clear hfz27_1
        try clear hfz27_2
        try clear hfz28_0
        try clear hfz28_1
        try clear hfz28_2
        try clear hfz29_0
        try clear hfz29_1
        try clear hfz29_2
        try clear hfz32_0
        try clear hfz32_1
        try clear hfz32_2
        try clear hfz35_0
        try clear hfz35_1
        try clear hfz35_2
        try clear hfz36_0
        try clear hfz36_1
        try clear hfz36_2
        try clear hfz39_0
        try clear hfz39_1
        try clear hfz39_2
        try clear hfz49_0
        try clear hfz49_1
        try clear hfz49_2
        try clear hfz51_0
        try clear hfz51_1
        try clear hfz51_2
        try clear hfz52_0
        try clear hfz52_1
        try clear hfz52_2
        try clear hfz55_0
        try clear hfz55_1
        try clear hfz55_2
        try clear hfz57_0
        try clear hfz57_1
        try clear hfz57_2
        try clear hfz58_0
        try clear hfz58_1
        try clear hfz58_2
        try clear hfz61_0
        try clear hfz61_1
        try clear hfz61_2
        try clear hfz63_0
        try clear hfz63_1
        try clear hfz63_2
        try clear hx534_0
        try clear hx535_0
        try clear hx536_0
        try clear hx536_1
        try clear hx536_2
        try clear p2
        try clear p534
        try clear p535
        try clear p536
        try clear p6
        try clear q534
        try clear q535
        try clear q536
        obtain ⟨x8_3, rfl, HA, HK3, BK528, BK529, BK530, HB⟩ := hrel
        cases gk with
        | zero => exact absurd HA.out (by simp [spec_ApartOk.l1])
        | succ k3 =>
         have H := HA.out
         clear HA
         simp only [spec_ApartOk.l1] at H
         obtain ⟨c64, H⟩ := Z.ifp H
         have c64b0 : decide (0 ≤ a2_0) = true := decide_eq_true c64
         clear c64
         obtain ⟨c65, H⟩ := Z.ifp H
         have c65b0 : decide (a2_0 < (l0_2.length : Int)) = true := decide_eq_true c65
         clear c65
         by_cases c66 : x8_3 < ((rd_L5 l0_2 a2_0).length : Int)
         ·rw [if_pos c66] at H
          have c66b0 := decide_eq_true c66
          clear c66
          obtain ⟨c67, H⟩ := Z.ifp H
          have c67b0 : decide (0 ≤ x8_3) = true := decide_eq_true c67
          clear c67
          by_cases c68 : ((rd_T91 (rd_L5 l0_2 a2_0) x8_3).f1) = a1_0
          ·rw [if_pos c68] at H
           have c68b0 : (((rd_T91 (rd_L5 l0_2 a2_0) x8_3).f1) == a1_0) = true := beq_iff_eq.mpr c68
           have c68b1 : (((rd_T91 (rd_L5 l0_2 a2_0) x8_3).f1) != a1_0) = false := bne_eq_false_iff_eq.mpr c68
           clear c68
           obtain rfl := Option.some.inj H
           have hnb69 := NB528_529.out
           have hnc69 := NB529_528.out
           have hnb70 := NB528_530.out
           have hnc70 := NB530_528.out
           have hcz71 := Z.c3 BK528.out
           have hnb72 := NB530_529.out
           have hnc72 := NB529_530.out
           have hcz73 := Z.c3 BK530.out
           have p537 : 0 ≤ (a2_0 : Int) := Z.od
           have q537 : a2_0 < (l0_2.length : Int) := Z.od
           obtain ⟨ad537, A537_0, c537_0, e537, hx537_0, hl537_0, hi537_0⟩ := at_L5 HR0_2.out a2_0 p537 q537
           obtain rfl : ad534 = ad537 := (by injection e537)
           replace hx537_0 := Z.up HB.out hx537_0
           have HR537_0 := Aside0.mk hi537_0
           have HC537_0 := Aside0.mk hl537_0
           clear hi537_0 hl537_0
           replace p537 := eq_true p537
           replace q537 := eq_true q537
           have p538 : 0 ≤ (a2_0 : Int) := Z.od
           have q538 : a2_0 < (l0_2.length : Int) := Z.od
           obtain ⟨ad538, A538_0, c538_0, e538, hx538_0, hl538_0, hi538_0⟩ := at_L5 HR0_2.out a2_0 p538 q538
           obtain rfl : ad534 = ad538 := (by injection e538)
           replace hx538_0 := Z.up HB.out hx538_0
           have HR538_0 := Aside0.mk hi538_0
           have HC538_0 := Aside0.mk hl538_0
           clear hi538_0 hl538_0
           replace p538 := eq_true p538
           replace q538 := eq_true q538
           have ea_ := Option.some.inj (hx537_0.symm.trans hx538_0)
           injection ea_ with ea_ en_ ec_
           subst ea_
           subst ec_
           clear en_
           have p539 : 0 ≤ (x8_3 : Int) := Z.od
           have q539 : x8_3 < ((rd_L5 l0_2 a2_0).length : Int) := Z.od
           obtain ⟨ad539, A539_0, c539_0, rfl, hx539_0, hx539_1, hx539_2, hl539_0, hi539_0⟩ := at_T91 HR538_0.out x8_3 p539 q539
           replace hx539_0 := Z.up HB.out hx539_0
           replace hx539_1 := Z.up HB.out hx539_1
           replace hx539_2 := Z.up HB.out hx539_2
           have HR539_0 := Aside0.mk hi539_0
           have HC539_0 := Aside0.mk hl539_0
           clear hi539_0 hl539_0
           replace p539 := eq_true p539
           replace q539 := eq_true q539
           have hcz74 := Z.c3 BK529.out
           go_wp2
           repeat (go_quiet (fail); try go_wp2)
           go_ret
           exact ⟨by first | rfl | (simp [errW_none, errW_some] <;> rfl) | (simp [*, errW_none, errW_some] <;> rfl), by repeat (first | (with_reducible first | exact HB.out | apply below_alloc | apply pw_below_drewN | apply below_drew1 | refine below_set ?_ GE528.out | refine below_set ?_ GE529.out | refine below_set ?_ GE530.out) | exact HB.out)⟩
          ·rw [if_neg c68] at H
           have c68b0 : (((rd_T91 (rd_L5 l0_2 a2_0) x8_3).f1) == a1_0) = false := beq_eq_false_iff_ne.mpr c68
           have c68b1 : (((rd_T91 (rd_L5 l0_2 a2_0) x8_3).f1) != a1_0) = true := bne_iff_ne.mpr c68
           have H' := Aside0.mk H
           clear H
           have hnb75 := NB528_529.out
           have hnc75 := NB529_528.out
           have hnb76 := NB528_530.out
           have hnc76 := NB530_528.out
           have hcz77 := Z.c3 BK528.out
           have hnb78 := NB530_529.out
           have hnc78 := NB529_530.out
           have hcz79 := Z.c3 BK530.out
           have p537 : 0 ≤ (a2_0 : Int) := Z.od
           have q537 : a2_0 < (l0_2.length : Int) := Z.od
           obtain ⟨ad537, A537_0, c537_0, e537, hx537_0, hl537_0, hi537_0⟩ := at_L5 HR0_2.out a2_0 p537 q537
           obtain rfl : ad534 = ad537 := (by injection e537)
           replace hx537_0 := Z.up HB.out hx537_0
           have HR537_0 := Aside0.mk hi537_0
           have HC537_0 := Aside0.mk hl537_0
           clear hi537_0 hl537_0
           replace p537 := eq_true p537
           replace q537 := eq_true q537
           have p538 : 0 ≤ (a2_0 : Int) := Z.od
           have q538 : a2_0 < (l0_2.length : Int) := Z.od
           obtain ⟨ad538, A538_0, c538_0, e538, hx538_0, hl538_0, hi538_0⟩ := at_L5 HR0_2.out a2_0 p538 q538
           obtain rfl : ad534 = ad538 := (by injection e538)
           replace hx538_0 := Z.up HB.out hx538_0
           have HR538_0 := Aside0.mk hi538_0
           have HC538_0 := Aside0.mk hl538_0
           clear hi538_0 hl538_0
           replace p538 := eq_true p538
           replace q538 := eq_true q538
           have ea_ := Option.some.inj (hx537_0.symm.trans hx538_0)
           injection ea_ with ea_ en_ ec_
           subst ea_
           subst ec_
           clear en_
           have p539 : 0 ≤ (x8_3 : Int) := Z.od
           have q539 : x8_3 < ((rd_L5 l0_2 a2_0).length : Int) := Z.od
           obtain ⟨ad539, A539_0, c539_0, rfl, hx539_0, hx539_1, hx539_2, hl539_0, hi539_0⟩ := at_T91 HR538_0.out x8_3 p539 q539
           replace hx539_0 := Z.up HB.out hx539_0
           replace hx539_1 := Z.up HB.out hx539_1
           replace hx539_2 := Z.up HB.out hx539_2
           have HR539_0 := Aside0.mk hi539_0
           have HC539_0 := Aside0.mk hl539_0
           clear hi539_0 hl539_0
           replace p539 := eq_true p539
           replace q539 := eq_true q539
           have hcz80 := Z.c3 BK529.out
           go_wp2
           repeat (go_quiet (fail); try go_wp2)
           go_roundg k3
           case measure => have := HJ3.out; have := HK2.out; have := HK3.out; omega
           case rel => exact ⟨(wrap64 (x8_3 + 1)), (by first | rfl | (simp; done) | (simp [*]; done)), H', ⟨by have := HJ3.out; have := HK2.out; have := HK3.out; omega⟩, ⟨by (with_reducible repeat (first | refine blk_drewN ?_ _ | refine blk_drew ?_ | refine blk_alloc ?_ _)); exact BK528.out⟩, ⟨by (with_reducible repeat (first | refine blk_drewN ?_ _ | refine blk_drew ?_ | refine blk_alloc ?_ _)); exact BK529.out⟩, ⟨by (with_reducible repeat (first | refine blk_drewN ?_ _ | refine blk_drew ?_ | refine blk_alloc ?_ _)); exact BK530.out⟩, ⟨by repeat (first | (with_reducible first | exact HB.out | apply below_alloc | apply pw_below_drewN | apply below_drew1 | refine below_set ?_ GE528.out | refine below_set ?_ GE529.out | refine below_set ?_ GE530.out) | exact HB.out)⟩⟩
         ·rw [if_neg c66] at H
          have c66b0 := decide_eq_false c66
          clear c66
          obtain rfl := Option.some.inj H
          have hnb81 := NB528_529.out
          have hnc81 := NB529_528.out
          have hnb82 := NB528_530.out
          have hnc82 := NB530_528.out
          have hcz83 := Z.c3 BK528.out
          have hnb84 := NB530_529.out
          have hnc84 := NB529_530.out
          have hcz85 := Z.c3 BK530.out
          have p537 : 0 ≤ (a2_0 : Int) := Z.od
          have q537 : a2_0 < (l0_2.length : Int) := Z.od
          obtain ⟨ad537, A537_0, c537_0, e537, hx537_0, hl537_0, hi537_0⟩ := at_L5 HR0_2.out a2_0 p537 q537
          obtain rfl : ad534 = ad537 := (by injection e537)
          replace hx537_0 := Z.up HB.out hx537_0
          have HR537_0 := Aside0.mk hi537_0
          have HC537_0 := Aside0.mk hl537_0
          clear hi537_0 hl537_0
          replace p537 := eq_true p537
          replace q537 := eq_true q537
          go_wp2
          repeat (go_quiet (fail); try go_wp2)
          go_ret
          exact ⟨by first | rfl | (simp [errW_none, errW_some] <;> rfl) | (simp [*, errW_none, errW_some] <;> rfl), by repeat (first | (with_reducible first | exact HB.out | apply below_alloc | apply pw_below_drewN | apply below_drew1 | refine below_set ?_ GE528.out | refine below_set ?_ GE529.out | refine below_set ?_ GE530.out) | exact HB.out)⟩

end Go.Proofs.Ytojoblllgddckaa.PAll
