/- Walks of functions that All reaches, in the form of the print. -/
-- PRINTED
import Derived.Test.YtcafckapdgaogaaCAll0
import Derived.Test.YtcafckapdgaogaaCAll2
import Derived.Test.YtcafckapdgaogaaCAll4
import Derived.Test.YtcafckapdgaogaaZ
namespace Go.Proofs.Ytcafckapdgaogaa.PAll
open Go.RowKit Go.Proofs.YtcafckapdgaogaaW.PrintWords Go.Proofs.YtcafckapdgaogaaW.PrintLast Go.Proofs.YtcafckapdgaogaaW.PrintMore
attribute [local go_sem] max2_int min2_int max_two min_two max_three min_three max_four min_four
set_option linter.unusedVariables false
set_option linter.unusedSimpArgs false

/-! ### spec_ApartOk: function 36 -/
mutual
def spec_ApartOk.j0 : Nat → Bool → Int → List Int → List (List (S86)) → Int → Int → Int → Int → Int → Int → Option (Bool)
 | 0, _, _, _, _, _, _, _, _, _, _ => none
 | k + 1, x38, x636000, x636001, x636002, x637000, x637001, x637002, x638000, x638001, x638002 => if x38 = true then (some false) else (spec_ApartOk.l0 k 0 x636000 x636001 x636002 x637000 x637001 x637002 x638000 x638001 x638002)
def spec_ApartOk.l0 : Nat → Int → Int → List Int → List (List (S86)) → Int → Int → Int → Int → Int → Int → Option (Bool)
 | 0, _, _, _, _, _, _, _, _, _, _ => none
 | k + 1, x7, x636000, x636001, x636002, x637000, x637001, x637002, x638000, x638001, x638002 => if 0 ≤ x637000 then (if x637000 < (x636002.length : Int) then (if x7 < ((rd_L9 x636002 x637000).length : Int) then (if 0 ≤ x7 then (if ((rd_T86 (rd_L9 x636002 x637000) x7).f1) = x638000 then (some false) else (spec_ApartOk.l0 k (wrap64 (x7 + 1)) x636000 x636001 x636002 x637000 x637001 x637002 x638000 x638001 x638002)) else (none)) else (spec_ApartOk.l1 k 0 x636000 x636001 x636002 x637000 x637001 x637002 x638000 x638001 x638002)) else (none)) else (none)
def spec_ApartOk.l1 : Nat → Int → Int → List Int → List (List (S86)) → Int → Int → Int → Int → Int → Int → Option (Bool)
 | 0, _, _, _, _, _, _, _, _, _, _ => none
 | k + 1, x8, x636000, x636001, x636002, x637000, x637001, x637002, x638000, x638001, x638002 => if 0 ≤ x638000 then (if x638000 < (x636002.length : Int) then (if x8 < ((rd_L9 x636002 x638000).length : Int) then (if 0 ≤ x8 then (if ((rd_T86 (rd_L9 x636002 x638000) x8).f1) = x637000 then (some false) else (spec_ApartOk.l1 k (wrap64 (x8 + 1)) x636000 x636001 x636002 x637000 x637001 x637002 x638000 x638001 x638002)) else (none)) else (some true)) else (none)) else (none)
end
def spec_ApartOk.f (k : Nat) (a0_0 : Int) (l0_1 : List Int) (l0_2 : List (List (S86))) (a1_0 : Int) (a1_1 : Int) (a1_2 : Int) (a2_0 : Int) (a2_1 : Int) (a2_2 : Int) : Option (Bool) := (spec_CharterOk.f k a0_0 l0_1 l0_2).bind fun t638 => (if t638 = true then ((spec_l1In.f a1_0 0 (wrap64 ((l0_2.length : Int) - 1))).bind fun t639 => (if t639 = true then ((spec_l1In.f a2_0 0 (wrap64 ((l0_2.length : Int) - 1))).bind fun t640 => (if t640 = true then (spec_ApartOk.j0 k (a1_0 == a2_0) a0_0 l0_1 l0_2 a1_0 a1_1 a1_2 a2_0 a2_1 a2_2) else (spec_ApartOk.j0 k true a0_0 l0_1 l0_2 a1_0 a1_1 a1_2 a2_0 a2_1 a2_2))) else (spec_ApartOk.j0 k true a0_0 l0_1 l0_2 a1_0 a1_1 a1_2 a2_0 a2_1 a2_2))) else (spec_ApartOk.j0 k true a0_0 l0_1 l0_2 a1_0 a1_1 a1_2 a2_0 a2_1 a2_2))
set_option maxHeartbeats 8000000 in
set_option maxRecDepth 100000 in
theorem spec_ApartOk.calls (k : Nat) (a0_0 : Int) (A0_1 : Option Addr) (c0_1 : Nat) (l0_1 : List Int) (A0_2 : Option Addr) (c0_2 : Nat) (l0_2 : List (List (S86))) (a1_0 : Int) (a1_1 : Int) (a1_2 : Int) (a2_0 : Int) (a2_1 : Int) (a2_2 : Int) (r : Bool) (w : World) (hr0_1 : Kd.C (Kd.int .i64) w A0_1 l0_1.length l0_1) (hc0_1 : l0_1.length ≤ c0_1) (hr0_2 : Kd.C (Kd.slice 86 k86) w A0_2 l0_2.length l0_2) (hc0_2 : l0_2.length ≤ c0_2) (h : spec_ApartOk.f k a0_0 l0_1 l0_2 a1_0 a1_1 a1_2 a2_0 a2_1 a2_2 = some r) :
  Calls Try.prog 36 #[.agg #[.int .i64 a0_0, .slice A0_1 l0_1.length c0_1, .slice A0_2 l0_2.length c0_2], .agg #[.int .i64 a1_0, .int .i64 a1_1, .int .i64 a1_2], .agg #[.int .i64 a2_0, .int .i64 a2_1, .int .i64 a2_2]] w fun e w' => e = .returned (.bool r) ∧ Below w.heap.size w w' := by
 have hu35 := Try.underlying35
 have hu53 := Try.underlying53
 have HR0_1 := Aside0.mk hr0_1
 have HC0_1 := Aside0.mk hc0_1
 clear hr0_1 hc0_1
 have HR0_2 := Aside0.mk hr0_2
 have HC0_2 := Aside0.mk hc0_2
 clear hr0_2 hc0_2
 have HB := Aside0.mk (Below.refl w.heap.size w)
 have H := h
 clear h
 unfold spec_ApartOk.f at H
 have HC4 := Aside0.mk H
 clear H
 go_enter Try.func36, Try.ntmps36
 go_upto_region 1 with (first | ((with_reducible refine gate_dst (N := 3) rfl ?_); (try (refine gate_guard (by rfl) ?_; dsimp only)); refine Z.bx #[.int .i64 a0_0, .slice A0_1 l0_1.length c0_1, .slice A0_2 l0_2.length c0_2] 35 HB ?_; clear HB; intro gb635 w5 BK635 GE635 HB hg hb; have GW635 := GE635; clear hb hg) | ((with_reducible refine gate_dst (N := 4) rfl ?_); (try (refine gate_guard (by rfl) ?_; dsimp only)); refine Z.bz #[.int .i64 a1_0, .int .i64 a1_1, .int .i64 a1_2] 53 HB GE635 ?_; clear HB; intro gb636 w6 BK636 GE636 HB hg hb; have GW636 := GE636; have NB635_636 := Z.nl hg BK635; have NB636_635 := Z.ng hg BK635; replace BK635 := Z.bb BK635 hb; clear hb hg) | ((with_reducible refine gate_dst (N := 5) rfl ?_); (try (refine gate_guard (by rfl) ?_; dsimp only)); refine box_event ?hg (N := 5) ?hd (cs := #[.int .i64 a2_0, .int .i64 a2_1, .int .i64 a2_2]) (t := 53) ?hr ?_; (case hd | hg => rfl); (case hr => first | (go_simp; done) | (go_simp; rfl)); intro gb637 hg w7 hbox hb; have BK637 := Aside0.mk (hbox); have GW637 := Aside0.mk ((by rw [hg]; exact (below_size (by repeat (first | (with_reducible first | exact HB.out | apply below_alloc | apply pw_below_drewN | apply below_drew1 | refine below_set ?_ GE635.out | refine below_set ?_ GE636.out) | exact HB.out))) : w.heap.size ≤ gb637)); have GE637 := Aside0.mk ((by rw [hg]; exact (below_size (by repeat (first | (with_reducible first | exact HB.out | apply below_alloc | apply pw_below_drewN | apply below_drew1 | refine below_set ?_ GE635.out | refine below_set ?_ GE636.out) | exact HB.out))) : w.heap.size ≤ gb637)); replace HB := Aside0.mk (below_step (by repeat (first | (with_reducible first | exact HB.out | apply below_alloc | apply pw_below_drewN | apply below_drew1 | refine below_set ?_ GE635.out | refine below_set ?_ GE636.out) | exact HB.out)) hb); have NB635_637 := Z.nl hg BK635; have NB637_635 := Z.ng hg BK635; replace BK635 := Z.bb BK635 hb; have NB636_637 := Z.nl hg BK636; have NB637_636 := Z.ng hg BK636; replace BK636 := Z.bb BK636 hb; clear hb hbox hg))
 repeat (go_quiet (first | ((with_reducible refine gate_dst (N := 3) rfl ?_); (try (refine gate_guard (by rfl) ?_; dsimp only)); refine Z.bx #[.int .i64 a0_0, .slice A0_1 l0_1.length c0_1, .slice A0_2 l0_2.length c0_2] 35 HB ?_; clear HB; intro gb635 w5 BK635 GE635 HB hg hb; have GW635 := GE635; clear hb hg) | ((with_reducible refine gate_dst (N := 4) rfl ?_); (try (refine gate_guard (by rfl) ?_; dsimp only)); refine Z.bz #[.int .i64 a1_0, .int .i64 a1_1, .int .i64 a1_2] 53 HB GE635 ?_; clear HB; intro gb636 w6 BK636 GE636 HB hg hb; have GW636 := GE636; have NB635_636 := Z.nl hg BK635; have NB636_635 := Z.ng hg BK635; replace BK635 := Z.bb BK635 hb; clear hb hg) | ((with_reducible refine gate_dst (N := 5) rfl ?_); (try (refine gate_guard (by rfl) ?_; dsimp only)); refine box_event ?hg (N := 5) ?hd (cs := #[.int .i64 a2_0, .int .i64 a2_1, .int .i64 a2_2]) (t := 53) ?hr ?_; (case hd | hg => rfl); (case hr => first | (go_simp; done) | (go_simp; rfl)); intro gb637 hg w7 hbox hb; have BK637 := Aside0.mk (hbox); have GW637 := Aside0.mk ((by rw [hg]; exact (below_size (by repeat (first | (with_reducible first | exact HB.out | apply below_alloc | apply pw_below_drewN | apply below_drew1 | refine below_set ?_ GE635.out | refine below_set ?_ GE636.out) | exact HB.out))) : w.heap.size ≤ gb637)); have GE637 := Aside0.mk ((by rw [hg]; exact (below_size (by repeat (first | (with_reducible first | exact HB.out | apply below_alloc | apply pw_below_drewN | apply below_drew1 | refine below_set ?_ GE635.out | refine below_set ?_ GE636.out) | exact HB.out))) : w.heap.size ≤ gb637)); replace HB := Aside0.mk (below_step (by repeat (first | (with_reducible first | exact HB.out | apply below_alloc | apply pw_below_drewN | apply below_drew1 | refine below_set ?_ GE635.out | refine below_set ?_ GE636.out) | exact HB.out)) hb); have NB635_637 := Z.nl hg BK635; have NB637_635 := Z.ng hg BK635; replace BK635 := Z.bb BK635 hb; have NB636_637 := Z.nl hg BK636; have NB637_636 := Z.ng hg BK636; replace BK636 := Z.bb BK636 hb; clear hb hbox hg)); go_upto_region 1 with (first | ((with_reducible refine gate_dst (N := 3) rfl ?_); (try (refine gate_guard (by rfl) ?_; dsimp only)); refine Z.bx #[.int .i64 a0_0, .slice A0_1 l0_1.length c0_1, .slice A0_2 l0_2.length c0_2] 35 HB ?_; clear HB; intro gb635 w5 BK635 GE635 HB hg hb; have GW635 := GE635; clear hb hg) | ((with_reducible refine gate_dst (N := 4) rfl ?_); (try (refine gate_guard (by rfl) ?_; dsimp only)); refine Z.bz #[.int .i64 a1_0, .int .i64 a1_1, .int .i64 a1_2] 53 HB GE635 ?_; clear HB; intro gb636 w6 BK636 GE636 HB hg hb; have GW636 := GE636; have NB635_636 := Z.nl hg BK635; have NB636_635 := Z.ng hg BK635; replace BK635 := Z.bb BK635 hb; clear hb hg) | ((with_reducible refine gate_dst (N := 5) rfl ?_); (try (refine gate_guard (by rfl) ?_; dsimp only)); refine box_event ?hg (N := 5) ?hd (cs := #[.int .i64 a2_0, .int .i64 a2_1, .int .i64 a2_2]) (t := 53) ?hr ?_; (case hd | hg => rfl); (case hr => first | (go_simp; done) | (go_simp; rfl)); intro gb637 hg w7 hbox hb; have BK637 := Aside0.mk (hbox); have GW637 := Aside0.mk ((by rw [hg]; exact (below_size (by repeat (first | (with_reducible first | exact HB.out | apply below_alloc | apply pw_below_drewN | apply below_drew1 | refine below_set ?_ GE635.out | refine below_set ?_ GE636.out) | exact HB.out))) : w.heap.size ≤ gb637)); have GE637 := Aside0.mk ((by rw [hg]; exact (below_size (by repeat (first | (with_reducible first | exact HB.out | apply below_alloc | apply pw_below_drewN | apply below_drew1 | refine below_set ?_ GE635.out | refine below_set ?_ GE636.out) | exact HB.out))) : w.heap.size ≤ gb637)); replace HB := Aside0.mk (below_step (by repeat (first | (with_reducible first | exact HB.out | apply below_alloc | apply pw_below_drewN | apply below_drew1 | refine below_set ?_ GE635.out | refine below_set ?_ GE636.out) | exact HB.out)) hb); have NB635_637 := Z.nl hg BK635; have NB637_635 := Z.ng hg BK635; replace BK635 := Z.bb BK635 hb; have NB636_637 := Z.nl hg BK636; have NB637_636 := Z.ng hg BK636; replace BK636 := Z.bb BK636 hb; clear hb hbox hg)))
 (try simp only [Act.put, List.setIfInBounds_toArray, List.set_cons_zero, List.set_cons_succ])
 go_cut [38] (fun v38 wc => ∃ (kq : Nat) (x38_3 : Bool), v38 = .bool x38_3 ∧ Aside0 (spec_ApartOk.j0 kq x38_3 a0_0 l0_1 l0_2 a1_0 a1_1 a1_2 a2_0 a2_1 a2_2 = some r) ∧ Aside0 (kq ≤ k) ∧ Aside0 (wc.heap[gb635]? = some (.cells #[.int .i64 a0_0, (.slice A0_1 l0_1.length c0_1), (.slice A0_2 l0_2.length c0_2)] 35 (0, 0))) ∧ Aside0 (wc.heap[gb636]? = some (.cells #[.int .i64 a1_0, .int .i64 a1_1, .int .i64 a1_2] 53 (0, 0))) ∧ Aside0 (wc.heap[gb637]? = some (.cells #[.int .i64 a2_0, .int .i64 a2_1, .int .i64 a2_2] 53 (0, 0))) ∧ Aside0 (Below w.heap.size w wc))
 case first =>
  have H := HC4.out
  clear HC4
  replace H := Option.bind_eq_some_iff.mp H
  obtain ⟨t638, A80, H⟩ := H
  try dsimp only at H
  have A8 := Aside0.mk A80
  clear A80
  by_cases c9 : t638 = true
  ·subst c9
   rw [if_pos rfl] at H
   replace H := Option.bind_eq_some_iff.mp H
   obtain ⟨t639, A100, H⟩ := H
   try dsimp only at H
   have A10 := Aside0.mk A100
   clear A100
   by_cases c11 : t639 = true
   ·subst c11
    rw [if_pos rfl] at H
    replace H := Option.bind_eq_some_iff.mp H
    obtain ⟨t640, A120, H⟩ := H
    try dsimp only at H
    have A12 := Aside0.mk A120
    clear A120
    by_cases c13 : t640 = true
    ·subst c13
     rw [if_pos rfl] at H
     have H' := Aside0.mk H
     clear H
     have hnb14 := NB635_636.out
     have hnc14 := NB636_635.out
     have hnb15 := NB635_637.out
     have hnc15 := NB637_635.out
     have hcz16 := Z.c3 BK635.out
     go_wp2_with (first | (go_at_call 72; (with_reducible refine (spec_CharterOk.calls k a0_0 _ _ l0_1 _ _ l0_2 true _ ?q1 ?q2 ?q3 ?q4 A8.out).mono ?_); (case q1 => exact Z.cc HR0_1 HB); (case q2 => exact HC0_1.out); (case q3 => exact Z.cc HR0_2 HB); (case q4 => exact HC0_2.out); rintro e w17 ⟨rfl, hb⟩; replace BK635 := Z.bb BK635 hb; replace BK636 := Z.bb BK636 hb; replace BK637 := Z.bb BK637 hb; replace HB := Aside0.mk (below_step (by repeat (first | (with_reducible first | exact HB.out | apply below_alloc | apply pw_below_drewN | apply below_drew1 | refine below_set ?_ GE635.out | refine below_set ?_ GE636.out | refine below_set ?_ GE637.out) | exact HB.out)) hb); (try clear hb); (try clear hb2); (try clear hk); (try clear hi); have hnb18 := NB636_637.out; have hnc18 := NB637_636.out; have hcz19 := Z.c3 BK636.out; have hcz20 := Z.c3 BK635.out) | (go_at_call 73; (with_reducible refine (spec_l1In.calls a1_0 0 (wrap64 ((l0_2.length : Int) - 1)) true _ A10.out).mono ?_); rintro e w' ⟨rfl, ⟨nd, rfl⟩⟩; (try first | exact ⟨rfl, _, World.drewN_drewN _ _ _⟩ | exact ⟨rfl, _, Eq.trans (World.drewN_drewN _ _ _) (congrArg (World.drewN _) (Nat.add_assoc _ _ _))⟩); have hcz21 := Z.c3 BK637.out) | (go_at_call 73; (with_reducible refine (spec_l1In.calls a2_0 0 (wrap64 ((l0_2.length : Int) - 1)) true _ A12.out).mono ?_); rintro e w' ⟨rfl, ⟨nd, rfl⟩⟩; (try first | exact ⟨rfl, _, World.drewN_drewN _ _ _⟩ | exact ⟨rfl, _, Eq.trans (World.drewN_drewN _ _ _) (congrArg (World.drewN _) (Nat.add_assoc _ _ _))⟩)))
     repeat (go_quiet (first | (go_at_call 72; (with_reducible refine (spec_CharterOk.calls k a0_0 _ _ l0_1 _ _ l0_2 true _ ?q1 ?q2 ?q3 ?q4 A8.out).mono ?_); (case q1 => exact Z.cc HR0_1 HB); (case q2 => exact HC0_1.out); (case q3 => exact Z.cc HR0_2 HB); (case q4 => exact HC0_2.out); rintro e w17 ⟨rfl, hb⟩; replace BK635 := Z.bb BK635 hb; replace BK636 := Z.bb BK636 hb; replace BK637 := Z.bb BK637 hb; replace HB := Aside0.mk (below_step (by repeat (first | (with_reducible first | exact HB.out | apply below_alloc | apply pw_below_drewN | apply below_drew1 | refine below_set ?_ GE635.out | refine below_set ?_ GE636.out | refine below_set ?_ GE637.out) | exact HB.out)) hb); (try clear hb); (try clear hb2); (try clear hk); (try clear hi); have hnb18 := NB636_637.out; have hnc18 := NB637_636.out; have hcz19 := Z.c3 BK636.out; have hcz20 := Z.c3 BK635.out) | (go_at_call 73; (with_reducible refine (spec_l1In.calls a1_0 0 (wrap64 ((l0_2.length : Int) - 1)) true _ A10.out).mono ?_); rintro e w' ⟨rfl, ⟨nd, rfl⟩⟩; (try first | exact ⟨rfl, _, World.drewN_drewN _ _ _⟩ | exact ⟨rfl, _, Eq.trans (World.drewN_drewN _ _ _) (congrArg (World.drewN _) (Nat.add_assoc _ _ _))⟩); have hcz21 := Z.c3 BK637.out) | (go_at_call 73; (with_reducible refine (spec_l1In.calls a2_0 0 (wrap64 ((l0_2.length : Int) - 1)) true _ A12.out).mono ?_); rintro e w' ⟨rfl, ⟨nd, rfl⟩⟩; (try first | exact ⟨rfl, _, World.drewN_drewN _ _ _⟩ | exact ⟨rfl, _, Eq.trans (World.drewN_drewN _ _ _) (congrArg (World.drewN _) (Nat.add_assoc _ _ _))⟩))); try go_wp2_with (first | (go_at_call 72; (with_reducible refine (spec_CharterOk.calls k a0_0 _ _ l0_1 _ _ l0_2 true _ ?q1 ?q2 ?q3 ?q4 A8.out).mono ?_); (case q1 => exact Z.cc HR0_1 HB); (case q2 => exact HC0_1.out); (case q3 => exact Z.cc HR0_2 HB); (case q4 => exact HC0_2.out); rintro e w17 ⟨rfl, hb⟩; replace BK635 := Z.bb BK635 hb; replace BK636 := Z.bb BK636 hb; replace BK637 := Z.bb BK637 hb; replace HB := Aside0.mk (below_step (by repeat (first | (with_reducible first | exact HB.out | apply below_alloc | apply pw_below_drewN | apply below_drew1 | refine below_set ?_ GE635.out | refine below_set ?_ GE636.out | refine below_set ?_ GE637.out) | exact HB.out)) hb); (try clear hb); (try clear hb2); (try clear hk); (try clear hi); have hnb18 := NB636_637.out; have hnc18 := NB637_636.out; have hcz19 := Z.c3 BK636.out; have hcz20 := Z.c3 BK635.out) | (go_at_call 73; (with_reducible refine (spec_l1In.calls a1_0 0 (wrap64 ((l0_2.length : Int) - 1)) true _ A10.out).mono ?_); rintro e w' ⟨rfl, ⟨nd, rfl⟩⟩; (try first | exact ⟨rfl, _, World.drewN_drewN _ _ _⟩ | exact ⟨rfl, _, Eq.trans (World.drewN_drewN _ _ _) (congrArg (World.drewN _) (Nat.add_assoc _ _ _))⟩); have hcz21 := Z.c3 BK637.out) | (go_at_call 73; (with_reducible refine (spec_l1In.calls a2_0 0 (wrap64 ((l0_2.length : Int) - 1)) true _ A12.out).mono ?_); rintro e w' ⟨rfl, ⟨nd, rfl⟩⟩; (try first | exact ⟨rfl, _, World.drewN_drewN _ _ _⟩ | exact ⟨rfl, _, Eq.trans (World.drewN_drewN _ _ _) (congrArg (World.drewN _) (Nat.add_assoc _ _ _))⟩))))
     go_meet
     case rel => exact ⟨_, ((a1_0 == a2_0)), (by first | rfl | (simp; done) | (simp [*]; done)), H', ⟨by first | omega | exact Nat.le_refl _⟩, ⟨by (with_reducible repeat (first | refine blk_drewN ?_ _ | refine blk_drew ?_ | refine blk_alloc ?_ _)); exact BK635.out⟩, ⟨by (with_reducible repeat (first | refine blk_drewN ?_ _ | refine blk_drew ?_ | refine blk_alloc ?_ _)); exact BK636.out⟩, ⟨by (with_reducible repeat (first | refine blk_drewN ?_ _ | refine blk_drew ?_ | refine blk_alloc ?_ _)); exact BK637.out⟩, ⟨by repeat (first | (with_reducible first | exact HB.out | apply below_alloc | apply pw_below_drewN | apply below_drew1 | refine below_set ?_ GE635.out | refine below_set ?_ GE636.out | refine below_set ?_ GE637.out) | exact HB.out)⟩⟩
    ·replace c13 := Bool.eq_false_iff.mpr c13
     subst c13
     rw [if_neg (show ¬ (false = true) by decide)] at H
     have H' := Aside0.mk H
     clear H
     have hnb22 := NB635_636.out
     have hnc22 := NB636_635.out
     have hnb23 := NB635_637.out
     have hnc23 := NB637_635.out
     have hcz24 := Z.c3 BK635.out
     go_wp2_with (first | (go_at_call 72; (with_reducible refine (spec_CharterOk.calls k a0_0 _ _ l0_1 _ _ l0_2 true _ ?q1 ?q2 ?q3 ?q4 A8.out).mono ?_); (case q1 => exact Z.cc HR0_1 HB); (case q2 => exact HC0_1.out); (case q3 => exact Z.cc HR0_2 HB); (case q4 => exact HC0_2.out); rintro e w25 ⟨rfl, hb⟩; replace BK635 := Z.bb BK635 hb; replace BK636 := Z.bb BK636 hb; replace BK637 := Z.bb BK637 hb; replace HB := Aside0.mk (below_step (by repeat (first | (with_reducible first | exact HB.out | apply below_alloc | apply pw_below_drewN | apply below_drew1 | refine below_set ?_ GE635.out | refine below_set ?_ GE636.out | refine below_set ?_ GE637.out) | exact HB.out)) hb); (try clear hb); (try clear hb2); (try clear hk); (try clear hi); have hnb26 := NB636_637.out; have hnc26 := NB637_636.out; have hcz27 := Z.c3 BK636.out; have hcz28 := Z.c3 BK635.out) | (go_at_call 73; (with_reducible refine (spec_l1In.calls a1_0 0 (wrap64 ((l0_2.length : Int) - 1)) true _ A10.out).mono ?_); rintro e w' ⟨rfl, ⟨nd, rfl⟩⟩; (try first | exact ⟨rfl, _, World.drewN_drewN _ _ _⟩ | exact ⟨rfl, _, Eq.trans (World.drewN_drewN _ _ _) (congrArg (World.drewN _) (Nat.add_assoc _ _ _))⟩); have hcz29 := Z.c3 BK637.out) | (go_at_call 73; (with_reducible refine (spec_l1In.calls a2_0 0 (wrap64 ((l0_2.length : Int) - 1)) false _ A12.out).mono ?_); rintro e w' ⟨rfl, ⟨nd, rfl⟩⟩; (try first | exact ⟨rfl, _, World.drewN_drewN _ _ _⟩ | exact ⟨rfl, _, Eq.trans (World.drewN_drewN _ _ _) (congrArg (World.drewN _) (Nat.add_assoc _ _ _))⟩)))
     repeat (go_quiet (first | (go_at_call 72; (with_reducible refine (spec_CharterOk.calls k a0_0 _ _ l0_1 _ _ l0_2 true _ ?q1 ?q2 ?q3 ?q4 A8.out).mono ?_); (case q1 => exact Z.cc HR0_1 HB); (case q2 => exact HC0_1.out); (case q3 => exact Z.cc HR0_2 HB); (case q4 => exact HC0_2.out); rintro e w25 ⟨rfl, hb⟩; replace BK635 := Z.bb BK635 hb; replace BK636 := Z.bb BK636 hb; replace BK637 := Z.bb BK637 hb; replace HB := Aside0.mk (below_step (by repeat (first | (with_reducible first | exact HB.out | apply below_alloc | apply pw_below_drewN | apply below_drew1 | refine below_set ?_ GE635.out | refine below_set ?_ GE636.out | refine below_set ?_ GE637.out) | exact HB.out)) hb); (try clear hb); (try clear hb2); (try clear hk); (try clear hi); have hnb26 := NB636_637.out; have hnc26 := NB637_636.out; have hcz27 := Z.c3 BK636.out; have hcz28 := Z.c3 BK635.out) | (go_at_call 73; (with_reducible refine (spec_l1In.calls a1_0 0 (wrap64 ((l0_2.length : Int) - 1)) true _ A10.out).mono ?_); rintro e w' ⟨rfl, ⟨nd, rfl⟩⟩; (try first | exact ⟨rfl, _, World.drewN_drewN _ _ _⟩ | exact ⟨rfl, _, Eq.trans (World.drewN_drewN _ _ _) (congrArg (World.drewN _) (Nat.add_assoc _ _ _))⟩); have hcz29 := Z.c3 BK637.out) | (go_at_call 73; (with_reducible refine (spec_l1In.calls a2_0 0 (wrap64 ((l0_2.length : Int) - 1)) false _ A12.out).mono ?_); rintro e w' ⟨rfl, ⟨nd, rfl⟩⟩; (try first | exact ⟨rfl, _, World.drewN_drewN _ _ _⟩ | exact ⟨rfl, _, Eq.trans (World.drewN_drewN _ _ _) (congrArg (World.drewN _) (Nat.add_assoc _ _ _))⟩))); try go_wp2_with (first | (go_at_call 72; (with_reducible refine (spec_CharterOk.calls k a0_0 _ _ l0_1 _ _ l0_2 true _ ?q1 ?q2 ?q3 ?q4 A8.out).mono ?_); (case q1 => exact Z.cc HR0_1 HB); (case q2 => exact HC0_1.out); (case q3 => exact Z.cc HR0_2 HB); (case q4 => exact HC0_2.out); rintro e w25 ⟨rfl, hb⟩; replace BK635 := Z.bb BK635 hb; replace BK636 := Z.bb BK636 hb; replace BK637 := Z.bb BK637 hb; replace HB := Aside0.mk (below_step (by repeat (first | (with_reducible first | exact HB.out | apply below_alloc | apply pw_below_drewN | apply below_drew1 | refine below_set ?_ GE635.out | refine below_set ?_ GE636.out | refine below_set ?_ GE637.out) | exact HB.out)) hb); (try clear hb); (try clear hb2); (try clear hk); (try clear hi); have hnb26 := NB636_637.out; have hnc26 := NB637_636.out; have hcz27 := Z.c3 BK636.out; have hcz28 := Z.c3 BK635.out) | (go_at_call 73; (with_reducible refine (spec_l1In.calls a1_0 0 (wrap64 ((l0_2.length : Int) - 1)) true _ A10.out).mono ?_); rintro e w' ⟨rfl, ⟨nd, rfl⟩⟩; (try first | exact ⟨rfl, _, World.drewN_drewN _ _ _⟩ | exact ⟨rfl, _, Eq.trans (World.drewN_drewN _ _ _) (congrArg (World.drewN _) (Nat.add_assoc _ _ _))⟩); have hcz29 := Z.c3 BK637.out) | (go_at_call 73; (with_reducible refine (spec_l1In.calls a2_0 0 (wrap64 ((l0_2.length : Int) - 1)) false _ A12.out).mono ?_); rintro e w' ⟨rfl, ⟨nd, rfl⟩⟩; (try first | exact ⟨rfl, _, World.drewN_drewN _ _ _⟩ | exact ⟨rfl, _, Eq.trans (World.drewN_drewN _ _ _) (congrArg (World.drewN _) (Nat.add_assoc _ _ _))⟩))))
     go_meet
     case rel => exact ⟨_, (true), (by first | rfl | (simp; done) | (simp [*]; done)), H', ⟨by first | omega | exact Nat.le_refl _⟩, ⟨by (with_reducible repeat (first | refine blk_drewN ?_ _ | refine blk_drew ?_ | refine blk_alloc ?_ _)); exact BK635.out⟩, ⟨by (with_reducible repeat (first | refine blk_drewN ?_ _ | refine blk_drew ?_ | refine blk_alloc ?_ _)); exact BK636.out⟩, ⟨by (with_reducible repeat (first | refine blk_drewN ?_ _ | refine blk_drew ?_ | refine blk_alloc ?_ _)); exact BK637.out⟩, ⟨by repeat (first | (with_reducible first | exact HB.out | apply below_alloc | apply pw_below_drewN | apply below_drew1 | refine below_set ?_ GE635.out | refine below_set ?_ GE636.out | refine below_set ?_ GE637.out) | exact HB.out)⟩⟩
   ·replace c11 := Bool.eq_false_iff.mpr c11
    subst c11
    rw [if_neg (show ¬ (false = true) by decide)] at H
    have H' := Aside0.mk H
    clear H
    have hnb30 := NB635_636.out
    have hnc30 := NB636_635.out
    have hnb31 := NB635_637.out
    have hnc31 := NB637_635.out
    have hcz32 := Z.c3 BK635.out
    go_wp2_with (first | (go_at_call 72; (with_reducible refine (spec_CharterOk.calls k a0_0 _ _ l0_1 _ _ l0_2 true _ ?q1 ?q2 ?q3 ?q4 A8.out).mono ?_); (case q1 => exact Z.cc HR0_1 HB); (case q2 => exact HC0_1.out); (case q3 => exact Z.cc HR0_2 HB); (case q4 => exact HC0_2.out); rintro e w33 ⟨rfl, hb⟩; replace BK635 := Z.bb BK635 hb; replace BK636 := Z.bb BK636 hb; replace BK637 := Z.bb BK637 hb; replace HB := Aside0.mk (below_step (by repeat (first | (with_reducible first | exact HB.out | apply below_alloc | apply pw_below_drewN | apply below_drew1 | refine below_set ?_ GE635.out | refine below_set ?_ GE636.out | refine below_set ?_ GE637.out) | exact HB.out)) hb); (try clear hb); (try clear hb2); (try clear hk); (try clear hi); have hnb34 := NB636_637.out; have hnc34 := NB637_636.out; have hcz35 := Z.c3 BK636.out; have hcz36 := Z.c3 BK635.out) | (go_at_call 73; (with_reducible refine (spec_l1In.calls a1_0 0 (wrap64 ((l0_2.length : Int) - 1)) false _ A10.out).mono ?_); rintro e w' ⟨rfl, ⟨nd, rfl⟩⟩; (try first | exact ⟨rfl, _, World.drewN_drewN _ _ _⟩ | exact ⟨rfl, _, Eq.trans (World.drewN_drewN _ _ _) (congrArg (World.drewN _) (Nat.add_assoc _ _ _))⟩)))
    repeat (go_quiet (first | (go_at_call 72; (with_reducible refine (spec_CharterOk.calls k a0_0 _ _ l0_1 _ _ l0_2 true _ ?q1 ?q2 ?q3 ?q4 A8.out).mono ?_); (case q1 => exact Z.cc HR0_1 HB); (case q2 => exact HC0_1.out); (case q3 => exact Z.cc HR0_2 HB); (case q4 => exact HC0_2.out); rintro e w33 ⟨rfl, hb⟩; replace BK635 := Z.bb BK635 hb; replace BK636 := Z.bb BK636 hb; replace BK637 := Z.bb BK637 hb; replace HB := Aside0.mk (below_step (by repeat (first | (with_reducible first | exact HB.out | apply below_alloc | apply pw_below_drewN | apply below_drew1 | refine below_set ?_ GE635.out | refine below_set ?_ GE636.out | refine below_set ?_ GE637.out) | exact HB.out)) hb); (try clear hb); (try clear hb2); (try clear hk); (try clear hi); have hnb34 := NB636_637.out; have hnc34 := NB637_636.out; have hcz35 := Z.c3 BK636.out; have hcz36 := Z.c3 BK635.out) | (go_at_call 73; (with_reducible refine (spec_l1In.calls a1_0 0 (wrap64 ((l0_2.length : Int) - 1)) false _ A10.out).mono ?_); rintro e w' ⟨rfl, ⟨nd, rfl⟩⟩; (try first | exact ⟨rfl, _, World.drewN_drewN _ _ _⟩ | exact ⟨rfl, _, Eq.trans (World.drewN_drewN _ _ _) (congrArg (World.drewN _) (Nat.add_assoc _ _ _))⟩))); try go_wp2_with (first | (go_at_call 72; (with_reducible refine (spec_CharterOk.calls k a0_0 _ _ l0_1 _ _ l0_2 true _ ?q1 ?q2 ?q3 ?q4 A8.out).mono ?_); (case q1 => exact Z.cc HR0_1 HB); (case q2 => exact HC0_1.out); (case q3 => exact Z.cc HR0_2 HB); (case q4 => exact HC0_2.out); rintro e w33 ⟨rfl, hb⟩; replace BK635 := Z.bb BK635 hb; replace BK636 := Z.bb BK636 hb; replace BK637 := Z.bb BK637 hb; replace HB := Aside0.mk (below_step (by repeat (first | (with_reducible first | exact HB.out | apply below_alloc | apply pw_below_drewN | apply below_drew1 | refine below_set ?_ GE635.out | refine below_set ?_ GE636.out | refine below_set ?_ GE637.out) | exact HB.out)) hb); (try clear hb); (try clear hb2); (try clear hk); (try clear hi); have hnb34 := NB636_637.out; have hnc34 := NB637_636.out; have hcz35 := Z.c3 BK636.out; have hcz36 := Z.c3 BK635.out) | (go_at_call 73; (with_reducible refine (spec_l1In.calls a1_0 0 (wrap64 ((l0_2.length : Int) - 1)) false _ A10.out).mono ?_); rintro e w' ⟨rfl, ⟨nd, rfl⟩⟩; (try first | exact ⟨rfl, _, World.drewN_drewN _ _ _⟩ | exact ⟨rfl, _, Eq.trans (World.drewN_drewN _ _ _) (congrArg (World.drewN _) (Nat.add_assoc _ _ _))⟩))))
    go_meet
    case rel => exact ⟨_, (true), (by first | rfl | (simp; done) | (simp [*]; done)), H', ⟨by first | omega | exact Nat.le_refl _⟩, ⟨by (with_reducible repeat (first | refine blk_drewN ?_ _ | refine blk_drew ?_ | refine blk_alloc ?_ _)); exact BK635.out⟩, ⟨by (with_reducible repeat (first | refine blk_drewN ?_ _ | refine blk_drew ?_ | refine blk_alloc ?_ _)); exact BK636.out⟩, ⟨by (with_reducible repeat (first | refine blk_drewN ?_ _ | refine blk_drew ?_ | refine blk_alloc ?_ _)); exact BK637.out⟩, ⟨by repeat (first | (with_reducible first | exact HB.out | apply below_alloc | apply pw_below_drewN | apply below_drew1 | refine below_set ?_ GE635.out | refine below_set ?_ GE636.out | refine below_set ?_ GE637.out) | exact HB.out)⟩⟩
  ·replace c9 := Bool.eq_false_iff.mpr c9
   subst c9
   rw [if_neg (show ¬ (false = true) by decide)] at H
   have H' := Aside0.mk H
   clear H
   have hnb37 := NB635_636.out
   have hnc37 := NB636_635.out
   have hnb38 := NB635_637.out
   have hnc38 := NB637_635.out
   have hcz39 := Z.c3 BK635.out
   go_wp2_with (first | (go_at_call 72; (with_reducible refine (spec_CharterOk.calls k a0_0 _ _ l0_1 _ _ l0_2 false _ ?q1 ?q2 ?q3 ?q4 A8.out).mono ?_); (case q1 => exact Z.cc HR0_1 HB); (case q2 => exact HC0_1.out); (case q3 => exact Z.cc HR0_2 HB); (case q4 => exact HC0_2.out); rintro e w40 ⟨rfl, hb⟩; replace BK635 := Z.bb BK635 hb; replace BK636 := Z.bb BK636 hb; replace BK637 := Z.bb BK637 hb; replace HB := Aside0.mk (below_step (by repeat (first | (with_reducible first | exact HB.out | apply below_alloc | apply pw_below_drewN | apply below_drew1 | refine below_set ?_ GE635.out | refine below_set ?_ GE636.out | refine below_set ?_ GE637.out) | exact HB.out)) hb); (try clear hb); (try clear hb2); (try clear hk); (try clear hi)))
   repeat (go_quiet (first | (go_at_call 72; (with_reducible refine (spec_CharterOk.calls k a0_0 _ _ l0_1 _ _ l0_2 false _ ?q1 ?q2 ?q3 ?q4 A8.out).mono ?_); (case q1 => exact Z.cc HR0_1 HB); (case q2 => exact HC0_1.out); (case q3 => exact Z.cc HR0_2 HB); (case q4 => exact HC0_2.out); rintro e w40 ⟨rfl, hb⟩; replace BK635 := Z.bb BK635 hb; replace BK636 := Z.bb BK636 hb; replace BK637 := Z.bb BK637 hb; replace HB := Aside0.mk (below_step (by repeat (first | (with_reducible first | exact HB.out | apply below_alloc | apply pw_below_drewN | apply below_drew1 | refine below_set ?_ GE635.out | refine below_set ?_ GE636.out | refine below_set ?_ GE637.out) | exact HB.out)) hb); (try clear hb); (try clear hb2); (try clear hk); (try clear hi))); try go_wp2_with (first | (go_at_call 72; (with_reducible refine (spec_CharterOk.calls k a0_0 _ _ l0_1 _ _ l0_2 false _ ?q1 ?q2 ?q3 ?q4 A8.out).mono ?_); (case q1 => exact Z.cc HR0_1 HB); (case q2 => exact HC0_1.out); (case q3 => exact Z.cc HR0_2 HB); (case q4 => exact HC0_2.out); rintro e w40 ⟨rfl, hb⟩; replace BK635 := Z.bb BK635 hb; replace BK636 := Z.bb BK636 hb; replace BK637 := Z.bb BK637 hb; replace HB := Aside0.mk (below_step (by repeat (first | (with_reducible first | exact HB.out | apply below_alloc | apply pw_below_drewN | apply below_drew1 | refine below_set ?_ GE635.out | refine below_set ?_ GE636.out | refine below_set ?_ GE637.out) | exact HB.out)) hb); (try clear hb); (try clear hb2); (try clear hk); (try clear hi))))
   go_meet
   case rel => exact ⟨_, (true), (by first | rfl | (simp; done) | (simp [*]; done)), H', ⟨by first | omega | exact Nat.le_refl _⟩, ⟨by (with_reducible repeat (first | refine blk_drewN ?_ _ | refine blk_drew ?_ | refine blk_alloc ?_ _)); exact BK635.out⟩, ⟨by (with_reducible repeat (first | refine blk_drewN ?_ _ | refine blk_drew ?_ | refine blk_alloc ?_ _)); exact BK636.out⟩, ⟨by (with_reducible repeat (first | refine blk_drewN ?_ _ | refine blk_drew ?_ | refine blk_alloc ?_ _)); exact BK637.out⟩, ⟨by repeat (first | (with_reducible first | exact HB.out | apply below_alloc | apply pw_below_drewN | apply below_drew1 | refine below_set ?_ GE635.out | refine below_set ?_ GE636.out | refine below_set ?_ GE637.out) | exact HB.out)⟩⟩
 case rest =>
  clear HC4
  try clear c1
  try clear c2
  try clear p2
  try clear c3
  try clear p6
  try clear c9
  try clear c11
  try clear c13
  try clear c14
  try clear c15
  try clear c18
  try clear c22
  try clear c23
  try clear c26
  try clear c30
  try clear c31
  try clear c34
  try clear c36
  try clear c37
  try clear c38
  try clear hcz16_0
  try clear hcz16_1
  try clear hcz16_2
  try clear hcz19_0
  try clear hcz19_1
  try clear hcz19_2
  try clear hcz20_0
  try clear hcz20_1
  try clear hcz20_2
  try clear hcz21_0
  try clear hcz21_1
  try clear hcz21_2
  try clear hcz24_0
  try clear hcz24_1
  try clear hcz24_2
  try clear hcz27_0
  try clear hcz27_1
  try clear hcz27_2
  try clear hcz28_0
  try clear hcz28_1
  try clear hcz28_2
  try clear hcz29_0
  try clear hcz29_1
  try clear hcz29_2
  try clear hcz32_0
  try clear hcz32_1
  try clear hcz32_2
  try clear hcz35_0
  try clear hcz35_1
  try clear hcz35_2
  try clear hcz36_0
  try clear hcz36_1
  try clear hcz36_2
  try clear hcz39_0
  try clear hcz39_1
  try clear hcz39_2
  try clear hfz16_0
  try clear hfz16_1
  try clear hfz16_2
  try clear hfz19_0
  try clear hfz19_1
  try clear hfz19_2
  try clear hfz20_0
  try clear hfz20_1
  try clear hfz20_2
  try clear hfz21_0
  try clear hfz21_1
  try clear hfz21_2
  try clear hfz24_0
  try clear hfz24_1
  try clear hfz24_2
  try clear hfz27_0
  try clear hfz27_1
  try clear hfz27_2
  try clear hfz28_0
  try clear hfz28_1
  try clear hfz28_2
  try clear hfz29_0
  try clear hfz29_1
  try clear hfz29_2
  try clear hfz32_0
  try clear hfz32_1
  try clear hfz32_2
  try clear hfz35_0
  try clear hfz35_1
  try clear hfz35_2
  try clear hfz36_0
  try clear hfz36_1
  try clear hfz36_2
  try clear hfz39_0
  try clear hfz39_1
  try clear hfz39_2
  obtain ⟨kq, x38_3, rfl, HA, HJ3, BK635, BK636, BK637, HB⟩ := hcut
  cases kq with
  | zero => exact absurd HA.out (by simp [spec_ApartOk.j0])
  | succ kj3 =>
   have H := HA.out
   clear HA
   simp only [spec_ApartOk.j0] at H
   by_cases c41 : x38_3 = true
   ·subst c41
    rw [if_pos rfl] at H
    obtain rfl := Option.some.inj H
    go_wp2
    repeat (go_quiet (fail); try go_wp2)
    go_ret
    exact ⟨by first | rfl | (simp [errW_none, errW_some] <;> rfl) | (simp [*, errW_none, errW_some] <;> rfl), by repeat (first | (with_reducible first | exact HB.out | apply below_alloc | apply pw_below_drewN | apply below_drew1 | refine below_set ?_ GE635.out | refine below_set ?_ GE636.out | refine below_set ?_ GE637.out) | exact HB.out)⟩
   ·replace c41 := Bool.eq_false_iff.mpr c41
    subst c41
    rw [if_neg (show ¬ (false = true) by decide)] at H
    have H' := Aside0.mk H
    clear H
    go_wp2
    repeat (go_quiet (fail); try go_wp2)
    go_loopg [7] kj3 (fun kq v7 w' => ∃ (x7_2 : Int), v7 = .int .i64 x7_2 ∧ Aside0 (spec_ApartOk.l0 kq x7_2 a0_0 l0_1 l0_2 a1_0 a1_1 a1_2 a2_0 a2_1 a2_2 = some r) ∧ Aside0 (kq ≤ kj3) ∧ Aside0 (w'.heap[gb635]? = some (.cells #[.int .i64 a0_0, (.slice A0_1 l0_1.length c0_1), (.slice A0_2 l0_2.length c0_2)] 35 (0, 0))) ∧ Aside0 (w'.heap[gb636]? = some (.cells #[.int .i64 a1_0, .int .i64 a1_1, .int .i64 a1_2] 53 (0, 0))) ∧ Aside0 (w'.heap[gb637]? = some (.cells #[.int .i64 a2_0, .int .i64 a2_1, .int .i64 a2_2] 53 (0, 0))) ∧ Aside0 (Below w.heap.size w w'))
    case atStart => exact ⟨(0), (by first | rfl | (simp; done) | (simp [*]; done)), H', ⟨Nat.le_refl _⟩, ⟨by (with_reducible repeat (first | refine blk_drewN ?_ _ | refine blk_drew ?_ | refine blk_alloc ?_ _)); exact BK635.out⟩, ⟨by (with_reducible repeat (first | refine blk_drewN ?_ _ | refine blk_drew ?_ | refine blk_alloc ?_ _)); exact BK636.out⟩, ⟨by (with_reducible repeat (first | refine blk_drewN ?_ _ | refine blk_drew ?_ | refine blk_alloc ?_ _)); exact BK637.out⟩, ⟨by repeat (first | (with_reducible first | exact HB.out | apply below_alloc | apply pw_below_drewN | apply below_drew1 | refine below_set ?_ GE635.out | refine below_set ?_ GE636.out | refine below_set ?_ GE637.out) | exact HB.out)⟩⟩
    case round =>
     clear H'
     try clear c1
     try clear c2
     try clear p2
     try clear c3
     try clear c4
     try clear p6
     try clear c9
     try clear c11
     try clear c13
     try clear c14
     try clear c15
     try clear c18
     try clear c22
     try clear c23
     try clear c26
     try clear c30
     try clear c31
     try clear c34
     try clear c36
     try clear c37
     try clear c38
     try clear c41
     try clear hcz16_0
     try clear hcz16_1
     try clear hcz16_2
     try clear hcz19_0
     try clear hcz19_1
     try clear hcz19_2
     try clear hcz20_0
     try clear hcz20_1
     try clear hcz20_2
     try clear hcz21_0
     try clear hcz21_1
     try clear hcz21_2
     try clear hcz24_0
     try clear hcz24_1
     try clear hcz24_2
     try clear hcz27_0
     try clear hcz27_1
     try clear hcz27_2
     try clear hcz28_0
     try clear hcz28_1
     try clear hcz28_2
     try clear hcz29_0
     try clear hcz29_1
     try clear hcz29_2
     try clear hcz32_0
     try clear hcz32_1
     try clear hcz32_2
     try clear hcz35_0
     try clear hcz35_1
     try clear hcz35_2
     try clear hcz36_0
     try clear hcz36_1
     try clear hcz36_2
     try clear hcz39_0
     try clear hcz39_1
     try clear hcz39_2
     try clear hfz16_0
     try clear hfz16_1
     try clear hfz16_2
     try clear hfz19_0
     try clear hfz19_1
     try clear hfz19_2
     try clear hfz20_0
     try clear hfz20_1
     try clear hfz20_2
     try clear hfz21_0
     try clear hfz21_1
     try clear hfz21_2
     try clear hfz24_0
     try clear hfz24_1
     try clear hfz24_2
     try clear hfz27_0
     try clear hfz27_1
     try clear hfz27_2
     try clear hfz28_0
     try clear hfz28_1
     try clear hfz28_2
     try clear hfz29_0
     try clear hfz29_1
     try clear hfz29_2
     try clear hfz32_0
     try clear hfz32_1
     try clear hfz32_2
     try clear hfz35_0
     try clear hfz35_1
     try clear hfz35_2
     try clear hfz36_0
     try clear hfz36_1
     try clear hfz36_2
     try clear hfz39_0
     try clear hfz39_1
     try clear hfz39_2
     try clear p2
     try clear p6
     obtain ⟨x7_2, rfl, HA, HK2, BK635, BK636, BK637, HB⟩ := hrel
     cases gk with
     | zero => exact absurd HA.out (by simp [spec_ApartOk.l0])
     | succ k2 =>
      have H := HA.out
      clear HA
      simp only [spec_ApartOk.l0] at H
      obtain ⟨c42, H⟩ := Z.ifp H
      have c42b0 : decide (0 ≤ a1_0) = true := decide_eq_true c42
      clear c42
      obtain ⟨c43, H⟩ := Z.ifp H
      have c43b0 : decide (a1_0 < (l0_2.length : Int)) = true := decide_eq_true c43
      clear c43
      by_cases c44 : x7_2 < ((rd_L9 l0_2 a1_0).length : Int)
      ·rw [if_pos c44] at H
       have c44b0 := decide_eq_true c44
       clear c44
       obtain ⟨c45, H⟩ := Z.ifp H
       have c45b0 : decide (0 ≤ x7_2) = true := decide_eq_true c45
       clear c45
       by_cases c46 : ((rd_T86 (rd_L9 l0_2 a1_0) x7_2).f1) = a2_0
       ·rw [if_pos c46] at H
        have c46b0 : (((rd_T86 (rd_L9 l0_2 a1_0) x7_2).f1) == a2_0) = true := beq_iff_eq.mpr c46
        have c46b1 : (((rd_T86 (rd_L9 l0_2 a1_0) x7_2).f1) != a2_0) = false := bne_eq_false_iff_eq.mpr c46
        clear c46
        obtain rfl := Option.some.inj H
        have hnb47 := NB635_636.out
        have hnc47 := NB636_635.out
        have hnb48 := NB635_637.out
        have hnc48 := NB637_635.out
        have hcz49 := Z.c3 BK635.out
        have hnb50 := NB636_637.out
        have hnc50 := NB637_636.out
        have hcz51 := Z.c3 BK636.out
        have p641 : 0 ≤ (a1_0 : Int) := Z.od
        have q641 : a1_0 < (l0_2.length : Int) := Z.od
        obtain ⟨ad641, A641_0, c641_0, rfl, hx641_0, hl641_0, hi641_0⟩ := at_L9 HR0_2.out a1_0 p641 q641
        replace hx641_0 := Z.up HB.out hx641_0
        have HR641_0 := Aside0.mk hi641_0
        have HC641_0 := Aside0.mk hl641_0
        clear hi641_0 hl641_0
        replace p641 := eq_true p641
        replace q641 := eq_true q641
        have p642 : 0 ≤ (a1_0 : Int) := Z.od
        have q642 : a1_0 < (l0_2.length : Int) := Z.od
        obtain ⟨ad642, A642_0, c642_0, e642, hx642_0, hl642_0, hi642_0⟩ := at_L9 HR0_2.out a1_0 p642 q642
        obtain rfl : ad641 = ad642 := (by injection e642)
        replace hx642_0 := Z.up HB.out hx642_0
        have HR642_0 := Aside0.mk hi642_0
        have HC642_0 := Aside0.mk hl642_0
        clear hi642_0 hl642_0
        replace p642 := eq_true p642
        replace q642 := eq_true q642
        have ea_ := Option.some.inj (hx641_0.symm.trans hx642_0)
        injection ea_ with ea_ en_ ec_
        subst ea_
        subst ec_
        clear en_
        have p643 : 0 ≤ (x7_2 : Int) := Z.od
        have q643 : x7_2 < ((rd_L9 l0_2 a1_0).length : Int) := Z.od
        obtain ⟨ad643, A643_0, c643_0, rfl, hx643_0, hx643_1, hx643_2, hl643_0, hi643_0⟩ := at_T86 HR642_0.out x7_2 p643 q643
        replace hx643_0 := Z.up HB.out hx643_0
        replace hx643_1 := Z.up HB.out hx643_1
        replace hx643_2 := Z.up HB.out hx643_2
        have HR643_0 := Aside0.mk hi643_0
        have HC643_0 := Aside0.mk hl643_0
        clear hi643_0 hl643_0
        replace p643 := eq_true p643
        replace q643 := eq_true q643
        have hcz52 := Z.c3 BK637.out
        go_wp2
        repeat (go_quiet (fail); try go_wp2)
        go_ret
        exact ⟨by first | rfl | (simp [errW_none, errW_some] <;> rfl) | (simp [*, errW_none, errW_some] <;> rfl), by repeat (first | (with_reducible first | exact HB.out | apply below_alloc | apply pw_below_drewN | apply below_drew1 | refine below_set ?_ GE635.out | refine below_set ?_ GE636.out | refine below_set ?_ GE637.out) | exact HB.out)⟩
       ·rw [if_neg c46] at H
        have c46b0 : (((rd_T86 (rd_L9 l0_2 a1_0) x7_2).f1) == a2_0) = false := beq_eq_false_iff_ne.mpr c46
        have c46b1 : (((rd_T86 (rd_L9 l0_2 a1_0) x7_2).f1) != a2_0) = true := bne_iff_ne.mpr c46
        have H' := Aside0.mk H
        clear H
        have hnb53 := NB635_636.out
        have hnc53 := NB636_635.out
        have hnb54 := NB635_637.out
        have hnc54 := NB637_635.out
        have hcz55 := Z.c3 BK635.out
        have hnb56 := NB636_637.out
        have hnc56 := NB637_636.out
        have hcz57 := Z.c3 BK636.out
        have p641 : 0 ≤ (a1_0 : Int) := Z.od
        have q641 : a1_0 < (l0_2.length : Int) := Z.od
        obtain ⟨ad641, A641_0, c641_0, rfl, hx641_0, hl641_0, hi641_0⟩ := at_L9 HR0_2.out a1_0 p641 q641
        replace hx641_0 := Z.up HB.out hx641_0
        have HR641_0 := Aside0.mk hi641_0
        have HC641_0 := Aside0.mk hl641_0
        clear hi641_0 hl641_0
        replace p641 := eq_true p641
        replace q641 := eq_true q641
        have p642 : 0 ≤ (a1_0 : Int) := Z.od
        have q642 : a1_0 < (l0_2.length : Int) := Z.od
        obtain ⟨ad642, A642_0, c642_0, e642, hx642_0, hl642_0, hi642_0⟩ := at_L9 HR0_2.out a1_0 p642 q642
        obtain rfl : ad641 = ad642 := (by injection e642)
        replace hx642_0 := Z.up HB.out hx642_0
        have HR642_0 := Aside0.mk hi642_0
        have HC642_0 := Aside0.mk hl642_0
        clear hi642_0 hl642_0
        replace p642 := eq_true p642
        replace q642 := eq_true q642
        have ea_ := Option.some.inj (hx641_0.symm.trans hx642_0)
        injection ea_ with ea_ en_ ec_
        subst ea_
        subst ec_
        clear en_
        have p643 : 0 ≤ (x7_2 : Int) := Z.od
        have q643 : x7_2 < ((rd_L9 l0_2 a1_0).length : Int) := Z.od
        obtain ⟨ad643, A643_0, c643_0, rfl, hx643_0, hx643_1, hx643_2, hl643_0, hi643_0⟩ := at_T86 HR642_0.out x7_2 p643 q643
        replace hx643_0 := Z.up HB.out hx643_0
        replace hx643_1 := Z.up HB.out hx643_1
        replace hx643_2 := Z.up HB.out hx643_2
        have HR643_0 := Aside0.mk hi643_0
        have HC643_0 := Aside0.mk hl643_0
        clear hi643_0 hl643_0
        replace p643 := eq_true p643
        replace q643 := eq_true q643
        have hcz58 := Z.c3 BK637.out
        go_wp2
        repeat (go_quiet (fail); try go_wp2)
        go_roundg k2
        case measure => have := HJ3.out; have := HK2.out; omega
        case rel => exact ⟨(wrap64 (x7_2 + 1)), (by first | rfl | (simp; done) | (simp [*]; done)), H', ⟨by have := HJ3.out; have := HK2.out; omega⟩, ⟨by (with_reducible repeat (first | refine blk_drewN ?_ _ | refine blk_drew ?_ | refine blk_alloc ?_ _)); exact BK635.out⟩, ⟨by (with_reducible repeat (first | refine blk_drewN ?_ _ | refine blk_drew ?_ | refine blk_alloc ?_ _)); exact BK636.out⟩, ⟨by (with_reducible repeat (first | refine blk_drewN ?_ _ | refine blk_drew ?_ | refine blk_alloc ?_ _)); exact BK637.out⟩, ⟨by repeat (first | (with_reducible first | exact HB.out | apply below_alloc | apply pw_below_drewN | apply below_drew1 | refine below_set ?_ GE635.out | refine below_set ?_ GE636.out | refine below_set ?_ GE637.out) | exact HB.out)⟩⟩
      ·rw [if_neg c44] at H
       have c44b0 := decide_eq_false c44
       clear c44
       have H' := Aside0.mk H
       clear H
       have hnb59 := NB635_636.out
       have hnc59 := NB636_635.out
       have hnb60 := NB635_637.out
       have hnc60 := NB637_635.out
       have hcz61 := Z.c3 BK635.out
       have hnb62 := NB636_637.out
       have hnc62 := NB637_636.out
       have hcz63 := Z.c3 BK636.out
       have p641 : 0 ≤ (a1_0 : Int) := Z.od
       have q641 : a1_0 < (l0_2.length : Int) := Z.od
       obtain ⟨ad641, A641_0, c641_0, rfl, hx641_0, hl641_0, hi641_0⟩ := at_L9 HR0_2.out a1_0 p641 q641
       replace hx641_0 := Z.up HB.out hx641_0
       have HR641_0 := Aside0.mk hi641_0
       have HC641_0 := Aside0.mk hl641_0
       clear hi641_0 hl641_0
       replace p641 := eq_true p641
       replace q641 := eq_true q641
       go_wp2
       repeat (go_quiet (fail); try go_wp2)
       go_loopg [8] k2 (fun kq v8 w' => ∃ (x8_3 : Int), v8 = .int .i64 x8_3 ∧ Aside0 (spec_ApartOk.l1 kq x8_3 a0_0 l0_1 l0_2 a1_0 a1_1 a1_2 a2_0 a2_1 a2_2 = some r) ∧ Aside0 (kq ≤ k2) ∧ Aside0 (w'.heap[gb635]? = some (.cells #[.int .i64 a0_0, (.slice A0_1 l0_1.length c0_1), (.slice (some ad641) l0_2.length c0_2)] 35 (0, 0))) ∧ Aside0 (w'.heap[gb636]? = some (.cells #[.int .i64 a1_0, .int .i64 a1_1, .int .i64 a1_2] 53 (0, 0))) ∧ Aside0 (w'.heap[gb637]? = some (.cells #[.int .i64 a2_0, .int .i64 a2_1, .int .i64 a2_2] 53 (0, 0))) ∧ Aside0 (Below w.heap.size w w'))
       case atStart => exact ⟨(0), (by first | rfl | (simp; done) | (simp [*]; done)), H', ⟨Nat.le_refl _⟩, ⟨by (with_reducible repeat (first | refine blk_drewN ?_ _ | refine blk_drew ?_ | refine blk_alloc ?_ _)); exact BK635.out⟩, ⟨by (with_reducible repeat (first | refine blk_drewN ?_ _ | refine blk_drew ?_ | refine blk_alloc ?_ _)); exact BK636.out⟩, ⟨by (with_reducible repeat (first | refine blk_drewN ?_ _ | refine blk_drew ?_ | refine blk_alloc ?_ _)); exact BK637.out⟩, ⟨by repeat (first | (with_reducible first | exact HB.out | apply below_alloc | apply pw_below_drewN | apply below_drew1 | refine below_set ?_ GE635.out | refine below_set ?_ GE636.out | refine below_set ?_ GE637.out) | exact HB.out)⟩⟩
       case round =>
        clear H'
        try clear c1
        try clear c2
        try clear p2
        try clear c3
        try clear c4
        try clear c5
        try clear c6
        try clear p6
        try clear q6
        try clear hx6
        try clear c9
        try clear c11
        try clear c13
        try clear c14
        try clear c15
        try clear c18
        try clear c22
        try clear c23
        try clear c26
        try clear c30
        try clear c31
        try clear c34
        try clear c36
        try clear c37
        try clear c38
        try clear c41
        try clear c42
        try clear c42b0
        try clear c43
        try clear c43b0
        try clear c44
        try clear c44b0
        try clear c45
        try clear c45b0
        try clear c46
        try clear c46b0
        try clear c46b1
        try clear c47
        try clear c48
        try clear c50
        try clear c53
        try clear c54
        try clear c56
        try clear c59
        try clear c60
        try clear c62
        try clear hcz16_0
        try clear hcz16_1
        try clear hcz16_2
        try clear hcz19_0
        try clear hcz19_1
        try clear hcz19_2
        try clear hcz20_0
        try clear hcz20_1
        try clear hcz20_2
        try clear hcz21_0
        try clear hcz21_1
        try clear hcz21_2
        try clear hcz24_0
        try clear hcz24_1
        try clear hcz24_2
        try clear hcz27_0
        try clear hcz27_1
        try clear hcz27_2
        try clear hcz28_0
        try clear hcz28_1
        try clear hcz28_2
        try clear hcz29_0
        try clear hcz29_1
        try clear hcz29_2
        try clear hcz32_0
        try clear hcz32_1
        try clear hcz32_2
        try clear hcz35_0
        try clear hcz35_1
        try clear hcz35_2
        try clear hcz36_0
        try clear hcz36_1
        try clear hcz36_2
        try clear hcz39_0
        try clear hcz39_1
        try clear hcz39_2
        try clear hcz49_0
        try clear hcz49_1
        try clear hcz49_2
        try clear hcz51_0
        try clear hcz51_1
        try clear hcz51_2
        try clear hcz52_0
        try clear hcz52_1
        try clear hcz52_2
        try clear hcz55_0
        try clear hcz55_1
        try clear hcz55_2
        try clear hcz57_0
        try clear hcz57_1
        try clear hcz57_2
        try clear hcz58_0
        try clear hcz58_1
        try clear hcz58_2
        try clear hcz61_0
        try clear hcz61_1
        try clear hcz61_2
        try clear hcz63_0
        try clear hcz63_1
        try clear hcz63_2
        try clear hfz16_0
        try clear hfz16_1
        try clear hfz16_2
        try clear hfz19_0
        try clear hfz19_1
        try clear hfz19_2
        try clear hfz20_0
        try clear hfz20_1
        try clear hfz20_2
        try clear hfz21_0
        try clear hfz21_1
        try clear hfz21_2
        try clear hfz24_0
        try clear hfz24_1
        try clear hfz24_2
        try clear hfz27_0
        try clear hfz27_1
        try clear hfz27_2
        try clear hfz28_0
        try clear hfz28_1
        try clear hfz28_2
        try clear hfz29_0
        try clear hfz29_1
        try clear hfz29_2
        try clear hfz32_0
        try clear hfz32_1
        try clear hfz32_2
        try clear hfz35_0
        try clear hfz35_1
        try clear hfz35_2
        try clear hfz36_0
        try clear hfz36_1
        try clear hfz36_2
        try clear hfz39_0
        try clear hfz39_1
        try clear hfz39_2
        try clear hfz49_0
        try clear hfz49_1
        try clear hfz49_2
        try clear hfz51_0
        try clear hfz51_1
        try clear hfz51_2
        try clear hfz52_0
        try clear hfz52_1
        try clear hfz52_2
        try clear hfz55_0
        try clear hfz55_1
        try clear hfz55_2
        try clear hfz57_0
        try clear hfz57_1
        try clear hfz57_2
        try clear hfz58_0
        try clear hfz58_1
        try clear hfz58_2
        try clear hfz61_0
        try clear hfz61_1
        try clear hfz61_2
        try clear hfz63_0
        try clear hfz63_1
        try clear hfz63_2
        try clear hx641_0
        try clear hx642_0
        try clear hx643_0
        try clear hx643_1
        try clear hx643_2
        try clear p2
        try clear p6
        try clear p641
        try clear p642
        try clear p643
        try clear q641
        try clear q642
        try clear q643
        obtain ⟨x8_3, rfl, HA, HK3, BK635, BK636, BK637, HB⟩ := hrel
        cases gk with
        | zero => exact absurd HA.out (by simp [spec_ApartOk.l1])
        | succ k3 =>
         have H := HA.out
         clear HA
         simp only [spec_ApartOk.l1] at H
         obtain ⟨c64, H⟩ := Z.ifp H
         have c64b0 : decide (0 ≤ a2_0) = true := decide_eq_true c64
         clear c64
         obtain ⟨c65, H⟩ := Z.ifp H
         have c65b0 : decide (a2_0 < (l0_2.length : Int)) = true := decide_eq_true c65
         clear c65
         by_cases c66 : x8_3 < ((rd_L9 l0_2 a2_0).length : Int)
         ·rw [if_pos c66] at H
          have c66b0 := decide_eq_true c66
          clear c66
          obtain ⟨c67, H⟩ := Z.ifp H
          have c67b0 : decide (0 ≤ x8_3) = true := decide_eq_true c67
          clear c67
          by_cases c68 : ((rd_T86 (rd_L9 l0_2 a2_0) x8_3).f1) = a1_0
          ·rw [if_pos c68] at H
           have c68b0 : (((rd_T86 (rd_L9 l0_2 a2_0) x8_3).f1) == a1_0) = true := beq_iff_eq.mpr c68
           have c68b1 : (((rd_T86 (rd_L9 l0_2 a2_0) x8_3).f1) != a1_0) = false := bne_eq_false_iff_eq.mpr c68
           clear c68
           obtain rfl := Option.some.inj H
           have hnb69 := NB635_636.out
           have hnc69 := NB636_635.out
           have hnb70 := NB635_637.out
           have hnc70 := NB637_635.out
           have hcz71 := Z.c3 BK635.out
           have hnb72 := NB637_636.out
           have hnc72 := NB636_637.out
           have hcz73 := Z.c3 BK637.out
           have p644 : 0 ≤ (a2_0 : Int) := Z.od
           have q644 : a2_0 < (l0_2.length : Int) := Z.od
           obtain ⟨ad644, A644_0, c644_0, e644, hx644_0, hl644_0, hi644_0⟩ := at_L9 HR0_2.out a2_0 p644 q644
           obtain rfl : ad641 = ad644 := (by injection e644)
           replace hx644_0 := Z.up HB.out hx644_0
           have HR644_0 := Aside0.mk hi644_0
           have HC644_0 := Aside0.mk hl644_0
           clear hi644_0 hl644_0
           replace p644 := eq_true p644
           replace q644 := eq_true q644
           have p645 : 0 ≤ (a2_0 : Int) := Z.od
           have q645 : a2_0 < (l0_2.length : Int) := Z.od
           obtain ⟨ad645, A645_0, c645_0, e645, hx645_0, hl645_0, hi645_0⟩ := at_L9 HR0_2.out a2_0 p645 q645
           obtain rfl : ad641 = ad645 := (by injection e645)
           replace hx645_0 := Z.up HB.out hx645_0
           have HR645_0 := Aside0.mk hi645_0
           have HC645_0 := Aside0.mk hl645_0
           clear hi645_0 hl645_0
           replace p645 := eq_true p645
           replace q645 := eq_true q645
           have ea_ := Option.some.inj (hx644_0.symm.trans hx645_0)
           injection ea_ with ea_ en_ ec_
           subst ea_
           subst ec_
           clear en_
           have p646 : 0 ≤ (x8_3 : Int) := Z.od
           have q646 : x8_3 < ((rd_L9 l0_2 a2_0).length : Int) := Z.od
           obtain ⟨ad646, A646_0, c646_0, rfl, hx646_0, hx646_1, hx646_2, hl646_0, hi646_0⟩ := at_T86 HR645_0.out x8_3 p646 q646
           replace hx646_0 := Z.up HB.out hx646_0
           replace hx646_1 := Z.up HB.out hx646_1
           replace hx646_2 := Z.up HB.out hx646_2
           have HR646_0 := Aside0.mk hi646_0
           have HC646_0 := Aside0.mk hl646_0
           clear hi646_0 hl646_0
           replace p646 := eq_true p646
           replace q646 := eq_true q646
           have hcz74 := Z.c3 BK636.out
           go_wp2
           repeat (go_quiet (fail); try go_wp2)
           go_ret
           exact ⟨by first | rfl | (simp [errW_none, errW_some] <;> rfl) | (simp [*, errW_none, errW_some] <;> rfl), by repeat (first | (with_reducible first | exact HB.out | apply below_alloc | apply pw_below_drewN | apply below_drew1 | refine below_set ?_ GE635.out | refine below_set ?_ GE636.out | refine below_set ?_ GE637.out) | exact HB.out)⟩
          ·rw [if_neg c68] at H
           have c68b0 : (((rd_T86 (rd_L9 l0_2 a2_0) x8_3).f1) == a1_0) = false := beq_eq_false_iff_ne.mpr c68
           have c68b1 : (((rd_T86 (rd_L9 l0_2 a2_0) x8_3).f1) != a1_0) = true := bne_iff_ne.mpr c68
           have H' := Aside0.mk H
           clear H
           have hnb75 := NB635_636.out
           have hnc75 := NB636_635.out
           have hnb76 := NB635_637.out
           have hnc76 := NB637_635.out
           have hcz77 := Z.c3 BK635.out
           have hnb78 := NB637_636.out
           have hnc78 := NB636_637.out
           have hcz79 := Z.c3 BK637.out
           have p644 : 0 ≤ (a2_0 : Int) := Z.od
           have q644 : a2_0 < (l0_2.length : Int) := Z.od
           obtain ⟨ad644, A644_0, c644_0, e644, hx644_0, hl644_0, hi644_0⟩ := at_L9 HR0_2.out a2_0 p644 q644
           obtain rfl : ad641 = ad644 := (by injection e644)
           replace hx644_0 := Z.up HB.out hx644_0
           have HR644_0 := Aside0.mk hi644_0
           have HC644_0 := Aside0.mk hl644_0
           clear hi644_0 hl644_0
           replace p644 := eq_true p644
           replace q644 := eq_true q644
           have p645 : 0 ≤ (a2_0 : Int) := Z.od
           have q645 : a2_0 < (l0_2.length : Int) := Z.od
           obtain ⟨ad645, A645_0, c645_0, e645, hx645_0, hl645_0, hi645_0⟩ := at_L9 HR0_2.out a2_0 p645 q645
           obtain rfl : ad641 = ad645 := (by injection e645)
           replace hx645_0 := Z.up HB.out hx645_0
           have HR645_0 := Aside0.mk hi645_0
           have HC645_0 := Aside0.mk hl645_0
           clear hi645_0 hl645_0
           replace p645 := eq_true p645
           replace q645 := eq_true q645
           have ea_ := Option.some.inj (hx644_0.symm.trans hx645_0)
           injection ea_ with ea_ en_ ec_
           subst ea_
           subst ec_
           clear en_
           have p646 : 0 ≤ (x8_3 : Int) := Z.od
           have q646 : x8_3 < ((rd_L9 l0_2 a2_0).length : Int) := Z.od
           obtain ⟨ad646, A646_0, c646_0, rfl, hx646_0, hx646_1, hx646_2, hl646_0, hi646_0⟩ := at_T86 HR645_0.out x8_3 p646 q646
           replace hx646_0 := Z.up HB.out hx646_0
           replace hx646_1 := Z.up HB.out hx646_1
           replace hx646_2 := Z.up HB.out hx646_2
           have HR646_0 := Aside0.mk hi646_0
           have HC646_0 := Aside0.mk hl646_0
           clear hi646_0 hl646_0
           replace p646 := eq_true p646
           replace q646 := eq_true q646
           have hcz80 := Z.c3 BK636.out
           go_wp2
           repeat (go_quiet (fail); try go_wp2)
           go_roundg k3
           case measure => have := HJ3.out; have := HK2.out; have := HK3.out; omega
           case rel => exact ⟨(wrap64 (x8_3 + 1)), (by first | rfl | (simp; done) | (simp [*]; done)), H', ⟨by have := HJ3.out; have := HK2.out; have := HK3.out; omega⟩, ⟨by (with_reducible repeat (first | refine blk_drewN ?_ _ | refine blk_drew ?_ | refine blk_alloc ?_ _)); exact BK635.out⟩, ⟨by (with_reducible repeat (first | refine blk_drewN ?_ _ | refine blk_drew ?_ | refine blk_alloc ?_ _)); exact BK636.out⟩, ⟨by (with_reducible repeat (first | refine blk_drewN ?_ _ | refine blk_drew ?_ | refine blk_alloc ?_ _)); exact BK637.out⟩, ⟨by repeat (first | (with_reducible first | exact HB.out | apply below_alloc | apply pw_below_drewN | apply below_drew1 | refine below_set ?_ GE635.out | refine below_set ?_ GE636.out | refine below_set ?_ GE637.out) | exact HB.out)⟩⟩
         ·rw [if_neg c66] at H
          have c66b0 := decide_eq_false c66
          clear c66
          obtain rfl := Option.some.inj H
          have hnb81 := NB635_636.out
          have hnc81 := NB636_635.out
          have hnb82 := NB635_637.out
          have hnc82 := NB637_635.out
          have hcz83 := Z.c3 BK635.out
          have hnb84 := NB637_636.out
          have hnc84 := NB636_637.out
          have hcz85 := Z.c3 BK637.out
          have p644 : 0 ≤ (a2_0 : Int) := Z.od
          have q644 : a2_0 < (l0_2.length : Int) := Z.od
          obtain ⟨ad644, A644_0, c644_0, e644, hx644_0, hl644_0, hi644_0⟩ := at_L9 HR0_2.out a2_0 p644 q644
          obtain rfl : ad641 = ad644 := (by injection e644)
          replace hx644_0 := Z.up HB.out hx644_0
          have HR644_0 := Aside0.mk hi644_0
          have HC644_0 := Aside0.mk hl644_0
          clear hi644_0 hl644_0
          replace p644 := eq_true p644
          replace q644 := eq_true q644
          go_wp2
          repeat (go_quiet (fail); try go_wp2)
          go_ret
          exact ⟨by first | rfl | (simp [errW_none, errW_some] <;> rfl) | (simp [*, errW_none, errW_some] <;> rfl), by repeat (first | (with_reducible first | exact HB.out | apply below_alloc | apply pw_below_drewN | apply below_drew1 | refine below_set ?_ GE635.out | refine below_set ?_ GE636.out | refine below_set ?_ GE637.out) | exact HB.out)⟩
end Go.Proofs.Ytcafckapdgaogaa.PAll
