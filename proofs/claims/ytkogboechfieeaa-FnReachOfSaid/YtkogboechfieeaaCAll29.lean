/- Walks of functions that laws of this seat reach, in the form of the print. -/
import Derived.Test.YtkogboechfieeaaCAll0
import Derived.Test.YtkogboechfieeaaCAll1
import Derived.Test.YtkogboechfieeaaCAll27
import Derived.Test.YtkogboechfieeaaCAll28
import Derived.Test.YtkogboechfieeaaCAll3
import Derived.Test.YtkogboechfieeaaCAll6
import Derived.Test.YtkogboechfieeaaZ
-- PRINTED
namespace Go.Proofs.Ytkogboechfieeaa.PAll
open Go.RowKit Go.Proofs.YtkogboechfieeaaW.PrintWords Go.Proofs.YtkogboechfieeaaW.PrintLast Go.Proofs.YtkogboechfieeaaW.PrintMore
attribute [local go_sem] max2_int min2_int max_two min_two max_three min_three max_four min_four
set_option linter.unusedVariables false
set_option linter.unusedSimpArgs false

/-! ### spec_ReachOf: function 37 -/
mutual
def spec_ReachOf.j0 : Nat → List Int → Int → List Int → Bool → Int → List Int → List (List (S37)) → Option (List Int)
 | 0, _, _, _, _, _, _, _ => none
 | k + 1, x1, x2, x7, x22, x943000, x943001, x943002 => if x22 = true then (some x7) else ((spec_l8Code.f k x1).bind fun t948 => ((spec_l8Reach.f k x943000 x943001 x943002 t948 x2).bind fun t949 => (spec_ReachOf.l0 k x7 t949 0)))
def spec_ReachOf.l0 : Nat → List Int → List Int → Int → Option (List Int)
 | 0, _, _, _ => none
 | k + 1, x7, x8, x9 => if x9 < (x8.length : Int) then (if 0 ≤ x9 then (if (rd x8 x9) ≥ 0 then (if x7.length < 17592186044416 then (spec_ReachOf.l0 k (x7 ++ [x9]) x8 (wrap64 (x9 + 1))) else (none)) else (spec_ReachOf.l0 k x7 x8 (wrap64 (x9 + 1)))) else (none)) else (some x7)
end
def spec_ReachOf.f (k : Nat) (a0_0 : Int) (l0_1 : List Int) (l0_2 : List (List (S37))) (l1 : List Int) (a2 : Int) : Option (List Int) := (some (([] : List Int) : List Int)).bind fun y943 => ((spec_StateOk.f k a0_0 l0_1 l0_2 l1).bind fun t946 => (if t946 = true then ((spec_CrowdOk.f a0_0 a2).bind fun t947 => (spec_ReachOf.j0 k l1 a2 y943 (!t947) a0_0 l0_1 l0_2)) else (spec_ReachOf.j0 k l1 a2 y943 true a0_0 l0_1 l0_2)))
set_option maxHeartbeats 8000000 in
set_option maxRecDepth 100000 in
theorem spec_ReachOf.calls (k : Nat) (a0_0 : Int) (A0_1 : Option Addr) (c0_1 : Nat) (l0_1 : List Int) (A0_2 : Option Addr) (c0_2 : Nat) (l0_2 : List (List (S37))) (A1 : Option Addr) (c1 : Nat) (l1 : List Int) (a2 : Int) (r : List Int) (w : World) (hr0_1 : Kd.C (Kd.int .i64) w A0_1 l0_1.length l0_1) (hc0_1 : l0_1.length ≤ c0_1) (hr0_2 : Kd.C (Kd.slice 37 k37) w A0_2 l0_2.length l0_2) (hc0_2 : l0_2.length ≤ c0_2) (hr1 : Kd.C (Kd.int .i64) w A1 l1.length l1) (hc1 : l1.length ≤ c1) (h : spec_ReachOf.f k a0_0 l0_1 l0_2 l1 a2 = some r) :
  Calls Try.prog 37 #[.agg #[.int .i64 a0_0, .slice A0_1 l0_1.length c0_1, .slice A0_2 l0_2.length c0_2], .slice A1 l1.length c1, .int .i64 a2] w fun e w' => ∃ v0_ : Value, e = .returned (v0_) ∧ Kd.R (Kd.int .i64) 3 w' w.heap.size (fun _ => True) v0_ r ∧ Below w.heap.size w w' := by
 have hu35 := Try.underlying28
 have HR0_1 := Z.k hr0_1
 have HC0_1 := Z.k hc0_1
 clear hr0_1 hc0_1
 have HR0_2 := Z.k hr0_2
 have HC0_2 := Z.k hc0_2
 clear hr0_2 hc0_2
 have HR1 := Z.k hr1
 have HC1 := Z.k hc1
 clear hr1 hc1
 have HB := Z.k (Below.refl w.heap.size w)
 have H := h
 clear h
 unfold spec_ReachOf.f at H
 obtain ⟨y943, hy943⟩ : ∃ y_ : List Int, y_ = (([] : List Int)) := ⟨_, rfl⟩
 replace H : ((spec_StateOk.f k a0_0 l0_1 l0_2 l1).bind fun t946 => (if t946 = true then ((spec_CrowdOk.f a0_0 a2).bind fun t947 => (spec_ReachOf.j0 k l1 a2 y943 (!t947) a0_0 l0_1 l0_2)) else (spec_ReachOf.j0 k l1 a2 y943 true a0_0 l0_1 l0_2))) = some r := by (have H2_ := (Option.bind_some _ _).symm.trans H; rw [hy943]; with_reducible exact H2_)
 have Ny943 := Z.k hy943
 clear hy943
 have HC4 := Z.k H
 clear H
 go_enter Try.func37, Try.ntmps37
 go_upto_region 2 with (first | ((with_reducible refine gate_dst (N := 3) rfl ?_); refine Z.bx #[.int .i64 a0_0, .slice A0_1 l0_1.length c0_1, .slice A0_2 l0_2.length c0_2] 28 HB ?_; clear HB; intro gb942 w5 BK942 GE942 HB hg hb; have GW942 := GE942; clear hb hg) | ((with_reducible refine gate_dst (N := 10) rfl ?_); refine Kd.R_lit (Kd.int .i64) _ 3 ?hg (N := 10) ?hd (xs := ([] : List Int)) (inner := []) (ok := fun _ => True) (okp := fun _ => True) ?hr ?hp (fun _ hk => hk) trivial (Below.refl _ _) (Nat.le_refl _) (by simp) ?_; (case hd | hg => rfl); (case hr => (go_simp; done)); (case hp => exact (Reps.none _ _)); intro v944 w6 ho7 hb hg_ hnew_; clear hg_ hnew_; (rw [← Ny943.out] at ho7); have HO945 := Z.k (Kd.R_lower ho7 (below_size (Z.bs HB.out GE942.out))); replace BK942 := Z.bb BK942 hb; replace HB := Z.st (Z.bs HB.out GE942.out) hb; clear hb ho7))
 go_cut [22] (fun v22 wc => ∃ (kq : Nat) (x22_3 : Bool), v22 = .bool x22_3 ∧ Aside0 (spec_ReachOf.j0 kq l1 a2 y943 x22_3 a0_0 l0_1 l0_2 = some r) ∧ Aside0 (kq ≤ k) ∧ Aside0 (Kd.R (Kd.int .i64) 3 wc w.heap.size (fun _ => True) v944 y943) ∧ Aside0 (wc.heap[gb942]? = some (.cells #[.int .i64 a0_0, (.slice A0_1 l0_1.length c0_1), (.slice A0_2 l0_2.length c0_2)] 28 (0, 0))) ∧ Aside0 (Below w.heap.size w wc))
 case first =>
  have H := HC4.out
  clear HC4
  replace H := Option.bind_eq_some_iff.mp H
  obtain ⟨t946, A80, H⟩ := H
  have A8 := Z.k A80
  clear A80
  by_cases c9 : t946 = true
  ·subst c9
   rw [if_pos rfl] at H
   replace H := Option.bind_eq_some_iff.mp H
   obtain ⟨t947, A100, H⟩ := H
   have A10 := Z.k A100
   clear A100
   have H' := Z.k H
   clear H
   have hcz11 := Z.c3 BK942.out
   go_wp2_with (first | ((with_reducible refine gate_callee (f := 16) rfl ?_); refine goesL_ (some 13) rfl rfl Try.func16 (by kernel_rfl) rfl #[.agg #[.int .i64 a0_0, .slice A0_1 l0_1.length c0_1, .slice A0_2 l0_2.length c0_2], .slice A1 l1.length c1] rfl Z.ar ?_; (with_reducible refine (spec_StateOk.calls k a0_0 _ _ l0_1 _ _ l0_2 _ _ l1 true _ ?q1 ?q2 ?q3 ?q4 ?q5 ?q6 A8.out).mono ?_); (case q1 => exact Z.cc HR0_1 HB); (case q2 => exact HC0_1.out); (case q3 => exact Z.cc HR0_2 HB); (case q4 => exact HC0_2.out); (case q5 => exact Z.cc HR1 HB); (case q6 => exact HC1.out); rintro e w12 ⟨rfl, hb⟩; refine ⟨_, rfl, ?_⟩; replace HO945 := Z.k (Kd.R_below (by (with_reducible skip); exact HO945.out) hb); replace BK942 := Z.bb BK942 hb; replace HB := Z.st (Z.bs HB.out GE942.out) hb; (try clear hb); have hcz13 := Z.c3 BK942.out) | (go_at_call 17; (with_reducible refine (spec_CrowdOk.calls a0_0 a2 t947 _ A10.out).mono ?_); rintro e w' ⟨rfl, ⟨nd, rfl⟩⟩))
   go_meet
   case rel => exact ⟨_, (!t947), (by rfl), H', ⟨by omega⟩, ⟨by (with_reducible repeat (apply Kd.R_drewN)); exact HO945.out⟩, ⟨by (with_reducible repeat (refine blk_drewN ?_ _)); exact BK942.out⟩, ⟨Z.bs HB.out GE942.out⟩⟩
  ·replace c9 := Bool.eq_false_iff.mpr c9
   subst c9
   rw [if_neg (show ¬ (false = true) by decide)] at H
   have H' := Z.k H
   clear H
   have hcz14 := Z.c3 BK942.out
   go_wp2_with (((with_reducible refine gate_callee (f := 16) rfl ?_); refine goesL_ (some 13) rfl rfl Try.func16 (by kernel_rfl) rfl #[.agg #[.int .i64 a0_0, .slice A0_1 l0_1.length c0_1, .slice A0_2 l0_2.length c0_2], .slice A1 l1.length c1] rfl Z.ar ?_; (with_reducible refine (spec_StateOk.calls k a0_0 _ _ l0_1 _ _ l0_2 _ _ l1 false _ ?q1 ?q2 ?q3 ?q4 ?q5 ?q6 A8.out).mono ?_); (case q1 => exact Z.cc HR0_1 HB); (case q2 => exact HC0_1.out); (case q3 => exact Z.cc HR0_2 HB); (case q4 => exact HC0_2.out); (case q5 => exact Z.cc HR1 HB); (case q6 => exact HC1.out); rintro e w15 ⟨rfl, hb⟩; refine ⟨_, rfl, ?_⟩; replace HO945 := Z.k (Kd.R_below (by (with_reducible skip); exact HO945.out) hb); replace BK942 := Z.bb BK942 hb; replace HB := Z.st (Z.bs HB.out GE942.out) hb; (try clear hb)))
   go_meet
   case rel => exact ⟨_, (true), (by rfl), H', ⟨by omega⟩, ⟨by (with_reducible skip); exact HO945.out⟩, ⟨by (with_reducible skip); exact BK942.out⟩, ⟨Z.bs HB.out GE942.out⟩⟩
 case rest =>
  clear HC4
  obtain ⟨kq, x22_3, rfl, HA, HJ3, HO_7, BK942, HB⟩ := hcut
  cases kq with
  | zero => exact absurd HA.out (by simp [spec_ReachOf.j0])
  | succ kj3 =>
   have H := HA.out
   clear HA
   simp only [spec_ReachOf.j0] at H
   by_cases c16 : x22_3 = true
   ·subst c16
    rw [if_pos rfl] at H
    obtain rfl := Option.some.inj H
    go_wp2
    go_ret
    exact ⟨_, by rfl, by (with_reducible skip); exact HO_7.out, Z.bs HB.out GE942.out⟩
   ·replace c16 := Bool.eq_false_iff.mpr c16
    subst c16
    rw [if_neg (show ¬ (false = true) by decide)] at H
    replace H := Option.bind_eq_some_iff.mp H
    obtain ⟨t948, A170, H⟩ := H
    have A17 := Z.k A170
    clear A170
    replace H := Option.bind_eq_some_iff.mp H
    obtain ⟨t949, A180, H⟩ := H
    have A18 := Z.k A180
    clear A180
    have H' := Z.k H
    clear H
    try go_wp2
    replace HO_7 := Z.k (Kd.R_drew HO_7.out)
    replace BK942 := Z.k (blk_drew BK942.out)
    replace HB := Z.k (below_drew1 HB.out)
    refine start_ (n := 6) (S := fun w' => w'.cell? ⟨gb942, 0, none⟩ = some (.int .i64 a0_0) ∧ w'.cell? ⟨gb942, 1, none⟩ = some (.slice A0_1 l0_1.length c0_1) ∧ w'.cell? ⟨gb942, 2, none⟩ = some (.slice A0_2 l0_2.length c0_2)) (ds := []) #[false, false, false, false, false, false] (by kernel_rfl) rfl rfl ⟨(blk_cell BK942.out 0).trans rfl, (blk_cell BK942.out 1).trans rfl, (blk_cell BK942.out 2).trans rfl⟩ (fun hHeld => ?_)
    generalize wc.drew = w19 at HO_7 BK942 HB hHeld ⊢
    refine pure_ (i := 1) (N := some 25) (v := ?_) (a' := ?_) #[false, true, false, false, false, false] rfl rfl (by kernel_rfl) (fun _ _ _ h => h) (Or.inl ⟨by rfl, ?_⟩) ?_ ?_
    rotate_left
    ·intro w'
     go_simp
     with_reducible rfl
    rotate_left
    ·simp only [Act.put, List.setIfInBounds_toArray, List.set_cons_zero, List.set_cons_succ, i64_w, i32_w]
     rfl
    refine pure_ (i := 3) (N := some 27) (v := ?_) (a' := ?_) #[false, true, false, true, false, false] rfl rfl (by kernel_rfl) (fun _ _ _ h => h) (Or.inl ⟨by rfl, ?_⟩) ?_ ?_
    rotate_left
    ·intro w'
     go_simp
     with_reducible rfl
    rotate_left
    ·simp only [Act.put, List.setIfInBounds_toArray, List.set_cons_zero, List.set_cons_succ, i64_w, i32_w]
     rfl
    refine take_ (i := 0) (N := some 24) (v := ?_) (a' := ?_) #[true, true, false, true, false, false] rfl rfl (by kernel_rfl) (fun _ _ _ h => h) (Or.inl ⟨by rfl, ?_⟩) hHeld ?_ ?_
    rotate_left
    ·rintro w' ⟨s0, s1, s2⟩
     go_simp
     with_reducible rfl
    rotate_left
    ·simp only [Act.put, List.setIfInBounds_toArray, List.set_cons_zero, List.set_cons_succ, i64_w, i32_w]
     rfl
    refine one_ (i := 2) (N := some 26) (Z.mb 6 15) rfl rfl (by kernel_rfl) (by decide) (fun K hK => ?_)
    refine goes_ Try.func80 (by kernel_rfl) rfl #[.slice A1 l1.length c1] (by rfl) rfl rfl Z.ar ?_
    with_reducible refine (spec_l8Code.calls kj3 _ _ l1 t948 _ ?q1 ?q2 A17.out).mono ?_
    (case q1 => exact Z.cc HR1 HB)
    (case q2 => exact HC1.out)
    rintro e w' ⟨rfl, ⟨nd, rfl⟩⟩
    refine ⟨_, rfl, ?_⟩
    refine hK.out _ _ ⟨(blk_cell BK942.out 0).trans rfl, (blk_cell BK942.out 1).trans rfl, (blk_cell BK942.out 2).trans rfl⟩ (fun hHeld => ?_)
    clear hK K
    refine Z.nm ?_
    refine one_ (i := 4) (N := some 28) (Z.mb 6 31) rfl rfl (by kernel_rfl) (by decide) (fun K hK => ?_)
    refine goes_ Try.func79 (by kernel_rfl) rfl #[.agg #[.int .i64 a0_0, .slice A0_1 l0_1.length c0_1, .slice A0_2 l0_2.length c0_2], .int .i64 t948, .int .i64 a2] (by rfl) rfl rfl Z.ar ?_
    with_reducible refine (spec_l8Reach.calls kj3 a0_0 _ _ l0_1 _ _ l0_2 t948 a2 t949 _ ?q1 ?q2 ?q3 ?q4 A18.out).mono ?_
    (case q1 => repeat (exact (Kd.C_below HR0_1.out (Z.bs HB.out GE942.out))))
    (case q2 => exact HC0_1.out)
    (case q3 => repeat (exact (Kd.C_below HR0_2.out (Z.bs HB.out GE942.out))))
    (case q4 => exact HC0_2.out)
    rintro e w20 ⟨v950, rfl, ho0, hb⟩
    refine ⟨_, rfl, ?_⟩
    have HO951 := Z.k (Kd.R_lower (Kd.R_new' ho0 (Kd.R_lt (by (with_reducible repeat (apply Kd.R_drewN)); exact HO_7.out))) (below_size (Z.bs HB.out GE942.out)))
    replace HO_7 := Z.k (Kd.R_elder' (by (with_reducible repeat (apply Kd.R_drewN)); exact HO_7.out) (Kd.R_base ho0) hb)
    replace BK942 := Z.bb BK942 hb
    replace HB := Z.st (Z.bs HB.out GE942.out) hb
    (try clear hb)
    (try clear ho0)
    refine hK.out _ _ ⟨(blk_cell BK942.out 0).trans rfl, (blk_cell BK942.out 1).trans rfl, (blk_cell BK942.out 2).trans rfl⟩ (fun hHeld => ?_)
    clear hK K
    refine Z.nm ?_
    refine pure_ (i := 5) (N := some 8) (v := ?_) (a' := ?_) #[true, true, true, true, true, true] rfl rfl (by kernel_rfl) (fun _ _ _ h => h) (Or.inl ⟨by rfl, ?_⟩) ?_ ?_
    rotate_left
    ·intro w'
     go_simp
     with_reducible rfl
    rotate_left
    ·simp only [Act.put, List.setIfInBounds_toArray, List.set_cons_zero, List.set_cons_succ, i64_w, i32_w]
     rfl
    refine done_ (by kernel_rfl) ?_
    try go_wp2
    go_loopg [7, 9] kj3 (fun kq v7 v9 w' => ∃ (x7_2 : List Int) (x9_2 : Int), v9 = .int .i64 x9_2 ∧ Aside0 (spec_ReachOf.l0 kq x7_2 t949 x9_2 = some r) ∧ Aside0 (kq ≤ kj3) ∧ Aside0 (Kd.R (Kd.int .i64) 3 w' w.heap.size (fun k_ => some k_ ≠ (v950 : Value).ownBlock) v7 x7_2) ∧ Aside0 (Kd.R (Kd.int .i64) 3 w' w.heap.size (fun k_ => some k_ ≠ (v7 : Value).ownBlock) v950 t949) ∧ Aside0 (w'.heap[gb942]? = some (.cells #[.int .i64 a0_0, (.slice A0_1 l0_1.length c0_1), (.slice A0_2 l0_2.length c0_2)] 28 (0, 0))) ∧ Aside0 (Below w.heap.size w w'))
    case atStart => exact ⟨(y943), (0), (by rfl), H', ⟨Nat.le_refl _⟩, ⟨by (with_reducible skip); exact Kd.R_mono HO_7.out (fun _ hk => hk.2)⟩, ⟨by (with_reducible skip); exact Kd.R_mono HO951.out (fun _ hk => hk.2)⟩, ⟨by (with_reducible skip); exact BK942.out⟩, ⟨Z.bs HB.out GE942.out⟩⟩
    case round =>
     clear H'
     obtain ⟨x7_2, x9_2, rfl, HA, HK2, HO_7, HO_8, BK942, HB⟩ := hrel
     cases gk with
     | zero => exact absurd HA.out (by simp [spec_ReachOf.l0])
     | succ k2 =>
      have H := HA.out
      clear HA
      simp only [spec_ReachOf.l0] at H
      by_cases c21 : x9_2 < (t949.length : Int)
      ·rw [if_pos c21] at H
       have c21b0 := decide_eq_true c21
       clear c21
       obtain ⟨c22, H⟩ := Z.ifp H
       have c22b0 : decide (0 ≤ x9_2) = true := decide_eq_true c22
       clear c22
       by_cases c23 : (rd t949 x9_2) ≥ 0
       ·rw [if_pos c23] at H
        have c23b0 : decide (0 ≤ (rd t949 x9_2)) = true := decide_eq_true c23
        clear c23
        obtain ⟨c24, H⟩ := Z.ifp H
        have LMc24 := Z.k c24
        clear c24
        obtain ⟨y953, hy953⟩ : ∃ y_ : List Int, y_ = (x7_2 ++ [x9_2]) := ⟨_, rfl⟩
        replace H : (spec_ReachOf.l0 k2 y953 t949 (wrap64 (x9_2 + 1))) = some r := by (rw [hy953]; with_reducible exact H)
        have Ny953 := Z.k hy953
        clear hy953
        have H' := Z.k H
        clear H
        obtain ⟨Ao25, co25, eo25⟩ := Kd.R_slice HO_8.out
        subst eo25
        have p952 : 0 ≤ (x9_2 : Int) := Z.od
        have q952 : x9_2 < (t949.length : Int) := Z.od
        obtain ⟨ad952, e952, hx952_0⟩ := Kd.at_int (Kd.R_reads' HO_8.out).2.2 x9_2 p952 q952
        cases e952
        replace p952 := eq_true p952
        replace q952 := eq_true q952
        go_wp2_with (((with_reducible refine gate_builtin (b := .append) (xs := #[.tmp 40, .tmp 42]) rfl ?_); at_builtin; refine Kd.R_append (Kd.int .i64) (w0 := w) w.heap.size rfl (.tmp 40) (.tmp 42) 23 3 (.int .i64 0) 8 rfl Try.underlying23 info3 rfl (by decide) (by omega) u7 x7_2 x9_2 [.int .i64 x9_2] (fun k_ => some k_ ≠ (.slice (some ad952) t949.length co25 : Value).ownBlock) (fun _ => False) rfl rfl ?aP (fun _ hk => hk.elim) ?aF ?aO ?aB ?aS ?aL ?_; (case aP => exact rfl); (case aB => exact (Z.bs HB.out GE942.out)); (case aF => exact (fun k_ hk => Kd.fresh' (Kd.R_lt (by (with_reducible skip); exact HO_8.out)) k_ hk)); (case aO => exact (by (with_reducible skip); exact HO_7.out)); (case aS => exact (below_size (Z.bs HB.out GE942.out))); (case aL => have := LMc24.out; omega); intro v954 w26 ho hb hg hat; rw [← Ny953.out] at ho; replace HO_8 := Z.k (Kd.R_after (ok := (fun _ => True)) (by (with_reducible skip); exact Kd.R_mono HO_8.out (fun _ hk => ⟨trivial, hk⟩)) hg hat); replace BK942 := Z.k (blk_grown (g := gb942) (o := .cells #[.int .i64 a0_0, .slice A0_1 l0_1.length c0_1, .slice A0_2 l0_2.length c0_2] 28 (0, 0)) (Z.bk BK942.out) hg (Kd.R_ne HO_7.out BK942.out (by decide))); replace HB := Z.k (hb); have HO955 := Z.k (ho); clear HO_7; clear ho hb hg hat))
        go_roundg k2
        case measure => have := HJ3.out; have := HK2.out; omega
        case rel => exact ⟨(y953), (wrap64 (x9_2 + 1)), (by rfl), H', ⟨by have := HJ3.out; have := HK2.out; omega⟩, ⟨by (with_reducible skip); exact HO955.out⟩, ⟨by (with_reducible skip); exact Kd.R_mono HO_8.out (fun _ hk => hk.2)⟩, ⟨by (with_reducible skip); exact BK942.out⟩, ⟨Z.bs HB.out GE942.out⟩⟩
       ·rw [if_neg c23] at H
        have c23b0 : decide (0 ≤ (rd t949 x9_2)) = false := decide_eq_false c23
        clear c23
        have H' := Z.k H
        clear H
        obtain ⟨Ao27, co27, eo27⟩ := Kd.R_slice HO_8.out
        subst eo27
        have p952 : 0 ≤ (x9_2 : Int) := Z.od
        have q952 : x9_2 < (t949.length : Int) := Z.od
        obtain ⟨ad952, e952, hx952_0⟩ := Kd.at_int (Kd.R_reads' HO_8.out).2.2 x9_2 p952 q952
        cases e952
        replace p952 := eq_true p952
        replace q952 := eq_true q952
        go_wp2
        go_roundg k2
        case measure => have := HJ3.out; have := HK2.out; omega
        case rel => exact ⟨(x7_2), (wrap64 (x9_2 + 1)), (by rfl), H', ⟨by have := HJ3.out; have := HK2.out; omega⟩, ⟨by (with_reducible skip); exact HO_7.out⟩, ⟨by (with_reducible skip); exact HO_8.out⟩, ⟨by (with_reducible skip); exact BK942.out⟩, ⟨Z.bs HB.out GE942.out⟩⟩
      ·rw [if_neg c21] at H
       have c21b0 := decide_eq_false c21
       clear c21
       obtain rfl := Option.some.inj H
       obtain ⟨Ao28, co28, eo28⟩ := Kd.R_slice HO_8.out
       subst eo28
       go_wp2
       go_ret
       exact ⟨_, by rfl, by (with_reducible skip); exact Kd.R_mono HO_7.out (fun _ hk => trivial), Z.bs HB.out GE942.out⟩

/-! ### laws_stateOf: function 38 -/
def laws_stateOf.l0 : Nat → Int → List Int → Int → Int → List Int → List (List (S37)) → Option (List Int)
 | 0, _, _, _, _, _, _ => none
 | k + 1, x1, x5, x6, x955000, x955001, x955002 => if x6 < (x955002.length : Int) then (if x5.length < 17592186044416 then (laws_stateOf.l0 k (wrap64 (Int.tdiv x1 3)) (x5 ++ [Int.tmod x1 3]) (wrap64 (x6 + 1)) x955000 x955001 x955002) else (none)) else (some x5)
def laws_stateOf.f (k : Nat) (a0_0 : Int) (l0_1 : List Int) (l0_2 : List (List (S37))) (a1 : Int) : Option (List Int) := laws_stateOf.l0 k a1 (([] : List Int)) 0 a0_0 l0_1 l0_2
set_option maxHeartbeats 8000000 in
set_option maxRecDepth 100000 in
theorem laws_stateOf.calls (k : Nat) (a0_0 : Int) (A0_1 : Option Addr) (c0_1 : Nat) (l0_1 : List Int) (A0_2 : Option Addr) (c0_2 : Nat) (l0_2 : List (List (S37))) (a1 : Int) (r : List Int) (w : World) (hr0_1 : Kd.C (Kd.int .i64) w A0_1 l0_1.length l0_1) (hc0_1 : l0_1.length ≤ c0_1) (hr0_2 : Kd.C (Kd.slice 37 k37) w A0_2 l0_2.length l0_2) (hc0_2 : l0_2.length ≤ c0_2) (h : laws_stateOf.f k a0_0 l0_1 l0_2 a1 = some r) :
  Calls Try.prog 38 #[.agg #[.int .i64 a0_0, .slice A0_1 l0_1.length c0_1, .slice A0_2 l0_2.length c0_2], .int .i64 a1] w fun e w' => ∃ v0_ : Value, e = .returned (v0_) ∧ Kd.R (Kd.int .i64) 3 w' w.heap.size (fun _ => True) v0_ r ∧ Below w.heap.size w w' := by
 have hu28 := Try.underlying28
 have HR0_1 := Z.k hr0_1
 have HC0_1 := Z.k hc0_1
 clear hr0_1 hc0_1
 have HR0_2 := Z.k hr0_2
 have HC0_2 := Z.k hc0_2
 clear hr0_2 hc0_2
 have HB := Z.k (Below.refl w.heap.size w)
 have H := h
 clear h
 unfold laws_stateOf.f at H
 obtain ⟨y955, hy955⟩ : ∃ y_ : List Int, y_ = (([] : List Int)) := ⟨_, rfl⟩
 replace H : (laws_stateOf.l0 k a1 y955 0 a0_0 l0_1 l0_2) = some r := by (rw [hy955]; with_reducible exact H)
 have Ny955 := Z.k hy955
 clear hy955
 have H' := Z.k H
 clear H
 go_enter Try.func38, Try.ntmps38
 go_wp2_with (first | ((with_reducible refine gate_dst (N := 2) rfl ?_); refine Z.bx #[.int .i64 a0_0, .slice A0_1 l0_1.length c0_1, .slice A0_2 l0_2.length c0_2] 28 HB ?_; clear HB; intro gb954 w3 BK954 GE954 HB hg hb; have GW954 := GE954; clear hb hg) | ((with_reducible refine gate_dst (N := 7) rfl ?_); refine Kd.R_lit (Kd.int .i64) _ 3 ?hg (N := 7) ?hd (xs := ([] : List Int)) (inner := []) (ok := fun _ => True) (okp := fun _ => True) ?hr ?hp (fun _ hk => hk) trivial (Below.refl _ _) (Nat.le_refl _) (by simp) ?_; (case hd | hg => rfl); (case hr => (go_simp; done)); (case hp => exact (Reps.none _ _)); intro v956 w4 ho5 hb hg_ hnew_; clear hg_ hnew_; (rw [← Ny955.out] at ho5); have HO957 := Z.k (Kd.R_lower ho5 (below_size (Z.bs HB.out GE954.out))); replace BK954 := Z.bb BK954 hb; replace HB := Z.st (Z.bs HB.out GE954.out) hb; clear hb ho5))
 go_loopg [1, 5, 6] k (fun kq v1 v5 v6 w' => ∃ (x1_1 : Int) (x5_1 : List Int) (x6_1 : Int), v1 = .int .i64 x1_1 ∧ v6 = .int .i64 x6_1 ∧ Aside0 (laws_stateOf.l0 kq x1_1 x5_1 x6_1 a0_0 l0_1 l0_2 = some r) ∧ Aside0 (kq ≤ k) ∧ Aside0 (Kd.R (Kd.int .i64) 3 w' w.heap.size (fun _ => True) v5 x5_1) ∧ Aside0 (w'.heap[gb954]? = some (.cells #[.int .i64 a0_0, (.slice A0_1 l0_1.length c0_1), (.slice A0_2 l0_2.length c0_2)] 28 (0, 0))) ∧ Aside0 (Below w.heap.size w w'))
 case atStart => exact ⟨(a1), (y955), (0), (by rfl), (by rfl), H', ⟨Nat.le_refl _⟩, ⟨by (with_reducible skip); exact HO957.out⟩, ⟨by (with_reducible skip); exact BK954.out⟩, ⟨Z.bs HB.out GE954.out⟩⟩
 case round =>
  clear H'
  obtain ⟨x1_1, x5_1, x6_1, rfl, rfl, HA, HK1, HO_5, BK954, HB⟩ := hrel
  cases gk with
  | zero => exact absurd HA.out (by simp [laws_stateOf.l0])
  | succ k1 =>
   have H := HA.out
   clear HA
   simp only [laws_stateOf.l0] at H
   by_cases c6 : x6_1 < (l0_2.length : Int)
   ·rw [if_pos c6] at H
    have c6b0 := decide_eq_true c6
    clear c6
    obtain ⟨c7, H⟩ := Z.ifp H
    have LMc7 := Z.k c7
    clear c7
    obtain ⟨y958, hy958⟩ : ∃ y_ : List Int, y_ = (x5_1 ++ [Int.tmod x1_1 3]) := ⟨_, rfl⟩
    replace H : (laws_stateOf.l0 k1 (wrap64 (Int.tdiv x1_1 3)) y958 (wrap64 (x6_1 + 1)) a0_0 l0_1 l0_2) = some r := by (rw [hy958]; with_reducible exact H)
    have Ny958 := Z.k hy958
    clear hy958
    have H' := Z.k H
    clear H
    have hcz8 := Z.c3 BK954.out
    go_wp2_with (((with_reducible refine gate_builtin (b := .append) (xs := #[.tmp 15, .tmp 18]) rfl ?_); at_builtin; refine Kd.R_append (Kd.int .i64) (w0 := w) w.heap.size rfl (.tmp 15) (.tmp 18) 23 3 (.int .i64 0) 8 rfl Try.underlying23 info3 rfl (by decide) (by omega) u5 x5_1 (Int.tmod x1_1 3) [.int .i64 (Int.tmod x1_1 3)] (fun _ => True) (fun _ => False) rfl rfl ?aP (fun _ hk => hk.elim) ?aF ?aO ?aB ?aS ?aL ?_; (case aP => exact rfl); (case aB => exact (Z.bs HB.out GE954.out)); (case aF => exact (fun _ _ => trivial)); (case aO => exact (by (with_reducible skip); exact HO_5.out)); (case aS => exact (below_size (Z.bs HB.out GE954.out))); (case aL => have := LMc7.out; omega); intro v959 w9 ho hb hg hat; rw [← Ny958.out] at ho; replace BK954 := Z.k (blk_grown (g := gb954) (o := .cells #[.int .i64 a0_0, .slice A0_1 l0_1.length c0_1, .slice A0_2 l0_2.length c0_2] 28 (0, 0)) (Z.bk BK954.out) hg (Kd.R_ne HO_5.out BK954.out (by decide))); replace HB := Z.k (hb); have HO960 := Z.k (ho); clear HO_5; clear ho hb hg hat))
    go_roundg k1
    case measure => have := HK1.out; omega
    case rel => exact ⟨(wrap64 (Int.tdiv x1_1 3)), (y958), (wrap64 (x6_1 + 1)), (by rfl), (by rfl), H', ⟨by have := HK1.out; omega⟩, ⟨by (with_reducible skip); exact HO960.out⟩, ⟨by (with_reducible skip); exact BK954.out⟩, ⟨Z.bs HB.out GE954.out⟩⟩
   ·rw [if_neg c6] at H
    have c6b0 := decide_eq_false c6
    clear c6
    obtain rfl := Option.some.inj H
    have hcz10 := Z.c3 BK954.out
    go_wp2
    go_ret
    exact ⟨_, by rfl, by (with_reducible skip); exact HO_5.out, Z.bs HB.out GE954.out⟩

/-! ### laws_ascend: function 39 -/
def laws_ascend.l0 : Nat → List Int → Int → Option (Bool)
 | 0, _, _ => none
 | k + 1, x0, x3 => if x3 < (x0.length : Int) then (if 0 ≤ (wrap64 (x3 - 1)) then (if (wrap64 (x3 - 1)) < (x0.length : Int) then (if 0 ≤ x3 then (if (rd x0 (wrap64 (x3 - 1))) ≥ (rd x0 x3) then (some false) else (laws_ascend.l0 k x0 (wrap64 (x3 + 1)))) else (none)) else (none)) else (none)) else (some true)
def laws_ascend.f (k : Nat) (l0 : List Int) : Option (Bool) := laws_ascend.l0 k l0 1
set_option maxHeartbeats 8000000 in
set_option maxRecDepth 100000 in
theorem laws_ascend.calls (k : Nat) (A0 : Option Addr) (c0 : Nat) (l0 : List Int) (r : Bool) (w : World) (hr0 : Kd.C (Kd.int .i64) w A0 l0.length l0) (hc0 : l0.length ≤ c0) (h : laws_ascend.f k l0 = some r) :
  Calls Try.prog 39 #[.slice A0 l0.length c0] w fun e w' => e = .returned (.bool r) ∧ Drawn0 w w' := by
 have HR0 := Z.k hr0
 have HC0 := Z.k hc0
 clear hr0 hc0
 have H := h
 clear h
 unfold laws_ascend.f at H
 have H' := Z.k H
 clear H
 go_enter Try.func39, Try.ntmps39
 go_wp2
 go_loopg [3] k (fun kq v3 w' => ∃ (x3_1 : Int), v3 = .int .i64 x3_1 ∧ Aside0 (laws_ascend.l0 kq l0 x3_1 = some r) ∧ Aside0 (kq ≤ k) ∧ Drawn0 w w')
 case atStart => exact ⟨(1), (by rfl), H', ⟨Nat.le_refl _⟩, by repeat (exact Drawn0.refl _)⟩
 case round =>
  clear H'
  obtain ⟨x3_1, rfl, HA, HK1, ⟨m1, rfl⟩⟩ := hrel
  cases gk with
  | zero => exact absurd HA.out (by simp [laws_ascend.l0])
  | succ k1 =>
   have H := HA.out
   clear HA
   simp only [laws_ascend.l0] at H
   by_cases c2 : x3_1 < (l0.length : Int)
   ·rw [if_pos c2] at H
    have c2b0 := decide_eq_true c2
    clear c2
    obtain ⟨ji3, hji3⟩ : ∃ j_ : Int, (wrap64 (x3_1 - 1)) = j_ := ⟨_, rfl⟩
    replace H : (if 0 ≤ (ji3) then (if (ji3) < (l0.length : Int) then (if 0 ≤ x3_1 then (if (rd l0 (ji3)) ≥ (rd l0 x3_1) then (some false) else (laws_ascend.l0 k1 l0 (wrap64 (x3_1 + 1)))) else (none)) else (none)) else (none)) = some r := by (rw [hji3] at H; exact H)
    have hji3w : (IntKind.i64.wrap (x3_1 - 1)) = ji3 := (i64_w _).trans hji3
    obtain ⟨c4, H⟩ := Z.ifp H
    have c4b0 : decide (0 ≤ (ji3)) = true := decide_eq_true c4
    clear c4
    obtain ⟨c5, H⟩ := Z.ifp H
    have c5b0 : decide ((ji3) < (l0.length : Int)) = true := decide_eq_true c5
    clear c5
    obtain ⟨c6, H⟩ := Z.ifp H
    have c6b0 : decide (0 ≤ x3_1) = true := decide_eq_true c6
    clear c6
    by_cases c7 : (rd l0 (ji3)) ≥ (rd l0 x3_1)
    ·rw [if_pos c7] at H
     have c7b0 : decide ((rd l0 x3_1) ≤ (rd l0 (ji3))) = true := decide_eq_true c7
     clear c7
     obtain rfl := Option.some.inj H
     have p961 : 0 ≤ ((ji3) : Int) := Z.od
     have q961 : (ji3) < (l0.length : Int) := Z.od
     obtain ⟨ad961, rfl, hx961_0⟩ := Kd.at_int HR0.out (ji3) p961 q961
     replace p961 := eq_true p961
     replace q961 := eq_true q961
     have p962 : 0 ≤ (x3_1 : Int) := Z.od
     have q962 : x3_1 < (l0.length : Int) := Z.od
     obtain ⟨ad962, e962, hx962_0⟩ := Kd.at_int HR0.out x3_1 p962 q962
     obtain rfl : ad961 = ad962 := (by injection e962)
     replace p962 := eq_true p962
     replace q962 := eq_true q962
     go_wp2
     repeat (go_quiet (fail); try go_wp2)
     go_ret
     exact ⟨by rfl, by repeat (first | exact Drawn0.refl _ | apply Drawn0.step)⟩
    ·rw [if_neg c7] at H
     have c7b0 : decide ((rd l0 x3_1) ≤ (rd l0 (ji3))) = false := decide_eq_false c7
     clear c7
     have H' := Z.k H
     clear H
     have p961 : 0 ≤ ((ji3) : Int) := Z.od
     have q961 : (ji3) < (l0.length : Int) := Z.od
     obtain ⟨ad961, rfl, hx961_0⟩ := Kd.at_int HR0.out (ji3) p961 q961
     replace p961 := eq_true p961
     replace q961 := eq_true q961
     have p962 : 0 ≤ (x3_1 : Int) := Z.od
     have q962 : x3_1 < (l0.length : Int) := Z.od
     obtain ⟨ad962, e962, hx962_0⟩ := Kd.at_int HR0.out x3_1 p962 q962
     obtain rfl : ad961 = ad962 := (by injection e962)
     replace p962 := eq_true p962
     replace q962 := eq_true q962
     go_wp2
     repeat (go_quiet (fail); try go_wp2)
     go_roundg k1
     case measure => have := HK1.out; omega
     case rel => exact ⟨(wrap64 (x3_1 + 1)), (by rfl), H', ⟨by have := HK1.out; omega⟩, by repeat (first | exact Drawn0.refl _ | apply Drawn0.step)⟩
   ·rw [if_neg c2] at H
    have c2b0 := decide_eq_false c2
    clear c2
    obtain rfl := Option.some.inj H
    go_wp2
    go_ret
    exact ⟨by rfl, by repeat (first | exact Drawn0.refl _ | apply Drawn0.step)⟩

end Go.Proofs.Ytkogboechfieeaa.PAll
