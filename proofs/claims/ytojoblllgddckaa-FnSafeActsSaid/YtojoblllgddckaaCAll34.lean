/- Walks of functions that laws of this seat reach, in the form of the print. -/
import Derived.Test.YtojoblllgddckaaCAll0
import Derived.Test.YtojoblllgddckaaCAll1
import Derived.Test.YtojoblllgddckaaCAll17
import Derived.Test.YtojoblllgddckaaCAll19
import Derived.Test.YtojoblllgddckaaCAll21
import Derived.Test.YtojoblllgddckaaCAll33
import Derived.Test.YtojoblllgddckaaZ
-- PRINTED
namespace Go.Proofs.Ytojoblllgddckaa.PAll
open Go.RowKit Go.Proofs.YtojoblllgddckaaW.PrintWords Go.Proofs.YtojoblllgddckaaW.PrintLast Go.Proofs.YtojoblllgddckaaW.PrintMore
attribute [local go_sem] max2_int min2_int max_two min_two max_three min_three max_four min_four
set_option linter.unusedVariables false
set_option linter.unusedSimpArgs false

/-! ### impl_SafeActs: function 44 -/
mutual
def impl_SafeActs.j0 : Nat → List Int → List Int → List (S48) → Bool → Int → List Int → List (List (S91)) → Option ((List (S48)))
 | 0, _, _, _, _, _, _, _ => none
 | k + 1, x1, x2, x3, x32, x1143000, x1143001, x1143002 => if x32 = true then (some ([] : List (S48))) else ((some (([] : List Int) : List Int)).bind fun y1147 => (if y1147.length + x1.length < 17592186044416 then (impl_SafeActs.l0 k x2 (y1147 ++ x1) (([] : List (S48))) x3 (x3.length : Int) 0 x1143000 x1143001 x1143002) else (none)))
def impl_SafeActs.l0 : Nat → List Int → List Int → List (S48) → List (S48) → Int → Int → Int → List Int → List (List (S91)) → Option ((List (S48)))
 | 0, _, _, _, _, _, _, _, _, _ => none
 | k + 1, x2, x9, x10, x37, x38, x39, x1143000, x1143001, x1143002 => if x39 < x38 then (if 0 ≤ x39 then (if x39 < (x37.length : Int) then ((impl_mayAct.f k x1143000 x1143001 x1143002 x9 ((rd_T48 x37 x39).f0) ((rd_T48 x37 x39).f1) ((rd_T48 x37 x39).f2)).bind fun t1158 => (if t1158 = true then ((impl_changed.f x9 ((rd_T48 x37 x39).f0) ((rd_T48 x37 x39).f1)).bind fun t1159 => ((impl_stateNumber.f k t1159).bind fun t1162 => ((slices_Contains_int_int.f k x2 t1162).bind fun t1163 => (if t1163 = true then (impl_SafeActs.l0 k x2 x9 x10 x37 x38 (wrap64 (x39 + 1)) x1143000 x1143001 x1143002) else (if 0 ≤ ((rd_T48 x37 x39).f0) then (if ((rd_T48 x37 x39).f0) < (x9.length : Int) then (if x10.length < 5864062014805 then (impl_SafeActs.l0 k x2 (x9.set (((rd_T48 x37 x39).f0) : Int).toNat ((rd_T48 x37 x39).f1)) (x10 ++ [(⟨(rd_T48 x37 x39).f0, (rd_T48 x37 x39).f1, (rd_T48 x37 x39).f2⟩ : S48)]) x37 x38 (wrap64 (x39 + 1)) x1143000 x1143001 x1143002) else (none)) else (none)) else (none)))))) else (impl_SafeActs.l0 k x2 x9 x10 x37 x38 (wrap64 (x39 + 1)) x1143000 x1143001 x1143002))) else (none)) else (none)) else (some x10)
end
def impl_SafeActs.f (k : Nat) (a0_0 : Int) (l0_1 : List Int) (l0_2 : List (List (S91))) (l1 : List Int) (l2 : List Int) (l3 : List (S48)) : Option ((List (S48))) := (impl_isState.f k a0_0 l0_1 l0_2 l1).bind fun t1143 => (if t1143 = true then ((impl_areBad.f l2).bind fun t1144 => (if t1144 = true then (if (l3.length : Int) > 12 then (impl_SafeActs.j0 k l1 l2 l3 true a0_0 l0_1 l0_2) else ((impl_stateNumber.f k l1).bind fun t1145 => ((slices_Contains_int_int.f k l2 t1145).bind fun t1146 => (impl_SafeActs.j0 k l1 l2 l3 t1146 a0_0 l0_1 l0_2)))) else (impl_SafeActs.j0 k l1 l2 l3 true a0_0 l0_1 l0_2))) else (impl_SafeActs.j0 k l1 l2 l3 true a0_0 l0_1 l0_2))
set_option maxHeartbeats 8000000 in
set_option maxRecDepth 100000 in
theorem impl_SafeActs.calls (k : Nat) (a0_0 : Int) (A0_1 : Option Addr) (c0_1 : Nat) (l0_1 : List Int) (A0_2 : Option Addr) (c0_2 : Nat) (l0_2 : List (List (S91))) (A1 : Option Addr) (c1 : Nat) (l1 : List Int) (A2 : Option Addr) (c2 : Nat) (l2 : List Int) (A3 : Option Addr) (c3 : Nat) (l3 : List (S48)) (r : List (S48)) (w : World) (hr0_1 : Kd.C (Kd.int .i64) w A0_1 l0_1.length l0_1) (hc0_1 : l0_1.length ≤ c0_1) (hr0_2 : Kd.C (Kd.slice 91 k91) w A0_2 l0_2.length l0_2) (hc0_2 : l0_2.length ≤ c0_2) (hr1 : Kd.C (Kd.int .i64) w A1 l1.length l1) (hc1 : l1.length ≤ c1) (hr2 : Kd.C (Kd.int .i64) w A2 l2.length l2) (hc2 : l2.length ≤ c2) (hr3 : Kd.C k48 w A3 l3.length l3) (hc3 : l3.length ≤ c3) (h : impl_SafeActs.f k a0_0 l0_1 l0_2 l1 l2 l3 = some r) :
  Calls Try.prog 44 #[.agg #[.int .i64 a0_0, .slice A0_1 l0_1.length c0_1, .slice A0_2 l0_2.length c0_2], .slice A1 l1.length c1, .slice A2 l2.length c2, .slice A3 l3.length c3] w fun e w' => ∃ v0_ : Value, e = .returned (v0_) ∧ Kd.R k48 48 w' w.heap.size (fun _ => True) v0_ r ∧ Below w.heap.size w w' := by
 have hu46 := Try.underlying46
 have hu48 := Try.underlying48
 have HR0_1 := Z.k hr0_1
 have HC0_1 := Z.k hc0_1
 clear hr0_1 hc0_1
 have HR0_2 := Z.k hr0_2
 have HC0_2 := Z.k hc0_2
 clear hr0_2 hc0_2
 have HR1 := Z.k hr1
 have HC1 := Z.k hc1
 clear hr1 hc1
 have HR2 := Z.k hr2
 have HC2 := Z.k hc2
 clear hr2 hc2
 have HR3 := Z.k hr3
 have HC3 := Z.k hc3
 clear hr3 hc3
 have HB := Z.k (Below.refl w.heap.size w)
 have H := h
 clear h
 unfold impl_SafeActs.f at H
 have HC5 := Z.k H
 clear H
 go_enter Try.func44, Try.ntmps44
 go_upto_region 1 with (((with_reducible refine gate_dst (N := 4) rfl ?_); (try (refine gate_guard (by rfl) ?_; dsimp only)); refine Z.bx #[.int .i64 a0_0, .slice A0_1 l0_1.length c0_1, .slice A0_2 l0_2.length c0_2] 46 HB ?_; clear HB; intro gb1142 w6 BK1142 GE1142 HB hg hb; have GW1142 := GE1142; clear hb hg))
 go_cut [32] (fun v32 wc => ∃ (kq : Nat) (x32_4 : Bool), v32 = .bool x32_4 ∧ Aside0 (impl_SafeActs.j0 kq l1 l2 l3 x32_4 a0_0 l0_1 l0_2 = some r) ∧ Aside0 (kq ≤ k) ∧ Aside0 (wc.heap[gb1142]? = some (.cells #[.int .i64 a0_0, (.slice A0_1 l0_1.length c0_1), (.slice A0_2 l0_2.length c0_2)] 46 (0, 0))) ∧ Aside0 (Below w.heap.size w wc))
 case first =>
  have H := HC5.out
  clear HC5
  replace H := Option.bind_eq_some_iff.mp H
  obtain ⟨t1143, A70, H⟩ := H
  have A7 := Z.k A70
  clear A70
  by_cases c8 : t1143 = true
  ·subst c8
   rw [if_pos rfl] at H
   replace H := Option.bind_eq_some_iff.mp H
   obtain ⟨t1144, A90, H⟩ := H
   have A9 := Z.k A90
   clear A90
   by_cases c10 : t1144 = true
   ·subst c10
    rw [if_pos rfl] at H
    by_cases c11 : (l3.length : Int) > 12
    ·rw [if_pos c11] at H
     have c11b0 : decide (12 < (l3.length : Int)) = true := decide_eq_true c11
     have c11b1 : decide (12 < l3.length) = true := decide_eq_true (by omega)
     clear c11
     have H' := Z.k H
     clear H
     have hcz12 := Z.c3 BK1142.out
     go_wp2_with (first | ((with_reducible refine gate_callee (f := 73) rfl ?_); refine goesL_ (some 15) rfl rfl Try.func73 (by kernel_rfl) rfl #[.agg #[.int .i64 a0_0, .slice A0_1 l0_1.length c0_1, .slice A0_2 l0_2.length c0_2], .slice A1 l1.length c1] rfl Z.ar ?_; (with_reducible refine (impl_isState.calls k a0_0 _ _ l0_1 _ _ l0_2 _ _ l1 true _ ?q1 ?q2 ?q3 ?q4 ?q5 ?q6 A7.out).mono ?_); (case q1 => exact Z.cc HR0_1 HB); (case q2 => exact HC0_1.out); (case q3 => exact Z.cc HR0_2 HB); (case q4 => exact HC0_2.out); (case q5 => exact Z.cc HR1 HB); (case q6 => exact HC1.out); rintro e w13 ⟨rfl, hb⟩; refine ⟨_, rfl, ?_⟩; replace BK1142 := Z.bb BK1142 hb; replace HB := Z.st (Z.bs HB.out GE1142.out) hb; (try clear hb)) | (go_at_call 84; (with_reducible refine (impl_areBad.calls _ _ l2 true _ ?q1 ?q2 A9.out).mono ?_); (case q1 => exact Z.cc HR2 HB); (case q2 => exact HC2.out); rintro e w14 ⟨rfl, hb⟩; replace BK1142 := Z.bb BK1142 hb; replace HB := Z.st (Z.bs HB.out GE1142.out) hb; (try clear hb)))
     go_meet
     case rel => exact ⟨_, (true), (by rfl), H', ⟨by omega⟩, ⟨by exact BK1142.out⟩, ⟨Z.bs HB.out GE1142.out⟩⟩
    ·rw [if_neg c11] at H
     have c11b0 : decide (12 < (l3.length : Int)) = false := decide_eq_false c11
     have c11b1 : decide (12 < l3.length) = false := decide_eq_false (by omega)
     clear c11
     replace H := Option.bind_eq_some_iff.mp H
     obtain ⟨t1145, A150, H⟩ := H
     have A15 := Z.k A150
     clear A150
     replace H := Option.bind_eq_some_iff.mp H
     obtain ⟨t1146, A160, H⟩ := H
     have A16 := Z.k A160
     clear A160
     have H' := Z.k H
     clear H
     have hcz17 := Z.c3 BK1142.out
     go_wp2_with (first | ((with_reducible refine gate_callee (f := 73) rfl ?_); refine goesL_ (some 15) rfl rfl Try.func73 (by kernel_rfl) rfl #[.agg #[.int .i64 a0_0, .slice A0_1 l0_1.length c0_1, .slice A0_2 l0_2.length c0_2], .slice A1 l1.length c1] rfl Z.ar ?_; (with_reducible refine (impl_isState.calls k a0_0 _ _ l0_1 _ _ l0_2 _ _ l1 true _ ?q1 ?q2 ?q3 ?q4 ?q5 ?q6 A7.out).mono ?_); (case q1 => exact Z.cc HR0_1 HB); (case q2 => exact HC0_1.out); (case q3 => exact Z.cc HR0_2 HB); (case q4 => exact HC0_2.out); (case q5 => exact Z.cc HR1 HB); (case q6 => exact HC1.out); rintro e w18 ⟨rfl, hb⟩; refine ⟨_, rfl, ?_⟩; replace BK1142 := Z.bb BK1142 hb; replace HB := Z.st (Z.bs HB.out GE1142.out) hb; (try clear hb)) | (go_at_call 84; (with_reducible refine (impl_areBad.calls _ _ l2 true _ ?q1 ?q2 A9.out).mono ?_); (case q1 => exact Z.cc HR2 HB); (case q2 => exact HC2.out); rintro e w19 ⟨rfl, hb⟩; replace BK1142 := Z.bb BK1142 hb; replace HB := Z.st (Z.bs HB.out GE1142.out) hb; (try clear hb)) | (go_at_call 75; (with_reducible refine (impl_stateNumber.calls k _ _ l1 t1145 _ ?q1 ?q2 A15.out).mono ?_); (case q1 => exact Z.cc HR1 HB); (case q2 => exact HC1.out); rintro e w' ⟨rfl, ⟨nd, rfl⟩⟩) | (go_at_call 85; (with_reducible refine (slices_Contains_int_int.calls k _ _ l2 t1145 t1146 _ ?q1 ?q2 A16.out).mono ?_); (case q1 => exact (Kd.C_below HR2.out (Z.bs HB.out GE1142.out))); (case q2 => exact HC2.out); rintro e w' ⟨rfl, ⟨nd, rfl⟩⟩))
     go_meet
     case rel => exact ⟨_, (t1146), (by rfl), H', ⟨by omega⟩, ⟨by (with_reducible repeat (refine blk_drewN ?_ _)); exact BK1142.out⟩, ⟨Z.bs HB.out GE1142.out⟩⟩
   ·replace c10 := Bool.eq_false_iff.mpr c10
    subst c10
    rw [if_neg (show ¬ (false = true) by decide)] at H
    have H' := Z.k H
    clear H
    have hcz20 := Z.c3 BK1142.out
    go_wp2_with (first | ((with_reducible refine gate_callee (f := 73) rfl ?_); refine goesL_ (some 15) rfl rfl Try.func73 (by kernel_rfl) rfl #[.agg #[.int .i64 a0_0, .slice A0_1 l0_1.length c0_1, .slice A0_2 l0_2.length c0_2], .slice A1 l1.length c1] rfl Z.ar ?_; (with_reducible refine (impl_isState.calls k a0_0 _ _ l0_1 _ _ l0_2 _ _ l1 true _ ?q1 ?q2 ?q3 ?q4 ?q5 ?q6 A7.out).mono ?_); (case q1 => exact Z.cc HR0_1 HB); (case q2 => exact HC0_1.out); (case q3 => exact Z.cc HR0_2 HB); (case q4 => exact HC0_2.out); (case q5 => exact Z.cc HR1 HB); (case q6 => exact HC1.out); rintro e w21 ⟨rfl, hb⟩; refine ⟨_, rfl, ?_⟩; replace BK1142 := Z.bb BK1142 hb; replace HB := Z.st (Z.bs HB.out GE1142.out) hb; (try clear hb)) | (go_at_call 84; (with_reducible refine (impl_areBad.calls _ _ l2 false _ ?q1 ?q2 A9.out).mono ?_); (case q1 => exact Z.cc HR2 HB); (case q2 => exact HC2.out); rintro e w22 ⟨rfl, hb⟩; replace BK1142 := Z.bb BK1142 hb; replace HB := Z.st (Z.bs HB.out GE1142.out) hb; (try clear hb)))
    go_meet
    case rel => exact ⟨_, (true), (by rfl), H', ⟨by omega⟩, ⟨by exact BK1142.out⟩, ⟨Z.bs HB.out GE1142.out⟩⟩
  ·replace c8 := Bool.eq_false_iff.mpr c8
   subst c8
   rw [if_neg (show ¬ (false = true) by decide)] at H
   have H' := Z.k H
   clear H
   have hcz23 := Z.c3 BK1142.out
   go_wp2_with (((with_reducible refine gate_callee (f := 73) rfl ?_); refine goesL_ (some 15) rfl rfl Try.func73 (by kernel_rfl) rfl #[.agg #[.int .i64 a0_0, .slice A0_1 l0_1.length c0_1, .slice A0_2 l0_2.length c0_2], .slice A1 l1.length c1] rfl Z.ar ?_; (with_reducible refine (impl_isState.calls k a0_0 _ _ l0_1 _ _ l0_2 _ _ l1 false _ ?q1 ?q2 ?q3 ?q4 ?q5 ?q6 A7.out).mono ?_); (case q1 => exact Z.cc HR0_1 HB); (case q2 => exact HC0_1.out); (case q3 => exact Z.cc HR0_2 HB); (case q4 => exact HC0_2.out); (case q5 => exact Z.cc HR1 HB); (case q6 => exact HC1.out); rintro e w24 ⟨rfl, hb⟩; refine ⟨_, rfl, ?_⟩; replace BK1142 := Z.bb BK1142 hb; replace HB := Z.st (Z.bs HB.out GE1142.out) hb; (try clear hb)))
   go_meet
   case rel => exact ⟨_, (true), (by rfl), H', ⟨by omega⟩, ⟨by exact BK1142.out⟩, ⟨Z.bs HB.out GE1142.out⟩⟩
 case rest =>
  clear HC5
  obtain ⟨kq, x32_4, rfl, HA, HJ4, BK1142, HB⟩ := hcut
  cases kq with
  | zero => exact absurd HA.out (by simp [impl_SafeActs.j0])
  | succ kj4 =>
   have H := HA.out
   clear HA
   simp only [impl_SafeActs.j0] at H
   by_cases c25 : x32_4 = true
   ·subst c25
    rw [if_pos rfl] at H
    obtain rfl := Option.some.inj H
    go_wp2
    go_ret
    exact ⟨_, by rfl, by exact Kd.R_nil _ _ _ _ _, Z.bs HB.out GE1142.out⟩
   ·replace c25 := Bool.eq_false_iff.mpr c25
    subst c25
    rw [if_neg (show ¬ (false = true) by decide)] at H
    obtain ⟨y1147, hy1147⟩ : ∃ y_ : List Int, y_ = (([] : List Int)) := ⟨_, rfl⟩
    replace H : (if y1147.length + l1.length < 17592186044416 then (impl_SafeActs.l0 kj4 l2 (y1147 ++ l1) (([] : List (S48))) l3 (l3.length : Int) 0 a0_0 l0_1 l0_2) else (none)) = some r := by (have H2_ := (Option.bind_some _ _).symm.trans H; rw [hy1147]; with_reducible exact H2_)
    have Ny1147 := Z.k hy1147
    clear hy1147
    obtain ⟨c26, H⟩ := Z.ifp H
    have LMc26 := Z.k c26
    clear c26
    obtain ⟨y1150, hy1150⟩ : ∃ y_ : List Int, y_ = (y1147 ++ l1) := ⟨_, rfl⟩
    replace H : (impl_SafeActs.l0 kj4 l2 y1150 (([] : List (S48))) l3 (l3.length : Int) 0 a0_0 l0_1 l0_2) = some r := by (rw [hy1150]; with_reducible exact H)
    have Ny1150 := Z.k hy1150
    clear hy1150
    obtain ⟨y1153, hy1153⟩ : ∃ y_ : List (S48), y_ = (([] : List (S48))) := ⟨_, rfl⟩
    replace H : (impl_SafeActs.l0 kj4 l2 y1150 y1153 l3 (l3.length : Int) 0 a0_0 l0_1 l0_2) = some r := by (rw [hy1153]; with_reducible exact H)
    have Ny1153 := Z.k hy1153
    clear hy1153
    have H' := Z.k H
    clear H
    go_wp2_with (first | ((with_reducible refine gate_dst (N := 33) rfl ?_); (try (refine gate_guard (by rfl) ?_; dsimp only)); refine Kd.R_lit (Kd.int .i64) _ 3 ?hg (N := 33) ?hd (xs := ([] : List Int)) (inner := []) (ok := fun _ => True) (okp := fun _ => True) ?hr ?hp (fun _ hk => hk) trivial (Below.refl _ _) (Nat.le_refl _) (by simp) ?_; (case hd | hg => rfl); (case hr => (go_simp; done)); (case hp => exact (Reps.none _ _)); intro v1148 w27 ho28 hb hg_ hnew_; clear hg_ hnew_; (rw [← Ny1147.out] at ho28); have HO1149 := Z.k (Kd.R_lower ho28 (below_size (Z.bs HB.out GE1142.out))); replace BK1142 := Z.bb BK1142 hb; replace HB := Z.st (Z.bs HB.out GE1142.out) hb; clear hb ho28) | ((with_reducible refine gate_builtin (b := .append) (xs := #[.tmp 33, .tmp 34]) rfl ?_); (try (refine gate_guard (by rfl) ?_; dsimp only)); at_builtin; refine Kd.R_append_rows (Kd.int .i64) (w0 := w) w.heap.size rfl (.tmp 33) (.tmp 34) 23 3 (.int .i64 0) 8 rfl Try.underlying23 info3 rfl (by decide) (by omega) v1148 y1147 l1 _ _ _ (fun _ => True) (fun _ => False) rfl rfl ?aO ?aR (fun _ _ h => h) (fun _ h => h.elim) ?aF ?aB ?aS ?aL ?_; (case aR => exact Z.cc HR1 HB); (case aB => exact (Z.bs HB.out GE1142.out)); (case aF => exact (fun _ _ => trivial)); (case aO => exact HO1149.out); (case aS => exact (below_size (Z.bs HB.out GE1142.out))); (case aL => have := LMc26.out; omega); intro v1151 w29 ho hb hg hat; rw [← Ny1150.out] at ho; replace BK1142 := Z.k (blk_grown (g := gb1142) (o := .cells #[.int .i64 a0_0, .slice A0_1 l0_1.length c0_1, .slice A0_2 l0_2.length c0_2] 46 (0, 0)) (Z.bk BK1142.out) hg (Kd.R_ne HO1149.out BK1142.out (by decide))); replace HB := Z.k hb; have HO1152 := Z.k ho; clear HO1149; clear ho hb hg hat) | ((with_reducible refine gate_dst (N := 36) rfl ?_); (try (refine gate_guard (by rfl) ?_; dsimp only)); refine Kd.R_lit k48 _ 48 ?hg (N := 36) ?hd (xs := ([] : List (S48))) (inner := []) (ok := fun _ => True) (okp := fun _ => True) ?hr ?hp (fun _ hk => hk) trivial (Below.refl _ _) (Nat.le_refl _) (by simp) ?_; (case hd | hg => rfl); (case hr => (go_simp; done)); (case hp => exact (Reps.none _ _)); intro v1154 w30 ho31 hb hg_ hnew_; clear hg_ hnew_; (rw [← Ny1153.out] at ho31); replace HO1152 := Z.k (Kd.R_below HO1152.out hb); have HO1155 := Z.k (Kd.R_lower ho31 (below_size (Z.bs HB.out GE1142.out))); replace BK1142 := Z.bb BK1142 hb; replace HB := Z.st (Z.bs HB.out GE1142.out) hb; clear hb ho31))
    go_loopg [10, 39] kj4 (fun kq v10 v39 w' => ∃ (x9_2 : List Int) (x10_2 : List (S48)) (x39_2 : Int), v39 = .int .i64 x39_2 ∧ Aside0 (impl_SafeActs.l0 kq l2 x9_2 x10_2 l3 (l3.length : Int) x39_2 a0_0 l0_1 l0_2 = some r) ∧ Aside0 (kq ≤ kj4) ∧ Aside0 (Kd.R (Kd.int .i64) 3 w' w.heap.size (fun _ => True) v1151 x9_2) ∧ Aside0 (Kd.R k48 48 w' w.heap.size (fun _ => True) v10 x10_2) ∧ Aside0 (w'.heap[gb1142]? = some (.cells #[.int .i64 a0_0, (.slice A0_1 l0_1.length c0_1), (.slice A0_2 l0_2.length c0_2)] 46 (0, 0))) ∧ Aside0 (Below w.heap.size w w'))
    case atStart => exact ⟨(y1150), (y1153), (0), (by rfl), H', ⟨Nat.le_refl _⟩, ⟨by exact HO1152.out⟩, ⟨by exact HO1155.out⟩, ⟨by exact BK1142.out⟩, ⟨Z.bs HB.out GE1142.out⟩⟩
    case round =>
     clear H'
     obtain ⟨x9_2, x10_2, x39_2, rfl, HA, HK2, HO_9, HO_10, BK1142, HB⟩ := hrel
     cases gk with
     | zero => exact absurd HA.out (by simp [impl_SafeActs.l0])
     | succ k2 =>
      have H := HA.out
      clear HA
      simp only [impl_SafeActs.l0] at H
      by_cases c32 : x39_2 < (l3.length : Int)
      ·rw [if_pos c32] at H
       have c32b0 := decide_eq_true c32
       clear c32
       obtain ⟨c33, H⟩ := Z.ifp H
       have c33b0 : decide (0 ≤ x39_2) = true := decide_eq_true c33
       clear c33
       obtain ⟨c34, H⟩ := Z.ifp H
       have c34b0 : decide (x39_2 < (l3.length : Int)) = true := decide_eq_true c34
       clear c34
       replace H := Option.bind_eq_some_iff.mp H
       obtain ⟨t1158, A350, H⟩ := H
       have A35 := Z.k A350
       clear A350
       by_cases c36 : t1158 = true
       ·subst c36
        rw [if_pos rfl] at H
        replace H := Option.bind_eq_some_iff.mp H
        obtain ⟨t1159, A370, H⟩ := H
        have A37 := Z.k A370
        clear A370
        replace H := Option.bind_eq_some_iff.mp H
        obtain ⟨t1162, A380, H⟩ := H
        have A38 := Z.k A380
        clear A380
        replace H := Option.bind_eq_some_iff.mp H
        obtain ⟨t1163, A390, H⟩ := H
        have A39 := Z.k A390
        clear A390
        by_cases c40 : t1163 = true
        ·subst c40
         rw [if_pos rfl] at H
         have H' := Z.k H
         clear H
         have p1156 : 0 ≤ (x39_2 : Int) := Z.od
         have q1156 : x39_2 < (l3.length : Int) := Z.od
         obtain ⟨ad1156, rfl, hx1156_0, hx1156_1, hx1156_2⟩ := at_T48 HR3.out x39_2 p1156 q1156
         replace hx1156_0 := Z.up HB.out hx1156_0
         replace hx1156_1 := Z.up HB.out hx1156_1
         replace hx1156_2 := Z.up HB.out hx1156_2
         replace p1156 := eq_true p1156
         replace q1156 := eq_true q1156
         go_wp2_with (first | ((with_reducible refine gate_dst (N := 12) rfl ?_); (try (refine gate_guard (by rfl) ?_; dsimp only)); refine Z.bz #[.int .i64 0, .int .i64 0, .int .i64 0] 48 HB GE1142 ?_; clear HB; intro gb1157 w41 BK1157 GE1157 HB hg hb; have GW1157 := GE1157; replace HO_9 := Z.k (Kd.R_below HO_9.out hb); replace HO_10 := Z.k (Kd.R_below (Kd.R_elderB HO_10.out gb1157 (Nat.le_of_eq hg.symm)) hb); have NB1142_1157 := Z.nl hg BK1142; have NB1157_1142 := Z.ng hg BK1142; replace BK1142 := Z.bb BK1142 hb; clear hb hg; have hnb42 := NB1157_1142.out; have hnc42 := NB1142_1157.out; have hcz43 := Z.c3 BK1157.out; have hcz44 := Z.c3 BK1142.out; obtain ⟨Ao45, co45, eo45⟩ := Kd.R_slice HO_9.out; subst eo45) | ((with_reducible refine gate_callee (f := 76) rfl ?_); refine goesL_ (some 46) rfl rfl Try.func76 (by kernel_rfl) rfl #[.agg #[.int .i64 a0_0, .slice A0_1 l0_1.length c0_1, .slice A0_2 l0_2.length c0_2], .slice Ao45 x9_2.length co45, .agg #[.int .i64 ((rd_T48 l3 x39_2).f0), .int .i64 ((rd_T48 l3 x39_2).f1), .int .i64 ((rd_T48 l3 x39_2).f2)]] rfl Z.ar ?_; (with_reducible refine (impl_mayAct.calls k2 a0_0 _ _ l0_1 _ _ l0_2 _ _ x9_2 ((rd_T48 l3 x39_2).f0) ((rd_T48 l3 x39_2).f1) ((rd_T48 l3 x39_2).f2) true _ ?q1 ?q2 ?q3 ?q4 ?q5 ?q6 A35.out).mono ?_); (case q1 => exact Kd.C_below HR0_1.out (by repeat ((with_reducible first | exact HB.out | refine below_set ?_ GE1157.out)))); (case q2 => exact HC0_1.out); (case q3 => exact Kd.C_below HR0_2.out (by repeat ((with_reducible first | exact HB.out | refine below_set ?_ GE1157.out)))); (case q4 => exact HC0_2.out); (case q5 => refine (Kd.R_reads' (e := 3) (base := w.heap.size) (ok := fun k_ => True) (n := x9_2.length) (c := co45) ?_).2.2; exact (Kd.R_mono (Kd.R_far (p := ⟨gb1157, 2, none⟩) (Kd.R_far (p := ⟨gb1157, 1, none⟩) (Kd.R_far (p := ⟨gb1157, 0, none⟩) (Kd.R_types HO_9.out BK1157.out (by decide)) (fun _ hk => hk.2) (.int .i64 ((rd_T48 l3 x39_2).f0))) (fun _ hk => hk.2) (.int .i64 ((rd_T48 l3 x39_2).f1))) (fun _ hk => hk.2) (.int .i64 ((rd_T48 l3 x39_2).f2))) (fun _ h_ => h_.1))); (case q6 => exact (Kd.R_reads' HO_9.out).2.1); rintro e w46 ⟨rfl, hb⟩; refine ⟨_, rfl, ?_⟩; replace HO_9 := Z.k (Kd.R_below (Kd.R_mono (Kd.R_far (p := ⟨gb1157, 2, none⟩) (Kd.R_far (p := ⟨gb1157, 1, none⟩) (Kd.R_far (p := ⟨gb1157, 0, none⟩) (Kd.R_types HO_9.out BK1157.out (by decide)) (fun _ hk => hk.2) (.int .i64 ((rd_T48 l3 x39_2).f0))) (fun _ hk => hk.2) (.int .i64 ((rd_T48 l3 x39_2).f1))) (fun _ hk => hk.2) (.int .i64 ((rd_T48 l3 x39_2).f2))) (fun _ h_ => h_.1)) hb); replace HO_10 := Z.k (Kd.R_below (Kd.R_mono (Kd.R_far (p := ⟨gb1157, 2, none⟩) (Kd.R_far (p := ⟨gb1157, 1, none⟩) (Kd.R_far (p := ⟨gb1157, 0, none⟩) (Kd.R_mono HO_10.out (fun k_ hk => (⟨hk, hk.2⟩ : _ ∧ k_ ≠ gb1157))) (fun _ hk => hk.2) (.int .i64 ((rd_T48 l3 x39_2).f0))) (fun _ hk => hk.2) (.int .i64 ((rd_T48 l3 x39_2).f1))) (fun _ hk => hk.2) (.int .i64 ((rd_T48 l3 x39_2).f2))) (fun _ h_ => h_.1)) hb); replace BK1142 := Z.k (blk_below (g := gb1142) (o := .cells #[.int .i64 a0_0, .slice A0_1 l0_1.length c0_1, .slice A0_2 l0_2.length c0_2] 46 (0, 0)) (by refine blk_far ?_ NB1142_1157.out _; refine blk_far ?_ NB1142_1157.out _; refine blk_far ?_ NB1142_1157.out _; exact BK1142.out) hb); replace BK1157 := Z.k (blk_below (g := gb1157) (o := .cells #[.int .i64 ((rd_T48 l3 x39_2).f0), .int .i64 ((rd_T48 l3 x39_2).f1), .int .i64 ((rd_T48 l3 x39_2).f2)] 48 (0, 0)) (by refine blk_put (cs := #[.int .i64 ((rd_T48 l3 x39_2).f0), .int .i64 ((rd_T48 l3 x39_2).f1), .int .i64 0]) ?_ 2 _ rfl; refine blk_put (cs := #[.int .i64 ((rd_T48 l3 x39_2).f0), .int .i64 0, .int .i64 0]) ?_ 1 _ rfl; refine blk_put (cs := #[.int .i64 0, .int .i64 0, .int .i64 0]) ?_ 0 _ rfl; exact BK1157.out) hb); replace HB := Z.k (below_step (by repeat ((with_reducible first | exact HB.out | refine below_set ?_ GE1157.out))) hb); (try clear hb); have hcz47 := Z.c3 BK1157.out) | (go_at_call 86; (with_reducible refine (impl_changed.calls _ _ x9_2 ((rd_T48 l3 x39_2).f0) ((rd_T48 l3 x39_2).f1) t1159 _ ?q1 ?q2 A37.out).mono ?_); (case q1 => exact (Kd.R_reads' HO_9.out).2.2); (case q2 => exact (Kd.R_reads' HO_9.out).2.1); rintro e w48 ⟨v1160, rfl, ho0, hb⟩; replace HO_10 := Z.k (Kd.R_below HO_10.out hb); have HO1161 := Z.k (Kd.R_lower (Kd.R_new' ho0 (Kd.R_lt HO_9.out)) (below_size HB.out)); replace HO_9 := Z.k (Kd.R_elder' HO_9.out (Kd.R_base ho0) hb); replace BK1142 := Z.bb BK1142 hb; replace BK1157 := Z.bb BK1157 hb; replace HB := Z.k (below_step HB.out hb); (try clear hb); (try clear ho0); obtain ⟨Ao49, co49, eo49⟩ := Kd.R_slice HO1161.out; subst eo49) | (go_at_call 75; (with_reducible refine (impl_stateNumber.calls k2 _ _ t1159 t1162 _ ?q1 ?q2 A38.out).mono ?_); (case q1 => exact (Kd.R_reads' HO1161.out).2.2); (case q2 => exact (Kd.R_reads' HO1161.out).2.1); rintro e w' ⟨rfl, ⟨nd, rfl⟩⟩) | (go_at_call 85; (with_reducible refine (slices_Contains_int_int.calls k2 _ _ l2 t1162 true _ ?q1 ?q2 A39.out).mono ?_); (case q1 => exact (Kd.C_below HR2.out (by repeat ((with_reducible first | exact HB.out | apply pw_below_drewN))))); (case q2 => exact HC2.out); rintro e w' ⟨rfl, ⟨nd, rfl⟩⟩))
         go_roundg k2
         case measure => have := HJ4.out; have := HK2.out; omega
         case rel => exact ⟨(x9_2), (x10_2), (wrap64 (x39_2 + 1)), (by rfl), H', ⟨by have := HJ4.out; have := HK2.out; omega⟩, ⟨by (with_reducible repeat (apply Kd.R_drewN)); exact Kd.R_mono HO_9.out (fun _ hk => trivial)⟩, ⟨by (with_reducible repeat (apply Kd.R_drewN)); exact Kd.R_mono HO_10.out (fun _ hk => trivial)⟩, ⟨by (with_reducible repeat (refine blk_drewN ?_ _)); exact BK1142.out⟩, ⟨by repeat ((with_reducible first | exact HB.out | apply pw_below_drewN))⟩⟩
        ·replace c40 := Bool.eq_false_iff.mpr c40
         subst c40
         rw [if_neg (show ¬ (false = true) by decide)] at H
         obtain ⟨c50, H⟩ := Z.ifp H
         have c50b0 : decide (0 ≤ ((rd_T48 l3 x39_2).f0)) = true := decide_eq_true c50
         clear c50
         obtain ⟨c51, H⟩ := Z.ifp H
         have c51b0 : decide (((rd_T48 l3 x39_2).f0) < (x9_2.length : Int)) = true := decide_eq_true c51
         clear c51
         obtain ⟨y1164, hy1164⟩ : ∃ y_ : List Int, y_ = (x9_2.set (((rd_T48 l3 x39_2).f0) : Int).toNat ((rd_T48 l3 x39_2).f1)) := ⟨_, rfl⟩
         replace H : (if x10_2.length < 5864062014805 then (impl_SafeActs.l0 k2 l2 y1164 (x10_2 ++ [(⟨(rd_T48 l3 x39_2).f0, (rd_T48 l3 x39_2).f1, (rd_T48 l3 x39_2).f2⟩ : S48)]) l3 (l3.length : Int) (wrap64 (x39_2 + 1)) a0_0 l0_1 l0_2) else (none)) = some r := by (rw [hy1164]; with_reducible exact H)
         have Ny1164 := Z.k hy1164
         clear hy1164
         obtain ⟨c53, H⟩ := Z.ifp H
         have LMc53 := Z.k c53
         clear c53
         obtain ⟨y1165, hy1165⟩ : ∃ y_ : List (S48), y_ = (x10_2 ++ [(⟨(rd_T48 l3 x39_2).f0, (rd_T48 l3 x39_2).f1, (rd_T48 l3 x39_2).f2⟩ : S48)]) := ⟨_, rfl⟩
         replace H : (impl_SafeActs.l0 k2 l2 y1164 y1165 l3 (l3.length : Int) (wrap64 (x39_2 + 1)) a0_0 l0_1 l0_2) = some r := by (rw [hy1165]; with_reducible exact H)
         have Ny1165 := Z.k hy1165
         clear hy1165
         have H' := Z.k H
         clear H
         have p1156 : 0 ≤ (x39_2 : Int) := Z.od
         have q1156 : x39_2 < (l3.length : Int) := Z.od
         obtain ⟨ad1156, rfl, hx1156_0, hx1156_1, hx1156_2⟩ := at_T48 HR3.out x39_2 p1156 q1156
         replace hx1156_0 := Z.up HB.out hx1156_0
         replace hx1156_1 := Z.up HB.out hx1156_1
         replace hx1156_2 := Z.up HB.out hx1156_2
         replace p1156 := eq_true p1156
         replace q1156 := eq_true q1156
         go_wp2_with (first | ((with_reducible refine gate_dst (N := 12) rfl ?_); (try (refine gate_guard (by rfl) ?_; dsimp only)); refine Z.bz #[.int .i64 0, .int .i64 0, .int .i64 0] 48 HB GE1142 ?_; clear HB; intro gb1157 w54 BK1157 GE1157 HB hg hb; have GW1157 := GE1157; replace HO_9 := Z.k (Kd.R_below HO_9.out hb); replace HO_10 := Z.k (Kd.R_below (Kd.R_elderB HO_10.out gb1157 (Nat.le_of_eq hg.symm)) hb); have NB1142_1157 := Z.nl hg BK1142; have NB1157_1142 := Z.ng hg BK1142; replace BK1142 := Z.bb BK1142 hb; clear hb hg; have hnb55 := NB1157_1142.out; have hnc55 := NB1142_1157.out; have hcz56 := Z.c3 BK1157.out; have hcz57 := Z.c3 BK1142.out; obtain ⟨Ao58, co58, eo58⟩ := Kd.R_slice HO_9.out; subst eo58) | ((with_reducible refine gate_callee (f := 76) rfl ?_); refine goesL_ (some 46) rfl rfl Try.func76 (by kernel_rfl) rfl #[.agg #[.int .i64 a0_0, .slice A0_1 l0_1.length c0_1, .slice A0_2 l0_2.length c0_2], .slice Ao58 x9_2.length co58, .agg #[.int .i64 ((rd_T48 l3 x39_2).f0), .int .i64 ((rd_T48 l3 x39_2).f1), .int .i64 ((rd_T48 l3 x39_2).f2)]] rfl Z.ar ?_; (with_reducible refine (impl_mayAct.calls k2 a0_0 _ _ l0_1 _ _ l0_2 _ _ x9_2 ((rd_T48 l3 x39_2).f0) ((rd_T48 l3 x39_2).f1) ((rd_T48 l3 x39_2).f2) true _ ?q1 ?q2 ?q3 ?q4 ?q5 ?q6 A35.out).mono ?_); (case q1 => exact Kd.C_below HR0_1.out (by repeat ((with_reducible first | exact HB.out | refine below_set ?_ GE1157.out)))); (case q2 => exact HC0_1.out); (case q3 => exact Kd.C_below HR0_2.out (by repeat ((with_reducible first | exact HB.out | refine below_set ?_ GE1157.out)))); (case q4 => exact HC0_2.out); (case q5 => refine (Kd.R_reads' (e := 3) (base := w.heap.size) (ok := fun k_ => True) (n := x9_2.length) (c := co58) ?_).2.2; exact (Kd.R_mono (Kd.R_far (p := ⟨gb1157, 2, none⟩) (Kd.R_far (p := ⟨gb1157, 1, none⟩) (Kd.R_far (p := ⟨gb1157, 0, none⟩) (Kd.R_types HO_9.out BK1157.out (by decide)) (fun _ hk => hk.2) (.int .i64 ((rd_T48 l3 x39_2).f0))) (fun _ hk => hk.2) (.int .i64 ((rd_T48 l3 x39_2).f1))) (fun _ hk => hk.2) (.int .i64 ((rd_T48 l3 x39_2).f2))) (fun _ h_ => h_.1))); (case q6 => exact (Kd.R_reads' HO_9.out).2.1); rintro e w59 ⟨rfl, hb⟩; refine ⟨_, rfl, ?_⟩; replace HO_9 := Z.k (Kd.R_below (Kd.R_mono (Kd.R_far (p := ⟨gb1157, 2, none⟩) (Kd.R_far (p := ⟨gb1157, 1, none⟩) (Kd.R_far (p := ⟨gb1157, 0, none⟩) (Kd.R_types HO_9.out BK1157.out (by decide)) (fun _ hk => hk.2) (.int .i64 ((rd_T48 l3 x39_2).f0))) (fun _ hk => hk.2) (.int .i64 ((rd_T48 l3 x39_2).f1))) (fun _ hk => hk.2) (.int .i64 ((rd_T48 l3 x39_2).f2))) (fun _ h_ => h_.1)) hb); replace HO_10 := Z.k (Kd.R_below (Kd.R_mono (Kd.R_far (p := ⟨gb1157, 2, none⟩) (Kd.R_far (p := ⟨gb1157, 1, none⟩) (Kd.R_far (p := ⟨gb1157, 0, none⟩) (Kd.R_mono HO_10.out (fun k_ hk => (⟨hk, hk.2⟩ : _ ∧ k_ ≠ gb1157))) (fun _ hk => hk.2) (.int .i64 ((rd_T48 l3 x39_2).f0))) (fun _ hk => hk.2) (.int .i64 ((rd_T48 l3 x39_2).f1))) (fun _ hk => hk.2) (.int .i64 ((rd_T48 l3 x39_2).f2))) (fun _ h_ => h_.1)) hb); replace BK1142 := Z.k (blk_below (g := gb1142) (o := .cells #[.int .i64 a0_0, .slice A0_1 l0_1.length c0_1, .slice A0_2 l0_2.length c0_2] 46 (0, 0)) (by refine blk_far ?_ NB1142_1157.out _; refine blk_far ?_ NB1142_1157.out _; refine blk_far ?_ NB1142_1157.out _; exact BK1142.out) hb); replace BK1157 := Z.k (blk_below (g := gb1157) (o := .cells #[.int .i64 ((rd_T48 l3 x39_2).f0), .int .i64 ((rd_T48 l3 x39_2).f1), .int .i64 ((rd_T48 l3 x39_2).f2)] 48 (0, 0)) (by refine blk_put (cs := #[.int .i64 ((rd_T48 l3 x39_2).f0), .int .i64 ((rd_T48 l3 x39_2).f1), .int .i64 0]) ?_ 2 _ rfl; refine blk_put (cs := #[.int .i64 ((rd_T48 l3 x39_2).f0), .int .i64 0, .int .i64 0]) ?_ 1 _ rfl; refine blk_put (cs := #[.int .i64 0, .int .i64 0, .int .i64 0]) ?_ 0 _ rfl; exact BK1157.out) hb); replace HB := Z.k (below_step (by repeat ((with_reducible first | exact HB.out | refine below_set ?_ GE1157.out))) hb); (try clear hb); have hcz60 := Z.c3 BK1157.out) | (go_at_call 86; (with_reducible refine (impl_changed.calls _ _ x9_2 ((rd_T48 l3 x39_2).f0) ((rd_T48 l3 x39_2).f1) t1159 _ ?q1 ?q2 A37.out).mono ?_); (case q1 => exact (Kd.R_reads' HO_9.out).2.2); (case q2 => exact (Kd.R_reads' HO_9.out).2.1); rintro e w61 ⟨v1160, rfl, ho0, hb⟩; replace HO_10 := Z.k (Kd.R_below HO_10.out hb); have HO1161 := Z.k (Kd.R_lower (Kd.R_new' ho0 (Kd.R_lt HO_9.out)) (below_size HB.out)); replace HO_9 := Z.k (Kd.R_elder' HO_9.out (Kd.R_base ho0) hb); replace BK1142 := Z.bb BK1142 hb; replace BK1157 := Z.bb BK1157 hb; replace HB := Z.k (below_step HB.out hb); (try clear hb); (try clear ho0); obtain ⟨Ao62, co62, eo62⟩ := Kd.R_slice HO1161.out; subst eo62) | (go_at_call 75; (with_reducible refine (impl_stateNumber.calls k2 _ _ t1159 t1162 _ ?q1 ?q2 A38.out).mono ?_); (case q1 => exact (Kd.R_reads' HO1161.out).2.2); (case q2 => exact (Kd.R_reads' HO1161.out).2.1); rintro e w' ⟨rfl, ⟨nd, rfl⟩⟩; (try (rw [drewN_self w61]; generalize hq_ : World.drewN w61 _ = w61; replace HO1161 : Aside0 (Kd.R (Kd.int .i64) 3 w61 w.heap.size (fun k_ => some k_ ≠ (.slice Ao58 x9_2.length co58 : Value).ownBlock) (.slice Ao62 t1159.length co62) t1159) := ⟨by rw [← hq_]; exact (by (with_reducible repeat (apply Kd.R_drewN)); exact Kd.R_mono HO1161.out (fun _ hk => hk.2))⟩; replace HO_10 : Aside0 (Kd.R k48 48 w61 w.heap.size (fun k_ => k_ ≠ gb1157) u10 x10_2) := ⟨by rw [← hq_]; exact (by (with_reducible repeat (apply Kd.R_drewN)); exact Kd.R_mono HO_10.out (fun _ hk => hk.2))⟩; replace HO_9 : Aside0 (Kd.R (Kd.int .i64) 3 w61 w.heap.size (fun k_ => some k_ ≠ (.slice Ao62 t1159.length co62 : Value).ownBlock) (.slice Ao58 x9_2.length co58) x9_2) := ⟨by rw [← hq_]; exact (by (with_reducible repeat (apply Kd.R_drewN)); exact Kd.R_mono HO_9.out (fun _ hk => hk.2))⟩; replace BK1142 : Aside0 (w61.heap[gb1142]? = some (.cells #[.int .i64 a0_0, .slice A0_1 l0_1.length c0_1, .slice A0_2 l0_2.length c0_2] 46 (0, 0))) := ⟨by rw [← hq_]; exact (Z.bk BK1142.out)⟩; replace BK1157 : Aside0 (w61.heap[gb1157]? = some (.cells #[.int .i64 ((rd_T48 l3 x39_2).f0), .int .i64 ((rd_T48 l3 x39_2).f1), .int .i64 ((rd_T48 l3 x39_2).f2)] 48 (0, 0))) := ⟨by rw [← hq_]; exact (Z.bk BK1157.out)⟩; replace HB : Aside0 (Below w.heap.size w w61) := ⟨by rw [← hq_]; exact (by repeat ((with_reducible first | exact HB.out | apply pw_below_drewN)))⟩; clear hq_))) | (go_at_call 85; (with_reducible refine (slices_Contains_int_int.calls k2 _ _ l2 t1162 false _ ?q1 ?q2 A39.out).mono ?_); (case q1 => exact Z.cc HR2 HB); (case q2 => exact HC2.out); rintro e w' ⟨rfl, ⟨nd, rfl⟩⟩; (try (rw [drewN_self w61]; generalize hq_ : World.drewN w61 _ = w61; replace HO1161 : Aside0 (Kd.R (Kd.int .i64) 3 w61 w.heap.size (fun k_ => some k_ ≠ (.slice Ao58 x9_2.length co58 : Value).ownBlock) (.slice Ao62 t1159.length co62) t1159) := ⟨by rw [← hq_]; exact (by (with_reducible repeat (apply Kd.R_drewN)); exact HO1161.out)⟩; replace HO_10 : Aside0 (Kd.R k48 48 w61 w.heap.size (fun k_ => k_ ≠ gb1157) u10 x10_2) := ⟨by rw [← hq_]; exact (by (with_reducible repeat (apply Kd.R_drewN)); exact HO_10.out)⟩; replace HO_9 : Aside0 (Kd.R (Kd.int .i64) 3 w61 w.heap.size (fun k_ => some k_ ≠ (.slice Ao62 t1159.length co62 : Value).ownBlock) (.slice Ao58 x9_2.length co58) x9_2) := ⟨by rw [← hq_]; exact (by (with_reducible repeat (apply Kd.R_drewN)); exact HO_9.out)⟩; replace BK1142 : Aside0 (w61.heap[gb1142]? = some (.cells #[.int .i64 a0_0, .slice A0_1 l0_1.length c0_1, .slice A0_2 l0_2.length c0_2] 46 (0, 0))) := ⟨by rw [← hq_]; exact (Z.bk BK1142.out)⟩; replace BK1157 : Aside0 (w61.heap[gb1157]? = some (.cells #[.int .i64 ((rd_T48 l3 x39_2).f0), .int .i64 ((rd_T48 l3 x39_2).f1), .int .i64 ((rd_T48 l3 x39_2).f2)] 48 (0, 0))) := ⟨by rw [← hq_]; exact (Z.bk BK1157.out)⟩; replace HB : Aside0 (Below w.heap.size w w61) := ⟨by rw [← hq_]; exact (by repeat ((with_reducible first | exact HB.out | apply pw_below_drewN)))⟩; clear hq_)); have hcz63 := Z.c3 BK1157.out; have p52 : 0 ≤ (((rd_T48 l3 x39_2).f0) : Int) := Z.od; have q52 : (((rd_T48 l3 x39_2).f0) : Int) < ((x9_2.length : Int) : Int) := Z.od; obtain ⟨go52, co52, eo52, gb52, gl52, cl52, HG52⟩ := Kd.R_form HO_9.out (by omega); (cases eo52); have GB52 := Z.k gb52; have GG52 := Z.k HG52; clear gb52 gl52 HG52; obtain ⟨hx52_0, hf52_0⟩ := Kd.R_celln 0 HO_9.out (((rd_T48 l3 x39_2).f0) : Int) p52 q52; replace p52 := eq_true p52; replace q52 := eq_true q52; have n_ := Z.k HO_9.out; clear HO_9; have HO_9 := n_; clear n_; obtain ⟨hy64_, hz64_⟩ := Kd.R_celln 0 HO_9.out (((rd_T48 l3 x39_2).f0) : Int) (Z.od) (Z.od); have HP64 := Kd.R_putg HO_9.out (((rd_T48 l3 x39_2).f0) : Int) ((rd_T48 l3 x39_2).f1)) | ((with_reducible refine gate_store (t := 3) (p := 64) rfl ?_); refine store_event (t := 3) (p := 64) (v := ?vo_w65) (w1 := (w61.setCell ⟨go52, (((rd_T48 l3 x39_2).f0) : Int).toNat, none⟩ (.int .i64 ((rd_T48 l3 x39_2).f1)))) ?hg ?ho ?hn ?hr ?_; (case ho => rfl); (case hg => rfl); (case hn => rfl); (case hr => (go_simp; done)); intro w65 hw; have hg : w61.grownBy w65 (some go52) := (by rw [hw]; exact HP64.2); have hp_ : Kd.R (Kd.int .i64) 3 w65 w.heap.size (fun k_ => some k_ ≠ (.slice Ao62 t1159.length co62 : Value).ownBlock) (.slice (some ⟨go52, 0, none⟩) x9_2.length co58) y1164 := (by rw [hw, Ny1164.out]; exact HP64.1); clear HP64; replace HO_10 := Z.k (Kd.R_over' (v := (.slice (some ⟨go52, 0, none⟩) x9_2.length co58)) HO_10.out (Kd.R_typed HO_9.out) (by decide) hg); replace BK1142 := Z.k (blk_grown (g := gb1142) (o := .cells #[.int .i64 a0_0, .slice A0_1 l0_1.length c0_1, .slice A0_2 l0_2.length c0_2] 46 (0, 0)) (Z.bk BK1142.out) hg (Kd.R_ne HO_9.out BK1142.out (by decide))); replace BK1157 := Z.k (blk_grown (g := gb1157) (o := .cells #[.int .i64 ((rd_T48 l3 x39_2).f0), .int .i64 ((rd_T48 l3 x39_2).f1), .int .i64 ((rd_T48 l3 x39_2).f2)] 48 (0, 0)) (Z.bk BK1157.out) hg (Kd.R_ne HO_9.out BK1157.out (by decide))); replace HO_9 := Z.k hp_; replace HO1161 := Z.k (Kd.R_after (v := (.slice (some ⟨go52, 0, none⟩) x9_2.length co58)) (v1 := (.slice (some ⟨go52, 0, none⟩) x9_2.length co58)) (ok := (fun _ => True)) (Kd.R_mono HO1161.out (fun _ h => ⟨trivial, h⟩)) hg (.inl rfl)); replace HB := Z.k ((by rw [hw]; exact below_set (HB.out) GB52.out : Below w.heap.size w w65)); clear hg hw hp_; have hcz66 := Z.c3 BK1157.out) | ((with_reducible refine gate_builtin (b := .append) (xs := #[.tmp 65, .tmp 67]) rfl ?_); (try (refine gate_guard (by rfl) ?_; dsimp only)); at_builtin; refine Kd.R_append k48 (w0 := w) w.heap.size rfl (.tmp 65) (.tmp 67) 58 48 (.agg #[(.int .i64 0), (.int .i64 0), (.int .i64 0)]) 24 rfl Try.underlying58 info48 rfl (by decide) (by omega) u10 x10_2 (⟨(rd_T48 l3 x39_2).f0, (rd_T48 l3 x39_2).f1, (rd_T48 l3 x39_2).f2⟩ : S48) [.int .i64 ((rd_T48 l3 x39_2).f0), .int .i64 ((rd_T48 l3 x39_2).f1), .int .i64 ((rd_T48 l3 x39_2).f2)] (fun k_ => k_ ≠ gb1157) (fun _ => False) rfl rfl ?aP (fun _ hk => hk.elim) ?aF ?aO ?aB ?aS ?aL ?_; (case aP => exact k48_mkM _ _ _ (⟨(rd_T48 l3 x39_2).f0, (rd_T48 l3 x39_2).f1, (rd_T48 l3 x39_2).f2⟩ : S48)); (case aB => exact HB.out); (case aF => exact (fun k_ hk => Kd.freshB (g := gb1157) (o := .cells #[.int .i64 ((rd_T48 l3 x39_2).f0), .int .i64 ((rd_T48 l3 x39_2).f1), .int .i64 ((rd_T48 l3 x39_2).f2)] 48 (0, 0)) (Z.bk BK1157.out) k_ hk)); (case aO => exact HO_10.out); (case aS => exact (below_size HB.out)); (case aL => have := LMc53.out; omega); intro v1166 w67 ho hb hg hat; rw [← Ny1165.out] at ho; replace HO_9 := Z.k (Kd.R_over' HO_9.out (Kd.R_typed HO_10.out) (by decide) hg); replace BK1142 := Z.k (blk_grown (g := gb1142) (o := .cells #[.int .i64 a0_0, .slice A0_1 l0_1.length c0_1, .slice A0_2 l0_2.length c0_2] 46 (0, 0)) (Z.bk BK1142.out) hg (Kd.R_ne HO_10.out BK1142.out (by decide))); replace BK1157 := Z.k (blk_grown (g := gb1157) (o := .cells #[.int .i64 ((rd_T48 l3 x39_2).f0), .int .i64 ((rd_T48 l3 x39_2).f1), .int .i64 ((rd_T48 l3 x39_2).f2)] 48 (0, 0)) (Z.bk BK1157.out) hg ((Kd.R_away HO_10.out (fun _ hk => hk)))); replace HO1161 := Z.k (Kd.R_over' HO1161.out (Kd.R_typed HO_10.out) (by decide) hg); replace HB := Z.k hb; have HO1167 := Z.k ho; clear HO_10; clear ho hb hg hat))
         go_roundg k2
         case measure => have := HJ4.out; have := HK2.out; omega
         case rel => exact ⟨(y1164), (y1165), (wrap64 (x39_2 + 1)), (by rfl), H', ⟨by have := HJ4.out; have := HK2.out; omega⟩, ⟨by exact Kd.R_mono HO_9.out (fun _ hk => trivial)⟩, ⟨by exact Kd.R_mono HO1167.out (fun _ hk => trivial)⟩, ⟨by exact BK1142.out⟩, ⟨HB.out⟩⟩
       ·replace c36 := Bool.eq_false_iff.mpr c36
        subst c36
        rw [if_neg (show ¬ (false = true) by decide)] at H
        have H' := Z.k H
        clear H
        have p1156 : 0 ≤ (x39_2 : Int) := Z.od
        have q1156 : x39_2 < (l3.length : Int) := Z.od
        obtain ⟨ad1156, rfl, hx1156_0, hx1156_1, hx1156_2⟩ := at_T48 HR3.out x39_2 p1156 q1156
        replace hx1156_0 := Z.up HB.out hx1156_0
        replace hx1156_1 := Z.up HB.out hx1156_1
        replace hx1156_2 := Z.up HB.out hx1156_2
        replace p1156 := eq_true p1156
        replace q1156 := eq_true q1156
        go_wp2_with (first | ((with_reducible refine gate_dst (N := 12) rfl ?_); (try (refine gate_guard (by rfl) ?_; dsimp only)); refine Z.bz #[.int .i64 0, .int .i64 0, .int .i64 0] 48 HB GE1142 ?_; clear HB; intro gb1157 w68 BK1157 GE1157 HB hg hb; have GW1157 := GE1157; replace HO_9 := Z.k (Kd.R_below HO_9.out hb); replace HO_10 := Z.k (Kd.R_below (Kd.R_elderB HO_10.out gb1157 (Nat.le_of_eq hg.symm)) hb); have NB1142_1157 := Z.nl hg BK1142; have NB1157_1142 := Z.ng hg BK1142; replace BK1142 := Z.bb BK1142 hb; clear hb hg; have hnb69 := NB1157_1142.out; have hnc69 := NB1142_1157.out; have hcz70 := Z.c3 BK1157.out; have hcz71 := Z.c3 BK1142.out; obtain ⟨Ao72, co72, eo72⟩ := Kd.R_slice HO_9.out; subst eo72) | ((with_reducible refine gate_callee (f := 76) rfl ?_); refine goesL_ (some 46) rfl rfl Try.func76 (by kernel_rfl) rfl #[.agg #[.int .i64 a0_0, .slice A0_1 l0_1.length c0_1, .slice A0_2 l0_2.length c0_2], .slice Ao72 x9_2.length co72, .agg #[.int .i64 ((rd_T48 l3 x39_2).f0), .int .i64 ((rd_T48 l3 x39_2).f1), .int .i64 ((rd_T48 l3 x39_2).f2)]] rfl Z.ar ?_; (with_reducible refine (impl_mayAct.calls k2 a0_0 _ _ l0_1 _ _ l0_2 _ _ x9_2 ((rd_T48 l3 x39_2).f0) ((rd_T48 l3 x39_2).f1) ((rd_T48 l3 x39_2).f2) false _ ?q1 ?q2 ?q3 ?q4 ?q5 ?q6 A35.out).mono ?_); (case q1 => exact Kd.C_below HR0_1.out (by repeat ((with_reducible first | exact HB.out | refine below_set ?_ GE1157.out)))); (case q2 => exact HC0_1.out); (case q3 => exact Kd.C_below HR0_2.out (by repeat ((with_reducible first | exact HB.out | refine below_set ?_ GE1157.out)))); (case q4 => exact HC0_2.out); (case q5 => refine (Kd.R_reads' (e := 3) (base := w.heap.size) (ok := fun k_ => True) (n := x9_2.length) (c := co72) ?_).2.2; exact (Kd.R_mono (Kd.R_far (p := ⟨gb1157, 2, none⟩) (Kd.R_far (p := ⟨gb1157, 1, none⟩) (Kd.R_far (p := ⟨gb1157, 0, none⟩) (Kd.R_types HO_9.out BK1157.out (by decide)) (fun _ hk => hk.2) (.int .i64 ((rd_T48 l3 x39_2).f0))) (fun _ hk => hk.2) (.int .i64 ((rd_T48 l3 x39_2).f1))) (fun _ hk => hk.2) (.int .i64 ((rd_T48 l3 x39_2).f2))) (fun _ h_ => h_.1))); (case q6 => exact (Kd.R_reads' HO_9.out).2.1); rintro e w73 ⟨rfl, hb⟩; refine ⟨_, rfl, ?_⟩; replace HO_9 := Z.k (Kd.R_below (Kd.R_mono (Kd.R_far (p := ⟨gb1157, 2, none⟩) (Kd.R_far (p := ⟨gb1157, 1, none⟩) (Kd.R_far (p := ⟨gb1157, 0, none⟩) (Kd.R_types HO_9.out BK1157.out (by decide)) (fun _ hk => hk.2) (.int .i64 ((rd_T48 l3 x39_2).f0))) (fun _ hk => hk.2) (.int .i64 ((rd_T48 l3 x39_2).f1))) (fun _ hk => hk.2) (.int .i64 ((rd_T48 l3 x39_2).f2))) (fun _ h_ => h_.1)) hb); replace HO_10 := Z.k (Kd.R_below (Kd.R_mono (Kd.R_far (p := ⟨gb1157, 2, none⟩) (Kd.R_far (p := ⟨gb1157, 1, none⟩) (Kd.R_far (p := ⟨gb1157, 0, none⟩) (Kd.R_mono HO_10.out (fun k_ hk => (⟨hk, hk.2⟩ : _ ∧ k_ ≠ gb1157))) (fun _ hk => hk.2) (.int .i64 ((rd_T48 l3 x39_2).f0))) (fun _ hk => hk.2) (.int .i64 ((rd_T48 l3 x39_2).f1))) (fun _ hk => hk.2) (.int .i64 ((rd_T48 l3 x39_2).f2))) (fun _ h_ => h_.1)) hb); replace BK1142 := Z.k (blk_below (g := gb1142) (o := .cells #[.int .i64 a0_0, .slice A0_1 l0_1.length c0_1, .slice A0_2 l0_2.length c0_2] 46 (0, 0)) (by refine blk_far ?_ NB1142_1157.out _; refine blk_far ?_ NB1142_1157.out _; refine blk_far ?_ NB1142_1157.out _; exact BK1142.out) hb); replace BK1157 := Z.k (blk_below (g := gb1157) (o := .cells #[.int .i64 ((rd_T48 l3 x39_2).f0), .int .i64 ((rd_T48 l3 x39_2).f1), .int .i64 ((rd_T48 l3 x39_2).f2)] 48 (0, 0)) (by refine blk_put (cs := #[.int .i64 ((rd_T48 l3 x39_2).f0), .int .i64 ((rd_T48 l3 x39_2).f1), .int .i64 0]) ?_ 2 _ rfl; refine blk_put (cs := #[.int .i64 ((rd_T48 l3 x39_2).f0), .int .i64 0, .int .i64 0]) ?_ 1 _ rfl; refine blk_put (cs := #[.int .i64 0, .int .i64 0, .int .i64 0]) ?_ 0 _ rfl; exact BK1157.out) hb); replace HB := Z.k (below_step (by repeat ((with_reducible first | exact HB.out | refine below_set ?_ GE1157.out))) hb); (try clear hb)))
        go_roundg k2
        case measure => have := HJ4.out; have := HK2.out; omega
        case rel => exact ⟨(x9_2), (x10_2), (wrap64 (x39_2 + 1)), (by rfl), H', ⟨by have := HJ4.out; have := HK2.out; omega⟩, ⟨by exact HO_9.out⟩, ⟨by exact Kd.R_mono HO_10.out (fun _ hk => trivial)⟩, ⟨by exact BK1142.out⟩, ⟨HB.out⟩⟩
      ·rw [if_neg c32] at H
       have c32b0 := decide_eq_false c32
       clear c32
       obtain rfl := Option.some.inj H
       go_wp2
       go_ret
       exact ⟨_, by rfl, by exact HO_10.out, Z.bs HB.out GE1142.out⟩

end Go.Proofs.Ytojoblllgddckaa.PAll
