/- Walks of functions that laws of this seat reach, in the form of the print. -/
import Derived.Test.YtojoblllgddckaaCAll0
import Derived.Test.YtojoblllgddckaaCAll1
import Derived.Test.YtojoblllgddckaaCAll25
import Derived.Test.YtojoblllgddckaaCAll35
import Derived.Test.YtojoblllgddckaaZ
-- PRINTED
namespace Go.Proofs.Ytojoblllgddckaa.PAll
open Go.RowKit Go.Proofs.YtojoblllgddckaaW.PrintWords Go.Proofs.YtojoblllgddckaaW.PrintLast Go.Proofs.YtojoblllgddckaaW.PrintMore
attribute [local go_sem] max2_int min2_int max_two min_two max_three min_three max_four min_four
set_option linter.unusedVariables false
set_option linter.unusedSimpArgs false

/-! ### spec_SafeActs: function 45 -/
mutual
def spec_SafeActs.j0 : Nat → List Int → List Int → List (S48) → List (S48) → Bool → Int → List Int → List (List (S91)) → Option ((List (S48)))
 | 0, _, _, _, _, _, _, _, _ => none
 | k + 1, x1, x2, x3, x9, x28, x1175000, x1175001, x1175002 => if x28 = true then (some x9) else ((some (([] : List Int) : List Int)).bind fun y1180 => (if y1180.length + x1.length < 17592186044416 then (spec_SafeActs.l0 k x2 x3 x9 (y1180 ++ x1) 0 x1175000 x1175001 x1175002) else (none)))
def spec_SafeActs.l0 : Nat → List Int → List (S48) → List (S48) → List Int → Int → Int → List Int → List (List (S91)) → Option ((List (S48)))
 | 0, _, _, _, _, _, _, _, _ => none
 | k + 1, x2, x3, x9, x10, x11, x1175000, x1175001, x1175002 => if x11 < (x3.length : Int) then (if 0 ≤ x11 then ((spec_MayChange.f k x1175000 x1175001 x1175002 x10 ((rd_T48 x3 x11).f0) ((rd_T48 x3 x11).f1) ((rd_T48 x3 x11).f2)).bind fun t1189 => (if t1189 = true then ((some (([] : List Int) : List Int)).bind fun y1190 => (if y1190.length + x10.length < 17592186044416 then ((some (y1190 ++ x10 : List Int)).bind fun y1193 => (if 0 ≤ ((rd_T48 x3 x11).f0) then (if ((rd_T48 x3 x11).f0) < (y1193.length : Int) then ((some (y1193.set (((rd_T48 x3 x11).f0) : Int).toNat ((rd_T48 x3 x11).f1) : List Int)).bind fun y1198 => ((spec_l11Bad.f k x2 y1198).bind fun t1199 => (if t1199 = true then (spec_SafeActs.l0 k x2 x3 x9 x10 (wrap64 (x11 + 1)) x1175000 x1175001 x1175002) else (if x9.length < 5864062014805 then (spec_SafeActs.l0 k x2 x3 (x9 ++ [(⟨(rd_T48 x3 x11).f0, (rd_T48 x3 x11).f1, (rd_T48 x3 x11).f2⟩ : S48)]) y1198 (wrap64 (x11 + 1)) x1175000 x1175001 x1175002) else (none))))) else (none)) else (none))) else (none))) else (spec_SafeActs.l0 k x2 x3 x9 x10 (wrap64 (x11 + 1)) x1175000 x1175001 x1175002))) else (none)) else (some x9)
end
def spec_SafeActs.f (k : Nat) (a0_0 : Int) (l0_1 : List Int) (l0_2 : List (List (S91))) (l1 : List Int) (l2 : List Int) (l3 : List (S48)) : Option ((List (S48))) := (some (([] : List (S48)) : List (S48))).bind fun y1175 => ((spec_l11Ok.f k a0_0 l0_1 l0_2 l1 l2).bind fun t1178 => (if t1178 = true then (if (l3.length : Int) > 12 then (spec_SafeActs.j0 k l1 l2 l3 y1175 true a0_0 l0_1 l0_2) else ((spec_l11Bad.f k l2 l1).bind fun t1179 => (spec_SafeActs.j0 k l1 l2 l3 y1175 t1179 a0_0 l0_1 l0_2))) else (spec_SafeActs.j0 k l1 l2 l3 y1175 true a0_0 l0_1 l0_2)))
def spec_SafeActs.T8 : Bool × List (List Nat × List Nat) := (true, [([], []), ([], []), ([], []), ([], []), ([2, 3], [2, 3]), ([4], [4]), ([5], [5]), ([], []), ([], []), ([7, 8], [7, 8]), ([9], [9]), ([10], [10]), ([], []), ([], []), ([12, 13], [12, 13]), ([14], [14]), ([15], [15]), ([0, 1, 6, 11, 16], [0, 1, 6, 11, 16]), ([17], [17])])
def spec_SafeActs.B8 : List Nat := [0, 0, 0, 0, 12, 28, 60, 0, 0, 384, 896, 1920, 0, 0, 12288, 28672, 61440, 131071, 262143]
theorem spec_SafeActs.tab8 : rtab .any (opsOf Try.f45 8) = spec_SafeActs.T8 := by kernel_rfl
theorem spec_SafeActs.bits8 : waitsOk spec_SafeActs.T8.2 spec_SafeActs.B8 = true := by kernel_rfl
def spec_SafeActs.T10 : Bool × List (List Nat × List Nat) := (true, [([], []), ([], []), ([], []), ([1, 2], [1, 2]), ([3], [3]), ([4], [4]), ([], []), ([], []), ([6, 7], [6, 7]), ([8], [8]), ([9], [9]), ([0, 5, 0, 1, 2, 3, 4, 5, 6, 7, 8, 9, 10], [0, 5]), ([11, 10, 0, 1, 2, 3, 4, 5, 6, 7, 8, 9, 10], [10, 11])])
def spec_SafeActs.B10 : List Nat := [0, 0, 0, 6, 14, 30, 0, 0, 192, 448, 960, 2047, 4095]
theorem spec_SafeActs.tab10 : rtab .any (opsOf Try.f45 10) = spec_SafeActs.T10 := by kernel_rfl
theorem spec_SafeActs.bits10 : waitsOk spec_SafeActs.T10.2 spec_SafeActs.B10 = true := by kernel_rfl
set_option maxHeartbeats 8000000 in
set_option maxRecDepth 100000 in
theorem spec_SafeActs.calls (k : Nat) (a0_0 : Int) (A0_1 : Option Addr) (c0_1 : Nat) (l0_1 : List Int) (A0_2 : Option Addr) (c0_2 : Nat) (l0_2 : List (List (S91))) (A1 : Option Addr) (c1 : Nat) (l1 : List Int) (A2 : Option Addr) (c2 : Nat) (l2 : List Int) (A3 : Option Addr) (c3 : Nat) (l3 : List (S48)) (r : List (S48)) (w : World) (hr0_1 : Kd.C (Kd.int .i64) w A0_1 l0_1.length l0_1) (hc0_1 : l0_1.length ≤ c0_1) (hr0_2 : Kd.C (Kd.slice 91 k91) w A0_2 l0_2.length l0_2) (hc0_2 : l0_2.length ≤ c0_2) (hr1 : Kd.C (Kd.int .i64) w A1 l1.length l1) (hc1 : l1.length ≤ c1) (hr2 : Kd.C (Kd.int .i64) w A2 l2.length l2) (hc2 : l2.length ≤ c2) (hr3 : Kd.C k48 w A3 l3.length l3) (hc3 : l3.length ≤ c3) (h : spec_SafeActs.f k a0_0 l0_1 l0_2 l1 l2 l3 = some r) :
  Calls Try.prog 45 #[.agg #[.int .i64 a0_0, .slice A0_1 l0_1.length c0_1, .slice A0_2 l0_2.length c0_2], .slice A1 l1.length c1, .slice A2 l2.length c2, .slice A3 l3.length c3] w fun e w' => ∃ v0_ : Value, e = .returned (v0_) ∧ Kd.R k48 48 w' w.heap.size (fun _ => True) v0_ r ∧ Below w.heap.size w w' := by
 have hu46 := Try.underlying46
 have hu48 := Try.underlying48
 have HR0_1 := Z.k hr0_1
 have HC0_1 := Z.k hc0_1
 clear hr0_1 hc0_1
 have HR0_2 := Z.k hr0_2
 have HC0_2 := Z.k hc0_2
 clear hr0_2 hc0_2
 have HR1 := Z.k hr1
 have HC1 := Z.k hc1
 clear hr1 hc1
 have HR2 := Z.k hr2
 have HC2 := Z.k hc2
 clear hr2 hc2
 have HR3 := Z.k hr3
 have HC3 := Z.k hc3
 clear hr3 hc3
 have HB := Z.k (Below.refl w.heap.size w)
 have H := h
 clear h
 unfold spec_SafeActs.f at H
 obtain ⟨y1175, hy1175⟩ : ∃ y_ : List (S48), y_ = (([] : List (S48))) := ⟨_, rfl⟩
 replace H : ((spec_l11Ok.f k a0_0 l0_1 l0_2 l1 l2).bind fun t1178 => (if t1178 = true then (if (l3.length : Int) > 12 then (spec_SafeActs.j0 k l1 l2 l3 y1175 true a0_0 l0_1 l0_2) else ((spec_l11Bad.f k l2 l1).bind fun t1179 => (spec_SafeActs.j0 k l1 l2 l3 y1175 t1179 a0_0 l0_1 l0_2))) else (spec_SafeActs.j0 k l1 l2 l3 y1175 true a0_0 l0_1 l0_2))) = some r := by (have H2_ := (Option.bind_some _ _).symm.trans H; rw [hy1175]; with_reducible exact H2_)
 have Ny1175 := Z.k hy1175
 clear hy1175
 have HC5 := Z.k H
 clear H
 go_enter Try.func45, Try.ntmps45
 go_upto_region 2 with (first | ((with_reducible refine gate_dst (N := 4) rfl ?_); (try (refine gate_guard (by rfl) ?_; dsimp only)); refine Z.bx #[.int .i64 a0_0, .slice A0_1 l0_1.length c0_1, .slice A0_2 l0_2.length c0_2] 46 HB ?_; clear HB; intro gb1174 w6 BK1174 GE1174 HB hg hb; have GW1174 := GE1174; clear hb hg) | ((with_reducible refine gate_dst (N := 13) rfl ?_); (try (refine gate_guard (by rfl) ?_; dsimp only)); refine Kd.R_lit k48 _ 48 ?hg (N := 13) ?hd (xs := ([] : List (S48))) (inner := []) (ok := fun _ => True) (okp := fun _ => True) ?hr ?hp (fun _ hk => hk) trivial (Below.refl _ _) (Nat.le_refl _) (by simp) ?_; (case hd | hg => rfl); (case hr => (go_simp; done)); (case hp => exact (Reps.none _ _)); intro v1176 w7 ho8 hb hg_ hnew_; clear hg_ hnew_; (rw [← Ny1175.out] at ho8); have HO1177 := Z.k (Kd.R_lower ho8 (below_size (Z.bs HB.out GE1174.out))); replace BK1174 := Z.bb BK1174 hb; replace HB := Z.st (Z.bs HB.out GE1174.out) hb; clear hb ho8))
 go_cut [28] (fun v28 wc => ∃ (kq : Nat) (x28_4 : Bool), v28 = .bool x28_4 ∧ Aside0 (spec_SafeActs.j0 kq l1 l2 l3 y1175 x28_4 a0_0 l0_1 l0_2 = some r) ∧ Aside0 (kq ≤ k) ∧ Aside0 (Kd.R k48 48 wc w.heap.size (fun _ => True) v1176 y1175) ∧ Aside0 (wc.heap[gb1174]? = some (.cells #[.int .i64 a0_0, (.slice A0_1 l0_1.length c0_1), (.slice A0_2 l0_2.length c0_2)] 46 (0, 0))) ∧ Aside0 (Below w.heap.size w wc))
 case first =>
  have H := HC5.out
  clear HC5
  replace H := Option.bind_eq_some_iff.mp H
  obtain ⟨t1178, A90, H⟩ := H
  have A9 := Z.k A90
  clear A90
  by_cases c10 : t1178 = true
  ·subst c10
   rw [if_pos rfl] at H
   by_cases c11 : (l3.length : Int) > 12
   ·rw [if_pos c11] at H
    have c11b0 : decide (12 < (l3.length : Int)) = true := decide_eq_true c11
    have c11b1 : decide (12 < l3.length) = true := decide_eq_true (by omega)
    clear c11
    have H' := Z.k H
    clear H
    have hcz12 := Z.c3 BK1174.out
    go_wp2_with (((with_reducible refine gate_callee (f := 87) rfl ?_); refine goesL_ (some 17) rfl rfl Try.func87 (by kernel_rfl) rfl #[.agg #[.int .i64 a0_0, .slice A0_1 l0_1.length c0_1, .slice A0_2 l0_2.length c0_2], .slice A1 l1.length c1, .slice A2 l2.length c2] rfl Z.ar ?_; (with_reducible refine (spec_l11Ok.calls k a0_0 _ _ l0_1 _ _ l0_2 _ _ l1 _ _ l2 true _ ?q1 ?q2 ?q3 ?q4 ?q5 ?q6 ?q7 ?q8 A9.out).mono ?_); (case q1 => exact Z.cc HR0_1 HB); (case q2 => exact HC0_1.out); (case q3 => exact Z.cc HR0_2 HB); (case q4 => exact HC0_2.out); (case q5 => exact Z.cc HR1 HB); (case q6 => exact HC1.out); (case q7 => exact Z.cc HR2 HB); (case q8 => exact HC2.out); rintro e w13 ⟨rfl, hb⟩; refine ⟨_, rfl, ?_⟩; replace HO1177 := Z.k (Kd.R_below HO1177.out hb); replace BK1174 := Z.bb BK1174 hb; replace HB := Z.st (Z.bs HB.out GE1174.out) hb; (try clear hb)))
    go_meet
    case rel => exact ⟨_, (true), (by rfl), H', ⟨by omega⟩, ⟨by exact HO1177.out⟩, ⟨by exact BK1174.out⟩, ⟨Z.bs HB.out GE1174.out⟩⟩
   ·rw [if_neg c11] at H
    have c11b0 : decide (12 < (l3.length : Int)) = false := decide_eq_false c11
    have c11b1 : decide (12 < l3.length) = false := decide_eq_false (by omega)
    clear c11
    replace H := Option.bind_eq_some_iff.mp H
    obtain ⟨t1179, A140, H⟩ := H
    have A14 := Z.k A140
    clear A140
    have H' := Z.k H
    clear H
    have hcz15 := Z.c3 BK1174.out
    go_wp2_with (first | ((with_reducible refine gate_callee (f := 87) rfl ?_); refine goesL_ (some 17) rfl rfl Try.func87 (by kernel_rfl) rfl #[.agg #[.int .i64 a0_0, .slice A0_1 l0_1.length c0_1, .slice A0_2 l0_2.length c0_2], .slice A1 l1.length c1, .slice A2 l2.length c2] rfl Z.ar ?_; (with_reducible refine (spec_l11Ok.calls k a0_0 _ _ l0_1 _ _ l0_2 _ _ l1 _ _ l2 true _ ?q1 ?q2 ?q3 ?q4 ?q5 ?q6 ?q7 ?q8 A9.out).mono ?_); (case q1 => exact Z.cc HR0_1 HB); (case q2 => exact HC0_1.out); (case q3 => exact Z.cc HR0_2 HB); (case q4 => exact HC0_2.out); (case q5 => exact Z.cc HR1 HB); (case q6 => exact HC1.out); (case q7 => exact Z.cc HR2 HB); (case q8 => exact HC2.out); rintro e w16 ⟨rfl, hb⟩; refine ⟨_, rfl, ?_⟩; replace HO1177 := Z.k (Kd.R_below HO1177.out hb); replace BK1174 := Z.bb BK1174 hb; replace HB := Z.st (Z.bs HB.out GE1174.out) hb; (try clear hb)) | (go_at_call 88; (with_reducible refine (spec_l11Bad.calls k _ _ l2 _ _ l1 t1179 _ ?q1 ?q2 ?q3 ?q4 A14.out).mono ?_); (case q1 => exact Z.cc HR2 HB); (case q2 => exact HC2.out); (case q3 => exact Z.cc HR1 HB); (case q4 => exact HC1.out); rintro e w' ⟨rfl, ⟨nd, rfl⟩⟩))
    go_meet
    case rel => exact ⟨_, (t1179), (by rfl), H', ⟨by omega⟩, ⟨by (with_reducible repeat (apply Kd.R_drewN)); exact HO1177.out⟩, ⟨by (with_reducible repeat (refine blk_drewN ?_ _)); exact BK1174.out⟩, ⟨Z.bs HB.out GE1174.out⟩⟩
  ·replace c10 := Bool.eq_false_iff.mpr c10
   subst c10
   rw [if_neg (show ¬ (false = true) by decide)] at H
   have H' := Z.k H
   clear H
   have hcz17 := Z.c3 BK1174.out
   go_wp2_with (((with_reducible refine gate_callee (f := 87) rfl ?_); refine goesL_ (some 17) rfl rfl Try.func87 (by kernel_rfl) rfl #[.agg #[.int .i64 a0_0, .slice A0_1 l0_1.length c0_1, .slice A0_2 l0_2.length c0_2], .slice A1 l1.length c1, .slice A2 l2.length c2] rfl Z.ar ?_; (with_reducible refine (spec_l11Ok.calls k a0_0 _ _ l0_1 _ _ l0_2 _ _ l1 _ _ l2 false _ ?q1 ?q2 ?q3 ?q4 ?q5 ?q6 ?q7 ?q8 A9.out).mono ?_); (case q1 => exact Z.cc HR0_1 HB); (case q2 => exact HC0_1.out); (case q3 => exact Z.cc HR0_2 HB); (case q4 => exact HC0_2.out); (case q5 => exact Z.cc HR1 HB); (case q6 => exact HC1.out); (case q7 => exact Z.cc HR2 HB); (case q8 => exact HC2.out); rintro e w18 ⟨rfl, hb⟩; refine ⟨_, rfl, ?_⟩; replace HO1177 := Z.k (Kd.R_below HO1177.out hb); replace BK1174 := Z.bb BK1174 hb; replace HB := Z.st (Z.bs HB.out GE1174.out) hb; (try clear hb)))
   go_meet
   case rel => exact ⟨_, (true), (by rfl), H', ⟨by omega⟩, ⟨by exact HO1177.out⟩, ⟨by exact BK1174.out⟩, ⟨Z.bs HB.out GE1174.out⟩⟩
 case rest =>
  clear HC5
  obtain ⟨kq, x28_4, rfl, HA, HJ4, HO_9, BK1174, HB⟩ := hcut
  cases kq with
  | zero => exact absurd HA.out (by simp [spec_SafeActs.j0])
  | succ kj4 =>
   have H := HA.out
   clear HA
   simp only [spec_SafeActs.j0] at H
   by_cases c19 : x28_4 = true
   ·subst c19
    rw [if_pos rfl] at H
    obtain rfl := Option.some.inj H
    go_wp2
    go_ret
    exact ⟨_, by rfl, by exact HO_9.out, Z.bs HB.out GE1174.out⟩
   ·replace c19 := Bool.eq_false_iff.mpr c19
    subst c19
    rw [if_neg (show ¬ (false = true) by decide)] at H
    obtain ⟨y1180, hy1180⟩ : ∃ y_ : List Int, y_ = (([] : List Int)) := ⟨_, rfl⟩
    replace H : (if y1180.length + l1.length < 17592186044416 then (spec_SafeActs.l0 kj4 l2 l3 y1175 (y1180 ++ l1) 0 a0_0 l0_1 l0_2) else (none)) = some r := by (have H2_ := (Option.bind_some _ _).symm.trans H; rw [hy1180]; with_reducible exact H2_)
    have Ny1180 := Z.k hy1180
    clear hy1180
    obtain ⟨c20, H⟩ := Z.ifp H
    have LMc20 := Z.k c20
    clear c20
    obtain ⟨y1183, hy1183⟩ : ∃ y_ : List Int, y_ = (y1180 ++ l1) := ⟨_, rfl⟩
    replace H : (spec_SafeActs.l0 kj4 l2 l3 y1175 y1183 0 a0_0 l0_1 l0_2) = some r := by (rw [hy1183]; with_reducible exact H)
    have Ny1183 := Z.k hy1183
    clear hy1183
    have H' := Z.k H
    clear H
    go_wp2_with (first | ((with_reducible refine gate_dst (N := 30) rfl ?_); (try (refine gate_guard (by rfl) ?_; dsimp only)); refine Kd.R_lit (Kd.int .i64) _ 3 ?hg (N := 30) ?hd (xs := ([] : List Int)) (inner := []) (ok := fun _ => True) (okp := fun _ => True) ?hr ?hp (fun _ hk => hk) trivial (Below.refl _ _) (Nat.le_refl _) (by simp) ?_; (case hd | hg => rfl); (case hr => (go_simp; done)); (case hp => exact (Reps.none _ _)); intro v1181 w21 ho22 hb hg_ hnew_; clear hg_ hnew_; (rw [← Ny1180.out] at ho22); replace HO_9 := Z.k (Kd.R_below HO_9.out hb); have HO1182 := Z.k (Kd.R_lower ho22 (below_size (Z.bs HB.out GE1174.out))); replace BK1174 := Z.bb BK1174 hb; replace HB := Z.st (Z.bs HB.out GE1174.out) hb; clear hb ho22) | ((with_reducible refine gate_builtin (b := .append) (xs := #[.tmp 30, .tmp 31]) rfl ?_); (try (refine gate_guard (by rfl) ?_; dsimp only)); at_builtin; refine Kd.R_append_rows (Kd.int .i64) (w0 := w) w.heap.size rfl (.tmp 30) (.tmp 31) 23 3 (.int .i64 0) 8 rfl Try.underlying23 info3 rfl (by decide) (by omega) v1181 y1180 l1 _ _ _ (fun _ => True) (fun _ => False) rfl rfl ?aO ?aR (fun _ _ h => h) (fun _ h => h.elim) ?aF ?aB ?aS ?aL ?_; (case aR => exact Z.cc HR1 HB); (case aB => exact (Z.bs HB.out GE1174.out)); (case aF => exact (fun _ _ => trivial)); (case aO => exact HO1182.out); (case aS => exact (below_size (Z.bs HB.out GE1174.out))); (case aL => have := LMc20.out; omega); intro v1184 w23 ho hb hg hat; rw [← Ny1183.out] at ho; replace HO_9 := Z.k (Kd.R_over' HO_9.out (Kd.R_typed HO1182.out) (by decide) hg); replace BK1174 := Z.k (blk_grown (g := gb1174) (o := .cells #[.int .i64 a0_0, .slice A0_1 l0_1.length c0_1, .slice A0_2 l0_2.length c0_2] 46 (0, 0)) (Z.bk BK1174.out) hg (Kd.R_ne HO1182.out BK1174.out (by decide))); replace HB := Z.k hb; have HO1185 := Z.k ho; clear HO1182; clear ho hb hg hat))
    go_loopg [9, 10, 11] kj4 (fun kq v9 v10 v11 w' => ∃ (x9_2 : List (S48)) (x10_2 : List Int) (x11_2 : Int), v11 = .int .i64 x11_2 ∧ Aside0 (spec_SafeActs.l0 kq l2 l3 x9_2 x10_2 x11_2 a0_0 l0_1 l0_2 = some r) ∧ Aside0 (kq ≤ kj4) ∧ Aside0 (Kd.R k48 48 w' w.heap.size (fun _ => True) v9 x9_2) ∧ Aside0 (Kd.R (Kd.int .i64) 3 w' w.heap.size (fun _ => True) v10 x10_2) ∧ Aside0 (w'.heap[gb1174]? = some (.cells #[.int .i64 a0_0, (.slice A0_1 l0_1.length c0_1), (.slice A0_2 l0_2.length c0_2)] 46 (0, 0))) ∧ Aside0 (Below w.heap.size w w'))
    case atStart => exact ⟨(y1175), (y1183), (0), (by rfl), H', ⟨Nat.le_refl _⟩, ⟨by exact HO_9.out⟩, ⟨by exact HO1185.out⟩, ⟨by exact BK1174.out⟩, ⟨Z.bs HB.out GE1174.out⟩⟩
    case round =>
     clear H'
     obtain ⟨x9_2, x10_2, x11_2, rfl, HA, HK2, HO_9, HO_10, BK1174, HB⟩ := hrel
     cases gk with
     | zero => exact absurd HA.out (by simp [spec_SafeActs.l0])
     | succ k2 =>
      have H := HA.out
      clear HA
      simp only [spec_SafeActs.l0] at H
      by_cases c24 : x11_2 < (l3.length : Int)
      ·rw [if_pos c24] at H
       have c24b0 := decide_eq_true c24
       clear c24
       obtain ⟨c25, H⟩ := Z.ifp H
       have c25b0 : decide (0 ≤ x11_2) = true := decide_eq_true c25
       clear c25
       replace H := Option.bind_eq_some_iff.mp H
       obtain ⟨t1189, A260, H⟩ := H
       have A26 := Z.k A260
       clear A260
       by_cases c27 : t1189 = true
       ·subst c27
        rw [if_pos rfl] at H
        obtain ⟨y1190, hy1190⟩ : ∃ y_ : List Int, y_ = (([] : List Int)) := ⟨_, rfl⟩
        replace H : (if y1190.length + x10_2.length < 17592186044416 then ((some (y1190 ++ x10_2 : List Int)).bind fun y1193 => (if 0 ≤ ((rd_T48 l3 x11_2).f0) then (if ((rd_T48 l3 x11_2).f0) < (y1193.length : Int) then ((some (y1193.set (((rd_T48 l3 x11_2).f0) : Int).toNat ((rd_T48 l3 x11_2).f1) : List Int)).bind fun y1198 => ((spec_l11Bad.f k2 l2 y1198).bind fun t1199 => (if t1199 = true then (spec_SafeActs.l0 k2 l2 l3 x9_2 x10_2 (wrap64 (x11_2 + 1)) a0_0 l0_1 l0_2) else (if x9_2.length < 5864062014805 then (spec_SafeActs.l0 k2 l2 l3 (x9_2 ++ [(⟨(rd_T48 l3 x11_2).f0, (rd_T48 l3 x11_2).f1, (rd_T48 l3 x11_2).f2⟩ : S48)]) y1198 (wrap64 (x11_2 + 1)) a0_0 l0_1 l0_2) else (none))))) else (none)) else (none))) else (none)) = some r := by (have H2_ := (Option.bind_some _ _).symm.trans H; rw [hy1190]; with_reducible exact H2_)
        have Ny1190 := Z.k hy1190
        clear hy1190
        obtain ⟨c28, H⟩ := Z.ifp H
        have LMc28 := Z.k c28
        clear c28
        obtain ⟨y1193, hy1193⟩ : ∃ y_ : List Int, y_ = (y1190 ++ x10_2) := ⟨_, rfl⟩
        replace H : (if 0 ≤ ((rd_T48 l3 x11_2).f0) then (if ((rd_T48 l3 x11_2).f0) < (y1193.length : Int) then ((some (y1193.set (((rd_T48 l3 x11_2).f0) : Int).toNat ((rd_T48 l3 x11_2).f1) : List Int)).bind fun y1198 => ((spec_l11Bad.f k2 l2 y1198).bind fun t1199 => (if t1199 = true then (spec_SafeActs.l0 k2 l2 l3 x9_2 x10_2 (wrap64 (x11_2 + 1)) a0_0 l0_1 l0_2) else (if x9_2.length < 5864062014805 then (spec_SafeActs.l0 k2 l2 l3 (x9_2 ++ [(⟨(rd_T48 l3 x11_2).f0, (rd_T48 l3 x11_2).f1, (rd_T48 l3 x11_2).f2⟩ : S48)]) y1198 (wrap64 (x11_2 + 1)) a0_0 l0_1 l0_2) else (none))))) else (none)) else (none)) = some r := by (have H2_ := (Option.bind_some _ _).symm.trans H; rw [hy1193]; with_reducible exact H2_)
        have Ny1193 := Z.k hy1193
        clear hy1193
        obtain ⟨c29, H⟩ := Z.ifp H
        have c29b0 : decide (0 ≤ ((rd_T48 l3 x11_2).f0)) = true := decide_eq_true c29
        clear c29
        obtain ⟨c30, H⟩ := Z.ifp H
        have c30b0 : decide (((rd_T48 l3 x11_2).f0) < (y1193.length : Int)) = true := decide_eq_true c30
        clear c30
        obtain ⟨y1198, hy1198⟩ : ∃ y_ : List Int, y_ = (y1193.set (((rd_T48 l3 x11_2).f0) : Int).toNat ((rd_T48 l3 x11_2).f1)) := ⟨_, rfl⟩
        replace H : ((spec_l11Bad.f k2 l2 y1198).bind fun t1199 => (if t1199 = true then (spec_SafeActs.l0 k2 l2 l3 x9_2 x10_2 (wrap64 (x11_2 + 1)) a0_0 l0_1 l0_2) else (if x9_2.length < 5864062014805 then (spec_SafeActs.l0 k2 l2 l3 (x9_2 ++ [(⟨(rd_T48 l3 x11_2).f0, (rd_T48 l3 x11_2).f1, (rd_T48 l3 x11_2).f2⟩ : S48)]) y1198 (wrap64 (x11_2 + 1)) a0_0 l0_1 l0_2) else (none)))) = some r := by (have H2_ := (Option.bind_some _ _).symm.trans H; rw [hy1198]; with_reducible exact H2_)
        have Ny1198 := Z.k hy1198
        clear hy1198
        replace H := Option.bind_eq_some_iff.mp H
        obtain ⟨t1199, A320, H⟩ := H
        have A32 := Z.k A320
        clear A320
        by_cases c33 : t1199 = true
        ·subst c33
         rw [if_pos rfl] at H
         have H' := Z.k H
         clear H
         try go_wp2
         replace HO_9 := Z.k (Kd.R_drew HO_9.out)
         replace HO_10 := Z.k (Kd.R_drew HO_10.out)
         replace BK1174 := Z.k (blk_drew BK1174.out)
         replace HB := Z.k (below_drew1 HB.out)
         have p1186 : 0 ≤ (x11_2 : Int) := Z.od
         have q1186 : x11_2 < (l3.length : Int) := Z.od
         obtain ⟨ad1186, rfl, hx1186_0, hx1186_1, hx1186_2⟩ := at_T48 HR3.out x11_2 p1186 q1186
         have hw1186_2 := hx1186_2
         have hw1186_1 := hx1186_1
         have hw1186_0 := hx1186_0
         replace hx1186_0 := Z.up HB.out hx1186_0
         replace hx1186_1 := Z.up HB.out hx1186_1
         replace hx1186_2 := Z.up HB.out hx1186_2
         replace p1186 := eq_true p1186
         replace q1186 := eq_true q1186
         have p1187 : 0 ≤ (x11_2 : Int) := Z.od
         have q1187 : x11_2 < (l3.length : Int) := Z.od
         obtain ⟨ad1187, e1187, hx1187_0, hx1187_1, hx1187_2⟩ := at_T48 HR3.out x11_2 p1187 q1187
         have hw1187_2 := hx1187_2
         have hw1187_1 := hx1187_1
         have hw1187_0 := hx1187_0
         obtain rfl : ad1186 = ad1187 := (by injection e1187)
         replace hx1187_0 := Z.up HB.out hx1187_0
         replace hx1187_1 := Z.up HB.out hx1187_1
         replace hx1187_2 := Z.up HB.out hx1187_2
         replace p1187 := eq_true p1187
         replace q1187 := eq_true q1187
         have p1188 : 0 ≤ (x11_2 : Int) := Z.od
         have q1188 : x11_2 < (l3.length : Int) := Z.od
         obtain ⟨ad1188, e1188, hx1188_0, hx1188_1, hx1188_2⟩ := at_T48 HR3.out x11_2 p1188 q1188
         have hw1188_2 := hx1188_2
         have hw1188_1 := hx1188_1
         have hw1188_0 := hx1188_0
         obtain rfl : ad1186 = ad1188 := (by injection e1188)
         replace hx1188_0 := Z.up HB.out hx1188_0
         replace hx1188_1 := Z.up HB.out hx1188_1
         replace hx1188_2 := Z.up HB.out hx1188_2
         replace p1188 := eq_true p1188
         replace q1188 := eq_true q1188
         obtain ⟨Ao35, co35, eo35⟩ := Kd.R_slice HO_10.out
         (subst eo35)
         refine start_ (n := 19) (S := fun w' => w'.cell? ⟨gb1174, 0, none⟩ = some (.int .i64 a0_0) ∧ w'.cell? ⟨gb1174, 1, none⟩ = some (.slice A0_1 l0_1.length c0_1) ∧ w'.cell? ⟨gb1174, 2, none⟩ = some (.slice A0_2 l0_2.length c0_2) ∧ w'.cell? (ad1186.add ((x11_2).toNat * 3)) = some (.int .i64 ((rd_T48 l3 x11_2).f0)) ∧ w'.cell? ⟨(ad1186.add ((x11_2).toNat * 3)).block, (ad1186.add ((x11_2).toNat * 3)).off + 1, none⟩ = some (.int .i64 ((rd_T48 l3 x11_2).f1)) ∧ w'.cell? ⟨(ad1186.add ((x11_2).toNat * 3)).block, (ad1186.add ((x11_2).toNat * 3)).off + 2, none⟩ = some (.int .i64 ((rd_T48 l3 x11_2).f2)) ∧ w'.cell? (ad1186.add ((x11_2).toNat * 3)) = some (.int .i64 ((rd_T48 l3 x11_2).f0)) ∧ w'.cell? ⟨(ad1186.add ((x11_2).toNat * 3)).block, (ad1186.add ((x11_2).toNat * 3)).off + 1, none⟩ = some (.int .i64 ((rd_T48 l3 x11_2).f1)) ∧ w'.cell? ⟨(ad1186.add ((x11_2).toNat * 3)).block, (ad1186.add ((x11_2).toNat * 3)).off + 2, none⟩ = some (.int .i64 ((rd_T48 l3 x11_2).f2)) ∧ w'.cell? (ad1186.add ((x11_2).toNat * 3)) = some (.int .i64 ((rd_T48 l3 x11_2).f0)) ∧ w'.cell? ⟨(ad1186.add ((x11_2).toNat * 3)).block, (ad1186.add ((x11_2).toNat * 3)).off + 1, none⟩ = some (.int .i64 ((rd_T48 l3 x11_2).f1)) ∧ w'.cell? ⟨(ad1186.add ((x11_2).toNat * 3)).block, (ad1186.add ((x11_2).toNat * 3)).off + 2, none⟩ = some (.int .i64 ((rd_T48 l3 x11_2).f2))) (ds := []) #[false, false, false, false, false, false, false, false, false, false, false, false, false, false, false, false, false, false, false] (by kernel_rfl) rfl rfl ⟨(blk_cell BK1174.out 0).trans rfl, (blk_cell BK1174.out 1).trans rfl, (blk_cell BK1174.out 2).trans rfl, (Z.up HB.out hw1186_0 :), (Z.up HB.out hw1186_1 :), (Z.up HB.out hw1186_2 :), (Z.up HB.out hw1187_0 :), (Z.up HB.out hw1187_1 :), (Z.up HB.out hw1187_2 :), (Z.up HB.out hw1188_0 :), (Z.up HB.out hw1188_1 :), (Z.up HB.out hw1188_2 :)⟩ (fun hHeld => ?_); refine with_tabW spec_SafeActs.tab8 spec_SafeActs.bits8 (fun HT_ HW_ => ?_)
         generalize wr.drew = w34 at HO_9 HO_10 BK1174 HB hx1186_0 hx1186_1 hx1186_2 hx1187_0 hx1187_1 hx1187_2 hx1188_0 hx1188_1 hx1188_2 hHeld ⊢
         refine Z.pv 1 40 19 2 HT_.out ?_
         refine Z.pv 2 41 19 6 HT_.out ?_
         refine Z.pv 3 42 19 14 HT_.out ?_
         refine Z.pv 4 43 19 30 HT_.out ?_
         refine Z.pv 5 44 19 62 HT_.out ?_
         refine Z.pv 7 46 19 190 HT_.out ?_
         refine Z.pv 8 47 19 446 HT_.out ?_
         refine Z.pv 9 48 19 958 HT_.out ?_
         refine Z.pv 10 49 19 1982 HT_.out ?_
         refine Z.pv 12 51 19 6078 HT_.out ?_
         refine Z.pv 13 52 19 14270 HT_.out ?_
         refine Z.pv 14 53 19 30654 HT_.out ?_
         refine Z.pv 15 54 19 63422 HT_.out ?_
         refine Z.t12 0 39 19 63423 HT_.out HW_.out hHeld ?_
         refine Z.t12 6 45 19 63487 HT_.out HW_.out hHeld ?_
         refine Z.t12 11 50 19 65535 HT_.out HW_.out hHeld ?_
         refine Z.t12 16 55 19 131071 HT_.out HW_.out hHeld ?_
         refine one_ (i := 17) (N := some 56) (Z.mb 19 262143) rfl rfl (one_of HT_.out (by kernel_rfl)) (by decide) (fun K hK => ?_)
         refine goes_ Try.func79 (by kernel_rfl) rfl #[.agg #[.int .i64 a0_0, .slice A0_1 l0_1.length c0_1, .slice A0_2 l0_2.length c0_2], .slice Ao35 x10_2.length co35, .int .i64 ((rd_T48 l3 x11_2).f0), .int .i64 ((rd_T48 l3 x11_2).f1), .int .i64 ((rd_T48 l3 x11_2).f2)] (by rfl) rfl rfl Z.ar ?_
         with_reducible refine (spec_MayChange.calls k2 a0_0 _ _ l0_1 _ _ l0_2 _ _ x10_2 ((rd_T48 l3 x11_2).f0) ((rd_T48 l3 x11_2).f1) ((rd_T48 l3 x11_2).f2) true _ ?q1 ?q2 ?q3 ?q4 ?q5 ?q6 A26.out).mono ?_
         (case q1 => exact Z.cc HR0_1 HB)
         (case q2 => exact HC0_1.out)
         (case q3 => exact Z.cc HR0_2 HB)
         (case q4 => exact HC0_2.out)
         (case q5 => exact (Kd.R_reads' HO_10.out).2.2)
         (case q6 => exact (Kd.R_reads' HO_10.out).2.1)
         rintro e w36 ⟨rfl, hb⟩
         refine ⟨_, rfl, ?_⟩
         replace HO_9 := Z.k (Kd.R_below HO_9.out hb)
         replace HO_10 := Z.k (Kd.R_below HO_10.out hb)
         replace BK1174 := Z.bb BK1174 hb
         replace HB := Z.st (Z.bs HB.out GE1174.out) hb
         (try clear hb)
         refine hK.out _ _ ⟨(blk_cell BK1174.out 0).trans rfl, (blk_cell BK1174.out 1).trans rfl, (blk_cell BK1174.out 2).trans rfl, (Z.up HB.out hw1186_0 :), (Z.up HB.out hw1186_1 :), (Z.up HB.out hw1186_2 :), (Z.up HB.out hw1187_0 :), (Z.up HB.out hw1187_1 :), (Z.up HB.out hw1187_2 :), (Z.up HB.out hw1188_0 :), (Z.up HB.out hw1188_1 :), (Z.up HB.out hw1188_2 :)⟩ (fun hHeld => ?_)
         clear hK K
         refine Z.nm ?_
         refine Z.pv 18 57 19 524287 HT_.out ?_
         refine done_ (done_of HT_.out (by kernel_rfl)) ?_
         try go_wp2_with (first | ((with_reducible refine gate_dst (N := 58) rfl ?_); (try (refine gate_guard (by rfl) ?_; dsimp only)); refine Kd.R_lit (Kd.int .i64) _ 3 ?hg (N := 58) ?hd (xs := ([] : List Int)) (inner := []) (ok := fun _ => True) (okp := fun _ => True) ?hr ?hp (fun _ hk => hk) trivial (Below.refl _ _) (Nat.le_refl _) (by simp) ?_; (case hd | hg => rfl); (case hr => (go_simp; done)); (case hp => exact (Reps.none _ _)); intro v1191 w37 ho38 hb hg_ hnew_; clear hg_ hnew_; (rw [← Ny1190.out] at ho38); replace HO_9 := Z.k (Kd.R_below HO_9.out hb); have HO1192 := Z.k (Kd.R_lower (Kd.R_new' ho38 (Kd.R_lt HO_10.out)) (below_size (Z.bs HB.out GE1174.out))); replace HO_10 := Z.k (Kd.R_elder' HO_10.out (Kd.R_base ho38) hb); replace BK1174 := Z.bb BK1174 hb; replace HB := Z.st (Z.bs HB.out GE1174.out) hb; clear hb ho38) | ((with_reducible refine gate_builtin (b := .append) (xs := #[.tmp 58, .tmp 59]) rfl ?_); (try (refine gate_guard (by rfl) ?_; dsimp only)); at_builtin; refine Kd.R_append_rows (Kd.int .i64) (w0 := w) w.heap.size rfl (.tmp 58) (.tmp 59) 23 3 (.int .i64 0) 8 rfl Try.underlying23 info3 rfl (by decide) (by omega) v1191 y1190 x10_2 _ _ _ (fun k_ => some k_ ≠ (.slice Ao35 x10_2.length co35 : Value).ownBlock) (fun _ => False) rfl rfl ?aO ?aR (fun _ _ h => h) (fun _ h => h.elim) ?aF ?aB ?aS ?aL ?_; (case aR => exact (Kd.R_reads' HO_10.out).2.2); (case aB => exact (Z.bs HB.out GE1174.out)); (case aF => exact (fun k_ hk => Kd.fresh' (Kd.R_lt HO_10.out) k_ hk)); (case aO => exact (Kd.R_mono HO1192.out (fun _ hk => hk.2))); (case aS => exact (below_size (Z.bs HB.out GE1174.out))); (case aL => have := LMc28.out; omega); intro v1194 w39 ho hb hg hat; rw [← Ny1193.out] at ho; replace HO_9 := Z.k (Kd.R_over' HO_9.out (Kd.R_typed HO1192.out) (by decide) hg); replace HO_10 := Z.k (Kd.R_after (ok := (fun _ => True)) HO_10.out hg hat); replace BK1174 := Z.k (blk_grown (g := gb1174) (o := .cells #[.int .i64 a0_0, .slice A0_1 l0_1.length c0_1, .slice A0_2 l0_2.length c0_2] 46 (0, 0)) (Z.bk BK1174.out) hg (Kd.R_ne HO1192.out BK1174.out (by decide))); replace HB := Z.k hb; have HO1195 := Z.k ho; clear HO1192; clear ho hb hg hat))
         replace HO_9 := Z.k (Kd.R_drew HO_9.out)
         replace HO_10 := Z.k (Kd.R_drew HO_10.out)
         replace HO1195 := Z.k (Kd.R_drew HO1195.out)
         replace BK1174 := Z.k (blk_drew BK1174.out)
         replace HB := Z.k (below_drew1 HB.out)
         have p1196 : 0 ≤ (x11_2 : Int) := Z.od
         have q1196 : x11_2 < (l3.length : Int) := Z.od
         obtain ⟨ad1196, e1196, hx1196_0, hx1196_1, hx1196_2⟩ := at_T48 HR3.out x11_2 p1196 q1196
         have hw1196_2 := hx1196_2
         have hw1196_1 := hx1196_1
         have hw1196_0 := hx1196_0
         obtain rfl : ad1186 = ad1196 := (by injection e1196)
         replace hx1196_0 := Z.up HB.out hx1196_0
         replace hx1196_1 := Z.up HB.out hx1196_1
         replace hx1196_2 := Z.up HB.out hx1196_2
         replace p1196 := eq_true p1196
         replace q1196 := eq_true q1196
         have p1197 : 0 ≤ (x11_2 : Int) := Z.od
         have q1197 : x11_2 < (l3.length : Int) := Z.od
         obtain ⟨ad1197, e1197, hx1197_0, hx1197_1, hx1197_2⟩ := at_T48 HR3.out x11_2 p1197 q1197
         have hw1197_2 := hx1197_2
         have hw1197_1 := hx1197_1
         have hw1197_0 := hx1197_0
         obtain rfl : ad1186 = ad1197 := (by injection e1197)
         replace hx1197_0 := Z.up HB.out hx1197_0
         replace hx1197_1 := Z.up HB.out hx1197_1
         replace hx1197_2 := Z.up HB.out hx1197_2
         replace p1197 := eq_true p1197
         replace q1197 := eq_true q1197
         have p31 : 0 ≤ (((rd_T48 l3 x11_2).f0) : Int) := Z.od
         have q31 : (((rd_T48 l3 x11_2).f0) : Int) < ((y1193.length : Int) : Int) := Z.od
         obtain ⟨go31, co31, eo31, gb31, gl31, cl31, HG31⟩ := Kd.R_form HO1195.out (by omega)
         (cases eo31)
         have GB31 := Z.k gb31
         have GG31 := Z.k HG31
         clear gb31 gl31 HG31
         obtain ⟨hx31_0, hf31_0⟩ := Kd.R_celln 0 HO1195.out (((rd_T48 l3 x11_2).f0) : Int) p31 q31
         replace p31 := eq_true p31
         replace q31 := eq_true q31
         have HP41 := Kd.R_putn HO1195.out (((rd_T48 l3 x11_2).f0) : Int) ((rd_T48 l3 x11_2).f1)
         rw [← Ny1198.out] at HP41
         have HQ41 := Z.k HP41
         clear HP41
         refine start_ (n := 13) (S := fun w' => w'.cell? (ad1186.add ((x11_2).toNat * 3)) = some (.int .i64 ((rd_T48 l3 x11_2).f0)) ∧ w'.cell? ⟨(ad1186.add ((x11_2).toNat * 3)).block, (ad1186.add ((x11_2).toNat * 3)).off + 1, none⟩ = some (.int .i64 ((rd_T48 l3 x11_2).f1)) ∧ w'.cell? ⟨(ad1186.add ((x11_2).toNat * 3)).block, (ad1186.add ((x11_2).toNat * 3)).off + 2, none⟩ = some (.int .i64 ((rd_T48 l3 x11_2).f2)) ∧ w'.cell? (ad1186.add ((x11_2).toNat * 3)) = some (.int .i64 ((rd_T48 l3 x11_2).f0)) ∧ w'.cell? ⟨(ad1186.add ((x11_2).toNat * 3)).block, (ad1186.add ((x11_2).toNat * 3)).off + 1, none⟩ = some (.int .i64 ((rd_T48 l3 x11_2).f1)) ∧ w'.cell? ⟨(ad1186.add ((x11_2).toNat * 3)).block, (ad1186.add ((x11_2).toNat * 3)).off + 2, none⟩ = some (.int .i64 ((rd_T48 l3 x11_2).f2))) (ds := [12]) #[false, false, false, false, false, false, false, false, false, false, false, false, false] (by kernel_rfl) rfl rfl ⟨(Z.up HB.out hw1196_0 :), (Z.up HB.out hw1196_1 :), (Z.up HB.out hw1196_2 :), (Z.up HB.out hw1197_0 :), (Z.up HB.out hw1197_1 :), (Z.up HB.out hw1197_2 :)⟩ (fun hHeld => ?_); refine with_tabW spec_SafeActs.tab10 spec_SafeActs.bits10 (fun HT_ HW_ => ?_)
         generalize w39.drew = w40 at HO_9 HO_10 HO1195 BK1174 HB GG31 HQ41 hf31_0 hx1196_0 hx1196_1 hx1196_2 hx1197_0 hx1197_1 hx1197_2 hx31_0 hHeld ⊢
         refine Z.pv 0 61 13 1 HT_.out ?_
         refine Z.pv 1 62 13 3 HT_.out ?_
         refine Z.pv 2 63 13 7 HT_.out ?_
         refine Z.pv 3 64 13 15 HT_.out ?_
         refine Z.pv 4 65 13 31 HT_.out ?_
         refine Z.pv 6 67 13 95 HT_.out ?_
         refine Z.pv 7 68 13 223 HT_.out ?_
         refine Z.pv 8 69 13 479 HT_.out ?_
         refine Z.pv 9 70 13 991 HT_.out ?_
         refine Z.t6 5 66 13 1023 HT_.out HW_.out hHeld ?_
         refine Z.t6 10 71 13 2047 HT_.out HW_.out hHeld ?_
         refine Z.pv 11 72 13 4095 HT_.out ?_
         refine last_ (i := 12) (N := none) #[true, true, true, true, true, true, true, true, true, true, true, true, true] rfl rfl (one_of HT_.out (by kernel_rfl)) (by decide) (fun K hK => ?_)
         refine skip_ (w1 := ?_) (by rfl) rfl ?_ ?_
         rotate_left
         ·go_simp
          rfl
         refine hK.out _ _ ?_
         clear hK K
         refine done_ (done_of HT_.out (by kernel_rfl)) ?_
         try go_wp2_with (((with_reducible refine gate_callee (f := 88) rfl ?_); refine goesL_ (some 75) rfl rfl Try.func88 (by kernel_rfl) rfl #[.slice A2 l2.length c2, .slice (some ⟨go31, 0, none⟩) y1198.length co31] rfl (by (try simp only [List.map_toArray, List.map_cons, List.map_nil]); (rw [show y1198.length = y1193.length from (Kd.R_reads' HQ41.out).1.symm] <;> rfl)) ?_; (with_reducible refine (spec_l11Bad.calls k2 _ _ l2 _ _ y1198 true _ ?q1 ?q2 ?q3 ?q4 A32.out).mono ?_); (case q1 => exact Kd.C_below HR2.out (by repeat ((with_reducible first | exact HB.out | refine below_set ?_ GB31.out)))); (case q2 => exact HC2.out); (case q3 => refine (Kd.R_reads' (e := 3) (base := w.heap.size) (ok := fun k_ => some k_ ≠ (.slice Ao35 x10_2.length co35 : Value).ownBlock) (n := y1193.length) (c := co31) ?_).2.2; exact HQ41.out); (case q4 => rw [show y1198.length = y1193.length from (Kd.R_reads' HQ41.out).1.symm]; exact (Kd.R_reads' HO1195.out).2.1); rintro e w' ⟨rfl, ⟨nd, rfl⟩⟩; refine ⟨_, rfl, ?_⟩))
         go_roundg k2
         case measure => have := HJ4.out; have := HK2.out; omega
         case rel => exact ⟨(x9_2), (x10_2), (wrap64 (x11_2 + 1)), (by rfl), H', ⟨by have := HJ4.out; have := HK2.out; omega⟩, ⟨by (with_reducible repeat (apply Kd.R_drewN)); exact Kd.R_mono (Kd.R_far (p := ⟨go31, (((rd_T48 l3 x11_2).f0) : Int).toNat, none⟩) (Kd.R_types HO_9.out GG31.out (by decide)) (fun _ hk => hk.2) (.int .i64 ((rd_T48 l3 x11_2).f1))) (fun _ hk => trivial)⟩, ⟨by (with_reducible repeat (apply Kd.R_drewN)); exact Kd.R_mono (Kd.R_far (p := ⟨go31, (((rd_T48 l3 x11_2).f0) : Int).toNat, none⟩) (Kd.R_mono HO_10.out (fun k_ hk => (⟨hk, fun e_ => hk.2 (by rw [e_]; rfl)⟩ : _ ∧ k_ ≠ go31))) (fun _ hk => hk.2) (.int .i64 ((rd_T48 l3 x11_2).f1))) (fun _ hk => trivial)⟩, ⟨by (with_reducible repeat (refine blk_drewN ?_ _)); refine blk_far ?_ (by have h_ := Kd.R_ne HO1195.out BK1174.out (by decide); intro e_; exact h_ (by rw [e_]; rfl)) _; exact BK1174.out⟩, ⟨by repeat ((with_reducible first | exact HB.out | apply pw_below_drewN | refine below_set ?_ GB31.out))⟩⟩
        ·replace c33 := Bool.eq_false_iff.mpr c33
         subst c33
         rw [if_neg (show ¬ (false = true) by decide)] at H
         obtain ⟨c42, H⟩ := Z.ifp H
         have LMc42 := Z.k c42
         clear c42
         obtain ⟨y1201, hy1201⟩ : ∃ y_ : List (S48), y_ = (x9_2 ++ [(⟨(rd_T48 l3 x11_2).f0, (rd_T48 l3 x11_2).f1, (rd_T48 l3 x11_2).f2⟩ : S48)]) := ⟨_, rfl⟩
         replace H : (spec_SafeActs.l0 k2 l2 l3 y1201 y1198 (wrap64 (x11_2 + 1)) a0_0 l0_1 l0_2) = some r := by (rw [hy1201]; with_reducible exact H)
         have Ny1201 := Z.k hy1201
         clear hy1201
         have H' := Z.k H
         clear H
         try go_wp2
         replace HO_9 := Z.k (Kd.R_drew HO_9.out)
         replace HO_10 := Z.k (Kd.R_drew HO_10.out)
         replace BK1174 := Z.k (blk_drew BK1174.out)
         replace HB := Z.k (below_drew1 HB.out)
         have p1186 : 0 ≤ (x11_2 : Int) := Z.od
         have q1186 : x11_2 < (l3.length : Int) := Z.od
         obtain ⟨ad1186, rfl, hx1186_0, hx1186_1, hx1186_2⟩ := at_T48 HR3.out x11_2 p1186 q1186
         have hw1186_2 := hx1186_2
         have hw1186_1 := hx1186_1
         have hw1186_0 := hx1186_0
         replace hx1186_0 := Z.up HB.out hx1186_0
         replace hx1186_1 := Z.up HB.out hx1186_1
         replace hx1186_2 := Z.up HB.out hx1186_2
         replace p1186 := eq_true p1186
         replace q1186 := eq_true q1186
         have p1187 : 0 ≤ (x11_2 : Int) := Z.od
         have q1187 : x11_2 < (l3.length : Int) := Z.od
         obtain ⟨ad1187, e1187, hx1187_0, hx1187_1, hx1187_2⟩ := at_T48 HR3.out x11_2 p1187 q1187
         have hw1187_2 := hx1187_2
         have hw1187_1 := hx1187_1
         have hw1187_0 := hx1187_0
         obtain rfl : ad1186 = ad1187 := (by injection e1187)
         replace hx1187_0 := Z.up HB.out hx1187_0
         replace hx1187_1 := Z.up HB.out hx1187_1
         replace hx1187_2 := Z.up HB.out hx1187_2
         replace p1187 := eq_true p1187
         replace q1187 := eq_true q1187
         have p1188 : 0 ≤ (x11_2 : Int) := Z.od
         have q1188 : x11_2 < (l3.length : Int) := Z.od
         obtain ⟨ad1188, e1188, hx1188_0, hx1188_1, hx1188_2⟩ := at_T48 HR3.out x11_2 p1188 q1188
         have hw1188_2 := hx1188_2
         have hw1188_1 := hx1188_1
         have hw1188_0 := hx1188_0
         obtain rfl : ad1186 = ad1188 := (by injection e1188)
         replace hx1188_0 := Z.up HB.out hx1188_0
         replace hx1188_1 := Z.up HB.out hx1188_1
         replace hx1188_2 := Z.up HB.out hx1188_2
         replace p1188 := eq_true p1188
         replace q1188 := eq_true q1188
         obtain ⟨Ao44, co44, eo44⟩ := Kd.R_slice HO_10.out
         (subst eo44)
         refine start_ (n := 19) (S := fun w' => w'.cell? ⟨gb1174, 0, none⟩ = some (.int .i64 a0_0) ∧ w'.cell? ⟨gb1174, 1, none⟩ = some (.slice A0_1 l0_1.length c0_1) ∧ w'.cell? ⟨gb1174, 2, none⟩ = some (.slice A0_2 l0_2.length c0_2) ∧ w'.cell? (ad1186.add ((x11_2).toNat * 3)) = some (.int .i64 ((rd_T48 l3 x11_2).f0)) ∧ w'.cell? ⟨(ad1186.add ((x11_2).toNat * 3)).block, (ad1186.add ((x11_2).toNat * 3)).off + 1, none⟩ = some (.int .i64 ((rd_T48 l3 x11_2).f1)) ∧ w'.cell? ⟨(ad1186.add ((x11_2).toNat * 3)).block, (ad1186.add ((x11_2).toNat * 3)).off + 2, none⟩ = some (.int .i64 ((rd_T48 l3 x11_2).f2)) ∧ w'.cell? (ad1186.add ((x11_2).toNat * 3)) = some (.int .i64 ((rd_T48 l3 x11_2).f0)) ∧ w'.cell? ⟨(ad1186.add ((x11_2).toNat * 3)).block, (ad1186.add ((x11_2).toNat * 3)).off + 1, none⟩ = some (.int .i64 ((rd_T48 l3 x11_2).f1)) ∧ w'.cell? ⟨(ad1186.add ((x11_2).toNat * 3)).block, (ad1186.add ((x11_2).toNat * 3)).off + 2, none⟩ = some (.int .i64 ((rd_T48 l3 x11_2).f2)) ∧ w'.cell? (ad1186.add ((x11_2).toNat * 3)) = some (.int .i64 ((rd_T48 l3 x11_2).f0)) ∧ w'.cell? ⟨(ad1186.add ((x11_2).toNat * 3)).block, (ad1186.add ((x11_2).toNat * 3)).off + 1, none⟩ = some (.int .i64 ((rd_T48 l3 x11_2).f1)) ∧ w'.cell? ⟨(ad1186.add ((x11_2).toNat * 3)).block, (ad1186.add ((x11_2).toNat * 3)).off + 2, none⟩ = some (.int .i64 ((rd_T48 l3 x11_2).f2))) (ds := []) #[false, false, false, false, false, false, false, false, false, false, false, false, false, false, false, false, false, false, false] (by kernel_rfl) rfl rfl ⟨(blk_cell BK1174.out 0).trans rfl, (blk_cell BK1174.out 1).trans rfl, (blk_cell BK1174.out 2).trans rfl, (Z.up HB.out hw1186_0 :), (Z.up HB.out hw1186_1 :), (Z.up HB.out hw1186_2 :), (Z.up HB.out hw1187_0 :), (Z.up HB.out hw1187_1 :), (Z.up HB.out hw1187_2 :), (Z.up HB.out hw1188_0 :), (Z.up HB.out hw1188_1 :), (Z.up HB.out hw1188_2 :)⟩ (fun hHeld => ?_); refine with_tabW spec_SafeActs.tab8 spec_SafeActs.bits8 (fun HT_ HW_ => ?_)
         generalize wr.drew = w43 at HO_9 HO_10 BK1174 HB hx1186_0 hx1186_1 hx1186_2 hx1187_0 hx1187_1 hx1187_2 hx1188_0 hx1188_1 hx1188_2 hHeld ⊢
         refine Z.pv 1 40 19 2 HT_.out ?_
         refine Z.pv 2 41 19 6 HT_.out ?_
         refine Z.pv 3 42 19 14 HT_.out ?_
         refine Z.pv 4 43 19 30 HT_.out ?_
         refine Z.pv 5 44 19 62 HT_.out ?_
         refine Z.pv 7 46 19 190 HT_.out ?_
         refine Z.pv 8 47 19 446 HT_.out ?_
         refine Z.pv 9 48 19 958 HT_.out ?_
         refine Z.pv 10 49 19 1982 HT_.out ?_
         refine Z.pv 12 51 19 6078 HT_.out ?_
         refine Z.pv 13 52 19 14270 HT_.out ?_
         refine Z.pv 14 53 19 30654 HT_.out ?_
         refine Z.pv 15 54 19 63422 HT_.out ?_
         refine Z.t12 0 39 19 63423 HT_.out HW_.out hHeld ?_
         refine Z.t12 6 45 19 63487 HT_.out HW_.out hHeld ?_
         refine Z.t12 11 50 19 65535 HT_.out HW_.out hHeld ?_
         refine Z.t12 16 55 19 131071 HT_.out HW_.out hHeld ?_
         refine one_ (i := 17) (N := some 56) (Z.mb 19 262143) rfl rfl (one_of HT_.out (by kernel_rfl)) (by decide) (fun K hK => ?_)
         refine goes_ Try.func79 (by kernel_rfl) rfl #[.agg #[.int .i64 a0_0, .slice A0_1 l0_1.length c0_1, .slice A0_2 l0_2.length c0_2], .slice Ao44 x10_2.length co44, .int .i64 ((rd_T48 l3 x11_2).f0), .int .i64 ((rd_T48 l3 x11_2).f1), .int .i64 ((rd_T48 l3 x11_2).f2)] (by rfl) rfl rfl Z.ar ?_
         with_reducible refine (spec_MayChange.calls k2 a0_0 _ _ l0_1 _ _ l0_2 _ _ x10_2 ((rd_T48 l3 x11_2).f0) ((rd_T48 l3 x11_2).f1) ((rd_T48 l3 x11_2).f2) true _ ?q1 ?q2 ?q3 ?q4 ?q5 ?q6 A26.out).mono ?_
         (case q1 => exact Z.cc HR0_1 HB)
         (case q2 => exact HC0_1.out)
         (case q3 => exact Z.cc HR0_2 HB)
         (case q4 => exact HC0_2.out)
         (case q5 => exact (Kd.R_reads' HO_10.out).2.2)
         (case q6 => exact (Kd.R_reads' HO_10.out).2.1)
         rintro e w45 ⟨rfl, hb⟩
         refine ⟨_, rfl, ?_⟩
         replace HO_9 := Z.k (Kd.R_below HO_9.out hb)
         replace HO_10 := Z.k (Kd.R_below HO_10.out hb)
         replace BK1174 := Z.bb BK1174 hb
         replace HB := Z.st (Z.bs HB.out GE1174.out) hb
         (try clear hb)
         refine hK.out _ _ ⟨(blk_cell BK1174.out 0).trans rfl, (blk_cell BK1174.out 1).trans rfl, (blk_cell BK1174.out 2).trans rfl, (Z.up HB.out hw1186_0 :), (Z.up HB.out hw1186_1 :), (Z.up HB.out hw1186_2 :), (Z.up HB.out hw1187_0 :), (Z.up HB.out hw1187_1 :), (Z.up HB.out hw1187_2 :), (Z.up HB.out hw1188_0 :), (Z.up HB.out hw1188_1 :), (Z.up HB.out hw1188_2 :)⟩ (fun hHeld => ?_)
         clear hK K
         refine Z.nm ?_
         refine Z.pv 18 57 19 524287 HT_.out ?_
         refine done_ (done_of HT_.out (by kernel_rfl)) ?_
         try go_wp2_with (first | ((with_reducible refine gate_dst (N := 58) rfl ?_); (try (refine gate_guard (by rfl) ?_; dsimp only)); refine Kd.R_lit (Kd.int .i64) _ 3 ?hg (N := 58) ?hd (xs := ([] : List Int)) (inner := []) (ok := fun _ => True) (okp := fun _ => True) ?hr ?hp (fun _ hk => hk) trivial (Below.refl _ _) (Nat.le_refl _) (by simp) ?_; (case hd | hg => rfl); (case hr => (go_simp; done)); (case hp => exact (Reps.none _ _)); intro v1191 w46 ho47 hb hg_ hnew_; clear hg_ hnew_; (rw [← Ny1190.out] at ho47); replace HO_9 := Z.k (Kd.R_below HO_9.out hb); have HO1192 := Z.k (Kd.R_lower (Kd.R_new' ho47 (Kd.R_lt HO_10.out)) (below_size (Z.bs HB.out GE1174.out))); replace HO_10 := Z.k (Kd.R_elder' HO_10.out (Kd.R_base ho47) hb); replace BK1174 := Z.bb BK1174 hb; replace HB := Z.st (Z.bs HB.out GE1174.out) hb; clear hb ho47) | ((with_reducible refine gate_builtin (b := .append) (xs := #[.tmp 58, .tmp 59]) rfl ?_); (try (refine gate_guard (by rfl) ?_; dsimp only)); at_builtin; refine Kd.R_append_rows (Kd.int .i64) (w0 := w) w.heap.size rfl (.tmp 58) (.tmp 59) 23 3 (.int .i64 0) 8 rfl Try.underlying23 info3 rfl (by decide) (by omega) v1191 y1190 x10_2 _ _ _ (fun k_ => some k_ ≠ (.slice Ao44 x10_2.length co44 : Value).ownBlock) (fun _ => False) rfl rfl ?aO ?aR (fun _ _ h => h) (fun _ h => h.elim) ?aF ?aB ?aS ?aL ?_; (case aR => exact (Kd.R_reads' HO_10.out).2.2); (case aB => exact (Z.bs HB.out GE1174.out)); (case aF => exact (fun k_ hk => Kd.fresh' (Kd.R_lt HO_10.out) k_ hk)); (case aO => exact (Kd.R_mono HO1192.out (fun _ hk => hk.2))); (case aS => exact (below_size (Z.bs HB.out GE1174.out))); (case aL => have := LMc28.out; omega); intro v1194 w48 ho hb hg hat; rw [← Ny1193.out] at ho; replace HO_9 := Z.k (Kd.R_over' HO_9.out (Kd.R_typed HO1192.out) (by decide) hg); replace HO_10 := Z.k (Kd.R_after (ok := (fun _ => True)) HO_10.out hg hat); replace BK1174 := Z.k (blk_grown (g := gb1174) (o := .cells #[.int .i64 a0_0, .slice A0_1 l0_1.length c0_1, .slice A0_2 l0_2.length c0_2] 46 (0, 0)) (Z.bk BK1174.out) hg (Kd.R_ne HO1192.out BK1174.out (by decide))); replace HB := Z.k hb; have HO1195 := Z.k ho; clear HO1192; clear ho hb hg hat))
         replace HO_9 := Z.k (Kd.R_drew HO_9.out)
         replace HO_10 := Z.k (Kd.R_drew HO_10.out)
         replace HO1195 := Z.k (Kd.R_drew HO1195.out)
         replace BK1174 := Z.k (blk_drew BK1174.out)
         replace HB := Z.k (below_drew1 HB.out)
         have p1196 : 0 ≤ (x11_2 : Int) := Z.od
         have q1196 : x11_2 < (l3.length : Int) := Z.od
         obtain ⟨ad1196, e1196, hx1196_0, hx1196_1, hx1196_2⟩ := at_T48 HR3.out x11_2 p1196 q1196
         have hw1196_2 := hx1196_2
         have hw1196_1 := hx1196_1
         have hw1196_0 := hx1196_0
         obtain rfl : ad1186 = ad1196 := (by injection e1196)
         replace hx1196_0 := Z.up HB.out hx1196_0
         replace hx1196_1 := Z.up HB.out hx1196_1
         replace hx1196_2 := Z.up HB.out hx1196_2
         replace p1196 := eq_true p1196
         replace q1196 := eq_true q1196
         have p1197 : 0 ≤ (x11_2 : Int) := Z.od
         have q1197 : x11_2 < (l3.length : Int) := Z.od
         obtain ⟨ad1197, e1197, hx1197_0, hx1197_1, hx1197_2⟩ := at_T48 HR3.out x11_2 p1197 q1197
         have hw1197_2 := hx1197_2
         have hw1197_1 := hx1197_1
         have hw1197_0 := hx1197_0
         obtain rfl : ad1186 = ad1197 := (by injection e1197)
         replace hx1197_0 := Z.up HB.out hx1197_0
         replace hx1197_1 := Z.up HB.out hx1197_1
         replace hx1197_2 := Z.up HB.out hx1197_2
         replace p1197 := eq_true p1197
         replace q1197 := eq_true q1197
         have p31 : 0 ≤ (((rd_T48 l3 x11_2).f0) : Int) := Z.od
         have q31 : (((rd_T48 l3 x11_2).f0) : Int) < ((y1193.length : Int) : Int) := Z.od
         obtain ⟨go31, co31, eo31, gb31, gl31, cl31, HG31⟩ := Kd.R_form HO1195.out (by omega)
         (cases eo31)
         have GB31 := Z.k gb31
         have GG31 := Z.k HG31
         clear gb31 gl31 HG31
         obtain ⟨hx31_0, hf31_0⟩ := Kd.R_celln 0 HO1195.out (((rd_T48 l3 x11_2).f0) : Int) p31 q31
         replace p31 := eq_true p31
         replace q31 := eq_true q31
         have HP50 := Kd.R_putn HO1195.out (((rd_T48 l3 x11_2).f0) : Int) ((rd_T48 l3 x11_2).f1)
         rw [← Ny1198.out] at HP50
         have HQ50 := Z.k HP50
         clear HP50
         refine start_ (n := 13) (S := fun w' => w'.cell? (ad1186.add ((x11_2).toNat * 3)) = some (.int .i64 ((rd_T48 l3 x11_2).f0)) ∧ w'.cell? ⟨(ad1186.add ((x11_2).toNat * 3)).block, (ad1186.add ((x11_2).toNat * 3)).off + 1, none⟩ = some (.int .i64 ((rd_T48 l3 x11_2).f1)) ∧ w'.cell? ⟨(ad1186.add ((x11_2).toNat * 3)).block, (ad1186.add ((x11_2).toNat * 3)).off + 2, none⟩ = some (.int .i64 ((rd_T48 l3 x11_2).f2)) ∧ w'.cell? (ad1186.add ((x11_2).toNat * 3)) = some (.int .i64 ((rd_T48 l3 x11_2).f0)) ∧ w'.cell? ⟨(ad1186.add ((x11_2).toNat * 3)).block, (ad1186.add ((x11_2).toNat * 3)).off + 1, none⟩ = some (.int .i64 ((rd_T48 l3 x11_2).f1)) ∧ w'.cell? ⟨(ad1186.add ((x11_2).toNat * 3)).block, (ad1186.add ((x11_2).toNat * 3)).off + 2, none⟩ = some (.int .i64 ((rd_T48 l3 x11_2).f2))) (ds := [12]) #[false, false, false, false, false, false, false, false, false, false, false, false, false] (by kernel_rfl) rfl rfl ⟨(Z.up HB.out hw1196_0 :), (Z.up HB.out hw1196_1 :), (Z.up HB.out hw1196_2 :), (Z.up HB.out hw1197_0 :), (Z.up HB.out hw1197_1 :), (Z.up HB.out hw1197_2 :)⟩ (fun hHeld => ?_); refine with_tabW spec_SafeActs.tab10 spec_SafeActs.bits10 (fun HT_ HW_ => ?_)
         generalize w48.drew = w49 at HO_9 HO_10 HO1195 BK1174 HB GG31 HQ50 hf31_0 hx1196_0 hx1196_1 hx1196_2 hx1197_0 hx1197_1 hx1197_2 hx31_0 hHeld ⊢
         refine Z.pv 0 61 13 1 HT_.out ?_
         refine Z.pv 1 62 13 3 HT_.out ?_
         refine Z.pv 2 63 13 7 HT_.out ?_
         refine Z.pv 3 64 13 15 HT_.out ?_
         refine Z.pv 4 65 13 31 HT_.out ?_
         refine Z.pv 6 67 13 95 HT_.out ?_
         refine Z.pv 7 68 13 223 HT_.out ?_
         refine Z.pv 8 69 13 479 HT_.out ?_
         refine Z.pv 9 70 13 991 HT_.out ?_
         refine Z.t6 5 66 13 1023 HT_.out HW_.out hHeld ?_
         refine Z.t6 10 71 13 2047 HT_.out HW_.out hHeld ?_
         refine Z.pv 11 72 13 4095 HT_.out ?_
         refine last_ (i := 12) (N := none) #[true, true, true, true, true, true, true, true, true, true, true, true, true] rfl rfl (one_of HT_.out (by kernel_rfl)) (by decide) (fun K hK => ?_)
         refine skip_ (w1 := ?_) (by rfl) rfl ?_ ?_
         rotate_left
         ·go_simp
          rfl
         refine hK.out _ _ ?_
         clear hK K
         refine done_ (done_of HT_.out (by kernel_rfl)) ?_
         try go_wp2_with (first | ((with_reducible refine gate_callee (f := 88) rfl ?_); refine goesL_ (some 75) rfl rfl Try.func88 (by kernel_rfl) rfl #[.slice A2 l2.length c2, .slice (some ⟨go31, 0, none⟩) y1198.length co31] rfl (by (try simp only [List.map_toArray, List.map_cons, List.map_nil]); (rw [show y1198.length = y1193.length from (Kd.R_reads' HQ50.out).1.symm] <;> rfl)) ?_; (with_reducible refine (spec_l11Bad.calls k2 _ _ l2 _ _ y1198 false _ ?q1 ?q2 ?q3 ?q4 A32.out).mono ?_); (case q1 => exact Kd.C_below HR2.out (by repeat ((with_reducible first | exact HB.out | refine below_set ?_ GB31.out)))); (case q2 => exact HC2.out); (case q3 => refine (Kd.R_reads' (e := 3) (base := w.heap.size) (ok := fun k_ => some k_ ≠ (.slice Ao44 x10_2.length co44 : Value).ownBlock) (n := y1193.length) (c := co31) ?_).2.2; exact HQ50.out); (case q4 => rw [show y1198.length = y1193.length from (Kd.R_reads' HQ50.out).1.symm]; exact (Kd.R_reads' HO1195.out).2.1); rintro e w' ⟨rfl, ⟨nd, rfl⟩⟩; refine ⟨_, rfl, ?_⟩; have p1200 : 0 ≤ (x11_2 : Int) := Z.od; have q1200 : x11_2 < (l3.length : Int) := Z.od; obtain ⟨ad1200, e1200, hx1200_0, hx1200_1, hx1200_2⟩ := at_T48 HR3.out x11_2 p1200 q1200; obtain rfl : ad1186 = ad1200 := (by injection e1200); have hn1200_0 : ad1186.block ≠ go31 := Nat.ne_of_lt (Nat.lt_of_lt_of_le (by have := World.block_lt_of_cell? _ _ hx1200_0; rwa [add_block] at this) GB31.out); replace hx1200_0 := Z.up HB.out hx1200_0; replace hx1200_1 := Z.up HB.out hx1200_1; replace hx1200_2 := Z.up HB.out hx1200_2; replace hx1200_0 := (cell_far (p := ⟨go31, (((rd_T48 l3 x11_2).f0) : Int).toNat, none⟩) (by (rw [add_block]; exact hn1200_0)) (.int .i64 ((rd_T48 l3 x11_2).f1))).trans hx1200_0; replace hx1200_1 := (cell_far (p := ⟨go31, (((rd_T48 l3 x11_2).f0) : Int).toNat, none⟩) (by (rw [add_block]; exact hn1200_0)) (.int .i64 ((rd_T48 l3 x11_2).f1))).trans hx1200_1; replace hx1200_2 := (cell_far (p := ⟨go31, (((rd_T48 l3 x11_2).f0) : Int).toNat, none⟩) (by (rw [add_block]; exact hn1200_0)) (.int .i64 ((rd_T48 l3 x11_2).f1))).trans hx1200_2; clear hn1200_0; replace p1200 := eq_true p1200; replace q1200 := eq_true q1200) | ((with_reducible refine gate_builtin (b := .append) (xs := #[.tmp 78, .tmp 83]) rfl ?_); (try (refine gate_guard (by rfl) ?_; dsimp only)); at_builtin; refine Kd.R_append k48 (w0 := w) w.heap.size rfl (.tmp 78) (.tmp 83) 58 48 (.agg #[(.int .i64 0), (.int .i64 0), (.int .i64 0)]) 24 rfl Try.underlying58 info48 rfl (by decide) (by omega) u9 x9_2 (⟨(rd_T48 l3 x11_2).f0, (rd_T48 l3 x11_2).f1, (rd_T48 l3 x11_2).f2⟩ : S48) [.int .i64 ((rd_T48 l3 x11_2).f0), .int .i64 ((rd_T48 l3 x11_2).f1), .int .i64 ((rd_T48 l3 x11_2).f2)] (fun _ => True) (fun _ => False) rfl (by (go_simp; done)) ?aP (fun _ hk => hk.elim) ?aF ?aO ?aB ?aS ?aL ?_; (case aP => exact k48_mkM _ _ _ (⟨(rd_T48 l3 x11_2).f0, (rd_T48 l3 x11_2).f1, (rd_T48 l3 x11_2).f2⟩ : S48)); (case aB => exact (by repeat ((with_reducible first | exact HB.out | apply pw_below_drewN | refine below_set ?_ GB31.out)))); (case aF => exact (fun _ _ => trivial)); (case aO => exact (by (with_reducible repeat (apply Kd.R_drewN)); exact Kd.R_mono (Kd.R_far (p := ⟨go31, (((rd_T48 l3 x11_2).f0) : Int).toNat, none⟩) (Kd.R_types HO_9.out GG31.out (by decide)) (fun _ hk => hk.2) (.int .i64 ((rd_T48 l3 x11_2).f1))) (fun _ hk => trivial))); (case aS => exact (below_size (by repeat ((with_reducible first | exact HB.out | apply pw_below_drewN | refine below_set ?_ GB31.out))))); (case aL => have := LMc42.out; omega); intro v1202 w51 ho hb hg hat; rw [← Ny1201.out] at ho; replace HO_10 := Z.k (Kd.R_over' (by (with_reducible repeat (apply Kd.R_drewN)); exact (Kd.R_mono (Kd.R_far (p := ⟨go31, (((rd_T48 l3 x11_2).f0) : Int).toNat, none⟩) (Kd.R_mono HO_10.out (fun k_ hk => (⟨hk, fun e_ => hk.2 (by rw [e_]; rfl)⟩ : _ ∧ k_ ≠ go31))) (fun _ hk => hk.2) (.int .i64 ((rd_T48 l3 x11_2).f1))) (fun _ h_ => h_.1))) (Kd.R_typed (by (with_reducible repeat (apply Kd.R_drewN)); exact (Kd.R_mono (Kd.R_far (p := ⟨go31, (((rd_T48 l3 x11_2).f0) : Int).toNat, none⟩) (Kd.R_types HO_9.out GG31.out (by decide)) (fun _ hk => hk.2) (.int .i64 ((rd_T48 l3 x11_2).f1))) (fun _ h_ => h_.1)))) (by decide) hg); replace BK1174 := Z.k (blk_grown (g := gb1174) (o := .cells #[.int .i64 a0_0, .slice A0_1 l0_1.length c0_1, .slice A0_2 l0_2.length c0_2] 46 (0, 0)) (by (with_reducible repeat (refine blk_drewN ?_ _)); refine blk_far ?_ (by have h_ := Kd.R_ne HO1195.out BK1174.out (by decide); intro e_; exact h_ (by rw [e_]; rfl)) _; exact BK1174.out) hg (Kd.R_ne HO_9.out BK1174.out (by decide))); replace HO1195 := Z.k (Kd.R_over' (by (with_reducible repeat (apply Kd.R_drewN)); exact HQ50.out) (Kd.R_typed (by (with_reducible repeat (apply Kd.R_drewN)); exact (Kd.R_mono (Kd.R_far (p := ⟨go31, (((rd_T48 l3 x11_2).f0) : Int).toNat, none⟩) (Kd.R_types HO_9.out GG31.out (by decide)) (fun _ hk => hk.2) (.int .i64 ((rd_T48 l3 x11_2).f1))) (fun _ h_ => h_.1)))) (by decide) hg); replace HB := Z.k hb; have HO1203 := Z.k ho; clear HO_9; clear ho hb hg hat))
         go_roundg k2
         case measure => have := HJ4.out; have := HK2.out; omega
         case rel => exact ⟨(y1201), (y1198), (wrap64 (x11_2 + 1)), (by rfl), H', ⟨by have := HJ4.out; have := HK2.out; omega⟩, ⟨by exact HO1203.out⟩, ⟨by exact Kd.R_mono HO1195.out (fun _ hk => trivial)⟩, ⟨by exact BK1174.out⟩, ⟨Z.bs HB.out GE1174.out⟩⟩
       ·replace c27 := Bool.eq_false_iff.mpr c27
        subst c27
        rw [if_neg (show ¬ (false = true) by decide)] at H
        have H' := Z.k H
        clear H
        try go_wp2
        replace HO_9 := Z.k (Kd.R_drew HO_9.out)
        replace HO_10 := Z.k (Kd.R_drew HO_10.out)
        replace BK1174 := Z.k (blk_drew BK1174.out)
        replace HB := Z.k (below_drew1 HB.out)
        have p1186 : 0 ≤ (x11_2 : Int) := Z.od
        have q1186 : x11_2 < (l3.length : Int) := Z.od
        obtain ⟨ad1186, rfl, hx1186_0, hx1186_1, hx1186_2⟩ := at_T48 HR3.out x11_2 p1186 q1186
        have hw1186_2 := hx1186_2
        have hw1186_1 := hx1186_1
        have hw1186_0 := hx1186_0
        replace hx1186_0 := Z.up HB.out hx1186_0
        replace hx1186_1 := Z.up HB.out hx1186_1
        replace hx1186_2 := Z.up HB.out hx1186_2
        replace p1186 := eq_true p1186
        replace q1186 := eq_true q1186
        have p1187 : 0 ≤ (x11_2 : Int) := Z.od
        have q1187 : x11_2 < (l3.length : Int) := Z.od
        obtain ⟨ad1187, e1187, hx1187_0, hx1187_1, hx1187_2⟩ := at_T48 HR3.out x11_2 p1187 q1187
        have hw1187_2 := hx1187_2
        have hw1187_1 := hx1187_1
        have hw1187_0 := hx1187_0
        obtain rfl : ad1186 = ad1187 := (by injection e1187)
        replace hx1187_0 := Z.up HB.out hx1187_0
        replace hx1187_1 := Z.up HB.out hx1187_1
        replace hx1187_2 := Z.up HB.out hx1187_2
        replace p1187 := eq_true p1187
        replace q1187 := eq_true q1187
        have p1188 : 0 ≤ (x11_2 : Int) := Z.od
        have q1188 : x11_2 < (l3.length : Int) := Z.od
        obtain ⟨ad1188, e1188, hx1188_0, hx1188_1, hx1188_2⟩ := at_T48 HR3.out x11_2 p1188 q1188
        have hw1188_2 := hx1188_2
        have hw1188_1 := hx1188_1
        have hw1188_0 := hx1188_0
        obtain rfl : ad1186 = ad1188 := (by injection e1188)
        replace hx1188_0 := Z.up HB.out hx1188_0
        replace hx1188_1 := Z.up HB.out hx1188_1
        replace hx1188_2 := Z.up HB.out hx1188_2
        replace p1188 := eq_true p1188
        replace q1188 := eq_true q1188
        obtain ⟨Ao53, co53, eo53⟩ := Kd.R_slice HO_10.out
        (subst eo53)
        refine start_ (n := 19) (S := fun w' => w'.cell? ⟨gb1174, 0, none⟩ = some (.int .i64 a0_0) ∧ w'.cell? ⟨gb1174, 1, none⟩ = some (.slice A0_1 l0_1.length c0_1) ∧ w'.cell? ⟨gb1174, 2, none⟩ = some (.slice A0_2 l0_2.length c0_2) ∧ w'.cell? (ad1186.add ((x11_2).toNat * 3)) = some (.int .i64 ((rd_T48 l3 x11_2).f0)) ∧ w'.cell? ⟨(ad1186.add ((x11_2).toNat * 3)).block, (ad1186.add ((x11_2).toNat * 3)).off + 1, none⟩ = some (.int .i64 ((rd_T48 l3 x11_2).f1)) ∧ w'.cell? ⟨(ad1186.add ((x11_2).toNat * 3)).block, (ad1186.add ((x11_2).toNat * 3)).off + 2, none⟩ = some (.int .i64 ((rd_T48 l3 x11_2).f2)) ∧ w'.cell? (ad1186.add ((x11_2).toNat * 3)) = some (.int .i64 ((rd_T48 l3 x11_2).f0)) ∧ w'.cell? ⟨(ad1186.add ((x11_2).toNat * 3)).block, (ad1186.add ((x11_2).toNat * 3)).off + 1, none⟩ = some (.int .i64 ((rd_T48 l3 x11_2).f1)) ∧ w'.cell? ⟨(ad1186.add ((x11_2).toNat * 3)).block, (ad1186.add ((x11_2).toNat * 3)).off + 2, none⟩ = some (.int .i64 ((rd_T48 l3 x11_2).f2)) ∧ w'.cell? (ad1186.add ((x11_2).toNat * 3)) = some (.int .i64 ((rd_T48 l3 x11_2).f0)) ∧ w'.cell? ⟨(ad1186.add ((x11_2).toNat * 3)).block, (ad1186.add ((x11_2).toNat * 3)).off + 1, none⟩ = some (.int .i64 ((rd_T48 l3 x11_2).f1)) ∧ w'.cell? ⟨(ad1186.add ((x11_2).toNat * 3)).block, (ad1186.add ((x11_2).toNat * 3)).off + 2, none⟩ = some (.int .i64 ((rd_T48 l3 x11_2).f2))) (ds := []) #[false, false, false, false, false, false, false, false, false, false, false, false, false, false, false, false, false, false, false] (by kernel_rfl) rfl rfl ⟨(blk_cell BK1174.out 0).trans rfl, (blk_cell BK1174.out 1).trans rfl, (blk_cell BK1174.out 2).trans rfl, (Z.up HB.out hw1186_0 :), (Z.up HB.out hw1186_1 :), (Z.up HB.out hw1186_2 :), (Z.up HB.out hw1187_0 :), (Z.up HB.out hw1187_1 :), (Z.up HB.out hw1187_2 :), (Z.up HB.out hw1188_0 :), (Z.up HB.out hw1188_1 :), (Z.up HB.out hw1188_2 :)⟩ (fun hHeld => ?_); refine with_tabW spec_SafeActs.tab8 spec_SafeActs.bits8 (fun HT_ HW_ => ?_)
        generalize wr.drew = w52 at HO_9 HO_10 BK1174 HB hx1186_0 hx1186_1 hx1186_2 hx1187_0 hx1187_1 hx1187_2 hx1188_0 hx1188_1 hx1188_2 hHeld ⊢
        refine Z.pv 1 40 19 2 HT_.out ?_
        refine Z.pv 2 41 19 6 HT_.out ?_
        refine Z.pv 3 42 19 14 HT_.out ?_
        refine Z.pv 4 43 19 30 HT_.out ?_
        refine Z.pv 5 44 19 62 HT_.out ?_
        refine Z.pv 7 46 19 190 HT_.out ?_
        refine Z.pv 8 47 19 446 HT_.out ?_
        refine Z.pv 9 48 19 958 HT_.out ?_
        refine Z.pv 10 49 19 1982 HT_.out ?_
        refine Z.pv 12 51 19 6078 HT_.out ?_
        refine Z.pv 13 52 19 14270 HT_.out ?_
        refine Z.pv 14 53 19 30654 HT_.out ?_
        refine Z.pv 15 54 19 63422 HT_.out ?_
        refine Z.t12 0 39 19 63423 HT_.out HW_.out hHeld ?_
        refine Z.t12 6 45 19 63487 HT_.out HW_.out hHeld ?_
        refine Z.t12 11 50 19 65535 HT_.out HW_.out hHeld ?_
        refine Z.t12 16 55 19 131071 HT_.out HW_.out hHeld ?_
        refine one_ (i := 17) (N := some 56) (Z.mb 19 262143) rfl rfl (one_of HT_.out (by kernel_rfl)) (by decide) (fun K hK => ?_)
        refine goes_ Try.func79 (by kernel_rfl) rfl #[.agg #[.int .i64 a0_0, .slice A0_1 l0_1.length c0_1, .slice A0_2 l0_2.length c0_2], .slice Ao53 x10_2.length co53, .int .i64 ((rd_T48 l3 x11_2).f0), .int .i64 ((rd_T48 l3 x11_2).f1), .int .i64 ((rd_T48 l3 x11_2).f2)] (by rfl) rfl rfl Z.ar ?_
        with_reducible refine (spec_MayChange.calls k2 a0_0 _ _ l0_1 _ _ l0_2 _ _ x10_2 ((rd_T48 l3 x11_2).f0) ((rd_T48 l3 x11_2).f1) ((rd_T48 l3 x11_2).f2) false _ ?q1 ?q2 ?q3 ?q4 ?q5 ?q6 A26.out).mono ?_
        (case q1 => exact Z.cc HR0_1 HB)
        (case q2 => exact HC0_1.out)
        (case q3 => exact Z.cc HR0_2 HB)
        (case q4 => exact HC0_2.out)
        (case q5 => exact (Kd.R_reads' HO_10.out).2.2)
        (case q6 => exact (Kd.R_reads' HO_10.out).2.1)
        rintro e w54 ⟨rfl, hb⟩
        refine ⟨_, rfl, ?_⟩
        replace HO_9 := Z.k (Kd.R_below HO_9.out hb)
        replace HO_10 := Z.k (Kd.R_below HO_10.out hb)
        replace BK1174 := Z.bb BK1174 hb
        replace HB := Z.st (Z.bs HB.out GE1174.out) hb
        (try clear hb)
        refine hK.out _ _ ⟨(blk_cell BK1174.out 0).trans rfl, (blk_cell BK1174.out 1).trans rfl, (blk_cell BK1174.out 2).trans rfl, (Z.up HB.out hw1186_0 :), (Z.up HB.out hw1186_1 :), (Z.up HB.out hw1186_2 :), (Z.up HB.out hw1187_0 :), (Z.up HB.out hw1187_1 :), (Z.up HB.out hw1187_2 :), (Z.up HB.out hw1188_0 :), (Z.up HB.out hw1188_1 :), (Z.up HB.out hw1188_2 :)⟩ (fun hHeld => ?_)
        clear hK K
        refine Z.nm ?_
        refine Z.pv 18 57 19 524287 HT_.out ?_
        refine done_ (done_of HT_.out (by kernel_rfl)) ?_
        try go_wp2
        go_roundg k2
        case measure => have := HJ4.out; have := HK2.out; omega
        case rel => exact ⟨(x9_2), (x10_2), (wrap64 (x11_2 + 1)), (by rfl), H', ⟨by have := HJ4.out; have := HK2.out; omega⟩, ⟨by exact HO_9.out⟩, ⟨by exact HO_10.out⟩, ⟨by exact BK1174.out⟩, ⟨Z.bs HB.out GE1174.out⟩⟩
      ·rw [if_neg c24] at H
       have c24b0 := decide_eq_false c24
       clear c24
       obtain rfl := Option.some.inj H
       go_wp2
       go_ret
       exact ⟨_, by rfl, by exact HO_9.out, Z.bs HB.out GE1174.out⟩

end Go.Proofs.Ytojoblllgddckaa.PAll
