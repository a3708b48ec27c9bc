/- test -/
import Derived.Test.YtcafckapdgaogaaCAll1
import Derived.Shelf.Abstract
import Derived.Maps.OwnSet
namespace Go.Proofs.Ytcafckapdgaogaa.PAll
open Go.RowKit Go.Proofs.YtcafckapdgaogaaW.PrintWords Go.Proofs.YtcafckapdgaogaaW.PrintLast Go.Proofs.YtcafckapdgaogaaW.PrintMore
set_option linter.unusedVariables false
theorem ft_elder {P : World → Prop} {W W1 : World} {ok : Nat → Prop} {v : Value} (h : Foot P W ok) (hbase : ∀ k, v.ownBlock = some k → W.heap.size ≤ k) (hb : Below W.heap.size W W1) : Foot P W1 (fun k => ok k ∧ some k ≠ v.ownBlock) :=
  Foot.mono (Foot.step (Foot.bound h) (fun k _ hlt => hb.block k hlt)) (fun k hk => ⟨hk.1, fun he => by have := hbase k he.symm; have := hk.2; omega⟩)
theorem ft_after {P : World → Prop} {W W1 : World} {ok : Nat → Prop} {v v1 : Value} (h : Foot P W (fun k => ok k ∧ some k ≠ v.ownBlock)) (hg : W.grownBy W1 v.ownBlock) (hat : v1.ownBlock = v.ownBlock ∨ ∃ b, v1.ownBlock = some b ∧ W.heap.size ≤ b) : Foot P W1 (fun k => ok k ∧ some k ≠ v1.ownBlock) := by
  refine Foot.mono (Foot.step (Foot.bound h) (fun k hk hlt => hg.block k hlt hk.1.2)) (fun k hk => ⟨hk.1.1, ?_⟩)
  rcases hat with e | ⟨b, e, hle⟩
  · rw [e]; exact hk.1.2
  · rw [e]
    intro he
    injection he with he
    have := hk.2
    omega
mutual
def impl_statesOf.l0 : Nat → List (List Int) → List (List (S86)) → Int → Int → Option ((List (List Int)))
 | 0, _, _, _, _ => none
 | k + 1, x3, x13, x14, x15 => if x15 < x14 then (if 0 ≤ x15 then (if x15 < (x13.length : Int) then (impl_statesOf.l1 k (rd_L9 x13 x15) (([] : List (List Int))) x13 x14 x15 x3 (x3.length : Int) 0) else (none)) else (none)) else (some x3)
def impl_statesOf.l1 : Nat → List (S86) → List (List Int) → List (List (S86)) → Int → Int → List (List Int) → Int → Int → Option ((List (List Int)))
 | 0, _, _, _, _, _, _, _, _ => none
 | k + 1, x5, x6, x13, x14, x15, x20, x21, x22 => if x22 < x21 then (if 0 ≤ x22 then (if x22 < (x20.length : Int) then (impl_statesOf.l2 k x5 x6 (rd_L12 x20 x22) x13 x14 x15 x20 x21 x22 (x5.length : Int) 0) else (none)) else (none)) else (impl_statesOf.l0 k x6 x13 x14 (wrap64 (x15 + 1)))
def impl_statesOf.l2 : Nat → List (S86) → List (List Int) → List Int → List (List (S86)) → Int → Int → List (List Int) → Int → Int → Int → Int → Option ((List (List Int)))
 | 0, _, _, _, _, _, _, _, _, _, _, _ => none
 | k + 1, x5, x6, x8, x13, x14, x15, x20, x21, x22, x27, x28 => if x28 < x27 then ((some (([] : List Int) : List Int)).bind fun y1135 => (if y1135.length + x8.length < 17592186044416 then ((some (y1135 ++ x8 : List Int)).bind fun y1138 => (if y1138.length < 17592186044416 then (if x6.length < 5864062014805 then (impl_statesOf.l2 k x5 (x6 ++ [(y1138 ++ [x28])]) x8 x13 x14 x15 x20 x21 x22 x27 (wrap64 (x28 + 1))) else (none)) else (none))) else (none))) else (impl_statesOf.l1 k x5 x6 x13 x14 x15 x20 x21 (wrap64 (x22 + 1)))
end
def impl_statesOf.f (k : Nat) (a0_0 : Int) (l0_1 : List Int) (l0_2 : List (List (S86))) : Option ((List (List Int))) := impl_statesOf.l0 k (([(([] : List Int))] : List (List Int))) l0_2 (l0_2.length : Int) 0
theorem impl_statesOf.mono_l : ∀ k, (∀ y0 y1 y2 y3, LeO (impl_statesOf.l0 k y0 y1 y2 y3) (impl_statesOf.l0 (k + 1) y0 y1 y2 y3)) ∧ (∀ y0 y1 y2 y3 y4 y5 y6 y7, LeO (impl_statesOf.l1 k y0 y1 y2 y3 y4 y5 y6 y7) (impl_statesOf.l1 (k + 1) y0 y1 y2 y3 y4 y5 y6 y7)) ∧ (∀ y0 y1 y2 y3 y4 y5 y6 y7 y8 y9 y10, LeO (impl_statesOf.l2 k y0 y1 y2 y3 y4 y5 y6 y7 y8 y9 y10) (impl_statesOf.l2 (k + 1) y0 y1 y2 y3 y4 y5 y6 y7 y8 y9 y10))
 | 0 => ⟨fun _ _ _ _ r h => by simp [impl_statesOf.l0] at h, fun _ _ _ _ _ _ _ _ r h => by simp [impl_statesOf.l1] at h, fun _ _ _ _ _ _ _ _ _ _ _ r h => by simp [impl_statesOf.l2] at h⟩
 | k + 1 => by
  obtain ⟨ih0, ih1, ih2⟩ := impl_statesOf.mono_l k
  refine ⟨?_, ?_, ?_⟩
  ·intro y0 y1 y2 y3
   unfold impl_statesOf.l0
   repeat' first
   | (with_reducible exact LeO.refl _)
   | exact ih0 _ _ _ _
   | exact ih1 _ _ _ _ _ _ _ _
   | exact ih2 _ _ _ _ _ _ _ _ _ _ _
   | exact LeO.none _
   | refine LeO.ite ?_ ?_
   | refine LeO.bind ?_ (fun _ => ?_)
  ·intro y0 y1 y2 y3 y4 y5 y6 y7
   unfold impl_statesOf.l1
   repeat' first
   | (with_reducible exact LeO.refl _)
   | exact ih0 _ _ _ _
   | exact ih1 _ _ _ _ _ _ _ _
   | exact ih2 _ _ _ _ _ _ _ _ _ _ _
   | exact LeO.none _
   | refine LeO.ite ?_ ?_
   | refine LeO.bind ?_ (fun _ => ?_)
  ·intro y0 y1 y2 y3 y4 y5 y6 y7 y8 y9 y10
   unfold impl_statesOf.l2
   repeat' first
   | (with_reducible exact LeO.refl _)
   | exact ih0 _ _ _ _
   | exact ih1 _ _ _ _ _ _ _ _
   | exact ih2 _ _ _ _ _ _ _ _ _ _ _
   | exact LeO.none _
   | refine LeO.ite ?_ ?_
   | refine LeO.bind ?_ (fun _ => ?_)
theorem impl_statesOf.mono : ∀ a0 a1 a2 k, LeO (impl_statesOf.f k a0 a1 a2) (impl_statesOf.f (k + 1) a0 a1 a2) := by
 intro a0 a1 a2 k
 obtain ⟨ih0, ih1, ih2⟩ := impl_statesOf.mono_l k
 unfold impl_statesOf.f
 repeat' first
   | (with_reducible exact LeO.refl _)
   | exact ih0 _ _ _ _
   | exact ih1 _ _ _ _ _ _ _ _
   | exact ih2 _ _ _ _ _ _ _ _ _ _ _
   | exact LeO.none _
   | refine LeO.ite ?_ ?_
   | refine LeO.bind ?_ (fun _ => ?_)
set_option maxHeartbeats 8000000 in
set_option maxRecDepth 100000 in
theorem impl_statesOf.calls (k : Nat) (a0_0 : Int) (A0_1 : Option Addr) (c0_1 : Nat) (l0_1 : List Int) (A0_2 : Option Addr) (c0_2 : Nat) (l0_2 : List (List (S86))) (r : List (List Int)) (w : World) (hr0_1 : Kd.C (Kd.int .i64) w A0_1 l0_1.length l0_1) (hc0_1 : l0_1.length ≤ c0_1) (hr0_2 : Kd.C (Kd.slice 86 k86) w A0_2 l0_2.length l0_2) (hc0_2 : l0_2.length ≤ c0_2) (h : impl_statesOf.f k a0_0 l0_1 l0_2 = some r) :
  Calls Try.prog 92 #[.agg #[.int .i64 a0_0, .slice A0_1 l0_1.length c0_1, .slice A0_2 l0_2.length c0_2]] w fun e w' => ∃ v0_ : Value, e = .returned (v0_) ∧ Kd.N (Kd.slice 3 (Kd.int .i64)) 22 w' w.heap.size (fun k_ => (w.heap.size ≤ k_)) v0_ r ∧ Below w.heap.size w w' := by
 have hu35 := Try.underlying35
 have HR0_1 := Aside0.mk hr0_1
 have HC0_1 := Aside0.mk hc0_1
 clear hr0_1 hc0_1
 have HR0_2 := Aside0.mk hr0_2
 have HC0_2 := Aside0.mk hc0_2
 clear hr0_2 hc0_2
 have HB := Aside0.mk (Below.refl w.heap.size w)
 have H := h
 clear h
 unfold impl_statesOf.f at H
 obtain ⟨y1124, hy1124⟩ : ∃ y_ : List Int, y_ = (([] : List Int)) := ⟨_, rfl⟩
 replace H : (impl_statesOf.l0 k (([y1124] : List (List Int))) l0_2 (l0_2.length : Int) 0) = some r := by first | (rw [hy1124]; with_reducible exact H) | (have H2_ := (Option.bind_some _ _).symm.trans H; rw [hy1124]; with_reducible exact H2_) | (have H2_ := (Option.bind_some _ _).symm.trans H; with_reducible exact H2_) | with_reducible exact H | (rw [hy1124]; exact H) | exact H
 have Ny1124 := Aside0.mk hy1124
 clear hy1124
 obtain ⟨y1127, hy1127⟩ : ∃ y_ : List (List Int), y_ = (([y1124] : List (List Int))) := ⟨_, rfl⟩
 replace H : (impl_statesOf.l0 k y1127 l0_2 (l0_2.length : Int) 0) = some r := by first | (rw [hy1127]; with_reducible exact H) | (have H2_ := (Option.bind_some _ _).symm.trans H; rw [hy1127]; with_reducible exact H2_) | (have H2_ := (Option.bind_some _ _).symm.trans H; with_reducible exact H2_) | with_reducible exact H | (rw [hy1127]; exact H) | exact H
 have Ny1127 := Aside0.mk hy1127
 clear hy1127
 have H' := Aside0.mk H
 clear H
 go_enter Try.func92, Try.ntmps92
 go_wp2_with (first | ((with_reducible refine gate_dst (N := 1) rfl ?_); refine Z.bx #[.int .i64 a0_0, .slice A0_1 l0_1.length c0_1, .slice A0_2 l0_2.length c0_2] 35 HB ?_; clear HB; intro gb1123 w2 BK1123 GE1123 HB hg hb; have GW1123 := GE1123; clear hb hg) | ((with_reducible refine gate_dst (N := 10) rfl ?_); refine Kd.R_lit (Kd.int .i64) _ 3 ?hg (N := 10) ?hd (xs := ([] : List Int)) (inner := []) (ok := fun _ => True) (okp := fun _ => True) ?hr ?hp (fun _ hk => hk) trivial (Below.refl _ _) (Nat.le_refl _) (by simp) ?_; (case hd | hg => rfl); (case hr => first | (go_simp; done) | (go_simp; rfl)); (case hp => exact (Reps.none _ _)); intro v1125 w3 ho4 hb hg_ hnew_; clear hg_ hnew_; (first | rw [← Ny1124.out] at ho4 | (simp only [Int.reduceToNat] at ho4; rw [← Ny1124.out] at ho4)); have HO1126 := Aside0.mk (Kd.R_lower (Kd.R_newM (M := fun k_ => (w.heap.size ≤ k_)) ho4 (below_size (Z.bs HB.out GE1123.out)) (fun k_ h_ => h_)) (below_size (Z.bs HB.out GE1123.out))); replace BK1123 := Z.bb BK1123 hb; replace HB := Z.st (Z.bs HB.out GE1123.out) hb; clear hb ho4; obtain ⟨Ao5, co5, eo5⟩ := Kd.R_slice HO1126.out; subst eo5) | ((with_reducible refine gate_dst (N := 11) rfl ?_); refine Kd.N_lit (Kd.slice 3 (Kd.int .i64)) _ 22 ?hg (N' := 11) ?hd (xs := ([y1124] : List (List Int))) (inner := [.slice Ao5 y1124.length co5]) (ok := (fun k_ => (w.heap.size ≤ k_) ∧ k_ ≠ gb1123)) (okp := (fun k_ => (w.heap.size ≤ k_) ∧ k_ ≠ gb1123)) ?hr ?hp (fun _ hk => hk) ((show ∀ k_, w3.heap.size ≤ k_ → (fun k_ => (w.heap.size ≤ k_) ∧ k_ ≠ gb1123) k_ from fun k_ hk => ⟨(Nat.le_trans (below_size (Z.bs HB.out GE1123.out)) hk), Kd.freshB (g := gb1123) (o := .cells #[.int .i64 a0_0, .slice A0_1 l0_1.length c0_1, .slice A0_2 l0_2.length c0_2] 35 (0, 0)) (Z.bk BK1123.out) k_ hk⟩) _ (Nat.le_refl _)) (Below.refl _ _) (Nat.le_refl _) (by simp) ?_; (case hd | hg => rfl); (case hr => first | (go_simp; done) | (go_simp; rfl)); (case hp => exact (Reps.one (show Kd.FK (Kd.slice 3 (Kd.int .i64)) _ _ y1124 [.slice Ao5 y1124.length co5] from (Kd.FK_slice_mk (Kd.R_reads' (Kd.R_mono (ok' := (fun k_ => (w.heap.size ≤ k_) ∧ k_ ≠ gb1123)) (Kd.R_types (HO1126.out) BK1123.out (by decide)) (fun k_ hk => ⟨hk.1.1, hk.2⟩))).2.1 (Kd.R_F (Kd.R_mono (ok' := (fun k_ => (w.heap.size ≤ k_) ∧ k_ ≠ gb1123)) (Kd.R_types (HO1126.out) BK1123.out (by decide)) (fun k_ hk => ⟨hk.1.1, hk.2⟩))))) (Reps.none _ _))); intro v1128 w6 ho7 hb hg_ hnew_; clear hg_ hnew_; (first | rw [← Ny1127.out] at ho7 | (simp only [Int.reduceToNat] at ho7; rw [← Ny1127.out] at ho7)); have HO1129 := Aside0.mk (Kd.N_lower ho7 (below_size (Z.bs HB.out GE1123.out))); replace BK1123 := Z.bb BK1123 hb; replace HB := Z.st (Z.bs HB.out GE1123.out) hb; clear HO1126; clear hb ho7; have hcz8 := Z.c3 BK1123.out))
 go_loopg [3, 15] k (fun kq v3 v15 w' => ∃ (x3_1 : List (List Int)) (x15_1 : Int), v15 = .int .i64 x15_1 ∧ Aside0 (impl_statesOf.l0 kq x3_1 l0_2 (l0_2.length : Int) x15_1 = some r) ∧ Aside0 (kq ≤ k) ∧ Aside0 (Kd.N (Kd.slice 3 (Kd.int .i64)) 22 w' w.heap.size (fun k_ => (w.heap.size ≤ k_) ∧ k_ ≠ gb1123) v3 x3_1) ∧ Aside0 (w'.heap[gb1123]? = some (.cells #[.int .i64 a0_0, (.slice A0_1 l0_1.length c0_1), (.slice A0_2 l0_2.length c0_2)] 35 (0, 0))) ∧ Aside0 (Below w.heap.size w w'))
 case atStart => exact ⟨(y1127), (0), (by first | rfl | (simp; done) | (simp [*]; done)), H', ⟨Nat.le_refl _⟩, ⟨by (with_reducible repeat (first | apply Kd.N_alloc | apply Kd.N_drewN | apply Kd.N_drew)); exact HO1129.out⟩, ⟨by (with_reducible repeat (first | refine blk_drewN ?_ _ | refine blk_drew ?_ | refine blk_alloc ?_ _)); exact BK1123.out⟩, ⟨Z.bs HB.out GE1123.out⟩⟩
 case round =>
  clear H'
  try clear p2
  try clear hcz8_0
  try clear hcz8_1
  try clear hcz8_2
  try clear hfz8_0
  try clear hfz8_1
  try clear hfz8_2
  obtain ⟨x3_1, x15_1, rfl, HA, HK1, HO_3, BK1123, HB⟩ := hrel
  cases gk with
  | zero => exact absurd HA.out (by simp [impl_statesOf.l0])
  | succ k1 =>
   have H := HA.out
   clear HA
   simp only [impl_statesOf.l0] at H
   by_cases c9 : x15_1 < (l0_2.length : Int)
   ·rw [if_pos c9] at H
    have c9b0 := decide_eq_true c9
    clear c9
    obtain ⟨c10, H⟩ := Z.ifp H
    have c10b0 : decide (0 ≤ x15_1) = true := decide_eq_true c10
    clear c10
    obtain ⟨c11, H⟩ := Z.ifp H
    have c11b0 : decide (x15_1 < (l0_2.length : Int)) = true := decide_eq_true c11
    clear c11
    obtain ⟨y1131, hy1131⟩ : ∃ y_ : List (List Int), y_ = (([] : List (List Int))) := ⟨_, rfl⟩
    replace H : (impl_statesOf.l1 k1 (rd_L9 l0_2 x15_1) y1131 l0_2 (l0_2.length : Int) x15_1 x3_1 (x3_1.length : Int) 0) = some r := by first | (rw [hy1131]; with_reducible exact H) | (have H2_ := (Option.bind_some _ _).symm.trans H; rw [hy1131]; with_reducible exact H2_) | (have H2_ := (Option.bind_some _ _).symm.trans H; with_reducible exact H2_) | with_reducible exact H | (rw [hy1131]; exact H) | exact H
    have Ny1131 := Aside0.mk hy1131
    clear hy1131
    have H' := Aside0.mk H
    clear H
    have p1130 : 0 ≤ (x15_1 : Int) := Z.od
    have q1130 : x15_1 < (l0_2.length : Int) := Z.od
    obtain ⟨ad1130, A1130_0, c1130_0, rfl, hx1130_0, hl1130_0, hi1130_0⟩ := at_L9 HR0_2.out x15_1 p1130 q1130
    replace hx1130_0 := Z.up HB.out hx1130_0
    have HR1130_0 := Aside0.mk hi1130_0
    have HC1130_0 := Aside0.mk hl1130_0
    clear hi1130_0 hl1130_0
    replace p1130 := eq_true p1130
    replace q1130 := eq_true q1130
    go_wp2_with (first | ((with_reducible refine gate_dst (N := 19) rfl ?_); refine Kd.N_lit (Kd.slice 3 (Kd.int .i64)) _ 22 ?hg (N' := 19) ?hd (xs := ([] : List (List Int))) (inner := []) (ok := (fun k_ => (w.heap.size ≤ k_) ∧ some k_ ≠ (u3 : Value).ownBlock ∧ k_ ≠ gb1123)) (okp := (fun k_ => (w.heap.size ≤ k_) ∧ some k_ ≠ (u3 : Value).ownBlock ∧ k_ ≠ gb1123)) ?hr ?hp (fun _ hk => hk) ((show ∀ k_, wr.heap.size ≤ k_ → (fun k_ => (w.heap.size ≤ k_) ∧ some k_ ≠ (u3 : Value).ownBlock ∧ k_ ≠ gb1123) k_ from fun k_ hk => ⟨(Nat.le_trans (below_size (Z.bs HB.out GE1123.out)) hk), Kd.fresh' (Kd.N_lt (by (with_reducible repeat (first | apply Kd.N_alloc | apply Kd.N_drewN | apply Kd.N_drew)); exact HO_3.out)) k_ hk, Kd.freshB (g := gb1123) (o := .cells #[.int .i64 a0_0, .slice A0_1 l0_1.length c0_1, .slice (some ad1130) l0_2.length c0_2] 35 (0, 0)) (Z.bk BK1123.out) k_ hk⟩) _ (Nat.le_refl _)) (Below.refl _ _) (Nat.le_refl _) (by simp) ?_; (case hd | hg => rfl); (case hr => first | (go_simp; done) | (go_simp; rfl)); (case hp => exact (Reps.none _ _)); intro v1132 w12 ho13 hb hg_ hnew_; clear hg_ hnew_; (first | rw [← Ny1131.out] at ho13 | (simp only [Int.reduceToNat] at ho13; rw [← Ny1131.out] at ho13)); replace HO_3 := Aside0.mk (Kd.N_elder' (by (with_reducible repeat (first | apply Kd.N_alloc | apply Kd.N_drewN | apply Kd.N_drew)); exact HO_3.out) (Kd.N_base ho13) hb); have HO1133 := Aside0.mk (Kd.N_lower ho13 (below_size (Z.bs HB.out GE1123.out))); replace BK1123 := Z.bb BK1123 hb; replace HB := Z.st (Z.bs HB.out GE1123.out) hb; clear hb ho13; obtain ⟨Ao14, co14, eo14⟩ := Kd.N_slice HO_3.out; subst eo14))
    go_loopg [6, 22] k1 (fun kq v6 v22 w' => ∃ (x6_2 : List (List Int)) (x22_2 : Int), v22 = .int .i64 x22_2 ∧ Aside0 (impl_statesOf.l1 kq (rd_L9 l0_2 x15_1) x6_2 l0_2 (l0_2.length : Int) x15_1 x3_1 (x3_1.length : Int) x22_2 = some r) ∧ Aside0 (kq ≤ k1) ∧ Aside0 (Kd.N (Kd.slice 3 (Kd.int .i64)) 22 w' w.heap.size (fun k_ => (w.heap.size ≤ k_) ∧ some k_ ≠ ((.slice Ao14 x3_1.length co14) : Value).ownBlock ∧ k_ ≠ gb1123) v6 x6_2) ∧ Aside0 (Kd.N (Kd.slice 3 (Kd.int .i64)) 22 w' w.heap.size (fun k_ => (w.heap.size ≤ k_) ∧ some k_ ≠ (v6 : Value).ownBlock ∧ k_ ≠ gb1123) (.slice Ao14 x3_1.length co14) x3_1) ∧ Aside0 (w'.heap[gb1123]? = some (.cells #[.int .i64 a0_0, (.slice A0_1 l0_1.length c0_1), (.slice (some ad1130) l0_2.length c0_2)] 35 (0, 0))) ∧ Aside0 (Below w.heap.size w w'))
    case atStart => exact ⟨(y1131), (0), (by first | rfl | (simp; done) | (simp [*]; done)), H', ⟨Nat.le_refl _⟩, ⟨by (with_reducible repeat (first | apply Kd.N_alloc | apply Kd.N_drewN | apply Kd.N_drew)); exact HO1133.out⟩, ⟨by (with_reducible repeat (first | apply Kd.N_alloc | apply Kd.N_drewN | apply Kd.N_drew)); exact Kd.N_mono HO_3.out (fun _ hk => ⟨hk.1.1, ⟨hk.2, hk.1.2⟩⟩)⟩, ⟨by (with_reducible repeat (first | refine blk_drewN ?_ _ | refine blk_drew ?_ | refine blk_alloc ?_ _)); exact BK1123.out⟩, ⟨Z.bs HB.out GE1123.out⟩⟩
    case round =>
     clear H'
     try clear c1
     try clear p1
     try clear q1
     try clear hx1
     try clear p2
     try clear c9
     try clear c9b0
     try clear c10
     try clear c10b0
     try clear c11
     try clear c11b0
     try clear p11
     try clear q11
     try clear hx11
     try clear hcz8_0
     try clear hcz8_1
     try clear hcz8_2
     try clear hfz8_0
     try clear hfz8_1
     try clear hfz8_2
     try clear hx1130_0
     try clear p1130
     try clear p2
     try clear q1130
     obtain ⟨x6_2, x22_2, rfl, HA, HK2, HO_6, HO_20, BK1123, HB⟩ := hrel
     cases gk with
     | zero => exact absurd HA.out (by simp [impl_statesOf.l1])
     | succ k2 =>
      have H := HA.out
      clear HA
      simp only [impl_statesOf.l1] at H
      by_cases c15 : x22_2 < (x3_1.length : Int)
      ·rw [if_pos c15] at H
       have c15b0 := decide_eq_true c15
       clear c15
       obtain ⟨c16, H⟩ := Z.ifp H
       have c16b0 : decide (0 ≤ x22_2) = true := decide_eq_true c16
       clear c16
       obtain ⟨c17, H⟩ := Z.ifp H
       have c17b0 : decide (x22_2 < (x3_1.length : Int)) = true := decide_eq_true c17
       clear c17
       have H' := Aside0.mk H
       clear H
       have p1134 : 0 ≤ (x22_2 : Int) := Z.od
       have q1134 : x22_2 < (x3_1.length : Int) := Z.od
       obtain ⟨ad1134, A1134_0, c1134_0, e1134, hx1134_0, hl1134_0, hi1134_0⟩ := at_L12 (Kd.N_reads' HO_20.out).2.2 x22_2 p1134 q1134
       cases e1134
       obtain ⟨ce1134, hce1134, hMe1134, hcc1134⟩ := Kd.N_get HO_20.out [] x22_2 p1134 (by first | exact q1134 | exact Z.od | (have e_ := (Kd.N_reads' HO_20.out).1; omega))
       obtain ⟨ua1134_0, uc1134_0, rfl, ul1134_0, ge1134_0⟩ := Kd.FK_slice_open hMe1134
       have hv1134_0 := hcc1134 0 _ rfl
       rw [Nat.add_zero, show ((Kd.slice 3 (Kd.int .i64))).sz = 1 from rfl, Nat.mul_one] at hv1134_0
       replace hv1134_0 := Option.some.inj (hv1134_0.symm.trans hx1134_0)
       injection hv1134_0 with hva_ hvn_ hvc_
       rw [hva_] at ge1134_0
       rw [hvc_] at ul1134_0
       have HL1134_0 := Aside0.mk (show Kd.F (Kd.int .i64) _ _ _ (rd_L12 x3_1 x22_2).length (rd_L12 x3_1 x22_2) from ge1134_0)
       clear hva_ hvn_ hvc_ ge1134_0 ul1134_0
       clear hcc1134 hce1134
       have HR1134_0 := Aside0.mk hi1134_0
       have HC1134_0 := Aside0.mk hl1134_0
       clear hi1134_0 hl1134_0
       replace p1134 := eq_true p1134
       replace q1134 := eq_true q1134
       go_wp2
       go_loopg [6, 28] k2 (fun kq v6 v28 w' => ∃ (x6_3 : List (List Int)) (x28_3 : Int), v28 = .int .i64 x28_3 ∧ Aside0 (impl_statesOf.l2 kq (rd_L9 l0_2 x15_1) x6_3 (rd_L12 x3_1 x22_2) l0_2 (l0_2.length : Int) x15_1 x3_1 (x3_1.length : Int) x22_2 ((rd_L9 l0_2 x15_1).length : Int) x28_3 = some r) ∧ Aside0 (kq ≤ k2) ∧ Aside0 (Kd.N (Kd.slice 3 (Kd.int .i64)) 22 w' w.heap.size (fun k_ => (w.heap.size ≤ k_) ∧ some k_ ≠ ((.slice (some ad1134) x3_1.length co14) : Value).ownBlock ∧ k_ ≠ gb1123) v6 x6_3) ∧ Aside0 (Kd.N (Kd.slice 3 (Kd.int .i64)) 22 w' w.heap.size (fun k_ => (w.heap.size ≤ k_) ∧ some k_ ≠ (v6 : Value).ownBlock ∧ k_ ≠ gb1123) (.slice (some ad1134) x3_1.length co14) x3_1) ∧ Aside0 (Kd.F (Kd.int .i64) w' (fun k_ => (w.heap.size ≤ k_) ∧ some k_ ≠ (v6 : Value).ownBlock ∧ k_ ≠ gb1123) A1134_0 (rd_L12 x3_1 x22_2).length (rd_L12 x3_1 x22_2)) ∧ Aside0 (w'.heap[gb1123]? = some (.cells #[.int .i64 a0_0, (.slice A0_1 l0_1.length c0_1), (.slice (some ad1130) l0_2.length c0_2)] 35 (0, 0))) ∧ Aside0 (Below w.heap.size w w'))
       case atStart => exact ⟨(x6_2), (0), (by first | rfl | (simp; done) | (simp [*]; done)), H', ⟨Nat.le_refl _⟩, ⟨by (with_reducible repeat (first | apply Kd.N_alloc | apply Kd.N_drewN | apply Kd.N_drew)); exact HO_6.out⟩, ⟨by (with_reducible repeat (first | apply Kd.N_alloc | apply Kd.N_drewN | apply Kd.N_drew)); exact HO_20.out⟩, ⟨(by (with_reducible repeat (first | apply ft_alloc | apply ft_drewN | apply ft_drew)); exact Foot.mono HL1134_0.out (fun _ hk => hk.1))⟩, ⟨by (with_reducible repeat (first | refine blk_drewN ?_ _ | refine blk_drew ?_ | refine blk_alloc ?_ _)); exact BK1123.out⟩, ⟨Z.bs HB.out GE1123.out⟩⟩
       case round =>
        clear H'
        try clear c1
        try clear p1
        try clear q1
        try clear hx1
        try clear p2
        try clear c9
        try clear c9b0
        try clear c10
        try clear c10b0
        try clear c11
        try clear c11b0
        try clear p11
        try clear q11
        try clear hx11
        try clear c15
        try clear c15b0
        try clear c16
        try clear c16b0
        try clear c17
        try clear c17b0
        try clear hcz8_0
        try clear hcz8_1
        try clear hcz8_2
        try clear hfz8_0
        try clear hfz8_1
        try clear hfz8_2
        try clear hx1130_0
        try clear hx1134_0
        try clear p1
        try clear p11
        try clear p1130
        try clear p1134
        try clear p2
        try clear q1
        try clear q11
        try clear q1130
        try clear q1134
        obtain ⟨x6_3, x28_3, rfl, HA, HK3, HO_6, HO_20, HL_8, BK1123, HB⟩ := hrel
        cases gk with
        | zero => exact absurd HA.out (by simp [impl_statesOf.l2])
        | succ k3 =>
         have H := HA.out
         clear HA
         simp only [impl_statesOf.l2] at H
         by_cases c18 : x28_3 < ((rd_L9 l0_2 x15_1).length : Int)
         ·rw [if_pos c18] at H
          have c18b0 := decide_eq_true c18
          clear c18
          obtain ⟨y1135, hy1135⟩ : ∃ y_ : List Int, y_ = (([] : List Int)) := ⟨_, rfl⟩
          replace H : (if y1135.length + (rd_L12 x3_1 x22_2).length < 17592186044416 then ((some (y1135 ++ (rd_L12 x3_1 x22_2) : List Int)).bind fun y1138 => (if y1138.length < 17592186044416 then (if x6_3.length < 5864062014805 then (impl_statesOf.l2 k3 (rd_L9 l0_2 x15_1) (x6_3 ++ [(y1138 ++ [x28_3])]) (rd_L12 x3_1 x22_2) l0_2 (l0_2.length : Int) x15_1 x3_1 (x3_1.length : Int) x22_2 ((rd_L9 l0_2 x15_1).length : Int) (wrap64 (x28_3 + 1))) else (none)) else (none))) else (none)) = some r := by first | (rw [hy1135]; with_reducible exact H) | (have H2_ := (Option.bind_some _ _).symm.trans H; rw [hy1135]; with_reducible exact H2_) | (have H2_ := (Option.bind_some _ _).symm.trans H; with_reducible exact H2_) | with_reducible exact H | (rw [hy1135]; exact H) | exact H
          have Ny1135 := Aside0.mk hy1135
          clear hy1135
          obtain ⟨c19, H⟩ := Z.ifp H
          have LMc19 := Aside0.mk c19
          clear c19
          obtain ⟨y1138, hy1138⟩ : ∃ y_ : List Int, y_ = (y1135 ++ (rd_L12 x3_1 x22_2)) := ⟨_, rfl⟩
          replace H : (if y1138.length < 17592186044416 then (if x6_3.length < 5864062014805 then (impl_statesOf.l2 k3 (rd_L9 l0_2 x15_1) (x6_3 ++ [(y1138 ++ [x28_3])]) (rd_L12 x3_1 x22_2) l0_2 (l0_2.length : Int) x15_1 x3_1 (x3_1.length : Int) x22_2 ((rd_L9 l0_2 x15_1).length : Int) (wrap64 (x28_3 + 1))) else (none)) else (none)) = some r := by first | (rw [hy1138]; with_reducible exact H) | (have H2_ := (Option.bind_some _ _).symm.trans H; rw [hy1138]; with_reducible exact H2_) | (have H2_ := (Option.bind_some _ _).symm.trans H; with_reducible exact H2_) | with_reducible exact H | (rw [hy1138]; exact H) | exact H
          have Ny1138 := Aside0.mk hy1138
          clear hy1138
          obtain ⟨c20, H⟩ := Z.ifp H
          have LMc20 := Aside0.mk c20
          clear c20
          obtain ⟨y1141, hy1141⟩ : ∃ y_ : List Int, y_ = (y1138 ++ [x28_3]) := ⟨_, rfl⟩
          replace H : (if x6_3.length < 5864062014805 then (impl_statesOf.l2 k3 (rd_L9 l0_2 x15_1) (x6_3 ++ [y1141]) (rd_L12 x3_1 x22_2) l0_2 (l0_2.length : Int) x15_1 x3_1 (x3_1.length : Int) x22_2 ((rd_L9 l0_2 x15_1).length : Int) (wrap64 (x28_3 + 1))) else (none)) = some r := by first | (rw [hy1141]; with_reducible exact H) | (have H2_ := (Option.bind_some _ _).symm.trans H; rw [hy1141]; with_reducible exact H2_) | (have H2_ := (Option.bind_some _ _).symm.trans H; with_reducible exact H2_) | with_reducible exact H | (rw [hy1141]; exact H) | exact H
          have Ny1141 := Aside0.mk hy1141
          clear hy1141
          obtain ⟨c21, H⟩ := Z.ifp H
          have LMc21 := Aside0.mk c21
          clear c21
          obtain ⟨y1144, hy1144⟩ : ∃ y_ : List (List Int), y_ = (x6_3 ++ [y1141]) := ⟨_, rfl⟩
          replace H : (impl_statesOf.l2 k3 (rd_L9 l0_2 x15_1) y1144 (rd_L12 x3_1 x22_2) l0_2 (l0_2.length : Int) x15_1 x3_1 (x3_1.length : Int) x22_2 ((rd_L9 l0_2 x15_1).length : Int) (wrap64 (x28_3 + 1))) = some r := by first | (rw [hy1144]; with_reducible exact H) | (have H2_ := (Option.bind_some _ _).symm.trans H; rw [hy1144]; with_reducible exact H2_) | (have H2_ := (Option.bind_some _ _).symm.trans H; with_reducible exact H2_) | with_reducible exact H | (rw [hy1144]; exact H) | exact H
          have Ny1144 := Aside0.mk hy1144
          clear hy1144
          have H' := Aside0.mk H
          clear H
          go_wp2_with (first | ((with_reducible refine gate_dst (N := 32) rfl ?_); refine Kd.R_lit (Kd.int .i64) _ 3 ?hg (N := 32) ?hd (xs := ([] : List Int)) (inner := []) (ok := fun _ => True) (okp := fun _ => True) ?hr ?hp (fun _ hk => hk) trivial (Below.refl _ _) (Nat.le_refl _) (by simp) ?_; (case hd | hg => rfl); (case hr => first | (go_simp; done) | (go_simp; rfl)); (case hp => exact (Reps.none _ _)); intro v1136 w22 ho23 hb hg_ hnew_; clear hg_ hnew_; (first | rw [← Ny1135.out] at ho23 | (simp only [Int.reduceToNat] at ho23; rw [← Ny1135.out] at ho23)); replace HO_6 := Aside0.mk (Kd.N_elder' (by (with_reducible repeat (first | apply Kd.N_alloc | apply Kd.N_drewN | apply Kd.N_drew)); exact HO_6.out) (Kd.R_base ho23) hb); replace HO_20 := Aside0.mk (Kd.N_elder' (by (with_reducible repeat (first | apply Kd.N_alloc | apply Kd.N_drewN | apply Kd.N_drew)); exact HO_20.out) (Kd.R_base ho23) hb); replace HL_8 := Aside0.mk (ft_elder (by (with_reducible repeat (first | apply ft_alloc | apply ft_drewN | apply ft_drew)); exact HL_8.out) (Kd.R_base ho23) hb); have HO1137 := Aside0.mk (Kd.R_lower (Kd.R_newM (M := fun k_ => (w.heap.size ≤ k_)) ho23 (below_size (Z.bs HB.out GE1123.out)) (fun k_ h_ => h_)) (below_size (Z.bs HB.out GE1123.out))); replace BK1123 := Z.bb BK1123 hb; replace HB := Z.st (Z.bs HB.out GE1123.out) hb; clear hb ho23) | ((with_reducible refine gate_builtin (b := .append) (xs := #[.tmp 32, .tmp 33]) rfl ?_); at_builtin; refine Kd.R_append_rows (Kd.int .i64) (w0 := w) w.heap.size rfl (.tmp 32) (.tmp 33) 22 3 (.int .i64 0) 8 rfl Try.underlying22 info3 rfl (by decide) (by omega) v1136 y1135 (rd_L12 x3_1 x22_2) _ _ _ (fun k_ => (w.heap.size ≤ k_)) (fun _ => False) rfl rfl ?aO ?aR (fun _ _ h => h) (fun _ h => h.elim) ?aF ?aB ?aS ?aL ?_; (case aR => (with_reducible repeat (first | refine Kd.C_alloc ?_ _ | refine Kd.C_drewN ?_ _ | refine Kd.C_drew ?_)); exact Foot.now HL_8.out); (case aB => exact (Z.bs HB.out GE1123.out)); (case aF => exact (fun k_ hk => (Nat.le_trans (below_size (Z.bs HB.out GE1123.out)) hk))); (case aO => exact (by (with_reducible repeat (first | apply Kd.R_alloc | apply Kd.R_drewN | apply Kd.R_drew)); exact Kd.R_mono HO1137.out (fun _ hk => hk.1))); (case aS => exact (below_size (Z.bs HB.out GE1123.out))); (case aL => have := LMc19.out; omega); intro v1139 w24 ho hb hg hat; rw [← Ny1138.out] at ho; replace HO_6 := Aside0.mk (Kd.N_afterv (ok := (fun k_ => (w.heap.size ≤ k_) ∧ some k_ ≠ (.slice (some ad1134) x3_1.length co14 : Value).ownBlock ∧ k_ ≠ gb1123)) (by (with_reducible repeat (first | apply Kd.N_alloc | apply Kd.N_drewN | apply Kd.N_drew)); exact HO_6.out) hg hat); replace HO_20 := Aside0.mk (Kd.N_afterv (ok := (fun k_ => (w.heap.size ≤ k_) ∧ some k_ ≠ (u6 : Value).ownBlock ∧ k_ ≠ gb1123)) (by (with_reducible repeat (first | apply Kd.N_alloc | apply Kd.N_drewN | apply Kd.N_drew)); exact HO_20.out) hg hat); replace HL_8 := Aside0.mk (ft_after (ok := (fun k_ => (w.heap.size ≤ k_) ∧ some k_ ≠ (u6 : Value).ownBlock ∧ k_ ≠ gb1123)) (by (with_reducible repeat (first | apply ft_alloc | apply ft_drewN | apply ft_drew)); exact HL_8.out) hg hat); replace BK1123 := Aside0.mk (blk_grown (g := gb1123) (o := .cells #[.int .i64 a0_0, .slice A0_1 l0_1.length c0_1, .slice (some ad1130) l0_2.length c0_2] 35 (0, 0)) (Z.bk BK1123.out) hg (Kd.R_ne HO1137.out BK1123.out (by decide))); replace HB := Aside0.mk (hb); have HO1140 := Aside0.mk (ho); clear HO1137; clear ho hb hg hat) | ((with_reducible refine gate_builtin (b := .append) (xs := #[.tmp 34, .tmp 36]) rfl ?_); at_builtin; refine Kd.R_append (Kd.int .i64) (w0 := w) w.heap.size rfl (.tmp 34) (.tmp 36) 22 3 (.int .i64 0) 8 rfl Try.underlying22 info3 rfl (by decide) (by omega) v1139 y1138 x28_3 [.int .i64 x28_3] (fun k_ => (w.heap.size ≤ k_)) (fun _ => False) rfl rfl ?aP (fun _ hk => hk.elim) ?aF ?aO ?aB ?aS ?aL ?_; (case aP => exact rfl); (case aB => exact (Z.bs HB.out GE1123.out)); (case aF => exact (fun k_ hk => (Nat.le_trans (below_size (Z.bs HB.out GE1123.out)) hk))); (case aO => exact (by (with_reducible repeat (first | apply Kd.R_alloc | apply Kd.R_drewN | apply Kd.R_drew)); exact HO1140.out)); (case aS => exact (below_size (Z.bs HB.out GE1123.out))); (case aL => have := LMc20.out; omega); intro v1142 w25 ho hb hg hat; rw [← Ny1141.out] at ho; replace HO_6 := Aside0.mk (Kd.N_afterv (ok := (fun k_ => (w.heap.size ≤ k_) ∧ some k_ ≠ (.slice (some ad1134) x3_1.length co14 : Value).ownBlock ∧ k_ ≠ gb1123)) (by (with_reducible repeat (first | apply Kd.N_alloc | apply Kd.N_drewN | apply Kd.N_drew)); exact HO_6.out) hg hat); replace HO_20 := Aside0.mk (Kd.N_afterv (ok := (fun k_ => (w.heap.size ≤ k_) ∧ some k_ ≠ (u6 : Value).ownBlock ∧ k_ ≠ gb1123)) (by (with_reducible repeat (first | apply Kd.N_alloc | apply Kd.N_drewN | apply Kd.N_drew)); exact HO_20.out) hg hat); replace HL_8 := Aside0.mk (ft_after (ok := (fun k_ => (w.heap.size ≤ k_) ∧ some k_ ≠ (u6 : Value).ownBlock ∧ k_ ≠ gb1123)) (by (with_reducible repeat (first | apply ft_alloc | apply ft_drewN | apply ft_drew)); exact HL_8.out) hg hat); replace BK1123 := Aside0.mk (blk_grown (g := gb1123) (o := .cells #[.int .i64 a0_0, .slice A0_1 l0_1.length c0_1, .slice (some ad1130) l0_2.length c0_2] 35 (0, 0)) (Z.bk BK1123.out) hg (Kd.R_ne HO1140.out BK1123.out (by decide))); replace HB := Aside0.mk (hb); have HO1143 := Aside0.mk (ho); clear HO1140; clear ho hb hg hat; obtain ⟨Ao27, co27, eo27⟩ := Kd.R_slice HO1143.out; subst eo27) | ((with_reducible refine gate_builtin (b := .append) (xs := #[.tmp 31, .tmp 38]) rfl ?_); at_builtin; refine Kd.N_append (Kd.slice 3 (Kd.int .i64)) (w0 := w) w.heap.size rfl (.tmp 31) (.tmp 38) 102 22 (.slice none 0 0) 24 rfl Try.underlying102 info22 rfl (by decide) (by omega) u6 x6_3 y1141 [.slice Ao27 y1141.length co27] (fun k_ => (w.heap.size ≤ k_) ∧ some k_ ≠ (.slice (some ad1134) x3_1.length co14 : Value).ownBlock ∧ k_ ≠ gb1123) (fun k_ => ((fun k_ => (w.heap.size ≤ k_) ∧ some k_ ≠ (.slice (some ad1134) x3_1.length co14 : Value).ownBlock ∧ k_ ≠ gb1123)) k_ ∧ some k_ ≠ (u6 : Value).ownBlock) rfl rfl ?aP (fun _ hk => hk) ?aF ?aO ?aB ?aS ?aL ?_; (case aP => exact (Kd.FK_slice_mk (Kd.R_reads' (Kd.R_mono (ok' := (fun k_ => ((fun k_ => (w.heap.size ≤ k_) ∧ some k_ ≠ (.slice (some ad1134) x3_1.length co14 : Value).ownBlock ∧ k_ ≠ gb1123)) k_ ∧ some k_ ≠ (u6 : Value).ownBlock)) (Kd.R_types (Kd.R_apart' (Kd.R_apart' (HO1143.out) (Kd.N_typed HO_20.out) (by decide)) (Kd.N_typed HO_6.out) (by decide)) BK1123.out (by decide)) (fun k_ hk => ⟨⟨hk.1.1.1, ⟨hk.1.1.2, hk.2⟩⟩, hk.1.2⟩))).2.1 (Kd.R_F (Kd.R_mono (ok' := (fun k_ => ((fun k_ => (w.heap.size ≤ k_) ∧ some k_ ≠ (.slice (some ad1134) x3_1.length co14 : Value).ownBlock ∧ k_ ≠ gb1123)) k_ ∧ some k_ ≠ (u6 : Value).ownBlock)) (Kd.R_types (Kd.R_apart' (Kd.R_apart' (HO1143.out) (Kd.N_typed HO_20.out) (by decide)) (Kd.N_typed HO_6.out) (by decide)) BK1123.out (by decide)) (fun k_ hk => ⟨⟨hk.1.1.1, ⟨hk.1.1.2, hk.2⟩⟩, hk.1.2⟩))))); (case aB => exact (Z.bs HB.out GE1123.out)); (case aF => exact (fun k_ hk => ⟨(Nat.le_trans (below_size (Z.bs HB.out GE1123.out)) hk), Kd.fresh' (Kd.N_lt (by (with_reducible repeat (first | apply Kd.N_alloc | apply Kd.N_drewN | apply Kd.N_drew)); exact HO_20.out)) k_ hk, Kd.freshB (g := gb1123) (o := .cells #[.int .i64 a0_0, .slice A0_1 l0_1.length c0_1, .slice (some ad1130) l0_2.length c0_2] 35 (0, 0)) (Z.bk BK1123.out) k_ hk⟩)); (case aO => exact (by (with_reducible repeat (first | apply Kd.N_alloc | apply Kd.N_drewN | apply Kd.N_drew)); exact Kd.N_mono HO_6.out (fun _ hk => ⟨hk.1.1, ⟨hk.1.2.1, hk.1.2.2⟩⟩))); (case aS => exact (below_size (Z.bs HB.out GE1123.out))); (case aL => have := LMc21.out; omega); intro v1145 w26 ho hb hg hat; rw [← Ny1144.out] at ho; replace HO_20 := Aside0.mk (Kd.N_afterv (ok := (fun k_ => (w.heap.size ≤ k_) ∧ some k_ ≠ (.slice Ao27 y1141.length co27 : Value).ownBlock ∧ k_ ≠ gb1123)) (by (with_reducible repeat (first | apply Kd.N_alloc | apply Kd.N_drewN | apply Kd.N_drew)); exact Kd.N_mono HO_20.out (fun _ hk => ⟨⟨hk.1.1, ⟨hk.2, hk.1.2.2⟩⟩, hk.1.2.1⟩)) hg hat); replace HL_8 := Aside0.mk (ft_after (ok := (fun k_ => (w.heap.size ≤ k_) ∧ some k_ ≠ (.slice Ao27 y1141.length co27 : Value).ownBlock ∧ k_ ≠ gb1123)) (by (with_reducible repeat (first | apply ft_alloc | apply ft_drewN | apply ft_drew)); exact Foot.mono HL_8.out (fun _ hk => ⟨⟨hk.1.1, ⟨hk.2, hk.1.2.2⟩⟩, hk.1.2.1⟩)) hg hat); replace BK1123 := Aside0.mk (blk_grown (g := gb1123) (o := .cells #[.int .i64 a0_0, .slice A0_1 l0_1.length c0_1, .slice (some ad1130) l0_2.length c0_2] 35 (0, 0)) (Z.bk BK1123.out) hg (Kd.N_ne HO_6.out BK1123.out (by decide))); replace HB := Aside0.mk (hb); have HO1146 := Aside0.mk (ho); clear HO_6 HO1143; clear ho hb hg hat))
          go_roundg k3
          case measure => have := HK1.out; have := HK2.out; have := HK3.out; omega
          case rel => exact ⟨(y1144), (wrap64 (x28_3 + 1)), (by first | rfl | (simp; done) | (simp [*]; done)), H', ⟨by have := HK1.out; have := HK2.out; have := HK3.out; omega⟩, ⟨by (with_reducible repeat (first | apply Kd.N_alloc | apply Kd.N_drewN | apply Kd.N_drew)); exact HO1146.out⟩, ⟨by (with_reducible repeat (first | apply Kd.N_alloc | apply Kd.N_drewN | apply Kd.N_drew)); exact Kd.N_mono HO_20.out (fun _ hk => ⟨hk.1.1, ⟨hk.2, hk.1.2.2⟩⟩)⟩, ⟨(by (with_reducible repeat (first | apply ft_alloc | apply ft_drewN | apply ft_drew)); exact Foot.mono HL_8.out (fun _ hk => ⟨hk.1.1, ⟨hk.2, hk.1.2.2⟩⟩))⟩, ⟨by (with_reducible repeat (first | refine blk_drewN ?_ _ | refine blk_drew ?_ | refine blk_alloc ?_ _)); exact BK1123.out⟩, ⟨Z.bs HB.out GE1123.out⟩⟩
         ·rw [if_neg c18] at H
          have c18b0 := decide_eq_false c18
          clear c18
          have H' := Aside0.mk H
          clear H
          go_wp2
          go_roundg k3
          case measure => have := HK1.out; have := HK2.out; have := HK3.out; omega
          case rel => exact ⟨(x6_3), (wrap64 (x22_2 + 1)), (by first | rfl | (simp; done) | (simp [*]; done)), H', ⟨by have := HK1.out; have := HK2.out; have := HK3.out; omega⟩, ⟨by (with_reducible repeat (first | apply Kd.N_alloc | apply Kd.N_drewN | apply Kd.N_drew)); exact HO_6.out⟩, ⟨by (with_reducible repeat (first | apply Kd.N_alloc | apply Kd.N_drewN | apply Kd.N_drew)); exact HO_20.out⟩, ⟨by (with_reducible repeat (first | refine blk_drewN ?_ _ | refine blk_drew ?_ | refine blk_alloc ?_ _)); exact BK1123.out⟩, ⟨Z.bs HB.out GE1123.out⟩⟩
      ·rw [if_neg c15] at H
       have c15b0 := decide_eq_false c15
       clear c15
       have H' := Aside0.mk H
       clear H
       go_wp2
       go_roundg k2
       case measure => have := HK1.out; have := HK2.out; omega
       case rel => exact ⟨(x6_2), (wrap64 (x15_1 + 1)), (by first | rfl | (simp; done) | (simp [*]; done)), H', ⟨by have := HK1.out; have := HK2.out; omega⟩, ⟨by (with_reducible repeat (first | apply Kd.N_alloc | apply Kd.N_drewN | apply Kd.N_drew)); exact Kd.N_mono HO_6.out (fun _ hk => ⟨hk.1, hk.2.2⟩)⟩, ⟨by (with_reducible repeat (first | refine blk_drewN ?_ _ | refine blk_drew ?_ | refine blk_alloc ?_ _)); exact BK1123.out⟩, ⟨Z.bs HB.out GE1123.out⟩⟩
   ·rw [if_neg c9] at H
    have c9b0 := decide_eq_false c9
    clear c9
    obtain rfl := Option.some.inj H
    go_wp2
    go_ret
    exact ⟨_, by first | rfl | (simp [errW_none, errW_some] <;> rfl) | (simp [*, errW_none, errW_some] <;> rfl), by (with_reducible repeat (first | apply Kd.N_alloc | apply Kd.N_drewN | apply Kd.N_drew)); exact Kd.N_mono HO_3.out (fun _ hk => hk.1), Z.bs HB.out GE1123.out⟩


end Go.Proofs.Ytcafckapdgaogaa.PAll
