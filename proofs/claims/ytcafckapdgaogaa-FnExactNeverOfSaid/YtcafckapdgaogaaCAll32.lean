/- Walks of functions that All reaches, in the form of the print. -/
-- PRINTED
import Derived.Test.YtcafckapdgaogaaCAll27
import Derived.Test.YtcafckapdgaogaaCAll31
namespace Go.Proofs.Ytcafckapdgaogaa.PAll
open Go.RowKit Go.Proofs.YtcafckapdgaogaaW.PrintWords Go.Proofs.YtcafckapdgaogaaW.PrintLast Go.Proofs.YtcafckapdgaogaaW.PrintMore
attribute [local go_sem] max2_int min2_int max_two min_two max_three min_three max_four min_four
set_option linter.unusedVariables false
set_option linter.unusedSimpArgs false

/-! ### spec_l8Reach: function 86 -/
mutual
def spec_l8Reach.l0 : Nat → Int → Int → List Int → Int → Int → List Int → List (List (S86)) → Option (List Int)
 | 0, _, _, _, _, _, _, _ => none
 | k + 1, x1, x2, x7, x8, x874000, x874001, x874002 => if x8 < 27 then (if x7.length < 17592186044416 then (spec_l8Reach.l0 k x1 x2 (x7 ++ [(-1)]) (wrap64 (x8 + 1)) x874000 x874001 x874002) else (none)) else (if 0 ≤ x1 then (if x1 < (x7.length : Int) then (spec_l8Reach.l1 k x2 (x7.set (x1 : Int).toNat 0) 0 x874000 x874001 x874002) else (none)) else (none))
def spec_l8Reach.l1 : Nat → Int → List Int → Int → Int → List Int → List (List (S86)) → Option (List Int)
 | 0, _, _, _, _, _, _ => none
 | k + 1, x2, x7, x9, x874000, x874001, x874002 => if x9 < (x7.length : Int) then (spec_l8Reach.l2 k x2 x7 x9 0 x874000 x874001 x874002) else (some x7)
def spec_l8Reach.l2 : Nat → Int → List Int → Int → Int → Int → List Int → List (List (S86)) → Option (List Int)
 | 0, _, _, _, _, _, _, _ => none
 | k + 1, x2, x7, x9, x10, x874000, x874001, x874002 => if x10 < (x7.length : Int) then (if 0 ≤ x10 then (if (rd x7 x10) = x9 then ((spec_l8State.f k x874000 x874001 x874002 x10).bind fun t882 => (spec_l8Reach.l3 k x2 x7 x9 x10 t882 0 x874000 x874001 x874002)) else (spec_l8Reach.l2 k x2 x7 x9 (wrap64 (x10 + 1)) x874000 x874001 x874002)) else (none)) else (spec_l8Reach.l1 k x2 x7 (wrap64 (x9 + 1)) x874000 x874001 x874002)
def spec_l8Reach.l3 : Nat → Int → List Int → Int → Int → List Int → Int → Int → List Int → List (List (S86)) → Option (List Int)
 | 0, _, _, _, _, _, _, _, _, _ => none
 | k + 1, x2, x7, x9, x10, x11, x12, x874000, x874001, x874002 => if x12 < (x874002.length : Int) then (spec_l8Reach.l4 k x2 x7 x9 x10 x11 x12 0 x874000 x874001 x874002) else (spec_l8Reach.l2 k x2 x7 x9 (wrap64 (x10 + 1)) x874000 x874001 x874002)
def spec_l8Reach.l4 : Nat → Int → List Int → Int → Int → List Int → Int → Int → Int → List Int → List (List (S86)) → Option (List Int)
 | 0, _, _, _, _, _, _, _, _, _, _ => none
 | k + 1, x2, x7, x9, x10, x11, x12, x13, x874000, x874001, x874002 => if 0 ≤ x12 then (if x12 < (x874002.length : Int) then (if x13 < ((rd_L9 x874002 x12).length : Int) then ((spec_l8May.f k x874000 x874001 x874002 x11 x12 x13 x2).bind fun t886 => (if t886 = true then ((some (([] : List Int) : List Int)).bind fun y887 => (if y887.length + x11.length < 17592186044416 then ((some (y887 ++ x11 : List Int)).bind fun y890 => (if x12 < (y890.length : Int) then ((some (y890.set (x12 : Int).toNat x13 : List Int)).bind fun y893 => ((spec_l8Code.f k y893).bind fun t894 => (if 0 ≤ t894 then (if t894 < (x7.length : Int) then (if (rd x7 t894) < 0 then ((spec_l8Code.f k y893).bind fun t896 => (if 0 ≤ t896 then (if t896 < (x7.length : Int) then (spec_l8Reach.l4 k x2 (x7.set (t896 : Int).toNat (wrap64 (x9 + 1))) x9 x10 x11 x12 (wrap64 (x13 + 1)) x874000 x874001 x874002) else (none)) else (none))) else (spec_l8Reach.l4 k x2 x7 x9 x10 x11 x12 (wrap64 (x13 + 1)) x874000 x874001 x874002)) else (none)) else (none)))) else (none))) else (none))) else (spec_l8Reach.l4 k x2 x7 x9 x10 x11 x12 (wrap64 (x13 + 1)) x874000 x874001 x874002))) else (spec_l8Reach.l3 k x2 x7 x9 x10 x11 (wrap64 (x12 + 1)) x874000 x874001 x874002)) else (none)) else (none)
end
def spec_l8Reach.f (k : Nat) (a0_0 : Int) (l0_1 : List Int) (l0_2 : List (List (S86))) (a1 : Int) (a2 : Int) : Option (List Int) := spec_l8Reach.l0 k a1 a2 (([] : List Int)) 0 a0_0 l0_1 l0_2
set_option maxHeartbeats 8000000 in
set_option maxRecDepth 100000 in
theorem spec_l8Reach.calls (k : Nat) (a0_0 : Int) (A0_1 : Option Addr) (c0_1 : Nat) (l0_1 : List Int) (A0_2 : Option Addr) (c0_2 : Nat) (l0_2 : List (List (S86))) (a1 : Int) (a2 : Int) (r : List Int) (w : World) (hr0_1 : Kd.C (Kd.int .i64) w A0_1 l0_1.length l0_1) (hc0_1 : l0_1.length ≤ c0_1) (hr0_2 : Kd.C (Kd.slice 86 k86) w A0_2 l0_2.length l0_2) (hc0_2 : l0_2.length ≤ c0_2) (h : spec_l8Reach.f k a0_0 l0_1 l0_2 a1 a2 = some r) :
  Calls Try.prog 86 #[.agg #[.int .i64 a0_0, .slice A0_1 l0_1.length c0_1, .slice A0_2 l0_2.length c0_2], .int .i64 a1, .int .i64 a2] w fun e w' => ∃ v0_ : Value, e = .returned (v0_) ∧ Kd.R (Kd.int .i64) 3 w' w.heap.size (fun _ => True) v0_ r ∧ Below w.heap.size w w' := by
 have hu35 := Try.underlying35
 have HR0_1 := Aside0.mk hr0_1
 have HC0_1 := Aside0.mk hc0_1
 clear hr0_1 hc0_1
 have HR0_2 := Aside0.mk hr0_2
 have HC0_2 := Aside0.mk hc0_2
 clear hr0_2 hc0_2
 have HB := Aside0.mk (Below.refl w.heap.size w)
 have H := h
 clear h
 unfold spec_l8Reach.f at H
 obtain ⟨y874, hy874⟩ : ∃ y_ : List Int, y_ = (([] : List Int)) := ⟨_, rfl⟩
 replace H : (spec_l8Reach.l0 k a1 a2 y874 0 a0_0 l0_1 l0_2) = some r := by (rw [hy874]; with_reducible exact H)
 have Ny874 := Aside0.mk hy874
 clear hy874
 have H' := Aside0.mk H
 clear H
 go_enter Try.func86, Try.ntmps86
 go_wp2_with (first | ((with_reducible refine gate_dst (N := 3) rfl ?_); refine Z.bx #[.int .i64 a0_0, .slice A0_1 l0_1.length c0_1, .slice A0_2 l0_2.length c0_2] 35 HB ?_; clear HB; intro gb873 w4 BK873 GE873 HB hg hb; have GW873 := GE873; clear hb hg) | ((with_reducible refine gate_dst (N := 15) rfl ?_); refine Kd.R_lit (Kd.int .i64) _ 3 ?hg (N := 15) ?hd (xs := ([] : List Int)) (inner := []) (ok := fun _ => True) (okp := fun _ => True) ?hr ?hp (fun _ hk => hk) trivial (Below.refl _ _) (Nat.le_refl _) (by simp) ?_; (case hd | hg => rfl); (case hr => (go_simp; done)); (case hp => exact (Reps.none _ _)); intro v875 w5 ho6 hb hg_ hnew_; clear hg_ hnew_; (rw [← Ny874.out] at ho6); have HO876 := Aside0.mk (Kd.R_lower ho6 (below_size (Z.bs HB.out GE873.out))); replace BK873 := Z.bb BK873 hb; replace HB := Z.st (Z.bs HB.out GE873.out) hb; clear hb ho6))
 go_loopg [7, 8] k (fun kq v7 v8 w' => ∃ (x7_1 : List Int) (x8_1 : Int), v8 = .int .i64 x8_1 ∧ Aside0 (spec_l8Reach.l0 kq a1 a2 x7_1 x8_1 a0_0 l0_1 l0_2 = some r) ∧ Aside0 (kq ≤ k) ∧ Aside0 (Kd.R (Kd.int .i64) 3 w' w.heap.size (fun _ => True) v7 x7_1) ∧ Aside0 (w'.heap[gb873]? = some (.cells #[.int .i64 a0_0, (.slice A0_1 l0_1.length c0_1), (.slice A0_2 l0_2.length c0_2)] 35 (0, 0))) ∧ Aside0 (Below w.heap.size w w'))
 case atStart => exact ⟨(y874), (0), (by rfl), H', ⟨Nat.le_refl _⟩, ⟨by (with_reducible skip); exact HO876.out⟩, ⟨by (with_reducible skip); exact BK873.out⟩, ⟨Z.bs HB.out GE873.out⟩⟩
 case round =>
  clear H'
  obtain ⟨x7_1, x8_1, rfl, HA, HK1, HO_7, BK873, HB⟩ := hrel
  cases gk with
  | zero => exact absurd HA.out (by simp [spec_l8Reach.l0])
  | succ k1 =>
   have H := HA.out
   clear HA
   simp only [spec_l8Reach.l0] at H
   by_cases c7 : x8_1 < 27
   ·rw [if_pos c7] at H
    have c7b0 := decide_eq_true c7
    clear c7
    obtain ⟨c8, H⟩ := Z.ifp H
    have LMc8 := Aside0.mk c8
    clear c8
    obtain ⟨y877, hy877⟩ : ∃ y_ : List Int, y_ = (x7_1 ++ [(-1)]) := ⟨_, rfl⟩
    replace H : (spec_l8Reach.l0 k1 a1 a2 y877 (wrap64 (x8_1 + 1)) a0_0 l0_1 l0_2) = some r := by (rw [hy877]; with_reducible exact H)
    have Ny877 := Aside0.mk hy877
    clear hy877
    have H' := Aside0.mk H
    clear H
    go_wp2_with (((with_reducible refine gate_builtin (b := .append) (xs := #[.tmp 20, .tmp 21]) rfl ?_); at_builtin; refine Kd.R_append (Kd.int .i64) (w0 := w) w.heap.size rfl (.tmp 20) (.tmp 21) 22 3 (.int .i64 0) 8 rfl Try.underlying22 info3 rfl (by decide) (by omega) u7 x7_1 (-1) [.int .i64 (-1)] (fun _ => True) (fun _ => False) rfl rfl ?aP (fun _ hk => hk.elim) ?aF ?aO ?aB ?aS ?aL ?_; (case aP => exact rfl); (case aB => exact (Z.bs HB.out GE873.out)); (case aF => exact (fun _ _ => trivial)); (case aO => exact (by (with_reducible skip); exact HO_7.out)); (case aS => exact (below_size (Z.bs HB.out GE873.out))); (case aL => have := LMc8.out; omega); intro v878 w9 ho hb hg hat; rw [← Ny877.out] at ho; replace BK873 := Aside0.mk (blk_grown (g := gb873) (o := .cells #[.int .i64 a0_0, .slice A0_1 l0_1.length c0_1, .slice A0_2 l0_2.length c0_2] 35 (0, 0)) (Z.bk BK873.out) hg (Kd.R_ne HO_7.out BK873.out (by decide))); replace HB := Aside0.mk (hb); have HO879 := Aside0.mk (ho); clear HO_7; clear ho hb hg hat))
    go_roundg k1
    case measure => have := HK1.out; omega
    case rel => exact ⟨(y877), (wrap64 (x8_1 + 1)), (by rfl), H', ⟨by have := HK1.out; omega⟩, ⟨by (with_reducible skip); exact HO879.out⟩, ⟨by (with_reducible skip); exact BK873.out⟩, ⟨Z.bs HB.out GE873.out⟩⟩
   ·rw [if_neg c7] at H
    have c7b0 := decide_eq_false c7
    clear c7
    obtain ⟨c10, H⟩ := Z.ifp H
    have c10b0 : decide (0 ≤ a1) = true := decide_eq_true c10
    clear c10
    obtain ⟨c11, H⟩ := Z.ifp H
    have c11b0 : decide (a1 < (x7_1.length : Int)) = true := decide_eq_true c11
    clear c11
    obtain ⟨y880, hy880⟩ : ∃ y_ : List Int, y_ = (x7_1.set (a1 : Int).toNat 0) := ⟨_, rfl⟩
    replace H : (spec_l8Reach.l1 k1 a2 y880 0 a0_0 l0_1 l0_2) = some r := by (rw [hy880]; with_reducible exact H)
    have Ny880 := Aside0.mk hy880
    clear hy880
    have H' := Aside0.mk H
    clear H
    have p12 : 0 ≤ (a1 : Int) := Z.od
    have q12 : (a1 : Int) < ((x7_1.length : Int) : Int) := Z.od
    obtain ⟨go12, co12, eo12, gb12, gl12, cl12, HG12⟩ := Kd.R_form HO_7.out (by omega)
    (cases eo12)
    have GB12 := Aside0.mk gb12
    have GG12 := Aside0.mk HG12
    clear gb12 gl12 HG12
    obtain ⟨hx12_0, hf12_0⟩ := Kd.R_celln 0 HO_7.out (a1 : Int) p12 q12
    replace p12 := eq_true p12
    replace q12 := eq_true q12
    have HP13 := Kd.R_putg HO_7.out (a1 : Int) 0
    go_wp2_with (((with_reducible refine gate_store (t := 3) (p := 25) rfl ?_); refine store_event (t := 3) (p := 25) (v := ?vo_w14) (w1 := (wr.setCell ⟨go12, (a1 : Int).toNat, none⟩ (.int .i64 0))) ?hg ?ho ?hn ?hr ?_; (case ho => rfl); (case hg => rfl); (case hn => rfl); (case hr => (go_simp; done)); intro w14 hw; have hg : wr.grownBy w14 (some go12) := (by rw [hw]; exact HP13.2); have hp_ : Kd.R (Kd.int .i64) 3 w14 w.heap.size (fun _ => True) (.slice (some ⟨go12, 0, none⟩) x7_1.length co12) y880 := (by rw [hw, Ny880.out]; exact HP13.1); clear HP13; replace BK873 := Aside0.mk (blk_grown (g := gb873) (o := .cells #[.int .i64 a0_0, .slice A0_1 l0_1.length c0_1, .slice A0_2 l0_2.length c0_2] 35 (0, 0)) (Z.bk BK873.out) hg (Kd.R_ne HO_7.out BK873.out (by decide))); replace HO_7 := Aside0.mk (hp_); replace HB := Aside0.mk ((by rw [hw]; exact below_set (HB.out) GB12.out : Below w.heap.size w w14)); clear hg hw hp_))
    go_loopg [9] k1 (fun kq v9 w' => ∃ (x7_2 : List Int) (x9_2 : Int), v9 = .int .i64 x9_2 ∧ Aside0 (spec_l8Reach.l1 kq a2 x7_2 x9_2 a0_0 l0_1 l0_2 = some r) ∧ Aside0 (kq ≤ k1) ∧ Aside0 (Kd.R (Kd.int .i64) 3 w' w.heap.size (fun _ => True) (.slice (some ⟨go12, 0, none⟩) x7_1.length co12) x7_2) ∧ Aside0 (w'.heap[gb873]? = some (.cells #[.int .i64 a0_0, (.slice A0_1 l0_1.length c0_1), (.slice A0_2 l0_2.length c0_2)] 35 (0, 0))) ∧ Aside0 (Below w.heap.size w w'))
    case atStart => exact ⟨(y880), (0), (by rfl), H', ⟨Nat.le_refl _⟩, ⟨by (with_reducible skip); exact HO_7.out⟩, ⟨by (with_reducible skip); exact BK873.out⟩, ⟨Z.bs HB.out GE873.out⟩⟩
    case round =>
     clear H'
     try clear c7b0
     try clear c10b0
     try clear c11b0
     try clear p12
     try clear q12
     try clear hx12_0
     obtain ⟨x7_2, x9_2, rfl, HA, HK2, HO_7, BK873, HB⟩ := hrel
     have hl7_2 := (Kd.R_reads' HO_7.out).1
     rw [hl7_2] at HO_7
     (try simp only [hl7_2])
     cases gk with
     | zero => exact absurd HA.out (by simp [spec_l8Reach.l1])
     | succ k2 =>
      have H := HA.out
      clear HA
      simp only [spec_l8Reach.l1] at H
      by_cases c15 : x9_2 < (x7_2.length : Int)
      ·rw [if_pos c15] at H
       have c15b0 := decide_eq_true c15
       clear c15
       have H' := Aside0.mk H
       clear H
       go_wp2
       go_loopg [10] k2 (fun kq v10 w' => ∃ (x7_3 : List Int) (x10_3 : Int), v10 = .int .i64 x10_3 ∧ Aside0 (spec_l8Reach.l2 kq a2 x7_3 x9_2 x10_3 a0_0 l0_1 l0_2 = some r) ∧ Aside0 (kq ≤ k2) ∧ Aside0 (Kd.R (Kd.int .i64) 3 w' w.heap.size (fun _ => True) (.slice (some ⟨go12, 0, none⟩) x7_2.length co12) x7_3) ∧ Aside0 (w'.heap[gb873]? = some (.cells #[.int .i64 a0_0, (.slice A0_1 l0_1.length c0_1), (.slice A0_2 l0_2.length c0_2)] 35 (0, 0))) ∧ Aside0 (Below w.heap.size w w'))
       case atStart => exact ⟨(x7_2), (0), (by rfl), H', ⟨Nat.le_refl _⟩, ⟨by (with_reducible skip); exact HO_7.out⟩, ⟨by (with_reducible skip); exact BK873.out⟩, ⟨Z.bs HB.out GE873.out⟩⟩
       case round =>
        clear H'
        try clear c15b0
        obtain ⟨x7_3, x10_3, rfl, HA, HK3, HO_7, BK873, HB⟩ := hrel
        have hl7_3 := (Kd.R_reads' HO_7.out).1
        rw [hl7_3] at HO_7
        (try simp only [hl7_3])
        cases gk with
        | zero => exact absurd HA.out (by simp [spec_l8Reach.l2])
        | succ k3 =>
         have H := HA.out
         clear HA
         simp only [spec_l8Reach.l2] at H
         by_cases c16 : x10_3 < (x7_3.length : Int)
         ·rw [if_pos c16] at H
          have c16b0 := decide_eq_true c16
          clear c16
          obtain ⟨c17, H⟩ := Z.ifp H
          have c17b0 : decide (0 ≤ x10_3) = true := decide_eq_true c17
          clear c17
          by_cases c18 : (rd x7_3 x10_3) = x9_2
          ·rw [if_pos c18] at H
           have c18b0 : ((rd x7_3 x10_3) == x9_2) = true := beq_iff_eq.mpr c18
           have c18b1 : ((rd x7_3 x10_3) != x9_2) = false := bne_eq_false_iff_eq.mpr c18
           clear c18
           replace H := Option.bind_eq_some_iff.mp H
           obtain ⟨t882, A190, H⟩ := H
           have A19 := Aside0.mk A190
           clear A190
           have H' := Aside0.mk H
           clear H
           have p881 : 0 ≤ (x10_3 : Int) := Z.od
           have q881 : x10_3 < (x7_3.length : Int) := Z.od
           obtain ⟨ad881, e881, hx881_0⟩ := Kd.at_int (Kd.R_reads' HO_7.out).2.2 x10_3 p881 q881
           obtain rfl : (⟨go12, 0, none⟩ : Addr) = ad881 := (by injection e881)
           (simp only [add_plain] at hx881_0)
           replace p881 := eq_true p881
           replace q881 := eq_true q881
           have hcz20 := Z.c3 BK873.out
           go_wp2_with (((with_reducible refine gate_callee (f := 90) rfl ?_); refine goesL_ (some 46) rfl rfl Try.func90 (by kernel_rfl) rfl #[.agg #[.int .i64 a0_0, .slice A0_1 l0_1.length c0_1, .slice A0_2 l0_2.length c0_2], .int .i64 x10_3] rfl Z.ar ?_; (with_reducible refine (spec_l8State.calls k3 a0_0 _ _ l0_1 _ _ l0_2 x10_3 t882 _ ?q1 ?q2 ?q3 ?q4 A19.out).mono ?_); (case q1 => exact Z.cc HR0_1 HB); (case q2 => exact HC0_1.out); (case q3 => exact Z.cc HR0_2 HB); (case q4 => exact HC0_2.out); rintro e w21 ⟨v883, rfl, ho0, hb⟩; refine ⟨_, rfl, ?_⟩; have HO884 := Aside0.mk (Kd.R_lower (Kd.R_new' ho0 (Kd.R_lt (by (with_reducible skip); exact HO_7.out))) (below_size (Z.bs HB.out GE873.out))); replace HO_7 := Aside0.mk (Kd.R_elder' (by (with_reducible skip); exact HO_7.out) (Kd.R_base ho0) hb); replace BK873 := Z.bb BK873 hb; replace HB := Z.st (Z.bs HB.out GE873.out) hb; (try clear hb); (try clear ho0)))
           go_loopg [12] k3 (fun kq v12 w' => ∃ (x7_4 : List Int) (x11_4 : List Int) (x12_4 : Int), v12 = .int .i64 x12_4 ∧ Aside0 (spec_l8Reach.l3 kq a2 x7_4 x9_2 x10_3 x11_4 x12_4 a0_0 l0_1 l0_2 = some r) ∧ Aside0 (kq ≤ k3) ∧ Aside0 (Kd.R (Kd.int .i64) 3 w' w.heap.size (fun k_ => some k_ ≠ (v883 : Value).ownBlock) (.slice (some ⟨go12, 0, none⟩) x7_3.length co12) x7_4) ∧ Aside0 (Kd.R (Kd.int .i64) 3 w' w.heap.size (fun k_ => some k_ ≠ ((.slice (some ⟨go12, 0, none⟩) x7_3.length co12) : Value).ownBlock) v883 x11_4) ∧ Aside0 (w'.heap[gb873]? = some (.cells #[.int .i64 a0_0, (.slice A0_1 l0_1.length c0_1), (.slice A0_2 l0_2.length c0_2)] 35 (0, 0))) ∧ Aside0 (Below w.heap.size w w'))
           case atStart => exact ⟨(x7_3), (t882), (0), (by rfl), H', ⟨Nat.le_refl _⟩, ⟨by (with_reducible skip); exact Kd.R_mono HO_7.out (fun _ hk => hk.2)⟩, ⟨by (with_reducible skip); exact Kd.R_mono HO884.out (fun _ hk => hk.2)⟩, ⟨by (with_reducible skip); exact BK873.out⟩, ⟨Z.bs HB.out GE873.out⟩⟩
           case round =>
            clear H'
            try clear c16b0
            try clear c17b0
            try clear c18b0
            try clear c18b1
            try clear hx881_0
            try clear p881
            try clear q881
            obtain ⟨x7_4, x11_4, x12_4, rfl, HA, HK4, HO_7, HO_11, BK873, HB⟩ := hrel
            have hl7_4 := (Kd.R_reads' HO_7.out).1
            rw [hl7_4] at HO_7
            (try simp only [hl7_4])
            (try simp only [hl7_4] at HO_11)
            cases gk with
            | zero => exact absurd HA.out (by simp [spec_l8Reach.l3])
            | succ k4 =>
             have H := HA.out
             clear HA
             simp only [spec_l8Reach.l3] at H
             by_cases c22 : x12_4 < (l0_2.length : Int)
             ·rw [if_pos c22] at H
              have c22b0 := decide_eq_true c22
              clear c22
              have H' := Aside0.mk H
              clear H
              have hcz23 := Z.c3 BK873.out
              go_wp2
              go_loopg [13] k4 (fun kq v13 w' => ∃ (x7_5 : List Int) (x11_5 : List Int) (x13_5 : Int), v13 = .int .i64 x13_5 ∧ Aside0 (spec_l8Reach.l4 kq a2 x7_5 x9_2 x10_3 x11_5 x12_4 x13_5 a0_0 l0_1 l0_2 = some r) ∧ Aside0 (kq ≤ k4) ∧ Aside0 (Kd.R (Kd.int .i64) 3 w' w.heap.size (fun k_ => some k_ ≠ (v883 : Value).ownBlock) (.slice (some ⟨go12, 0, none⟩) x7_4.length co12) x7_5) ∧ Aside0 (Kd.R (Kd.int .i64) 3 w' w.heap.size (fun k_ => some k_ ≠ ((.slice (some ⟨go12, 0, none⟩) x7_4.length co12) : Value).ownBlock) v883 x11_5) ∧ Aside0 (w'.heap[gb873]? = some (.cells #[.int .i64 a0_0, (.slice A0_1 l0_1.length c0_1), (.slice A0_2 l0_2.length c0_2)] 35 (0, 0))) ∧ Aside0 (Below w.heap.size w w'))
              case atStart => exact ⟨(x7_4), (x11_4), (0), (by rfl), H', ⟨Nat.le_refl _⟩, ⟨by (with_reducible skip); exact HO_7.out⟩, ⟨by (with_reducible skip); exact HO_11.out⟩, ⟨by (with_reducible skip); exact BK873.out⟩, ⟨Z.bs HB.out GE873.out⟩⟩
              case round =>
               clear H'
               try clear c22b0
               obtain ⟨x7_5, x11_5, x13_5, rfl, HA, HK5, HO_7, HO_11, BK873, HB⟩ := hrel
               have hl7_5 := (Kd.R_reads' HO_7.out).1
               rw [hl7_5] at HO_7
               (try simp only [hl7_5])
               (try simp only [hl7_5] at HO_11)
               cases gk with
               | zero => exact absurd HA.out (by simp [spec_l8Reach.l4])
               | succ k5 =>
                have H := HA.out
                clear HA
                simp only [spec_l8Reach.l4] at H
                obtain ⟨c24, H⟩ := Z.ifp H
                have c24b0 : decide (0 ≤ x12_4) = true := decide_eq_true c24
                clear c24
                obtain ⟨c25, H⟩ := Z.ifp H
                have c25b0 : decide (x12_4 < (l0_2.length : Int)) = true := decide_eq_true c25
                clear c25
                by_cases c26 : x13_5 < ((rd_L9 l0_2 x12_4).length : Int)
                ·rw [if_pos c26] at H
                 have c26b0 := decide_eq_true c26
                 clear c26
                 replace H := Option.bind_eq_some_iff.mp H
                 obtain ⟨t886, A270, H⟩ := H
                 have A27 := Aside0.mk A270
                 clear A270
                 by_cases c28 : t886 = true
                 ·subst c28
                  rw [if_pos rfl] at H
                  obtain ⟨y887, hy887⟩ : ∃ y_ : List Int, y_ = (([] : List Int)) := ⟨_, rfl⟩
                  replace H : (if y887.length + x11_5.length < 17592186044416 then ((some (y887 ++ x11_5 : List Int)).bind fun y890 => (if x12_4 < (y890.length : Int) then ((some (y890.set (x12_4 : Int).toNat x13_5 : List Int)).bind fun y893 => ((spec_l8Code.f k5 y893).bind fun t894 => (if 0 ≤ t894 then (if t894 < (x7_5.length : Int) then (if (rd x7_5 t894) < 0 then ((spec_l8Code.f k5 y893).bind fun t896 => (if 0 ≤ t896 then (if t896 < (x7_5.length : Int) then (spec_l8Reach.l4 k5 a2 (x7_5.set (t896 : Int).toNat (wrap64 (x9_2 + 1))) x9_2 x10_3 x11_5 x12_4 (wrap64 (x13_5 + 1)) a0_0 l0_1 l0_2) else (none)) else (none))) else (spec_l8Reach.l4 k5 a2 x7_5 x9_2 x10_3 x11_5 x12_4 (wrap64 (x13_5 + 1)) a0_0 l0_1 l0_2)) else (none)) else (none)))) else (none))) else (none)) = some r := by (have H2_ := (Option.bind_some _ _).symm.trans H; rw [hy887]; with_reducible exact H2_)
                  have Ny887 := Aside0.mk hy887
                  clear hy887
                  obtain ⟨c29, H⟩ := Z.ifp H
                  have LMc29 := Aside0.mk c29
                  clear c29
                  obtain ⟨y890, hy890⟩ : ∃ y_ : List Int, y_ = (y887 ++ x11_5) := ⟨_, rfl⟩
                  replace H : (if x12_4 < (y890.length : Int) then ((some (y890.set (x12_4 : Int).toNat x13_5 : List Int)).bind fun y893 => ((spec_l8Code.f k5 y893).bind fun t894 => (if 0 ≤ t894 then (if t894 < (x7_5.length : Int) then (if (rd x7_5 t894) < 0 then ((spec_l8Code.f k5 y893).bind fun t896 => (if 0 ≤ t896 then (if t896 < (x7_5.length : Int) then (spec_l8Reach.l4 k5 a2 (x7_5.set (t896 : Int).toNat (wrap64 (x9_2 + 1))) x9_2 x10_3 x11_5 x12_4 (wrap64 (x13_5 + 1)) a0_0 l0_1 l0_2) else (none)) else (none))) else (spec_l8Reach.l4 k5 a2 x7_5 x9_2 x10_3 x11_5 x12_4 (wrap64 (x13_5 + 1)) a0_0 l0_1 l0_2)) else (none)) else (none)))) else (none)) = some r := by (have H2_ := (Option.bind_some _ _).symm.trans H; rw [hy890]; with_reducible exact H2_)
                  have Ny890 := Aside0.mk hy890
                  clear hy890
                  obtain ⟨c30, H⟩ := Z.ifp H
                  have c30b0 : decide (x12_4 < (y890.length : Int)) = true := decide_eq_true c30
                  clear c30
                  obtain ⟨y893, hy893⟩ : ∃ y_ : List Int, y_ = (y890.set (x12_4 : Int).toNat x13_5) := ⟨_, rfl⟩
                  replace H : ((spec_l8Code.f k5 y893).bind fun t894 => (if 0 ≤ t894 then (if t894 < (x7_5.length : Int) then (if (rd x7_5 t894) < 0 then ((spec_l8Code.f k5 y893).bind fun t896 => (if 0 ≤ t896 then (if t896 < (x7_5.length : Int) then (spec_l8Reach.l4 k5 a2 (x7_5.set (t896 : Int).toNat (wrap64 (x9_2 + 1))) x9_2 x10_3 x11_5 x12_4 (wrap64 (x13_5 + 1)) a0_0 l0_1 l0_2) else (none)) else (none))) else (spec_l8Reach.l4 k5 a2 x7_5 x9_2 x10_3 x11_5 x12_4 (wrap64 (x13_5 + 1)) a0_0 l0_1 l0_2)) else (none)) else (none))) = some r := by (have H2_ := (Option.bind_some _ _).symm.trans H; rw [hy893]; with_reducible exact H2_)
                  have Ny893 := Aside0.mk hy893
                  clear hy893
                  replace H := Option.bind_eq_some_iff.mp H
                  obtain ⟨t894, A320, H⟩ := H
                  have A32 := Aside0.mk A320
                  clear A320
                  obtain ⟨c33, H⟩ := Z.ifp H
                  have c33b0 : decide (0 ≤ t894) = true := decide_eq_true c33
                  clear c33
                  obtain ⟨c34, H⟩ := Z.ifp H
                  have c34b0 : decide (t894 < (x7_5.length : Int)) = true := decide_eq_true c34
                  clear c34
                  by_cases c35 : (rd x7_5 t894) < 0
                  ·rw [if_pos c35] at H
                   have c35b0 := decide_eq_true c35
                   clear c35
                   replace H := Option.bind_eq_some_iff.mp H
                   obtain ⟨t896, A360, H⟩ := H
                   have A36 := Aside0.mk A360
                   clear A360
                   obtain ⟨c37, H⟩ := Z.ifp H
                   have c37b0 : decide (0 ≤ t896) = true := decide_eq_true c37
                   clear c37
                   obtain ⟨c38, H⟩ := Z.ifp H
                   have c38b0 : decide (t896 < (x7_5.length : Int)) = true := decide_eq_true c38
                   clear c38
                   obtain ⟨y897, hy897⟩ : ∃ y_ : List Int, y_ = (x7_5.set (t896 : Int).toNat (wrap64 (x9_2 + 1))) := ⟨_, rfl⟩
                   replace H : (spec_l8Reach.l4 k5 a2 y897 x9_2 x10_3 x11_5 x12_4 (wrap64 (x13_5 + 1)) a0_0 l0_1 l0_2) = some r := by (rw [hy897]; with_reducible exact H)
                   have Ny897 := Aside0.mk hy897
                   clear hy897
                   have H' := Aside0.mk H
                   clear H
                   have hcz40 := Z.c3 BK873.out
                   have p885 : 0 ≤ (x12_4 : Int) := Z.od
                   have q885 : x12_4 < (l0_2.length : Int) := Z.od
                   obtain ⟨ad885, A885_0, c885_0, rfl, hx885_0, hl885_0, hi885_0⟩ := at_L9 HR0_2.out x12_4 p885 q885
                   replace hx885_0 := Z.up HB.out hx885_0
                   have HR885_0 := Aside0.mk hi885_0
                   have HC885_0 := Aside0.mk hl885_0
                   clear hi885_0 hl885_0
                   replace p885 := eq_true p885
                   replace q885 := eq_true q885
                   obtain ⟨Ao41, co41, eo41⟩ := Kd.R_slice HO_11.out
                   subst eo41
                   go_wp2_with (first | ((with_reducible refine gate_callee (f := 103) rfl ?_); refine goesL_ (some 69) rfl rfl Try.func103 (by kernel_rfl) rfl #[.agg #[.int .i64 a0_0, .slice A0_1 l0_1.length c0_1, .slice (some ad885) l0_2.length c0_2], .slice Ao41 x11_5.length co41, .int .i64 x12_4, .int .i64 x13_5, .int .i64 a2] rfl Z.ar ?_; (with_reducible refine (spec_l8May.calls k5 a0_0 _ _ l0_1 _ _ l0_2 _ _ x11_5 x12_4 x13_5 a2 true _ ?q1 ?q2 ?q3 ?q4 ?q5 ?q6 A27.out).mono ?_); (case q1 => exact Z.cc HR0_1 HB); (case q2 => exact HC0_1.out); (case q3 => exact Z.cc HR0_2 HB); (case q4 => exact HC0_2.out); (case q5 => repeat (exact (Kd.R_reads' HO_11.out).2.2)); (case q6 => exact (Kd.R_reads' HO_11.out).2.1); rintro e w42 ⟨rfl, hb⟩; refine ⟨_, rfl, ?_⟩; replace HO_7 := Aside0.mk (Kd.R_below (by (with_reducible skip); exact HO_7.out) hb); replace HO_11 := Aside0.mk (Kd.R_below (by (with_reducible skip); exact HO_11.out) hb); replace BK873 := Z.bb BK873 hb; replace HB := Z.st (Z.bs HB.out GE873.out) hb; (try clear hb)) | ((with_reducible refine gate_dst (N := 71) rfl ?_); refine Kd.R_lit (Kd.int .i64) _ 3 ?hg (N := 71) ?hd (xs := ([] : List Int)) (inner := []) (ok := fun _ => True) (okp := fun _ => True) ?hr ?hp (fun _ hk => hk) trivial (Below.refl _ _) (Nat.le_refl _) (by simp) ?_; (case hd | hg => rfl); (case hr => (go_simp; done)); (case hp => exact (Reps.none _ _)); intro v888 w43 ho44 hb hg_ hnew_; clear hg_ hnew_; (rw [← Ny887.out] at ho44); have HO889 := Aside0.mk (Kd.R_lower (Kd.R_new' (Kd.R_new' ho44 (Kd.R_lt (by (with_reducible skip); exact HO_7.out))) (Kd.R_lt (by (with_reducible skip); exact HO_11.out))) (below_size (Z.bs HB.out GE873.out))); replace HO_7 := Aside0.mk (Kd.R_elder' (by (with_reducible skip); exact HO_7.out) (Kd.R_base ho44) hb); replace HO_11 := Aside0.mk (Kd.R_elder' (by (with_reducible skip); exact HO_11.out) (Kd.R_base ho44) hb); replace BK873 := Z.bb BK873 hb; replace HB := Z.st (Z.bs HB.out GE873.out) hb; clear hb ho44) | ((with_reducible refine gate_builtin (b := .append) (xs := #[.tmp 71, .tmp 72]) rfl ?_); at_builtin; refine Kd.R_append_rows (Kd.int .i64) (w0 := w) w.heap.size rfl (.tmp 71) (.tmp 72) 22 3 (.int .i64 0) 8 rfl Try.underlying22 info3 rfl (by decide) (by omega) v888 y887 x11_5 _ _ _ (fun k_ => some k_ ≠ (.slice (some ⟨go12, 0, none⟩) x7_5.length co12 : Value).ownBlock ∧ some k_ ≠ (.slice Ao41 x11_5.length co41 : Value).ownBlock) (fun _ => False) rfl rfl ?aO ?aR (fun _ _ h => h) (fun _ h => h.elim) ?aF ?aB ?aS ?aL ?_; (case aR => repeat (exact (Kd.R_reads' HO_11.out).2.2)); (case aB => exact (Z.bs HB.out GE873.out)); (case aF => exact (fun k_ hk => ⟨Kd.fresh' (Kd.R_lt (by (with_reducible skip); exact HO_7.out)) k_ hk, Kd.fresh' (Kd.R_lt (by (with_reducible skip); exact HO_11.out)) k_ hk⟩)); (case aO => exact (by (with_reducible skip); exact Kd.R_mono HO889.out (fun _ hk => ⟨hk.1.2, hk.2⟩))); (case aS => exact (below_size (Z.bs HB.out GE873.out))); (case aL => have := LMc29.out; omega); intro v891 w45 ho hb hg hat; rw [← Ny890.out] at ho; replace HO_7 := Aside0.mk (Kd.R_after (ok := (fun k_ => some k_ ≠ (.slice Ao41 x11_5.length co41 : Value).ownBlock)) (by (with_reducible skip); exact HO_7.out) hg hat); replace HO_11 := Aside0.mk (Kd.R_after (ok := (fun k_ => some k_ ≠ (.slice (some ⟨go12, 0, none⟩) x7_5.length co12 : Value).ownBlock)) (by (with_reducible skip); exact HO_11.out) hg hat); replace BK873 := Aside0.mk (blk_grown (g := gb873) (o := .cells #[.int .i64 a0_0, .slice A0_1 l0_1.length c0_1, .slice (some ad885) l0_2.length c0_2] 35 (0, 0)) (Z.bk BK873.out) hg (Kd.R_ne HO889.out BK873.out (by decide))); replace HB := Aside0.mk (hb); have HO892 := Aside0.mk (ho); clear HO889; clear ho hb hg hat; have p31 : 0 ≤ (x12_4 : Int) := Z.od; have q31 : (x12_4 : Int) < ((y890.length : Int) : Int) := Z.od; obtain ⟨go31, co31, eo31, gb31, gl31, cl31, HG31⟩ := Kd.R_form HO892.out (by omega); (cases eo31); have GB31 := Aside0.mk gb31; have GG31 := Aside0.mk HG31; clear gb31 gl31 HG31; obtain ⟨hx31_0, hf31_0⟩ := Kd.R_celln 0 HO892.out (x12_4 : Int) p31 q31; replace p31 := eq_true p31; replace q31 := eq_true q31; obtain ⟨hy46_, hz46_⟩ := Kd.R_celln 0 HO892.out (x12_4 : Int) (Z.od) (Z.od); have HP46 := Kd.R_putg HO892.out (x12_4 : Int) x13_5) | ((with_reducible refine gate_store (t := 3) (p := 77) rfl ?_); refine store_event (t := 3) (p := 77) (v := ?vo_w47) (w1 := (w45.setCell ⟨go31, (x12_4 : Int).toNat, none⟩ (.int .i64 x13_5))) ?hg ?ho ?hn ?hr ?_; (case ho => rfl); (case hg => rfl); (case hn => rfl); (case hr => (go_simp; done)); intro w47 hw; have hg : w45.grownBy w47 (some go31) := (by rw [hw]; exact HP46.2); have hp_ : Kd.R (Kd.int .i64) 3 w47 w.heap.size (fun k_ => some k_ ≠ (.slice (some ⟨go12, 0, none⟩) x7_5.length co12 : Value).ownBlock ∧ some k_ ≠ (.slice Ao41 x11_5.length co41 : Value).ownBlock) (.slice (some ⟨go31, 0, none⟩) y890.length co31) y893 := (by rw [hw, Ny893.out]; exact HP46.1); clear HP46; replace HO_7 := Aside0.mk (Kd.R_after (v := (.slice (some ⟨go31, 0, none⟩) y890.length co31)) (v1 := (.slice (some ⟨go31, 0, none⟩) y890.length co31)) (ok := (fun k_ => some k_ ≠ (.slice Ao41 x11_5.length co41 : Value).ownBlock)) (by (with_reducible skip); exact HO_7.out) hg (.inl rfl)); replace HO_11 := Aside0.mk (Kd.R_after (v := (.slice (some ⟨go31, 0, none⟩) y890.length co31)) (v1 := (.slice (some ⟨go31, 0, none⟩) y890.length co31)) (ok := (fun k_ => some k_ ≠ (.slice (some ⟨go12, 0, none⟩) x7_5.length co12 : Value).ownBlock)) (by (with_reducible skip); exact HO_11.out) hg (.inl rfl)); replace BK873 := Aside0.mk (blk_grown (g := gb873) (o := .cells #[.int .i64 a0_0, .slice A0_1 l0_1.length c0_1, .slice (some ad885) l0_2.length c0_2] 35 (0, 0)) (Z.bk BK873.out) hg (Kd.R_ne HO892.out BK873.out (by decide))); replace HO892 := Aside0.mk (hp_); replace HB := Aside0.mk ((by rw [hw]; exact below_set (HB.out) GB31.out : Below w.heap.size w w47)); clear hg hw hp_) | ((with_reducible refine gate_callee (f := 77) rfl ?_); refine goesL_ (some 80) rfl rfl Try.func77 (by kernel_rfl) rfl #[.slice (some ⟨go31, 0, none⟩) y893.length co31] rfl (by (try simp only [List.map_toArray, List.map_cons, List.map_nil]); (rw [show y893.length = y890.length from (Kd.R_reads' HO892.out).1.symm] <;> rfl)) ?_; (with_reducible refine (spec_l8Code.calls k5 _ _ y893 t894 _ ?q1 ?q2 A32.out).mono ?_); (case q1 => repeat (exact (Kd.R_reads' HO892.out).2.2)); (case q2 => rw [show y893.length = y890.length from (Kd.R_reads' HO892.out).1.symm]; exact (Kd.R_reads' HO892.out).2.1); rintro e w' ⟨rfl, ⟨nd, rfl⟩⟩; refine ⟨_, rfl, ?_⟩; (try (rw [drewN_self w47]; generalize hq_ : World.drewN w47 _ = w47; replace HO892 : Aside0 (Kd.R (Kd.int .i64) 3 w47 w.heap.size (fun k_ => some k_ ≠ (.slice Ao41 x11_5.length co41 : Value).ownBlock ∧ some k_ ≠ (.slice (some ⟨go12, 0, none⟩) x7_5.length co12 : Value).ownBlock) (.slice (some ⟨go31, 0, none⟩) y890.length co31) y893) := ⟨by rw [← hq_]; exact (by (with_reducible repeat (apply Kd.R_drewN)); exact Kd.R_mono HO892.out (fun _ hk => ⟨hk.2, hk.1⟩))⟩; replace HO_11 : Aside0 (Kd.R (Kd.int .i64) 3 w47 w.heap.size (fun k_ => some k_ ≠ (.slice (some ⟨go31, 0, none⟩) y890.length co31 : Value).ownBlock ∧ some k_ ≠ (.slice (some ⟨go12, 0, none⟩) x7_5.length co12 : Value).ownBlock) (.slice Ao41 x11_5.length co41) x11_5) := ⟨by rw [← hq_]; exact (by (with_reducible repeat (apply Kd.R_drewN)); exact Kd.R_mono HO_11.out (fun _ hk => ⟨hk.2, hk.1⟩))⟩; replace HO_7 : Aside0 (Kd.R (Kd.int .i64) 3 w47 w.heap.size (fun k_ => some k_ ≠ (.slice (some ⟨go31, 0, none⟩) y890.length co31 : Value).ownBlock ∧ some k_ ≠ (.slice Ao41 x11_5.length co41 : Value).ownBlock) (.slice (some ⟨go12, 0, none⟩) x7_5.length co12) x7_5) := ⟨by rw [← hq_]; exact (by (with_reducible repeat (apply Kd.R_drewN)); exact Kd.R_mono HO_7.out (fun _ hk => ⟨hk.2, hk.1⟩))⟩; replace BK873 : Aside0 (w47.heap[gb873]? = some (.cells #[.int .i64 a0_0, .slice A0_1 l0_1.length c0_1, .slice (some ad885) l0_2.length c0_2] 35 (0, 0))) := ⟨by rw [← hq_]; exact (Z.bk BK873.out)⟩; replace HB : Aside0 (Below w.heap.size w w47) := ⟨by rw [← hq_]; exact (Z.bs HB.out GE873.out)⟩; clear hq_)); have p895 : 0 ≤ (t894 : Int) := Z.od; have q895 : t894 < (x7_5.length : Int) := Z.od; obtain ⟨ad895, e895, hx895_0⟩ := Kd.at_int (Kd.R_reads' HO_7.out).2.2 t894 p895 q895; obtain rfl : (⟨go12, 0, none⟩ : Addr) = ad895 := (by injection e895); (simp only [add_plain] at hx895_0); replace p895 := eq_true p895; replace q895 := eq_true q895) | ((with_reducible refine gate_callee (f := 77) rfl ?_); refine goesL_ (some 86) rfl rfl Try.func77 (by kernel_rfl) rfl #[.slice (some ⟨go31, 0, none⟩) y893.length co31] rfl (by (try simp only [List.map_toArray, List.map_cons, List.map_nil]); (rw [show y893.length = y890.length from (Kd.R_reads' HO892.out).1.symm] <;> rfl)) ?_; (with_reducible refine (spec_l8Code.calls k5 _ _ y893 t896 _ ?q1 ?q2 A36.out).mono ?_); (case q1 => repeat (exact (Kd.R_reads' HO892.out).2.2)); (case q2 => rw [show y893.length = y890.length from (Kd.R_reads' HO892.out).1.symm]; exact (Kd.R_reads' HO892.out).2.1); rintro e w' ⟨rfl, ⟨nd, rfl⟩⟩; refine ⟨_, rfl, ?_⟩; (try (rw [drewN_self w47]; generalize hq_ : World.drewN w47 _ = w47; replace HO892 : Aside0 (Kd.R (Kd.int .i64) 3 w47 w.heap.size (fun k_ => some k_ ≠ (.slice Ao41 x11_5.length co41 : Value).ownBlock ∧ some k_ ≠ (.slice (some ⟨go12, 0, none⟩) x7_5.length co12 : Value).ownBlock) (.slice (some ⟨go31, 0, none⟩) y890.length co31) y893) := ⟨by rw [← hq_]; exact (by (with_reducible repeat (apply Kd.R_drewN)); exact HO892.out)⟩; replace HO_11 : Aside0 (Kd.R (Kd.int .i64) 3 w47 w.heap.size (fun k_ => some k_ ≠ (.slice (some ⟨go31, 0, none⟩) y890.length co31 : Value).ownBlock ∧ some k_ ≠ (.slice (some ⟨go12, 0, none⟩) x7_5.length co12 : Value).ownBlock) (.slice Ao41 x11_5.length co41) x11_5) := ⟨by rw [← hq_]; exact (by (with_reducible repeat (apply Kd.R_drewN)); exact HO_11.out)⟩; replace HO_7 : Aside0 (Kd.R (Kd.int .i64) 3 w47 w.heap.size (fun k_ => some k_ ≠ (.slice (some ⟨go31, 0, none⟩) y890.length co31 : Value).ownBlock ∧ some k_ ≠ (.slice Ao41 x11_5.length co41 : Value).ownBlock) (.slice (some ⟨go12, 0, none⟩) x7_5.length co12) x7_5) := ⟨by rw [← hq_]; exact (by (with_reducible repeat (apply Kd.R_drewN)); exact HO_7.out)⟩; replace BK873 : Aside0 (w47.heap[gb873]? = some (.cells #[.int .i64 a0_0, .slice A0_1 l0_1.length c0_1, .slice (some ad885) l0_2.length c0_2] 35 (0, 0))) := ⟨by rw [← hq_]; exact (Z.bk BK873.out)⟩; replace HB : Aside0 (Below w.heap.size w w47) := ⟨by rw [← hq_]; exact (Z.bs HB.out GE873.out)⟩; clear hq_)); have p39 : 0 ≤ (t896 : Int) := Z.od; have q39 : (t896 : Int) < ((x7_5.length : Int) : Int) := Z.od; obtain ⟨hx39_0, hf39_0⟩ := Kd.R_celln 0 HO_7.out (t896 : Int) p39 q39; replace p39 := eq_true p39; replace q39 := eq_true q39; obtain ⟨hy48_, hz48_⟩ := Kd.R_celln 0 HO_7.out (t896 : Int) (Z.od) (Z.od); have HP48 := Kd.R_putg HO_7.out (t896 : Int) (wrap64 (x9_2 + 1))) | ((with_reducible refine gate_store (t := 3) (p := 89) rfl ?_); refine store_event (t := 3) (p := 89) (v := ?vo_w49) (w1 := (w47.setCell ⟨go12, (t896 : Int).toNat, none⟩ (.int .i64 (wrap64 (x9_2 + 1))))) ?hg ?ho ?hn ?hr ?_; (case ho => rfl); (case hg => rfl); (case hn => rfl); (case hr => (go_simp; done)); intro w49 hw; have hg : w47.grownBy w49 (some go12) := (by rw [hw]; exact HP48.2); have hp_ : Kd.R (Kd.int .i64) 3 w49 w.heap.size (fun k_ => some k_ ≠ (.slice Ao41 x11_5.length co41 : Value).ownBlock ∧ some k_ ≠ (.slice (some ⟨go31, 0, none⟩) y890.length co31 : Value).ownBlock) (.slice (some ⟨go12, 0, none⟩) x7_5.length co12) y897 := (by rw [hw, Ny897.out]; exact Kd.R_mono HP48.1 (fun _ hk => ⟨hk.2, hk.1⟩)); clear HP48; replace HO_11 := Aside0.mk (Kd.R_after (v := (.slice (some ⟨go12, 0, none⟩) x7_5.length co12)) (v1 := (.slice (some ⟨go12, 0, none⟩) x7_5.length co12)) (ok := (fun k_ => some k_ ≠ (.slice (some ⟨go31, 0, none⟩) y890.length co31 : Value).ownBlock)) (by (with_reducible skip); exact HO_11.out) hg (.inl rfl)); replace BK873 := Aside0.mk (blk_grown (g := gb873) (o := .cells #[.int .i64 a0_0, .slice A0_1 l0_1.length c0_1, .slice (some ad885) l0_2.length c0_2] 35 (0, 0)) (Z.bk BK873.out) hg (Kd.R_ne HO_7.out BK873.out (by decide))); replace HO_7 := Aside0.mk (hp_); replace HO892 := Aside0.mk (Kd.R_after (v := (.slice (some ⟨go12, 0, none⟩) x7_5.length co12)) (v1 := (.slice (some ⟨go12, 0, none⟩) x7_5.length co12)) (ok := (fun k_ => some k_ ≠ (.slice Ao41 x11_5.length co41 : Value).ownBlock)) (by (with_reducible skip); exact HO892.out) hg (.inl rfl)); replace HB := Aside0.mk ((by rw [hw]; exact below_set (HB.out) GB12.out : Below w.heap.size w w49)); clear hg hw hp_))
                   (try simp only [← hl7_5])
                   go_roundg k5
                   case measure => have := HK1.out; have := HK2.out; have := HK3.out; have := HK4.out; have := HK5.out; omega
                   case rel => exact ⟨(y897), (x11_5), (wrap64 (x13_5 + 1)), (by rfl), H', ⟨by have := HK1.out; have := HK2.out; have := HK3.out; have := HK4.out; have := HK5.out; omega⟩, ⟨by (try simp only [hl7_5]); (with_reducible skip); exact Kd.R_mono HO_7.out (fun _ hk => hk.1)⟩, ⟨by (try simp only [hl7_5]); (with_reducible skip); exact Kd.R_mono HO_11.out (fun _ hk => hk.2)⟩, ⟨by (with_reducible skip); exact BK873.out⟩, ⟨Z.bs HB.out GE873.out⟩⟩
                  ·rw [if_neg c35] at H
                   have c35b0 := decide_eq_false c35
                   clear c35
                   have H' := Aside0.mk H
                   clear H
                   have hcz50 := Z.c3 BK873.out
                   have p885 : 0 ≤ (x12_4 : Int) := Z.od
                   have q885 : x12_4 < (l0_2.length : Int) := Z.od
                   obtain ⟨ad885, A885_0, c885_0, rfl, hx885_0, hl885_0, hi885_0⟩ := at_L9 HR0_2.out x12_4 p885 q885
                   replace hx885_0 := Z.up HB.out hx885_0
                   have HR885_0 := Aside0.mk hi885_0
                   have HC885_0 := Aside0.mk hl885_0
                   clear hi885_0 hl885_0
                   replace p885 := eq_true p885
                   replace q885 := eq_true q885
                   obtain ⟨Ao51, co51, eo51⟩ := Kd.R_slice HO_11.out
                   subst eo51
                   go_wp2_with (first | ((with_reducible refine gate_callee (f := 103) rfl ?_); refine goesL_ (some 69) rfl rfl Try.func103 (by kernel_rfl) rfl #[.agg #[.int .i64 a0_0, .slice A0_1 l0_1.length c0_1, .slice (some ad885) l0_2.length c0_2], .slice Ao51 x11_5.length co51, .int .i64 x12_4, .int .i64 x13_5, .int .i64 a2] rfl Z.ar ?_; (with_reducible refine (spec_l8May.calls k5 a0_0 _ _ l0_1 _ _ l0_2 _ _ x11_5 x12_4 x13_5 a2 true _ ?q1 ?q2 ?q3 ?q4 ?q5 ?q6 A27.out).mono ?_); (case q1 => exact Z.cc HR0_1 HB); (case q2 => exact HC0_1.out); (case q3 => exact Z.cc HR0_2 HB); (case q4 => exact HC0_2.out); (case q5 => repeat (exact (Kd.R_reads' HO_11.out).2.2)); (case q6 => exact (Kd.R_reads' HO_11.out).2.1); rintro e w52 ⟨rfl, hb⟩; refine ⟨_, rfl, ?_⟩; replace HO_7 := Aside0.mk (Kd.R_below (by (with_reducible skip); exact HO_7.out) hb); replace HO_11 := Aside0.mk (Kd.R_below (by (with_reducible skip); exact HO_11.out) hb); replace BK873 := Z.bb BK873 hb; replace HB := Z.st (Z.bs HB.out GE873.out) hb; (try clear hb)) | ((with_reducible refine gate_dst (N := 71) rfl ?_); refine Kd.R_lit (Kd.int .i64) _ 3 ?hg (N := 71) ?hd (xs := ([] : List Int)) (inner := []) (ok := fun _ => True) (okp := fun _ => True) ?hr ?hp (fun _ hk => hk) trivial (Below.refl _ _) (Nat.le_refl _) (by simp) ?_; (case hd | hg => rfl); (case hr => (go_simp; done)); (case hp => exact (Reps.none _ _)); intro v888 w53 ho54 hb hg_ hnew_; clear hg_ hnew_; (rw [← Ny887.out] at ho54); have HO889 := Aside0.mk (Kd.R_lower (Kd.R_new' (Kd.R_new' ho54 (Kd.R_lt (by (with_reducible skip); exact HO_7.out))) (Kd.R_lt (by (with_reducible skip); exact HO_11.out))) (below_size (Z.bs HB.out GE873.out))); replace HO_7 := Aside0.mk (Kd.R_elder' (by (with_reducible skip); exact HO_7.out) (Kd.R_base ho54) hb); replace HO_11 := Aside0.mk (Kd.R_elder' (by (with_reducible skip); exact HO_11.out) (Kd.R_base ho54) hb); replace BK873 := Z.bb BK873 hb; replace HB := Z.st (Z.bs HB.out GE873.out) hb; clear hb ho54) | ((with_reducible refine gate_builtin (b := .append) (xs := #[.tmp 71, .tmp 72]) rfl ?_); at_builtin; refine Kd.R_append_rows (Kd.int .i64) (w0 := w) w.heap.size rfl (.tmp 71) (.tmp 72) 22 3 (.int .i64 0) 8 rfl Try.underlying22 info3 rfl (by decide) (by omega) v888 y887 x11_5 _ _ _ (fun k_ => some k_ ≠ (.slice (some ⟨go12, 0, none⟩) x7_5.length co12 : Value).ownBlock ∧ some k_ ≠ (.slice Ao51 x11_5.length co51 : Value).ownBlock) (fun _ => False) rfl rfl ?aO ?aR (fun _ _ h => h) (fun _ h => h.elim) ?aF ?aB ?aS ?aL ?_; (case aR => repeat (exact (Kd.R_reads' HO_11.out).2.2)); (case aB => exact (Z.bs HB.out GE873.out)); (case aF => exact (fun k_ hk => ⟨Kd.fresh' (Kd.R_lt (by (with_reducible skip); exact HO_7.out)) k_ hk, Kd.fresh' (Kd.R_lt (by (with_reducible skip); exact HO_11.out)) k_ hk⟩)); (case aO => exact (by (with_reducible skip); exact Kd.R_mono HO889.out (fun _ hk => ⟨hk.1.2, hk.2⟩))); (case aS => exact (below_size (Z.bs HB.out GE873.out))); (case aL => have := LMc29.out; omega); intro v891 w55 ho hb hg hat; rw [← Ny890.out] at ho; replace HO_7 := Aside0.mk (Kd.R_after (ok := (fun k_ => some k_ ≠ (.slice Ao51 x11_5.length co51 : Value).ownBlock)) (by (with_reducible skip); exact HO_7.out) hg hat); replace HO_11 := Aside0.mk (Kd.R_after (ok := (fun k_ => some k_ ≠ (.slice (some ⟨go12, 0, none⟩) x7_5.length co12 : Value).ownBlock)) (by (with_reducible skip); exact HO_11.out) hg hat); replace BK873 := Aside0.mk (blk_grown (g := gb873) (o := .cells #[.int .i64 a0_0, .slice A0_1 l0_1.length c0_1, .slice (some ad885) l0_2.length c0_2] 35 (0, 0)) (Z.bk BK873.out) hg (Kd.R_ne HO889.out BK873.out (by decide))); replace HB := Aside0.mk (hb); have HO892 := Aside0.mk (ho); clear HO889; clear ho hb hg hat; have p31 : 0 ≤ (x12_4 : Int) := Z.od; have q31 : (x12_4 : Int) < ((y890.length : Int) : Int) := Z.od; obtain ⟨go31, co31, eo31, gb31, gl31, cl31, HG31⟩ := Kd.R_form HO892.out (by omega); (cases eo31); have GB31 := Aside0.mk gb31; have GG31 := Aside0.mk HG31; clear gb31 gl31 HG31; obtain ⟨hx31_0, hf31_0⟩ := Kd.R_celln 0 HO892.out (x12_4 : Int) p31 q31; replace p31 := eq_true p31; replace q31 := eq_true q31; obtain ⟨hy56_, hz56_⟩ := Kd.R_celln 0 HO892.out (x12_4 : Int) (Z.od) (Z.od); have HP56 := Kd.R_putg HO892.out (x12_4 : Int) x13_5) | ((with_reducible refine gate_store (t := 3) (p := 77) rfl ?_); refine store_event (t := 3) (p := 77) (v := ?vo_w57) (w1 := (w55.setCell ⟨go31, (x12_4 : Int).toNat, none⟩ (.int .i64 x13_5))) ?hg ?ho ?hn ?hr ?_; (case ho => rfl); (case hg => rfl); (case hn => rfl); (case hr => (go_simp; done)); intro w57 hw; have hg : w55.grownBy w57 (some go31) := (by rw [hw]; exact HP56.2); have hp_ : Kd.R (Kd.int .i64) 3 w57 w.heap.size (fun k_ => some k_ ≠ (.slice (some ⟨go12, 0, none⟩) x7_5.length co12 : Value).ownBlock ∧ some k_ ≠ (.slice Ao51 x11_5.length co51 : Value).ownBlock) (.slice (some ⟨go31, 0, none⟩) y890.length co31) y893 := (by rw [hw, Ny893.out]; exact HP56.1); clear HP56; replace HO_7 := Aside0.mk (Kd.R_after (v := (.slice (some ⟨go31, 0, none⟩) y890.length co31)) (v1 := (.slice (some ⟨go31, 0, none⟩) y890.length co31)) (ok := (fun k_ => some k_ ≠ (.slice Ao51 x11_5.length co51 : Value).ownBlock)) (by (with_reducible skip); exact HO_7.out) hg (.inl rfl)); replace HO_11 := Aside0.mk (Kd.R_after (v := (.slice (some ⟨go31, 0, none⟩) y890.length co31)) (v1 := (.slice (some ⟨go31, 0, none⟩) y890.length co31)) (ok := (fun k_ => some k_ ≠ (.slice (some ⟨go12, 0, none⟩) x7_5.length co12 : Value).ownBlock)) (by (with_reducible skip); exact HO_11.out) hg (.inl rfl)); replace BK873 := Aside0.mk (blk_grown (g := gb873) (o := .cells #[.int .i64 a0_0, .slice A0_1 l0_1.length c0_1, .slice (some ad885) l0_2.length c0_2] 35 (0, 0)) (Z.bk BK873.out) hg (Kd.R_ne HO892.out BK873.out (by decide))); replace HO892 := Aside0.mk (hp_); replace HB := Aside0.mk ((by rw [hw]; exact below_set (HB.out) GB31.out : Below w.heap.size w w57)); clear hg hw hp_) | ((with_reducible refine gate_callee (f := 77) rfl ?_); refine goesL_ (some 80) rfl rfl Try.func77 (by kernel_rfl) rfl #[.slice (some ⟨go31, 0, none⟩) y893.length co31] rfl (by (try simp only [List.map_toArray, List.map_cons, List.map_nil]); (rw [show y893.length = y890.length from (Kd.R_reads' HO892.out).1.symm] <;> rfl)) ?_; (with_reducible refine (spec_l8Code.calls k5 _ _ y893 t894 _ ?q1 ?q2 A32.out).mono ?_); (case q1 => repeat (exact (Kd.R_reads' HO892.out).2.2)); (case q2 => rw [show y893.length = y890.length from (Kd.R_reads' HO892.out).1.symm]; exact (Kd.R_reads' HO892.out).2.1); rintro e w' ⟨rfl, ⟨nd, rfl⟩⟩; refine ⟨_, rfl, ?_⟩; have p895 : 0 ≤ (t894 : Int) := Z.od; have q895 : t894 < (x7_5.length : Int) := Z.od; obtain ⟨ad895, e895, hx895_0⟩ := Kd.at_int (Kd.R_reads' HO_7.out).2.2 t894 p895 q895; obtain rfl : (⟨go12, 0, none⟩ : Addr) = ad895 := (by injection e895); (simp only [add_plain] at hx895_0); replace p895 := eq_true p895; replace q895 := eq_true q895))
                   (try simp only [← hl7_5])
                   go_roundg k5
                   case measure => have := HK1.out; have := HK2.out; have := HK3.out; have := HK4.out; have := HK5.out; omega
                   case rel => exact ⟨(x7_5), (x11_5), (wrap64 (x13_5 + 1)), (by rfl), H', ⟨by have := HK1.out; have := HK2.out; have := HK3.out; have := HK4.out; have := HK5.out; omega⟩, ⟨by (try simp only [hl7_5]); (with_reducible repeat (apply Kd.R_drewN)); exact Kd.R_mono HO_7.out (fun _ hk => hk.1)⟩, ⟨by (try simp only [hl7_5]); (with_reducible repeat (apply Kd.R_drewN)); exact Kd.R_mono HO_11.out (fun _ hk => hk.1)⟩, ⟨by (with_reducible repeat (refine blk_drewN ?_ _)); exact BK873.out⟩, ⟨Z.bs HB.out GE873.out⟩⟩
                 ·replace c28 := Bool.eq_false_iff.mpr c28
                  subst c28
                  rw [if_neg (show ¬ (false = true) by decide)] at H
                  have H' := Aside0.mk H
                  clear H
                  have hcz58 := Z.c3 BK873.out
                  have p885 : 0 ≤ (x12_4 : Int) := Z.od
                  have q885 : x12_4 < (l0_2.length : Int) := Z.od
                  obtain ⟨ad885, A885_0, c885_0, rfl, hx885_0, hl885_0, hi885_0⟩ := at_L9 HR0_2.out x12_4 p885 q885
                  replace hx885_0 := Z.up HB.out hx885_0
                  have HR885_0 := Aside0.mk hi885_0
                  have HC885_0 := Aside0.mk hl885_0
                  clear hi885_0 hl885_0
                  replace p885 := eq_true p885
                  replace q885 := eq_true q885
                  obtain ⟨Ao59, co59, eo59⟩ := Kd.R_slice HO_11.out
                  subst eo59
                  go_wp2_with (((with_reducible refine gate_callee (f := 103) rfl ?_); refine goesL_ (some 69) rfl rfl Try.func103 (by kernel_rfl) rfl #[.agg #[.int .i64 a0_0, .slice A0_1 l0_1.length c0_1, .slice (some ad885) l0_2.length c0_2], .slice Ao59 x11_5.length co59, .int .i64 x12_4, .int .i64 x13_5, .int .i64 a2] rfl Z.ar ?_; (with_reducible refine (spec_l8May.calls k5 a0_0 _ _ l0_1 _ _ l0_2 _ _ x11_5 x12_4 x13_5 a2 false _ ?q1 ?q2 ?q3 ?q4 ?q5 ?q6 A27.out).mono ?_); (case q1 => exact Z.cc HR0_1 HB); (case q2 => exact HC0_1.out); (case q3 => exact Z.cc HR0_2 HB); (case q4 => exact HC0_2.out); (case q5 => repeat (exact (Kd.R_reads' HO_11.out).2.2)); (case q6 => exact (Kd.R_reads' HO_11.out).2.1); rintro e w60 ⟨rfl, hb⟩; refine ⟨_, rfl, ?_⟩; replace HO_7 := Aside0.mk (Kd.R_below (by (with_reducible skip); exact HO_7.out) hb); replace HO_11 := Aside0.mk (Kd.R_below (by (with_reducible skip); exact HO_11.out) hb); replace BK873 := Z.bb BK873 hb; replace HB := Z.st (Z.bs HB.out GE873.out) hb; (try clear hb)))
                  (try simp only [← hl7_5])
                  go_roundg k5
                  case measure => have := HK1.out; have := HK2.out; have := HK3.out; have := HK4.out; have := HK5.out; omega
                  case rel => exact ⟨(x7_5), (x11_5), (wrap64 (x13_5 + 1)), (by rfl), H', ⟨by have := HK1.out; have := HK2.out; have := HK3.out; have := HK4.out; have := HK5.out; omega⟩, ⟨by (try simp only [hl7_5]); (with_reducible skip); exact HO_7.out⟩, ⟨by (try simp only [hl7_5]); (with_reducible skip); exact HO_11.out⟩, ⟨by (with_reducible skip); exact BK873.out⟩, ⟨Z.bs HB.out GE873.out⟩⟩
                ·rw [if_neg c26] at H
                 have c26b0 := decide_eq_false c26
                 clear c26
                 have H' := Aside0.mk H
                 clear H
                 have hcz61 := Z.c3 BK873.out
                 have p885 : 0 ≤ (x12_4 : Int) := Z.od
                 have q885 : x12_4 < (l0_2.length : Int) := Z.od
                 obtain ⟨ad885, A885_0, c885_0, rfl, hx885_0, hl885_0, hi885_0⟩ := at_L9 HR0_2.out x12_4 p885 q885
                 replace hx885_0 := Z.up HB.out hx885_0
                 have HR885_0 := Aside0.mk hi885_0
                 have HC885_0 := Aside0.mk hl885_0
                 clear hi885_0 hl885_0
                 replace p885 := eq_true p885
                 replace q885 := eq_true q885
                 go_wp2
                 (try simp only [← hl7_4, ← hl7_5])
                 go_roundg k5
                 case measure => have := HK1.out; have := HK2.out; have := HK3.out; have := HK4.out; have := HK5.out; omega
                 case rel => exact ⟨(x7_5), (x11_5), (wrap64 (x12_4 + 1)), (by rfl), H', ⟨by have := HK1.out; have := HK2.out; have := HK3.out; have := HK4.out; have := HK5.out; omega⟩, ⟨by (try simp only [hl7_4]); (try simp only [hl7_5]); (with_reducible skip); exact HO_7.out⟩, ⟨by (try simp only [hl7_4]); (try simp only [hl7_5]); (with_reducible skip); exact HO_11.out⟩, ⟨by (with_reducible skip); exact BK873.out⟩, ⟨Z.bs HB.out GE873.out⟩⟩
             ·rw [if_neg c22] at H
              have c22b0 := decide_eq_false c22
              clear c22
              have H' := Aside0.mk H
              clear H
              have hcz62 := Z.c3 BK873.out
              go_wp2
              (try simp only [← hl7_3, ← hl7_4])
              go_roundg k4
              case measure => have := HK1.out; have := HK2.out; have := HK3.out; have := HK4.out; omega
              case rel => exact ⟨(x7_4), (wrap64 (x10_3 + 1)), (by rfl), H', ⟨by have := HK1.out; have := HK2.out; have := HK3.out; have := HK4.out; omega⟩, ⟨by (try simp only [hl7_3]); (try simp only [hl7_4]); (with_reducible skip); exact Kd.R_mono HO_7.out (fun _ hk => trivial)⟩, ⟨by (with_reducible skip); exact BK873.out⟩, ⟨Z.bs HB.out GE873.out⟩⟩
          ·rw [if_neg c18] at H
           have c18b0 : ((rd x7_3 x10_3) == x9_2) = false := beq_eq_false_iff_ne.mpr c18
           have c18b1 : ((rd x7_3 x10_3) != x9_2) = true := bne_iff_ne.mpr c18
           have H' := Aside0.mk H
           clear H
           have p881 : 0 ≤ (x10_3 : Int) := Z.od
           have q881 : x10_3 < (x7_3.length : Int) := Z.od
           obtain ⟨ad881, e881, hx881_0⟩ := Kd.at_int (Kd.R_reads' HO_7.out).2.2 x10_3 p881 q881
           obtain rfl : (⟨go12, 0, none⟩ : Addr) = ad881 := (by injection e881)
           (simp only [add_plain] at hx881_0)
           replace p881 := eq_true p881
           replace q881 := eq_true q881
           go_wp2
           (try simp only [← hl7_3])
           go_roundg k3
           case measure => have := HK1.out; have := HK2.out; have := HK3.out; omega
           case rel => exact ⟨(x7_3), (wrap64 (x10_3 + 1)), (by rfl), H', ⟨by have := HK1.out; have := HK2.out; have := HK3.out; omega⟩, ⟨by (try simp only [hl7_3]); (with_reducible skip); exact HO_7.out⟩, ⟨by (with_reducible skip); exact BK873.out⟩, ⟨Z.bs HB.out GE873.out⟩⟩
         ·rw [if_neg c16] at H
          have c16b0 := decide_eq_false c16
          clear c16
          have H' := Aside0.mk H
          clear H
          go_wp2
          (try simp only [← hl7_2, ← hl7_3])
          go_roundg k3
          case measure => have := HK1.out; have := HK2.out; have := HK3.out; omega
          case rel => exact ⟨(x7_3), (wrap64 (x9_2 + 1)), (by rfl), H', ⟨by have := HK1.out; have := HK2.out; have := HK3.out; omega⟩, ⟨by (try simp only [hl7_2]); (try simp only [hl7_3]); (with_reducible skip); exact HO_7.out⟩, ⟨by (with_reducible skip); exact BK873.out⟩, ⟨Z.bs HB.out GE873.out⟩⟩
      ·rw [if_neg c15] at H
       have c15b0 := decide_eq_false c15
       clear c15
       obtain rfl := Option.some.inj H
       go_wp2
       go_ret
       exact ⟨_, by rfl, by (with_reducible skip); exact HO_7.out, Z.bs HB.out GE873.out⟩
end Go.Proofs.Ytcafckapdgaogaa.PAll
