/- Walks of functions that laws of this seat reach, in the form of the print. -/
import Derived.Test.YtojoblllgddckaaCAll0
import Derived.Test.YtojoblllgddckaaCAll1
import Derived.Test.YtojoblllgddckaaCAll17
import Derived.Test.YtojoblllgddckaaCAll21
import Derived.Test.YtojoblllgddckaaZ
-- PRINTED
namespace Go.Proofs.Ytojoblllgddckaa.PAll
open Go.RowKit Go.Proofs.YtojoblllgddckaaW.PrintWords Go.Proofs.YtojoblllgddckaaW.PrintLast Go.Proofs.YtojoblllgddckaaW.PrintMore
attribute [local go_sem] max2_int min2_int max_two min_two max_three min_three max_four min_four
set_option linter.unusedVariables false
set_option linter.unusedSimpArgs false

/-! ### impl_FirstVoid: function 33 -/
mutual
def impl_FirstVoid.j0 : Nat → List Int → List (S48) → Bool → Int → List Int → List (List (S91)) → Option (Int)
 | 0, _, _, _, _, _, _ => none
 | k + 1, x1, x2, x18, x813000, x813001, x813002 => if x18 = true then (some (-1)) else ((some (([] : List Int) : List Int)).bind fun y814 => (if y814.length + x1.length < 17592186044416 then (impl_FirstVoid.l0 k (y814 ++ x1) x2 (x2.length : Int) 0 x813000 x813001 x813002) else (none)))
def impl_FirstVoid.l0 : Nat → List Int → List (S48) → Int → Int → Int → List Int → List (List (S91)) → Option (Int)
 | 0, _, _, _, _, _, _, _ => none
 | k + 1, x7, x22, x23, x24, x813000, x813001, x813002 => if x24 < x23 then (if 0 ≤ x24 then (if x24 < (x22.length : Int) then ((impl_mayAct.f k x813000 x813001 x813002 x7 ((rd_T48 x22 x24).f0) ((rd_T48 x22 x24).f1) ((rd_T48 x22 x24).f2)).bind fun t822 => (if t822 = true then (if 0 ≤ ((rd_T48 x22 x24).f0) then (if ((rd_T48 x22 x24).f0) < (x7.length : Int) then (impl_FirstVoid.l0 k (x7.set (((rd_T48 x22 x24).f0) : Int).toNat ((rd_T48 x22 x24).f1)) x22 x23 (wrap64 (x24 + 1)) x813000 x813001 x813002) else (none)) else (none)) else (some x24))) else (none)) else (none)) else (some (-1))
end
def impl_FirstVoid.f (k : Nat) (a0_0 : Int) (l0_1 : List Int) (l0_2 : List (List (S91))) (l1 : List Int) (l2 : List (S48)) : Option (Int) := (impl_isState.f k a0_0 l0_1 l0_2 l1).bind fun t813 => (if t813 = true then (impl_FirstVoid.j0 k l1 l2 (decide ((l2.length : Int) > 12)) a0_0 l0_1 l0_2) else (impl_FirstVoid.j0 k l1 l2 true a0_0 l0_1 l0_2))
set_option maxHeartbeats 8000000 in
set_option maxRecDepth 100000 in
theorem impl_FirstVoid.calls (k : Nat) (a0_0 : Int) (A0_1 : Option Addr) (c0_1 : Nat) (l0_1 : List Int) (A0_2 : Option Addr) (c0_2 : Nat) (l0_2 : List (List (S91))) (A1 : Option Addr) (c1 : Nat) (l1 : List Int) (A2 : Option Addr) (c2 : Nat) (l2 : List (S48)) (r : Int) (w : World) (hr0_1 : Kd.C (Kd.int .i64) w A0_1 l0_1.length l0_1) (hc0_1 : l0_1.length ≤ c0_1) (hr0_2 : Kd.C (Kd.slice 91 k91) w A0_2 l0_2.length l0_2) (hc0_2 : l0_2.length ≤ c0_2) (hr1 : Kd.C (Kd.int .i64) w A1 l1.length l1) (hc1 : l1.length ≤ c1) (hr2 : Kd.C k48 w A2 l2.length l2) (hc2 : l2.length ≤ c2) (h : impl_FirstVoid.f k a0_0 l0_1 l0_2 l1 l2 = some r) :
  Calls Try.prog 33 #[.agg #[.int .i64 a0_0, .slice A0_1 l0_1.length c0_1, .slice A0_2 l0_2.length c0_2], .slice A1 l1.length c1, .slice A2 l2.length c2] w fun e w' => e = .returned (.int .i64 r) ∧ Below w.heap.size w w' := by
 have hu46 := Try.underlying46
 have hu48 := Try.underlying48
 have HR0_1 := Z.k hr0_1
 have HC0_1 := Z.k hc0_1
 clear hr0_1 hc0_1
 have HR0_2 := Z.k hr0_2
 have HC0_2 := Z.k hc0_2
 clear hr0_2 hc0_2
 have HR1 := Z.k hr1
 have HC1 := Z.k hc1
 clear hr1 hc1
 have HR2 := Z.k hr2
 have HC2 := Z.k hc2
 clear hr2 hc2
 have HB := Z.k (Below.refl w.heap.size w)
 have H := h
 clear h
 unfold impl_FirstVoid.f at H
 have HC4 := Z.k H
 clear H
 go_enter Try.func33, Try.ntmps33
 go_upto_region 1 with (((with_reducible refine gate_dst (N := 3) rfl ?_); (try (refine gate_guard (by rfl) ?_; dsimp only)); refine Z.bx #[.int .i64 a0_0, .slice A0_1 l0_1.length c0_1, .slice A0_2 l0_2.length c0_2] 46 HB ?_; clear HB; intro gb812 w5 BK812 GE812 HB hg hb; have GW812 := GE812; clear hb hg))
 go_cut [18] (fun v18 wc => ∃ (kq : Nat) (x18_3 : Bool), v18 = .bool x18_3 ∧ Aside0 (impl_FirstVoid.j0 kq l1 l2 x18_3 a0_0 l0_1 l0_2 = some r) ∧ Aside0 (kq ≤ k) ∧ Aside0 (wc.heap[gb812]? = some (.cells #[.int .i64 a0_0, (.slice A0_1 l0_1.length c0_1), (.slice A0_2 l0_2.length c0_2)] 46 (0, 0))) ∧ Aside0 (Below w.heap.size w wc))
 case first =>
  have H := HC4.out
  clear HC4
  replace H := Option.bind_eq_some_iff.mp H
  obtain ⟨t813, A60, H⟩ := H
  have A6 := Z.k A60
  clear A60
  by_cases c7 : t813 = true
  ·subst c7
   rw [if_pos rfl] at H
   have H' := Z.k H
   clear H
   have hcz8 := Z.c3 BK812.out
   go_wp2_with (((with_reducible refine gate_callee (f := 73) rfl ?_); refine goesL_ (some 12) rfl rfl Try.func73 (by kernel_rfl) rfl #[.agg #[.int .i64 a0_0, .slice A0_1 l0_1.length c0_1, .slice A0_2 l0_2.length c0_2], .slice A1 l1.length c1] rfl Z.ar ?_; (with_reducible refine (impl_isState.calls k a0_0 _ _ l0_1 _ _ l0_2 _ _ l1 true _ ?q1 ?q2 ?q3 ?q4 ?q5 ?q6 A6.out).mono ?_); (case q1 => exact Z.cc HR0_1 HB); (case q2 => exact HC0_1.out); (case q3 => exact Z.cc HR0_2 HB); (case q4 => exact HC0_2.out); (case q5 => exact Z.cc HR1 HB); (case q6 => exact HC1.out); rintro e w9 ⟨rfl, hb⟩; refine ⟨_, rfl, ?_⟩; replace BK812 := Z.bb BK812 hb; replace HB := Z.st (Z.bs HB.out GE812.out) hb; (try clear hb)))
   go_meet
   case rel => exact ⟨_, (decide ((l2.length : Int) > 12)), (by rfl), H', ⟨by omega⟩, ⟨by exact BK812.out⟩, ⟨Z.bs HB.out GE812.out⟩⟩
  ·replace c7 := Bool.eq_false_iff.mpr c7
   subst c7
   rw [if_neg (show ¬ (false = true) by decide)] at H
   have H' := Z.k H
   clear H
   have hcz10 := Z.c3 BK812.out
   go_wp2_with (((with_reducible refine gate_callee (f := 73) rfl ?_); refine goesL_ (some 12) rfl rfl Try.func73 (by kernel_rfl) rfl #[.agg #[.int .i64 a0_0, .slice A0_1 l0_1.length c0_1, .slice A0_2 l0_2.length c0_2], .slice A1 l1.length c1] rfl Z.ar ?_; (with_reducible refine (impl_isState.calls k a0_0 _ _ l0_1 _ _ l0_2 _ _ l1 false _ ?q1 ?q2 ?q3 ?q4 ?q5 ?q6 A6.out).mono ?_); (case q1 => exact Z.cc HR0_1 HB); (case q2 => exact HC0_1.out); (case q3 => exact Z.cc HR0_2 HB); (case q4 => exact HC0_2.out); (case q5 => exact Z.cc HR1 HB); (case q6 => exact HC1.out); rintro e w11 ⟨rfl, hb⟩; refine ⟨_, rfl, ?_⟩; replace BK812 := Z.bb BK812 hb; replace HB := Z.st (Z.bs HB.out GE812.out) hb; (try clear hb)))
   go_meet
   case rel => exact ⟨_, (true), (by rfl), H', ⟨by omega⟩, ⟨by exact BK812.out⟩, ⟨Z.bs HB.out GE812.out⟩⟩
 case rest =>
  clear HC4
  obtain ⟨kq, x18_3, rfl, HA, HJ3, BK812, HB⟩ := hcut
  cases kq with
  | zero => exact absurd HA.out (by simp [impl_FirstVoid.j0])
  | succ kj3 =>
   have H := HA.out
   clear HA
   simp only [impl_FirstVoid.j0] at H
   by_cases c12 : x18_3 = true
   ·subst c12
    rw [if_pos rfl] at H
    obtain rfl := Option.some.inj H
    go_wp2
    go_ret
    exact ⟨by rfl, Z.bs HB.out GE812.out⟩
   ·replace c12 := Bool.eq_false_iff.mpr c12
    subst c12
    rw [if_neg (show ¬ (false = true) by decide)] at H
    obtain ⟨y814, hy814⟩ : ∃ y_ : List Int, y_ = (([] : List Int)) := ⟨_, rfl⟩
    replace H : (if y814.length + l1.length < 17592186044416 then (impl_FirstVoid.l0 kj3 (y814 ++ l1) l2 (l2.length : Int) 0 a0_0 l0_1 l0_2) else (none)) = some r := by (have H2_ := (Option.bind_some _ _).symm.trans H; rw [hy814]; with_reducible exact H2_)
    have Ny814 := Z.k hy814
    clear hy814
    obtain ⟨c13, H⟩ := Z.ifp H
    have LMc13 := Z.k c13
    clear c13
    obtain ⟨y817, hy817⟩ : ∃ y_ : List Int, y_ = (y814 ++ l1) := ⟨_, rfl⟩
    replace H : (impl_FirstVoid.l0 kj3 y817 l2 (l2.length : Int) 0 a0_0 l0_1 l0_2) = some r := by (rw [hy817]; with_reducible exact H)
    have Ny817 := Z.k hy817
    clear hy817
    have H' := Z.k H
    clear H
    go_wp2_with (first | ((with_reducible refine gate_dst (N := 19) rfl ?_); (try (refine gate_guard (by rfl) ?_; dsimp only)); refine Kd.R_lit (Kd.int .i64) _ 3 ?hg (N := 19) ?hd (xs := ([] : List Int)) (inner := []) (ok := fun _ => True) (okp := fun _ => True) ?hr ?hp (fun _ hk => hk) trivial (Below.refl _ _) (Nat.le_refl _) (by simp) ?_; (case hd | hg => rfl); (case hr => (go_simp; done)); (case hp => exact (Reps.none _ _)); intro v815 w14 ho15 hb hg_ hnew_; clear hg_ hnew_; (rw [← Ny814.out] at ho15); have HO816 := Z.k (Kd.R_lower ho15 (below_size (Z.bs HB.out GE812.out))); replace BK812 := Z.bb BK812 hb; replace HB := Z.st (Z.bs HB.out GE812.out) hb; clear hb ho15) | ((with_reducible refine gate_builtin (b := .append) (xs := #[.tmp 19, .tmp 20]) rfl ?_); (try (refine gate_guard (by rfl) ?_; dsimp only)); at_builtin; refine Kd.R_append_rows (Kd.int .i64) (w0 := w) w.heap.size rfl (.tmp 19) (.tmp 20) 23 3 (.int .i64 0) 8 rfl Try.underlying23 info3 rfl (by decide) (by omega) v815 y814 l1 _ _ _ (fun _ => True) (fun _ => False) rfl rfl ?aO ?aR (fun _ _ h => h) (fun _ h => h.elim) ?aF ?aB ?aS ?aL ?_; (case aR => exact Z.cc HR1 HB); (case aB => exact (Z.bs HB.out GE812.out)); (case aF => exact (fun _ _ => trivial)); (case aO => exact HO816.out); (case aS => exact (below_size (Z.bs HB.out GE812.out))); (case aL => have := LMc13.out; omega); intro v818 w16 ho hb hg hat; rw [← Ny817.out] at ho; replace BK812 := Z.k (blk_grown (g := gb812) (o := .cells #[.int .i64 a0_0, .slice A0_1 l0_1.length c0_1, .slice A0_2 l0_2.length c0_2] 46 (0, 0)) (Z.bk BK812.out) hg (Kd.R_ne HO816.out BK812.out (by decide))); replace HB := Z.k hb; have HO819 := Z.k ho; clear HO816; clear ho hb hg hat))
    go_loopg [24] kj3 (fun kq v24 w' => ∃ (x7_2 : List Int) (x24_2 : Int), v24 = .int .i64 x24_2 ∧ Aside0 (impl_FirstVoid.l0 kq x7_2 l2 (l2.length : Int) x24_2 a0_0 l0_1 l0_2 = some r) ∧ Aside0 (kq ≤ kj3) ∧ Aside0 (Kd.R (Kd.int .i64) 3 w' w.heap.size (fun _ => True) v818 x7_2) ∧ Aside0 (w'.heap[gb812]? = some (.cells #[.int .i64 a0_0, (.slice A0_1 l0_1.length c0_1), (.slice A0_2 l0_2.length c0_2)] 46 (0, 0))) ∧ Aside0 (Below w.heap.size w w'))
    case atStart => exact ⟨(y817), (0), (by rfl), H', ⟨Nat.le_refl _⟩, ⟨by exact HO819.out⟩, ⟨by exact BK812.out⟩, ⟨Z.bs HB.out GE812.out⟩⟩
    case round =>
     clear H'
     obtain ⟨x7_2, x24_2, rfl, HA, HK2, HO_7, BK812, HB⟩ := hrel
     cases gk with
     | zero => exact absurd HA.out (by simp [impl_FirstVoid.l0])
     | succ k2 =>
      have H := HA.out
      clear HA
      simp only [impl_FirstVoid.l0] at H
      by_cases c17 : x24_2 < (l2.length : Int)
      ·rw [if_pos c17] at H
       have c17b0 : decide (x24_2 < (l2.length : Int)) = true := decide_eq_true c17
       clear c17
       obtain ⟨c18, H⟩ := Z.ifp H
       have c18b0 : decide (0 ≤ x24_2) = true := decide_eq_true c18
       clear c18
       obtain ⟨c19, H⟩ := Z.ifp H
       have c19b0 : decide (x24_2 < (l2.length : Int)) = true := decide_eq_true c19
       clear c19
       replace H := Option.bind_eq_some_iff.mp H
       obtain ⟨t822, A200, H⟩ := H
       have A20 := Z.k A200
       clear A200
       by_cases c21 : t822 = true
       ·subst c21
        rw [if_pos rfl] at H
        obtain ⟨c22, H⟩ := Z.ifp H
        have c22b0 : decide (0 ≤ ((rd_T48 l2 x24_2).f0)) = true := decide_eq_true c22
        clear c22
        obtain ⟨c23, H⟩ := Z.ifp H
        have c23b0 : decide (((rd_T48 l2 x24_2).f0) < (x7_2.length : Int)) = true := decide_eq_true c23
        clear c23
        obtain ⟨y823, hy823⟩ : ∃ y_ : List Int, y_ = (x7_2.set (((rd_T48 l2 x24_2).f0) : Int).toNat ((rd_T48 l2 x24_2).f1)) := ⟨_, rfl⟩
        replace H : (impl_FirstVoid.l0 k2 y823 l2 (l2.length : Int) (wrap64 (x24_2 + 1)) a0_0 l0_1 l0_2) = some r := by (rw [hy823]; with_reducible exact H)
        have Ny823 := Z.k hy823
        clear hy823
        have H' := Z.k H
        clear H
        have p820 : 0 ≤ (x24_2 : Int) := Z.od
        have q820 : x24_2 < (l2.length : Int) := Z.od
        obtain ⟨ad820, rfl, hx820_0, hx820_1, hx820_2⟩ := at_T48 HR2.out x24_2 p820 q820
        replace hx820_0 := Z.up HB.out hx820_0
        replace hx820_1 := Z.up HB.out hx820_1
        replace hx820_2 := Z.up HB.out hx820_2
        replace p820 := eq_true p820
        replace q820 := eq_true q820
        go_wp2_with (first | ((with_reducible refine gate_dst (N := 9) rfl ?_); (try (refine gate_guard (by rfl) ?_; dsimp only)); refine Z.bz #[.int .i64 0, .int .i64 0, .int .i64 0] 48 HB GE812 ?_; clear HB; intro gb821 w25 BK821 GE821 HB hg hb; have GW821 := GE821; replace HO_7 := Z.k (Kd.R_below HO_7.out hb); have NB812_821 := Z.nl hg BK812; have NB821_812 := Z.ng hg BK812; replace BK812 := Z.bb BK812 hb; clear hb hg; have hnb26 := NB821_812.out; have hnc26 := NB812_821.out; have hcz27 := Z.c3 BK821.out; have hcz28 := Z.c3 BK812.out; obtain ⟨Ao29, co29, eo29⟩ := Kd.R_slice HO_7.out; subst eo29) | ((with_reducible refine gate_callee (f := 76) rfl ?_); refine goesL_ (some 32) rfl rfl Try.func76 (by kernel_rfl) rfl #[.agg #[.int .i64 a0_0, .slice A0_1 l0_1.length c0_1, .slice A0_2 l0_2.length c0_2], .slice Ao29 x7_2.length co29, .agg #[.int .i64 ((rd_T48 l2 x24_2).f0), .int .i64 ((rd_T48 l2 x24_2).f1), .int .i64 ((rd_T48 l2 x24_2).f2)]] rfl Z.ar ?_; (with_reducible refine (impl_mayAct.calls k2 a0_0 _ _ l0_1 _ _ l0_2 _ _ x7_2 ((rd_T48 l2 x24_2).f0) ((rd_T48 l2 x24_2).f1) ((rd_T48 l2 x24_2).f2) true _ ?q1 ?q2 ?q3 ?q4 ?q5 ?q6 A20.out).mono ?_); (case q1 => exact Kd.C_below HR0_1.out (by repeat ((with_reducible first | exact HB.out | refine below_set ?_ GE821.out)))); (case q2 => exact HC0_1.out); (case q3 => exact Kd.C_below HR0_2.out (by repeat ((with_reducible first | exact HB.out | refine below_set ?_ GE821.out)))); (case q4 => exact HC0_2.out); (case q5 => refine (Kd.R_reads' (e := 3) (base := w.heap.size) (ok := fun k_ => True) (n := x7_2.length) (c := co29) ?_).2.2; exact (Kd.R_mono (Kd.R_far (p := ⟨gb821, 2, none⟩) (Kd.R_far (p := ⟨gb821, 1, none⟩) (Kd.R_far (p := ⟨gb821, 0, none⟩) (Kd.R_types HO_7.out BK821.out (by decide)) (fun _ hk => hk.2) (.int .i64 ((rd_T48 l2 x24_2).f0))) (fun _ hk => hk.2) (.int .i64 ((rd_T48 l2 x24_2).f1))) (fun _ hk => hk.2) (.int .i64 ((rd_T48 l2 x24_2).f2))) (fun _ h_ => h_.1))); (case q6 => exact (Kd.R_reads' HO_7.out).2.1); rintro e w30 ⟨rfl, hb⟩; refine ⟨_, rfl, ?_⟩; replace HO_7 := Z.k (Kd.R_below (Kd.R_mono (Kd.R_far (p := ⟨gb821, 2, none⟩) (Kd.R_far (p := ⟨gb821, 1, none⟩) (Kd.R_far (p := ⟨gb821, 0, none⟩) (Kd.R_types HO_7.out BK821.out (by decide)) (fun _ hk => hk.2) (.int .i64 ((rd_T48 l2 x24_2).f0))) (fun _ hk => hk.2) (.int .i64 ((rd_T48 l2 x24_2).f1))) (fun _ hk => hk.2) (.int .i64 ((rd_T48 l2 x24_2).f2))) (fun _ h_ => h_.1)) hb); replace BK812 := Z.k (blk_below (g := gb812) (o := .cells #[.int .i64 a0_0, .slice A0_1 l0_1.length c0_1, .slice A0_2 l0_2.length c0_2] 46 (0, 0)) (by refine blk_far ?_ NB812_821.out _; refine blk_far ?_ NB812_821.out _; refine blk_far ?_ NB812_821.out _; exact BK812.out) hb); replace BK821 := Z.k (blk_below (g := gb821) (o := .cells #[.int .i64 ((rd_T48 l2 x24_2).f0), .int .i64 ((rd_T48 l2 x24_2).f1), .int .i64 ((rd_T48 l2 x24_2).f2)] 48 (0, 0)) (by refine blk_put (cs := #[.int .i64 ((rd_T48 l2 x24_2).f0), .int .i64 ((rd_T48 l2 x24_2).f1), .int .i64 0]) ?_ 2 _ rfl; refine blk_put (cs := #[.int .i64 ((rd_T48 l2 x24_2).f0), .int .i64 0, .int .i64 0]) ?_ 1 _ rfl; refine blk_put (cs := #[.int .i64 0, .int .i64 0, .int .i64 0]) ?_ 0 _ rfl; exact BK821.out) hb); replace HB := Z.k (below_step (by repeat ((with_reducible first | exact HB.out | refine below_set ?_ GE821.out))) hb); (try clear hb); have hcz31 := Z.c3 BK821.out; have p24 : 0 ≤ (((rd_T48 l2 x24_2).f0) : Int) := Z.od; have q24 : (((rd_T48 l2 x24_2).f0) : Int) < ((x7_2.length : Int) : Int) := Z.od; obtain ⟨go24, co24, eo24, gb24, gl24, cl24, HG24⟩ := Kd.R_form HO_7.out (by omega); (cases eo24); have GB24 := Z.k gb24; have GG24 := Z.k HG24; clear gb24 gl24 HG24; obtain ⟨hx24_0, hf24_0⟩ := Kd.R_celln 0 HO_7.out (((rd_T48 l2 x24_2).f0) : Int) p24 q24; replace p24 := eq_true p24; replace q24 := eq_true q24; obtain ⟨hy32_, hz32_⟩ := Kd.R_celln 0 HO_7.out (((rd_T48 l2 x24_2).f0) : Int) (Z.od) (Z.od); have HP32 := Kd.R_putg HO_7.out (((rd_T48 l2 x24_2).f0) : Int) ((rd_T48 l2 x24_2).f1)) | ((with_reducible refine gate_store (t := 3) (p := 40) rfl ?_); refine store_event (t := 3) (p := 40) (v := ?vo_w33) (w1 := (w30.setCell ⟨go24, (((rd_T48 l2 x24_2).f0) : Int).toNat, none⟩ (.int .i64 ((rd_T48 l2 x24_2).f1)))) ?hg ?ho ?hn ?hr ?_; (case ho => rfl); (case hg => rfl); (case hn => rfl); (case hr => (go_simp; done)); intro w33 hw; have hg : w30.grownBy w33 (some go24) := (by rw [hw]; exact HP32.2); have hp_ : Kd.R (Kd.int .i64) 3 w33 w.heap.size (fun _ => True) (.slice (some ⟨go24, 0, none⟩) x7_2.length co29) y823 := (by rw [hw, Ny823.out]; exact HP32.1); clear HP32; replace BK812 := Z.k (blk_grown (g := gb812) (o := .cells #[.int .i64 a0_0, .slice A0_1 l0_1.length c0_1, .slice A0_2 l0_2.length c0_2] 46 (0, 0)) (Z.bk BK812.out) hg (Kd.R_ne HO_7.out BK812.out (by decide))); replace BK821 := Z.k (blk_grown (g := gb821) (o := .cells #[.int .i64 ((rd_T48 l2 x24_2).f0), .int .i64 ((rd_T48 l2 x24_2).f1), .int .i64 ((rd_T48 l2 x24_2).f2)] 48 (0, 0)) (Z.bk BK821.out) hg (Kd.R_ne HO_7.out BK821.out (by decide))); replace HO_7 := Z.k hp_; replace HB := Z.k ((by rw [hw]; exact below_set (HB.out) GB24.out : Below w.heap.size w w33)); clear hg hw hp_))
        go_roundg k2
        case measure => have := HJ3.out; have := HK2.out; omega
        case rel => exact ⟨(y823), (wrap64 (x24_2 + 1)), (by rfl), H', ⟨by have := HJ3.out; have := HK2.out; omega⟩, ⟨by exact HO_7.out⟩, ⟨by exact BK812.out⟩, ⟨HB.out⟩⟩
       ·replace c21 := Bool.eq_false_iff.mpr c21
        subst c21
        rw [if_neg (show ¬ (false = true) by decide)] at H
        obtain rfl := Option.some.inj H
        have p820 : 0 ≤ (x24_2 : Int) := Z.od
        have q820 : x24_2 < (l2.length : Int) := Z.od
        obtain ⟨ad820, rfl, hx820_0, hx820_1, hx820_2⟩ := at_T48 HR2.out x24_2 p820 q820
        replace hx820_0 := Z.up HB.out hx820_0
        replace hx820_1 := Z.up HB.out hx820_1
        replace hx820_2 := Z.up HB.out hx820_2
        replace p820 := eq_true p820
        replace q820 := eq_true q820
        go_wp2_with (first | ((with_reducible refine gate_dst (N := 9) rfl ?_); (try (refine gate_guard (by rfl) ?_; dsimp only)); refine Z.bz #[.int .i64 0, .int .i64 0, .int .i64 0] 48 HB GE812 ?_; clear HB; intro gb821 w34 BK821 GE821 HB hg hb; have GW821 := GE821; replace HO_7 := Z.k (Kd.R_below HO_7.out hb); have NB812_821 := Z.nl hg BK812; have NB821_812 := Z.ng hg BK812; replace BK812 := Z.bb BK812 hb; clear hb hg; have hnb35 := NB821_812.out; have hnc35 := NB812_821.out; have hcz36 := Z.c3 BK821.out; have hcz37 := Z.c3 BK812.out; obtain ⟨Ao38, co38, eo38⟩ := Kd.R_slice HO_7.out; subst eo38) | ((with_reducible refine gate_callee (f := 76) rfl ?_); refine goesL_ (some 32) rfl rfl Try.func76 (by kernel_rfl) rfl #[.agg #[.int .i64 a0_0, .slice A0_1 l0_1.length c0_1, .slice A0_2 l0_2.length c0_2], .slice Ao38 x7_2.length co38, .agg #[.int .i64 ((rd_T48 l2 x24_2).f0), .int .i64 ((rd_T48 l2 x24_2).f1), .int .i64 ((rd_T48 l2 x24_2).f2)]] rfl Z.ar ?_; (with_reducible refine (impl_mayAct.calls k2 a0_0 _ _ l0_1 _ _ l0_2 _ _ x7_2 ((rd_T48 l2 x24_2).f0) ((rd_T48 l2 x24_2).f1) ((rd_T48 l2 x24_2).f2) false _ ?q1 ?q2 ?q3 ?q4 ?q5 ?q6 A20.out).mono ?_); (case q1 => exact Kd.C_below HR0_1.out (by repeat ((with_reducible first | exact HB.out | refine below_set ?_ GE821.out)))); (case q2 => exact HC0_1.out); (case q3 => exact Kd.C_below HR0_2.out (by repeat ((with_reducible first | exact HB.out | refine below_set ?_ GE821.out)))); (case q4 => exact HC0_2.out); (case q5 => refine (Kd.R_reads' (e := 3) (base := w.heap.size) (ok := fun k_ => True) (n := x7_2.length) (c := co38) ?_).2.2; exact (Kd.R_mono (Kd.R_far (p := ⟨gb821, 2, none⟩) (Kd.R_far (p := ⟨gb821, 1, none⟩) (Kd.R_far (p := ⟨gb821, 0, none⟩) (Kd.R_types HO_7.out BK821.out (by decide)) (fun _ hk => hk.2) (.int .i64 ((rd_T48 l2 x24_2).f0))) (fun _ hk => hk.2) (.int .i64 ((rd_T48 l2 x24_2).f1))) (fun _ hk => hk.2) (.int .i64 ((rd_T48 l2 x24_2).f2))) (fun _ h_ => h_.1))); (case q6 => exact (Kd.R_reads' HO_7.out).2.1); rintro e w39 ⟨rfl, hb⟩; refine ⟨_, rfl, ?_⟩; replace HO_7 := Z.k (Kd.R_below (Kd.R_mono (Kd.R_far (p := ⟨gb821, 2, none⟩) (Kd.R_far (p := ⟨gb821, 1, none⟩) (Kd.R_far (p := ⟨gb821, 0, none⟩) (Kd.R_types HO_7.out BK821.out (by decide)) (fun _ hk => hk.2) (.int .i64 ((rd_T48 l2 x24_2).f0))) (fun _ hk => hk.2) (.int .i64 ((rd_T48 l2 x24_2).f1))) (fun _ hk => hk.2) (.int .i64 ((rd_T48 l2 x24_2).f2))) (fun _ h_ => h_.1)) hb); replace BK812 := Z.k (blk_below (g := gb812) (o := .cells #[.int .i64 a0_0, .slice A0_1 l0_1.length c0_1, .slice A0_2 l0_2.length c0_2] 46 (0, 0)) (by refine blk_far ?_ NB812_821.out _; refine blk_far ?_ NB812_821.out _; refine blk_far ?_ NB812_821.out _; exact BK812.out) hb); replace BK821 := Z.k (blk_below (g := gb821) (o := .cells #[.int .i64 ((rd_T48 l2 x24_2).f0), .int .i64 ((rd_T48 l2 x24_2).f1), .int .i64 ((rd_T48 l2 x24_2).f2)] 48 (0, 0)) (by refine blk_put (cs := #[.int .i64 ((rd_T48 l2 x24_2).f0), .int .i64 ((rd_T48 l2 x24_2).f1), .int .i64 0]) ?_ 2 _ rfl; refine blk_put (cs := #[.int .i64 ((rd_T48 l2 x24_2).f0), .int .i64 0, .int .i64 0]) ?_ 1 _ rfl; refine blk_put (cs := #[.int .i64 0, .int .i64 0, .int .i64 0]) ?_ 0 _ rfl; exact BK821.out) hb); replace HB := Z.k (below_step (by repeat ((with_reducible first | exact HB.out | refine below_set ?_ GE821.out))) hb); (try clear hb)))
        go_ret
        exact ⟨by rfl, HB.out⟩
      ·rw [if_neg c17] at H
       have c17b0 : decide (x24_2 < (l2.length : Int)) = false := decide_eq_false c17
       clear c17
       obtain rfl := Option.some.inj H
       go_wp2
       go_ret
       exact ⟨by rfl, Z.bs HB.out GE812.out⟩

end Go.Proofs.Ytojoblllgddckaa.PAll
