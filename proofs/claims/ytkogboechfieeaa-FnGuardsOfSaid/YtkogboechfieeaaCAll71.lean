/- Walks of functions that laws of this seat reach, in the form of the print. -/
import Derived.Test.YtkogboechfieeaaCAll23
import Derived.Maps.OwnSet
import Derived.Shelf.Abstract
-- PRINTED
namespace Go.Proofs.Ytkogboechfieeaa.PAll
open Go.RowKit Go.Proofs.YtkogboechfieeaaW.PrintWords Go.Proofs.YtkogboechfieeaaW.PrintLast Go.Proofs.YtkogboechfieeaaW.PrintMore
attribute [local go_sem] max2_int min2_int max_two min_two max_three min_three max_four min_four
set_option linter.unusedVariables false
set_option linter.unusedSimpArgs false

/-! ### impl_safeFor: function 70 -/
set_option maxHeartbeats 4000000 in
theorem safeFor1_any (x : Int) (g gm : Nat) (D : List (Int × Int)) (W0 W : World) (hx : (Lit.int .i64 x).wf = true) (hg : W0.heap[g]? = some (.cells #[.map (some gm)] 75 (0, 0))) (hm : MapAt W0 gm D) (hb : Below W0.heap.size W0 W) : Calls Try.prog 100 (#[.int .i64 x] ++ #[.pointer (some ⟨g, 0, none⟩)]) W fun e w' => e = .returned (.bool (mhas x D)) ∧ Below W.heap.size W w' := by
 have HM : Aside0 (MapAt W gm D) := ⟨World.ownsMap.kept hm (grown0 hb) (by simp)⟩
 have hcz := Z.c1 (blk_below hg hb)
 have HX := Z.k hx
 clear hg hm hb hx
 go_enter Try.func100, Try.ntmps100
 go_wp2_with (at_lookup; refine wpList_lookup_own_ok_int _ rfl _ _ 75 rfl 3 3 .i64 keyed3 Try.underlying75 Try.underlying3 (zero3 _) gm _ _ rfl HM.out _ (.int .i64 x) rfl (Maps.keyOf_int_mk Try.underlying3 HX.out) ?_; intro c5 hat hwc; rw [mapD_has]; clear hat hwc)
 go_ret
 exact ⟨rfl, Below.refl _ _⟩
def inI64 (n : Int) : Bool := decide (-9223372036854775808 ≤ n) && decide (n < 9223372036854775808)
theorem inI_wf {n : Int} (h : inI64 n = true) : (Lit.int .i64 n).wf = true := by
 simp only [inI64, Bool.and_eq_true, decide_eq_true_eq] at h
 exact WalkArith.wf_i64 (by omega)
def impl_safeFor.f (k : Nat) (P : Int) (B : List Int) (C : List (List S37)) (s t : List Int) (cr : Int) : Option (Bool) := (impl_reach.f k P B C s cr).bind fun D => if t.all inI64 = true then some (!(t.any fun n => mhas n D)) else none
theorem impl_safeFor.mono (P : Int) (B : List Int) (C : List (List S37)) (s t : List Int) (cr : Int) (k : Nat) : LeO (impl_safeFor.f k P B C s t cr) (impl_safeFor.f (k + 1) P B C s t cr) := by
 unfold impl_safeFor.f
 exact LeO.bind (impl_reach.mono _ _ _ _ _ _) fun _ => LeO.refl _
set_option maxHeartbeats 4000000 in
set_option maxRecDepth 100000 in
theorem impl_safeFor.calls (k : Nat) (a0_0 : Int) (A0_1 : Option Addr) (c0_1 : Nat) (l0_1 : List Int) (A0_2 : Option Addr) (c0_2 : Nat) (l0_2 : List (List (S37))) (A1 : Option Addr) (c1 : Nat) (l1 : List Int) (A2 : Option Addr) (c2 : Nat) (l2 : List Int) (a3 : Int) (r : Bool) (w : World) (hr0_1 : Kd.C (Kd.int .i64) w A0_1 l0_1.length l0_1) (hc0_1 : l0_1.length ≤ c0_1) (hr0_2 : Kd.C (Kd.slice 37 k37) w A0_2 l0_2.length l0_2) (hc0_2 : l0_2.length ≤ c0_2) (hr1 : Kd.C (Kd.int .i64) w A1 l1.length l1) (hc1 : l1.length ≤ c1) (hr2 : Kd.C (Kd.int .i64) w A2 l2.length l2) (hc2 : l2.length ≤ c2) (h : impl_safeFor.f k a0_0 l0_1 l0_2 l1 l2 a3 = some r) :
 Calls Try.prog 70 #[.agg #[.int .i64 a0_0, .slice A0_1 l0_1.length c0_1, .slice A0_2 l0_2.length c0_2], .slice A1 l1.length c1, .slice A2 l2.length c2, .int .i64 a3] w fun e w' => e = .returned (.bool r) ∧ Below w.heap.size w w' := by
 have hu35 := Try.underlying28
 have HR0_1 := Z.k hr0_1
 have HR0_2 := Z.k hr0_2
 have HR1 := Z.k hr1
 have HR2 := Z.k hr2
 have HC0_1 := Z.k hc0_1
 have HC0_2 := Z.k hc0_2
 have HC1 := Z.k hc1
 clear hr0_1 hr0_2 hr1 hr2 hc0_1 hc0_2 hc1 hc2
 unfold impl_safeFor.f at h
 obtain ⟨D, hD, h⟩ := Option.bind_eq_some_iff.mp h
 have HD := Z.k hD
 obtain ⟨hall, h⟩ := Z.ifp h
 have HAll := Z.k hall
 obtain rfl := Option.some.inj h
 clear h hD hall
 go_enter Try.func70, Try.ntmps70
 go_wp2_with (first
  | ((with_reducible refine gate_dst (N := 4) rfl ?_); refine box_event ?hg (N := 4) ?hd (cs := #[.int .i64 a0_0, .slice A0_1 l0_1.length c0_1, .slice A0_2 l0_2.length c0_2]) (t := 28) ?hr ?_; (case hd | hg => rfl); (case hr => (go_simp; done)); intro gb hg w1 hbox hb; have HB4 := Z.k hb; have hcz := Z.c3 hbox; clear hb hg hbox)
  | (go_at_call 65; (with_reducible refine (impl_reach.calls k a0_0 _ _ l0_1 _ _ l0_2 _ _ l1 a3 D _ ?q1 ?q2 ?q3 ?q4 ?q5 ?q6 HD.out).mono ?_); (case q1 => exact Kd.C_below HR0_1.out HB4.out); (case q2 => exact HC0_1.out); (case q3 => exact Kd.C_below HR0_2.out HB4.out); (case q4 => exact HC0_2.out); (case q5 => exact Kd.C_below HR1.out HB4.out); (case q6 => exact HC1.out); rintro e w5 ⟨gm, rfl, hm, hb⟩; have HM := Z.k hm; have HB5 := Z.k (below_step HB4.out hb); clear hm hb hcz)
  | (go_at_call 97; refine (cfI_any _ A2 c2 l2 100 #[.pointer (some ⟨w5.heap.size, 0, none⟩)] (fun args w => enters_ Try.func100 (by kernel_rfl) rfl args w) (fun n => mhas n D) (Kd.C_alloc (Kd.C_below HR2.out HB5.out) _) (fun W x hx hb => (safeFor1_any x w5.heap.size gm D _ W (inI_wf (List.all_eq_true.mp HAll.out x hx)) (heap_alloc_new w5 _) (World.ownsMap.alloc HM.out _) hb).mono fun e w2 ⟨he, h2⟩ => ⟨he, below_step hb h2⟩) HR2.out.2.1).mono ?_; rintro e w6 ⟨rfl, hb⟩; have HB6 := Z.k (below_step (below_alloc HB5.out _) hb); clear hb))
 go_ret
 exact ⟨rfl, HB6.out⟩

/-! ### impl_SafeFor: function 22 -/
def impl_SafeFor.f (k : Nat) (a0_0 : Int) (l0_1 : List Int) (l0_2 : List (List (S37))) (l1 : List Int) (l2 : List Int) (a3 : Int) : Option (Bool) := (impl_isState.f k a0_0 l0_1 l0_2 l1).bind fun t31 => (if t31 = true then ((impl_areBad.f l2).bind fun t32 => (if t32 = true then ((impl_isCrowd.f a0_0 a3).bind fun t33 => (if t33 = true then ((impl_safeFor.f k a0_0 l0_1 l0_2 l1 l2 a3).bind fun t34 => (some t34)) else (some false))) else (some false))) else (some false))
set_option maxHeartbeats 8000000 in
set_option maxRecDepth 100000 in
theorem impl_SafeFor.calls (k : Nat) (a0_0 : Int) (A0_1 : Option Addr) (c0_1 : Nat) (l0_1 : List Int) (A0_2 : Option Addr) (c0_2 : Nat) (l0_2 : List (List (S37))) (A1 : Option Addr) (c1 : Nat) (l1 : List Int) (A2 : Option Addr) (c2 : Nat) (l2 : List Int) (a3 : Int) (r : Bool) (w : World) (hr0_1 : Kd.C (Kd.int .i64) w A0_1 l0_1.length l0_1) (hc0_1 : l0_1.length ≤ c0_1) (hr0_2 : Kd.C (Kd.slice 37 k37) w A0_2 l0_2.length l0_2) (hc0_2 : l0_2.length ≤ c0_2) (hr1 : Kd.C (Kd.int .i64) w A1 l1.length l1) (hc1 : l1.length ≤ c1) (hr2 : Kd.C (Kd.int .i64) w A2 l2.length l2) (hc2 : l2.length ≤ c2) (h : impl_SafeFor.f k a0_0 l0_1 l0_2 l1 l2 a3 = some r) :
  Calls Try.prog 22 #[.agg #[.int .i64 a0_0, .slice A0_1 l0_1.length c0_1, .slice A0_2 l0_2.length c0_2], .slice A1 l1.length c1, .slice A2 l2.length c2, .int .i64 a3] w fun e w' => e = .returned (.bool r) ∧ Below w.heap.size w w' := by
 have hu28 := Try.underlying28
 have HR0_1 := Z.k hr0_1
 have HC0_1 := Z.k hc0_1
 clear hr0_1 hc0_1
 have HR0_2 := Z.k hr0_2
 have HC0_2 := Z.k hc0_2
 clear hr0_2 hc0_2
 have HR1 := Z.k hr1
 have HC1 := Z.k hc1
 clear hr1 hc1
 have HR2 := Z.k hr2
 have HC2 := Z.k hc2
 clear hr2 hc2
 have HB := Z.k (Below.refl w.heap.size w)
 have H := h
 clear h
 unfold impl_SafeFor.f at H
 revert H; refine Z.bd ?_; rintro t31 A5 H
 try dsimp only at H
 by_cases c6 : t31 = true
 ·subst c6
  rw [if_pos rfl] at H
  revert H; refine Z.bd ?_; rintro t32 A7 H
  try dsimp only at H
  by_cases c8 : t32 = true
  ·subst c8
   rw [if_pos rfl] at H
   revert H; refine Z.bd ?_; rintro t33 A9 H
   try dsimp only at H
   by_cases c10 : t33 = true
   ·subst c10
    rw [if_pos rfl] at H
    revert H; refine Z.bd ?_; rintro t34 A11 H
    try dsimp only at H
    obtain rfl := Option.some.inj H
    go_enter Try.func22, Try.ntmps22
    go_wp2_with (first | ((with_reducible refine gate_dst (N := 4) rfl ?_); refine Z.bx #[.int .i64 a0_0, .slice A0_1 l0_1.length c0_1, .slice A0_2 l0_2.length c0_2] 28 HB ?_; clear HB; intro gb30 w12 BK30 GE30 HB hg hb; have GW30 := GE30; clear hb hg; have hcz13 := Z.c3 BK30.out) | ((with_reducible refine gate_callee (f := 62) rfl ?_); refine goesL_ (some 11) rfl rfl Try.func62 (by kernel_rfl) rfl #[.agg #[.int .i64 a0_0, .slice A0_1 l0_1.length c0_1, .slice A0_2 l0_2.length c0_2], .slice A1 l1.length c1] rfl Z.ar ?_; (with_reducible refine (impl_isState.calls k a0_0 _ _ l0_1 _ _ l0_2 _ _ l1 true _ ?q1 ?q2 ?q3 ?q4 ?q5 ?q6 A5.out).mono ?_); (case q1 => exact Z.cc HR0_1 HB); (case q2 => exact HC0_1.out); (case q3 => exact Z.cc HR0_2 HB); (case q4 => exact HC0_2.out); (case q5 => exact Z.cc HR1 HB); (case q6 => exact HC1.out); rintro e w14 ⟨rfl, hb⟩; refine ⟨_, rfl, ?_⟩; replace BK30 := Z.bb BK30 hb; replace HB := Z.st (Z.bs HB.out GE30.out) hb; (try clear hb); (try clear hb2); (try clear hk); (try clear hi)) | (go_at_call 67; (with_reducible refine (impl_areBad.calls _ _ l2 true _ ?q1 ?q2 A7.out).mono ?_); (case q1 => exact Z.cc HR2 HB); (case q2 => exact HC2.out); rintro e w15 ⟨rfl, hb⟩; replace BK30 := Z.bb BK30 hb; replace HB := Z.st (Z.bs HB.out GE30.out) hb; (try clear hb); (try clear hb2); (try clear hk); (try clear hi); have hcz16 := Z.c3 BK30.out) | (go_at_call 63; (with_reducible refine (impl_isCrowd.calls a0_0 a3 true _ A9.out).mono ?_); rintro e w' ⟨rfl, ⟨nd, rfl⟩⟩) | (go_at_call 70; (with_reducible refine (impl_safeFor.calls k a0_0 _ _ l0_1 _ _ l0_2 _ _ l1 _ _ l2 a3 t34 _ ?q1 ?q2 ?q3 ?q4 ?q5 ?q6 ?q7 ?q8 A11.out).mono ?_); (case q1 => repeat (first | exact (Kd.C_below HR0_1.out (Z.bs HB.out GE30.out)) | (with_reducible refine Kd.C_alloc ?_ _) | (with_reducible refine Kd.C_drewN ?_ _) | (with_reducible refine Kd.C_drew ?_))); (case q2 => exact HC0_1.out); (case q3 => repeat (first | exact (Kd.C_below HR0_2.out (Z.bs HB.out GE30.out)) | (with_reducible refine Kd.C_alloc ?_ _) | (with_reducible refine Kd.C_drewN ?_ _) | (with_reducible refine Kd.C_drew ?_))); (case q4 => exact HC0_2.out); (case q5 => repeat (first | exact (Kd.C_below HR1.out (Z.bs HB.out GE30.out)) | (with_reducible refine Kd.C_alloc ?_ _) | (with_reducible refine Kd.C_drewN ?_ _) | (with_reducible refine Kd.C_drew ?_))); (case q6 => exact HC1.out); (case q7 => repeat (first | exact (Kd.C_below HR2.out (Z.bs HB.out GE30.out)) | (with_reducible refine Kd.C_alloc ?_ _) | (with_reducible refine Kd.C_drewN ?_ _) | (with_reducible refine Kd.C_drew ?_))); (case q8 => exact HC2.out); rintro e w17 ⟨rfl, hb⟩; replace BK30 := Z.bb BK30 hb; replace HB := Z.st (Z.bs HB.out GE30.out) hb; (try clear hb); (try clear hb2); (try clear hk); (try clear hi)))
    go_ret
    exact ⟨by first | rfl | (simp [errW_none, errW_some] <;> rfl) | (simp [*, errW_none, errW_some] <;> rfl), Z.bs HB.out GE30.out⟩
   replace c10 := Bool.eq_false_iff.mpr c10
   subst c10
   rw [if_neg (show ¬ (false = true) by decide)] at H
   obtain rfl := Option.some.inj H
   go_enter Try.func22, Try.ntmps22
   go_wp2_with (first | ((with_reducible refine gate_dst (N := 4) rfl ?_); refine Z.bx #[.int .i64 a0_0, .slice A0_1 l0_1.length c0_1, .slice A0_2 l0_2.length c0_2] 28 HB ?_; clear HB; intro gb30 w18 BK30 GE30 HB hg hb; have GW30 := GE30; clear hb hg; have hcz19 := Z.c3 BK30.out) | ((with_reducible refine gate_callee (f := 62) rfl ?_); refine goesL_ (some 11) rfl rfl Try.func62 (by kernel_rfl) rfl #[.agg #[.int .i64 a0_0, .slice A0_1 l0_1.length c0_1, .slice A0_2 l0_2.length c0_2], .slice A1 l1.length c1] rfl Z.ar ?_; (with_reducible refine (impl_isState.calls k a0_0 _ _ l0_1 _ _ l0_2 _ _ l1 true _ ?q1 ?q2 ?q3 ?q4 ?q5 ?q6 A5.out).mono ?_); (case q1 => exact Z.cc HR0_1 HB); (case q2 => exact HC0_1.out); (case q3 => exact Z.cc HR0_2 HB); (case q4 => exact HC0_2.out); (case q5 => exact Z.cc HR1 HB); (case q6 => exact HC1.out); rintro e w20 ⟨rfl, hb⟩; refine ⟨_, rfl, ?_⟩; replace BK30 := Z.bb BK30 hb; replace HB := Z.st (Z.bs HB.out GE30.out) hb; (try clear hb); (try clear hb2); (try clear hk); (try clear hi)) | (go_at_call 67; (with_reducible refine (impl_areBad.calls _ _ l2 true _ ?q1 ?q2 A7.out).mono ?_); (case q1 => exact Z.cc HR2 HB); (case q2 => exact HC2.out); rintro e w21 ⟨rfl, hb⟩; replace BK30 := Z.bb BK30 hb; replace HB := Z.st (Z.bs HB.out GE30.out) hb; (try clear hb); (try clear hb2); (try clear hk); (try clear hi); have hcz22 := Z.c3 BK30.out) | (go_at_call 63; (with_reducible refine (impl_isCrowd.calls a0_0 a3 false _ A9.out).mono ?_); rintro e w' ⟨rfl, ⟨nd, rfl⟩⟩))
   go_ret
   exact ⟨by first | rfl | (simp [errW_none, errW_some] <;> rfl) | (simp [*, errW_none, errW_some] <;> rfl), Z.bs HB.out GE30.out⟩
  replace c8 := Bool.eq_false_iff.mpr c8
  subst c8
  rw [if_neg (show ¬ (false = true) by decide)] at H
  obtain rfl := Option.some.inj H
  go_enter Try.func22, Try.ntmps22
  go_wp2_with (first | ((with_reducible refine gate_dst (N := 4) rfl ?_); refine Z.bx #[.int .i64 a0_0, .slice A0_1 l0_1.length c0_1, .slice A0_2 l0_2.length c0_2] 28 HB ?_; clear HB; intro gb30 w23 BK30 GE30 HB hg hb; have GW30 := GE30; clear hb hg; have hcz24 := Z.c3 BK30.out) | ((with_reducible refine gate_callee (f := 62) rfl ?_); refine goesL_ (some 11) rfl rfl Try.func62 (by kernel_rfl) rfl #[.agg #[.int .i64 a0_0, .slice A0_1 l0_1.length c0_1, .slice A0_2 l0_2.length c0_2], .slice A1 l1.length c1] rfl Z.ar ?_; (with_reducible refine (impl_isState.calls k a0_0 _ _ l0_1 _ _ l0_2 _ _ l1 true _ ?q1 ?q2 ?q3 ?q4 ?q5 ?q6 A5.out).mono ?_); (case q1 => exact Z.cc HR0_1 HB); (case q2 => exact HC0_1.out); (case q3 => exact Z.cc HR0_2 HB); (case q4 => exact HC0_2.out); (case q5 => exact Z.cc HR1 HB); (case q6 => exact HC1.out); rintro e w25 ⟨rfl, hb⟩; refine ⟨_, rfl, ?_⟩; replace BK30 := Z.bb BK30 hb; replace HB := Z.st (Z.bs HB.out GE30.out) hb; (try clear hb); (try clear hb2); (try clear hk); (try clear hi)) | (go_at_call 67; (with_reducible refine (impl_areBad.calls _ _ l2 false _ ?q1 ?q2 A7.out).mono ?_); (case q1 => exact Z.cc HR2 HB); (case q2 => exact HC2.out); rintro e w26 ⟨rfl, hb⟩; replace BK30 := Z.bb BK30 hb; replace HB := Z.st (Z.bs HB.out GE30.out) hb; (try clear hb); (try clear hb2); (try clear hk); (try clear hi)))
  go_ret
  exact ⟨by first | rfl | (simp [errW_none, errW_some] <;> rfl) | (simp [*, errW_none, errW_some] <;> rfl), Z.bs HB.out GE30.out⟩
 replace c6 := Bool.eq_false_iff.mpr c6
 subst c6
 rw [if_neg (show ¬ (false = true) by decide)] at H
 obtain rfl := Option.some.inj H
 go_enter Try.func22, Try.ntmps22
 go_wp2_with (first | ((with_reducible refine gate_dst (N := 4) rfl ?_); refine Z.bx #[.int .i64 a0_0, .slice A0_1 l0_1.length c0_1, .slice A0_2 l0_2.length c0_2] 28 HB ?_; clear HB; intro gb30 w27 BK30 GE30 HB hg hb; have GW30 := GE30; clear hb hg; have hcz28 := Z.c3 BK30.out) | ((with_reducible refine gate_callee (f := 62) rfl ?_); refine goesL_ (some 11) rfl rfl Try.func62 (by kernel_rfl) rfl #[.agg #[.int .i64 a0_0, .slice A0_1 l0_1.length c0_1, .slice A0_2 l0_2.length c0_2], .slice A1 l1.length c1] rfl Z.ar ?_; (with_reducible refine (impl_isState.calls k a0_0 _ _ l0_1 _ _ l0_2 _ _ l1 false _ ?q1 ?q2 ?q3 ?q4 ?q5 ?q6 A5.out).mono ?_); (case q1 => exact Z.cc HR0_1 HB); (case q2 => exact HC0_1.out); (case q3 => exact Z.cc HR0_2 HB); (case q4 => exact HC0_2.out); (case q5 => exact Z.cc HR1 HB); (case q6 => exact HC1.out); rintro e w29 ⟨rfl, hb⟩; refine ⟨_, rfl, ?_⟩; replace BK30 := Z.bb BK30 hb; replace HB := Z.st (Z.bs HB.out GE30.out) hb; (try clear hb); (try clear hb2); (try clear hk); (try clear hi)))
 go_ret
 exact ⟨by first | rfl | (simp [errW_none, errW_some] <;> rfl) | (simp [*, errW_none, errW_some] <;> rfl), Z.bs HB.out GE30.out⟩

end Go.Proofs.Ytkogboechfieeaa.PAll
