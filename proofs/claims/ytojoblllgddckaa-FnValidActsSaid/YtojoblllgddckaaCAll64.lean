/- Walks of functions that laws of this seat reach, in the form of the print. -/
import Derived.Test.YtojoblllgddckaaCAll0
import Derived.Test.YtojoblllgddckaaCAll1
import Derived.Test.YtojoblllgddckaaCAll9
import Derived.Test.YtojoblllgddckaaCAll22
import Derived.Test.YtojoblllgddckaaCAll26
import Derived.Test.YtojoblllgddckaaCAll27
import Derived.Test.YtojoblllgddckaaCAll32
import Derived.Test.YtojoblllgddckaaCAll33
import Derived.Test.YtojoblllgddckaaCAll54
import Derived.Test.YtojoblllgddckaaZ
-- PRINTED
namespace Go.Proofs.Ytojoblllgddckaa.PAll
open Go.RowKit Go.Proofs.YtojoblllgddckaaW.PrintWords Go.Proofs.YtojoblllgddckaaW.PrintLast Go.Proofs.YtojoblllgddckaaW.PrintMore
attribute [local go_sem] max2_int min2_int max_two min_two max_three min_three max_four min_four
set_option linter.unusedVariables false
set_option linter.unusedSimpArgs false

/-! ### laws_FnValidActs: function 10 -/
mutual
def laws_FnValidActs.j0 : Nat → List Int → Option (Bool)
 | 0, _ => none
 | k + 1, x0 => (spec_DrawValidActs.f k x0).bind fun bt1035 => ((impl_ValidActs.f k bt1035.1 bt1035.2.1 bt1035.2.2.1 bt1035.2.2.2.1 bt1035.2.2.2.2).bind fun t1049 => ((spec_ValidActs.f k bt1035.1 bt1035.2.1 bt1035.2.2.1 bt1035.2.2.2.1 bt1035.2.2.2.2).bind fun t1052 => ((laws_sameActs.f k t1049 t1052).bind fun t1055 => (if t1055 = true then (laws_FnValidActs.j1 k bt1035.2.2.2.1 bt1035.2.2.2.2 t1049 bt1035.1 bt1035.2.1 bt1035.2.2.1) else (some false)))))
def laws_FnValidActs.j1 : Nat → List Int → List (S48) → List (S48) → Int → List Int → List (List (S91)) → Option (Bool)
 | 0, _, _, _, _, _, _ => none
 | k + 1, x4, x5, x6, x1049000, x1049001, x1049002 => (impl_AfterActs.f k x1049000 x1049001 x1049002 x4 x5).bind fun bt1056 => (if bt1056.2 < 0 then (if (x6.length : Int) = 0 then ((laws_alive.f).bind fun t1060 => (some t1060)) else (some false)) else (laws_FnValidActs.j2 k x4 x6 bt1056.1 bt1056.2 x1049000 x1049001 x1049002))
def laws_FnValidActs.j2 : Nat → List Int → List (S48) → List Int → Int → Int → List Int → List (List (S91)) → Option (Bool)
 | 0, _, _, _, _, _, _, _ => none
 | k + 1, x4, x6, x7, x8, x1049000, x1049001, x1049002 => (impl_AfterActs.f k x1049000 x1049001 x1049002 x4 x6).bind fun bt1061 => ((impl_FirstVoid.f k x1049000 x1049001 x1049002 x4 x6).bind fun t1065 => (if t1065 = (-1) then ((laws_sameInts.f k x7 bt1061.1).bind fun t1066 => (if t1066 = true then (if bt1061.2 = x8 then (if (x6.length : Int) = x8 then ((impl_ValidActs.f k x1049000 x1049001 x1049002 x4 x6).bind fun t1067 => ((laws_sameActs.f k t1067 x6).bind fun t1070 => (some t1070))) else (some false)) else (some false)) else (some false))) else (some false)))
end
def laws_FnValidActs.f (k : Nat) (l0 : List Int) : Option (Bool) := if (l0.length : Int) > 1048576 then (some true) else (laws_FnValidActs.j0 k l0)
set_option maxHeartbeats 8000000 in
set_option maxRecDepth 100000 in
theorem laws_FnValidActs.calls (k : Nat) (A0 : Option Addr) (c0 : Nat) (l0 : List Int) (r : Bool) (w : World) (hr0 : Kd.C (Kd.int .u8) w A0 l0.length l0) (hc0 : l0.length ≤ c0) (h : laws_FnValidActs.f k l0 = some r) :
  Calls Try.prog 10 #[.slice A0 l0.length c0] w fun e w' => e = .returned (.bool r) ∧ Below w.heap.size w w' := by
 have hu46 := Try.underlying46
 have HR0 := Z.k hr0
 have HC0 := Z.k hc0
 clear hr0 hc0
 have HB := Z.k (Below.refl w.heap.size w)
 have H := h
 clear h
 unfold laws_FnValidActs.f at H
 have HC2 := Z.k H
 clear H
 go_enter Try.func10, Try.ntmps10
 go_upto_if 13 with (fail)
 go_cut [] (fun wc => ∃ (kq : Nat), Aside0 (laws_FnValidActs.j0 kq l0 = some r) ∧ Aside0 (kq ≤ k) ∧ Aside0 (Below w.heap.size w wc))
 case first =>
  have H := HC2.out
  clear HC2
  by_cases c3 : (l0.length : Int) > 1048576
  ·rw [if_pos c3] at H
   have c3b0 : decide (1048576 < (l0.length : Int)) = true := decide_eq_true c3
   have c3b1 : decide (1048576 < l0.length) = true := decide_eq_true (by omega)
   clear c3
   (rw [c3b0])
   obtain rfl := Option.some.inj H
   go_wp2
   go_ret
   exact ⟨by rfl, Z.bl HB.out⟩
  ·rw [if_neg c3] at H
   have c3b0 : decide (1048576 < (l0.length : Int)) = false := decide_eq_false c3
   have c3b1 : decide (1048576 < l0.length) = false := decide_eq_false (by omega)
   clear c3
   (rw [c3b0])
   have H' := Z.k H
   clear H
   go_wp2
   go_meet
   case rel => exact ⟨_, H', ⟨by omega⟩, ⟨Z.bl HB.out⟩⟩
 case rest =>
  clear HC2
  obtain ⟨kq, HA, HJ1, HB⟩ := hcut
  cases kq with
  | zero => exact absurd HA.out (by simp [laws_FnValidActs.j0])
  | succ kj1 =>
   have H := HA.out
   clear HA
   simp only [laws_FnValidActs.j0] at H
   replace H := Option.bind_eq_some_iff.mp H
   obtain ⟨⟨t1035, t1036, t1039, t1042, t1045⟩, A40, H⟩ := H
   try dsimp only at H
   have A4 := Z.k A40
   clear A40
   replace H := Option.bind_eq_some_iff.mp H
   obtain ⟨t1049, A50, H⟩ := H
   have A5 := Z.k A50
   clear A50
   replace H := Option.bind_eq_some_iff.mp H
   obtain ⟨t1052, A60, H⟩ := H
   have A6 := Z.k A60
   clear A60
   replace H := Option.bind_eq_some_iff.mp H
   obtain ⟨t1055, A70, H⟩ := H
   have A7 := Z.k A70
   clear A70
   have HC8 := Z.k H
   clear H
   go_upto_if 30 with (first | ((with_reducible refine gate_callee (f := 38) rfl ?_); refine goesL_ (some 16) rfl rfl Try.func38 (by kernel_rfl) rfl #[.slice A0 l0.length c0] rfl Z.ar ?_; (with_reducible refine (spec_DrawValidActs.calls kj1 _ _ l0 t1035 t1036 t1039 t1042 t1045 _ ?q1 ?q2 A4.out).mono ?_); (case q1 => exact Z.cc HR0 HB); (case q2 => exact HC0.out); rintro e w9 ⟨v1037, v1040, v1043, v1046, rfl, ho0, ho1, ho2, ho3, hb⟩; refine ⟨_, rfl, ?_⟩; have HO1038 := Z.k (Kd.R_lower ho0 (below_size (Z.bl HB.out))); have HO1041 := Z.k (Kd.R_lower ho1 (below_size (Z.bl HB.out))); have HO1044 := Z.k (Kd.R_lower ho2 (below_size (Z.bl HB.out))); have HO1047 := Z.k (Kd.R_lower ho3 (below_size (Z.bl HB.out))); replace HB := Z.st (Z.bl HB.out) hb; (try clear hb); (try clear ho0); (try clear ho1); (try clear ho2); (try clear ho3)) | ((with_reducible refine gate_dst (N := 3) rfl ?_); (try (refine gate_guard (by rfl) ?_; dsimp only)); refine Z.bx #[.int .i64 0, .slice none 0 0, .slice none 0 0] 46 HB ?_; clear HB; intro gb1048 w10 BK1048 GE1048 HB hg hb; have GW1048 := GE1048; replace HO1038 := Z.k (Kd.R_below HO1038.out hb); replace HO1041 := Z.k (Kd.R_below HO1041.out hb); replace HO1044 := Z.k (Kd.R_below HO1044.out hb); replace HO1047 := Z.k (Kd.R_below HO1047.out hb); clear hb hg; have hcz11 := Z.c3 BK1048.out; obtain ⟨Ao12, co12, eo12⟩ := Kd.R_slice HO1038.out; subst eo12; obtain ⟨Ao13, co13, eo13⟩ := Kd.R_slice HO1041.out; subst eo13; obtain ⟨Ao14, co14, eo14⟩ := Kd.R_slice HO1044.out; subst eo14; obtain ⟨Ao15, co15, eo15⟩ := Kd.R_slice HO1047.out; subst eo15) | ((with_reducible refine gate_callee (f := 39) rfl ?_); refine goesL_ (some 23) rfl rfl Try.func39 (by kernel_rfl) rfl #[.agg #[.int .i64 t1035, .slice Ao12 t1036.length co12, .slice Ao13 t1039.length co13], .slice Ao14 t1042.length co14, .slice Ao15 t1045.length co15] rfl Z.ar ?_; (with_reducible refine (impl_ValidActs.calls kj1 t1035 _ _ t1036 _ _ t1039 _ _ t1042 _ _ t1045 t1049 _ ?q1 ?q2 ?q3 ?q4 ?q5 ?q6 ?q7 ?q8 A5.out).mono ?_); (case q1 => refine (Kd.R_reads' (e := 3) (base := w.heap.size) (ok := fun k_ => some k_ ≠ (.slice Ao14 t1042.length co14 : Value).ownBlock) (n := t1036.length) (c := co12) ?_).2.2; exact (Kd.R_mono (Kd.R_far (p := ⟨gb1048, 2, none⟩) (Kd.R_far (p := ⟨gb1048, 1, none⟩) (Kd.R_far (p := ⟨gb1048, 0, none⟩) (Kd.R_types HO1038.out BK1048.out (by decide)) (fun _ hk => hk.2) (.int .i64 t1035)) (fun _ hk => hk.2) (.slice Ao12 t1036.length co12)) (fun _ hk => hk.2) (.slice Ao13 t1039.length co13)) (fun _ h_ => h_.1))); (case q2 => exact (Kd.R_reads' HO1038.out).2.1); (case q3 => refine (Kd.R_reads' (e := 56) (base := w.heap.size) (ok := fun k_ => True) (n := t1039.length) (c := co13) ?_).2.2; exact (Kd.R_mono (Kd.R_far (p := ⟨gb1048, 2, none⟩) (Kd.R_far (p := ⟨gb1048, 1, none⟩) (Kd.R_far (p := ⟨gb1048, 0, none⟩) (Kd.R_types HO1041.out BK1048.out (by decide)) (fun _ hk => hk.2) (.int .i64 t1035)) (fun _ hk => hk.2) (.slice Ao12 t1036.length co12)) (fun _ hk => hk.2) (.slice Ao13 t1039.length co13)) (fun _ h_ => h_.1))); (case q4 => exact (Kd.R_reads' HO1041.out).2.1); (case q5 => refine (Kd.R_reads' (e := 3) (base := w.heap.size) (ok := fun k_ => some k_ ≠ (.slice Ao12 t1036.length co12 : Value).ownBlock) (n := t1042.length) (c := co14) ?_).2.2; exact (Kd.R_mono (Kd.R_far (p := ⟨gb1048, 2, none⟩) (Kd.R_far (p := ⟨gb1048, 1, none⟩) (Kd.R_far (p := ⟨gb1048, 0, none⟩) (Kd.R_types HO1044.out BK1048.out (by decide)) (fun _ hk => hk.2) (.int .i64 t1035)) (fun _ hk => hk.2) (.slice Ao12 t1036.length co12)) (fun _ hk => hk.2) (.slice Ao13 t1039.length co13)) (fun _ h_ => h_.1))); (case q6 => exact (Kd.R_reads' HO1044.out).2.1); (case q7 => refine (Kd.R_reads' (e := 48) (base := w.heap.size) (ok := fun k_ => True) (n := t1045.length) (c := co15) ?_).2.2; exact (Kd.R_mono (Kd.R_far (p := ⟨gb1048, 2, none⟩) (Kd.R_far (p := ⟨gb1048, 1, none⟩) (Kd.R_far (p := ⟨gb1048, 0, none⟩) (Kd.R_types HO1047.out BK1048.out (by decide)) (fun _ hk => hk.2) (.int .i64 t1035)) (fun _ hk => hk.2) (.slice Ao12 t1036.length co12)) (fun _ hk => hk.2) (.slice Ao13 t1039.length co13)) (fun _ h_ => h_.1))); (case q8 => exact (Kd.R_reads' HO1047.out).2.1); rintro e w16 ⟨v1050, rfl, ho0, hb⟩; refine ⟨_, rfl, ?_⟩; replace HO1038 := Z.k (Kd.R_below (Kd.R_mono (Kd.R_far (p := ⟨gb1048, 2, none⟩) (Kd.R_far (p := ⟨gb1048, 1, none⟩) (Kd.R_far (p := ⟨gb1048, 0, none⟩) (Kd.R_types HO1038.out BK1048.out (by decide)) (fun _ hk => hk.2) (.int .i64 t1035)) (fun _ hk => hk.2) (.slice Ao12 t1036.length co12)) (fun _ hk => hk.2) (.slice Ao13 t1039.length co13)) (fun _ h_ => h_.1)) hb); replace HO1041 := Z.k (Kd.R_below (Kd.R_mono (Kd.R_far (p := ⟨gb1048, 2, none⟩) (Kd.R_far (p := ⟨gb1048, 1, none⟩) (Kd.R_far (p := ⟨gb1048, 0, none⟩) (Kd.R_types HO1041.out BK1048.out (by decide)) (fun _ hk => hk.2) (.int .i64 t1035)) (fun _ hk => hk.2) (.slice Ao12 t1036.length co12)) (fun _ hk => hk.2) (.slice Ao13 t1039.length co13)) (fun _ h_ => h_.1)) hb); replace HO1044 := Z.k (Kd.R_below (Kd.R_mono (Kd.R_far (p := ⟨gb1048, 2, none⟩) (Kd.R_far (p := ⟨gb1048, 1, none⟩) (Kd.R_far (p := ⟨gb1048, 0, none⟩) (Kd.R_types HO1044.out BK1048.out (by decide)) (fun _ hk => hk.2) (.int .i64 t1035)) (fun _ hk => hk.2) (.slice Ao12 t1036.length co12)) (fun _ hk => hk.2) (.slice Ao13 t1039.length co13)) (fun _ h_ => h_.1)) hb); have HO1051 := Z.k (Kd.R_lower (Kd.R_new' ho0 (Kd.R_lt (Kd.R_mono (Kd.R_far (p := ⟨gb1048, 2, none⟩) (Kd.R_far (p := ⟨gb1048, 1, none⟩) (Kd.R_far (p := ⟨gb1048, 0, none⟩) (Kd.R_types HO1047.out BK1048.out (by decide)) (fun _ hk => hk.2) (.int .i64 t1035)) (fun _ hk => hk.2) (.slice Ao12 t1036.length co12)) (fun _ hk => hk.2) (.slice Ao13 t1039.length co13)) (fun _ h_ => h_.1)))) (below_size (Z.bs HB.out GE1048.out))); replace HO1047 := Z.k (Kd.R_elder' (Kd.R_mono (Kd.R_far (p := ⟨gb1048, 2, none⟩) (Kd.R_far (p := ⟨gb1048, 1, none⟩) (Kd.R_far (p := ⟨gb1048, 0, none⟩) (Kd.R_types HO1047.out BK1048.out (by decide)) (fun _ hk => hk.2) (.int .i64 t1035)) (fun _ hk => hk.2) (.slice Ao12 t1036.length co12)) (fun _ hk => hk.2) (.slice Ao13 t1039.length co13)) (fun _ h_ => h_.1)) (Kd.R_base ho0) hb); replace BK1048 := Z.k (blk_below (g := gb1048) (o := .cells #[.int .i64 t1035, .slice Ao12 t1036.length co12, .slice Ao13 t1039.length co13] 46 (0, 0)) (by refine blk_put (cs := #[.int .i64 t1035, .slice Ao12 t1036.length co12, .slice none 0 0]) ?_ 2 _ rfl; refine blk_put (cs := #[.int .i64 t1035, .slice none 0 0, .slice none 0 0]) ?_ 1 _ rfl; refine blk_put (cs := #[.int .i64 0, .slice none 0 0, .slice none 0 0]) ?_ 0 _ rfl; exact BK1048.out) hb); replace HB := Z.st (Z.bs HB.out GE1048.out) hb; (try clear hb); (try clear ho0); have hcz17 := Z.c3 BK1048.out) | ((with_reducible refine gate_callee (f := 41) rfl ?_); refine goesL_ (some 28) rfl rfl Try.func41 (by kernel_rfl) rfl #[.agg #[.int .i64 t1035, .slice Ao12 t1036.length co12, .slice Ao13 t1039.length co13], .slice Ao14 t1042.length co14, .slice Ao15 t1045.length co15] rfl Z.ar ?_; (with_reducible refine (spec_ValidActs.calls kj1 t1035 _ _ t1036 _ _ t1039 _ _ t1042 _ _ t1045 t1052 _ ?q1 ?q2 ?q3 ?q4 ?q5 ?q6 ?q7 ?q8 A6.out).mono ?_); (case q1 => exact (Kd.R_reads' HO1038.out).2.2); (case q2 => exact (Kd.R_reads' HO1038.out).2.1); (case q3 => exact (Kd.R_reads' HO1041.out).2.2); (case q4 => exact (Kd.R_reads' HO1041.out).2.1); (case q5 => exact (Kd.R_reads' HO1044.out).2.2); (case q6 => exact (Kd.R_reads' HO1044.out).2.1); (case q7 => exact (Kd.R_reads' HO1047.out).2.2); (case q8 => exact (Kd.R_reads' HO1047.out).2.1); rintro e w18 ⟨v1053, rfl, ho0, hb⟩; refine ⟨_, rfl, ?_⟩; replace HO1038 := Z.k (Kd.R_below HO1038.out hb); replace HO1041 := Z.k (Kd.R_below HO1041.out hb); replace HO1044 := Z.k (Kd.R_below HO1044.out hb); have HO1054 := Z.k (Kd.R_lower (Kd.R_new' (Kd.R_new' ho0 (Kd.R_lt HO1047.out)) (Kd.R_lt HO1051.out)) (below_size (Z.bs HB.out GE1048.out))); replace HO1047 := Z.k (Kd.R_elder' HO1047.out (Kd.R_base ho0) hb); replace HO1051 := Z.k (Kd.R_elder' HO1051.out (Kd.R_base ho0) hb); replace BK1048 := Z.bb BK1048 hb; replace HB := Z.st (Z.bs HB.out GE1048.out) hb; (try clear hb); (try clear ho0); obtain ⟨Ao19, co19, eo19⟩ := Kd.R_slice HO1051.out; subst eo19; obtain ⟨Ao20, co20, eo20⟩ := Kd.R_slice HO1054.out; subst eo20) | ((with_reducible refine gate_callee (f := 40) rfl ?_); refine goesL_ (some 29) rfl rfl Try.func40 (by kernel_rfl) rfl #[.slice Ao19 t1049.length co19, .slice Ao20 t1052.length co20] rfl Z.ar ?_; (with_reducible refine (laws_sameActs.calls kj1 _ _ t1049 _ _ t1052 t1055 _ ?q1 ?q2 ?q3 ?q4 A7.out).mono ?_); (case q1 => exact (Kd.R_reads' HO1051.out).2.2); (case q2 => exact (Kd.R_reads' HO1051.out).2.1); (case q3 => exact (Kd.R_reads' HO1054.out).2.2); (case q4 => exact (Kd.R_reads' HO1054.out).2.1); rintro e w' ⟨rfl, ⟨nd, rfl⟩⟩; refine ⟨_, rfl, ?_⟩))
   go_cut [] (fun wc => ∃ (kq : Nat), Aside0 (laws_FnValidActs.j1 kq t1042 t1045 t1049 t1035 t1036 t1039 = some r) ∧ Aside0 (kq ≤ kj1) ∧ Aside0 (Kd.R (Kd.int .i64) 3 wc w.heap.size (fun k_ => some k_ ≠ ((.slice Ao12 t1036.length co12) : Value).ownBlock) (.slice Ao14 t1042.length co14) t1042) ∧ Aside0 (Kd.R k48 48 wc w.heap.size (fun k_ => some k_ ≠ ((.slice Ao19 t1049.length co19) : Value).ownBlock) (.slice Ao15 t1045.length co15) t1045) ∧ Aside0 (Kd.R k48 48 wc w.heap.size (fun k_ => some k_ ≠ ((.slice Ao15 t1045.length co15) : Value).ownBlock) (.slice Ao19 t1049.length co19) t1049) ∧ Aside0 (Kd.R (Kd.int .i64) 3 wc w.heap.size (fun k_ => some k_ ≠ ((.slice Ao14 t1042.length co14) : Value).ownBlock) (.slice Ao12 t1036.length co12) t1036) ∧ Aside0 (Kd.R (Kd.slice 91 k91) 56 wc w.heap.size (fun _ => True) (.slice Ao13 t1039.length co13) t1039) ∧ Aside0 (wc.heap[gb1048]? = some (.cells #[.int .i64 t1035, (.slice Ao12 t1036.length co12), (.slice Ao13 t1039.length co13)] 46 (0, 0))) ∧ Aside0 (Below w.heap.size w wc))
   case first =>
    have H := HC8.out
    clear HC8
    by_cases c21 : t1055 = true
    ·subst c21
     rw [if_pos rfl] at H
     have H' := Z.k H
     clear H
     go_wp2
     go_meet
     case rel => exact ⟨_, H', ⟨by have := HJ1.out; omega⟩, ⟨by (with_reducible repeat (apply Kd.R_drewN)); exact HO1044.out⟩, ⟨by (with_reducible repeat (apply Kd.R_drewN)); exact Kd.R_mono HO1047.out (fun _ hk => hk.1.2)⟩, ⟨by (with_reducible repeat (apply Kd.R_drewN)); exact Kd.R_mono HO1051.out (fun _ hk => hk.1.2)⟩, ⟨by (with_reducible repeat (apply Kd.R_drewN)); exact HO1038.out⟩, ⟨by (with_reducible repeat (apply Kd.R_drewN)); exact HO1041.out⟩, ⟨by (with_reducible repeat (refine blk_drewN ?_ _)); exact BK1048.out⟩, ⟨Z.bs HB.out GE1048.out⟩⟩
    ·replace c21 := Bool.eq_false_iff.mpr c21
     subst c21
     rw [if_neg (show ¬ (false = true) by decide)] at H
     obtain rfl := Option.some.inj H
     go_wp2
     go_ret
     exact ⟨by rfl, Z.bs HB.out GE1048.out⟩
   case rest =>
    clear HC8
    obtain ⟨kq, HA, HJ7, HO_4, HO_5, HO_6, HO_1049001, HO_1049002, BK1048, HB⟩ := hcut
    cases kq with
    | zero => exact absurd HA.out (by simp [laws_FnValidActs.j1])
    | succ kj7 =>
     have H := HA.out
     clear HA
     simp only [laws_FnValidActs.j1] at H
     replace H := Option.bind_eq_some_iff.mp H
     obtain ⟨⟨t1056, t1059⟩, A220, H⟩ := H
     try dsimp only at H
     have A22 := Z.k A220
     clear A220
     have HC23 := Z.k H
     clear H
     have hcz24 := Z.c3 BK1048.out
     go_upto_if 39 with (((with_reducible refine gate_callee (f := 30) rfl ?_); refine goesL_ (some 35) rfl rfl Try.func30 (by kernel_rfl) rfl #[.agg #[.int .i64 t1035, .slice Ao12 t1036.length co12, .slice Ao13 t1039.length co13], .slice Ao14 t1042.length co14, .slice Ao15 t1045.length co15] rfl Z.ar ?_; (with_reducible refine (impl_AfterActs.calls kj7 t1035 _ _ t1036 _ _ t1039 _ _ t1042 _ _ t1045 t1056 t1059 _ ?q1 ?q2 ?q3 ?q4 ?q5 ?q6 ?q7 ?q8 A22.out).mono ?_); (case q1 => exact (Kd.R_reads' HO_1049001.out).2.2); (case q2 => exact (Kd.R_reads' HO_1049001.out).2.1); (case q3 => exact (Kd.R_reads' HO_1049002.out).2.2); (case q4 => exact (Kd.R_reads' HO_1049002.out).2.1); (case q5 => exact (Kd.R_reads' HO_4.out).2.2); (case q6 => exact (Kd.R_reads' HO_4.out).2.1); (case q7 => exact (Kd.R_reads' HO_5.out).2.2); (case q8 => exact (Kd.R_reads' HO_5.out).2.1); rintro e w25 ⟨v1057, rfl, ho0, hb⟩; refine ⟨_, rfl, ?_⟩; replace HO_5 := Z.k (Kd.R_below HO_5.out hb); replace HO_6 := Z.k (Kd.R_below HO_6.out hb); replace HO_1049002 := Z.k (Kd.R_below HO_1049002.out hb); have HO1058 := Z.k (Kd.R_lower (Kd.R_new' (Kd.R_new' ho0 (Kd.R_lt HO_4.out)) (Kd.R_lt HO_1049001.out)) (below_size (Z.bs HB.out GE1048.out))); replace HO_4 := Z.k (Kd.R_elder' HO_4.out (Kd.R_base ho0) hb); replace HO_1049001 := Z.k (Kd.R_elder' HO_1049001.out (Kd.R_base ho0) hb); replace BK1048 := Z.bb BK1048 hb; replace HB := Z.st (Z.bs HB.out GE1048.out) hb; (try clear hb); (try clear ho0)))
     go_cut [] (fun wc => ∃ (kq : Nat), Aside0 (laws_FnValidActs.j2 kq t1042 t1049 t1056 t1059 t1035 t1036 t1039 = some r) ∧ Aside0 (kq ≤ kj7) ∧ Aside0 (Kd.R (Kd.int .i64) 3 wc w.heap.size (fun k_ => some k_ ≠ (v1057 : Value).ownBlock ∧ some k_ ≠ ((.slice Ao12 t1036.length co12) : Value).ownBlock) (.slice Ao14 t1042.length co14) t1042) ∧ Aside0 (Kd.R k48 48 wc w.heap.size (fun _ => True) (.slice Ao19 t1049.length co19) t1049) ∧ Aside0 (Kd.R (Kd.int .i64) 3 wc w.heap.size (fun k_ => some k_ ≠ ((.slice Ao14 t1042.length co14) : Value).ownBlock ∧ some k_ ≠ ((.slice Ao12 t1036.length co12) : Value).ownBlock) v1057 t1056) ∧ Aside0 (Kd.R (Kd.int .i64) 3 wc w.heap.size (fun k_ => some k_ ≠ ((.slice Ao14 t1042.length co14) : Value).ownBlock ∧ some k_ ≠ (v1057 : Value).ownBlock) (.slice Ao12 t1036.length co12) t1036) ∧ Aside0 (Kd.R (Kd.slice 91 k91) 56 wc w.heap.size (fun _ => True) (.slice Ao13 t1039.length co13) t1039) ∧ Aside0 (wc.heap[gb1048]? = some (.cells #[.int .i64 t1035, (.slice Ao12 t1036.length co12), (.slice Ao13 t1039.length co13)] 46 (0, 0))) ∧ Aside0 (Below w.heap.size w wc))
     case first =>
      have H := HC23.out
      clear HC23
      by_cases c26 : t1059 < 0
      ·rw [if_pos c26] at H
       have c26b0 := decide_eq_true c26
       clear c26
       (rw [c26b0])
       by_cases c27 : (t1049.length : Int) = 0
       ·rw [if_pos c27] at H
        have c27b0 : ((t1049.length : Int) == 0) = true := beq_iff_eq.mpr c27
        have c27b1 : ((t1049.length : Int) != 0) = false := bne_eq_false_iff_eq.mpr c27
        clear c27
        replace H := Option.bind_eq_some_iff.mp H
        obtain ⟨t1060, A280, H⟩ := H
        have A28 := Z.k A280
        clear A280
        obtain rfl := Option.some.inj H
        go_wp2_with ((go_at_call 15; (with_reducible refine (laws_alive.calls  t1060 _ A28.out).mono ?_); rintro e w' ⟨rfl, ⟨nd, rfl⟩⟩))
        go_ret
        exact ⟨by rfl, Z.bs HB.out GE1048.out⟩
       ·rw [if_neg c27] at H
        have c27b0 : ((t1049.length : Int) == 0) = false := beq_eq_false_iff_ne.mpr c27
        have c27b1 : ((t1049.length : Int) != 0) = true := bne_iff_ne.mpr c27
        have c27b2 : ¬ (t1049 = []) := fun h_ => c27 (by rw [h_]; rfl)
        obtain rfl := Option.some.inj H
        go_wp2
        go_ret
        exact ⟨by rfl, Z.bs HB.out GE1048.out⟩
      ·rw [if_neg c26] at H
       have c26b0 := decide_eq_false c26
       clear c26
       (rw [c26b0])
       have H' := Z.k H
       clear H
       go_wp2
       go_meet
       case rel => exact ⟨_, H', ⟨by have := HJ1.out; have := HJ7.out; omega⟩, ⟨by exact Kd.R_mono HO_4.out (fun _ hk => ⟨hk.2, hk.1⟩)⟩, ⟨by exact Kd.R_mono HO_6.out (fun _ hk => trivial)⟩, ⟨by exact Kd.R_mono HO1058.out (fun _ hk => ⟨hk.1.2, hk.2⟩)⟩, ⟨by exact HO_1049001.out⟩, ⟨by exact HO_1049002.out⟩, ⟨by exact BK1048.out⟩, ⟨Z.bs HB.out GE1048.out⟩⟩
     case rest =>
      clear HC23
      obtain ⟨kq, HA, HJ22, HO_4, HO_6, HO_7, HO_1049001, HO_1049002, BK1048, HB⟩ := hcut
      cases kq with
      | zero => exact absurd HA.out (by simp [laws_FnValidActs.j2])
      | succ kj22 =>
       have H := HA.out
       clear HA
       simp only [laws_FnValidActs.j2] at H
       replace H := Option.bind_eq_some_iff.mp H
       obtain ⟨⟨t1061, t1064⟩, A290, H⟩ := H
       try dsimp only at H
       have A29 := Z.k A290
       clear A290
       replace H := Option.bind_eq_some_iff.mp H
       obtain ⟨t1065, A300, H⟩ := H
       have A30 := Z.k A300
       clear A300
       by_cases c31 : t1065 = (-1)
       ·rw [if_pos c31] at H
        have c31b0 : (t1065 == (-1)) = true := beq_iff_eq.mpr c31
        have c31b1 : (t1065 != (-1)) = false := bne_eq_false_iff_eq.mpr c31
        clear c31
        replace H := Option.bind_eq_some_iff.mp H
        obtain ⟨t1066, A320, H⟩ := H
        have A32 := Z.k A320
        clear A320
        by_cases c33 : t1066 = true
        ·subst c33
         rw [if_pos rfl] at H
         by_cases c34 : t1064 = t1059
         ·rw [if_pos c34] at H
          have c34b0 : (t1064 == t1059) = true := beq_iff_eq.mpr c34
          have c34b1 : (t1064 != t1059) = false := bne_eq_false_iff_eq.mpr c34
          clear c34
          by_cases c35 : (t1049.length : Int) = t1059
          ·rw [if_pos c35] at H
           have c35b0 : ((t1049.length : Int) == t1059) = true := beq_iff_eq.mpr c35
           have c35b1 : ((t1049.length : Int) != t1059) = false := bne_eq_false_iff_eq.mpr c35
           clear c35
           replace H := Option.bind_eq_some_iff.mp H
           obtain ⟨t1067, A360, H⟩ := H
           have A36 := Z.k A360
           clear A360
           replace H := Option.bind_eq_some_iff.mp H
           obtain ⟨t1070, A370, H⟩ := H
           have A37 := Z.k A370
           clear A370
           obtain rfl := Option.some.inj H
           have hcz38 := Z.c3 BK1048.out
           go_wp2_with (first | ((with_reducible refine gate_callee (f := 30) rfl ?_); refine goesL_ (some 50) rfl rfl Try.func30 (by kernel_rfl) rfl #[.agg #[.int .i64 t1035, .slice Ao12 t1036.length co12, .slice Ao13 t1039.length co13], .slice Ao14 t1042.length co14, .slice Ao19 t1049.length co19] rfl Z.ar ?_; (with_reducible refine (impl_AfterActs.calls kj22 t1035 _ _ t1036 _ _ t1039 _ _ t1042 _ _ t1049 t1061 t1064 _ ?q1 ?q2 ?q3 ?q4 ?q5 ?q6 ?q7 ?q8 A29.out).mono ?_); (case q1 => exact (Kd.R_reads' HO_1049001.out).2.2); (case q2 => exact (Kd.R_reads' HO_1049001.out).2.1); (case q3 => exact (Kd.R_reads' HO_1049002.out).2.2); (case q4 => exact (Kd.R_reads' HO_1049002.out).2.1); (case q5 => exact (Kd.R_reads' HO_4.out).2.2); (case q6 => exact (Kd.R_reads' HO_4.out).2.1); (case q7 => exact (Kd.R_reads' HO_6.out).2.2); (case q8 => exact (Kd.R_reads' HO_6.out).2.1); rintro e w39 ⟨v1062, rfl, ho0, hb⟩; refine ⟨_, rfl, ?_⟩; replace HO_6 := Z.k (Kd.R_below HO_6.out hb); replace HO_1049002 := Z.k (Kd.R_below HO_1049002.out hb); have HO1063 := Z.k (Kd.R_lower (Kd.R_new' (Kd.R_new' (Kd.R_new' ho0 (Kd.R_lt HO_4.out)) (Kd.R_lt HO_7.out)) (Kd.R_lt HO_1049001.out)) (below_size (Z.bs HB.out GE1048.out))); replace HO_4 := Z.k (Kd.R_elder' HO_4.out (Kd.R_base ho0) hb); replace HO_7 := Z.k (Kd.R_elder' HO_7.out (Kd.R_base ho0) hb); replace HO_1049001 := Z.k (Kd.R_elder' HO_1049001.out (Kd.R_base ho0) hb); replace BK1048 := Z.bb BK1048 hb; replace HB := Z.st (Z.bs HB.out GE1048.out) hb; (try clear hb); (try clear ho0); have hcz40 := Z.c3 BK1048.out) | ((with_reducible refine gate_callee (f := 33) rfl ?_); refine goesL_ (some 56) rfl rfl Try.func33 (by kernel_rfl) rfl #[.agg #[.int .i64 t1035, .slice Ao12 t1036.length co12, .slice Ao13 t1039.length co13], .slice Ao14 t1042.length co14, .slice Ao19 t1049.length co19] rfl Z.ar ?_; (with_reducible refine (impl_FirstVoid.calls kj22 t1035 _ _ t1036 _ _ t1039 _ _ t1042 _ _ t1049 t1065 _ ?q1 ?q2 ?q3 ?q4 ?q5 ?q6 ?q7 ?q8 A30.out).mono ?_); (case q1 => exact (Kd.R_reads' HO_1049001.out).2.2); (case q2 => exact (Kd.R_reads' HO_1049001.out).2.1); (case q3 => exact (Kd.R_reads' HO_1049002.out).2.2); (case q4 => exact (Kd.R_reads' HO_1049002.out).2.1); (case q5 => exact (Kd.R_reads' HO_4.out).2.2); (case q6 => exact (Kd.R_reads' HO_4.out).2.1); (case q7 => exact (Kd.R_reads' HO_6.out).2.2); (case q8 => exact (Kd.R_reads' HO_6.out).2.1); rintro e w41 ⟨rfl, hb⟩; refine ⟨_, rfl, ?_⟩; replace HO_4 := Z.k (Kd.R_below HO_4.out hb); replace HO_6 := Z.k (Kd.R_below HO_6.out hb); replace HO_7 := Z.k (Kd.R_below HO_7.out hb); replace HO_1049001 := Z.k (Kd.R_below HO_1049001.out hb); replace HO_1049002 := Z.k (Kd.R_below HO_1049002.out hb); replace HO1063 := Z.k (Kd.R_below HO1063.out hb); replace BK1048 := Z.bb BK1048 hb; replace HB := Z.st (Z.bs HB.out GE1048.out) hb; (try clear hb); obtain ⟨Ao42, co42, eo42⟩ := Kd.R_slice HO_7.out; subst eo42; obtain ⟨Ao43, co43, eo43⟩ := Kd.R_slice HO1063.out; subst eo43) | (go_at_call 42; (with_reducible refine (laws_sameInts.calls kj22 _ _ t1056 _ _ t1061 true _ ?q1 ?q2 ?q3 ?q4 A32.out).mono ?_); (case q1 => exact (Kd.R_reads' HO_7.out).2.2); (case q2 => exact (Kd.R_reads' HO_7.out).2.1); (case q3 => exact (Kd.R_reads' HO1063.out).2.2); (case q4 => exact (Kd.R_reads' HO1063.out).2.1); rintro e w' ⟨rfl, ⟨nd, rfl⟩⟩; have hcz44 := Z.c3 BK1048.out) | (go_at_call 39; (with_reducible refine (impl_ValidActs.calls kj22 t1035 _ _ t1036 _ _ t1039 _ _ t1042 _ _ t1049 t1067 _ ?q1 ?q2 ?q3 ?q4 ?q5 ?q6 ?q7 ?q8 A36.out).mono ?_); (case q1 => exact (Kd.R_reads' HO_1049001.out).2.2); (case q2 => exact (Kd.R_reads' HO_1049001.out).2.1); (case q3 => exact (Kd.R_reads' HO_1049002.out).2.2); (case q4 => exact (Kd.R_reads' HO_1049002.out).2.1); (case q5 => exact (Kd.R_reads' HO_4.out).2.2); (case q6 => exact (Kd.R_reads' HO_4.out).2.1); (case q7 => exact (Kd.R_reads' HO_6.out).2.2); (case q8 => exact (Kd.R_reads' HO_6.out).2.1); rintro e w45 ⟨v1068, rfl, ho0, hb⟩; replace HO_4 := Z.k (Kd.R_below (by (with_reducible repeat (apply Kd.R_drewN)); exact HO_4.out) hb); replace HO_7 := Z.k (Kd.R_below (by (with_reducible repeat (apply Kd.R_drewN)); exact HO_7.out) hb); replace HO_1049001 := Z.k (Kd.R_below (by (with_reducible repeat (apply Kd.R_drewN)); exact HO_1049001.out) hb); replace HO_1049002 := Z.k (Kd.R_below (by (with_reducible repeat (apply Kd.R_drewN)); exact HO_1049002.out) hb); replace HO1063 := Z.k (Kd.R_below (by (with_reducible repeat (apply Kd.R_drewN)); exact HO1063.out) hb); have HO1069 := Z.k (Kd.R_lower (Kd.R_new' ho0 (Kd.R_lt (by (with_reducible repeat (apply Kd.R_drewN)); exact HO_6.out))) (below_size (Z.bs HB.out GE1048.out))); replace HO_6 := Z.k (Kd.R_elder' (by (with_reducible repeat (apply Kd.R_drewN)); exact HO_6.out) (Kd.R_base ho0) hb); replace BK1048 := Z.bb BK1048 hb; replace HB := Z.st (Z.bs HB.out GE1048.out) hb; (try clear hb); (try clear ho0); obtain ⟨Ao46, co46, eo46⟩ := Kd.R_slice HO1069.out; subst eo46) | (go_at_call 40; (with_reducible refine (laws_sameActs.calls kj22 _ _ t1067 _ _ t1049 t1070 _ ?q1 ?q2 ?q3 ?q4 A37.out).mono ?_); (case q1 => exact (Kd.R_reads' HO1069.out).2.2); (case q2 => exact (Kd.R_reads' HO1069.out).2.1); (case q3 => exact (Kd.R_reads' HO_6.out).2.2); (case q4 => exact (Kd.R_reads' HO_6.out).2.1); rintro e w' ⟨rfl, ⟨nd, rfl⟩⟩))
           go_ret
           exact ⟨by rfl, Z.bs HB.out GE1048.out⟩
          ·rw [if_neg c35] at H
           have c35b0 : ((t1049.length : Int) == t1059) = false := beq_eq_false_iff_ne.mpr c35
           have c35b1 : ((t1049.length : Int) != t1059) = true := bne_iff_ne.mpr c35
           obtain rfl := Option.some.inj H
           have hcz47 := Z.c3 BK1048.out
           go_wp2_with (first | ((with_reducible refine gate_callee (f := 30) rfl ?_); refine goesL_ (some 50) rfl rfl Try.func30 (by kernel_rfl) rfl #[.agg #[.int .i64 t1035, .slice Ao12 t1036.length co12, .slice Ao13 t1039.length co13], .slice Ao14 t1042.length co14, .slice Ao19 t1049.length co19] rfl Z.ar ?_; (with_reducible refine (impl_AfterActs.calls kj22 t1035 _ _ t1036 _ _ t1039 _ _ t1042 _ _ t1049 t1061 t1064 _ ?q1 ?q2 ?q3 ?q4 ?q5 ?q6 ?q7 ?q8 A29.out).mono ?_); (case q1 => exact (Kd.R_reads' HO_1049001.out).2.2); (case q2 => exact (Kd.R_reads' HO_1049001.out).2.1); (case q3 => exact (Kd.R_reads' HO_1049002.out).2.2); (case q4 => exact (Kd.R_reads' HO_1049002.out).2.1); (case q5 => exact (Kd.R_reads' HO_4.out).2.2); (case q6 => exact (Kd.R_reads' HO_4.out).2.1); (case q7 => exact (Kd.R_reads' HO_6.out).2.2); (case q8 => exact (Kd.R_reads' HO_6.out).2.1); rintro e w48 ⟨v1062, rfl, ho0, hb⟩; refine ⟨_, rfl, ?_⟩; replace HO_6 := Z.k (Kd.R_below HO_6.out hb); replace HO_1049002 := Z.k (Kd.R_below HO_1049002.out hb); have HO1063 := Z.k (Kd.R_lower (Kd.R_new' (Kd.R_new' (Kd.R_new' ho0 (Kd.R_lt HO_4.out)) (Kd.R_lt HO_7.out)) (Kd.R_lt HO_1049001.out)) (below_size (Z.bs HB.out GE1048.out))); replace HO_4 := Z.k (Kd.R_elder' HO_4.out (Kd.R_base ho0) hb); replace HO_7 := Z.k (Kd.R_elder' HO_7.out (Kd.R_base ho0) hb); replace HO_1049001 := Z.k (Kd.R_elder' HO_1049001.out (Kd.R_base ho0) hb); replace BK1048 := Z.bb BK1048 hb; replace HB := Z.st (Z.bs HB.out GE1048.out) hb; (try clear hb); (try clear ho0); have hcz49 := Z.c3 BK1048.out) | ((with_reducible refine gate_callee (f := 33) rfl ?_); refine goesL_ (some 56) rfl rfl Try.func33 (by kernel_rfl) rfl #[.agg #[.int .i64 t1035, .slice Ao12 t1036.length co12, .slice Ao13 t1039.length co13], .slice Ao14 t1042.length co14, .slice Ao19 t1049.length co19] rfl Z.ar ?_; (with_reducible refine (impl_FirstVoid.calls kj22 t1035 _ _ t1036 _ _ t1039 _ _ t1042 _ _ t1049 t1065 _ ?q1 ?q2 ?q3 ?q4 ?q5 ?q6 ?q7 ?q8 A30.out).mono ?_); (case q1 => exact (Kd.R_reads' HO_1049001.out).2.2); (case q2 => exact (Kd.R_reads' HO_1049001.out).2.1); (case q3 => exact (Kd.R_reads' HO_1049002.out).2.2); (case q4 => exact (Kd.R_reads' HO_1049002.out).2.1); (case q5 => exact (Kd.R_reads' HO_4.out).2.2); (case q6 => exact (Kd.R_reads' HO_4.out).2.1); (case q7 => exact (Kd.R_reads' HO_6.out).2.2); (case q8 => exact (Kd.R_reads' HO_6.out).2.1); rintro e w50 ⟨rfl, hb⟩; refine ⟨_, rfl, ?_⟩; replace HO_4 := Z.k (Kd.R_below HO_4.out hb); replace HO_6 := Z.k (Kd.R_below HO_6.out hb); replace HO_7 := Z.k (Kd.R_below HO_7.out hb); replace HO_1049001 := Z.k (Kd.R_below HO_1049001.out hb); replace HO_1049002 := Z.k (Kd.R_below HO_1049002.out hb); replace HO1063 := Z.k (Kd.R_below HO1063.out hb); replace BK1048 := Z.bb BK1048 hb; replace HB := Z.st (Z.bs HB.out GE1048.out) hb; (try clear hb); obtain ⟨Ao51, co51, eo51⟩ := Kd.R_slice HO_7.out; subst eo51; obtain ⟨Ao52, co52, eo52⟩ := Kd.R_slice HO1063.out; subst eo52) | (go_at_call 42; (with_reducible refine (laws_sameInts.calls kj22 _ _ t1056 _ _ t1061 true _ ?q1 ?q2 ?q3 ?q4 A32.out).mono ?_); (case q1 => exact (Kd.R_reads' HO_7.out).2.2); (case q2 => exact (Kd.R_reads' HO_7.out).2.1); (case q3 => exact (Kd.R_reads' HO1063.out).2.2); (case q4 => exact (Kd.R_reads' HO1063.out).2.1); rintro e w' ⟨rfl, ⟨nd, rfl⟩⟩))
           go_ret
           exact ⟨by rfl, Z.bs HB.out GE1048.out⟩
         ·rw [if_neg c34] at H
          have c34b0 : (t1064 == t1059) = false := beq_eq_false_iff_ne.mpr c34
          have c34b1 : (t1064 != t1059) = true := bne_iff_ne.mpr c34
          obtain rfl := Option.some.inj H
          have hcz53 := Z.c3 BK1048.out
          go_wp2_with (first | ((with_reducible refine gate_callee (f := 30) rfl ?_); refine goesL_ (some 50) rfl rfl Try.func30 (by kernel_rfl) rfl #[.agg #[.int .i64 t1035, .slice Ao12 t1036.length co12, .slice Ao13 t1039.length co13], .slice Ao14 t1042.length co14, .slice Ao19 t1049.length co19] rfl Z.ar ?_; (with_reducible refine (impl_AfterActs.calls kj22 t1035 _ _ t1036 _ _ t1039 _ _ t1042 _ _ t1049 t1061 t1064 _ ?q1 ?q2 ?q3 ?q4 ?q5 ?q6 ?q7 ?q8 A29.out).mono ?_); (case q1 => exact (Kd.R_reads' HO_1049001.out).2.2); (case q2 => exact (Kd.R_reads' HO_1049001.out).2.1); (case q3 => exact (Kd.R_reads' HO_1049002.out).2.2); (case q4 => exact (Kd.R_reads' HO_1049002.out).2.1); (case q5 => exact (Kd.R_reads' HO_4.out).2.2); (case q6 => exact (Kd.R_reads' HO_4.out).2.1); (case q7 => exact (Kd.R_reads' HO_6.out).2.2); (case q8 => exact (Kd.R_reads' HO_6.out).2.1); rintro e w54 ⟨v1062, rfl, ho0, hb⟩; refine ⟨_, rfl, ?_⟩; replace HO_6 := Z.k (Kd.R_below HO_6.out hb); replace HO_1049002 := Z.k (Kd.R_below HO_1049002.out hb); have HO1063 := Z.k (Kd.R_lower (Kd.R_new' (Kd.R_new' (Kd.R_new' ho0 (Kd.R_lt HO_4.out)) (Kd.R_lt HO_7.out)) (Kd.R_lt HO_1049001.out)) (below_size (Z.bs HB.out GE1048.out))); replace HO_4 := Z.k (Kd.R_elder' HO_4.out (Kd.R_base ho0) hb); replace HO_7 := Z.k (Kd.R_elder' HO_7.out (Kd.R_base ho0) hb); replace HO_1049001 := Z.k (Kd.R_elder' HO_1049001.out (Kd.R_base ho0) hb); replace BK1048 := Z.bb BK1048 hb; replace HB := Z.st (Z.bs HB.out GE1048.out) hb; (try clear hb); (try clear ho0); have hcz55 := Z.c3 BK1048.out) | ((with_reducible refine gate_callee (f := 33) rfl ?_); refine goesL_ (some 56) rfl rfl Try.func33 (by kernel_rfl) rfl #[.agg #[.int .i64 t1035, .slice Ao12 t1036.length co12, .slice Ao13 t1039.length co13], .slice Ao14 t1042.length co14, .slice Ao19 t1049.length co19] rfl Z.ar ?_; (with_reducible refine (impl_FirstVoid.calls kj22 t1035 _ _ t1036 _ _ t1039 _ _ t1042 _ _ t1049 t1065 _ ?q1 ?q2 ?q3 ?q4 ?q5 ?q6 ?q7 ?q8 A30.out).mono ?_); (case q1 => exact (Kd.R_reads' HO_1049001.out).2.2); (case q2 => exact (Kd.R_reads' HO_1049001.out).2.1); (case q3 => exact (Kd.R_reads' HO_1049002.out).2.2); (case q4 => exact (Kd.R_reads' HO_1049002.out).2.1); (case q5 => exact (Kd.R_reads' HO_4.out).2.2); (case q6 => exact (Kd.R_reads' HO_4.out).2.1); (case q7 => exact (Kd.R_reads' HO_6.out).2.2); (case q8 => exact (Kd.R_reads' HO_6.out).2.1); rintro e w56 ⟨rfl, hb⟩; refine ⟨_, rfl, ?_⟩; replace HO_4 := Z.k (Kd.R_below HO_4.out hb); replace HO_6 := Z.k (Kd.R_below HO_6.out hb); replace HO_7 := Z.k (Kd.R_below HO_7.out hb); replace HO_1049001 := Z.k (Kd.R_below HO_1049001.out hb); replace HO_1049002 := Z.k (Kd.R_below HO_1049002.out hb); replace HO1063 := Z.k (Kd.R_below HO1063.out hb); replace BK1048 := Z.bb BK1048 hb; replace HB := Z.st (Z.bs HB.out GE1048.out) hb; (try clear hb); obtain ⟨Ao57, co57, eo57⟩ := Kd.R_slice HO_7.out; subst eo57; obtain ⟨Ao58, co58, eo58⟩ := Kd.R_slice HO1063.out; subst eo58) | (go_at_call 42; (with_reducible refine (laws_sameInts.calls kj22 _ _ t1056 _ _ t1061 true _ ?q1 ?q2 ?q3 ?q4 A32.out).mono ?_); (case q1 => exact (Kd.R_reads' HO_7.out).2.2); (case q2 => exact (Kd.R_reads' HO_7.out).2.1); (case q3 => exact (Kd.R_reads' HO1063.out).2.2); (case q4 => exact (Kd.R_reads' HO1063.out).2.1); rintro e w' ⟨rfl, ⟨nd, rfl⟩⟩))
          go_ret
          exact ⟨by rfl, Z.bs HB.out GE1048.out⟩
        ·replace c33 := Bool.eq_false_iff.mpr c33
         subst c33
         rw [if_neg (show ¬ (false = true) by decide)] at H
         obtain rfl := Option.some.inj H
         have hcz59 := Z.c3 BK1048.out
         go_wp2_with (first | ((with_reducible refine gate_callee (f := 30) rfl ?_); refine goesL_ (some 50) rfl rfl Try.func30 (by kernel_rfl) rfl #[.agg #[.int .i64 t1035, .slice Ao12 t1036.length co12, .slice Ao13 t1039.length co13], .slice Ao14 t1042.length co14, .slice Ao19 t1049.length co19] rfl Z.ar ?_; (with_reducible refine (impl_AfterActs.calls kj22 t1035 _ _ t1036 _ _ t1039 _ _ t1042 _ _ t1049 t1061 t1064 _ ?q1 ?q2 ?q3 ?q4 ?q5 ?q6 ?q7 ?q8 A29.out).mono ?_); (case q1 => exact (Kd.R_reads' HO_1049001.out).2.2); (case q2 => exact (Kd.R_reads' HO_1049001.out).2.1); (case q3 => exact (Kd.R_reads' HO_1049002.out).2.2); (case q4 => exact (Kd.R_reads' HO_1049002.out).2.1); (case q5 => exact (Kd.R_reads' HO_4.out).2.2); (case q6 => exact (Kd.R_reads' HO_4.out).2.1); (case q7 => exact (Kd.R_reads' HO_6.out).2.2); (case q8 => exact (Kd.R_reads' HO_6.out).2.1); rintro e w60 ⟨v1062, rfl, ho0, hb⟩; refine ⟨_, rfl, ?_⟩; replace HO_6 := Z.k (Kd.R_below HO_6.out hb); replace HO_1049002 := Z.k (Kd.R_below HO_1049002.out hb); have HO1063 := Z.k (Kd.R_lower (Kd.R_new' (Kd.R_new' (Kd.R_new' ho0 (Kd.R_lt HO_4.out)) (Kd.R_lt HO_7.out)) (Kd.R_lt HO_1049001.out)) (below_size (Z.bs HB.out GE1048.out))); replace HO_4 := Z.k (Kd.R_elder' HO_4.out (Kd.R_base ho0) hb); replace HO_7 := Z.k (Kd.R_elder' HO_7.out (Kd.R_base ho0) hb); replace HO_1049001 := Z.k (Kd.R_elder' HO_1049001.out (Kd.R_base ho0) hb); replace BK1048 := Z.bb BK1048 hb; replace HB := Z.st (Z.bs HB.out GE1048.out) hb; (try clear hb); (try clear ho0); have hcz61 := Z.c3 BK1048.out) | ((with_reducible refine gate_callee (f := 33) rfl ?_); refine goesL_ (some 56) rfl rfl Try.func33 (by kernel_rfl) rfl #[.agg #[.int .i64 t1035, .slice Ao12 t1036.length co12, .slice Ao13 t1039.length co13], .slice Ao14 t1042.length co14, .slice Ao19 t1049.length co19] rfl Z.ar ?_; (with_reducible refine (impl_FirstVoid.calls kj22 t1035 _ _ t1036 _ _ t1039 _ _ t1042 _ _ t1049 t1065 _ ?q1 ?q2 ?q3 ?q4 ?q5 ?q6 ?q7 ?q8 A30.out).mono ?_); (case q1 => exact (Kd.R_reads' HO_1049001.out).2.2); (case q2 => exact (Kd.R_reads' HO_1049001.out).2.1); (case q3 => exact (Kd.R_reads' HO_1049002.out).2.2); (case q4 => exact (Kd.R_reads' HO_1049002.out).2.1); (case q5 => exact (Kd.R_reads' HO_4.out).2.2); (case q6 => exact (Kd.R_reads' HO_4.out).2.1); (case q7 => exact (Kd.R_reads' HO_6.out).2.2); (case q8 => exact (Kd.R_reads' HO_6.out).2.1); rintro e w62 ⟨rfl, hb⟩; refine ⟨_, rfl, ?_⟩; replace HO_4 := Z.k (Kd.R_below HO_4.out hb); replace HO_6 := Z.k (Kd.R_below HO_6.out hb); replace HO_7 := Z.k (Kd.R_below HO_7.out hb); replace HO_1049001 := Z.k (Kd.R_below HO_1049001.out hb); replace HO_1049002 := Z.k (Kd.R_below HO_1049002.out hb); replace HO1063 := Z.k (Kd.R_below HO1063.out hb); replace BK1048 := Z.bb BK1048 hb; replace HB := Z.st (Z.bs HB.out GE1048.out) hb; (try clear hb); obtain ⟨Ao63, co63, eo63⟩ := Kd.R_slice HO_7.out; subst eo63; obtain ⟨Ao64, co64, eo64⟩ := Kd.R_slice HO1063.out; subst eo64) | (go_at_call 42; (with_reducible refine (laws_sameInts.calls kj22 _ _ t1056 _ _ t1061 false _ ?q1 ?q2 ?q3 ?q4 A32.out).mono ?_); (case q1 => exact (Kd.R_reads' HO_7.out).2.2); (case q2 => exact (Kd.R_reads' HO_7.out).2.1); (case q3 => exact (Kd.R_reads' HO1063.out).2.2); (case q4 => exact (Kd.R_reads' HO1063.out).2.1); rintro e w' ⟨rfl, ⟨nd, rfl⟩⟩))
         go_ret
         exact ⟨by rfl, Z.bs HB.out GE1048.out⟩
       ·rw [if_neg c31] at H
        have c31b0 : (t1065 == (-1)) = false := beq_eq_false_iff_ne.mpr c31
        have c31b1 : (t1065 != (-1)) = true := bne_iff_ne.mpr c31
        obtain rfl := Option.some.inj H
        have hcz65 := Z.c3 BK1048.out
        go_wp2_with (first | ((with_reducible refine gate_callee (f := 30) rfl ?_); refine goesL_ (some 50) rfl rfl Try.func30 (by kernel_rfl) rfl #[.agg #[.int .i64 t1035, .slice Ao12 t1036.length co12, .slice Ao13 t1039.length co13], .slice Ao14 t1042.length co14, .slice Ao19 t1049.length co19] rfl Z.ar ?_; (with_reducible refine (impl_AfterActs.calls kj22 t1035 _ _ t1036 _ _ t1039 _ _ t1042 _ _ t1049 t1061 t1064 _ ?q1 ?q2 ?q3 ?q4 ?q5 ?q6 ?q7 ?q8 A29.out).mono ?_); (case q1 => exact (Kd.R_reads' HO_1049001.out).2.2); (case q2 => exact (Kd.R_reads' HO_1049001.out).2.1); (case q3 => exact (Kd.R_reads' HO_1049002.out).2.2); (case q4 => exact (Kd.R_reads' HO_1049002.out).2.1); (case q5 => exact (Kd.R_reads' HO_4.out).2.2); (case q6 => exact (Kd.R_reads' HO_4.out).2.1); (case q7 => exact (Kd.R_reads' HO_6.out).2.2); (case q8 => exact (Kd.R_reads' HO_6.out).2.1); rintro e w66 ⟨v1062, rfl, ho0, hb⟩; refine ⟨_, rfl, ?_⟩; replace HO_6 := Z.k (Kd.R_below HO_6.out hb); replace HO_1049002 := Z.k (Kd.R_below HO_1049002.out hb); have HO1063 := Z.k (Kd.R_lower (Kd.R_new' (Kd.R_new' (Kd.R_new' ho0 (Kd.R_lt HO_4.out)) (Kd.R_lt HO_7.out)) (Kd.R_lt HO_1049001.out)) (below_size (Z.bs HB.out GE1048.out))); replace HO_4 := Z.k (Kd.R_elder' HO_4.out (Kd.R_base ho0) hb); replace HO_7 := Z.k (Kd.R_elder' HO_7.out (Kd.R_base ho0) hb); replace HO_1049001 := Z.k (Kd.R_elder' HO_1049001.out (Kd.R_base ho0) hb); replace BK1048 := Z.bb BK1048 hb; replace HB := Z.st (Z.bs HB.out GE1048.out) hb; (try clear hb); (try clear ho0); have hcz67 := Z.c3 BK1048.out) | ((with_reducible refine gate_callee (f := 33) rfl ?_); refine goesL_ (some 56) rfl rfl Try.func33 (by kernel_rfl) rfl #[.agg #[.int .i64 t1035, .slice Ao12 t1036.length co12, .slice Ao13 t1039.length co13], .slice Ao14 t1042.length co14, .slice Ao19 t1049.length co19] rfl Z.ar ?_; (with_reducible refine (impl_FirstVoid.calls kj22 t1035 _ _ t1036 _ _ t1039 _ _ t1042 _ _ t1049 t1065 _ ?q1 ?q2 ?q3 ?q4 ?q5 ?q6 ?q7 ?q8 A30.out).mono ?_); (case q1 => exact (Kd.R_reads' HO_1049001.out).2.2); (case q2 => exact (Kd.R_reads' HO_1049001.out).2.1); (case q3 => exact (Kd.R_reads' HO_1049002.out).2.2); (case q4 => exact (Kd.R_reads' HO_1049002.out).2.1); (case q5 => exact (Kd.R_reads' HO_4.out).2.2); (case q6 => exact (Kd.R_reads' HO_4.out).2.1); (case q7 => exact (Kd.R_reads' HO_6.out).2.2); (case q8 => exact (Kd.R_reads' HO_6.out).2.1); rintro e w68 ⟨rfl, hb⟩; refine ⟨_, rfl, ?_⟩; replace HO_4 := Z.k (Kd.R_below HO_4.out hb); replace HO_6 := Z.k (Kd.R_below HO_6.out hb); replace HO_7 := Z.k (Kd.R_below HO_7.out hb); replace HO_1049001 := Z.k (Kd.R_below HO_1049001.out hb); replace HO_1049002 := Z.k (Kd.R_below HO_1049002.out hb); replace HO1063 := Z.k (Kd.R_below HO1063.out hb); replace BK1048 := Z.bb BK1048 hb; replace HB := Z.st (Z.bs HB.out GE1048.out) hb; (try clear hb)))
        go_ret
        exact ⟨by rfl, Z.bs HB.out GE1048.out⟩

/-- THE ONE PURE STATEMENT of laws_FnValidActs: yours. -/
def laws_FnValidActs.Pure : Prop := ∀ (l0 : List Int), l0.length ≤ maxLen → l0.length * 1 ≤ 140737488351232 → (∀ x ∈ l0, (Lit.int .u8 x).wf = true) → ∃ k, laws_FnValidActs.f k l0 = some true
theorem laws_FnValidActs.walk (P : laws_FnValidActs.Pure) (a0 : Option Addr) (len0 cap0 : Nat) (z0 : List Int) (w : World) (w0 : (a0 = none ∧ len0 = 0 ∧ cap0 = 0 ∧ z0 = []) ∨ ∃ x, a0 = some x ∧ len0 ≤ cap0 ∧ cap0 ≤ maxLen ∧ z0.length = cap0 ∧ (∀ i, i < z0.length → w.cell? (x.add i) = some (.int .u8 (z0.getD i 0))) ∧ ∀ n ∈ z0, (Lit.int .u8 n).wf = true) (y0 : len0 * 1 ≤ 140737488351232) :
  Calls Try.prog 10 #[.slice a0 len0 cap0] w fun e w' => e = .returned (.bool true) ∧ Below w.heap.size w w' := by
 obtain ⟨l0, rfl, hr0, hm0, hw0, hc0⟩ := ReadsInt.ofRowC w0
 obtain ⟨k, h⟩ := P l0 hm0 y0 hw0
 refine (laws_FnValidActs.calls k _ _ l0 true w (Kd.C_of_reads (d := (0 : Int)) (h1 := fun _ => rfl) hr0) hc0 h).mono ?_
 rintro e w' ⟨rfl, hd⟩
 exact ⟨rfl, hd⟩

end Go.Proofs.Ytojoblllgddckaa.PAll
