/- Walks of functions that laws of this seat reach, in the form of the print. -/
import Derived.Test.YtojoblllgddckaaCAll0
import Derived.Test.YtojoblllgddckaaCAll1
import Derived.Test.YtojoblllgddckaaCAll9
import Derived.Test.YtojoblllgddckaaCAll22
import Derived.Test.YtojoblllgddckaaCAll32
import Derived.Test.YtojoblllgddckaaCAll34
import Derived.Test.YtojoblllgddckaaCAll36
import Derived.Test.YtojoblllgddckaaCAll37
import Derived.Test.YtojoblllgddckaaCAll56
import Derived.Test.YtojoblllgddckaaZ
-- PRINTED
namespace Go.Proofs.Ytojoblllgddckaa.PAll
open Go.RowKit Go.Proofs.YtojoblllgddckaaW.PrintWords Go.Proofs.YtojoblllgddckaaW.PrintLast Go.Proofs.YtojoblllgddckaaW.PrintMore
attribute [local go_sem] max2_int min2_int max_two min_two max_three min_three max_four min_four
set_option linter.unusedVariables false
set_option linter.unusedSimpArgs false

/-! ### laws_FnSafeActs: function 11 -/
mutual
def laws_FnSafeActs.j0 : Nat → List Int → Option (Bool)
 | 0, _ => none
 | k + 1, x0 => (spec_DrawSafeActs.f k x0).bind fun bt1208 => ((impl_SafeActs.f k bt1208.1 bt1208.2.1 bt1208.2.2.1 bt1208.2.2.2.1 bt1208.2.2.2.2.1 bt1208.2.2.2.2.2).bind fun t1225 => ((spec_SafeActs.f k bt1208.1 bt1208.2.1 bt1208.2.2.1 bt1208.2.2.2.1 bt1208.2.2.2.2.1 bt1208.2.2.2.2.2).bind fun t1228 => ((laws_sameActs.f k t1225 t1228).bind fun t1231 => (if t1231 = true then (laws_FnSafeActs.j1 k bt1208.2.2.2.1 bt1208.2.2.2.2.1 t1225 bt1208.1 bt1208.2.1 bt1208.2.2.1) else (some false)))))
def laws_FnSafeActs.j1 : Nat → List Int → List Int → List (S48) → Int → List Int → List (List (S91)) → Option (Bool)
 | 0, _, _, _, _, _, _ => none
 | k + 1, x4, x5, x7, x1225000, x1225001, x1225002 => if (x7.length : Int) = 0 then ((laws_alive.f).bind fun t1232 => (some t1232)) else (laws_FnSafeActs.j2 k x4 x5 x7 x1225000 x1225001 x1225002)
def laws_FnSafeActs.j2 : Nat → List Int → List Int → List (S48) → Int → List Int → List (List (S91)) → Option (Bool)
 | 0, _, _, _, _, _, _ => none
 | k + 1, x4, x5, x7, x1225000, x1225001, x1225002 => laws_FnSafeActs.l0 k x4 x5 x7 0 x1225000 x1225001 x1225002
def laws_FnSafeActs.l0 : Nat → List Int → List Int → List (S48) → Int → Int → List Int → List (List (S91)) → Option (Bool)
 | 0, _, _, _, _, _, _, _ => none
 | k + 1, x4, x5, x7, x8, x1225000, x1225001, x1225002 => if x8 ≤ (x7.length : Int) then (laws_FnSafeActs.j4 k x4 x5 x7 x8 x1225000 x1225001 x1225002) else ((impl_SafeActs.f k x1225000 x1225001 x1225002 x4 x5 x7).bind fun t1233 => ((laws_sameActs.f k t1233 x7).bind fun t1236 => (some t1236)))
def laws_FnSafeActs.j4 : Nat → List Int → List Int → List (S48) → Int → Int → List Int → List (List (S91)) → Option (Bool)
 | 0, _, _, _, _, _, _, _ => none
 | k + 1, x4, x5, x7, x8, x1225000, x1225001, x1225002 => if 0 ≤ x8 then (if x8 ≤ (x7.length : Int) then ((impl_AfterActs.f k x1225000 x1225001 x1225002 x4 (x7.take (x8 : Int).toNat)).bind fun bt1241 => (if bt1241.2 = x8 then ((impl_StateNumber.f k x1225000 x1225001 x1225002 bt1241.1).bind fun t1245 => ((laws_hasInt.f k x5 t1245).bind fun t1246 => (if t1246 = true then (some false) else (laws_FnSafeActs.l0 k x4 x5 x7 (wrap64 (x8 + 1)) x1225000 x1225001 x1225002)))) else (some false))) else (none)) else (none)
end
def laws_FnSafeActs.f (k : Nat) (l0 : List Int) : Option (Bool) := if (l0.length : Int) > 1048576 then (some true) else (laws_FnSafeActs.j0 k l0)
def laws_FnSafeActs.T12 : Bool × List (List Nat × List Nat) := (true, [([], []), ([], []), ([], []), ([], []), ([2, 3], [2, 3]), ([0, 1, 4], [0, 1, 4]), ([5], [5]), ([6], [6]), ([6], [6]), ([7, 5, 0, 1, 2, 3, 4, 5, 6, 7], [7]), ([8, 9, 0, 1, 2, 3, 4, 5, 6, 7, 8, 9], [8])])
def laws_FnSafeActs.B12 : List Nat := [0, 0, 0, 0, 12, 31, 63, 127, 127, 255, 1023]
theorem laws_FnSafeActs.tab12 : rtab .any (opsOf Try.f11 12) = laws_FnSafeActs.T12 := by kernel_rfl
theorem laws_FnSafeActs.bits12 : waitsOk laws_FnSafeActs.T12.2 laws_FnSafeActs.B12 = true := by kernel_rfl
set_option maxHeartbeats 8000000 in
set_option maxRecDepth 100000 in
theorem laws_FnSafeActs.calls (k : Nat) (A0 : Option Addr) (c0 : Nat) (l0 : List Int) (r : Bool) (w : World) (hr0 : Kd.C (Kd.int .u8) w A0 l0.length l0) (hc0 : l0.length ≤ c0) (h : laws_FnSafeActs.f k l0 = some r) :
  Calls Try.prog 11 #[.slice A0 l0.length c0] w fun e w' => e = .returned (.bool r) ∧ Below w.heap.size w w' := by
 have hu46 := Try.underlying46
 have HR0 := Z.k hr0
 have HC0 := Z.k hc0
 clear hr0 hc0
 have HB := Z.k (Below.refl w.heap.size w)
 have H := h
 clear h
 unfold laws_FnSafeActs.f at H
 have HC2 := Z.k H
 clear H
 go_enter Try.func11, Try.ntmps11
 go_upto_if 13 with (fail)
 go_cut [] (fun wc => ∃ (kq : Nat), Aside0 (laws_FnSafeActs.j0 kq l0 = some r) ∧ Aside0 (kq ≤ k) ∧ Aside0 (Below w.heap.size w wc))
 case first =>
  have H := HC2.out
  clear HC2
  by_cases c3 : (l0.length : Int) > 1048576
  ·rw [if_pos c3] at H
   have c3b0 : decide (1048576 < (l0.length : Int)) = true := decide_eq_true c3
   have c3b1 : decide (1048576 < l0.length) = true := decide_eq_true (by omega)
   clear c3
   (rw [c3b0])
   obtain rfl := Option.some.inj H
   go_wp2
   go_ret
   exact ⟨by rfl, Z.bl HB.out⟩
  ·rw [if_neg c3] at H
   have c3b0 : decide (1048576 < (l0.length : Int)) = false := decide_eq_false c3
   have c3b1 : decide (1048576 < l0.length) = false := decide_eq_false (by omega)
   clear c3
   (rw [c3b0])
   have H' := Z.k H
   clear H
   go_wp2
   go_meet
   case rel => exact ⟨_, H', ⟨by omega⟩, ⟨Z.bl HB.out⟩⟩
 case rest =>
  clear HC2
  obtain ⟨kq, HA, HJ1, HB⟩ := hcut
  cases kq with
  | zero => exact absurd HA.out (by simp [laws_FnSafeActs.j0])
  | succ kj1 =>
   have H := HA.out
   clear HA
   simp only [laws_FnSafeActs.j0] at H
   replace H := Option.bind_eq_some_iff.mp H
   obtain ⟨⟨t1208, t1209, t1212, t1215, t1218, t1221⟩, A40, H⟩ := H
   try dsimp only at H
   have A4 := Z.k A40
   clear A40
   replace H := Option.bind_eq_some_iff.mp H
   obtain ⟨t1225, A50, H⟩ := H
   have A5 := Z.k A50
   clear A50
   replace H := Option.bind_eq_some_iff.mp H
   obtain ⟨t1228, A60, H⟩ := H
   have A6 := Z.k A60
   clear A60
   replace H := Option.bind_eq_some_iff.mp H
   obtain ⟨t1231, A70, H⟩ := H
   have A7 := Z.k A70
   clear A70
   have HC8 := Z.k H
   clear H
   go_upto_if 33 with (first | ((with_reducible refine gate_callee (f := 43) rfl ?_); refine goesL_ (some 16) rfl rfl Try.func43 (by kernel_rfl) rfl #[.slice A0 l0.length c0] rfl Z.ar ?_; (with_reducible refine (spec_DrawSafeActs.calls kj1 _ _ l0 t1208 t1209 t1212 t1215 t1218 t1221 _ ?q1 ?q2 A4.out).mono ?_); (case q1 => exact Z.cc HR0 HB); (case q2 => exact HC0.out); rintro e w9 ⟨v1210, v1213, v1216, v1219, v1222, rfl, ho0, ho1, ho2, ho3, ho4, hb⟩; refine ⟨_, rfl, ?_⟩; have HO1211 := Z.k (Kd.R_lower ho0 (below_size (Z.bl HB.out))); have HO1214 := Z.k (Kd.R_lower ho1 (below_size (Z.bl HB.out))); have HO1217 := Z.k (Kd.R_lower ho2 (below_size (Z.bl HB.out))); have HO1220 := Z.k (Kd.R_lower ho3 (below_size (Z.bl HB.out))); have HO1223 := Z.k (Kd.R_lower ho4 (below_size (Z.bl HB.out))); replace HB := Z.st (Z.bl HB.out) hb; (try clear hb); (try clear ho0); (try clear ho1); (try clear ho2); (try clear ho3); (try clear ho4)) | ((with_reducible refine gate_dst (N := 3) rfl ?_); refine Z.bx #[.int .i64 0, .slice none 0 0, .slice none 0 0] 46 HB ?_; clear HB; intro gb1224 w10 BK1224 GE1224 HB hg hb; have GW1224 := GE1224; replace HO1211 := Z.k (Kd.R_below HO1211.out hb); replace HO1214 := Z.k (Kd.R_below HO1214.out hb); replace HO1217 := Z.k (Kd.R_below HO1217.out hb); replace HO1220 := Z.k (Kd.R_below HO1220.out hb); replace HO1223 := Z.k (Kd.R_below HO1223.out hb); clear hb hg; have hcz11 := Z.c3 BK1224.out; obtain ⟨Ao12, co12, eo12⟩ := Kd.R_slice HO1211.out; subst eo12; obtain ⟨Ao13, co13, eo13⟩ := Kd.R_slice HO1214.out; subst eo13; obtain ⟨Ao14, co14, eo14⟩ := Kd.R_slice HO1217.out; subst eo14; obtain ⟨Ao15, co15, eo15⟩ := Kd.R_slice HO1220.out; subst eo15; obtain ⟨Ao16, co16, eo16⟩ := Kd.R_slice HO1223.out; subst eo16) | ((with_reducible refine gate_callee (f := 44) rfl ?_); refine goesL_ (some 25) rfl rfl Try.func44 (by kernel_rfl) rfl #[.agg #[.int .i64 t1208, .slice Ao12 t1209.length co12, .slice Ao13 t1212.length co13], .slice Ao14 t1215.length co14, .slice Ao15 t1218.length co15, .slice Ao16 t1221.length co16] rfl Z.ar ?_; (with_reducible refine (impl_SafeActs.calls kj1 t1208 _ _ t1209 _ _ t1212 _ _ t1215 _ _ t1218 _ _ t1221 t1225 _ ?q1 ?q2 ?q3 ?q4 ?q5 ?q6 ?q7 ?q8 ?q9 ?q10 A5.out).mono ?_); (case q1 => refine (Kd.R_reads' (e := 3) (base := w.heap.size) (ok := fun k_ => (some k_ ≠ (.slice Ao14 t1215.length co14 : Value).ownBlock ∧ some k_ ≠ (.slice Ao15 t1218.length co15 : Value).ownBlock)) (n := t1209.length) (c := co12) ?_).2.2; exact (Kd.R_mono (Kd.R_far (p := ⟨gb1224, 2, none⟩) (Kd.R_far (p := ⟨gb1224, 1, none⟩) (Kd.R_far (p := ⟨gb1224, 0, none⟩) (Kd.R_types HO1211.out BK1224.out (by decide)) (fun _ hk => hk.2) (.int .i64 t1208)) (fun _ hk => hk.2) (.slice Ao12 t1209.length co12)) (fun _ hk => hk.2) (.slice Ao13 t1212.length co13)) (fun _ h_ => h_.1))); (case q2 => exact (Kd.R_reads' HO1211.out).2.1); (case q3 => refine (Kd.R_reads' (e := 56) (base := w.heap.size) (ok := fun k_ => True) (n := t1212.length) (c := co13) ?_).2.2; exact (Kd.R_mono (Kd.R_far (p := ⟨gb1224, 2, none⟩) (Kd.R_far (p := ⟨gb1224, 1, none⟩) (Kd.R_far (p := ⟨gb1224, 0, none⟩) (Kd.R_types HO1214.out BK1224.out (by decide)) (fun _ hk => hk.2) (.int .i64 t1208)) (fun _ hk => hk.2) (.slice Ao12 t1209.length co12)) (fun _ hk => hk.2) (.slice Ao13 t1212.length co13)) (fun _ h_ => h_.1))); (case q4 => exact (Kd.R_reads' HO1214.out).2.1); (case q5 => refine (Kd.R_reads' (e := 3) (base := w.heap.size) (ok := fun k_ => (some k_ ≠ (.slice Ao12 t1209.length co12 : Value).ownBlock ∧ some k_ ≠ (.slice Ao15 t1218.length co15 : Value).ownBlock)) (n := t1215.length) (c := co14) ?_).2.2; exact (Kd.R_mono (Kd.R_far (p := ⟨gb1224, 2, none⟩) (Kd.R_far (p := ⟨gb1224, 1, none⟩) (Kd.R_far (p := ⟨gb1224, 0, none⟩) (Kd.R_types HO1217.out BK1224.out (by decide)) (fun _ hk => hk.2) (.int .i64 t1208)) (fun _ hk => hk.2) (.slice Ao12 t1209.length co12)) (fun _ hk => hk.2) (.slice Ao13 t1212.length co13)) (fun _ h_ => h_.1))); (case q6 => exact (Kd.R_reads' HO1217.out).2.1); (case q7 => refine (Kd.R_reads' (e := 3) (base := w.heap.size) (ok := fun k_ => (some k_ ≠ (.slice Ao12 t1209.length co12 : Value).ownBlock ∧ some k_ ≠ (.slice Ao14 t1215.length co14 : Value).ownBlock)) (n := t1218.length) (c := co15) ?_).2.2; exact (Kd.R_mono (Kd.R_far (p := ⟨gb1224, 2, none⟩) (Kd.R_far (p := ⟨gb1224, 1, none⟩) (Kd.R_far (p := ⟨gb1224, 0, none⟩) (Kd.R_types HO1220.out BK1224.out (by decide)) (fun _ hk => hk.2) (.int .i64 t1208)) (fun _ hk => hk.2) (.slice Ao12 t1209.length co12)) (fun _ hk => hk.2) (.slice Ao13 t1212.length co13)) (fun _ h_ => h_.1))); (case q8 => exact (Kd.R_reads' HO1220.out).2.1); (case q9 => refine (Kd.R_reads' (e := 48) (base := w.heap.size) (ok := fun k_ => True) (n := t1221.length) (c := co16) ?_).2.2; exact (Kd.R_mono (Kd.R_far (p := ⟨gb1224, 2, none⟩) (Kd.R_far (p := ⟨gb1224, 1, none⟩) (Kd.R_far (p := ⟨gb1224, 0, none⟩) (Kd.R_types HO1223.out BK1224.out (by decide)) (fun _ hk => hk.2) (.int .i64 t1208)) (fun _ hk => hk.2) (.slice Ao12 t1209.length co12)) (fun _ hk => hk.2) (.slice Ao13 t1212.length co13)) (fun _ h_ => h_.1))); (case q10 => exact (Kd.R_reads' HO1223.out).2.1); rintro e w17 ⟨v1226, rfl, ho0, hb⟩; refine ⟨_, rfl, ?_⟩; replace HO1211 := Z.k (Kd.R_below (Kd.R_mono (Kd.R_far (p := ⟨gb1224, 2, none⟩) (Kd.R_far (p := ⟨gb1224, 1, none⟩) (Kd.R_far (p := ⟨gb1224, 0, none⟩) (Kd.R_types HO1211.out BK1224.out (by decide)) (fun _ hk => hk.2) (.int .i64 t1208)) (fun _ hk => hk.2) (.slice Ao12 t1209.length co12)) (fun _ hk => hk.2) (.slice Ao13 t1212.length co13)) (fun _ h_ => h_.1)) hb); replace HO1214 := Z.k (Kd.R_below (Kd.R_mono (Kd.R_far (p := ⟨gb1224, 2, none⟩) (Kd.R_far (p := ⟨gb1224, 1, none⟩) (Kd.R_far (p := ⟨gb1224, 0, none⟩) (Kd.R_types HO1214.out BK1224.out (by decide)) (fun _ hk => hk.2) (.int .i64 t1208)) (fun _ hk => hk.2) (.slice Ao12 t1209.length co12)) (fun _ hk => hk.2) (.slice Ao13 t1212.length co13)) (fun _ h_ => h_.1)) hb); replace HO1217 := Z.k (Kd.R_below (Kd.R_mono (Kd.R_far (p := ⟨gb1224, 2, none⟩) (Kd.R_far (p := ⟨gb1224, 1, none⟩) (Kd.R_far (p := ⟨gb1224, 0, none⟩) (Kd.R_types HO1217.out BK1224.out (by decide)) (fun _ hk => hk.2) (.int .i64 t1208)) (fun _ hk => hk.2) (.slice Ao12 t1209.length co12)) (fun _ hk => hk.2) (.slice Ao13 t1212.length co13)) (fun _ h_ => h_.1)) hb); replace HO1220 := Z.k (Kd.R_below (Kd.R_mono (Kd.R_far (p := ⟨gb1224, 2, none⟩) (Kd.R_far (p := ⟨gb1224, 1, none⟩) (Kd.R_far (p := ⟨gb1224, 0, none⟩) (Kd.R_types HO1220.out BK1224.out (by decide)) (fun _ hk => hk.2) (.int .i64 t1208)) (fun _ hk => hk.2) (.slice Ao12 t1209.length co12)) (fun _ hk => hk.2) (.slice Ao13 t1212.length co13)) (fun _ h_ => h_.1)) hb); have HO1227 := Z.k (Kd.R_lower (Kd.R_new' ho0 (Kd.R_lt (Kd.R_mono (Kd.R_far (p := ⟨gb1224, 2, none⟩) (Kd.R_far (p := ⟨gb1224, 1, none⟩) (Kd.R_far (p := ⟨gb1224, 0, none⟩) (Kd.R_types HO1223.out BK1224.out (by decide)) (fun _ hk => hk.2) (.int .i64 t1208)) (fun _ hk => hk.2) (.slice Ao12 t1209.length co12)) (fun _ hk => hk.2) (.slice Ao13 t1212.length co13)) (fun _ h_ => h_.1)))) (below_size (Z.bs HB.out GE1224.out))); replace HO1223 := Z.k (Kd.R_elder' (Kd.R_mono (Kd.R_far (p := ⟨gb1224, 2, none⟩) (Kd.R_far (p := ⟨gb1224, 1, none⟩) (Kd.R_far (p := ⟨gb1224, 0, none⟩) (Kd.R_types HO1223.out BK1224.out (by decide)) (fun _ hk => hk.2) (.int .i64 t1208)) (fun _ hk => hk.2) (.slice Ao12 t1209.length co12)) (fun _ hk => hk.2) (.slice Ao13 t1212.length co13)) (fun _ h_ => h_.1)) (Kd.R_base ho0) hb); replace BK1224 := Z.k (blk_below (g := gb1224) (o := .cells #[.int .i64 t1208, .slice Ao12 t1209.length co12, .slice Ao13 t1212.length co13] 46 (0, 0)) (by refine blk_put (cs := #[.int .i64 t1208, .slice Ao12 t1209.length co12, .slice none 0 0]) ?_ 2 _ rfl; refine blk_put (cs := #[.int .i64 t1208, .slice none 0 0, .slice none 0 0]) ?_ 1 _ rfl; refine blk_put (cs := #[.int .i64 0, .slice none 0 0, .slice none 0 0]) ?_ 0 _ rfl; exact BK1224.out) hb); replace HB := Z.st (Z.bs HB.out GE1224.out) hb; (try clear hb); (try clear ho0); have hcz18 := Z.c3 BK1224.out) | ((with_reducible refine gate_callee (f := 45) rfl ?_); refine goesL_ (some 31) rfl rfl Try.func45 (by kernel_rfl) rfl #[.agg #[.int .i64 t1208, .slice Ao12 t1209.length co12, .slice Ao13 t1212.length co13], .slice Ao14 t1215.length co14, .slice Ao15 t1218.length co15, .slice Ao16 t1221.length co16] rfl Z.ar ?_; (with_reducible refine (spec_SafeActs.calls kj1 t1208 _ _ t1209 _ _ t1212 _ _ t1215 _ _ t1218 _ _ t1221 t1228 _ ?q1 ?q2 ?q3 ?q4 ?q5 ?q6 ?q7 ?q8 ?q9 ?q10 A6.out).mono ?_); (case q1 => exact (Kd.R_reads' HO1211.out).2.2); (case q2 => exact (Kd.R_reads' HO1211.out).2.1); (case q3 => exact (Kd.R_reads' HO1214.out).2.2); (case q4 => exact (Kd.R_reads' HO1214.out).2.1); (case q5 => exact (Kd.R_reads' HO1217.out).2.2); (case q6 => exact (Kd.R_reads' HO1217.out).2.1); (case q7 => exact (Kd.R_reads' HO1220.out).2.2); (case q8 => exact (Kd.R_reads' HO1220.out).2.1); (case q9 => exact (Kd.R_reads' HO1223.out).2.2); (case q10 => exact (Kd.R_reads' HO1223.out).2.1); rintro e w19 ⟨v1229, rfl, ho0, hb⟩; refine ⟨_, rfl, ?_⟩; replace HO1211 := Z.k (Kd.R_below HO1211.out hb); replace HO1214 := Z.k (Kd.R_below HO1214.out hb); replace HO1217 := Z.k (Kd.R_below HO1217.out hb); replace HO1220 := Z.k (Kd.R_below HO1220.out hb); have HO1230 := Z.k (Kd.R_lower (Kd.R_new' (Kd.R_new' ho0 (Kd.R_lt HO1223.out)) (Kd.R_lt HO1227.out)) (below_size (Z.bs HB.out GE1224.out))); replace HO1223 := Z.k (Kd.R_elder' HO1223.out (Kd.R_base ho0) hb); replace HO1227 := Z.k (Kd.R_elder' HO1227.out (Kd.R_base ho0) hb); replace BK1224 := Z.bb BK1224 hb; replace HB := Z.st (Z.bs HB.out GE1224.out) hb; (try clear hb); (try clear ho0); obtain ⟨Ao20, co20, eo20⟩ := Kd.R_slice HO1227.out; subst eo20; obtain ⟨Ao21, co21, eo21⟩ := Kd.R_slice HO1230.out; subst eo21) | ((with_reducible refine gate_callee (f := 40) rfl ?_); refine goesL_ (some 32) rfl rfl Try.func40 (by kernel_rfl) rfl #[.slice Ao20 t1225.length co20, .slice Ao21 t1228.length co21] rfl Z.ar ?_; (with_reducible refine (laws_sameActs.calls kj1 _ _ t1225 _ _ t1228 t1231 _ ?q1 ?q2 ?q3 ?q4 A7.out).mono ?_); (case q1 => exact (Kd.R_reads' HO1227.out).2.2); (case q2 => exact (Kd.R_reads' HO1227.out).2.1); (case q3 => exact (Kd.R_reads' HO1230.out).2.2); (case q4 => exact (Kd.R_reads' HO1230.out).2.1); rintro e w' ⟨rfl, ⟨nd, rfl⟩⟩; refine ⟨_, rfl, ?_⟩))
   go_cut [] (fun wc => ∃ (kq : Nat), Aside0 (laws_FnSafeActs.j1 kq t1215 t1218 t1225 t1208 t1209 t1212 = some r) ∧ Aside0 (kq ≤ kj1) ∧ Aside0 (Kd.R (Kd.int .i64) 3 wc w.heap.size (fun k_ => some k_ ≠ ((.slice Ao15 t1218.length co15) : Value).ownBlock ∧ some k_ ≠ ((.slice Ao12 t1209.length co12) : Value).ownBlock) (.slice Ao14 t1215.length co14) t1215) ∧ Aside0 (Kd.R (Kd.int .i64) 3 wc w.heap.size (fun k_ => some k_ ≠ ((.slice Ao14 t1215.length co14) : Value).ownBlock ∧ some k_ ≠ ((.slice Ao12 t1209.length co12) : Value).ownBlock) (.slice Ao15 t1218.length co15) t1218) ∧ Aside0 (Kd.R k48 48 wc w.heap.size (fun _ => True) (.slice Ao20 t1225.length co20) t1225) ∧ Aside0 (Kd.R (Kd.int .i64) 3 wc w.heap.size (fun k_ => some k_ ≠ ((.slice Ao14 t1215.length co14) : Value).ownBlock ∧ some k_ ≠ ((.slice Ao15 t1218.length co15) : Value).ownBlock) (.slice Ao12 t1209.length co12) t1209) ∧ Aside0 (Kd.R (Kd.slice 91 k91) 56 wc w.heap.size (fun _ => True) (.slice Ao13 t1212.length co13) t1212) ∧ Aside0 (wc.heap[gb1224]? = some (.cells #[.int .i64 t1208, (.slice Ao12 t1209.length co12), (.slice Ao13 t1212.length co13)] 46 (0, 0))) ∧ Aside0 (Below w.heap.size w wc))
   case first =>
    have H := HC8.out
    clear HC8
    by_cases c22 : t1231 = true
    ·subst c22
     rw [if_pos rfl] at H
     have H' := Z.k H
     clear H
     go_wp2
     go_meet
     case rel => exact ⟨_, H', ⟨by have := HJ1.out; omega⟩, ⟨by (with_reducible repeat (apply Kd.R_drewN)); exact Kd.R_mono HO1217.out (fun _ hk => ⟨hk.2, hk.1⟩)⟩, ⟨by (with_reducible repeat (apply Kd.R_drewN)); exact Kd.R_mono HO1220.out (fun _ hk => ⟨hk.2, hk.1⟩)⟩, ⟨by (with_reducible repeat (apply Kd.R_drewN)); exact Kd.R_mono HO1227.out (fun _ hk => trivial)⟩, ⟨by (with_reducible repeat (apply Kd.R_drewN)); exact HO1211.out⟩, ⟨by (with_reducible repeat (apply Kd.R_drewN)); exact HO1214.out⟩, ⟨by (with_reducible repeat (refine blk_drewN ?_ _)); exact BK1224.out⟩, ⟨Z.bs HB.out GE1224.out⟩⟩
    ·replace c22 := Bool.eq_false_iff.mpr c22
     subst c22
     rw [if_neg (show ¬ (false = true) by decide)] at H
     obtain rfl := Option.some.inj H
     go_wp2
     go_ret
     exact ⟨by rfl, Z.bs HB.out GE1224.out⟩
   case rest =>
    clear HC8
    obtain ⟨kq, HA, HJ7, HO_4, HO_5, HO_7, HO_1225001, HO_1225002, BK1224, HB⟩ := hcut
    cases kq with
    | zero => exact absurd HA.out (by simp [laws_FnSafeActs.j1])
    | succ kj7 =>
     have H := HA.out
     clear HA
     simp only [laws_FnSafeActs.j1] at H
     have HC23 := Z.k H
     clear H
     go_upto_if 36 with (fail)
     go_cut [] (fun wc => ∃ (kq : Nat), Aside0 (laws_FnSafeActs.j2 kq t1215 t1218 t1225 t1208 t1209 t1212 = some r) ∧ Aside0 (kq ≤ kj7) ∧ Aside0 (Kd.R (Kd.int .i64) 3 wc w.heap.size (fun k_ => some k_ ≠ ((.slice Ao15 t1218.length co15) : Value).ownBlock ∧ some k_ ≠ ((.slice Ao12 t1209.length co12) : Value).ownBlock) (.slice Ao14 t1215.length co14) t1215) ∧ Aside0 (Kd.R (Kd.int .i64) 3 wc w.heap.size (fun k_ => some k_ ≠ ((.slice Ao14 t1215.length co14) : Value).ownBlock ∧ some k_ ≠ ((.slice Ao12 t1209.length co12) : Value).ownBlock) (.slice Ao15 t1218.length co15) t1218) ∧ Aside0 (Kd.R k48 48 wc w.heap.size (fun _ => True) (.slice Ao20 t1225.length co20) t1225) ∧ Aside0 (Kd.R (Kd.int .i64) 3 wc w.heap.size (fun k_ => some k_ ≠ ((.slice Ao14 t1215.length co14) : Value).ownBlock ∧ some k_ ≠ ((.slice Ao15 t1218.length co15) : Value).ownBlock) (.slice Ao12 t1209.length co12) t1209) ∧ Aside0 (Kd.R (Kd.slice 91 k91) 56 wc w.heap.size (fun _ => True) (.slice Ao13 t1212.length co13) t1212) ∧ Aside0 (wc.heap[gb1224]? = some (.cells #[.int .i64 t1208, (.slice Ao12 t1209.length co12), (.slice Ao13 t1212.length co13)] 46 (0, 0))) ∧ Aside0 (Below w.heap.size w wc))
     case first =>
      have H := HC23.out
      clear HC23
      by_cases c24 : (t1225.length : Int) = 0
      ·rw [if_pos c24] at H
       have c24b0 : ((t1225.length : Int) == 0) = true := beq_iff_eq.mpr c24
       have c24b1 : ((t1225.length : Int) != 0) = false := bne_eq_false_iff_eq.mpr c24
       clear c24
       (rw [c24b0])
       replace H := Option.bind_eq_some_iff.mp H
       obtain ⟨t1232, A250, H⟩ := H
       have A25 := Z.k A250
       clear A250
       obtain rfl := Option.some.inj H
       go_wp2_with (((with_reducible refine gate_callee (f := 15) rfl ?_); refine goesL_ (some 37) rfl rfl Try.func15 (by kernel_rfl) rfl #[] rfl Z.ar ?_; (with_reducible refine (laws_alive.calls  t1232 _ A25.out).mono ?_); rintro e w' ⟨rfl, ⟨nd, rfl⟩⟩; refine ⟨_, rfl, ?_⟩))
       go_ret
       exact ⟨by rfl, Z.bs HB.out GE1224.out⟩
      ·rw [if_neg c24] at H
       have c24b0 : ((t1225.length : Int) == 0) = false := beq_eq_false_iff_ne.mpr c24
       have c24b1 : ((t1225.length : Int) != 0) = true := bne_iff_ne.mpr c24
       have c24b2 : ¬ (t1225 = []) := fun h_ => c24 (by rw [h_]; rfl)
       (rw [c24b0])
       have H' := Z.k H
       clear H
       go_wp2
       go_meet
       case rel => exact ⟨_, H', ⟨by have := HJ1.out; have := HJ7.out; omega⟩, ⟨by exact HO_4.out⟩, ⟨by exact HO_5.out⟩, ⟨by exact HO_7.out⟩, ⟨by exact HO_1225001.out⟩, ⟨by exact HO_1225002.out⟩, ⟨by exact BK1224.out⟩, ⟨Z.bs HB.out GE1224.out⟩⟩
     case rest =>
      clear HC23
      obtain ⟨kq, HA, HJ22, HO_4, HO_5, HO_7, HO_1225001, HO_1225002, BK1224, HB⟩ := hcut
      cases kq with
      | zero => exact absurd HA.out (by simp [laws_FnSafeActs.j2])
      | succ kj22 =>
       have H := HA.out
       clear HA
       simp only [laws_FnSafeActs.j2] at H
       have H' := Z.k H
       clear H
       go_wp2
       go_loopg [8] kj22 (fun kq v8 w' => ∃ (x8_4 : Int), v8 = .int .i64 x8_4 ∧ Aside0 (laws_FnSafeActs.l0 kq t1215 t1218 t1225 x8_4 t1208 t1209 t1212 = some r) ∧ Aside0 (kq ≤ kj22) ∧ Aside0 (Kd.R (Kd.int .i64) 3 w' w.heap.size (fun k_ => some k_ ≠ ((.slice Ao15 t1218.length co15) : Value).ownBlock ∧ some k_ ≠ ((.slice Ao12 t1209.length co12) : Value).ownBlock) (.slice Ao14 t1215.length co14) t1215) ∧ Aside0 (Kd.R (Kd.int .i64) 3 w' w.heap.size (fun k_ => some k_ ≠ ((.slice Ao14 t1215.length co14) : Value).ownBlock ∧ some k_ ≠ ((.slice Ao12 t1209.length co12) : Value).ownBlock) (.slice Ao15 t1218.length co15) t1218) ∧ Aside0 (Kd.R k48 48 w' w.heap.size (fun _ => True) (.slice Ao20 t1225.length co20) t1225) ∧ Aside0 (Kd.R (Kd.int .i64) 3 w' w.heap.size (fun k_ => some k_ ≠ ((.slice Ao14 t1215.length co14) : Value).ownBlock ∧ some k_ ≠ ((.slice Ao15 t1218.length co15) : Value).ownBlock) (.slice Ao12 t1209.length co12) t1209) ∧ Aside0 (Kd.R (Kd.slice 91 k91) 56 w' w.heap.size (fun _ => True) (.slice Ao13 t1212.length co13) t1212) ∧ Aside0 (w'.heap[gb1224]? = some (.cells #[.int .i64 t1208, (.slice Ao12 t1209.length co12), (.slice Ao13 t1212.length co13)] 46 (0, 0))) ∧ Aside0 (Below w.heap.size w w'))
       case atStart => exact ⟨(0), (by rfl), H', ⟨Nat.le_refl _⟩, ⟨by exact HO_4.out⟩, ⟨by exact HO_5.out⟩, ⟨by exact HO_7.out⟩, ⟨by exact HO_1225001.out⟩, ⟨by exact HO_1225002.out⟩, ⟨by exact BK1224.out⟩, ⟨Z.bs HB.out GE1224.out⟩⟩
       case round =>
        clear H'
        obtain ⟨x8_4, rfl, HA, HK4, HO_4, HO_5, HO_7, HO_1225001, HO_1225002, BK1224, HB⟩ := hrel
        cases gk with
        | zero => exact absurd HA.out (by simp [laws_FnSafeActs.l0])
        | succ k4 =>
         have H := HA.out
         clear HA
         simp only [laws_FnSafeActs.l0] at H
         have HC26 := Z.k H
         clear H
         go_upto_if 41 with (fail)
         go_cut [] (fun wc => ∃ (kq : Nat), Aside0 (laws_FnSafeActs.j4 kq t1215 t1218 t1225 x8_4 t1208 t1209 t1212 = some r) ∧ Aside0 (kq ≤ k4) ∧ Aside0 (Kd.R (Kd.int .i64) 3 wc w.heap.size (fun k_ => some k_ ≠ ((.slice Ao15 t1218.length co15) : Value).ownBlock ∧ some k_ ≠ ((.slice Ao12 t1209.length co12) : Value).ownBlock) (.slice Ao14 t1215.length co14) t1215) ∧ Aside0 (Kd.R (Kd.int .i64) 3 wc w.heap.size (fun k_ => some k_ ≠ ((.slice Ao14 t1215.length co14) : Value).ownBlock ∧ some k_ ≠ ((.slice Ao12 t1209.length co12) : Value).ownBlock) (.slice Ao15 t1218.length co15) t1218) ∧ Aside0 (Kd.R k48 48 wc w.heap.size (fun _ => True) (.slice Ao20 t1225.length co20) t1225) ∧ Aside0 (Kd.R (Kd.int .i64) 3 wc w.heap.size (fun k_ => some k_ ≠ ((.slice Ao14 t1215.length co14) : Value).ownBlock ∧ some k_ ≠ ((.slice Ao15 t1218.length co15) : Value).ownBlock) (.slice Ao12 t1209.length co12) t1209) ∧ Aside0 (Kd.R (Kd.slice 91 k91) 56 wc w.heap.size (fun _ => True) (.slice Ao13 t1212.length co13) t1212) ∧ Aside0 (wc.heap[gb1224]? = some (.cells #[.int .i64 t1208, (.slice Ao12 t1209.length co12), (.slice Ao13 t1212.length co13)] 46 (0, 0))) ∧ Aside0 (Below w.heap.size w wc))
         case first =>
          have H := HC26.out
          clear HC26
          by_cases c27 : x8_4 ≤ (t1225.length : Int)
          ·rw [if_pos c27] at H
           have c27b0 := decide_eq_true c27
           clear c27
           (rw [c27b0])
           have H' := Z.k H
           clear H
           go_wp2
           go_meet
           case rel => exact ⟨_, H', ⟨by have := HJ1.out; have := HJ7.out; have := HJ22.out; have := HK4.out; omega⟩, ⟨by exact HO_4.out⟩, ⟨by exact HO_5.out⟩, ⟨by exact HO_7.out⟩, ⟨by exact HO_1225001.out⟩, ⟨by exact HO_1225002.out⟩, ⟨by exact BK1224.out⟩, ⟨Z.bs HB.out GE1224.out⟩⟩
          ·rw [if_neg c27] at H
           have c27b0 := decide_eq_false c27
           clear c27
           (rw [c27b0])
           replace H := Option.bind_eq_some_iff.mp H
           obtain ⟨t1233, A280, H⟩ := H
           have A28 := Z.k A280
           clear A280
           replace H := Option.bind_eq_some_iff.mp H
           obtain ⟨t1236, A290, H⟩ := H
           have A29 := Z.k A290
           clear A290
           obtain rfl := Option.some.inj H
           have hcz30 := Z.c3 BK1224.out
           go_wp2_with (first | ((with_reducible refine gate_callee (f := 44) rfl ?_); refine goesL_ (some 67) rfl rfl Try.func44 (by kernel_rfl) rfl #[.agg #[.int .i64 t1208, .slice Ao12 t1209.length co12, .slice Ao13 t1212.length co13], .slice Ao14 t1215.length co14, .slice Ao15 t1218.length co15, .slice Ao20 t1225.length co20] rfl Z.ar ?_; (with_reducible refine (impl_SafeActs.calls k4 t1208 _ _ t1209 _ _ t1212 _ _ t1215 _ _ t1218 _ _ t1225 t1233 _ ?q1 ?q2 ?q3 ?q4 ?q5 ?q6 ?q7 ?q8 ?q9 ?q10 A28.out).mono ?_); (case q1 => exact (Kd.R_reads' HO_1225001.out).2.2); (case q2 => exact (Kd.R_reads' HO_1225001.out).2.1); (case q3 => exact (Kd.R_reads' HO_1225002.out).2.2); (case q4 => exact (Kd.R_reads' HO_1225002.out).2.1); (case q5 => exact (Kd.R_reads' HO_4.out).2.2); (case q6 => exact (Kd.R_reads' HO_4.out).2.1); (case q7 => exact (Kd.R_reads' HO_5.out).2.2); (case q8 => exact (Kd.R_reads' HO_5.out).2.1); (case q9 => exact (Kd.R_reads' HO_7.out).2.2); (case q10 => exact (Kd.R_reads' HO_7.out).2.1); rintro e w31 ⟨v1234, rfl, ho0, hb⟩; refine ⟨_, rfl, ?_⟩; replace HO_4 := Z.k (Kd.R_below HO_4.out hb); replace HO_5 := Z.k (Kd.R_below HO_5.out hb); replace HO_1225001 := Z.k (Kd.R_below HO_1225001.out hb); replace HO_1225002 := Z.k (Kd.R_below HO_1225002.out hb); have HO1235 := Z.k (Kd.R_lower (Kd.R_new' ho0 (Kd.R_lt HO_7.out)) (below_size (Z.bs HB.out GE1224.out))); replace HO_7 := Z.k (Kd.R_elder' HO_7.out (Kd.R_base ho0) hb); replace BK1224 := Z.bb BK1224 hb; replace HB := Z.st (Z.bs HB.out GE1224.out) hb; (try clear hb); (try clear ho0); obtain ⟨Ao32, co32, eo32⟩ := Kd.R_slice HO1235.out; subst eo32) | ((with_reducible refine gate_callee (f := 40) rfl ?_); refine goesL_ (some 69) rfl rfl Try.func40 (by kernel_rfl) rfl #[.slice Ao32 t1233.length co32, .slice Ao20 t1225.length co20] rfl Z.ar ?_; (with_reducible refine (laws_sameActs.calls k4 _ _ t1233 _ _ t1225 t1236 _ ?q1 ?q2 ?q3 ?q4 A29.out).mono ?_); (case q1 => exact (Kd.R_reads' HO1235.out).2.2); (case q2 => exact (Kd.R_reads' HO1235.out).2.1); (case q3 => exact (Kd.R_reads' HO_7.out).2.2); (case q4 => exact (Kd.R_reads' HO_7.out).2.1); rintro e w' ⟨rfl, ⟨nd, rfl⟩⟩; refine ⟨_, rfl, ?_⟩))
           go_ret
           exact ⟨by rfl, Z.bs HB.out GE1224.out⟩
         case rest =>
          clear HC26
          obtain ⟨kq, HA, HJ25, HO_4, HO_5, HO_7, HO_1225001, HO_1225002, BK1224, HB⟩ := hcut
          cases kq with
          | zero => exact absurd HA.out (by simp [laws_FnSafeActs.j4])
          | succ kj25 =>
           have H := HA.out
           clear HA
           simp only [laws_FnSafeActs.j4] at H
           obtain ⟨c33, H⟩ := Z.ifp H
           have c33b0 := eq_true c33
           have c33b1 : decide (0 ≤ x8_4) = true := decide_eq_true c33
           clear c33
           obtain ⟨c34, H⟩ := Z.ifp H
           have c34b0 := eq_true c34
           have c34b1 : decide (x8_4 ≤ (t1225.length : Int)) = true := decide_eq_true c34
           clear c34
           obtain ⟨y1237, hy1237⟩ : ∃ y_ : List (S48), y_ = (t1225.take (x8_4 : Int).toNat) := ⟨_, rfl⟩
           replace H : ((impl_AfterActs.f kj25 t1208 t1209 t1212 t1215 y1237).bind fun bt1241 => (if bt1241.2 = x8_4 then ((impl_StateNumber.f kj25 t1208 t1209 t1212 bt1241.1).bind fun t1245 => ((laws_hasInt.f kj25 t1218 t1245).bind fun t1246 => (if t1246 = true then (some false) else (laws_FnSafeActs.l0 kj25 t1215 t1218 t1225 (wrap64 (x8_4 + 1)) t1208 t1209 t1212)))) else (some false))) = some r := by (rw [hy1237]; with_reducible exact H)
           have Ny1237 := Z.k hy1237
           clear hy1237
           replace H := Option.bind_eq_some_iff.mp H
           obtain ⟨⟨t1241, t1244⟩, A350, H⟩ := H
           try dsimp only at H
           have A35 := Z.k A350
           clear A350
           by_cases c36 : t1244 = x8_4
           ·rw [if_pos c36] at H
            have c36b0 : (t1244 == x8_4) = true := beq_iff_eq.mpr c36
            have c36b1 : (t1244 != x8_4) = false := bne_eq_false_iff_eq.mpr c36
            clear c36
            replace H := Option.bind_eq_some_iff.mp H
            obtain ⟨t1245, A370, H⟩ := H
            have A37 := Z.k A370
            clear A370
            replace H := Option.bind_eq_some_iff.mp H
            obtain ⟨t1246, A380, H⟩ := H
            have A38 := Z.k A380
            clear A380
            by_cases c39 : t1246 = true
            ·subst c39
             rw [if_pos rfl] at H
             obtain rfl := Option.some.inj H
             try go_wp2
             replace HO_4 := Z.k (Kd.R_drew HO_4.out)
             replace HO_5 := Z.k (Kd.R_drew HO_5.out)
             replace HO_7 := Z.k (Kd.R_drew HO_7.out)
             replace HO_1225001 := Z.k (Kd.R_drew HO_1225001.out)
             replace HO_1225002 := Z.k (Kd.R_drew HO_1225002.out)
             replace BK1224 := Z.k (blk_drew BK1224.out)
             replace HB := Z.k (below_drew1 HB.out)
             have q41 : (x8_4 : Int) ≤ ((t1225.length : Int) : Int) := Z.od
             obtain ⟨i041, hi041, _, hsz41, _⟩ := info_parts info48
             have hroom41 : t1225.length ≤ co20 := (Kd.R_reads' HO_7.out).2.1
             have hC41 : Kd.C k48 _ Ao20 t1225.length t1225 := (Kd.R_reads' HO_7.out).2.2
             have hcut41 := cut_to (P := Try.prog) 58 48 .i64 Try.underlying58 hi041 Ao20 t1225.length co20 x8_4 (Z.od) q41 hroom41
             have hr41 := Kd.C_take (m := (x8_4 : Int).toNat) hC41 (by omega)
             have hy41 : y1237.length = (x8_4 : Int).toNat := (by rw [Ny1237.out, List.length_take]; omega)
             rw [← Ny1237.out] at hr41
             rw [← hy41] at hcut41
             have HR1240 := Z.k hr41
             have HC1240 := Z.k (show y1237.length ≤ co20 from by omega)
             clear hr41 hC41 hroom41 hi041 hsz41
             have KY41 := Z.k hy41
             clear hy41
             have KL41 := Z.k (show (x8_4 : Int).toNat ≤ t1225.length from by omega)
             replace q41 := eq_true q41
             refine start_ (n := 11) (S := fun w' => w'.cell? ⟨gb1224, 0, none⟩ = some (.int .i64 t1208) ∧ w'.cell? ⟨gb1224, 1, none⟩ = some (.slice Ao12 t1209.length co12) ∧ w'.cell? ⟨gb1224, 2, none⟩ = some (.slice Ao13 t1212.length co13)) (ds := []) #[false, false, false, false, false, false, false, false, false, false, false] (by kernel_rfl) rfl rfl ⟨(blk_cell BK1224.out 0).trans rfl, (blk_cell BK1224.out 1).trans rfl, (blk_cell BK1224.out 2).trans rfl⟩ (fun hHeld => ?_); refine with_tabW laws_FnSafeActs.tab12 laws_FnSafeActs.bits12 (fun HT_ HW_ => ?_)
             generalize wc.drew = w40 at HO_4 HO_5 HO_7 HO_1225001 HO_1225002 BK1224 HB HR1240 hHeld ⊢
             refine Z.pv 1 46 11 2 HT_.out ?_
             refine Z.pv 2 47 11 6 HT_.out ?_
             refine Z.pv 3 48 11 14 HT_.out ?_
             refine Z.pv 4 49 11 30 HT_.out ?_
             refine Z.t3 0 45 11 31 HT_.out HW_.out hHeld ?_
             refine one_ (i := 5) (N := some 50) (Z.mb 11 63) rfl rfl (one_of HT_.out (by kernel_rfl)) (by decide) (fun K hK => ?_)
             refine goes_ Try.func30 (by kernel_rfl) rfl #[.agg #[.int .i64 t1208, .slice Ao12 t1209.length co12, .slice Ao13 t1212.length co13], .slice Ao14 t1215.length co14, .slice Ao20 y1237.length co20] (by rfl) rfl rfl Z.ar ?_
             with_reducible refine (impl_AfterActs.calls kj25 t1208 _ _ t1209 _ _ t1212 _ _ t1215 _ _ y1237 t1241 t1244 _ ?q1 ?q2 ?q3 ?q4 ?q5 ?q6 ?q7 ?q8 A35.out).mono ?_
             (case q1 => exact (Kd.R_reads' HO_1225001.out).2.2)
             (case q2 => exact (Kd.R_reads' HO_1225001.out).2.1)
             (case q3 => exact (Kd.R_reads' HO_1225002.out).2.2)
             (case q4 => exact (Kd.R_reads' HO_1225002.out).2.1)
             (case q5 => exact (Kd.R_reads' HO_4.out).2.2)
             (case q6 => exact (Kd.R_reads' HO_4.out).2.1)
             (case q7 => exact HR1240.out)
             (case q8 => exact HC1240.out)
             rintro e w42 ⟨v1242, rfl, ho0, hb⟩
             refine ⟨_, rfl, ?_⟩
             replace HO_7 := Z.k (Kd.R_below HO_7.out hb)
             replace HO_1225002 := Z.k (Kd.R_below HO_1225002.out hb)
             have HO1243 := Z.k (Kd.R_lower (Kd.R_new' (Kd.R_new' (Kd.R_new' ho0 (Kd.R_lt HO_4.out)) (Kd.R_lt HO_5.out)) (Kd.R_lt HO_1225001.out)) (below_size (Z.bs HB.out GE1224.out)))
             replace HO_4 := Z.k (Kd.R_elder' HO_4.out (Kd.R_base ho0) hb)
             replace HO_5 := Z.k (Kd.R_elder' HO_5.out (Kd.R_base ho0) hb)
             replace HO_1225001 := Z.k (Kd.R_elder' HO_1225001.out (Kd.R_base ho0) hb)
             replace BK1224 := Z.bb BK1224 hb
             replace HR1240 := Z.k (Kd.C_below HR1240.out hb)
             replace HB := Z.st (Z.bs HB.out GE1224.out) hb
             (try clear hb)
             (try clear ho0)
             refine hK.out _ _ ⟨(blk_cell BK1224.out 0).trans rfl, (blk_cell BK1224.out 1).trans rfl, (blk_cell BK1224.out 2).trans rfl⟩ (fun hHeld => ?_)
             clear hK K
             refine Z.nm ?_
             refine Z.pv 6 44 11 127 HT_.out ?_
             refine Z.pv 7 51 11 255 HT_.out ?_
             refine Z.pv 8 52 11 511 HT_.out ?_
             refine Z.pv 9 9 11 1023 HT_.out ?_
             refine Z.pv 10 10 11 2047 HT_.out ?_
             refine done_ (done_of HT_.out (by kernel_rfl)) ?_
             have hcz43 := Z.c3 BK1224.out
             obtain ⟨Ao44, co44, eo44⟩ := Kd.R_slice HO1243.out
             subst eo44
             try go_wp2_with (first | (go_at_call 47; (with_reducible refine (impl_StateNumber.calls kj25 t1208 _ _ t1209 _ _ t1212 _ _ t1241 t1245 _ ?q1 ?q2 ?q3 ?q4 ?q5 ?q6 A37.out).mono ?_); (case q1 => exact (Kd.R_reads' HO_1225001.out).2.2); (case q2 => exact (Kd.R_reads' HO_1225001.out).2.1); (case q3 => exact (Kd.R_reads' HO_1225002.out).2.2); (case q4 => exact (Kd.R_reads' HO_1225002.out).2.1); (case q5 => exact (Kd.R_reads' HO1243.out).2.2); (case q6 => exact (Kd.R_reads' HO1243.out).2.1); rintro e w45 ⟨rfl, hb⟩; replace HO_4 := Z.k (Kd.R_below HO_4.out hb); replace HO_5 := Z.k (Kd.R_below HO_5.out hb); replace HO_7 := Z.k (Kd.R_below HO_7.out hb); replace HO_1225001 := Z.k (Kd.R_below HO_1225001.out hb); replace HO_1225002 := Z.k (Kd.R_below HO_1225002.out hb); replace HO1243 := Z.k (Kd.R_below HO1243.out hb); replace BK1224 := Z.bb BK1224 hb; replace HR1240 := Z.k (Kd.C_below HR1240.out hb); replace HB := Z.st (Z.bs HB.out GE1224.out) hb; (try clear hb)) | (go_at_call 46; (with_reducible refine (laws_hasInt.calls kj25 _ _ t1218 t1245 true _ ?q1 ?q2 A38.out).mono ?_); (case q1 => exact (Kd.R_reads' HO_5.out).2.2); (case q2 => exact (Kd.R_reads' HO_5.out).2.1); rintro e w' ⟨rfl, ⟨nd, rfl⟩⟩))
             go_ret
             exact ⟨by rfl, Z.bs HB.out GE1224.out⟩
            ·replace c39 := Bool.eq_false_iff.mpr c39
             subst c39
             rw [if_neg (show ¬ (false = true) by decide)] at H
             have H' := Z.k H
             clear H
             try go_wp2
             replace HO_4 := Z.k (Kd.R_drew HO_4.out)
             replace HO_5 := Z.k (Kd.R_drew HO_5.out)
             replace HO_7 := Z.k (Kd.R_drew HO_7.out)
             replace HO_1225001 := Z.k (Kd.R_drew HO_1225001.out)
             replace HO_1225002 := Z.k (Kd.R_drew HO_1225002.out)
             replace BK1224 := Z.k (blk_drew BK1224.out)
             replace HB := Z.k (below_drew1 HB.out)
             have q47 : (x8_4 : Int) ≤ ((t1225.length : Int) : Int) := Z.od
             obtain ⟨i047, hi047, _, hsz47, _⟩ := info_parts info48
             have hroom47 : t1225.length ≤ co20 := (Kd.R_reads' HO_7.out).2.1
             have hC47 : Kd.C k48 _ Ao20 t1225.length t1225 := (Kd.R_reads' HO_7.out).2.2
             have hcut47 := cut_to (P := Try.prog) 58 48 .i64 Try.underlying58 hi047 Ao20 t1225.length co20 x8_4 (Z.od) q47 hroom47
             have hr47 := Kd.C_take (m := (x8_4 : Int).toNat) hC47 (by omega)
             have hy47 : y1237.length = (x8_4 : Int).toNat := (by rw [Ny1237.out, List.length_take]; omega)
             rw [← Ny1237.out] at hr47
             rw [← hy47] at hcut47
             have HR1240 := Z.k hr47
             have HC1240 := Z.k (show y1237.length ≤ co20 from by omega)
             clear hr47 hC47 hroom47 hi047 hsz47
             have KY47 := Z.k hy47
             clear hy47
             have KL47 := Z.k (show (x8_4 : Int).toNat ≤ t1225.length from by omega)
             replace q47 := eq_true q47
             refine start_ (n := 11) (S := fun w' => w'.cell? ⟨gb1224, 0, none⟩ = some (.int .i64 t1208) ∧ w'.cell? ⟨gb1224, 1, none⟩ = some (.slice Ao12 t1209.length co12) ∧ w'.cell? ⟨gb1224, 2, none⟩ = some (.slice Ao13 t1212.length co13)) (ds := []) #[false, false, false, false, false, false, false, false, false, false, false] (by kernel_rfl) rfl rfl ⟨(blk_cell BK1224.out 0).trans rfl, (blk_cell BK1224.out 1).trans rfl, (blk_cell BK1224.out 2).trans rfl⟩ (fun hHeld => ?_); refine with_tabW laws_FnSafeActs.tab12 laws_FnSafeActs.bits12 (fun HT_ HW_ => ?_)
             generalize wc.drew = w46 at HO_4 HO_5 HO_7 HO_1225001 HO_1225002 BK1224 HB HR1240 hHeld ⊢
             refine Z.pv 1 46 11 2 HT_.out ?_
             refine Z.pv 2 47 11 6 HT_.out ?_
             refine Z.pv 3 48 11 14 HT_.out ?_
             refine Z.pv 4 49 11 30 HT_.out ?_
             refine Z.t3 0 45 11 31 HT_.out HW_.out hHeld ?_
             refine one_ (i := 5) (N := some 50) (Z.mb 11 63) rfl rfl (one_of HT_.out (by kernel_rfl)) (by decide) (fun K hK => ?_)
             refine goes_ Try.func30 (by kernel_rfl) rfl #[.agg #[.int .i64 t1208, .slice Ao12 t1209.length co12, .slice Ao13 t1212.length co13], .slice Ao14 t1215.length co14, .slice Ao20 y1237.length co20] (by rfl) rfl rfl Z.ar ?_
             with_reducible refine (impl_AfterActs.calls kj25 t1208 _ _ t1209 _ _ t1212 _ _ t1215 _ _ y1237 t1241 t1244 _ ?q1 ?q2 ?q3 ?q4 ?q5 ?q6 ?q7 ?q8 A35.out).mono ?_
             (case q1 => exact (Kd.R_reads' HO_1225001.out).2.2)
             (case q2 => exact (Kd.R_reads' HO_1225001.out).2.1)
             (case q3 => exact (Kd.R_reads' HO_1225002.out).2.2)
             (case q4 => exact (Kd.R_reads' HO_1225002.out).2.1)
             (case q5 => exact (Kd.R_reads' HO_4.out).2.2)
             (case q6 => exact (Kd.R_reads' HO_4.out).2.1)
             (case q7 => exact HR1240.out)
             (case q8 => exact HC1240.out)
             rintro e w48 ⟨v1242, rfl, ho0, hb⟩
             refine ⟨_, rfl, ?_⟩
             replace HO_7 := Z.k (Kd.R_below HO_7.out hb)
             replace HO_1225002 := Z.k (Kd.R_below HO_1225002.out hb)
             have HO1243 := Z.k (Kd.R_lower (Kd.R_new' (Kd.R_new' (Kd.R_new' ho0 (Kd.R_lt HO_4.out)) (Kd.R_lt HO_5.out)) (Kd.R_lt HO_1225001.out)) (below_size (Z.bs HB.out GE1224.out)))
             replace HO_4 := Z.k (Kd.R_elder' HO_4.out (Kd.R_base ho0) hb)
             replace HO_5 := Z.k (Kd.R_elder' HO_5.out (Kd.R_base ho0) hb)
             replace HO_1225001 := Z.k (Kd.R_elder' HO_1225001.out (Kd.R_base ho0) hb)
             replace BK1224 := Z.bb BK1224 hb
             replace HR1240 := Z.k (Kd.C_below HR1240.out hb)
             replace HB := Z.st (Z.bs HB.out GE1224.out) hb
             (try clear hb)
             (try clear ho0)
             refine hK.out _ _ ⟨(blk_cell BK1224.out 0).trans rfl, (blk_cell BK1224.out 1).trans rfl, (blk_cell BK1224.out 2).trans rfl⟩ (fun hHeld => ?_)
             clear hK K
             refine Z.nm ?_
             refine Z.pv 6 44 11 127 HT_.out ?_
             refine Z.pv 7 51 11 255 HT_.out ?_
             refine Z.pv 8 52 11 511 HT_.out ?_
             refine Z.pv 9 9 11 1023 HT_.out ?_
             refine Z.pv 10 10 11 2047 HT_.out ?_
             refine done_ (done_of HT_.out (by kernel_rfl)) ?_
             have hcz49 := Z.c3 BK1224.out
             obtain ⟨Ao50, co50, eo50⟩ := Kd.R_slice HO1243.out
             subst eo50
             try go_wp2_with (first | (go_at_call 47; (with_reducible refine (impl_StateNumber.calls kj25 t1208 _ _ t1209 _ _ t1212 _ _ t1241 t1245 _ ?q1 ?q2 ?q3 ?q4 ?q5 ?q6 A37.out).mono ?_); (case q1 => exact (Kd.R_reads' HO_1225001.out).2.2); (case q2 => exact (Kd.R_reads' HO_1225001.out).2.1); (case q3 => exact (Kd.R_reads' HO_1225002.out).2.2); (case q4 => exact (Kd.R_reads' HO_1225002.out).2.1); (case q5 => exact (Kd.R_reads' HO1243.out).2.2); (case q6 => exact (Kd.R_reads' HO1243.out).2.1); rintro e w51 ⟨rfl, hb⟩; replace HO_4 := Z.k (Kd.R_below HO_4.out hb); replace HO_5 := Z.k (Kd.R_below HO_5.out hb); replace HO_7 := Z.k (Kd.R_below HO_7.out hb); replace HO_1225001 := Z.k (Kd.R_below HO_1225001.out hb); replace HO_1225002 := Z.k (Kd.R_below HO_1225002.out hb); replace HO1243 := Z.k (Kd.R_below HO1243.out hb); replace BK1224 := Z.bb BK1224 hb; replace HR1240 := Z.k (Kd.C_below HR1240.out hb); replace HB := Z.st (Z.bs HB.out GE1224.out) hb; (try clear hb)) | (go_at_call 46; (with_reducible refine (laws_hasInt.calls kj25 _ _ t1218 t1245 false _ ?q1 ?q2 A38.out).mono ?_); (case q1 => exact (Kd.R_reads' HO_5.out).2.2); (case q2 => exact (Kd.R_reads' HO_5.out).2.1); rintro e w' ⟨rfl, ⟨nd, rfl⟩⟩))
             go_roundg kj25
             case measure => have := HJ1.out; have := HJ7.out; have := HJ22.out; have := HK4.out; have := HJ25.out; omega
             case rel => exact ⟨(wrap64 (x8_4 + 1)), (by rfl), H', ⟨by have := HJ1.out; have := HJ7.out; have := HJ22.out; have := HK4.out; have := HJ25.out; omega⟩, ⟨by (with_reducible repeat (apply Kd.R_drewN)); exact Kd.R_mono HO_4.out (fun _ hk => ⟨hk.1.1, hk.1.2⟩)⟩, ⟨by (with_reducible repeat (apply Kd.R_drewN)); exact Kd.R_mono HO_5.out (fun _ hk => ⟨hk.1.1, hk.1.2⟩)⟩, ⟨by (with_reducible repeat (apply Kd.R_drewN)); exact HO_7.out⟩, ⟨by (with_reducible repeat (apply Kd.R_drewN)); exact Kd.R_mono HO_1225001.out (fun _ hk => ⟨hk.1.1, hk.1.2⟩)⟩, ⟨by (with_reducible repeat (apply Kd.R_drewN)); exact HO_1225002.out⟩, ⟨by (with_reducible repeat (refine blk_drewN ?_ _)); exact BK1224.out⟩, ⟨Z.bs HB.out GE1224.out⟩⟩
           ·rw [if_neg c36] at H
            have c36b0 : (t1244 == x8_4) = false := beq_eq_false_iff_ne.mpr c36
            have c36b1 : (t1244 != x8_4) = true := bne_iff_ne.mpr c36
            obtain rfl := Option.some.inj H
            try go_wp2
            replace HO_4 := Z.k (Kd.R_drew HO_4.out)
            replace HO_5 := Z.k (Kd.R_drew HO_5.out)
            replace HO_7 := Z.k (Kd.R_drew HO_7.out)
            replace HO_1225001 := Z.k (Kd.R_drew HO_1225001.out)
            replace HO_1225002 := Z.k (Kd.R_drew HO_1225002.out)
            replace BK1224 := Z.k (blk_drew BK1224.out)
            replace HB := Z.k (below_drew1 HB.out)
            have q53 : (x8_4 : Int) ≤ ((t1225.length : Int) : Int) := Z.od
            obtain ⟨i053, hi053, _, hsz53, _⟩ := info_parts info48
            have hroom53 : t1225.length ≤ co20 := (Kd.R_reads' HO_7.out).2.1
            have hC53 : Kd.C k48 _ Ao20 t1225.length t1225 := (Kd.R_reads' HO_7.out).2.2
            have hcut53 := cut_to (P := Try.prog) 58 48 .i64 Try.underlying58 hi053 Ao20 t1225.length co20 x8_4 (Z.od) q53 hroom53
            have hr53 := Kd.C_take (m := (x8_4 : Int).toNat) hC53 (by omega)
            have hy53 : y1237.length = (x8_4 : Int).toNat := (by rw [Ny1237.out, List.length_take]; omega)
            rw [← Ny1237.out] at hr53
            rw [← hy53] at hcut53
            have HR1240 := Z.k hr53
            have HC1240 := Z.k (show y1237.length ≤ co20 from by omega)
            clear hr53 hC53 hroom53 hi053 hsz53
            have KY53 := Z.k hy53
            clear hy53
            have KL53 := Z.k (show (x8_4 : Int).toNat ≤ t1225.length from by omega)
            replace q53 := eq_true q53
            refine start_ (n := 11) (S := fun w' => w'.cell? ⟨gb1224, 0, none⟩ = some (.int .i64 t1208) ∧ w'.cell? ⟨gb1224, 1, none⟩ = some (.slice Ao12 t1209.length co12) ∧ w'.cell? ⟨gb1224, 2, none⟩ = some (.slice Ao13 t1212.length co13)) (ds := []) #[false, false, false, false, false, false, false, false, false, false, false] (by kernel_rfl) rfl rfl ⟨(blk_cell BK1224.out 0).trans rfl, (blk_cell BK1224.out 1).trans rfl, (blk_cell BK1224.out 2).trans rfl⟩ (fun hHeld => ?_); refine with_tabW laws_FnSafeActs.tab12 laws_FnSafeActs.bits12 (fun HT_ HW_ => ?_)
            generalize wc.drew = w52 at HO_4 HO_5 HO_7 HO_1225001 HO_1225002 BK1224 HB HR1240 hHeld ⊢
            refine Z.pv 1 46 11 2 HT_.out ?_
            refine Z.pv 2 47 11 6 HT_.out ?_
            refine Z.pv 3 48 11 14 HT_.out ?_
            refine Z.pv 4 49 11 30 HT_.out ?_
            refine Z.t3 0 45 11 31 HT_.out HW_.out hHeld ?_
            refine one_ (i := 5) (N := some 50) (Z.mb 11 63) rfl rfl (one_of HT_.out (by kernel_rfl)) (by decide) (fun K hK => ?_)
            refine goes_ Try.func30 (by kernel_rfl) rfl #[.agg #[.int .i64 t1208, .slice Ao12 t1209.length co12, .slice Ao13 t1212.length co13], .slice Ao14 t1215.length co14, .slice Ao20 y1237.length co20] (by rfl) rfl rfl Z.ar ?_
            with_reducible refine (impl_AfterActs.calls kj25 t1208 _ _ t1209 _ _ t1212 _ _ t1215 _ _ y1237 t1241 t1244 _ ?q1 ?q2 ?q3 ?q4 ?q5 ?q6 ?q7 ?q8 A35.out).mono ?_
            (case q1 => exact (Kd.R_reads' HO_1225001.out).2.2)
            (case q2 => exact (Kd.R_reads' HO_1225001.out).2.1)
            (case q3 => exact (Kd.R_reads' HO_1225002.out).2.2)
            (case q4 => exact (Kd.R_reads' HO_1225002.out).2.1)
            (case q5 => exact (Kd.R_reads' HO_4.out).2.2)
            (case q6 => exact (Kd.R_reads' HO_4.out).2.1)
            (case q7 => exact HR1240.out)
            (case q8 => exact HC1240.out)
            rintro e w54 ⟨v1242, rfl, ho0, hb⟩
            refine ⟨_, rfl, ?_⟩
            replace HO_7 := Z.k (Kd.R_below HO_7.out hb)
            replace HO_1225002 := Z.k (Kd.R_below HO_1225002.out hb)
            have HO1243 := Z.k (Kd.R_lower (Kd.R_new' (Kd.R_new' (Kd.R_new' ho0 (Kd.R_lt HO_4.out)) (Kd.R_lt HO_5.out)) (Kd.R_lt HO_1225001.out)) (below_size (Z.bs HB.out GE1224.out)))
            replace HO_4 := Z.k (Kd.R_elder' HO_4.out (Kd.R_base ho0) hb)
            replace HO_5 := Z.k (Kd.R_elder' HO_5.out (Kd.R_base ho0) hb)
            replace HO_1225001 := Z.k (Kd.R_elder' HO_1225001.out (Kd.R_base ho0) hb)
            replace BK1224 := Z.bb BK1224 hb
            replace HR1240 := Z.k (Kd.C_below HR1240.out hb)
            replace HB := Z.st (Z.bs HB.out GE1224.out) hb
            (try clear hb)
            (try clear ho0)
            refine hK.out _ _ ⟨(blk_cell BK1224.out 0).trans rfl, (blk_cell BK1224.out 1).trans rfl, (blk_cell BK1224.out 2).trans rfl⟩ (fun hHeld => ?_)
            clear hK K
            refine Z.nm ?_
            refine Z.pv 6 44 11 127 HT_.out ?_
            refine Z.pv 7 51 11 255 HT_.out ?_
            refine Z.pv 8 52 11 511 HT_.out ?_
            refine Z.pv 9 9 11 1023 HT_.out ?_
            refine Z.pv 10 10 11 2047 HT_.out ?_
            refine done_ (done_of HT_.out (by kernel_rfl)) ?_
            try go_wp2
            go_ret
            exact ⟨by rfl, Z.bs HB.out GE1224.out⟩
/-- THE ONE PURE STATEMENT of laws_FnSafeActs: yours. -/
def laws_FnSafeActs.Pure : Prop := ∀ (l0 : List Int), l0.length ≤ maxLen → l0.length * 1 ≤ 140737488351232 → (∀ x ∈ l0, (Lit.int .u8 x).wf = true) → ∃ k, laws_FnSafeActs.f k l0 = some true
theorem laws_FnSafeActs.walk (P : laws_FnSafeActs.Pure) (a0 : Option Addr) (len0 cap0 : Nat) (z0 : List Int) (w : World) (w0 : (a0 = none ∧ len0 = 0 ∧ cap0 = 0 ∧ z0 = []) ∨ ∃ x, a0 = some x ∧ len0 ≤ cap0 ∧ cap0 ≤ maxLen ∧ z0.length = cap0 ∧ (∀ i, i < z0.length → w.cell? (x.add i) = some (.int .u8 (z0.getD i 0))) ∧ ∀ n ∈ z0, (Lit.int .u8 n).wf = true) (y0 : len0 * 1 ≤ 140737488351232) :
  Calls Try.prog 11 #[.slice a0 len0 cap0] w fun e w' => e = .returned (.bool true) ∧ Below w.heap.size w w' := by
 obtain ⟨l0, rfl, hr0, hm0, hw0, hc0⟩ := ReadsInt.ofRowC w0
 obtain ⟨k, h⟩ := P l0 hm0 y0 hw0
 refine (laws_FnSafeActs.calls k _ _ l0 true w (Kd.C_of_reads (d := (0 : Int)) (h1 := fun _ => rfl) hr0) hc0 h).mono ?_
 rintro e w' ⟨rfl, hd⟩
 exact ⟨rfl, hd⟩

end Go.Proofs.Ytojoblllgddckaa.PAll
