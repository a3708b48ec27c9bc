/- Walks of functions that laws of this seat reach, in the form of the print. -/
import Derived.Test.YtojoblllgddckaaCAll0
import Derived.Test.YtojoblllgddckaaCAll1
import Derived.Test.YtojoblllgddckaaCAll9
import Derived.Test.YtojoblllgddckaaCAll22
import Derived.Test.YtojoblllgddckaaCAll27
import Derived.Test.YtojoblllgddckaaCAll28
import Derived.Test.YtojoblllgddckaaCAll52
import Derived.Test.YtojoblllgddckaaZ
-- PRINTED
namespace Go.Proofs.Ytojoblllgddckaa.PAll
open Go.RowKit Go.Proofs.YtojoblllgddckaaW.PrintWords Go.Proofs.YtojoblllgddckaaW.PrintLast Go.Proofs.YtojoblllgddckaaW.PrintMore
attribute [local go_sem] max2_int min2_int max_two min_two max_three min_three max_four min_four
set_option linter.unusedVariables false
set_option linter.unusedSimpArgs false

/-! ### laws_FnFirstVoid: function 8 -/
mutual
def laws_FnFirstVoid.j0 : Nat → List Int → Option (Bool)
 | 0, _ => none
 | k + 1, x0 => (spec_DrawFirstVoid.f k x0).bind fun bt839 => ((impl_FirstVoid.f k bt839.1 bt839.2.1 bt839.2.2.1 bt839.2.2.2.1 bt839.2.2.2.2).bind fun t853 => ((spec_FirstVoid.f k bt839.1 bt839.2.1 bt839.2.2.1 bt839.2.2.2.1 bt839.2.2.2.2).bind fun t854 => (if t853 = t854 then (laws_FnFirstVoid.j1 k bt839.2.2.2.1 bt839.2.2.2.2 t853 bt839.1 bt839.2.1 bt839.2.2.1) else (some false))))
def laws_FnFirstVoid.j1 : Nat → List Int → List (S48) → Int → Int → List Int → List (List (S91)) → Option (Bool)
 | 0, _, _, _, _, _, _ => none
 | k + 1, x4, x5, x6, x853000, x853001, x853002 => (impl_AfterActs.f k x853000 x853001 x853002 x4 x5).bind fun bt855 => (if x6 < 0 then (if x6 = (-1) then (if bt855.2 = (-1) then ((laws_alive.f).bind fun t859 => (some t859)) else (if bt855.2 = (x5.length : Int) then ((laws_alive.f).bind fun t860 => (some t860)) else (some false))) else (some false)) else (if 0 ≤ x6 then (if x6 ≤ (x5.length : Int) then ((impl_AfterActs.f k x853000 x853001 x853002 x4 (x5.take (x6 : Int).toNat)).bind fun bt865 => (if 0 ≤ (wrap64 (x6 + 1)) then (if (wrap64 (x6 + 1)) ≤ (x5.length : Int) then ((impl_AfterActs.f k x853000 x853001 x853002 x4 (x5.take ((wrap64 (x6 + 1)) : Int).toNat)).bind fun bt873 => (if bt865.2 = x6 then (if bt873.2 = x6 then (some (decide (bt855.2 < (x5.length : Int)))) else (some false)) else (some false))) else (none)) else (none))) else (none)) else (none)))
end
def laws_FnFirstVoid.f (k : Nat) (l0 : List Int) : Option (Bool) := if (l0.length : Int) > 1048576 then (some true) else (laws_FnFirstVoid.j0 k l0)
def laws_FnFirstVoid.T10 : Bool × List (List Nat × List Nat) := (true, [([], []), ([], []), ([], []), ([], []), ([2, 3], [2, 3]), ([0, 1, 4], [0, 1, 4]), ([5], [5]), ([6], [6]), ([6], [6]), ([7, 5, 0, 1, 2, 3, 4, 5, 6, 7], [7]), ([8, 9, 0, 1, 2, 3, 4, 5, 6, 7, 8, 9], [8])])
def laws_FnFirstVoid.B10 : List Nat := [0, 0, 0, 0, 12, 31, 63, 127, 127, 255, 1023]
theorem laws_FnFirstVoid.tab10 : rtab .any (opsOf Try.f8 10) = laws_FnFirstVoid.T10 := by kernel_rfl
theorem laws_FnFirstVoid.bits10 : waitsOk laws_FnFirstVoid.T10.2 laws_FnFirstVoid.B10 = true := by kernel_rfl
def laws_FnFirstVoid.T11 : Bool × List (List Nat × List Nat) := (true, [([], []), ([], []), ([], []), ([], []), ([3], [3]), ([2, 4], [2, 4]), ([0, 1, 5], [0, 1, 5]), ([6], [6]), ([7], [7]), ([7], [7]), ([8, 6, 0, 1, 2, 3, 4, 5, 6, 7, 8], [8]), ([9, 10, 0, 1, 2, 3, 4, 5, 6, 7, 8, 9, 10], [9])])
def laws_FnFirstVoid.B11 : List Nat := [0, 0, 0, 0, 8, 28, 63, 127, 255, 255, 511, 2047]
theorem laws_FnFirstVoid.tab11 : rtab .any (opsOf Try.f8 11) = laws_FnFirstVoid.T11 := by kernel_rfl
theorem laws_FnFirstVoid.bits11 : waitsOk laws_FnFirstVoid.T11.2 laws_FnFirstVoid.B11 = true := by kernel_rfl
set_option maxHeartbeats 8000000 in
set_option maxRecDepth 100000 in
theorem laws_FnFirstVoid.calls (k : Nat) (A0 : Option Addr) (c0 : Nat) (l0 : List Int) (r : Bool) (w : World) (hr0 : Kd.C (Kd.int .u8) w A0 l0.length l0) (hc0 : l0.length ≤ c0) (h : laws_FnFirstVoid.f k l0 = some r) :
  Calls Try.prog 8 #[.slice A0 l0.length c0] w fun e w' => e = .returned (.bool r) ∧ Below w.heap.size w w' := by
 have hu46 := Try.underlying46
 have HR0 := Z.k hr0
 have HC0 := Z.k hc0
 clear hr0 hc0
 have HB := Z.k (Below.refl w.heap.size w)
 have H := h
 clear h
 unfold laws_FnFirstVoid.f at H
 have HC2 := Z.k H
 clear H
 go_enter Try.func8, Try.ntmps8
 go_upto_if 15 with (fail)
 go_cut [] (fun wc => ∃ (kq : Nat), Aside0 (laws_FnFirstVoid.j0 kq l0 = some r) ∧ Aside0 (kq ≤ k) ∧ Aside0 (Below w.heap.size w wc))
 case first =>
  have H := HC2.out
  clear HC2
  by_cases c3 : (l0.length : Int) > 1048576
  ·rw [if_pos c3] at H
   have c3b0 : decide (1048576 < (l0.length : Int)) = true := decide_eq_true c3
   have c3b1 : decide (1048576 < l0.length) = true := decide_eq_true (by omega)
   clear c3
   (rw [c3b0])
   obtain rfl := Option.some.inj H
   go_wp2
   go_ret
   exact ⟨by rfl, Z.bl HB.out⟩
  ·rw [if_neg c3] at H
   have c3b0 : decide (1048576 < (l0.length : Int)) = false := decide_eq_false c3
   have c3b1 : decide (1048576 < l0.length) = false := decide_eq_false (by omega)
   clear c3
   (rw [c3b0])
   have H' := Z.k H
   clear H
   go_wp2
   go_meet
   case rel => exact ⟨_, H', ⟨by omega⟩, ⟨Z.bl HB.out⟩⟩
 case rest =>
  clear HC2
  obtain ⟨kq, HA, HJ1, HB⟩ := hcut
  cases kq with
  | zero => exact absurd HA.out (by simp [laws_FnFirstVoid.j0])
  | succ kj1 =>
   have H := HA.out
   clear HA
   simp only [laws_FnFirstVoid.j0] at H
   replace H := Option.bind_eq_some_iff.mp H
   obtain ⟨⟨t839, t840, t843, t846, t849⟩, A40, H⟩ := H
   try dsimp only at H
   have A4 := Z.k A40
   clear A40
   replace H := Option.bind_eq_some_iff.mp H
   obtain ⟨t853, A50, H⟩ := H
   have A5 := Z.k A50
   clear A50
   replace H := Option.bind_eq_some_iff.mp H
   obtain ⟨t854, A60, H⟩ := H
   have A6 := Z.k A60
   clear A60
   have HC7 := Z.k H
   clear H
   go_upto_if 31 with (first | ((with_reducible refine gate_callee (f := 32) rfl ?_); refine goesL_ (some 18) rfl rfl Try.func32 (by kernel_rfl) rfl #[.slice A0 l0.length c0] rfl Z.ar ?_; (with_reducible refine (spec_DrawFirstVoid.calls kj1 _ _ l0 t839 t840 t843 t846 t849 _ ?q1 ?q2 A4.out).mono ?_); (case q1 => exact Z.cc HR0 HB); (case q2 => exact HC0.out); rintro e w8 ⟨v841, v844, v847, v850, rfl, ho0, ho1, ho2, ho3, hb⟩; refine ⟨_, rfl, ?_⟩; have HO842 := Z.k (Kd.R_lower ho0 (below_size (Z.bl HB.out))); have HO845 := Z.k (Kd.R_lower ho1 (below_size (Z.bl HB.out))); have HO848 := Z.k (Kd.R_lower ho2 (below_size (Z.bl HB.out))); have HO851 := Z.k (Kd.R_lower ho3 (below_size (Z.bl HB.out))); replace HB := Z.st (Z.bl HB.out) hb; (try clear hb); (try clear ho0); (try clear ho1); (try clear ho2); (try clear ho3)) | ((with_reducible refine gate_dst (N := 3) rfl ?_); (try (refine gate_guard (by rfl) ?_; dsimp only)); refine Z.bx #[.int .i64 0, .slice none 0 0, .slice none 0 0] 46 HB ?_; clear HB; intro gb852 w9 BK852 GE852 HB hg hb; have GW852 := GE852; replace HO842 := Z.k (Kd.R_below HO842.out hb); replace HO845 := Z.k (Kd.R_below HO845.out hb); replace HO848 := Z.k (Kd.R_below HO848.out hb); replace HO851 := Z.k (Kd.R_below HO851.out hb); clear hb hg; have hcz10 := Z.c3 BK852.out; obtain ⟨Ao11, co11, eo11⟩ := Kd.R_slice HO842.out; subst eo11; obtain ⟨Ao12, co12, eo12⟩ := Kd.R_slice HO845.out; subst eo12; obtain ⟨Ao13, co13, eo13⟩ := Kd.R_slice HO848.out; subst eo13; obtain ⟨Ao14, co14, eo14⟩ := Kd.R_slice HO851.out; subst eo14) | ((with_reducible refine gate_callee (f := 33) rfl ?_); refine goesL_ (some 25) rfl rfl Try.func33 (by kernel_rfl) rfl #[.agg #[.int .i64 t839, .slice Ao11 t840.length co11, .slice Ao12 t843.length co12], .slice Ao13 t846.length co13, .slice Ao14 t849.length co14] rfl Z.ar ?_; (with_reducible refine (impl_FirstVoid.calls kj1 t839 _ _ t840 _ _ t843 _ _ t846 _ _ t849 t853 _ ?q1 ?q2 ?q3 ?q4 ?q5 ?q6 ?q7 ?q8 A5.out).mono ?_); (case q1 => refine (Kd.R_reads' (e := 3) (base := w.heap.size) (ok := fun k_ => some k_ ≠ (.slice Ao13 t846.length co13 : Value).ownBlock) (n := t840.length) (c := co11) ?_).2.2; exact (Kd.R_mono (Kd.R_far (p := ⟨gb852, 2, none⟩) (Kd.R_far (p := ⟨gb852, 1, none⟩) (Kd.R_far (p := ⟨gb852, 0, none⟩) (Kd.R_types HO842.out BK852.out (by decide)) (fun _ hk => hk.2) (.int .i64 t839)) (fun _ hk => hk.2) (.slice Ao11 t840.length co11)) (fun _ hk => hk.2) (.slice Ao12 t843.length co12)) (fun _ h_ => h_.1))); (case q2 => exact (Kd.R_reads' HO842.out).2.1); (case q3 => refine (Kd.R_reads' (e := 56) (base := w.heap.size) (ok := fun k_ => True) (n := t843.length) (c := co12) ?_).2.2; exact (Kd.R_mono (Kd.R_far (p := ⟨gb852, 2, none⟩) (Kd.R_far (p := ⟨gb852, 1, none⟩) (Kd.R_far (p := ⟨gb852, 0, none⟩) (Kd.R_types HO845.out BK852.out (by decide)) (fun _ hk => hk.2) (.int .i64 t839)) (fun _ hk => hk.2) (.slice Ao11 t840.length co11)) (fun _ hk => hk.2) (.slice Ao12 t843.length co12)) (fun _ h_ => h_.1))); (case q4 => exact (Kd.R_reads' HO845.out).2.1); (case q5 => refine (Kd.R_reads' (e := 3) (base := w.heap.size) (ok := fun k_ => some k_ ≠ (.slice Ao11 t840.length co11 : Value).ownBlock) (n := t846.length) (c := co13) ?_).2.2; exact (Kd.R_mono (Kd.R_far (p := ⟨gb852, 2, none⟩) (Kd.R_far (p := ⟨gb852, 1, none⟩) (Kd.R_far (p := ⟨gb852, 0, none⟩) (Kd.R_types HO848.out BK852.out (by decide)) (fun _ hk => hk.2) (.int .i64 t839)) (fun _ hk => hk.2) (.slice Ao11 t840.length co11)) (fun _ hk => hk.2) (.slice Ao12 t843.length co12)) (fun _ h_ => h_.1))); (case q6 => exact (Kd.R_reads' HO848.out).2.1); (case q7 => refine (Kd.R_reads' (e := 48) (base := w.heap.size) (ok := fun k_ => True) (n := t849.length) (c := co14) ?_).2.2; exact (Kd.R_mono (Kd.R_far (p := ⟨gb852, 2, none⟩) (Kd.R_far (p := ⟨gb852, 1, none⟩) (Kd.R_far (p := ⟨gb852, 0, none⟩) (Kd.R_types HO851.out BK852.out (by decide)) (fun _ hk => hk.2) (.int .i64 t839)) (fun _ hk => hk.2) (.slice Ao11 t840.length co11)) (fun _ hk => hk.2) (.slice Ao12 t843.length co12)) (fun _ h_ => h_.1))); (case q8 => exact (Kd.R_reads' HO851.out).2.1); rintro e w15 ⟨rfl, hb⟩; refine ⟨_, rfl, ?_⟩; replace HO842 := Z.k (Kd.R_below (Kd.R_mono (Kd.R_far (p := ⟨gb852, 2, none⟩) (Kd.R_far (p := ⟨gb852, 1, none⟩) (Kd.R_far (p := ⟨gb852, 0, none⟩) (Kd.R_types HO842.out BK852.out (by decide)) (fun _ hk => hk.2) (.int .i64 t839)) (fun _ hk => hk.2) (.slice Ao11 t840.length co11)) (fun _ hk => hk.2) (.slice Ao12 t843.length co12)) (fun _ h_ => h_.1)) hb); replace HO845 := Z.k (Kd.R_below (Kd.R_mono (Kd.R_far (p := ⟨gb852, 2, none⟩) (Kd.R_far (p := ⟨gb852, 1, none⟩) (Kd.R_far (p := ⟨gb852, 0, none⟩) (Kd.R_types HO845.out BK852.out (by decide)) (fun _ hk => hk.2) (.int .i64 t839)) (fun _ hk => hk.2) (.slice Ao11 t840.length co11)) (fun _ hk => hk.2) (.slice Ao12 t843.length co12)) (fun _ h_ => h_.1)) hb); replace HO848 := Z.k (Kd.R_below (Kd.R_mono (Kd.R_far (p := ⟨gb852, 2, none⟩) (Kd.R_far (p := ⟨gb852, 1, none⟩) (Kd.R_far (p := ⟨gb852, 0, none⟩) (Kd.R_types HO848.out BK852.out (by decide)) (fun _ hk => hk.2) (.int .i64 t839)) (fun _ hk => hk.2) (.slice Ao11 t840.length co11)) (fun _ hk => hk.2) (.slice Ao12 t843.length co12)) (fun _ h_ => h_.1)) hb); replace HO851 := Z.k (Kd.R_below (Kd.R_mono (Kd.R_far (p := ⟨gb852, 2, none⟩) (Kd.R_far (p := ⟨gb852, 1, none⟩) (Kd.R_far (p := ⟨gb852, 0, none⟩) (Kd.R_types HO851.out BK852.out (by decide)) (fun _ hk => hk.2) (.int .i64 t839)) (fun _ hk => hk.2) (.slice Ao11 t840.length co11)) (fun _ hk => hk.2) (.slice Ao12 t843.length co12)) (fun _ h_ => h_.1)) hb); replace BK852 := Z.k (blk_below (g := gb852) (o := .cells #[.int .i64 t839, .slice Ao11 t840.length co11, .slice Ao12 t843.length co12] 46 (0, 0)) (by refine blk_put (cs := #[.int .i64 t839, .slice Ao11 t840.length co11, .slice none 0 0]) ?_ 2 _ rfl; refine blk_put (cs := #[.int .i64 t839, .slice none 0 0, .slice none 0 0]) ?_ 1 _ rfl; refine blk_put (cs := #[.int .i64 0, .slice none 0 0, .slice none 0 0]) ?_ 0 _ rfl; exact BK852.out) hb); replace HB := Z.st (Z.bs HB.out GE852.out) hb; (try clear hb); have hcz16 := Z.c3 BK852.out) | ((with_reducible refine gate_callee (f := 34) rfl ?_); refine goesL_ (some 30) rfl rfl Try.func34 (by kernel_rfl) rfl #[.agg #[.int .i64 t839, .slice Ao11 t840.length co11, .slice Ao12 t843.length co12], .slice Ao13 t846.length co13, .slice Ao14 t849.length co14] rfl Z.ar ?_; (with_reducible refine (spec_FirstVoid.calls kj1 t839 _ _ t840 _ _ t843 _ _ t846 _ _ t849 t854 _ ?q1 ?q2 ?q3 ?q4 ?q5 ?q6 ?q7 ?q8 A6.out).mono ?_); (case q1 => exact (Kd.R_reads' HO842.out).2.2); (case q2 => exact (Kd.R_reads' HO842.out).2.1); (case q3 => exact (Kd.R_reads' HO845.out).2.2); (case q4 => exact (Kd.R_reads' HO845.out).2.1); (case q5 => exact (Kd.R_reads' HO848.out).2.2); (case q6 => exact (Kd.R_reads' HO848.out).2.1); (case q7 => exact (Kd.R_reads' HO851.out).2.2); (case q8 => exact (Kd.R_reads' HO851.out).2.1); rintro e w17 ⟨rfl, hb⟩; refine ⟨_, rfl, ?_⟩; replace HO842 := Z.k (Kd.R_below HO842.out hb); replace HO845 := Z.k (Kd.R_below HO845.out hb); replace HO848 := Z.k (Kd.R_below HO848.out hb); replace HO851 := Z.k (Kd.R_below HO851.out hb); replace BK852 := Z.bb BK852 hb; replace HB := Z.st (Z.bs HB.out GE852.out) hb; (try clear hb)))
   go_cut [] (fun wc => ∃ (kq : Nat), Aside0 (laws_FnFirstVoid.j1 kq t846 t849 t853 t839 t840 t843 = some r) ∧ Aside0 (kq ≤ kj1) ∧ Aside0 (Kd.R (Kd.int .i64) 3 wc w.heap.size (fun k_ => some k_ ≠ ((.slice Ao11 t840.length co11) : Value).ownBlock) (.slice Ao13 t846.length co13) t846) ∧ Aside0 (Kd.R k48 48 wc w.heap.size (fun _ => True) (.slice Ao14 t849.length co14) t849) ∧ Aside0 (Kd.R (Kd.int .i64) 3 wc w.heap.size (fun k_ => some k_ ≠ ((.slice Ao13 t846.length co13) : Value).ownBlock) (.slice Ao11 t840.length co11) t840) ∧ Aside0 (Kd.R (Kd.slice 91 k91) 56 wc w.heap.size (fun _ => True) (.slice Ao12 t843.length co12) t843) ∧ Aside0 (wc.heap[gb852]? = some (.cells #[.int .i64 t839, (.slice Ao11 t840.length co11), (.slice Ao12 t843.length co12)] 46 (0, 0))) ∧ Aside0 (Below w.heap.size w wc))
   case first =>
    have H := HC7.out
    clear HC7
    by_cases c18 : t853 = t854
    ·rw [if_pos c18] at H
     have c18b0 : (t853 == t854) = true := beq_iff_eq.mpr c18
     have c18b1 : (t853 != t854) = false := bne_eq_false_iff_eq.mpr c18
     clear c18
     have H' := Z.k H
     clear H
     go_wp2
     go_meet
     case rel => exact ⟨_, H', ⟨by have := HJ1.out; omega⟩, ⟨by exact HO848.out⟩, ⟨by exact HO851.out⟩, ⟨by exact HO842.out⟩, ⟨by exact HO845.out⟩, ⟨by exact BK852.out⟩, ⟨Z.bs HB.out GE852.out⟩⟩
    ·rw [if_neg c18] at H
     have c18b0 : (t853 == t854) = false := beq_eq_false_iff_ne.mpr c18
     have c18b1 : (t853 != t854) = true := bne_iff_ne.mpr c18
     obtain rfl := Option.some.inj H
     go_wp2
     go_ret
     exact ⟨by rfl, Z.bs HB.out GE852.out⟩
   case rest =>
    clear HC7
    obtain ⟨kq, HA, HJ6, HO_4, HO_5, HO_853001, HO_853002, BK852, HB⟩ := hcut
    cases kq with
    | zero => exact absurd HA.out (by simp [laws_FnFirstVoid.j1])
    | succ kj6 =>
     have H := HA.out
     clear HA
     simp only [laws_FnFirstVoid.j1] at H
     replace H := Option.bind_eq_some_iff.mp H
     obtain ⟨⟨t855, t858⟩, A190, H⟩ := H
     try dsimp only at H
     have A19 := Z.k A190
     clear A190
     by_cases c20 : t853 < 0
     ·rw [if_pos c20] at H
      have c20b0 := decide_eq_true c20
      clear c20
      by_cases c21 : t853 = (-1)
      ·rw [if_pos c21] at H
       have c21b0 : (t853 == (-1)) = true := beq_iff_eq.mpr c21
       have c21b1 : (t853 != (-1)) = false := bne_eq_false_iff_eq.mpr c21
       clear c21
       by_cases c22 : t858 = (-1)
       ·rw [if_pos c22] at H
        have c22b0 : (t858 == (-1)) = true := beq_iff_eq.mpr c22
        have c22b1 : (t858 != (-1)) = false := bne_eq_false_iff_eq.mpr c22
        clear c22
        replace H := Option.bind_eq_some_iff.mp H
        obtain ⟨t859, A230, H⟩ := H
        have A23 := Z.k A230
        clear A230
        obtain rfl := Option.some.inj H
        have hcz24 := Z.c3 BK852.out
        go_wp2_with (first | ((with_reducible refine gate_callee (f := 30) rfl ?_); refine goesL_ (some 36) rfl rfl Try.func30 (by kernel_rfl) rfl #[.agg #[.int .i64 t839, .slice Ao11 t840.length co11, .slice Ao12 t843.length co12], .slice Ao13 t846.length co13, .slice Ao14 t849.length co14] rfl Z.ar ?_; (with_reducible refine (impl_AfterActs.calls kj6 t839 _ _ t840 _ _ t843 _ _ t846 _ _ t849 t855 t858 _ ?q1 ?q2 ?q3 ?q4 ?q5 ?q6 ?q7 ?q8 A19.out).mono ?_); (case q1 => exact (Kd.R_reads' HO_853001.out).2.2); (case q2 => exact (Kd.R_reads' HO_853001.out).2.1); (case q3 => exact (Kd.R_reads' HO_853002.out).2.2); (case q4 => exact (Kd.R_reads' HO_853002.out).2.1); (case q5 => exact (Kd.R_reads' HO_4.out).2.2); (case q6 => exact (Kd.R_reads' HO_4.out).2.1); (case q7 => exact (Kd.R_reads' HO_5.out).2.2); (case q8 => exact (Kd.R_reads' HO_5.out).2.1); rintro e w25 ⟨v856, rfl, ho0, hb⟩; refine ⟨_, rfl, ?_⟩; replace HO_5 := Z.k (Kd.R_below HO_5.out hb); replace HO_853002 := Z.k (Kd.R_below HO_853002.out hb); have HO857 := Z.k (Kd.R_lower (Kd.R_new' (Kd.R_new' ho0 (Kd.R_lt HO_4.out)) (Kd.R_lt HO_853001.out)) (below_size (Z.bs HB.out GE852.out))); replace HO_4 := Z.k (Kd.R_elder' HO_4.out (Kd.R_base ho0) hb); replace HO_853001 := Z.k (Kd.R_elder' HO_853001.out (Kd.R_base ho0) hb); replace BK852 := Z.bb BK852 hb; replace HB := Z.st (Z.bs HB.out GE852.out) hb; (try clear hb); (try clear ho0)) | (go_at_call 15; (with_reducible refine (laws_alive.calls  t859 _ A23.out).mono ?_); rintro e w' ⟨rfl, ⟨nd, rfl⟩⟩))
        go_ret
        exact ⟨by rfl, Z.bs HB.out GE852.out⟩
       ·rw [if_neg c22] at H
        have c22b0 : (t858 == (-1)) = false := beq_eq_false_iff_ne.mpr c22
        have c22b1 : (t858 != (-1)) = true := bne_iff_ne.mpr c22
        by_cases c26 : t858 = (t849.length : Int)
        ·rw [if_pos c26] at H
         have c26b0 : (t858 == (t849.length : Int)) = true := beq_iff_eq.mpr c26
         have c26b1 : (t858 != (t849.length : Int)) = false := bne_eq_false_iff_eq.mpr c26
         clear c26
         replace H := Option.bind_eq_some_iff.mp H
         obtain ⟨t860, A270, H⟩ := H
         have A27 := Z.k A270
         clear A270
         obtain rfl := Option.some.inj H
         have hcz28 := Z.c3 BK852.out
         go_wp2_with (first | ((with_reducible refine gate_callee (f := 30) rfl ?_); refine goesL_ (some 36) rfl rfl Try.func30 (by kernel_rfl) rfl #[.agg #[.int .i64 t839, .slice Ao11 t840.length co11, .slice Ao12 t843.length co12], .slice Ao13 t846.length co13, .slice Ao14 t849.length co14] rfl Z.ar ?_; (with_reducible refine (impl_AfterActs.calls kj6 t839 _ _ t840 _ _ t843 _ _ t846 _ _ t849 t855 t858 _ ?q1 ?q2 ?q3 ?q4 ?q5 ?q6 ?q7 ?q8 A19.out).mono ?_); (case q1 => exact (Kd.R_reads' HO_853001.out).2.2); (case q2 => exact (Kd.R_reads' HO_853001.out).2.1); (case q3 => exact (Kd.R_reads' HO_853002.out).2.2); (case q4 => exact (Kd.R_reads' HO_853002.out).2.1); (case q5 => exact (Kd.R_reads' HO_4.out).2.2); (case q6 => exact (Kd.R_reads' HO_4.out).2.1); (case q7 => exact (Kd.R_reads' HO_5.out).2.2); (case q8 => exact (Kd.R_reads' HO_5.out).2.1); rintro e w29 ⟨v856, rfl, ho0, hb⟩; refine ⟨_, rfl, ?_⟩; replace HO_5 := Z.k (Kd.R_below HO_5.out hb); replace HO_853002 := Z.k (Kd.R_below HO_853002.out hb); have HO857 := Z.k (Kd.R_lower (Kd.R_new' (Kd.R_new' ho0 (Kd.R_lt HO_4.out)) (Kd.R_lt HO_853001.out)) (below_size (Z.bs HB.out GE852.out))); replace HO_4 := Z.k (Kd.R_elder' HO_4.out (Kd.R_base ho0) hb); replace HO_853001 := Z.k (Kd.R_elder' HO_853001.out (Kd.R_base ho0) hb); replace BK852 := Z.bb BK852 hb; replace HB := Z.st (Z.bs HB.out GE852.out) hb; (try clear hb); (try clear ho0)) | (go_at_call 15; (with_reducible refine (laws_alive.calls  t860 _ A27.out).mono ?_); rintro e w' ⟨rfl, ⟨nd, rfl⟩⟩))
         go_ret
         exact ⟨by rfl, Z.bs HB.out GE852.out⟩
        ·rw [if_neg c26] at H
         have c26b0 : (t858 == (t849.length : Int)) = false := beq_eq_false_iff_ne.mpr c26
         have c26b1 : (t858 != (t849.length : Int)) = true := bne_iff_ne.mpr c26
         obtain rfl := Option.some.inj H
         have hcz30 := Z.c3 BK852.out
         go_wp2_with (((with_reducible refine gate_callee (f := 30) rfl ?_); refine goesL_ (some 36) rfl rfl Try.func30 (by kernel_rfl) rfl #[.agg #[.int .i64 t839, .slice Ao11 t840.length co11, .slice Ao12 t843.length co12], .slice Ao13 t846.length co13, .slice Ao14 t849.length co14] rfl Z.ar ?_; (with_reducible refine (impl_AfterActs.calls kj6 t839 _ _ t840 _ _ t843 _ _ t846 _ _ t849 t855 t858 _ ?q1 ?q2 ?q3 ?q4 ?q5 ?q6 ?q7 ?q8 A19.out).mono ?_); (case q1 => exact (Kd.R_reads' HO_853001.out).2.2); (case q2 => exact (Kd.R_reads' HO_853001.out).2.1); (case q3 => exact (Kd.R_reads' HO_853002.out).2.2); (case q4 => exact (Kd.R_reads' HO_853002.out).2.1); (case q5 => exact (Kd.R_reads' HO_4.out).2.2); (case q6 => exact (Kd.R_reads' HO_4.out).2.1); (case q7 => exact (Kd.R_reads' HO_5.out).2.2); (case q8 => exact (Kd.R_reads' HO_5.out).2.1); rintro e w31 ⟨v856, rfl, ho0, hb⟩; refine ⟨_, rfl, ?_⟩; replace HO_5 := Z.k (Kd.R_below HO_5.out hb); replace HO_853002 := Z.k (Kd.R_below HO_853002.out hb); have HO857 := Z.k (Kd.R_lower (Kd.R_new' (Kd.R_new' ho0 (Kd.R_lt HO_4.out)) (Kd.R_lt HO_853001.out)) (below_size (Z.bs HB.out GE852.out))); replace HO_4 := Z.k (Kd.R_elder' HO_4.out (Kd.R_base ho0) hb); replace HO_853001 := Z.k (Kd.R_elder' HO_853001.out (Kd.R_base ho0) hb); replace BK852 := Z.bb BK852 hb; replace HB := Z.st (Z.bs HB.out GE852.out) hb; (try clear hb); (try clear ho0)))
         go_ret
         exact ⟨by rfl, Z.bs HB.out GE852.out⟩
      ·rw [if_neg c21] at H
       have c21b0 : (t853 == (-1)) = false := beq_eq_false_iff_ne.mpr c21
       have c21b1 : (t853 != (-1)) = true := bne_iff_ne.mpr c21
       obtain rfl := Option.some.inj H
       have hcz32 := Z.c3 BK852.out
       go_wp2_with (((with_reducible refine gate_callee (f := 30) rfl ?_); refine goesL_ (some 36) rfl rfl Try.func30 (by kernel_rfl) rfl #[.agg #[.int .i64 t839, .slice Ao11 t840.length co11, .slice Ao12 t843.length co12], .slice Ao13 t846.length co13, .slice Ao14 t849.length co14] rfl Z.ar ?_; (with_reducible refine (impl_AfterActs.calls kj6 t839 _ _ t840 _ _ t843 _ _ t846 _ _ t849 t855 t858 _ ?q1 ?q2 ?q3 ?q4 ?q5 ?q6 ?q7 ?q8 A19.out).mono ?_); (case q1 => exact (Kd.R_reads' HO_853001.out).2.2); (case q2 => exact (Kd.R_reads' HO_853001.out).2.1); (case q3 => exact (Kd.R_reads' HO_853002.out).2.2); (case q4 => exact (Kd.R_reads' HO_853002.out).2.1); (case q5 => exact (Kd.R_reads' HO_4.out).2.2); (case q6 => exact (Kd.R_reads' HO_4.out).2.1); (case q7 => exact (Kd.R_reads' HO_5.out).2.2); (case q8 => exact (Kd.R_reads' HO_5.out).2.1); rintro e w33 ⟨v856, rfl, ho0, hb⟩; refine ⟨_, rfl, ?_⟩; replace HO_5 := Z.k (Kd.R_below HO_5.out hb); replace HO_853002 := Z.k (Kd.R_below HO_853002.out hb); have HO857 := Z.k (Kd.R_lower (Kd.R_new' (Kd.R_new' ho0 (Kd.R_lt HO_4.out)) (Kd.R_lt HO_853001.out)) (below_size (Z.bs HB.out GE852.out))); replace HO_4 := Z.k (Kd.R_elder' HO_4.out (Kd.R_base ho0) hb); replace HO_853001 := Z.k (Kd.R_elder' HO_853001.out (Kd.R_base ho0) hb); replace BK852 := Z.bb BK852 hb; replace HB := Z.st (Z.bs HB.out GE852.out) hb; (try clear hb); (try clear ho0)))
       go_ret
       exact ⟨by rfl, Z.bs HB.out GE852.out⟩
     ·rw [if_neg c20] at H
      have c20b0 := decide_eq_false c20
      clear c20
      obtain ⟨c34, H⟩ := Z.ifp H
      have c34b0 := eq_true c34
      have c34b1 : decide (0 ≤ t853) = true := decide_eq_true c34
      clear c34
      obtain ⟨c35, H⟩ := Z.ifp H
      have c35b0 := eq_true c35
      have c35b1 : decide (t853 ≤ (t849.length : Int)) = true := decide_eq_true c35
      clear c35
      obtain ⟨y861, hy861⟩ : ∃ y_ : List (S48), y_ = (t849.take (t853 : Int).toNat) := ⟨_, rfl⟩
      replace H : ((impl_AfterActs.f kj6 t839 t840 t843 t846 y861).bind fun bt865 => (if 0 ≤ (wrap64 (t853 + 1)) then (if (wrap64 (t853 + 1)) ≤ (t849.length : Int) then ((impl_AfterActs.f kj6 t839 t840 t843 t846 (t849.take ((wrap64 (t853 + 1)) : Int).toNat)).bind fun bt873 => (if bt865.2 = t853 then (if bt873.2 = t853 then (some (decide (t858 < (t849.length : Int)))) else (some false)) else (some false))) else (none)) else (none))) = some r := by (rw [hy861]; with_reducible exact H)
      have Ny861 := Z.k hy861
      clear hy861
      replace H := Option.bind_eq_some_iff.mp H
      obtain ⟨⟨t865, t868⟩, A360, H⟩ := H
      try dsimp only at H
      have A36 := Z.k A360
      clear A360
      obtain ⟨ji37, hji37⟩ : ∃ j_ : Int, (wrap64 (t853 + 1)) = j_ := ⟨_, rfl⟩
      replace H : (if 0 ≤ (ji37) then (if (ji37) ≤ (t849.length : Int) then ((impl_AfterActs.f kj6 t839 t840 t843 t846 (t849.take ((ji37) : Int).toNat)).bind fun bt873 => (if t868 = t853 then (if bt873.2 = t853 then (some (decide (t858 < (t849.length : Int)))) else (some false)) else (some false))) else (none)) else (none)) = some r := by (rw [hji37] at H; exact H)
      have hji37w : (IntKind.i64.wrap (t853 + 1)) = ji37 := (i64_w _).trans hji37
      obtain ⟨c38, H⟩ := Z.ifp H
      have c38b0 := eq_true c38
      have c38b1 : decide (0 ≤ (ji37)) = true := decide_eq_true c38
      clear c38
      obtain ⟨c39, H⟩ := Z.ifp H
      have c39b0 := eq_true c39
      have c39b1 : decide ((ji37) ≤ (t849.length : Int)) = true := decide_eq_true c39
      clear c39
      obtain ⟨y869, hy869⟩ : ∃ y_ : List (S48), y_ = (t849.take ((ji37) : Int).toNat) := ⟨_, rfl⟩
      replace H : ((impl_AfterActs.f kj6 t839 t840 t843 t846 y869).bind fun bt873 => (if t868 = t853 then (if bt873.2 = t853 then (some (decide (t858 < (t849.length : Int)))) else (some false)) else (some false))) = some r := by (rw [hy869]; with_reducible exact H)
      have Ny869 := Z.k hy869
      clear hy869
      replace H := Option.bind_eq_some_iff.mp H
      obtain ⟨⟨t873, t876⟩, A400, H⟩ := H
      try dsimp only at H
      have A40 := Z.k A400
      clear A400
      by_cases c41 : t868 = t853
      ·rw [if_pos c41] at H
       have c41b0 : (t868 == t853) = true := beq_iff_eq.mpr c41
       have c41b1 : (t868 != t853) = false := bne_eq_false_iff_eq.mpr c41
       clear c41
       by_cases c42 : t876 = t853
       ·rw [if_pos c42] at H
        have c42b0 : (t876 == t853) = true := beq_iff_eq.mpr c42
        have c42b1 : (t876 != t853) = false := bne_eq_false_iff_eq.mpr c42
        clear c42
        obtain rfl := Option.some.inj H
        have hcz43 := Z.c3 BK852.out
        try go_wp2_with (((with_reducible refine gate_callee (f := 30) rfl ?_); refine goesL_ (some 36) rfl rfl Try.func30 (by kernel_rfl) rfl #[.agg #[.int .i64 t839, .slice Ao11 t840.length co11, .slice Ao12 t843.length co12], .slice Ao13 t846.length co13, .slice Ao14 t849.length co14] rfl Z.ar ?_; (with_reducible refine (impl_AfterActs.calls kj6 t839 _ _ t840 _ _ t843 _ _ t846 _ _ t849 t855 t858 _ ?q1 ?q2 ?q3 ?q4 ?q5 ?q6 ?q7 ?q8 A19.out).mono ?_); (case q1 => exact (Kd.R_reads' HO_853001.out).2.2); (case q2 => exact (Kd.R_reads' HO_853001.out).2.1); (case q3 => exact (Kd.R_reads' HO_853002.out).2.2); (case q4 => exact (Kd.R_reads' HO_853002.out).2.1); (case q5 => exact (Kd.R_reads' HO_4.out).2.2); (case q6 => exact (Kd.R_reads' HO_4.out).2.1); (case q7 => exact (Kd.R_reads' HO_5.out).2.2); (case q8 => exact (Kd.R_reads' HO_5.out).2.1); rintro e w44 ⟨v856, rfl, ho0, hb⟩; refine ⟨_, rfl, ?_⟩; replace HO_5 := Z.k (Kd.R_below HO_5.out hb); replace HO_853002 := Z.k (Kd.R_below HO_853002.out hb); have HO857 := Z.k (Kd.R_lower (Kd.R_new' (Kd.R_new' ho0 (Kd.R_lt HO_4.out)) (Kd.R_lt HO_853001.out)) (below_size (Z.bs HB.out GE852.out))); replace HO_4 := Z.k (Kd.R_elder' HO_4.out (Kd.R_base ho0) hb); replace HO_853001 := Z.k (Kd.R_elder' HO_853001.out (Kd.R_base ho0) hb); replace BK852 := Z.bb BK852 hb; replace HB := Z.st (Z.bs HB.out GE852.out) hb; (try clear hb); (try clear ho0)))
        replace HO_4 := Z.k (Kd.R_drew HO_4.out)
        replace HO_5 := Z.k (Kd.R_drew HO_5.out)
        replace HO_853001 := Z.k (Kd.R_drew HO_853001.out)
        replace HO_853002 := Z.k (Kd.R_drew HO_853002.out)
        replace HO857 := Z.k (Kd.R_drew HO857.out)
        replace BK852 := Z.k (blk_drew BK852.out)
        replace HB := Z.k (below_drew1 HB.out)
        have q46 : (t853 : Int) ≤ ((t849.length : Int) : Int) := Z.od
        obtain ⟨i046, hi046, _, hsz46, _⟩ := info_parts info48
        have hroom46 : t849.length ≤ co14 := (Kd.R_reads' HO_5.out).2.1
        have hC46 : Kd.C k48 _ Ao14 t849.length t849 := (Kd.R_reads' HO_5.out).2.2
        have hcut46 := cut_to (P := Try.prog) 58 48 .i64 Try.underlying58 hi046 Ao14 t849.length co14 t853 (Z.od) q46 hroom46
        have hr46 := Kd.C_take (m := (t853 : Int).toNat) hC46 (by omega)
        have hy46 : y861.length = (t853 : Int).toNat := (by rw [Ny861.out, List.length_take]; omega)
        rw [← Ny861.out] at hr46
        rw [← hy46] at hcut46
        have HR864 := Z.k hr46
        have HC864 := Z.k (show y861.length ≤ co14 from by omega)
        clear hr46 hC46 hroom46 hi046 hsz46
        have KY46 := Z.k hy46
        clear hy46
        have KL46 := Z.k (show (t853 : Int).toNat ≤ t849.length from by omega)
        replace q46 := eq_true q46
        refine start_ (n := 11) (S := fun w' => w'.cell? ⟨gb852, 0, none⟩ = some (.int .i64 t839) ∧ w'.cell? ⟨gb852, 1, none⟩ = some (.slice Ao11 t840.length co11) ∧ w'.cell? ⟨gb852, 2, none⟩ = some (.slice Ao12 t843.length co12)) (ds := []) #[false, false, false, false, false, false, false, false, false, false, false] (by kernel_rfl) rfl rfl ⟨(blk_cell BK852.out 0).trans rfl, (blk_cell BK852.out 1).trans rfl, (blk_cell BK852.out 2).trans rfl⟩ (fun hHeld => ?_); refine with_tabW laws_FnFirstVoid.tab10 laws_FnFirstVoid.bits10 (fun HT_ HW_ => ?_)
        generalize w44.drew = w45 at HO_4 HO_5 HO_853001 HO_853002 HO857 BK852 HB HR864 hHeld ⊢
        refine Z.pv 1 58 11 2 HT_.out ?_
        refine Z.pv 2 59 11 6 HT_.out ?_
        refine Z.pv 3 60 11 14 HT_.out ?_
        refine Z.pv 4 61 11 30 HT_.out ?_
        refine Z.t3 0 57 11 31 HT_.out HW_.out hHeld ?_
        refine one_ (i := 5) (N := some 62) (Z.mb 11 63) rfl rfl (one_of HT_.out (by kernel_rfl)) (by decide) (fun K hK => ?_)
        refine goes_ Try.func30 (by kernel_rfl) rfl #[.agg #[.int .i64 t839, .slice Ao11 t840.length co11, .slice Ao12 t843.length co12], .slice Ao13 t846.length co13, .slice Ao14 y861.length co14] (by rfl) rfl rfl Z.ar ?_
        with_reducible refine (impl_AfterActs.calls kj6 t839 _ _ t840 _ _ t843 _ _ t846 _ _ y861 t865 t868 _ ?q1 ?q2 ?q3 ?q4 ?q5 ?q6 ?q7 ?q8 A36.out).mono ?_
        (case q1 => exact (Kd.R_reads' HO_853001.out).2.2)
        (case q2 => exact (Kd.R_reads' HO_853001.out).2.1)
        (case q3 => exact (Kd.R_reads' HO_853002.out).2.2)
        (case q4 => exact (Kd.R_reads' HO_853002.out).2.1)
        (case q5 => exact (Kd.R_reads' HO_4.out).2.2)
        (case q6 => exact (Kd.R_reads' HO_4.out).2.1)
        (case q7 => exact HR864.out)
        (case q8 => exact HC864.out)
        rintro e w47 ⟨v866, rfl, ho0, hb⟩
        refine ⟨_, rfl, ?_⟩
        replace HO_5 := Z.k (Kd.R_below HO_5.out hb)
        replace HO_853002 := Z.k (Kd.R_below HO_853002.out hb)
        have HO867 := Z.k (Kd.R_lower (Kd.R_new' (Kd.R_new' (Kd.R_new' ho0 (Kd.R_lt HO_4.out)) (Kd.R_lt HO_853001.out)) (Kd.R_lt HO857.out)) (below_size (Z.bs HB.out GE852.out)))
        replace HO_4 := Z.k (Kd.R_elder' HO_4.out (Kd.R_base ho0) hb)
        replace HO_853001 := Z.k (Kd.R_elder' HO_853001.out (Kd.R_base ho0) hb)
        replace HO857 := Z.k (Kd.R_elder' HO857.out (Kd.R_base ho0) hb)
        replace BK852 := Z.bb BK852 hb
        replace HR864 := Z.k (Kd.C_below HR864.out hb)
        replace HB := Z.st (Z.bs HB.out GE852.out) hb
        (try clear hb)
        (try clear ho0)
        refine hK.out _ _ ⟨(blk_cell BK852.out 0).trans rfl, (blk_cell BK852.out 1).trans rfl, (blk_cell BK852.out 2).trans rfl⟩ (fun hHeld => ?_)
        clear hK K
        refine Z.nm ?_
        refine Z.pv 6 56 11 127 HT_.out ?_
        refine Z.pv 7 63 11 255 HT_.out ?_
        refine Z.pv 8 64 11 511 HT_.out ?_
        refine Z.pv 9 9 11 1023 HT_.out ?_
        refine Z.pv 10 10 11 2047 HT_.out ?_
        refine done_ (done_of HT_.out (by kernel_rfl)) ?_
        try go_wp2
        replace HO_4 := Z.k (Kd.R_drew HO_4.out)
        replace HO_5 := Z.k (Kd.R_drew HO_5.out)
        replace HO_853001 := Z.k (Kd.R_drew HO_853001.out)
        replace HO_853002 := Z.k (Kd.R_drew HO_853002.out)
        replace HO857 := Z.k (Kd.R_drew HO857.out)
        replace HO867 := Z.k (Kd.R_drew HO867.out)
        replace BK852 := Z.k (blk_drew BK852.out)
        replace HR864 := Z.k (Kd.C_drew HR864.out)
        replace HB := Z.k (below_drew1 HB.out)
        have q49 : ((ji37) : Int) ≤ ((t849.length : Int) : Int) := Z.od
        obtain ⟨i049, hi049, _, hsz49, _⟩ := info_parts info48
        have hroom49 : t849.length ≤ co14 := (Kd.R_reads' HO_5.out).2.1
        have hC49 : Kd.C k48 _ Ao14 t849.length t849 := (Kd.R_reads' HO_5.out).2.2
        have hcut49 := cut_to (P := Try.prog) 58 48 .i64 Try.underlying58 hi049 Ao14 t849.length co14 (ji37) (Z.od) q49 hroom49
        have hr49 := Kd.C_take (m := ((ji37) : Int).toNat) hC49 (by omega)
        have hy49 : y869.length = ((ji37) : Int).toNat := (by rw [Ny869.out, List.length_take]; omega)
        rw [← Ny869.out] at hr49
        rw [← hy49] at hcut49
        have HR872 := Z.k hr49
        have HC872 := Z.k (show y869.length ≤ co14 from by omega)
        clear hr49 hC49 hroom49 hi049 hsz49
        have KY49 := Z.k hy49
        clear hy49
        have KL49 := Z.k (show ((ji37) : Int).toNat ≤ t849.length from by omega)
        replace q49 := eq_true q49
        refine start_ (n := 12) (S := fun w' => w'.cell? ⟨gb852, 0, none⟩ = some (.int .i64 t839) ∧ w'.cell? ⟨gb852, 1, none⟩ = some (.slice Ao11 t840.length co11) ∧ w'.cell? ⟨gb852, 2, none⟩ = some (.slice Ao12 t843.length co12)) (ds := []) #[false, false, false, false, false, false, false, false, false, false, false, false] (by kernel_rfl) rfl rfl ⟨(blk_cell BK852.out 0).trans rfl, (blk_cell BK852.out 1).trans rfl, (blk_cell BK852.out 2).trans rfl⟩ (fun hHeld => ?_); refine with_tabW laws_FnFirstVoid.tab11 laws_FnFirstVoid.bits11 (fun HT_ HW_ => ?_)
        generalize w47.drew = w48 at HO_4 HO_5 HO_853001 HO_853002 HO857 HO867 BK852 HR864 HB HR872 hHeld ⊢
        refine Z.pv 1 67 12 2 HT_.out ?_
        refine Z.pv 2 68 12 6 HT_.out ?_
        refine Z.pv 3 69 12 14 HT_.out ?_
        refine Z.pv 4 70 12 30 HT_.out ?_
        refine Z.pv 5 71 12 62 HT_.out ?_
        refine Z.t3 0 66 12 63 HT_.out HW_.out hHeld ?_
        refine one_ (i := 6) (N := some 72) (Z.mb 12 127) rfl rfl (one_of HT_.out (by kernel_rfl)) (by decide) (fun K hK => ?_)
        refine goes_ Try.func30 (by kernel_rfl) rfl #[.agg #[.int .i64 t839, .slice Ao11 t840.length co11, .slice Ao12 t843.length co12], .slice Ao13 t846.length co13, .slice Ao14 y869.length co14] (by rfl) rfl rfl Z.ar ?_
        with_reducible refine (impl_AfterActs.calls kj6 t839 _ _ t840 _ _ t843 _ _ t846 _ _ y869 t873 t876 _ ?q1 ?q2 ?q3 ?q4 ?q5 ?q6 ?q7 ?q8 A40.out).mono ?_
        (case q1 => exact (Kd.R_reads' HO_853001.out).2.2)
        (case q2 => exact (Kd.R_reads' HO_853001.out).2.1)
        (case q3 => exact (Kd.R_reads' HO_853002.out).2.2)
        (case q4 => exact (Kd.R_reads' HO_853002.out).2.1)
        (case q5 => exact (Kd.R_reads' HO_4.out).2.2)
        (case q6 => exact (Kd.R_reads' HO_4.out).2.1)
        (case q7 => exact HR872.out)
        (case q8 => exact HC872.out)
        rintro e w50 ⟨v874, rfl, ho0, hb⟩
        refine ⟨_, rfl, ?_⟩
        replace HO_5 := Z.k (Kd.R_below HO_5.out hb)
        replace HO_853002 := Z.k (Kd.R_below HO_853002.out hb)
        have HO875 := Z.k (Kd.R_lower (Kd.R_new' (Kd.R_new' (Kd.R_new' (Kd.R_new' ho0 (Kd.R_lt HO_4.out)) (Kd.R_lt HO_853001.out)) (Kd.R_lt HO857.out)) (Kd.R_lt HO867.out)) (below_size (Z.bs HB.out GE852.out)))
        replace HO_4 := Z.k (Kd.R_elder' HO_4.out (Kd.R_base ho0) hb)
        replace HO_853001 := Z.k (Kd.R_elder' HO_853001.out (Kd.R_base ho0) hb)
        replace HO857 := Z.k (Kd.R_elder' HO857.out (Kd.R_base ho0) hb)
        replace HO867 := Z.k (Kd.R_elder' HO867.out (Kd.R_base ho0) hb)
        replace BK852 := Z.bb BK852 hb
        replace HR864 := Z.k (Kd.C_below HR864.out hb)
        replace HR872 := Z.k (Kd.C_below HR872.out hb)
        replace HB := Z.st (Z.bs HB.out GE852.out) hb
        (try clear hb)
        (try clear ho0)
        refine hK.out _ _ ⟨(blk_cell BK852.out 0).trans rfl, (blk_cell BK852.out 1).trans rfl, (blk_cell BK852.out 2).trans rfl⟩ (fun hHeld => ?_)
        clear hK K
        refine Z.nm ?_
        refine Z.pv 7 65 12 255 HT_.out ?_
        refine Z.pv 8 73 12 511 HT_.out ?_
        refine Z.pv 9 74 12 1023 HT_.out ?_
        refine Z.pv 10 11 12 2047 HT_.out ?_
        refine Z.pv 11 12 12 4095 HT_.out ?_
        refine done_ (done_of HT_.out (by kernel_rfl)) ?_
        try go_wp2
        go_ret
        exact ⟨by rfl, Z.bs HB.out GE852.out⟩
       ·rw [if_neg c42] at H
        have c42b0 : (t876 == t853) = false := beq_eq_false_iff_ne.mpr c42
        have c42b1 : (t876 != t853) = true := bne_iff_ne.mpr c42
        obtain rfl := Option.some.inj H
        have hcz51 := Z.c3 BK852.out
        try go_wp2_with (((with_reducible refine gate_callee (f := 30) rfl ?_); refine goesL_ (some 36) rfl rfl Try.func30 (by kernel_rfl) rfl #[.agg #[.int .i64 t839, .slice Ao11 t840.length co11, .slice Ao12 t843.length co12], .slice Ao13 t846.length co13, .slice Ao14 t849.length co14] rfl Z.ar ?_; (with_reducible refine (impl_AfterActs.calls kj6 t839 _ _ t840 _ _ t843 _ _ t846 _ _ t849 t855 t858 _ ?q1 ?q2 ?q3 ?q4 ?q5 ?q6 ?q7 ?q8 A19.out).mono ?_); (case q1 => exact (Kd.R_reads' HO_853001.out).2.2); (case q2 => exact (Kd.R_reads' HO_853001.out).2.1); (case q3 => exact (Kd.R_reads' HO_853002.out).2.2); (case q4 => exact (Kd.R_reads' HO_853002.out).2.1); (case q5 => exact (Kd.R_reads' HO_4.out).2.2); (case q6 => exact (Kd.R_reads' HO_4.out).2.1); (case q7 => exact (Kd.R_reads' HO_5.out).2.2); (case q8 => exact (Kd.R_reads' HO_5.out).2.1); rintro e w52 ⟨v856, rfl, ho0, hb⟩; refine ⟨_, rfl, ?_⟩; replace HO_5 := Z.k (Kd.R_below HO_5.out hb); replace HO_853002 := Z.k (Kd.R_below HO_853002.out hb); have HO857 := Z.k (Kd.R_lower (Kd.R_new' (Kd.R_new' ho0 (Kd.R_lt HO_4.out)) (Kd.R_lt HO_853001.out)) (below_size (Z.bs HB.out GE852.out))); replace HO_4 := Z.k (Kd.R_elder' HO_4.out (Kd.R_base ho0) hb); replace HO_853001 := Z.k (Kd.R_elder' HO_853001.out (Kd.R_base ho0) hb); replace BK852 := Z.bb BK852 hb; replace HB := Z.st (Z.bs HB.out GE852.out) hb; (try clear hb); (try clear ho0)))
        replace HO_4 := Z.k (Kd.R_drew HO_4.out)
        replace HO_5 := Z.k (Kd.R_drew HO_5.out)
        replace HO_853001 := Z.k (Kd.R_drew HO_853001.out)
        replace HO_853002 := Z.k (Kd.R_drew HO_853002.out)
        replace HO857 := Z.k (Kd.R_drew HO857.out)
        replace BK852 := Z.k (blk_drew BK852.out)
        replace HB := Z.k (below_drew1 HB.out)
        have q54 : (t853 : Int) ≤ ((t849.length : Int) : Int) := Z.od
        obtain ⟨i054, hi054, _, hsz54, _⟩ := info_parts info48
        have hroom54 : t849.length ≤ co14 := (Kd.R_reads' HO_5.out).2.1
        have hC54 : Kd.C k48 _ Ao14 t849.length t849 := (Kd.R_reads' HO_5.out).2.2
        have hcut54 := cut_to (P := Try.prog) 58 48 .i64 Try.underlying58 hi054 Ao14 t849.length co14 t853 (Z.od) q54 hroom54
        have hr54 := Kd.C_take (m := (t853 : Int).toNat) hC54 (by omega)
        have hy54 : y861.length = (t853 : Int).toNat := (by rw [Ny861.out, List.length_take]; omega)
        rw [← Ny861.out] at hr54
        rw [← hy54] at hcut54
        have HR864 := Z.k hr54
        have HC864 := Z.k (show y861.length ≤ co14 from by omega)
        clear hr54 hC54 hroom54 hi054 hsz54
        have KY54 := Z.k hy54
        clear hy54
        have KL54 := Z.k (show (t853 : Int).toNat ≤ t849.length from by omega)
        replace q54 := eq_true q54
        refine start_ (n := 11) (S := fun w' => w'.cell? ⟨gb852, 0, none⟩ = some (.int .i64 t839) ∧ w'.cell? ⟨gb852, 1, none⟩ = some (.slice Ao11 t840.length co11) ∧ w'.cell? ⟨gb852, 2, none⟩ = some (.slice Ao12 t843.length co12)) (ds := []) #[false, false, false, false, false, false, false, false, false, false, false] (by kernel_rfl) rfl rfl ⟨(blk_cell BK852.out 0).trans rfl, (blk_cell BK852.out 1).trans rfl, (blk_cell BK852.out 2).trans rfl⟩ (fun hHeld => ?_); refine with_tabW laws_FnFirstVoid.tab10 laws_FnFirstVoid.bits10 (fun HT_ HW_ => ?_)
        generalize w52.drew = w53 at HO_4 HO_5 HO_853001 HO_853002 HO857 BK852 HB HR864 hHeld ⊢
        refine Z.pv 1 58 11 2 HT_.out ?_
        refine Z.pv 2 59 11 6 HT_.out ?_
        refine Z.pv 3 60 11 14 HT_.out ?_
        refine Z.pv 4 61 11 30 HT_.out ?_
        refine Z.t3 0 57 11 31 HT_.out HW_.out hHeld ?_
        refine one_ (i := 5) (N := some 62) (Z.mb 11 63) rfl rfl (one_of HT_.out (by kernel_rfl)) (by decide) (fun K hK => ?_)
        refine goes_ Try.func30 (by kernel_rfl) rfl #[.agg #[.int .i64 t839, .slice Ao11 t840.length co11, .slice Ao12 t843.length co12], .slice Ao13 t846.length co13, .slice Ao14 y861.length co14] (by rfl) rfl rfl Z.ar ?_
        with_reducible refine (impl_AfterActs.calls kj6 t839 _ _ t840 _ _ t843 _ _ t846 _ _ y861 t865 t868 _ ?q1 ?q2 ?q3 ?q4 ?q5 ?q6 ?q7 ?q8 A36.out).mono ?_
        (case q1 => exact (Kd.R_reads' HO_853001.out).2.2)
        (case q2 => exact (Kd.R_reads' HO_853001.out).2.1)
        (case q3 => exact (Kd.R_reads' HO_853002.out).2.2)
        (case q4 => exact (Kd.R_reads' HO_853002.out).2.1)
        (case q5 => exact (Kd.R_reads' HO_4.out).2.2)
        (case q6 => exact (Kd.R_reads' HO_4.out).2.1)
        (case q7 => exact HR864.out)
        (case q8 => exact HC864.out)
        rintro e w55 ⟨v866, rfl, ho0, hb⟩
        refine ⟨_, rfl, ?_⟩
        replace HO_5 := Z.k (Kd.R_below HO_5.out hb)
        replace HO_853002 := Z.k (Kd.R_below HO_853002.out hb)
        have HO867 := Z.k (Kd.R_lower (Kd.R_new' (Kd.R_new' (Kd.R_new' ho0 (Kd.R_lt HO_4.out)) (Kd.R_lt HO_853001.out)) (Kd.R_lt HO857.out)) (below_size (Z.bs HB.out GE852.out)))
        replace HO_4 := Z.k (Kd.R_elder' HO_4.out (Kd.R_base ho0) hb)
        replace HO_853001 := Z.k (Kd.R_elder' HO_853001.out (Kd.R_base ho0) hb)
        replace HO857 := Z.k (Kd.R_elder' HO857.out (Kd.R_base ho0) hb)
        replace BK852 := Z.bb BK852 hb
        replace HR864 := Z.k (Kd.C_below HR864.out hb)
        replace HB := Z.st (Z.bs HB.out GE852.out) hb
        (try clear hb)
        (try clear ho0)
        refine hK.out _ _ ⟨(blk_cell BK852.out 0).trans rfl, (blk_cell BK852.out 1).trans rfl, (blk_cell BK852.out 2).trans rfl⟩ (fun hHeld => ?_)
        clear hK K
        refine Z.nm ?_
        refine Z.pv 6 56 11 127 HT_.out ?_
        refine Z.pv 7 63 11 255 HT_.out ?_
        refine Z.pv 8 64 11 511 HT_.out ?_
        refine Z.pv 9 9 11 1023 HT_.out ?_
        refine Z.pv 10 10 11 2047 HT_.out ?_
        refine done_ (done_of HT_.out (by kernel_rfl)) ?_
        try go_wp2
        replace HO_4 := Z.k (Kd.R_drew HO_4.out)
        replace HO_5 := Z.k (Kd.R_drew HO_5.out)
        replace HO_853001 := Z.k (Kd.R_drew HO_853001.out)
        replace HO_853002 := Z.k (Kd.R_drew HO_853002.out)
        replace HO857 := Z.k (Kd.R_drew HO857.out)
        replace HO867 := Z.k (Kd.R_drew HO867.out)
        replace BK852 := Z.k (blk_drew BK852.out)
        replace HR864 := Z.k (Kd.C_drew HR864.out)
        replace HB := Z.k (below_drew1 HB.out)
        have q57 : ((ji37) : Int) ≤ ((t849.length : Int) : Int) := Z.od
        obtain ⟨i057, hi057, _, hsz57, _⟩ := info_parts info48
        have hroom57 : t849.length ≤ co14 := (Kd.R_reads' HO_5.out).2.1
        have hC57 : Kd.C k48 _ Ao14 t849.length t849 := (Kd.R_reads' HO_5.out).2.2
        have hcut57 := cut_to (P := Try.prog) 58 48 .i64 Try.underlying58 hi057 Ao14 t849.length co14 (ji37) (Z.od) q57 hroom57
        have hr57 := Kd.C_take (m := ((ji37) : Int).toNat) hC57 (by omega)
        have hy57 : y869.length = ((ji37) : Int).toNat := (by rw [Ny869.out, List.length_take]; omega)
        rw [← Ny869.out] at hr57
        rw [← hy57] at hcut57
        have HR872 := Z.k hr57
        have HC872 := Z.k (show y869.length ≤ co14 from by omega)
        clear hr57 hC57 hroom57 hi057 hsz57
        have KY57 := Z.k hy57
        clear hy57
        have KL57 := Z.k (show ((ji37) : Int).toNat ≤ t849.length from by omega)
        replace q57 := eq_true q57
        refine start_ (n := 12) (S := fun w' => w'.cell? ⟨gb852, 0, none⟩ = some (.int .i64 t839) ∧ w'.cell? ⟨gb852, 1, none⟩ = some (.slice Ao11 t840.length co11) ∧ w'.cell? ⟨gb852, 2, none⟩ = some (.slice Ao12 t843.length co12)) (ds := []) #[false, false, false, false, false, false, false, false, false, false, false, false] (by kernel_rfl) rfl rfl ⟨(blk_cell BK852.out 0).trans rfl, (blk_cell BK852.out 1).trans rfl, (blk_cell BK852.out 2).trans rfl⟩ (fun hHeld => ?_); refine with_tabW laws_FnFirstVoid.tab11 laws_FnFirstVoid.bits11 (fun HT_ HW_ => ?_)
        generalize w55.drew = w56 at HO_4 HO_5 HO_853001 HO_853002 HO857 HO867 BK852 HR864 HB HR872 hHeld ⊢
        refine Z.pv 1 67 12 2 HT_.out ?_
        refine Z.pv 2 68 12 6 HT_.out ?_
        refine Z.pv 3 69 12 14 HT_.out ?_
        refine Z.pv 4 70 12 30 HT_.out ?_
        refine Z.pv 5 71 12 62 HT_.out ?_
        refine Z.t3 0 66 12 63 HT_.out HW_.out hHeld ?_
        refine one_ (i := 6) (N := some 72) (Z.mb 12 127) rfl rfl (one_of HT_.out (by kernel_rfl)) (by decide) (fun K hK => ?_)
        refine goes_ Try.func30 (by kernel_rfl) rfl #[.agg #[.int .i64 t839, .slice Ao11 t840.length co11, .slice Ao12 t843.length co12], .slice Ao13 t846.length co13, .slice Ao14 y869.length co14] (by rfl) rfl rfl Z.ar ?_
        with_reducible refine (impl_AfterActs.calls kj6 t839 _ _ t840 _ _ t843 _ _ t846 _ _ y869 t873 t876 _ ?q1 ?q2 ?q3 ?q4 ?q5 ?q6 ?q7 ?q8 A40.out).mono ?_
        (case q1 => exact (Kd.R_reads' HO_853001.out).2.2)
        (case q2 => exact (Kd.R_reads' HO_853001.out).2.1)
        (case q3 => exact (Kd.R_reads' HO_853002.out).2.2)
        (case q4 => exact (Kd.R_reads' HO_853002.out).2.1)
        (case q5 => exact (Kd.R_reads' HO_4.out).2.2)
        (case q6 => exact (Kd.R_reads' HO_4.out).2.1)
        (case q7 => exact HR872.out)
        (case q8 => exact HC872.out)
        rintro e w58 ⟨v874, rfl, ho0, hb⟩
        refine ⟨_, rfl, ?_⟩
        replace HO_5 := Z.k (Kd.R_below HO_5.out hb)
        replace HO_853002 := Z.k (Kd.R_below HO_853002.out hb)
        have HO875 := Z.k (Kd.R_lower (Kd.R_new' (Kd.R_new' (Kd.R_new' (Kd.R_new' ho0 (Kd.R_lt HO_4.out)) (Kd.R_lt HO_853001.out)) (Kd.R_lt HO857.out)) (Kd.R_lt HO867.out)) (below_size (Z.bs HB.out GE852.out)))
        replace HO_4 := Z.k (Kd.R_elder' HO_4.out (Kd.R_base ho0) hb)
        replace HO_853001 := Z.k (Kd.R_elder' HO_853001.out (Kd.R_base ho0) hb)
        replace HO857 := Z.k (Kd.R_elder' HO857.out (Kd.R_base ho0) hb)
        replace HO867 := Z.k (Kd.R_elder' HO867.out (Kd.R_base ho0) hb)
        replace BK852 := Z.bb BK852 hb
        replace HR864 := Z.k (Kd.C_below HR864.out hb)
        replace HR872 := Z.k (Kd.C_below HR872.out hb)
        replace HB := Z.st (Z.bs HB.out GE852.out) hb
        (try clear hb)
        (try clear ho0)
        refine hK.out _ _ ⟨(blk_cell BK852.out 0).trans rfl, (blk_cell BK852.out 1).trans rfl, (blk_cell BK852.out 2).trans rfl⟩ (fun hHeld => ?_)
        clear hK K
        refine Z.nm ?_
        refine Z.pv 7 65 12 255 HT_.out ?_
        refine Z.pv 8 73 12 511 HT_.out ?_
        refine Z.pv 9 74 12 1023 HT_.out ?_
        refine Z.pv 10 11 12 2047 HT_.out ?_
        refine Z.pv 11 12 12 4095 HT_.out ?_
        refine done_ (done_of HT_.out (by kernel_rfl)) ?_
        try go_wp2
        go_ret
        exact ⟨by rfl, Z.bs HB.out GE852.out⟩
      ·rw [if_neg c41] at H
       have c41b0 : (t868 == t853) = false := beq_eq_false_iff_ne.mpr c41
       have c41b1 : (t868 != t853) = true := bne_iff_ne.mpr c41
       obtain rfl := Option.some.inj H
       have hcz59 := Z.c3 BK852.out
       try go_wp2_with (((with_reducible refine gate_callee (f := 30) rfl ?_); refine goesL_ (some 36) rfl rfl Try.func30 (by kernel_rfl) rfl #[.agg #[.int .i64 t839, .slice Ao11 t840.length co11, .slice Ao12 t843.length co12], .slice Ao13 t846.length co13, .slice Ao14 t849.length co14] rfl Z.ar ?_; (with_reducible refine (impl_AfterActs.calls kj6 t839 _ _ t840 _ _ t843 _ _ t846 _ _ t849 t855 t858 _ ?q1 ?q2 ?q3 ?q4 ?q5 ?q6 ?q7 ?q8 A19.out).mono ?_); (case q1 => exact (Kd.R_reads' HO_853001.out).2.2); (case q2 => exact (Kd.R_reads' HO_853001.out).2.1); (case q3 => exact (Kd.R_reads' HO_853002.out).2.2); (case q4 => exact (Kd.R_reads' HO_853002.out).2.1); (case q5 => exact (Kd.R_reads' HO_4.out).2.2); (case q6 => exact (Kd.R_reads' HO_4.out).2.1); (case q7 => exact (Kd.R_reads' HO_5.out).2.2); (case q8 => exact (Kd.R_reads' HO_5.out).2.1); rintro e w60 ⟨v856, rfl, ho0, hb⟩; refine ⟨_, rfl, ?_⟩; replace HO_5 := Z.k (Kd.R_below HO_5.out hb); replace HO_853002 := Z.k (Kd.R_below HO_853002.out hb); have HO857 := Z.k (Kd.R_lower (Kd.R_new' (Kd.R_new' ho0 (Kd.R_lt HO_4.out)) (Kd.R_lt HO_853001.out)) (below_size (Z.bs HB.out GE852.out))); replace HO_4 := Z.k (Kd.R_elder' HO_4.out (Kd.R_base ho0) hb); replace HO_853001 := Z.k (Kd.R_elder' HO_853001.out (Kd.R_base ho0) hb); replace BK852 := Z.bb BK852 hb; replace HB := Z.st (Z.bs HB.out GE852.out) hb; (try clear hb); (try clear ho0)))
       replace HO_4 := Z.k (Kd.R_drew HO_4.out)
       replace HO_5 := Z.k (Kd.R_drew HO_5.out)
       replace HO_853001 := Z.k (Kd.R_drew HO_853001.out)
       replace HO_853002 := Z.k (Kd.R_drew HO_853002.out)
       replace HO857 := Z.k (Kd.R_drew HO857.out)
       replace BK852 := Z.k (blk_drew BK852.out)
       replace HB := Z.k (below_drew1 HB.out)
       have q62 : (t853 : Int) ≤ ((t849.length : Int) : Int) := Z.od
       obtain ⟨i062, hi062, _, hsz62, _⟩ := info_parts info48
       have hroom62 : t849.length ≤ co14 := (Kd.R_reads' HO_5.out).2.1
       have hC62 : Kd.C k48 _ Ao14 t849.length t849 := (Kd.R_reads' HO_5.out).2.2
       have hcut62 := cut_to (P := Try.prog) 58 48 .i64 Try.underlying58 hi062 Ao14 t849.length co14 t853 (Z.od) q62 hroom62
       have hr62 := Kd.C_take (m := (t853 : Int).toNat) hC62 (by omega)
       have hy62 : y861.length = (t853 : Int).toNat := (by rw [Ny861.out, List.length_take]; omega)
       rw [← Ny861.out] at hr62
       rw [← hy62] at hcut62
       have HR864 := Z.k hr62
       have HC864 := Z.k (show y861.length ≤ co14 from by omega)
       clear hr62 hC62 hroom62 hi062 hsz62
       have KY62 := Z.k hy62
       clear hy62
       have KL62 := Z.k (show (t853 : Int).toNat ≤ t849.length from by omega)
       replace q62 := eq_true q62
       refine start_ (n := 11) (S := fun w' => w'.cell? ⟨gb852, 0, none⟩ = some (.int .i64 t839) ∧ w'.cell? ⟨gb852, 1, none⟩ = some (.slice Ao11 t840.length co11) ∧ w'.cell? ⟨gb852, 2, none⟩ = some (.slice Ao12 t843.length co12)) (ds := []) #[false, false, false, false, false, false, false, false, false, false, false] (by kernel_rfl) rfl rfl ⟨(blk_cell BK852.out 0).trans rfl, (blk_cell BK852.out 1).trans rfl, (blk_cell BK852.out 2).trans rfl⟩ (fun hHeld => ?_); refine with_tabW laws_FnFirstVoid.tab10 laws_FnFirstVoid.bits10 (fun HT_ HW_ => ?_)
       generalize w60.drew = w61 at HO_4 HO_5 HO_853001 HO_853002 HO857 BK852 HB HR864 hHeld ⊢
       refine Z.pv 1 58 11 2 HT_.out ?_
       refine Z.pv 2 59 11 6 HT_.out ?_
       refine Z.pv 3 60 11 14 HT_.out ?_
       refine Z.pv 4 61 11 30 HT_.out ?_
       refine Z.t3 0 57 11 31 HT_.out HW_.out hHeld ?_
       refine one_ (i := 5) (N := some 62) (Z.mb 11 63) rfl rfl (one_of HT_.out (by kernel_rfl)) (by decide) (fun K hK => ?_)
       refine goes_ Try.func30 (by kernel_rfl) rfl #[.agg #[.int .i64 t839, .slice Ao11 t840.length co11, .slice Ao12 t843.length co12], .slice Ao13 t846.length co13, .slice Ao14 y861.length co14] (by rfl) rfl rfl Z.ar ?_
       with_reducible refine (impl_AfterActs.calls kj6 t839 _ _ t840 _ _ t843 _ _ t846 _ _ y861 t865 t868 _ ?q1 ?q2 ?q3 ?q4 ?q5 ?q6 ?q7 ?q8 A36.out).mono ?_
       (case q1 => exact (Kd.R_reads' HO_853001.out).2.2)
       (case q2 => exact (Kd.R_reads' HO_853001.out).2.1)
       (case q3 => exact (Kd.R_reads' HO_853002.out).2.2)
       (case q4 => exact (Kd.R_reads' HO_853002.out).2.1)
       (case q5 => exact (Kd.R_reads' HO_4.out).2.2)
       (case q6 => exact (Kd.R_reads' HO_4.out).2.1)
       (case q7 => exact HR864.out)
       (case q8 => exact HC864.out)
       rintro e w63 ⟨v866, rfl, ho0, hb⟩
       refine ⟨_, rfl, ?_⟩
       replace HO_5 := Z.k (Kd.R_below HO_5.out hb)
       replace HO_853002 := Z.k (Kd.R_below HO_853002.out hb)
       have HO867 := Z.k (Kd.R_lower (Kd.R_new' (Kd.R_new' (Kd.R_new' ho0 (Kd.R_lt HO_4.out)) (Kd.R_lt HO_853001.out)) (Kd.R_lt HO857.out)) (below_size (Z.bs HB.out GE852.out)))
       replace HO_4 := Z.k (Kd.R_elder' HO_4.out (Kd.R_base ho0) hb)
       replace HO_853001 := Z.k (Kd.R_elder' HO_853001.out (Kd.R_base ho0) hb)
       replace HO857 := Z.k (Kd.R_elder' HO857.out (Kd.R_base ho0) hb)
       replace BK852 := Z.bb BK852 hb
       replace HR864 := Z.k (Kd.C_below HR864.out hb)
       replace HB := Z.st (Z.bs HB.out GE852.out) hb
       (try clear hb)
       (try clear ho0)
       refine hK.out _ _ ⟨(blk_cell BK852.out 0).trans rfl, (blk_cell BK852.out 1).trans rfl, (blk_cell BK852.out 2).trans rfl⟩ (fun hHeld => ?_)
       clear hK K
       refine Z.nm ?_
       refine Z.pv 6 56 11 127 HT_.out ?_
       refine Z.pv 7 63 11 255 HT_.out ?_
       refine Z.pv 8 64 11 511 HT_.out ?_
       refine Z.pv 9 9 11 1023 HT_.out ?_
       refine Z.pv 10 10 11 2047 HT_.out ?_
       refine done_ (done_of HT_.out (by kernel_rfl)) ?_
       try go_wp2
       replace HO_4 := Z.k (Kd.R_drew HO_4.out)
       replace HO_5 := Z.k (Kd.R_drew HO_5.out)
       replace HO_853001 := Z.k (Kd.R_drew HO_853001.out)
       replace HO_853002 := Z.k (Kd.R_drew HO_853002.out)
       replace HO857 := Z.k (Kd.R_drew HO857.out)
       replace HO867 := Z.k (Kd.R_drew HO867.out)
       replace BK852 := Z.k (blk_drew BK852.out)
       replace HR864 := Z.k (Kd.C_drew HR864.out)
       replace HB := Z.k (below_drew1 HB.out)
       have q65 : ((ji37) : Int) ≤ ((t849.length : Int) : Int) := Z.od
       obtain ⟨i065, hi065, _, hsz65, _⟩ := info_parts info48
       have hroom65 : t849.length ≤ co14 := (Kd.R_reads' HO_5.out).2.1
       have hC65 : Kd.C k48 _ Ao14 t849.length t849 := (Kd.R_reads' HO_5.out).2.2
       have hcut65 := cut_to (P := Try.prog) 58 48 .i64 Try.underlying58 hi065 Ao14 t849.length co14 (ji37) (Z.od) q65 hroom65
       have hr65 := Kd.C_take (m := ((ji37) : Int).toNat) hC65 (by omega)
       have hy65 : y869.length = ((ji37) : Int).toNat := (by rw [Ny869.out, List.length_take]; omega)
       rw [← Ny869.out] at hr65
       rw [← hy65] at hcut65
       have HR872 := Z.k hr65
       have HC872 := Z.k (show y869.length ≤ co14 from by omega)
       clear hr65 hC65 hroom65 hi065 hsz65
       have KY65 := Z.k hy65
       clear hy65
       have KL65 := Z.k (show ((ji37) : Int).toNat ≤ t849.length from by omega)
       replace q65 := eq_true q65
       refine start_ (n := 12) (S := fun w' => w'.cell? ⟨gb852, 0, none⟩ = some (.int .i64 t839) ∧ w'.cell? ⟨gb852, 1, none⟩ = some (.slice Ao11 t840.length co11) ∧ w'.cell? ⟨gb852, 2, none⟩ = some (.slice Ao12 t843.length co12)) (ds := []) #[false, false, false, false, false, false, false, false, false, false, false, false] (by kernel_rfl) rfl rfl ⟨(blk_cell BK852.out 0).trans rfl, (blk_cell BK852.out 1).trans rfl, (blk_cell BK852.out 2).trans rfl⟩ (fun hHeld => ?_); refine with_tabW laws_FnFirstVoid.tab11 laws_FnFirstVoid.bits11 (fun HT_ HW_ => ?_)
       generalize w63.drew = w64 at HO_4 HO_5 HO_853001 HO_853002 HO857 HO867 BK852 HR864 HB HR872 hHeld ⊢
       refine Z.pv 1 67 12 2 HT_.out ?_
       refine Z.pv 2 68 12 6 HT_.out ?_
       refine Z.pv 3 69 12 14 HT_.out ?_
       refine Z.pv 4 70 12 30 HT_.out ?_
       refine Z.pv 5 71 12 62 HT_.out ?_
       refine Z.t3 0 66 12 63 HT_.out HW_.out hHeld ?_
       refine one_ (i := 6) (N := some 72) (Z.mb 12 127) rfl rfl (one_of HT_.out (by kernel_rfl)) (by decide) (fun K hK => ?_)
       refine goes_ Try.func30 (by kernel_rfl) rfl #[.agg #[.int .i64 t839, .slice Ao11 t840.length co11, .slice Ao12 t843.length co12], .slice Ao13 t846.length co13, .slice Ao14 y869.length co14] (by rfl) rfl rfl Z.ar ?_
       with_reducible refine (impl_AfterActs.calls kj6 t839 _ _ t840 _ _ t843 _ _ t846 _ _ y869 t873 t876 _ ?q1 ?q2 ?q3 ?q4 ?q5 ?q6 ?q7 ?q8 A40.out).mono ?_
       (case q1 => exact (Kd.R_reads' HO_853001.out).2.2)
       (case q2 => exact (Kd.R_reads' HO_853001.out).2.1)
       (case q3 => exact (Kd.R_reads' HO_853002.out).2.2)
       (case q4 => exact (Kd.R_reads' HO_853002.out).2.1)
       (case q5 => exact (Kd.R_reads' HO_4.out).2.2)
       (case q6 => exact (Kd.R_reads' HO_4.out).2.1)
       (case q7 => exact HR872.out)
       (case q8 => exact HC872.out)
       rintro e w66 ⟨v874, rfl, ho0, hb⟩
       refine ⟨_, rfl, ?_⟩
       replace HO_5 := Z.k (Kd.R_below HO_5.out hb)
       replace HO_853002 := Z.k (Kd.R_below HO_853002.out hb)
       have HO875 := Z.k (Kd.R_lower (Kd.R_new' (Kd.R_new' (Kd.R_new' (Kd.R_new' ho0 (Kd.R_lt HO_4.out)) (Kd.R_lt HO_853001.out)) (Kd.R_lt HO857.out)) (Kd.R_lt HO867.out)) (below_size (Z.bs HB.out GE852.out)))
       replace HO_4 := Z.k (Kd.R_elder' HO_4.out (Kd.R_base ho0) hb)
       replace HO_853001 := Z.k (Kd.R_elder' HO_853001.out (Kd.R_base ho0) hb)
       replace HO857 := Z.k (Kd.R_elder' HO857.out (Kd.R_base ho0) hb)
       replace HO867 := Z.k (Kd.R_elder' HO867.out (Kd.R_base ho0) hb)
       replace BK852 := Z.bb BK852 hb
       replace HR864 := Z.k (Kd.C_below HR864.out hb)
       replace HR872 := Z.k (Kd.C_below HR872.out hb)
       replace HB := Z.st (Z.bs HB.out GE852.out) hb
       (try clear hb)
       (try clear ho0)
       refine hK.out _ _ ⟨(blk_cell BK852.out 0).trans rfl, (blk_cell BK852.out 1).trans rfl, (blk_cell BK852.out 2).trans rfl⟩ (fun hHeld => ?_)
       clear hK K
       refine Z.nm ?_
       refine Z.pv 7 65 12 255 HT_.out ?_
       refine Z.pv 8 73 12 511 HT_.out ?_
       refine Z.pv 9 74 12 1023 HT_.out ?_
       refine Z.pv 10 11 12 2047 HT_.out ?_
       refine Z.pv 11 12 12 4095 HT_.out ?_
       refine done_ (done_of HT_.out (by kernel_rfl)) ?_
       try go_wp2
       go_ret
       exact ⟨by rfl, Z.bs HB.out GE852.out⟩
/-- THE ONE PURE STATEMENT of laws_FnFirstVoid: yours. -/
def laws_FnFirstVoid.Pure : Prop := ∀ (l0 : List Int), l0.length ≤ maxLen → l0.length * 1 ≤ 140737488351232 → (∀ x ∈ l0, (Lit.int .u8 x).wf = true) → ∃ k, laws_FnFirstVoid.f k l0 = some true
theorem laws_FnFirstVoid.walk (P : laws_FnFirstVoid.Pure) (a0 : Option Addr) (len0 cap0 : Nat) (z0 : List Int) (w : World) (w0 : (a0 = none ∧ len0 = 0 ∧ cap0 = 0 ∧ z0 = []) ∨ ∃ x, a0 = some x ∧ len0 ≤ cap0 ∧ cap0 ≤ maxLen ∧ z0.length = cap0 ∧ (∀ i, i < z0.length → w.cell? (x.add i) = some (.int .u8 (z0.getD i 0))) ∧ ∀ n ∈ z0, (Lit.int .u8 n).wf = true) (y0 : len0 * 1 ≤ 140737488351232) :
  Calls Try.prog 8 #[.slice a0 len0 cap0] w fun e w' => e = .returned (.bool true) ∧ Below w.heap.size w w' := by
 obtain ⟨l0, rfl, hr0, hm0, hw0, hc0⟩ := ReadsInt.ofRowC w0
 obtain ⟨k, h⟩ := P l0 hm0 y0 hw0
 refine (laws_FnFirstVoid.calls k _ _ l0 true w (Kd.C_of_reads (d := (0 : Int)) (h1 := fun _ => rfl) hr0) hc0 h).mono ?_
 rintro e w' ⟨rfl, hd⟩
 exact ⟨rfl, hd⟩

end Go.Proofs.Ytojoblllgddckaa.PAll
