/- Walks of functions that laws of this seat reach, in the form of the print. -/
import Derived.Test.YtkogboechfieeaaCAll4
-- PRINTED
namespace Go.Proofs.Ytkogboechfieeaa.PAll
open Go.RowKit Go.Proofs.YtkogboechfieeaaW.PrintWords Go.Proofs.YtkogboechfieeaaW.PrintLast Go.Proofs.YtkogboechfieeaaW.PrintMore
attribute [local go_sem] max2_int min2_int max_two min_two max_three min_three max_four min_four
set_option linter.unusedVariables false
set_option linter.unusedSimpArgs false

/-! ### spec_CharterOk: function 60 -/
mutual
def spec_CharterOk.l0 : Nat → Int → Int → List Int → List (List (S37)) → Option (Bool)
 | 0, _, _, _, _ => none
 | k + 1, x3, x98, x99, x94 => if x3 < (x94.length : Int) then (if 0 ≤ x3 then ((spec_l1In.f ((rd_L5 x94 x3).length : Int) 1 3).bind fun t519 => (if t519 = true then (spec_CharterOk.l1 k x3 0 x98 x99 x94) else (some false))) else (none)) else ((spec_HouseOk.f k x98 x99).bind fun t516 => (if t516 = true then ((spec_l1In.f (x94.length : Int) 1 3).bind fun t517 => (some t517)) else (some false)))
def spec_CharterOk.l1 : Nat → Int → Int → Int → List Int → List (List (S37)) → Option (Bool)
 | 0, _, _, _, _, _ => none
 | k + 1, x3, x4, x98, x99, x94 => if 0 ≤ x3 then (if x3 < (x94.length : Int) then (if x4 < ((rd_L5 x94 x3).length : Int) then (if 0 ≤ x4 then (if ((rd_T37 (rd_L5 x94 x3) x4).f1) = (-1) then (spec_CharterOk.j2 k x3 x4 (((rd_T37 (rd_L5 x94 x3) x4).f2) == 0) x98 x99 x94 ((rd_T37 (rd_L5 x94 x3) x4).f0) ((rd_T37 (rd_L5 x94 x3) x4).f1) ((rd_T37 (rd_L5 x94 x3) x4).f2)) else (spec_CharterOk.j2 k x3 x4 false x98 x99 x94 ((rd_T37 (rd_L5 x94 x3) x4).f0) ((rd_T37 (rd_L5 x94 x3) x4).f1) ((rd_T37 (rd_L5 x94 x3) x4).f2))) else (none)) else (spec_CharterOk.l0 k (wrap64 (x3 + 1)) x98 x99 x94)) else (none)) else (none)
def spec_CharterOk.j2 : Nat → Int → Int → Bool → Int → List Int → List (List (S37)) → List (S111) → Int → Int → Option (Bool)
 | 0, _, _, _, _, _, _, _, _, _ => none
 | k + 1, x3, x4, x6, x98, x99, x94, x104, x100, x105 => (spec_TermOk.f k x98 x99 x104).bind fun t524 => (if t524 = true then (if x6 = true then (spec_CharterOk.l1 k x3 (wrap64 (x4 + 1)) x98 x99 x94) else (if x100 = x3 then (some false) else ((spec_l1In.f x100 0 (wrap64 ((x94.length : Int) - 1))).bind fun t525 => (if t525 = true then (if 0 ≤ x100 then (if x100 < (x94.length : Int) then ((spec_l1In.f x105 0 (wrap64 (((rd_L5 x94 x100).length : Int) - 1))).bind fun t527 => (if t527 = true then (spec_CharterOk.l1 k x3 (wrap64 (x4 + 1)) x98 x99 x94) else (some false))) else (none)) else (none)) else (some false))))) else (some false))
end
def spec_CharterOk.f (k : Nat) (a0_0 : Int) (l0_1 : List Int) (l0_2 : List (List (S37))) : Option (Bool) := spec_CharterOk.l0 k 0 a0_0 l0_1 l0_2
def spec_CharterOk.T11 : Bool × List (List Nat × List Nat) := (true, [([], []), ([0], [0]), ([], []), ([2], [2]), ([1, 3], [1, 3]), ([4], [4]), ([5, 4], [5]), ([6], [6]), ([7, 6], [6, 7]), ([8, 6, 6], [6, 8]), ([9], [9]), ([10, 9], [9, 10]), ([9], [9]), ([11, 12, 9], [9, 11, 12]), ([13, 9, 9], [9, 13]), ([14], [14]), ([15, 14], [14, 15]), ([14], [14]), ([17, 14], [14, 17]), ([18, 14], [14, 18]), ([19, 14], [14, 19]), ([16, 20, 14, 14], [14, 16, 20]), ([21, 14], [14, 21]), ([14, 22, 9], [9, 14, 22]), ([23, 21, 9], [9, 23]), ([24], [24]), ([25, 24], [24, 25]), ([24], [24]), ([27, 24], [24, 27]), ([24], [24]), ([29, 24], [24, 29]), ([28, 30, 24], [24, 28, 30]), ([31, 24], [24, 31]), ([32, 24], [24, 32]), ([33, 24], [24, 33]), ([26, 34, 24, 24], [24, 26, 34]), ([35, 24], [24, 35]), ([24, 36, 9], [9, 24, 36]), ([9, 37, 6], [6, 9, 37]), ([6, 38], [6, 38])])
def spec_CharterOk.B11 : List Nat := [0, 1, 0, 4, 15, 31, 63, 127, 255, 511, 1023, 2047, 1023, 8191, 16383, 32767, 65535, 32767, 163839, 425983, 950271, 2097151, 4194303, 8388607, 16777215, 33554431, 67108863, 33554431, 167772159, 33554431, 570425343, 2046820351, 4194303999, 8489271295, 17079205887, 34359738367, 68719476735, 137438953471, 274877906943, 549755813887]
theorem spec_CharterOk.tab11 : rtab .any (opsOf Try.f60 11) = spec_CharterOk.T11 := by kernel_rfl
theorem spec_CharterOk.bits11 : waitsOk spec_CharterOk.T11.2 spec_CharterOk.B11 = true := by kernel_rfl
set_option maxHeartbeats 8000000 in
set_option maxRecDepth 100000 in
theorem spec_CharterOk.calls (k : Nat) (a0_0 : Int) (A0_1 : Option Addr) (c0_1 : Nat) (l0_1 : List Int) (A0_2 : Option Addr) (c0_2 : Nat) (l0_2 : List (List (S37))) (r : Bool) (w : World) (hr0_1 : Kd.C (Kd.int .i64) w A0_1 l0_1.length l0_1) (hc0_1 : l0_1.length ≤ c0_1) (hr0_2 : Kd.C (Kd.slice 37 k37) w A0_2 l0_2.length l0_2) (hc0_2 : l0_2.length ≤ c0_2) (h : spec_CharterOk.f k a0_0 l0_1 l0_2 = some r) :
  Calls Try.prog 60 #[.agg #[.int .i64 a0_0, .slice A0_1 l0_1.length c0_1, .slice A0_2 l0_2.length c0_2]] w fun e w' => e = .returned (.bool r) ∧ Below w.heap.size w w' := by
 have hu46 := Try.underlying28
 have hu91 := Try.underlying37
 have hu25 := Try.underlying25
 have HR0_1 := Z.k hr0_1
 have HC0_1 := Z.k hc0_1
 clear hr0_1 hc0_1
 have HR0_2 := Z.k hr0_2
 have HC0_2 := Z.k hc0_2
 clear hr0_2 hc0_2
 have HB := Z.k (Below.refl w.heap.size w)
 have H := h
 clear h
 unfold spec_CharterOk.f at H
 have H' := Z.k H
 clear H
 go_enter Try.func60, Try.ntmps60
 go_wp2_with (((with_reducible refine gate_dst (N := 1) rfl ?_); (try (refine gate_guard (by rfl) ?_; dsimp only)); refine Z.bx #[.int .i64 a0_0, .slice A0_1 l0_1.length c0_1, .slice A0_2 l0_2.length c0_2] 28 HB ?_; clear HB; intro gb88 w2 BK88 GE88 HB hg hb; have GW88 := GE88; clear hb hg))
 go_loopg [3] k (fun kq v3 w' => ∃ (x3_1 : Int), v3 = .int .i64 x3_1 ∧ Aside0 (spec_CharterOk.l0 kq x3_1 a0_0 l0_1 l0_2 = some r) ∧ Aside0 (kq ≤ k) ∧ Aside0 (w'.heap[gb88]? = some (.cells #[.int .i64 a0_0, (.slice A0_1 l0_1.length c0_1), (.slice A0_2 l0_2.length c0_2)] 28 (0, 0))) ∧ Aside0 (Below w.heap.size w w'))
 case atStart => exact ⟨(0), (by rfl), H', ⟨Nat.le_refl _⟩, ⟨by exact BK88.out⟩, ⟨Z.bs HB.out GE88.out⟩⟩
 clear H'
 obtain ⟨x3_1, rfl, HA, HK1, BK88, HB⟩ := hrel
 cases gk with
 | zero => exact absurd HA.out (by simp [spec_CharterOk.l0])
 | succ k1 =>
  have H := HA.out
  clear HA
  simp only [spec_CharterOk.l0] at H
  revert H; refine Z.fm ?_ ?_ <;> intro c3b0 H
  ·revert H; refine Z.bd ?_; rintro t516 A46 H
   by_cases c47 : t516 = true
   ·subst c47
    rw [if_pos rfl] at H
    revert H; refine Z.bd ?_; rintro t517 A48 H
    obtain rfl := Option.some.inj H
    have hcz49 := Z.c3 BK88.out
    go_wp2_with (first | ((with_reducible refine gate_callee (f := 91) rfl ?_); refine goesL_ (some 90) rfl rfl Try.func91 (by kernel_rfl) rfl #[.agg #[.int .i64 a0_0, .slice A0_1 l0_1.length c0_1]] rfl Z.ar ?_; (with_reducible refine (spec_HouseOk.calls k1 a0_0 _ _ l0_1 true _ ?q1 ?q2 A46.out).mono ?_); (case q1 => exact Z.cc HR0_1 HB); (case q2 => exact HC0_1.out); rintro e w50 ⟨rfl, hb⟩; refine ⟨_, rfl, ?_⟩; replace BK88 := Z.bb BK88 hb; replace HB := Z.st (Z.bs HB.out GE88.out) hb; (try clear hb); have hcz51 := Z.c3 BK88.out) | (go_at_call 59; (with_reducible refine (spec_l1In.calls (l0_2.length : Int) 1 3 t517 _ A48.out).mono ?_); rintro e w' ⟨rfl, ⟨nd, rfl⟩⟩))
    go_ret
    exact ⟨by rfl, Z.bs HB.out GE88.out⟩
   replace c47 := Bool.eq_false_iff.mpr c47
   subst c47
   rw [if_neg (show ¬ (false = true) by decide)] at H
   obtain rfl := Option.some.inj H
   have hcz52 := Z.c3 BK88.out
   go_wp2_with (((with_reducible refine gate_callee (f := 91) rfl ?_); refine goesL_ (some 90) rfl rfl Try.func91 (by kernel_rfl) rfl #[.agg #[.int .i64 a0_0, .slice A0_1 l0_1.length c0_1]] rfl Z.ar ?_; (with_reducible refine (spec_HouseOk.calls k1 a0_0 _ _ l0_1 false _ ?q1 ?q2 A46.out).mono ?_); (case q1 => exact Z.cc HR0_1 HB); (case q2 => exact HC0_1.out); rintro e w53 ⟨rfl, hb⟩; refine ⟨_, rfl, ?_⟩; replace BK88 := Z.bb BK88 hb; replace HB := Z.st (Z.bs HB.out GE88.out) hb; (try clear hb)))
   go_ret
   exact ⟨by rfl, Z.bs HB.out GE88.out⟩

  obtain ⟨c4b0, H⟩ := Z.fd H
  revert H; refine Z.bd ?_; rintro t519 A5 H
  by_cases c6 : t519 = true
  rotate_left
  ·replace c6 := Bool.eq_false_iff.mpr c6
   subst c6
   rw [if_neg (show ¬ (false = true) by decide)] at H
   obtain rfl := Option.some.inj H
   have hcz45 := Z.c3 BK88.out
   have p95 : (0 ≤ (x3_1 : Int)) = True := Z.oe
   have q95 : (x3_1 < (l0_2.length : Int)) = True := Z.oe
   obtain ⟨ad95, A95_0, c95_0, rfl, hx95_0, hl95_0, hi95_0⟩ := at_L5 HR0_2.out x3_1 Z.od Z.od
   replace hx95_0 := Z.up HB.out hx95_0
   have HR95_0 := Z.k hi95_0
   have HC95_0 := Z.k hl95_0
   clear hi95_0 hl95_0
   go_wp2_with (((with_reducible refine gate_callee (f := 59) rfl ?_); refine goesL_ (some 20) rfl rfl Try.func59 (by kernel_rfl) rfl #[.int .i64 ((rd_L5 l0_2 x3_1).length : Int), .int .i64 1, .int .i64 3] rfl Z.ar ?_; (with_reducible refine (spec_l1In.calls ((rd_L5 l0_2 x3_1).length : Int) 1 3 false _ A5.out).mono ?_); rintro e w' ⟨rfl, ⟨nd, rfl⟩⟩; refine ⟨_, rfl, ?_⟩))
   go_ret
   exact ⟨by rfl, Z.bs HB.out GE88.out⟩
  subst c6
  rw [if_pos rfl] at H
  have H' := Z.k H
  clear H
  have hcz7 := Z.c3 BK88.out
  have p95 : (0 ≤ (x3_1 : Int)) = True := Z.oe
  have q95 : (x3_1 < (l0_2.length : Int)) = True := Z.oe
  obtain ⟨ad95, A95_0, c95_0, rfl, hx95_0, hl95_0, hi95_0⟩ := at_L5 HR0_2.out x3_1 Z.od Z.od
  replace hx95_0 := Z.up HB.out hx95_0
  have HR95_0 := Z.k hi95_0
  have HC95_0 := Z.k hl95_0
  clear hi95_0 hl95_0
  go_wp2_with (((with_reducible refine gate_callee (f := 59) rfl ?_); refine goesL_ (some 20) rfl rfl Try.func59 (by kernel_rfl) rfl #[.int .i64 ((rd_L5 l0_2 x3_1).length : Int), .int .i64 1, .int .i64 3] rfl Z.ar ?_; (with_reducible refine (spec_l1In.calls ((rd_L5 l0_2 x3_1).length : Int) 1 3 true _ A5.out).mono ?_); rintro e w' ⟨rfl, ⟨nd, rfl⟩⟩; refine ⟨_, rfl, ?_⟩))
  go_loopg [4] k1 (fun kq v4 w' => ∃ (x4_2 : Int), v4 = .int .i64 x4_2 ∧ Aside0 (spec_CharterOk.l1 kq x3_1 x4_2 a0_0 l0_1 l0_2 = some r) ∧ Aside0 (kq ≤ k1) ∧ Aside0 (w'.heap[gb88]? = some (.cells #[.int .i64 a0_0, (.slice A0_1 l0_1.length c0_1), (.slice (some ad95) l0_2.length c0_2)] 28 (0, 0))) ∧ Aside0 (Below w.heap.size w w'))
  case atStart => exact ⟨(0), (by rfl), H', ⟨Nat.le_refl _⟩, ⟨by (with_reducible repeat (refine blk_drewN ?_ _)); exact BK88.out⟩, ⟨Z.bs HB.out GE88.out⟩⟩
  clear H'
  try clear c3b0
  try clear c4b0
  try clear hx95_0
  try clear p95
  try clear q95
  obtain ⟨x4_2, rfl, HA, HK2, BK88, HB⟩ := hrel
  cases gk with
  | zero => exact absurd HA.out (by simp [spec_CharterOk.l1])
  | succ k2 =>
   have H := HA.out
   clear HA
   simp only [spec_CharterOk.l1] at H
   obtain ⟨c8b0, H⟩ := Z.fd H
   obtain ⟨c9b0, H⟩ := Z.fd H
   revert H; refine Z.fm ?_ ?_ <;> intro c10b0 H
   ·have H' := Z.k H
    clear H
    have hcz44 := Z.c3 BK88.out
    have p96 : (0 ≤ (x3_1 : Int)) = True := Z.oe
    have q96 : (x3_1 < (l0_2.length : Int)) = True := Z.oe
    obtain ⟨ad96, A96_0, c96_0, e96, hx96_0, hl96_0, hi96_0⟩ := at_L5 HR0_2.out x3_1 Z.od Z.od
    obtain rfl : ad95 = ad96 := (by injection e96)
    replace hx96_0 := Z.up HB.out hx96_0
    have HR96_0 := Z.k hi96_0
    have HC96_0 := Z.k hl96_0
    clear hi96_0 hl96_0
    go_wp2
    go_roundg k2
    case measure => have := HK1.out; have := HK2.out; omega
    case rel => exact ⟨(wrap64 (x3_1 + 1)), (by rfl), H', ⟨by have := HK1.out; have := HK2.out; omega⟩, ⟨by exact BK88.out⟩, ⟨Z.bs HB.out GE88.out⟩⟩
   obtain ⟨c11b0, H⟩ := Z.fd H
   have HC12 := Z.k H
   clear H
   have hcz13 := Z.c3 BK88.out
   have p96 : (0 ≤ (x3_1 : Int)) = True := Z.oe
   have q96 : (x3_1 < (l0_2.length : Int)) = True := Z.oe
   obtain ⟨ad96, A96_0, c96_0, e96, hx96_0, hl96_0, hi96_0⟩ := at_L5 HR0_2.out x3_1 Z.od Z.od
   obtain rfl : ad95 = ad96 := (by injection e96)
   replace hx96_0 := Z.up HB.out hx96_0
   have HR96_0 := Z.k hi96_0
   have HC96_0 := Z.k hl96_0
   clear hi96_0 hl96_0
   have p97 : (0 ≤ (x3_1 : Int)) = True := Z.oe
   have q97 : (x3_1 < (l0_2.length : Int)) = True := Z.oe
   obtain ⟨ad97, A97_0, c97_0, e97, hx97_0, hl97_0, hi97_0⟩ := at_L5 HR0_2.out x3_1 Z.od Z.od
   obtain rfl : ad95 = ad97 := (by injection e97)
   replace hx97_0 := Z.up HB.out hx97_0
   have HR97_0 := Z.k hi97_0
   have HC97_0 := Z.k hl97_0
   clear hi97_0 hl97_0
   have ea_ := Option.some.inj (hx96_0.symm.trans hx97_0)
   injection ea_ with ea_ en_ ec_
   subst ea_
   subst ec_
   clear en_
   have p92 : (0 ≤ (x4_2 : Int)) = True := Z.oe
   have q92 : (x4_2 < ((rd_L5 l0_2 x3_1).length : Int)) = True := Z.oe
   obtain ⟨ad92, A92_0, c92_0, rfl, hx92_0, hx92_1, hx92_2, hl92_0, hi92_0⟩ := at_T37 HR97_0.out x4_2 Z.od Z.od
   replace hx92_0 := Z.up HB.out hx92_0
   replace hx92_1 := Z.up HB.out hx92_1
   replace hx92_2 := Z.up HB.out hx92_2
   have HR92_0 := Z.k hi92_0
   have HC92_0 := Z.k hl92_0
   clear hi92_0 hl92_0
   go_upto_region 10 with (((with_reducible refine gate_dst (N := 5) rfl ?_); (try (refine gate_guard (by rfl) ?_; dsimp only)); refine Z.bz #[.slice none 0 0, .int .i64 0, .int .i64 0] 37 HB GE88 ?_; clear HB; intro gb89 w14 BK89 GE89 HB hg hb; have GW89 := GE89; have NB88_89 := Z.nl hg BK88; have NB89_88 := Z.ng hg BK88; replace BK88 := Z.bb BK88 hb; clear hb hg; have hnb15 := NB89_88.out; have hnc15 := NB88_89.out; have hcz16 := Z.c3 BK89.out))
   go_cut [6] (fun v6 wc => ∃ (kq : Nat) (x6_11 : Bool), v6 = .bool x6_11 ∧ Aside0 (spec_CharterOk.j2 kq x3_1 x4_2 x6_11 a0_0 l0_1 l0_2 ((rd_T37 (rd_L5 l0_2 x3_1) x4_2).f0) ((rd_T37 (rd_L5 l0_2 x3_1) x4_2).f1) ((rd_T37 (rd_L5 l0_2 x3_1) x4_2).f2) = some r) ∧ Aside0 (kq ≤ k2) ∧ Aside0 (wc.heap[gb88]? = some (.cells #[.int .i64 a0_0, (.slice A0_1 l0_1.length c0_1), (.slice (some ad95) l0_2.length c0_2)] 28 (0, 0))) ∧ Aside0 (wc.heap[gb89]? = some (.cells #[(.slice A92_0 ((rd_T37 (rd_L5 l0_2 x3_1) x4_2).f0).length c92_0), .int .i64 ((rd_T37 (rd_L5 l0_2 x3_1) x4_2).f1), .int .i64 ((rd_T37 (rd_L5 l0_2 x3_1) x4_2).f2)] 37 (0, 0))) ∧ Aside0 (Below w.heap.size w wc))
   case first =>
    have H := HC12.out
    clear HC12
    by_cases c17 : ((rd_T37 (rd_L5 l0_2 x3_1) x4_2).f1) = (-1)
    ·rw [if_pos c17] at H
     have c17b0 : (((rd_T37 (rd_L5 l0_2 x3_1) x4_2).f1) == (-1)) = true := beq_iff_eq.mpr c17
     have c17b1 : (((rd_T37 (rd_L5 l0_2 x3_1) x4_2).f1) != (-1)) = false := bne_eq_false_iff_eq.mpr c17
     clear c17
     have H' := Z.k H
     clear H
     have hnb18 := NB89_88.out
     have hnc18 := NB88_89.out
     have hcz19 := Z.c3 BK89.out
     go_wp2
     go_meet
     case rel => exact ⟨_, ((((rd_T37 (rd_L5 l0_2 x3_1) x4_2).f2) == 0)), (by rfl), H', ⟨by have := HK1.out; have := HK2.out; omega⟩, ⟨by refine blk_far ?_ NB88_89.out _; refine blk_far ?_ NB88_89.out _; refine blk_far ?_ NB88_89.out _; exact BK88.out⟩, ⟨by refine blk_put (cs := #[.slice A92_0 ((rd_T37 (rd_L5 l0_2 x3_1) x4_2).f0).length c92_0, .int .i64 ((rd_T37 (rd_L5 l0_2 x3_1) x4_2).f1), .int .i64 0]) ?_ 2 _ rfl; refine blk_put (cs := #[.slice A92_0 ((rd_T37 (rd_L5 l0_2 x3_1) x4_2).f0).length c92_0, .int .i64 0, .int .i64 0]) ?_ 1 _ rfl; refine blk_put (cs := #[.slice none 0 0, .int .i64 0, .int .i64 0]) ?_ 0 _ rfl; exact BK89.out⟩, ⟨by repeat ((with_reducible first | exact HB.out | refine below_set ?_ GE89.out))⟩⟩
    rw [if_neg c17] at H
    have c17b0 : (((rd_T37 (rd_L5 l0_2 x3_1) x4_2).f1) == (-1)) = false := beq_eq_false_iff_ne.mpr c17
    have c17b1 : (((rd_T37 (rd_L5 l0_2 x3_1) x4_2).f1) != (-1)) = true := bne_iff_ne.mpr c17
    have H' := Z.k H
    clear H
    have hnb20 := NB89_88.out
    have hnc20 := NB88_89.out
    have hcz21 := Z.c3 BK89.out
    go_wp2
    go_meet
    case rel => exact ⟨_, (false), (by rfl), H', ⟨by have := HK1.out; have := HK2.out; omega⟩, ⟨by refine blk_far ?_ NB88_89.out _; refine blk_far ?_ NB88_89.out _; refine blk_far ?_ NB88_89.out _; exact BK88.out⟩, ⟨by refine blk_put (cs := #[.slice A92_0 ((rd_T37 (rd_L5 l0_2 x3_1) x4_2).f0).length c92_0, .int .i64 ((rd_T37 (rd_L5 l0_2 x3_1) x4_2).f1), .int .i64 0]) ?_ 2 _ rfl; refine blk_put (cs := #[.slice A92_0 ((rd_T37 (rd_L5 l0_2 x3_1) x4_2).f0).length c92_0, .int .i64 0, .int .i64 0]) ?_ 1 _ rfl; refine blk_put (cs := #[.slice none 0 0, .int .i64 0, .int .i64 0]) ?_ 0 _ rfl; exact BK89.out⟩, ⟨by repeat ((with_reducible first | exact HB.out | refine below_set ?_ GE89.out))⟩⟩
   case rest =>
    clear HC12
    try clear c8b0
    try clear c9b0
    try clear c10b0
    try clear c11b0
    try clear hx96_0
    try clear hx97_0
    try clear hx92_0
    try clear hx92_1
    try clear hx92_2
    try clear p96
    try clear p97
    try clear p92
    try clear q96
    try clear q97
    try clear q92
    obtain ⟨kq, x6_11, rfl, HA, HJ11, BK88, BK89, HB⟩ := hcut
    cases kq with
    | zero => exact absurd HA.out (by simp [spec_CharterOk.j2])
    | succ kj11 =>
     have H := HA.out
     clear HA
     simp only [spec_CharterOk.j2] at H
     revert H; refine Z.bd ?_; rintro t524 A22 H
     by_cases c23 : t524 = true
     rotate_left
     ·replace c23 := Bool.eq_false_iff.mpr c23
      subst c23
      rw [if_neg (show ¬ (false = true) by decide)] at H
      obtain rfl := Option.some.inj H
      try go_wp2
      replace BK88 := Z.k (blk_drew BK88.out)
      replace BK89 := Z.k (blk_drew BK89.out)
      replace HB := Z.k (below_drew1 HB.out)
      refine start_ (n := 40) (S := fun w' => w'.cell? ⟨gb88, 0, none⟩ = some (.int .i64 a0_0) ∧ w'.cell? ⟨gb88, 1, none⟩ = some (.slice A0_1 l0_1.length c0_1) ∧ w'.cell? ⟨gb88, 2, none⟩ = some (.slice (some ad95) l0_2.length c0_2) ∧ w'.cell? ⟨gb89, 0, none⟩ = some (.slice A92_0 ((rd_T37 (rd_L5 l0_2 x3_1) x4_2).f0).length c92_0) ∧ w'.cell? ⟨gb89, 1, none⟩ = some (.int .i64 ((rd_T37 (rd_L5 l0_2 x3_1) x4_2).f1)) ∧ w'.cell? ⟨gb89, 2, none⟩ = some (.int .i64 ((rd_T37 (rd_L5 l0_2 x3_1) x4_2).f2))) (ds := []) (Z.mb 40 0) (by kernel_rfl) rfl rfl ⟨Z.b BK88 0, Z.b BK88 1, Z.b BK88 2, Z.b BK89 0, Z.b BK89 1, Z.b BK89 2⟩ (fun hHeld => ?_); refine with_tabW spec_CharterOk.tab11 spec_CharterOk.bits11 (fun HT_ HW_ => ?_)
      generalize wc.drew = w42 at BK88 BK89 HB hHeld ⊢
      refine Z.pv 0 48 40 1 HT_.out ?_
      refine Z.pv 2 50 40 5 HT_.out ?_
      refine Z.t6 1 49 40 7 HT_.out HW_.out hHeld ?_
      refine Z.t6 3 51 40 15 HT_.out HW_.out hHeld ?_
      refine one_ (i := 4) (N := some 52) (Z.mb 40 31) rfl rfl (one_of HT_.out (by kernel_rfl)) (by decide) (fun K hK => ?_)
      refine goes_ Try.func90 (by kernel_rfl) rfl #[.agg #[.int .i64 a0_0, .slice A0_1 l0_1.length c0_1], .slice A92_0 ((rd_T37 (rd_L5 l0_2 x3_1) x4_2).f0).length c92_0] (by rfl) rfl rfl Z.ar ?_
      with_reducible refine (spec_TermOk.calls kj11 a0_0 _ _ l0_1 _ _ ((rd_T37 (rd_L5 l0_2 x3_1) x4_2).f0) false _ ?q1 ?q2 ?q3 ?q4 A22.out).mono ?_
      (case q1 => exact Z.cc HR0_1 HB)
      (case q2 => exact HC0_1.out)
      (case q3 => exact Z.cc HR92_0 HB)
      (case q4 => exact HC92_0.out)
      rintro e w43 ⟨rfl, hb⟩
      refine ⟨_, rfl, ?_⟩
      replace BK88 := Z.bb BK88 hb
      replace BK89 := Z.bb BK89 hb
      replace HB := Z.k (below_step HB.out hb)
      (try clear hb)
      refine hK.out _ _ ⟨Z.b BK88 0, Z.b BK88 1, Z.b BK88 2, Z.b BK89 0, Z.b BK89 1, Z.b BK89 2⟩ (fun hHeld => ?_)
      clear hK K
      refine Z.nm ?_
      refine Z.pv 5 53 40 63 HT_.out ?_
      refine Z.pv 6 54 40 127 HT_.out ?_
      refine Z.pu 7 55 40 255 HT_.out ?_
      refine Z.pu 8 56 40 511 HT_.out ?_
      refine Z.pu 9 57 40 1023 HT_.out ?_
      refine Z.pu 10 58 40 2047 HT_.out ?_
      refine Z.pu 11 59 40 4095 HT_.out ?_
      refine Z.pu 12 60 40 8191 HT_.out ?_
      refine Z.pu 13 61 40 16383 HT_.out ?_
      refine Z.pu 14 62 40 32767 HT_.out ?_
      refine Z.pu 15 63 40 65535 HT_.out ?_
      refine Z.pu 16 64 40 131071 HT_.out ?_
      refine Z.pu 17 65 40 262143 HT_.out ?_
      refine Z.pu 18 66 40 524287 HT_.out ?_
      refine Z.pu 19 67 40 1048575 HT_.out ?_
      refine Z.pu 20 68 40 2097151 HT_.out ?_
      refine Z.pu 21 69 40 4194303 HT_.out ?_
      refine Z.pu 22 70 40 8388607 HT_.out ?_
      refine Z.pu 23 71 40 16777215 HT_.out ?_
      refine Z.pu 24 72 40 33554431 HT_.out ?_
      refine Z.pu 25 73 40 67108863 HT_.out ?_
      refine Z.pu 26 74 40 134217727 HT_.out ?_
      refine Z.pu 27 75 40 268435455 HT_.out ?_
      refine Z.pu 28 76 40 536870911 HT_.out ?_
      refine Z.pu 29 77 40 1073741823 HT_.out ?_
      refine Z.pu 30 78 40 2147483647 HT_.out ?_
      refine Z.pu 31 79 40 4294967295 HT_.out ?_
      refine Z.pu 32 80 40 8589934591 HT_.out ?_
      refine Z.pu 33 81 40 17179869183 HT_.out ?_
      refine Z.pu 34 82 40 34359738367 HT_.out ?_
      refine Z.pu 35 83 40 68719476735 HT_.out ?_
      refine Z.pu 36 84 40 137438953471 HT_.out ?_
      refine Z.pu 37 85 40 274877906943 HT_.out ?_
      refine Z.pu 38 86 40 549755813887 HT_.out ?_
      refine Z.pv 39 87 40 1099511627775 HT_.out ?_
      refine done_ (done_of HT_.out (by kernel_rfl)) ?_
      try go_wp2
      go_ret
      exact ⟨by rfl, HB.out⟩
     subst c23
     rw [if_pos rfl] at H
     by_cases c24 : x6_11 = true
     ·subst c24
      rw [if_pos rfl] at H
      have H' := Z.k H
      clear H
      try go_wp2
      replace BK88 := Z.k (blk_drew BK88.out)
      replace BK89 := Z.k (blk_drew BK89.out)
      replace HB := Z.k (below_drew1 HB.out)
      refine start_ (n := 40) (S := fun w' => w'.cell? ⟨gb88, 0, none⟩ = some (.int .i64 a0_0) ∧ w'.cell? ⟨gb88, 1, none⟩ = some (.slice A0_1 l0_1.length c0_1) ∧ w'.cell? ⟨gb88, 2, none⟩ = some (.slice (some ad95) l0_2.length c0_2) ∧ w'.cell? ⟨gb89, 0, none⟩ = some (.slice A92_0 ((rd_T37 (rd_L5 l0_2 x3_1) x4_2).f0).length c92_0) ∧ w'.cell? ⟨gb89, 1, none⟩ = some (.int .i64 ((rd_T37 (rd_L5 l0_2 x3_1) x4_2).f1)) ∧ w'.cell? ⟨gb89, 2, none⟩ = some (.int .i64 ((rd_T37 (rd_L5 l0_2 x3_1) x4_2).f2))) (ds := []) (Z.mb 40 0) (by kernel_rfl) rfl rfl ⟨Z.b BK88 0, Z.b BK88 1, Z.b BK88 2, Z.b BK89 0, Z.b BK89 1, Z.b BK89 2⟩ (fun hHeld => ?_); refine with_tabW spec_CharterOk.tab11 spec_CharterOk.bits11 (fun HT_ HW_ => ?_)
      generalize wc.drew = w25 at BK88 BK89 HB hHeld ⊢
      refine Z.pv 0 48 40 1 HT_.out ?_
      refine Z.pv 2 50 40 5 HT_.out ?_
      refine Z.t6 1 49 40 7 HT_.out HW_.out hHeld ?_
      refine Z.t6 3 51 40 15 HT_.out HW_.out hHeld ?_
      refine one_ (i := 4) (N := some 52) (Z.mb 40 31) rfl rfl (one_of HT_.out (by kernel_rfl)) (by decide) (fun K hK => ?_)
      refine goes_ Try.func90 (by kernel_rfl) rfl #[.agg #[.int .i64 a0_0, .slice A0_1 l0_1.length c0_1], .slice A92_0 ((rd_T37 (rd_L5 l0_2 x3_1) x4_2).f0).length c92_0] (by rfl) rfl rfl Z.ar ?_
      with_reducible refine (spec_TermOk.calls kj11 a0_0 _ _ l0_1 _ _ ((rd_T37 (rd_L5 l0_2 x3_1) x4_2).f0) true _ ?q1 ?q2 ?q3 ?q4 A22.out).mono ?_
      (case q1 => exact Z.cc HR0_1 HB)
      (case q2 => exact HC0_1.out)
      (case q3 => exact Z.cc HR92_0 HB)
      (case q4 => exact HC92_0.out)
      rintro e w26 ⟨rfl, hb⟩
      refine ⟨_, rfl, ?_⟩
      replace BK88 := Z.bb BK88 hb
      replace BK89 := Z.bb BK89 hb
      replace HB := Z.k (below_step HB.out hb)
      (try clear hb)
      refine hK.out _ _ ⟨Z.b BK88 0, Z.b BK88 1, Z.b BK88 2, Z.b BK89 0, Z.b BK89 1, Z.b BK89 2⟩ (fun hHeld => ?_)
      clear hK K
      refine Z.nm ?_
      refine Z.pv 5 53 40 63 HT_.out ?_
      refine Z.pv 6 54 40 127 HT_.out ?_
      refine Z.pv 7 55 40 255 HT_.out ?_
      refine Z.pv 8 56 40 511 HT_.out ?_
      refine Z.pv 9 57 40 1023 HT_.out ?_
      refine Z.pu 10 58 40 2047 HT_.out ?_
      refine Z.pu 11 59 40 4095 HT_.out ?_
      refine Z.pu 12 60 40 8191 HT_.out ?_
      refine Z.pu 13 61 40 16383 HT_.out ?_
      refine Z.pu 14 62 40 32767 HT_.out ?_
      refine Z.pu 15 63 40 65535 HT_.out ?_
      refine Z.pu 16 64 40 131071 HT_.out ?_
      refine Z.pu 17 65 40 262143 HT_.out ?_
      refine Z.pu 18 66 40 524287 HT_.out ?_
      refine Z.pu 19 67 40 1048575 HT_.out ?_
      refine Z.pu 20 68 40 2097151 HT_.out ?_
      refine Z.pu 21 69 40 4194303 HT_.out ?_
      refine Z.pu 22 70 40 8388607 HT_.out ?_
      refine Z.pu 23 71 40 16777215 HT_.out ?_
      refine Z.pu 24 72 40 33554431 HT_.out ?_
      refine Z.pu 25 73 40 67108863 HT_.out ?_
      refine Z.pu 26 74 40 134217727 HT_.out ?_
      refine Z.pu 27 75 40 268435455 HT_.out ?_
      refine Z.pu 28 76 40 536870911 HT_.out ?_
      refine Z.pu 29 77 40 1073741823 HT_.out ?_
      refine Z.pu 30 78 40 2147483647 HT_.out ?_
      refine Z.pu 31 79 40 4294967295 HT_.out ?_
      refine Z.pu 32 80 40 8589934591 HT_.out ?_
      refine Z.pu 33 81 40 17179869183 HT_.out ?_
      refine Z.pu 34 82 40 34359738367 HT_.out ?_
      refine Z.pu 35 83 40 68719476735 HT_.out ?_
      refine Z.pu 36 84 40 137438953471 HT_.out ?_
      refine Z.pu 37 85 40 274877906943 HT_.out ?_
      refine Z.pv 38 86 40 549755813887 HT_.out ?_
      refine Z.pv 39 87 40 1099511627775 HT_.out ?_
      refine done_ (done_of HT_.out (by kernel_rfl)) ?_
      try go_wp2
      go_roundg kj11
      case measure => have := HK1.out; have := HK2.out; have := HJ11.out; omega
      case rel => exact ⟨(wrap64 (x4_2 + 1)), (by rfl), H', ⟨by have := HK1.out; have := HK2.out; have := HJ11.out; omega⟩, ⟨by exact BK88.out⟩, ⟨HB.out⟩⟩
     replace c24 := Bool.eq_false_iff.mpr c24
     subst c24
     rw [if_neg (show ¬ (false = true) by decide)] at H
     by_cases c27 : ((rd_T37 (rd_L5 l0_2 x3_1) x4_2).f1) = x3_1
     ·rw [if_pos c27] at H
      have c27b0 : (((rd_T37 (rd_L5 l0_2 x3_1) x4_2).f1) == x3_1) = true := beq_iff_eq.mpr c27
      have c27b1 : (((rd_T37 (rd_L5 l0_2 x3_1) x4_2).f1) != x3_1) = false := bne_eq_false_iff_eq.mpr c27
      clear c27
      obtain rfl := Option.some.inj H
      try go_wp2
      replace BK88 := Z.k (blk_drew BK88.out)
      replace BK89 := Z.k (blk_drew BK89.out)
      replace HB := Z.k (below_drew1 HB.out)
      refine start_ (n := 40) (S := fun w' => w'.cell? ⟨gb88, 0, none⟩ = some (.int .i64 a0_0) ∧ w'.cell? ⟨gb88, 1, none⟩ = some (.slice A0_1 l0_1.length c0_1) ∧ w'.cell? ⟨gb88, 2, none⟩ = some (.slice (some ad95) l0_2.length c0_2) ∧ w'.cell? ⟨gb89, 0, none⟩ = some (.slice A92_0 ((rd_T37 (rd_L5 l0_2 x3_1) x4_2).f0).length c92_0) ∧ w'.cell? ⟨gb89, 1, none⟩ = some (.int .i64 ((rd_T37 (rd_L5 l0_2 x3_1) x4_2).f1)) ∧ w'.cell? ⟨gb89, 2, none⟩ = some (.int .i64 ((rd_T37 (rd_L5 l0_2 x3_1) x4_2).f2))) (ds := []) (Z.mb 40 0) (by kernel_rfl) rfl rfl ⟨Z.b BK88 0, Z.b BK88 1, Z.b BK88 2, Z.b BK89 0, Z.b BK89 1, Z.b BK89 2⟩ (fun hHeld => ?_); refine with_tabW spec_CharterOk.tab11 spec_CharterOk.bits11 (fun HT_ HW_ => ?_)
      generalize wc.drew = w28 at BK88 BK89 HB hHeld ⊢
      refine Z.pv 0 48 40 1 HT_.out ?_
      refine Z.pv 2 50 40 5 HT_.out ?_
      refine Z.t6 1 49 40 7 HT_.out HW_.out hHeld ?_
      refine Z.t6 3 51 40 15 HT_.out HW_.out hHeld ?_
      refine one_ (i := 4) (N := some 52) (Z.mb 40 31) rfl rfl (one_of HT_.out (by kernel_rfl)) (by decide) (fun K hK => ?_)
      refine goes_ Try.func90 (by kernel_rfl) rfl #[.agg #[.int .i64 a0_0, .slice A0_1 l0_1.length c0_1], .slice A92_0 ((rd_T37 (rd_L5 l0_2 x3_1) x4_2).f0).length c92_0] (by rfl) rfl rfl Z.ar ?_
      with_reducible refine (spec_TermOk.calls kj11 a0_0 _ _ l0_1 _ _ ((rd_T37 (rd_L5 l0_2 x3_1) x4_2).f0) true _ ?q1 ?q2 ?q3 ?q4 A22.out).mono ?_
      (case q1 => exact Z.cc HR0_1 HB)
      (case q2 => exact HC0_1.out)
      (case q3 => exact Z.cc HR92_0 HB)
      (case q4 => exact HC92_0.out)
      rintro e w29 ⟨rfl, hb⟩
      refine ⟨_, rfl, ?_⟩
      replace BK88 := Z.bb BK88 hb
      replace BK89 := Z.bb BK89 hb
      replace HB := Z.k (below_step HB.out hb)
      (try clear hb)
      refine hK.out _ _ ⟨Z.b BK88 0, Z.b BK88 1, Z.b BK88 2, Z.b BK89 0, Z.b BK89 1, Z.b BK89 2⟩ (fun hHeld => ?_)
      clear hK K
      refine Z.nm ?_
      refine Z.pv 5 53 40 63 HT_.out ?_
      refine Z.pv 6 54 40 127 HT_.out ?_
      refine Z.pv 7 55 40 255 HT_.out ?_
      refine Z.pv 8 56 40 511 HT_.out ?_
      refine Z.pv 9 57 40 1023 HT_.out ?_
      refine Z.pv 10 58 40 2047 HT_.out ?_
      refine Z.pv 12 60 40 6143 HT_.out ?_
      refine Z.t6 11 59 40 8191 HT_.out HW_.out hHeld ?_
      refine Z.pv 13 61 40 16383 HT_.out ?_
      refine Z.pv 14 62 40 32767 HT_.out ?_
      refine Z.pu 15 63 40 65535 HT_.out ?_
      refine Z.pu 16 64 40 131071 HT_.out ?_
      refine Z.pu 17 65 40 262143 HT_.out ?_
      refine Z.pu 18 66 40 524287 HT_.out ?_
      refine Z.pu 19 67 40 1048575 HT_.out ?_
      refine Z.pu 20 68 40 2097151 HT_.out ?_
      refine Z.pu 21 69 40 4194303 HT_.out ?_
      refine Z.pu 22 70 40 8388607 HT_.out ?_
      refine Z.pv 23 71 40 16777215 HT_.out ?_
      refine Z.pv 24 72 40 33554431 HT_.out ?_
      refine Z.pu 25 73 40 67108863 HT_.out ?_
      refine Z.pu 26 74 40 134217727 HT_.out ?_
      refine Z.pu 27 75 40 268435455 HT_.out ?_
      refine Z.pu 28 76 40 536870911 HT_.out ?_
      refine Z.pu 29 77 40 1073741823 HT_.out ?_
      refine Z.pu 30 78 40 2147483647 HT_.out ?_
      refine Z.pu 31 79 40 4294967295 HT_.out ?_
      refine Z.pu 32 80 40 8589934591 HT_.out ?_
      refine Z.pu 33 81 40 17179869183 HT_.out ?_
      refine Z.pu 34 82 40 34359738367 HT_.out ?_
      refine Z.pu 35 83 40 68719476735 HT_.out ?_
      refine Z.pu 36 84 40 137438953471 HT_.out ?_
      refine Z.pv 37 85 40 274877906943 HT_.out ?_
      refine Z.pv 38 86 40 549755813887 HT_.out ?_
      refine Z.pv 39 87 40 1099511627775 HT_.out ?_
      refine done_ (done_of HT_.out (by kernel_rfl)) ?_
      try go_wp2
      go_ret
      exact ⟨by rfl, HB.out⟩
     rw [if_neg c27] at H
     have c27b0 : (((rd_T37 (rd_L5 l0_2 x3_1) x4_2).f1) == x3_1) = false := beq_eq_false_iff_ne.mpr c27
     have c27b1 : (((rd_T37 (rd_L5 l0_2 x3_1) x4_2).f1) != x3_1) = true := bne_iff_ne.mpr c27
     revert H; refine Z.bd ?_; rintro t525 A30 H
     by_cases c31 : t525 = true
     rotate_left
     ·replace c31 := Bool.eq_false_iff.mpr c31
      subst c31
      rw [if_neg (show ¬ (false = true) by decide)] at H
      obtain rfl := Option.some.inj H
      try go_wp2
      replace BK88 := Z.k (blk_drew BK88.out)
      replace BK89 := Z.k (blk_drew BK89.out)
      replace HB := Z.k (below_drew1 HB.out)
      refine start_ (n := 40) (S := fun w' => w'.cell? ⟨gb88, 0, none⟩ = some (.int .i64 a0_0) ∧ w'.cell? ⟨gb88, 1, none⟩ = some (.slice A0_1 l0_1.length c0_1) ∧ w'.cell? ⟨gb88, 2, none⟩ = some (.slice (some ad95) l0_2.length c0_2) ∧ w'.cell? ⟨gb89, 0, none⟩ = some (.slice A92_0 ((rd_T37 (rd_L5 l0_2 x3_1) x4_2).f0).length c92_0) ∧ w'.cell? ⟨gb89, 1, none⟩ = some (.int .i64 ((rd_T37 (rd_L5 l0_2 x3_1) x4_2).f1)) ∧ w'.cell? ⟨gb89, 2, none⟩ = some (.int .i64 ((rd_T37 (rd_L5 l0_2 x3_1) x4_2).f2))) (ds := []) (Z.mb 40 0) (by kernel_rfl) rfl rfl ⟨Z.b BK88 0, Z.b BK88 1, Z.b BK88 2, Z.b BK89 0, Z.b BK89 1, Z.b BK89 2⟩ (fun hHeld => ?_); refine with_tabW spec_CharterOk.tab11 spec_CharterOk.bits11 (fun HT_ HW_ => ?_)
      generalize wc.drew = w40 at BK88 BK89 HB hHeld ⊢
      refine Z.pv 0 48 40 1 HT_.out ?_
      refine Z.pv 2 50 40 5 HT_.out ?_
      refine Z.t6 1 49 40 7 HT_.out HW_.out hHeld ?_
      refine Z.t6 3 51 40 15 HT_.out HW_.out hHeld ?_
      refine one_ (i := 4) (N := some 52) (Z.mb 40 31) rfl rfl (one_of HT_.out (by kernel_rfl)) (by decide) (fun K hK => ?_)
      refine goes_ Try.func90 (by kernel_rfl) rfl #[.agg #[.int .i64 a0_0, .slice A0_1 l0_1.length c0_1], .slice A92_0 ((rd_T37 (rd_L5 l0_2 x3_1) x4_2).f0).length c92_0] (by rfl) rfl rfl Z.ar ?_
      with_reducible refine (spec_TermOk.calls kj11 a0_0 _ _ l0_1 _ _ ((rd_T37 (rd_L5 l0_2 x3_1) x4_2).f0) true _ ?q1 ?q2 ?q3 ?q4 A22.out).mono ?_
      (case q1 => exact Z.cc HR0_1 HB)
      (case q2 => exact HC0_1.out)
      (case q3 => exact Z.cc HR92_0 HB)
      (case q4 => exact HC92_0.out)
      rintro e w41 ⟨rfl, hb⟩
      refine ⟨_, rfl, ?_⟩
      replace BK88 := Z.bb BK88 hb
      replace BK89 := Z.bb BK89 hb
      replace HB := Z.k (below_step HB.out hb)
      (try clear hb)
      refine hK.out _ _ ⟨Z.b BK88 0, Z.b BK88 1, Z.b BK88 2, Z.b BK89 0, Z.b BK89 1, Z.b BK89 2⟩ (fun hHeld => ?_)
      clear hK K
      refine Z.nm ?_
      refine Z.pv 5 53 40 63 HT_.out ?_
      refine Z.pv 6 54 40 127 HT_.out ?_
      refine Z.pv 7 55 40 255 HT_.out ?_
      refine Z.pv 8 56 40 511 HT_.out ?_
      refine Z.pv 9 57 40 1023 HT_.out ?_
      refine Z.pv 10 58 40 2047 HT_.out ?_
      refine Z.pv 12 60 40 6143 HT_.out ?_
      refine Z.t6 11 59 40 8191 HT_.out HW_.out hHeld ?_
      refine Z.pv 13 61 40 16383 HT_.out ?_
      refine Z.pv 14 62 40 32767 HT_.out ?_
      refine Z.pv 15 63 40 65535 HT_.out ?_
      refine Z.pv 17 65 40 196607 HT_.out ?_
      refine Z.t6 16 64 40 262143 HT_.out HW_.out hHeld ?_
      refine Z.t6 18 66 40 524287 HT_.out HW_.out hHeld ?_
      refine Z.pv 19 67 40 1048575 HT_.out ?_
      refine Z.pv 20 68 40 2097151 HT_.out ?_
      refine one_ (i := 21) (N := some 69) (Z.mb 40 4194303) rfl rfl (one_of HT_.out (by kernel_rfl)) (by decide) (fun K hK => ?_)
      refine goes_ Try.func59 (by kernel_rfl) rfl #[.int .i64 ((rd_T37 (rd_L5 l0_2 x3_1) x4_2).f1), .int .i64 0, .int .i64 (wrap64 ((l0_2.length : Int) - 1))] (by rfl) rfl rfl Z.ar ?_
      with_reducible refine (spec_l1In.calls ((rd_T37 (rd_L5 l0_2 x3_1) x4_2).f1) 0 (wrap64 ((l0_2.length : Int) - 1)) false _ A30.out).mono ?_
      rintro e w' ⟨rfl, ⟨nd, rfl⟩⟩
      refine ⟨_, rfl, ?_⟩
      refine hK.out _ _ ⟨Z.b BK88 0, Z.b BK88 1, Z.b BK88 2, Z.b BK89 0, Z.b BK89 1, Z.b BK89 2⟩ (fun hHeld => ?_)
      clear hK K
      refine Z.nm ?_
      refine Z.pv 22 70 40 8388607 HT_.out ?_
      refine Z.pv 23 71 40 16777215 HT_.out ?_
      refine Z.pv 24 72 40 33554431 HT_.out ?_
      refine Z.pu 25 73 40 67108863 HT_.out ?_
      refine Z.pu 26 74 40 134217727 HT_.out ?_
      refine Z.pu 27 75 40 268435455 HT_.out ?_
      refine Z.pu 28 76 40 536870911 HT_.out ?_
      refine Z.pu 29 77 40 1073741823 HT_.out ?_
      refine Z.pu 30 78 40 2147483647 HT_.out ?_
      refine Z.pu 31 79 40 4294967295 HT_.out ?_
      refine Z.pu 32 80 40 8589934591 HT_.out ?_
      refine Z.pu 33 81 40 17179869183 HT_.out ?_
      refine Z.pu 34 82 40 34359738367 HT_.out ?_
      refine Z.pu 35 83 40 68719476735 HT_.out ?_
      refine Z.pu 36 84 40 137438953471 HT_.out ?_
      refine Z.pv 37 85 40 274877906943 HT_.out ?_
      refine Z.pv 38 86 40 549755813887 HT_.out ?_
      refine Z.pv 39 87 40 1099511627775 HT_.out ?_
      refine done_ (done_of HT_.out (by kernel_rfl)) ?_
      try go_wp2
      go_ret
      exact ⟨by rfl, by repeat ((with_reducible first | exact HB.out | apply pw_below_drewN))⟩
     subst c31
     rw [if_pos rfl] at H
     obtain ⟨c32, H⟩ := Z.ifp H
     have c32b0 : decide (0 ≤ ((rd_T37 (rd_L5 l0_2 x3_1) x4_2).f1)) = true := decide_eq_true c32
     clear c32
     obtain ⟨c33, H⟩ := Z.ifp H
     have c33b0 : decide (((rd_T37 (rd_L5 l0_2 x3_1) x4_2).f1) < (l0_2.length : Int)) = true := decide_eq_true c33
     clear c33
     revert H; refine Z.bd ?_; rintro t527 A34 H
     by_cases c35 : t527 = true
     ·subst c35
      rw [if_pos rfl] at H
      have H' := Z.k H
      clear H
      try go_wp2
      replace BK88 := Z.k (blk_drew BK88.out)
      replace BK89 := Z.k (blk_drew BK89.out)
      replace HB := Z.k (below_drew1 HB.out)
      have p93 : (0 ≤ (((rd_T37 (rd_L5 l0_2 x3_1) x4_2).f1) : Int)) = True := Z.oe
      have q93 : (((rd_T37 (rd_L5 l0_2 x3_1) x4_2).f1) < (l0_2.length : Int)) = True := Z.oe
      obtain ⟨ad93, A93_0, c93_0, e93, hx93_0, hl93_0, hi93_0⟩ := at_L5 HR0_2.out ((rd_T37 (rd_L5 l0_2 x3_1) x4_2).f1) Z.od Z.od
      have hw93_0 := hx93_0
      obtain rfl : ad95 = ad93 := (by injection e93)
      replace hx93_0 := Z.up HB.out hx93_0
      have HR93_0 := Z.k hi93_0
      have HC93_0 := Z.k hl93_0
      clear hi93_0 hl93_0
      refine start_ (n := 40) (S := fun w' => w'.cell? ⟨gb88, 0, none⟩ = some (.int .i64 a0_0) ∧ w'.cell? ⟨gb88, 1, none⟩ = some (.slice A0_1 l0_1.length c0_1) ∧ w'.cell? ⟨gb88, 2, none⟩ = some (.slice (some ad95) l0_2.length c0_2) ∧ w'.cell? ⟨gb89, 0, none⟩ = some (.slice A92_0 ((rd_T37 (rd_L5 l0_2 x3_1) x4_2).f0).length c92_0) ∧ w'.cell? ⟨gb89, 1, none⟩ = some (.int .i64 ((rd_T37 (rd_L5 l0_2 x3_1) x4_2).f1)) ∧ w'.cell? ⟨gb89, 2, none⟩ = some (.int .i64 ((rd_T37 (rd_L5 l0_2 x3_1) x4_2).f2)) ∧ w'.cell? (ad95.add (((rd_T37 (rd_L5 l0_2 x3_1) x4_2).f1)).toNat) = some (.slice A93_0 (rd_L5 l0_2 ((rd_T37 (rd_L5 l0_2 x3_1) x4_2).f1)).length c93_0)) (ds := []) (Z.mb 40 0) (by kernel_rfl) rfl rfl ⟨Z.b BK88 0, Z.b BK88 1, Z.b BK88 2, Z.b BK89 0, Z.b BK89 1, Z.b BK89 2, (Z.up HB.out hw93_0 :)⟩ (fun hHeld => ?_); refine with_tabW spec_CharterOk.tab11 spec_CharterOk.bits11 (fun HT_ HW_ => ?_)
      generalize wc.drew = w36 at BK88 BK89 HB HR93_0 hx93_0 hHeld ⊢
      refine Z.pv 0 48 40 1 HT_.out ?_
      refine Z.pv 2 50 40 5 HT_.out ?_
      refine Z.t7 1 49 40 7 HT_.out HW_.out hHeld ?_
      refine Z.t7 3 51 40 15 HT_.out HW_.out hHeld ?_
      refine one_ (i := 4) (N := some 52) (Z.mb 40 31) rfl rfl (one_of HT_.out (by kernel_rfl)) (by decide) (fun K hK => ?_)
      refine goes_ Try.func90 (by kernel_rfl) rfl #[.agg #[.int .i64 a0_0, .slice A0_1 l0_1.length c0_1], .slice A92_0 ((rd_T37 (rd_L5 l0_2 x3_1) x4_2).f0).length c92_0] (by rfl) rfl rfl Z.ar ?_
      with_reducible refine (spec_TermOk.calls kj11 a0_0 _ _ l0_1 _ _ ((rd_T37 (rd_L5 l0_2 x3_1) x4_2).f0) true _ ?q1 ?q2 ?q3 ?q4 A22.out).mono ?_
      (case q1 => exact Z.cc HR0_1 HB)
      (case q2 => exact HC0_1.out)
      (case q3 => exact Z.cc HR92_0 HB)
      (case q4 => exact HC92_0.out)
      rintro e w37 ⟨rfl, hb⟩
      refine ⟨_, rfl, ?_⟩
      replace BK88 := Z.bb BK88 hb
      replace BK89 := Z.bb BK89 hb
      replace HB := Z.k (below_step HB.out hb)
      (try clear hb)
      refine hK.out _ _ ⟨Z.b BK88 0, Z.b BK88 1, Z.b BK88 2, Z.b BK89 0, Z.b BK89 1, Z.b BK89 2, (Z.up HB.out hw93_0 :)⟩ (fun hHeld => ?_)
      clear hK K
      refine Z.nm ?_
      refine Z.pv 5 53 40 63 HT_.out ?_
      refine Z.pv 6 54 40 127 HT_.out ?_
      refine Z.pv 7 55 40 255 HT_.out ?_
      refine Z.pv 8 56 40 511 HT_.out ?_
      refine Z.pv 9 57 40 1023 HT_.out ?_
      refine Z.pv 10 58 40 2047 HT_.out ?_
      refine Z.pv 12 60 40 6143 HT_.out ?_
      refine Z.t7 11 59 40 8191 HT_.out HW_.out hHeld ?_
      refine Z.pv 13 61 40 16383 HT_.out ?_
      refine Z.pv 14 62 40 32767 HT_.out ?_
      refine Z.pv 15 63 40 65535 HT_.out ?_
      refine Z.pv 17 65 40 196607 HT_.out ?_
      refine Z.t7 16 64 40 262143 HT_.out HW_.out hHeld ?_
      refine Z.t7 18 66 40 524287 HT_.out HW_.out hHeld ?_
      refine Z.pv 19 67 40 1048575 HT_.out ?_
      refine Z.pv 20 68 40 2097151 HT_.out ?_
      refine one_ (i := 21) (N := some 69) (Z.mb 40 4194303) rfl rfl (one_of HT_.out (by kernel_rfl)) (by decide) (fun K hK => ?_)
      refine goes_ Try.func59 (by kernel_rfl) rfl #[.int .i64 ((rd_T37 (rd_L5 l0_2 x3_1) x4_2).f1), .int .i64 0, .int .i64 (wrap64 ((l0_2.length : Int) - 1))] (by rfl) rfl rfl Z.ar ?_
      with_reducible refine (spec_l1In.calls ((rd_T37 (rd_L5 l0_2 x3_1) x4_2).f1) 0 (wrap64 ((l0_2.length : Int) - 1)) true _ A30.out).mono ?_
      rintro e w' ⟨rfl, ⟨nd, rfl⟩⟩
      refine ⟨_, rfl, ?_⟩
      refine hK.out _ _ ⟨Z.b BK88 0, Z.b BK88 1, Z.b BK88 2, Z.b BK89 0, Z.b BK89 1, Z.b BK89 2, (Z.up HB.out hw93_0 :)⟩ (fun hHeld => ?_)
      clear hK K
      refine Z.nm ?_
      refine Z.pv 22 70 40 8388607 HT_.out ?_
      refine Z.pv 23 71 40 16777215 HT_.out ?_
      refine Z.pv 24 72 40 33554431 HT_.out ?_
      refine Z.pv 25 73 40 67108863 HT_.out ?_
      refine Z.pv 27 75 40 201326591 HT_.out ?_
      refine Z.pv 29 77 40 738197503 HT_.out ?_
      refine Z.t7 26 74 40 805306367 HT_.out HW_.out hHeld ?_
      refine Z.t7 28 76 40 1073741823 HT_.out HW_.out hHeld ?_
      refine Z.t7 30 78 40 2147483647 HT_.out HW_.out hHeld ?_
      refine Z.pv 31 79 40 4294967295 HT_.out ?_
      refine Z.t7 32 80 40 8589934591 HT_.out HW_.out hHeld ?_
      refine Z.pv 33 81 40 17179869183 HT_.out ?_
      refine Z.pv 34 82 40 34359738367 HT_.out ?_
      refine one_ (i := 35) (N := some 83) (Z.mb 40 68719476735) rfl rfl (one_of HT_.out (by kernel_rfl)) (by decide) (fun K hK => ?_)
      refine goes_ Try.func59 (by kernel_rfl) rfl #[.int .i64 ((rd_T37 (rd_L5 l0_2 x3_1) x4_2).f2), .int .i64 0, .int .i64 (wrap64 (((rd_L5 l0_2 ((rd_T37 (rd_L5 l0_2 x3_1) x4_2).f1)).length : Int) - 1))] (by rfl) rfl rfl Z.ar ?_
      with_reducible refine (spec_l1In.calls ((rd_T37 (rd_L5 l0_2 x3_1) x4_2).f2) 0 (wrap64 (((rd_L5 l0_2 ((rd_T37 (rd_L5 l0_2 x3_1) x4_2).f1)).length : Int) - 1)) true _ A34.out).mono ?_
      rintro e w' ⟨rfl, ⟨nd, rfl⟩⟩
      refine ⟨_, rfl, ?_⟩
      refine hK.out _ _ ⟨Z.b BK88 0, Z.b BK88 1, Z.b BK88 2, Z.b BK89 0, Z.b BK89 1, Z.b BK89 2, (Z.up HB.out hw93_0 :)⟩ (fun hHeld => ?_)
      clear hK K
      refine Z.nm ?_
      refine Z.pv 36 84 40 137438953471 HT_.out ?_
      refine Z.pv 37 85 40 274877906943 HT_.out ?_
      refine Z.pv 38 86 40 549755813887 HT_.out ?_
      refine Z.pv 39 87 40 1099511627775 HT_.out ?_
      refine done_ (done_of HT_.out (by kernel_rfl)) ?_
      try go_wp2
      go_roundg kj11
      case measure => have := HK1.out; have := HK2.out; have := HJ11.out; omega
      case rel => exact ⟨(wrap64 (x4_2 + 1)), (by rfl), H', ⟨by have := HK1.out; have := HK2.out; have := HJ11.out; omega⟩, ⟨by (with_reducible repeat (refine blk_drewN ?_ _)); exact BK88.out⟩, ⟨by repeat ((with_reducible first | exact HB.out | apply pw_below_drewN))⟩⟩
     replace c35 := Bool.eq_false_iff.mpr c35
     subst c35
     rw [if_neg (show ¬ (false = true) by decide)] at H
     obtain rfl := Option.some.inj H
     try go_wp2
     replace BK88 := Z.k (blk_drew BK88.out)
     replace BK89 := Z.k (blk_drew BK89.out)
     replace HB := Z.k (below_drew1 HB.out)
     have p93 : (0 ≤ (((rd_T37 (rd_L5 l0_2 x3_1) x4_2).f1) : Int)) = True := Z.oe
     have q93 : (((rd_T37 (rd_L5 l0_2 x3_1) x4_2).f1) < (l0_2.length : Int)) = True := Z.oe
     obtain ⟨ad93, A93_0, c93_0, e93, hx93_0, hl93_0, hi93_0⟩ := at_L5 HR0_2.out ((rd_T37 (rd_L5 l0_2 x3_1) x4_2).f1) Z.od Z.od
     have hw93_0 := hx93_0
     obtain rfl : ad95 = ad93 := (by injection e93)
     replace hx93_0 := Z.up HB.out hx93_0
     have HR93_0 := Z.k hi93_0
     have HC93_0 := Z.k hl93_0
     clear hi93_0 hl93_0
     refine start_ (n := 40) (S := fun w' => w'.cell? ⟨gb88, 0, none⟩ = some (.int .i64 a0_0) ∧ w'.cell? ⟨gb88, 1, none⟩ = some (.slice A0_1 l0_1.length c0_1) ∧ w'.cell? ⟨gb88, 2, none⟩ = some (.slice (some ad95) l0_2.length c0_2) ∧ w'.cell? ⟨gb89, 0, none⟩ = some (.slice A92_0 ((rd_T37 (rd_L5 l0_2 x3_1) x4_2).f0).length c92_0) ∧ w'.cell? ⟨gb89, 1, none⟩ = some (.int .i64 ((rd_T37 (rd_L5 l0_2 x3_1) x4_2).f1)) ∧ w'.cell? ⟨gb89, 2, none⟩ = some (.int .i64 ((rd_T37 (rd_L5 l0_2 x3_1) x4_2).f2)) ∧ w'.cell? (ad95.add (((rd_T37 (rd_L5 l0_2 x3_1) x4_2).f1)).toNat) = some (.slice A93_0 (rd_L5 l0_2 ((rd_T37 (rd_L5 l0_2 x3_1) x4_2).f1)).length c93_0)) (ds := []) (Z.mb 40 0) (by kernel_rfl) rfl rfl ⟨Z.b BK88 0, Z.b BK88 1, Z.b BK88 2, Z.b BK89 0, Z.b BK89 1, Z.b BK89 2, (Z.up HB.out hw93_0 :)⟩ (fun hHeld => ?_); refine with_tabW spec_CharterOk.tab11 spec_CharterOk.bits11 (fun HT_ HW_ => ?_)
     generalize wc.drew = w38 at BK88 BK89 HB HR93_0 hx93_0 hHeld ⊢
     refine Z.pv 0 48 40 1 HT_.out ?_
     refine Z.pv 2 50 40 5 HT_.out ?_
     refine Z.t7 1 49 40 7 HT_.out HW_.out hHeld ?_
     refine Z.t7 3 51 40 15 HT_.out HW_.out hHeld ?_
     refine one_ (i := 4) (N := some 52) (Z.mb 40 31) rfl rfl (one_of HT_.out (by kernel_rfl)) (by decide) (fun K hK => ?_)
     refine goes_ Try.func90 (by kernel_rfl) rfl #[.agg #[.int .i64 a0_0, .slice A0_1 l0_1.length c0_1], .slice A92_0 ((rd_T37 (rd_L5 l0_2 x3_1) x4_2).f0).length c92_0] (by rfl) rfl rfl Z.ar ?_
     with_reducible refine (spec_TermOk.calls kj11 a0_0 _ _ l0_1 _ _ ((rd_T37 (rd_L5 l0_2 x3_1) x4_2).f0) true _ ?q1 ?q2 ?q3 ?q4 A22.out).mono ?_
     (case q1 => exact Z.cc HR0_1 HB)
     (case q2 => exact HC0_1.out)
     (case q3 => exact Z.cc HR92_0 HB)
     (case q4 => exact HC92_0.out)
     rintro e w39 ⟨rfl, hb⟩
     refine ⟨_, rfl, ?_⟩
     replace BK88 := Z.bb BK88 hb
     replace BK89 := Z.bb BK89 hb
     replace HB := Z.k (below_step HB.out hb)
     (try clear hb)
     refine hK.out _ _ ⟨Z.b BK88 0, Z.b BK88 1, Z.b BK88 2, Z.b BK89 0, Z.b BK89 1, Z.b BK89 2, (Z.up HB.out hw93_0 :)⟩ (fun hHeld => ?_)
     clear hK K
     refine Z.nm ?_
     refine Z.pv 5 53 40 63 HT_.out ?_
     refine Z.pv 6 54 40 127 HT_.out ?_
     refine Z.pv 7 55 40 255 HT_.out ?_
     refine Z.pv 8 56 40 511 HT_.out ?_
     refine Z.pv 9 57 40 1023 HT_.out ?_
     refine Z.pv 10 58 40 2047 HT_.out ?_
     refine Z.pv 12 60 40 6143 HT_.out ?_
     refine Z.t7 11 59 40 8191 HT_.out HW_.out hHeld ?_
     refine Z.pv 13 61 40 16383 HT_.out ?_
     refine Z.pv 14 62 40 32767 HT_.out ?_
     refine Z.pv 15 63 40 65535 HT_.out ?_
     refine Z.pv 17 65 40 196607 HT_.out ?_
     refine Z.t7 16 64 40 262143 HT_.out HW_.out hHeld ?_
     refine Z.t7 18 66 40 524287 HT_.out HW_.out hHeld ?_
     refine Z.pv 19 67 40 1048575 HT_.out ?_
     refine Z.pv 20 68 40 2097151 HT_.out ?_
     refine one_ (i := 21) (N := some 69) (Z.mb 40 4194303) rfl rfl (one_of HT_.out (by kernel_rfl)) (by decide) (fun K hK => ?_)
     refine goes_ Try.func59 (by kernel_rfl) rfl #[.int .i64 ((rd_T37 (rd_L5 l0_2 x3_1) x4_2).f1), .int .i64 0, .int .i64 (wrap64 ((l0_2.length : Int) - 1))] (by rfl) rfl rfl Z.ar ?_
     with_reducible refine (spec_l1In.calls ((rd_T37 (rd_L5 l0_2 x3_1) x4_2).f1) 0 (wrap64 ((l0_2.length : Int) - 1)) true _ A30.out).mono ?_
     rintro e w' ⟨rfl, ⟨nd, rfl⟩⟩
     refine ⟨_, rfl, ?_⟩
     refine hK.out _ _ ⟨Z.b BK88 0, Z.b BK88 1, Z.b BK88 2, Z.b BK89 0, Z.b BK89 1, Z.b BK89 2, (Z.up HB.out hw93_0 :)⟩ (fun hHeld => ?_)
     clear hK K
     refine Z.nm ?_
     refine Z.pv 22 70 40 8388607 HT_.out ?_
     refine Z.pv 23 71 40 16777215 HT_.out ?_
     refine Z.pv 24 72 40 33554431 HT_.out ?_
     refine Z.pv 25 73 40 67108863 HT_.out ?_
     refine Z.pv 27 75 40 201326591 HT_.out ?_
     refine Z.pv 29 77 40 738197503 HT_.out ?_
     refine Z.t7 26 74 40 805306367 HT_.out HW_.out hHeld ?_
     refine Z.t7 28 76 40 1073741823 HT_.out HW_.out hHeld ?_
     refine Z.t7 30 78 40 2147483647 HT_.out HW_.out hHeld ?_
     refine Z.pv 31 79 40 4294967295 HT_.out ?_
     refine Z.t7 32 80 40 8589934591 HT_.out HW_.out hHeld ?_
     refine Z.pv 33 81 40 17179869183 HT_.out ?_
     refine Z.pv 34 82 40 34359738367 HT_.out ?_
     refine one_ (i := 35) (N := some 83) (Z.mb 40 68719476735) rfl rfl (one_of HT_.out (by kernel_rfl)) (by decide) (fun K hK => ?_)
     refine goes_ Try.func59 (by kernel_rfl) rfl #[.int .i64 ((rd_T37 (rd_L5 l0_2 x3_1) x4_2).f2), .int .i64 0, .int .i64 (wrap64 (((rd_L5 l0_2 ((rd_T37 (rd_L5 l0_2 x3_1) x4_2).f1)).length : Int) - 1))] (by rfl) rfl rfl Z.ar ?_
     with_reducible refine (spec_l1In.calls ((rd_T37 (rd_L5 l0_2 x3_1) x4_2).f2) 0 (wrap64 (((rd_L5 l0_2 ((rd_T37 (rd_L5 l0_2 x3_1) x4_2).f1)).length : Int) - 1)) false _ A34.out).mono ?_
     rintro e w' ⟨rfl, ⟨nd, rfl⟩⟩
     refine ⟨_, rfl, ?_⟩
     refine hK.out _ _ ⟨Z.b BK88 0, Z.b BK88 1, Z.b BK88 2, Z.b BK89 0, Z.b BK89 1, Z.b BK89 2, (Z.up HB.out hw93_0 :)⟩ (fun hHeld => ?_)
     clear hK K
     refine Z.nm ?_
     refine Z.pv 36 84 40 137438953471 HT_.out ?_
     refine Z.pv 37 85 40 274877906943 HT_.out ?_
     refine Z.pv 38 86 40 549755813887 HT_.out ?_
     refine Z.pv 39 87 40 1099511627775 HT_.out ?_
     refine done_ (done_of HT_.out (by kernel_rfl)) ?_
     try go_wp2
     go_ret
     exact ⟨by rfl, by repeat ((with_reducible first | exact HB.out | apply pw_below_drewN))⟩
end Go.Proofs.Ytkogboechfieeaa.PAll
