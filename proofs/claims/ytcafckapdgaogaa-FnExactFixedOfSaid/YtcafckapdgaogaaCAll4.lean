/- Walks of functions that All reaches, in the form of the print. -/
-- PRINTED
import Derived.Test.YtcafckapdgaogaaCAll3
namespace Go.Proofs.Ytcafckapdgaogaa.PAll
open Go.RowKit Go.Proofs.YtcafckapdgaogaaW.PrintWords Go.Proofs.YtcafckapdgaogaaW.PrintLast Go.Proofs.YtcafckapdgaogaaW.PrintMore
attribute [local go_sem] max2_int min2_int max_two min_two max_three min_three max_four min_four
set_option linter.unusedVariables false
set_option linter.unusedSimpArgs false

/-! ### spec_CharterOk: function 72 -/
mutual
def spec_CharterOk.l0 : Nat → Int → Int → List Int → List (List (S86)) → Option (Bool)
 | 0, _, _, _, _ => none
 | k + 1, x3, x132000, x132001, x132002 => if x3 < (x132002.length : Int) then (if 0 ≤ x3 then ((spec_l1In.f ((rd_L9 x132002 x3).length : Int) 1 3).bind fun t135 => (if t135 = true then (spec_CharterOk.l1 k x3 0 x132000 x132001 x132002) else (some false))) else (none)) else ((spec_HouseOk.f k x132000 x132001).bind fun t132 => (if t132 = true then ((spec_l1In.f (x132002.length : Int) 1 3).bind fun t133 => (some t133)) else (some false)))
def spec_CharterOk.l1 : Nat → Int → Int → Int → List Int → List (List (S86)) → Option (Bool)
 | 0, _, _, _, _, _ => none
 | k + 1, x3, x4, x132000, x132001, x132002 => if 0 ≤ x3 then (if x3 < (x132002.length : Int) then (if x4 < ((rd_L9 x132002 x3).length : Int) then (if 0 ≤ x4 then (if ((rd_T86 (rd_L9 x132002 x3) x4).f1) = (-1) then (spec_CharterOk.j2 k x3 x4 (((rd_T86 (rd_L9 x132002 x3) x4).f2) == 0) x132000 x132001 x132002 ((rd_T86 (rd_L9 x132002 x3) x4).f0) ((rd_T86 (rd_L9 x132002 x3) x4).f1) ((rd_T86 (rd_L9 x132002 x3) x4).f2)) else (spec_CharterOk.j2 k x3 x4 false x132000 x132001 x132002 ((rd_T86 (rd_L9 x132002 x3) x4).f0) ((rd_T86 (rd_L9 x132002 x3) x4).f1) ((rd_T86 (rd_L9 x132002 x3) x4).f2))) else (none)) else (spec_CharterOk.l0 k (wrap64 (x3 + 1)) x132000 x132001 x132002)) else (none)) else (none)
def spec_CharterOk.j2 : Nat → Int → Int → Bool → Int → List Int → List (List (S86)) → List (S134) → Int → Int → Option (Bool)
 | 0, _, _, _, _, _, _, _, _, _ => none
 | k + 1, x3, x4, x6, x132000, x132001, x132002, x140000, x140001, x140002 => (spec_TermOk.f k x132000 x132001 x140000).bind fun t140 => (if t140 = true then (if x6 = true then (spec_CharterOk.l1 k x3 (wrap64 (x4 + 1)) x132000 x132001 x132002) else (if x140001 = x3 then (some false) else ((spec_l1In.f x140001 0 (wrap64 ((x132002.length : Int) - 1))).bind fun t141 => (if t141 = true then (if 0 ≤ x140001 then (if x140001 < (x132002.length : Int) then ((spec_l1In.f x140002 0 (wrap64 (((rd_L9 x132002 x140001).length : Int) - 1))).bind fun t143 => (if t143 = true then (spec_CharterOk.l1 k x3 (wrap64 (x4 + 1)) x132000 x132001 x132002) else (some false))) else (none)) else (none)) else (some false))))) else (some false))
end
def spec_CharterOk.f (k : Nat) (a0_0 : Int) (l0_1 : List Int) (l0_2 : List (List (S86))) : Option (Bool) := spec_CharterOk.l0 k 0 a0_0 l0_1 l0_2
def spec_CharterOk.T11 : Bool × List (List Nat × List Nat) := (true, [([], []), ([0], [0]), ([], []), ([2], [2]), ([1, 3], [1, 3]), ([4], [4]), ([5, 4], [5]), ([6], [6]), ([7, 6], [6, 7]), ([8, 6, 6], [6, 8]), ([9], [9]), ([10, 9], [9, 10]), ([9], [9]), ([11, 12, 9], [9, 11, 12]), ([13, 9, 9], [9, 13]), ([14], [14]), ([15, 14], [14, 15]), ([14], [14]), ([17, 14], [14, 17]), ([18, 14], [14, 18]), ([19, 14], [14, 19]), ([16, 20, 14, 14], [14, 16, 20]), ([21, 14], [14, 21]), ([14, 22, 9], [9, 14, 22]), ([23, 21, 9], [9, 23]), ([24], [24]), ([25, 24], [24, 25]), ([24], [24]), ([27, 24], [24, 27]), ([24], [24]), ([29, 24], [24, 29]), ([28, 30, 24], [24, 28, 30]), ([31, 24], [24, 31]), ([32, 24], [24, 32]), ([33, 24], [24, 33]), ([26, 34, 24, 24], [24, 26, 34]), ([35, 24], [24, 35]), ([24, 36, 9], [9, 24, 36]), ([9, 37, 6], [6, 9, 37]), ([6, 38], [6, 38])])
def spec_CharterOk.B11 : List Nat := [0, 1, 0, 4, 15, 31, 63, 127, 255, 511, 1023, 2047, 1023, 8191, 16383, 32767, 65535, 32767, 163839, 425983, 950271, 2097151, 4194303, 8388607, 16777215, 33554431, 67108863, 33554431, 167772159, 33554431, 570425343, 2046820351, 4194303999, 8489271295, 17079205887, 34359738367, 68719476735, 137438953471, 274877906943, 549755813887]
theorem spec_CharterOk.tab11 : rtab .any (opsOf Try.f72 11) = spec_CharterOk.T11 := by kernel_rfl
theorem spec_CharterOk.bits11 : waitsOk spec_CharterOk.T11.2 spec_CharterOk.B11 = true := by kernel_rfl
set_option maxHeartbeats 8000000 in
set_option maxRecDepth 100000 in
theorem spec_CharterOk.calls (k : Nat) (a0_0 : Int) (A0_1 : Option Addr) (c0_1 : Nat) (l0_1 : List Int) (A0_2 : Option Addr) (c0_2 : Nat) (l0_2 : List (List (S86))) (r : Bool) (w : World) (hr0_1 : Kd.C (Kd.int .i64) w A0_1 l0_1.length l0_1) (hc0_1 : l0_1.length ≤ c0_1) (hr0_2 : Kd.C (Kd.slice 86 k86) w A0_2 l0_2.length l0_2) (hc0_2 : l0_2.length ≤ c0_2) (h : spec_CharterOk.f k a0_0 l0_1 l0_2 = some r) :
  Calls Try.prog 72 #[.agg #[.int .i64 a0_0, .slice A0_1 l0_1.length c0_1, .slice A0_2 l0_2.length c0_2]] w fun e w' => e = .returned (.bool r) ∧ Below w.heap.size w w' := by
 have hu35 := Try.underlying35
 have hu86 := Try.underlying86
 have hu32 := Try.underlying32
 have HR0_1 := Aside0.mk hr0_1
 have HC0_1 := Aside0.mk hc0_1
 clear hr0_1 hc0_1
 have HR0_2 := Aside0.mk hr0_2
 have HC0_2 := Aside0.mk hc0_2
 clear hr0_2 hc0_2
 have HB := Aside0.mk (Below.refl w.heap.size w)
 have H := h
 clear h
 unfold spec_CharterOk.f at H
 have H' := Aside0.mk H
 clear H
 go_enter Try.func72, Try.ntmps72
 go_wp2_with (((with_reducible refine gate_dst (N := 1) rfl ?_); (try (refine gate_guard (by rfl) ?_; dsimp only)); refine Z.bx #[.int .i64 a0_0, .slice A0_1 l0_1.length c0_1, .slice A0_2 l0_2.length c0_2] 35 HB ?_; clear HB; intro gb131 w2 BK131 GE131 HB hg hb; have GW131 := GE131; clear hb hg))
 go_loopg [3] k (fun kq v3 w' => ∃ (x3_1 : Int), v3 = .int .i64 x3_1 ∧ Aside0 (spec_CharterOk.l0 kq x3_1 a0_0 l0_1 l0_2 = some r) ∧ Aside0 (kq ≤ k) ∧ Aside0 (w'.heap[gb131]? = some (.cells #[.int .i64 a0_0, (.slice A0_1 l0_1.length c0_1), (.slice A0_2 l0_2.length c0_2)] 35 (0, 0))) ∧ Aside0 (Below w.heap.size w w'))
 case atStart => exact ⟨(0), (by rfl), H', ⟨Nat.le_refl _⟩, ⟨by (with_reducible skip); exact BK131.out⟩, ⟨Z.bs HB.out GE131.out⟩⟩
 case round =>
  clear H'
  obtain ⟨x3_1, rfl, HA, HK1, BK131, HB⟩ := hrel
  cases gk with
  | zero => exact absurd HA.out (by simp [spec_CharterOk.l0])
  | succ k1 =>
   have H := HA.out
   clear HA
   simp only [spec_CharterOk.l0] at H
   by_cases c3 : x3_1 < (l0_2.length : Int)
   ·rw [if_pos c3] at H
    have c3b0 := decide_eq_true c3
    clear c3
    obtain ⟨c4, H⟩ := Z.ifp H
    have c4b0 : decide (0 ≤ x3_1) = true := decide_eq_true c4
    clear c4
    replace H := Option.bind_eq_some_iff.mp H
    obtain ⟨t135, A50, H⟩ := H
    have A5 := Aside0.mk A50
    clear A50
    by_cases c6 : t135 = true
    ·subst c6
     rw [if_pos rfl] at H
     have H' := Aside0.mk H
     clear H
     have hcz7 := Z.c3 BK131.out
     have p134 : 0 ≤ (x3_1 : Int) := Z.od
     have q134 : x3_1 < (l0_2.length : Int) := Z.od
     obtain ⟨ad134, A134_0, c134_0, rfl, hx134_0, hl134_0, hi134_0⟩ := at_L9 HR0_2.out x3_1 p134 q134
     replace hx134_0 := Z.up HB.out hx134_0
     have HR134_0 := Aside0.mk hi134_0
     have HC134_0 := Aside0.mk hl134_0
     clear hi134_0 hl134_0
     replace p134 := eq_true p134
     replace q134 := eq_true q134
     go_wp2_with (((with_reducible refine gate_callee (f := 73) rfl ?_); refine goesL_ (some 20) rfl rfl Try.func73 (by kernel_rfl) rfl #[.int .i64 ((rd_L9 l0_2 x3_1).length : Int), .int .i64 1, .int .i64 3] rfl Z.ar ?_; (with_reducible refine (spec_l1In.calls ((rd_L9 l0_2 x3_1).length : Int) 1 3 true _ A5.out).mono ?_); rintro e w' ⟨rfl, ⟨nd, rfl⟩⟩; refine ⟨_, rfl, ?_⟩))
     go_loopg [4] k1 (fun kq v4 w' => ∃ (x4_2 : Int), v4 = .int .i64 x4_2 ∧ Aside0 (spec_CharterOk.l1 kq x3_1 x4_2 a0_0 l0_1 l0_2 = some r) ∧ Aside0 (kq ≤ k1) ∧ Aside0 (w'.heap[gb131]? = some (.cells #[.int .i64 a0_0, (.slice A0_1 l0_1.length c0_1), (.slice (some ad134) l0_2.length c0_2)] 35 (0, 0))) ∧ Aside0 (Below w.heap.size w w'))
     case atStart => exact ⟨(0), (by rfl), H', ⟨Nat.le_refl _⟩, ⟨by (with_reducible repeat (refine blk_drewN ?_ _)); exact BK131.out⟩, ⟨Z.bs HB.out GE131.out⟩⟩
     case round =>
      clear H'
      try clear c3b0
      try clear c4b0
      try clear hx134_0
      try clear p134
      try clear q134
      obtain ⟨x4_2, rfl, HA, HK2, BK131, HB⟩ := hrel
      cases gk with
      | zero => exact absurd HA.out (by simp [spec_CharterOk.l1])
      | succ k2 =>
       have H := HA.out
       clear HA
       simp only [spec_CharterOk.l1] at H
       obtain ⟨c8, H⟩ := Z.ifp H
       have c8b0 : decide (0 ≤ x3_1) = true := decide_eq_true c8
       clear c8
       obtain ⟨c9, H⟩ := Z.ifp H
       have c9b0 : decide (x3_1 < (l0_2.length : Int)) = true := decide_eq_true c9
       clear c9
       by_cases c10 : x4_2 < ((rd_L9 l0_2 x3_1).length : Int)
       ·rw [if_pos c10] at H
        have c10b0 := decide_eq_true c10
        clear c10
        obtain ⟨c11, H⟩ := Z.ifp H
        have c11b0 : decide (0 ≤ x4_2) = true := decide_eq_true c11
        clear c11
        have HC12 := Aside0.mk H
        clear H
        have hcz13 := Z.c3 BK131.out
        have p136 : 0 ≤ (x3_1 : Int) := Z.od
        have q136 : x3_1 < (l0_2.length : Int) := Z.od
        obtain ⟨ad136, A136_0, c136_0, e136, hx136_0, hl136_0, hi136_0⟩ := at_L9 HR0_2.out x3_1 p136 q136
        obtain rfl : ad134 = ad136 := (by injection e136)
        replace hx136_0 := Z.up HB.out hx136_0
        have HR136_0 := Aside0.mk hi136_0
        have HC136_0 := Aside0.mk hl136_0
        clear hi136_0 hl136_0
        replace p136 := eq_true p136
        replace q136 := eq_true q136
        have p137 : 0 ≤ (x3_1 : Int) := Z.od
        have q137 : x3_1 < (l0_2.length : Int) := Z.od
        obtain ⟨ad137, A137_0, c137_0, e137, hx137_0, hl137_0, hi137_0⟩ := at_L9 HR0_2.out x3_1 p137 q137
        obtain rfl : ad134 = ad137 := (by injection e137)
        replace hx137_0 := Z.up HB.out hx137_0
        have HR137_0 := Aside0.mk hi137_0
        have HC137_0 := Aside0.mk hl137_0
        clear hi137_0 hl137_0
        replace p137 := eq_true p137
        replace q137 := eq_true q137
        have ea_ := Option.some.inj (hx136_0.symm.trans hx137_0)
        injection ea_ with ea_ en_ ec_
        subst ea_
        subst ec_
        clear en_
        have p138 : 0 ≤ (x4_2 : Int) := Z.od
        have q138 : x4_2 < ((rd_L9 l0_2 x3_1).length : Int) := Z.od
        obtain ⟨ad138, A138_0, c138_0, rfl, hx138_0, hx138_1, hx138_2, hl138_0, hi138_0⟩ := at_T86 HR137_0.out x4_2 p138 q138
        replace hx138_0 := Z.up HB.out hx138_0
        replace hx138_1 := Z.up HB.out hx138_1
        replace hx138_2 := Z.up HB.out hx138_2
        have HR138_0 := Aside0.mk hi138_0
        have HC138_0 := Aside0.mk hl138_0
        clear hi138_0 hl138_0
        replace p138 := eq_true p138
        replace q138 := eq_true q138
        go_upto_region 10 with (((with_reducible refine gate_dst (N := 5) rfl ?_); (try (refine gate_guard (by rfl) ?_; dsimp only)); refine Z.bz #[.slice none 0 0, .int .i64 0, .int .i64 0] 86 HB GE131 ?_; clear HB; intro gb139 w14 BK139 GE139 HB hg hb; have GW139 := GE139; have NB131_139 := Z.nl hg BK131; have NB139_131 := Z.ng hg BK131; replace BK131 := Z.bb BK131 hb; clear hb hg; have hnb15 := NB139_131.out; have hnc15 := NB131_139.out; have hcz16 := Z.c3 BK139.out))
        go_cut [6] (fun v6 wc => ∃ (kq : Nat) (x6_11 : Bool), v6 = .bool x6_11 ∧ Aside0 (spec_CharterOk.j2 kq x3_1 x4_2 x6_11 a0_0 l0_1 l0_2 ((rd_T86 (rd_L9 l0_2 x3_1) x4_2).f0) ((rd_T86 (rd_L9 l0_2 x3_1) x4_2).f1) ((rd_T86 (rd_L9 l0_2 x3_1) x4_2).f2) = some r) ∧ Aside0 (kq ≤ k2) ∧ Aside0 (wc.heap[gb131]? = some (.cells #[.int .i64 a0_0, (.slice A0_1 l0_1.length c0_1), (.slice (some ad134) l0_2.length c0_2)] 35 (0, 0))) ∧ Aside0 (wc.heap[gb139]? = some (.cells #[(.slice A138_0 ((rd_T86 (rd_L9 l0_2 x3_1) x4_2).f0).length c138_0), .int .i64 ((rd_T86 (rd_L9 l0_2 x3_1) x4_2).f1), .int .i64 ((rd_T86 (rd_L9 l0_2 x3_1) x4_2).f2)] 86 (0, 0))) ∧ Aside0 (Below w.heap.size w wc))
        case first =>
         have H := HC12.out
         clear HC12
         by_cases c17 : ((rd_T86 (rd_L9 l0_2 x3_1) x4_2).f1) = (-1)
         ·rw [if_pos c17] at H
          have c17b0 : (((rd_T86 (rd_L9 l0_2 x3_1) x4_2).f1) == (-1)) = true := beq_iff_eq.mpr c17
          have c17b1 : (((rd_T86 (rd_L9 l0_2 x3_1) x4_2).f1) != (-1)) = false := bne_eq_false_iff_eq.mpr c17
          clear c17
          have H' := Aside0.mk H
          clear H
          have hnb18 := NB139_131.out
          have hnc18 := NB131_139.out
          have hcz19 := Z.c3 BK139.out
          go_wp2
          go_meet
          case rel => exact ⟨_, ((((rd_T86 (rd_L9 l0_2 x3_1) x4_2).f2) == 0)), (by rfl), H', ⟨by have := HK1.out; have := HK2.out; omega⟩, ⟨by (with_reducible skip); refine blk_far ?_ NB131_139.out _; (with_reducible skip); refine blk_far ?_ NB131_139.out _; (with_reducible skip); refine blk_far ?_ NB131_139.out _; (with_reducible skip); exact BK131.out⟩, ⟨by (with_reducible skip); refine blk_put (cs := #[.slice A138_0 ((rd_T86 (rd_L9 l0_2 x3_1) x4_2).f0).length c138_0, .int .i64 ((rd_T86 (rd_L9 l0_2 x3_1) x4_2).f1), .int .i64 0]) ?_ 2 _ rfl; (with_reducible skip); refine blk_put (cs := #[.slice A138_0 ((rd_T86 (rd_L9 l0_2 x3_1) x4_2).f0).length c138_0, .int .i64 0, .int .i64 0]) ?_ 1 _ rfl; (with_reducible skip); refine blk_put (cs := #[.slice none 0 0, .int .i64 0, .int .i64 0]) ?_ 0 _ rfl; (with_reducible skip); exact BK139.out⟩, ⟨by repeat ((with_reducible first | exact HB.out | refine below_set ?_ GE139.out))⟩⟩
         ·rw [if_neg c17] at H
          have c17b0 : (((rd_T86 (rd_L9 l0_2 x3_1) x4_2).f1) == (-1)) = false := beq_eq_false_iff_ne.mpr c17
          have c17b1 : (((rd_T86 (rd_L9 l0_2 x3_1) x4_2).f1) != (-1)) = true := bne_iff_ne.mpr c17
          have H' := Aside0.mk H
          clear H
          have hnb20 := NB139_131.out
          have hnc20 := NB131_139.out
          have hcz21 := Z.c3 BK139.out
          go_wp2
          go_meet
          case rel => exact ⟨_, (false), (by rfl), H', ⟨by have := HK1.out; have := HK2.out; omega⟩, ⟨by (with_reducible skip); refine blk_far ?_ NB131_139.out _; (with_reducible skip); refine blk_far ?_ NB131_139.out _; (with_reducible skip); refine blk_far ?_ NB131_139.out _; (with_reducible skip); exact BK131.out⟩, ⟨by (with_reducible skip); refine blk_put (cs := #[.slice A138_0 ((rd_T86 (rd_L9 l0_2 x3_1) x4_2).f0).length c138_0, .int .i64 ((rd_T86 (rd_L9 l0_2 x3_1) x4_2).f1), .int .i64 0]) ?_ 2 _ rfl; (with_reducible skip); refine blk_put (cs := #[.slice A138_0 ((rd_T86 (rd_L9 l0_2 x3_1) x4_2).f0).length c138_0, .int .i64 0, .int .i64 0]) ?_ 1 _ rfl; (with_reducible skip); refine blk_put (cs := #[.slice none 0 0, .int .i64 0, .int .i64 0]) ?_ 0 _ rfl; (with_reducible skip); exact BK139.out⟩, ⟨by repeat ((with_reducible first | exact HB.out | refine below_set ?_ GE139.out))⟩⟩
        case rest =>
         clear HC12
         try clear c8b0
         try clear c9b0
         try clear c10b0
         try clear c11b0
         try clear hx136_0
         try clear hx137_0
         try clear hx138_0
         try clear hx138_1
         try clear hx138_2
         try clear p136
         try clear p137
         try clear p138
         try clear q136
         try clear q137
         try clear q138
         obtain ⟨kq, x6_11, rfl, HA, HJ11, BK131, BK139, HB⟩ := hcut
         cases kq with
         | zero => exact absurd HA.out (by simp [spec_CharterOk.j2])
         | succ kj11 =>
          have H := HA.out
          clear HA
          simp only [spec_CharterOk.j2] at H
          replace H := Option.bind_eq_some_iff.mp H
          obtain ⟨t140, A220, H⟩ := H
          have A22 := Aside0.mk A220
          clear A220
          by_cases c23 : t140 = true
          ·subst c23
           rw [if_pos rfl] at H
           by_cases c24 : x6_11 = true
           ·subst c24
            rw [if_pos rfl] at H
            have H' := Aside0.mk H
            clear H
            try go_wp2
            replace BK131 := Aside0.mk (blk_drew BK131.out)
            replace BK139 := Aside0.mk (blk_drew BK139.out)
            replace HB := Aside0.mk (below_drew1 HB.out)
            refine start_ (n := 40) (S := fun w' => w'.cell? ⟨gb131, 0, none⟩ = some (.int .i64 a0_0) ∧ w'.cell? ⟨gb131, 1, none⟩ = some (.slice A0_1 l0_1.length c0_1) ∧ w'.cell? ⟨gb131, 2, none⟩ = some (.slice (some ad134) l0_2.length c0_2) ∧ w'.cell? ⟨gb139, 0, none⟩ = some (.slice A138_0 ((rd_T86 (rd_L9 l0_2 x3_1) x4_2).f0).length c138_0) ∧ w'.cell? ⟨gb139, 1, none⟩ = some (.int .i64 ((rd_T86 (rd_L9 l0_2 x3_1) x4_2).f1)) ∧ w'.cell? ⟨gb139, 2, none⟩ = some (.int .i64 ((rd_T86 (rd_L9 l0_2 x3_1) x4_2).f2))) (ds := []) #[false, false, false, false, false, false, false, false, false, false, false, false, false, false, false, false, false, false, false, false, false, false, false, false, false, false, false, false, false, false, false, false, false, false, false, false, false, false, false, false] (by kernel_rfl) rfl rfl ⟨(blk_cell BK131.out 0).trans rfl, (blk_cell BK131.out 1).trans rfl, (blk_cell BK131.out 2).trans rfl, (blk_cell BK139.out 0).trans rfl, (blk_cell BK139.out 1).trans rfl, (blk_cell BK139.out 2).trans rfl⟩ (fun hHeld => ?_); refine with_tabW spec_CharterOk.tab11 spec_CharterOk.bits11 (fun HT_ HW_ => ?_)
            generalize wc.drew = w25 at BK131 BK139 HB hHeld ⊢
            refine Z.pv 0 48 40 1 HT_.out ?_
            refine Z.pv 2 50 40 5 HT_.out ?_
            refine Z.t6 1 49 40 7 HT_.out HW_.out hHeld ?_
            refine Z.t6 3 51 40 15 HT_.out HW_.out hHeld ?_
            refine one_ (i := 4) (N := some 52) (Z.mb 40 31) rfl rfl (one_of HT_.out (by kernel_rfl)) (by decide) (fun K hK => ?_)
            refine goes_ Try.func108 (by kernel_rfl) rfl #[.agg #[.int .i64 a0_0, .slice A0_1 l0_1.length c0_1], .slice A138_0 ((rd_T86 (rd_L9 l0_2 x3_1) x4_2).f0).length c138_0] (by rfl) rfl rfl Z.ar ?_
            with_reducible refine (spec_TermOk.calls kj11 a0_0 _ _ l0_1 _ _ ((rd_T86 (rd_L9 l0_2 x3_1) x4_2).f0) true _ ?q1 ?q2 ?q3 ?q4 A22.out).mono ?_
            (case q1 => exact Z.cc HR0_1 HB)
            (case q2 => exact HC0_1.out)
            (case q3 => exact Z.cc HR138_0 HB)
            (case q4 => exact HC138_0.out)
            rintro e w26 ⟨rfl, hb⟩
            refine ⟨_, rfl, ?_⟩
            replace BK131 := Z.bb BK131 hb
            replace BK139 := Z.bb BK139 hb
            replace HB := Aside0.mk (below_step (by repeat ((with_reducible exact HB.out))) hb)
            (try clear hb)
            refine hK.out _ _ ⟨(blk_cell BK131.out 0).trans rfl, (blk_cell BK131.out 1).trans rfl, (blk_cell BK131.out 2).trans rfl, (blk_cell BK139.out 0).trans rfl, (blk_cell BK139.out 1).trans rfl, (blk_cell BK139.out 2).trans rfl⟩ (fun hHeld => ?_)
            clear hK K
            refine Z.nm ?_
            refine Z.pv 5 53 40 63 HT_.out ?_
            refine Z.pv 6 54 40 127 HT_.out ?_
            refine Z.pv 7 55 40 255 HT_.out ?_
            refine Z.pv 8 56 40 511 HT_.out ?_
            refine Z.pv 9 57 40 1023 HT_.out ?_
            refine Z.pu 10 58 40 2047 HT_.out ?_
            refine Z.pu 11 59 40 4095 HT_.out ?_
            refine Z.pu 12 60 40 8191 HT_.out ?_
            refine Z.pu 13 61 40 16383 HT_.out ?_
            refine Z.pu 14 62 40 32767 HT_.out ?_
            refine Z.pu 15 63 40 65535 HT_.out ?_
            refine Z.pu 16 64 40 131071 HT_.out ?_
            refine Z.pu 17 65 40 262143 HT_.out ?_
            refine Z.pu 18 66 40 524287 HT_.out ?_
            refine Z.pu 19 67 40 1048575 HT_.out ?_
            refine Z.pu 20 68 40 2097151 HT_.out ?_
            refine Z.pu 21 69 40 4194303 HT_.out ?_
            refine Z.pu 22 70 40 8388607 HT_.out ?_
            refine Z.pu 23 71 40 16777215 HT_.out ?_
            refine Z.pu 24 72 40 33554431 HT_.out ?_
            refine Z.pu 25 73 40 67108863 HT_.out ?_
            refine Z.pu 26 74 40 134217727 HT_.out ?_
            refine Z.pu 27 75 40 268435455 HT_.out ?_
            refine Z.pu 28 76 40 536870911 HT_.out ?_
            refine Z.pu 29 77 40 1073741823 HT_.out ?_
            refine Z.pu 30 78 40 2147483647 HT_.out ?_
            refine Z.pu 31 79 40 4294967295 HT_.out ?_
            refine Z.pu 32 80 40 8589934591 HT_.out ?_
            refine Z.pu 33 81 40 17179869183 HT_.out ?_
            refine Z.pu 34 82 40 34359738367 HT_.out ?_
            refine Z.pu 35 83 40 68719476735 HT_.out ?_
            refine Z.pu 36 84 40 137438953471 HT_.out ?_
            refine Z.pu 37 85 40 274877906943 HT_.out ?_
            refine Z.pv 38 86 40 549755813887 HT_.out ?_
            refine Z.pv 39 87 40 1099511627775 HT_.out ?_
            refine done_ (done_of HT_.out (by kernel_rfl)) ?_
            try go_wp2
            go_roundg kj11
            case measure => have := HK1.out; have := HK2.out; have := HJ11.out; omega
            case rel => exact ⟨(wrap64 (x4_2 + 1)), (by rfl), H', ⟨by have := HK1.out; have := HK2.out; have := HJ11.out; omega⟩, ⟨by (with_reducible skip); exact BK131.out⟩, ⟨by repeat ((with_reducible exact HB.out))⟩⟩
           ·replace c24 := Bool.eq_false_iff.mpr c24
            subst c24
            rw [if_neg (show ¬ (false = true) by decide)] at H
            by_cases c27 : ((rd_T86 (rd_L9 l0_2 x3_1) x4_2).f1) = x3_1
            ·rw [if_pos c27] at H
             have c27b0 : (((rd_T86 (rd_L9 l0_2 x3_1) x4_2).f1) == x3_1) = true := beq_iff_eq.mpr c27
             have c27b1 : (((rd_T86 (rd_L9 l0_2 x3_1) x4_2).f1) != x3_1) = false := bne_eq_false_iff_eq.mpr c27
             clear c27
             obtain rfl := Option.some.inj H
             try go_wp2
             replace BK131 := Aside0.mk (blk_drew BK131.out)
             replace BK139 := Aside0.mk (blk_drew BK139.out)
             replace HB := Aside0.mk (below_drew1 HB.out)
             refine start_ (n := 40) (S := fun w' => w'.cell? ⟨gb131, 0, none⟩ = some (.int .i64 a0_0) ∧ w'.cell? ⟨gb131, 1, none⟩ = some (.slice A0_1 l0_1.length c0_1) ∧ w'.cell? ⟨gb131, 2, none⟩ = some (.slice (some ad134) l0_2.length c0_2) ∧ w'.cell? ⟨gb139, 0, none⟩ = some (.slice A138_0 ((rd_T86 (rd_L9 l0_2 x3_1) x4_2).f0).length c138_0) ∧ w'.cell? ⟨gb139, 1, none⟩ = some (.int .i64 ((rd_T86 (rd_L9 l0_2 x3_1) x4_2).f1)) ∧ w'.cell? ⟨gb139, 2, none⟩ = some (.int .i64 ((rd_T86 (rd_L9 l0_2 x3_1) x4_2).f2))) (ds := []) #[false, false, false, false, false, false, false, false, false, false, false, false, false, false, false, false, false, false, false, false, false, false, false, false, false, false, false, false, false, false, false, false, false, false, false, false, false, false, false, false] (by kernel_rfl) rfl rfl ⟨(blk_cell BK131.out 0).trans rfl, (blk_cell BK131.out 1).trans rfl, (blk_cell BK131.out 2).trans rfl, (blk_cell BK139.out 0).trans rfl, (blk_cell BK139.out 1).trans rfl, (blk_cell BK139.out 2).trans rfl⟩ (fun hHeld => ?_); refine with_tabW spec_CharterOk.tab11 spec_CharterOk.bits11 (fun HT_ HW_ => ?_)
             generalize wc.drew = w28 at BK131 BK139 HB hHeld ⊢
             refine Z.pv 0 48 40 1 HT_.out ?_
             refine Z.pv 2 50 40 5 HT_.out ?_
             refine Z.t6 1 49 40 7 HT_.out HW_.out hHeld ?_
             refine Z.t6 3 51 40 15 HT_.out HW_.out hHeld ?_
             refine one_ (i := 4) (N := some 52) (Z.mb 40 31) rfl rfl (one_of HT_.out (by kernel_rfl)) (by decide) (fun K hK => ?_)
             refine goes_ Try.func108 (by kernel_rfl) rfl #[.agg #[.int .i64 a0_0, .slice A0_1 l0_1.length c0_1], .slice A138_0 ((rd_T86 (rd_L9 l0_2 x3_1) x4_2).f0).length c138_0] (by rfl) rfl rfl Z.ar ?_
             with_reducible refine (spec_TermOk.calls kj11 a0_0 _ _ l0_1 _ _ ((rd_T86 (rd_L9 l0_2 x3_1) x4_2).f0) true _ ?q1 ?q2 ?q3 ?q4 A22.out).mono ?_
             (case q1 => exact Z.cc HR0_1 HB)
             (case q2 => exact HC0_1.out)
             (case q3 => exact Z.cc HR138_0 HB)
             (case q4 => exact HC138_0.out)
             rintro e w29 ⟨rfl, hb⟩
             refine ⟨_, rfl, ?_⟩
             replace BK131 := Z.bb BK131 hb
             replace BK139 := Z.bb BK139 hb
             replace HB := Aside0.mk (below_step (by repeat ((with_reducible exact HB.out))) hb)
             (try clear hb)
             refine hK.out _ _ ⟨(blk_cell BK131.out 0).trans rfl, (blk_cell BK131.out 1).trans rfl, (blk_cell BK131.out 2).trans rfl, (blk_cell BK139.out 0).trans rfl, (blk_cell BK139.out 1).trans rfl, (blk_cell BK139.out 2).trans rfl⟩ (fun hHeld => ?_)
             clear hK K
             refine Z.nm ?_
             refine Z.pv 5 53 40 63 HT_.out ?_
             refine Z.pv 6 54 40 127 HT_.out ?_
             refine Z.pv 7 55 40 255 HT_.out ?_
             refine Z.pv 8 56 40 511 HT_.out ?_
             refine Z.pv 9 57 40 1023 HT_.out ?_
             refine Z.pv 10 58 40 2047 HT_.out ?_
             refine Z.pv 12 60 40 6143 HT_.out ?_
             refine Z.t6 11 59 40 8191 HT_.out HW_.out hHeld ?_
             refine Z.pv 13 61 40 16383 HT_.out ?_
             refine Z.pv 14 62 40 32767 HT_.out ?_
             refine Z.pu 15 63 40 65535 HT_.out ?_
             refine Z.pu 16 64 40 131071 HT_.out ?_
             refine Z.pu 17 65 40 262143 HT_.out ?_
             refine Z.pu 18 66 40 524287 HT_.out ?_
             refine Z.pu 19 67 40 1048575 HT_.out ?_
             refine Z.pu 20 68 40 2097151 HT_.out ?_
             refine Z.pu 21 69 40 4194303 HT_.out ?_
             refine Z.pu 22 70 40 8388607 HT_.out ?_
             refine Z.pv 23 71 40 16777215 HT_.out ?_
             refine Z.pv 24 72 40 33554431 HT_.out ?_
             refine Z.pu 25 73 40 67108863 HT_.out ?_
             refine Z.pu 26 74 40 134217727 HT_.out ?_
             refine Z.pu 27 75 40 268435455 HT_.out ?_
             refine Z.pu 28 76 40 536870911 HT_.out ?_
             refine Z.pu 29 77 40 1073741823 HT_.out ?_
             refine Z.pu 30 78 40 2147483647 HT_.out ?_
             refine Z.pu 31 79 40 4294967295 HT_.out ?_
             refine Z.pu 32 80 40 8589934591 HT_.out ?_
             refine Z.pu 33 81 40 17179869183 HT_.out ?_
             refine Z.pu 34 82 40 34359738367 HT_.out ?_
             refine Z.pu 35 83 40 68719476735 HT_.out ?_
             refine Z.pu 36 84 40 137438953471 HT_.out ?_
             refine Z.pv 37 85 40 274877906943 HT_.out ?_
             refine Z.pv 38 86 40 549755813887 HT_.out ?_
             refine Z.pv 39 87 40 1099511627775 HT_.out ?_
             refine done_ (done_of HT_.out (by kernel_rfl)) ?_
             try go_wp2
             go_ret
             exact ⟨by rfl, by repeat ((with_reducible exact HB.out))⟩
            ·rw [if_neg c27] at H
             have c27b0 : (((rd_T86 (rd_L9 l0_2 x3_1) x4_2).f1) == x3_1) = false := beq_eq_false_iff_ne.mpr c27
             have c27b1 : (((rd_T86 (rd_L9 l0_2 x3_1) x4_2).f1) != x3_1) = true := bne_iff_ne.mpr c27
             replace H := Option.bind_eq_some_iff.mp H
             obtain ⟨t141, A300, H⟩ := H
             have A30 := Aside0.mk A300
             clear A300
             by_cases c31 : t141 = true
             ·subst c31
              rw [if_pos rfl] at H
              obtain ⟨c32, H⟩ := Z.ifp H
              have c32b0 : decide (0 ≤ ((rd_T86 (rd_L9 l0_2 x3_1) x4_2).f1)) = true := decide_eq_true c32
              clear c32
              obtain ⟨c33, H⟩ := Z.ifp H
              have c33b0 : decide (((rd_T86 (rd_L9 l0_2 x3_1) x4_2).f1) < (l0_2.length : Int)) = true := decide_eq_true c33
              clear c33
              replace H := Option.bind_eq_some_iff.mp H
              obtain ⟨t143, A340, H⟩ := H
              have A34 := Aside0.mk A340
              clear A340
              by_cases c35 : t143 = true
              ·subst c35
               rw [if_pos rfl] at H
               have H' := Aside0.mk H
               clear H
               try go_wp2
               replace BK131 := Aside0.mk (blk_drew BK131.out)
               replace BK139 := Aside0.mk (blk_drew BK139.out)
               replace HB := Aside0.mk (below_drew1 HB.out)
               have p142 : 0 ≤ (((rd_T86 (rd_L9 l0_2 x3_1) x4_2).f1) : Int) := Z.od
               have q142 : ((rd_T86 (rd_L9 l0_2 x3_1) x4_2).f1) < (l0_2.length : Int) := Z.od
               obtain ⟨ad142, A142_0, c142_0, e142, hx142_0, hl142_0, hi142_0⟩ := at_L9 HR0_2.out ((rd_T86 (rd_L9 l0_2 x3_1) x4_2).f1) p142 q142
               have hw142_0 := hx142_0
               obtain rfl : ad134 = ad142 := (by injection e142)
               replace hx142_0 := Z.up HB.out hx142_0
               have HR142_0 := Aside0.mk hi142_0
               have HC142_0 := Aside0.mk hl142_0
               clear hi142_0 hl142_0
               replace p142 := eq_true p142
               replace q142 := eq_true q142
               refine start_ (n := 40) (S := fun w' => w'.cell? ⟨gb131, 0, none⟩ = some (.int .i64 a0_0) ∧ w'.cell? ⟨gb131, 1, none⟩ = some (.slice A0_1 l0_1.length c0_1) ∧ w'.cell? ⟨gb131, 2, none⟩ = some (.slice (some ad134) l0_2.length c0_2) ∧ w'.cell? ⟨gb139, 0, none⟩ = some (.slice A138_0 ((rd_T86 (rd_L9 l0_2 x3_1) x4_2).f0).length c138_0) ∧ w'.cell? ⟨gb139, 1, none⟩ = some (.int .i64 ((rd_T86 (rd_L9 l0_2 x3_1) x4_2).f1)) ∧ w'.cell? ⟨gb139, 2, none⟩ = some (.int .i64 ((rd_T86 (rd_L9 l0_2 x3_1) x4_2).f2)) ∧ w'.cell? (ad134.add (((rd_T86 (rd_L9 l0_2 x3_1) x4_2).f1)).toNat) = some (.slice A142_0 (rd_L9 l0_2 ((rd_T86 (rd_L9 l0_2 x3_1) x4_2).f1)).length c142_0)) (ds := []) #[false, false, false, false, false, false, false, false, false, false, false, false, false, false, false, false, false, false, false, false, false, false, false, false, false, false, false, false, false, false, false, false, false, false, false, false, false, false, false, false] (by kernel_rfl) rfl rfl ⟨(blk_cell BK131.out 0).trans rfl, (blk_cell BK131.out 1).trans rfl, (blk_cell BK131.out 2).trans rfl, (blk_cell BK139.out 0).trans rfl, (blk_cell BK139.out 1).trans rfl, (blk_cell BK139.out 2).trans rfl, (Z.up HB.out hw142_0 :)⟩ (fun hHeld => ?_); refine with_tabW spec_CharterOk.tab11 spec_CharterOk.bits11 (fun HT_ HW_ => ?_)
               generalize wc.drew = w36 at BK131 BK139 HB HR142_0 hx142_0 hHeld ⊢
               refine Z.pv 0 48 40 1 HT_.out ?_
               refine Z.pv 2 50 40 5 HT_.out ?_
               refine Z.t7 1 49 40 7 HT_.out HW_.out hHeld ?_
               refine Z.t7 3 51 40 15 HT_.out HW_.out hHeld ?_
               refine one_ (i := 4) (N := some 52) (Z.mb 40 31) rfl rfl (one_of HT_.out (by kernel_rfl)) (by decide) (fun K hK => ?_)
               refine goes_ Try.func108 (by kernel_rfl) rfl #[.agg #[.int .i64 a0_0, .slice A0_1 l0_1.length c0_1], .slice A138_0 ((rd_T86 (rd_L9 l0_2 x3_1) x4_2).f0).length c138_0] (by rfl) rfl rfl Z.ar ?_
               with_reducible refine (spec_TermOk.calls kj11 a0_0 _ _ l0_1 _ _ ((rd_T86 (rd_L9 l0_2 x3_1) x4_2).f0) true _ ?q1 ?q2 ?q3 ?q4 A22.out).mono ?_
               (case q1 => exact Z.cc HR0_1 HB)
               (case q2 => exact HC0_1.out)
               (case q3 => exact Z.cc HR138_0 HB)
               (case q4 => exact HC138_0.out)
               rintro e w37 ⟨rfl, hb⟩
               refine ⟨_, rfl, ?_⟩
               replace BK131 := Z.bb BK131 hb
               replace BK139 := Z.bb BK139 hb
               replace HB := Aside0.mk (below_step (by repeat ((with_reducible exact HB.out))) hb)
               (try clear hb)
               refine hK.out _ _ ⟨(blk_cell BK131.out 0).trans rfl, (blk_cell BK131.out 1).trans rfl, (blk_cell BK131.out 2).trans rfl, (blk_cell BK139.out 0).trans rfl, (blk_cell BK139.out 1).trans rfl, (blk_cell BK139.out 2).trans rfl, (Z.up HB.out hw142_0 :)⟩ (fun hHeld => ?_)
               clear hK K
               refine Z.nm ?_
               refine Z.pv 5 53 40 63 HT_.out ?_
               refine Z.pv 6 54 40 127 HT_.out ?_
               refine Z.pv 7 55 40 255 HT_.out ?_
               refine Z.pv 8 56 40 511 HT_.out ?_
               refine Z.pv 9 57 40 1023 HT_.out ?_
               refine Z.pv 10 58 40 2047 HT_.out ?_
               refine Z.pv 12 60 40 6143 HT_.out ?_
               refine Z.t7 11 59 40 8191 HT_.out HW_.out hHeld ?_
               refine Z.pv 13 61 40 16383 HT_.out ?_
               refine Z.pv 14 62 40 32767 HT_.out ?_
               refine Z.pv 15 63 40 65535 HT_.out ?_
               refine Z.pv 17 65 40 196607 HT_.out ?_
               refine Z.t7 16 64 40 262143 HT_.out HW_.out hHeld ?_
               refine Z.t7 18 66 40 524287 HT_.out HW_.out hHeld ?_
               refine Z.pv 19 67 40 1048575 HT_.out ?_
               refine Z.pv 20 68 40 2097151 HT_.out ?_
               refine one_ (i := 21) (N := some 69) (Z.mb 40 4194303) rfl rfl (one_of HT_.out (by kernel_rfl)) (by decide) (fun K hK => ?_)
               refine goes_ Try.func73 (by kernel_rfl) rfl #[.int .i64 ((rd_T86 (rd_L9 l0_2 x3_1) x4_2).f1), .int .i64 0, .int .i64 (wrap64 ((l0_2.length : Int) - 1))] (by rfl) rfl rfl Z.ar ?_
               with_reducible refine (spec_l1In.calls ((rd_T86 (rd_L9 l0_2 x3_1) x4_2).f1) 0 (wrap64 ((l0_2.length : Int) - 1)) true _ A30.out).mono ?_
               rintro e w' ⟨rfl, ⟨nd, rfl⟩⟩
               refine ⟨_, rfl, ?_⟩
               refine hK.out _ _ ⟨(blk_cell BK131.out 0).trans rfl, (blk_cell BK131.out 1).trans rfl, (blk_cell BK131.out 2).trans rfl, (blk_cell BK139.out 0).trans rfl, (blk_cell BK139.out 1).trans rfl, (blk_cell BK139.out 2).trans rfl, (Z.up HB.out hw142_0 :)⟩ (fun hHeld => ?_)
               clear hK K
               refine Z.nm ?_
               refine Z.pv 22 70 40 8388607 HT_.out ?_
               refine Z.pv 23 71 40 16777215 HT_.out ?_
               refine Z.pv 24 72 40 33554431 HT_.out ?_
               refine Z.pv 25 73 40 67108863 HT_.out ?_
               refine Z.pv 27 75 40 201326591 HT_.out ?_
               refine Z.pv 29 77 40 738197503 HT_.out ?_
               refine Z.t7 26 74 40 805306367 HT_.out HW_.out hHeld ?_
               refine Z.t7 28 76 40 1073741823 HT_.out HW_.out hHeld ?_
               refine Z.t7 30 78 40 2147483647 HT_.out HW_.out hHeld ?_
               refine Z.pv 31 79 40 4294967295 HT_.out ?_
               refine Z.t7 32 80 40 8589934591 HT_.out HW_.out hHeld ?_
               refine Z.pv 33 81 40 17179869183 HT_.out ?_
               refine Z.pv 34 82 40 34359738367 HT_.out ?_
               refine one_ (i := 35) (N := some 83) (Z.mb 40 68719476735) rfl rfl (one_of HT_.out (by kernel_rfl)) (by decide) (fun K hK => ?_)
               refine goes_ Try.func73 (by kernel_rfl) rfl #[.int .i64 ((rd_T86 (rd_L9 l0_2 x3_1) x4_2).f2), .int .i64 0, .int .i64 (wrap64 (((rd_L9 l0_2 ((rd_T86 (rd_L9 l0_2 x3_1) x4_2).f1)).length : Int) - 1))] (by rfl) rfl rfl Z.ar ?_
               with_reducible refine (spec_l1In.calls ((rd_T86 (rd_L9 l0_2 x3_1) x4_2).f2) 0 (wrap64 (((rd_L9 l0_2 ((rd_T86 (rd_L9 l0_2 x3_1) x4_2).f1)).length : Int) - 1)) true _ A34.out).mono ?_
               rintro e w' ⟨rfl, ⟨nd, rfl⟩⟩
               refine ⟨_, rfl, ?_⟩
               refine hK.out _ _ ⟨(blk_cell BK131.out 0).trans rfl, (blk_cell BK131.out 1).trans rfl, (blk_cell BK131.out 2).trans rfl, (blk_cell BK139.out 0).trans rfl, (blk_cell BK139.out 1).trans rfl, (blk_cell BK139.out 2).trans rfl, (Z.up HB.out hw142_0 :)⟩ (fun hHeld => ?_)
               clear hK K
               refine Z.nm ?_
               refine Z.pv 36 84 40 137438953471 HT_.out ?_
               refine Z.pv 37 85 40 274877906943 HT_.out ?_
               refine Z.pv 38 86 40 549755813887 HT_.out ?_
               refine Z.pv 39 87 40 1099511627775 HT_.out ?_
               refine done_ (done_of HT_.out (by kernel_rfl)) ?_
               try go_wp2
               go_roundg kj11
               case measure => have := HK1.out; have := HK2.out; have := HJ11.out; omega
               case rel => exact ⟨(wrap64 (x4_2 + 1)), (by rfl), H', ⟨by have := HK1.out; have := HK2.out; have := HJ11.out; omega⟩, ⟨by (with_reducible repeat (refine blk_drewN ?_ _)); exact BK131.out⟩, ⟨by repeat ((with_reducible first | exact HB.out | apply pw_below_drewN))⟩⟩
              ·replace c35 := Bool.eq_false_iff.mpr c35
               subst c35
               rw [if_neg (show ¬ (false = true) by decide)] at H
               obtain rfl := Option.some.inj H
               try go_wp2
               replace BK131 := Aside0.mk (blk_drew BK131.out)
               replace BK139 := Aside0.mk (blk_drew BK139.out)
               replace HB := Aside0.mk (below_drew1 HB.out)
               have p142 : 0 ≤ (((rd_T86 (rd_L9 l0_2 x3_1) x4_2).f1) : Int) := Z.od
               have q142 : ((rd_T86 (rd_L9 l0_2 x3_1) x4_2).f1) < (l0_2.length : Int) := Z.od
               obtain ⟨ad142, A142_0, c142_0, e142, hx142_0, hl142_0, hi142_0⟩ := at_L9 HR0_2.out ((rd_T86 (rd_L9 l0_2 x3_1) x4_2).f1) p142 q142
               have hw142_0 := hx142_0
               obtain rfl : ad134 = ad142 := (by injection e142)
               replace hx142_0 := Z.up HB.out hx142_0
               have HR142_0 := Aside0.mk hi142_0
               have HC142_0 := Aside0.mk hl142_0
               clear hi142_0 hl142_0
               replace p142 := eq_true p142
               replace q142 := eq_true q142
               refine start_ (n := 40) (S := fun w' => w'.cell? ⟨gb131, 0, none⟩ = some (.int .i64 a0_0) ∧ w'.cell? ⟨gb131, 1, none⟩ = some (.slice A0_1 l0_1.length c0_1) ∧ w'.cell? ⟨gb131, 2, none⟩ = some (.slice (some ad134) l0_2.length c0_2) ∧ w'.cell? ⟨gb139, 0, none⟩ = some (.slice A138_0 ((rd_T86 (rd_L9 l0_2 x3_1) x4_2).f0).length c138_0) ∧ w'.cell? ⟨gb139, 1, none⟩ = some (.int .i64 ((rd_T86 (rd_L9 l0_2 x3_1) x4_2).f1)) ∧ w'.cell? ⟨gb139, 2, none⟩ = some (.int .i64 ((rd_T86 (rd_L9 l0_2 x3_1) x4_2).f2)) ∧ w'.cell? (ad134.add (((rd_T86 (rd_L9 l0_2 x3_1) x4_2).f1)).toNat) = some (.slice A142_0 (rd_L9 l0_2 ((rd_T86 (rd_L9 l0_2 x3_1) x4_2).f1)).length c142_0)) (ds := []) #[false, false, false, false, false, false, false, false, false, false, false, false, false, false, false, false, false, false, false, false, false, false, false, false, false, false, false, false, false, false, false, false, false, false, false, false, false, false, false, false] (by kernel_rfl) rfl rfl ⟨(blk_cell BK131.out 0).trans rfl, (blk_cell BK131.out 1).trans rfl, (blk_cell BK131.out 2).trans rfl, (blk_cell BK139.out 0).trans rfl, (blk_cell BK139.out 1).trans rfl, (blk_cell BK139.out 2).trans rfl, (Z.up HB.out hw142_0 :)⟩ (fun hHeld => ?_); refine with_tabW spec_CharterOk.tab11 spec_CharterOk.bits11 (fun HT_ HW_ => ?_)
               generalize wc.drew = w38 at BK131 BK139 HB HR142_0 hx142_0 hHeld ⊢
               refine Z.pv 0 48 40 1 HT_.out ?_
               refine Z.pv 2 50 40 5 HT_.out ?_
               refine Z.t7 1 49 40 7 HT_.out HW_.out hHeld ?_
               refine Z.t7 3 51 40 15 HT_.out HW_.out hHeld ?_
               refine one_ (i := 4) (N := some 52) (Z.mb 40 31) rfl rfl (one_of HT_.out (by kernel_rfl)) (by decide) (fun K hK => ?_)
               refine goes_ Try.func108 (by kernel_rfl) rfl #[.agg #[.int .i64 a0_0, .slice A0_1 l0_1.length c0_1], .slice A138_0 ((rd_T86 (rd_L9 l0_2 x3_1) x4_2).f0).length c138_0] (by rfl) rfl rfl Z.ar ?_
               with_reducible refine (spec_TermOk.calls kj11 a0_0 _ _ l0_1 _ _ ((rd_T86 (rd_L9 l0_2 x3_1) x4_2).f0) true _ ?q1 ?q2 ?q3 ?q4 A22.out).mono ?_
               (case q1 => exact Z.cc HR0_1 HB)
               (case q2 => exact HC0_1.out)
               (case q3 => exact Z.cc HR138_0 HB)
               (case q4 => exact HC138_0.out)
               rintro e w39 ⟨rfl, hb⟩
               refine ⟨_, rfl, ?_⟩
               replace BK131 := Z.bb BK131 hb
               replace BK139 := Z.bb BK139 hb
               replace HB := Aside0.mk (below_step (by repeat ((with_reducible exact HB.out))) hb)
               (try clear hb)
               refine hK.out _ _ ⟨(blk_cell BK131.out 0).trans rfl, (blk_cell BK131.out 1).trans rfl, (blk_cell BK131.out 2).trans rfl, (blk_cell BK139.out 0).trans rfl, (blk_cell BK139.out 1).trans rfl, (blk_cell BK139.out 2).trans rfl, (Z.up HB.out hw142_0 :)⟩ (fun hHeld => ?_)
               clear hK K
               refine Z.nm ?_
               refine Z.pv 5 53 40 63 HT_.out ?_
               refine Z.pv 6 54 40 127 HT_.out ?_
               refine Z.pv 7 55 40 255 HT_.out ?_
               refine Z.pv 8 56 40 511 HT_.out ?_
               refine Z.pv 9 57 40 1023 HT_.out ?_
               refine Z.pv 10 58 40 2047 HT_.out ?_
               refine Z.pv 12 60 40 6143 HT_.out ?_
               refine Z.t7 11 59 40 8191 HT_.out HW_.out hHeld ?_
               refine Z.pv 13 61 40 16383 HT_.out ?_
               refine Z.pv 14 62 40 32767 HT_.out ?_
               refine Z.pv 15 63 40 65535 HT_.out ?_
               refine Z.pv 17 65 40 196607 HT_.out ?_
               refine Z.t7 16 64 40 262143 HT_.out HW_.out hHeld ?_
               refine Z.t7 18 66 40 524287 HT_.out HW_.out hHeld ?_
               refine Z.pv 19 67 40 1048575 HT_.out ?_
               refine Z.pv 20 68 40 2097151 HT_.out ?_
               refine one_ (i := 21) (N := some 69) (Z.mb 40 4194303) rfl rfl (one_of HT_.out (by kernel_rfl)) (by decide) (fun K hK => ?_)
               refine goes_ Try.func73 (by kernel_rfl) rfl #[.int .i64 ((rd_T86 (rd_L9 l0_2 x3_1) x4_2).f1), .int .i64 0, .int .i64 (wrap64 ((l0_2.length : Int) - 1))] (by rfl) rfl rfl Z.ar ?_
               with_reducible refine (spec_l1In.calls ((rd_T86 (rd_L9 l0_2 x3_1) x4_2).f1) 0 (wrap64 ((l0_2.length : Int) - 1)) true _ A30.out).mono ?_
               rintro e w' ⟨rfl, ⟨nd, rfl⟩⟩
               refine ⟨_, rfl, ?_⟩
               refine hK.out _ _ ⟨(blk_cell BK131.out 0).trans rfl, (blk_cell BK131.out 1).trans rfl, (blk_cell BK131.out 2).trans rfl, (blk_cell BK139.out 0).trans rfl, (blk_cell BK139.out 1).trans rfl, (blk_cell BK139.out 2).trans rfl, (Z.up HB.out hw142_0 :)⟩ (fun hHeld => ?_)
               clear hK K
               refine Z.nm ?_
               refine Z.pv 22 70 40 8388607 HT_.out ?_
               refine Z.pv 23 71 40 16777215 HT_.out ?_
               refine Z.pv 24 72 40 33554431 HT_.out ?_
               refine Z.pv 25 73 40 67108863 HT_.out ?_
               refine Z.pv 27 75 40 201326591 HT_.out ?_
               refine Z.pv 29 77 40 738197503 HT_.out ?_
               refine Z.t7 26 74 40 805306367 HT_.out HW_.out hHeld ?_
               refine Z.t7 28 76 40 1073741823 HT_.out HW_.out hHeld ?_
               refine Z.t7 30 78 40 2147483647 HT_.out HW_.out hHeld ?_
               refine Z.pv 31 79 40 4294967295 HT_.out ?_
               refine Z.t7 32 80 40 8589934591 HT_.out HW_.out hHeld ?_
               refine Z.pv 33 81 40 17179869183 HT_.out ?_
               refine Z.pv 34 82 40 34359738367 HT_.out ?_
               refine one_ (i := 35) (N := some 83) (Z.mb 40 68719476735) rfl rfl (one_of HT_.out (by kernel_rfl)) (by decide) (fun K hK => ?_)
               refine goes_ Try.func73 (by kernel_rfl) rfl #[.int .i64 ((rd_T86 (rd_L9 l0_2 x3_1) x4_2).f2), .int .i64 0, .int .i64 (wrap64 (((rd_L9 l0_2 ((rd_T86 (rd_L9 l0_2 x3_1) x4_2).f1)).length : Int) - 1))] (by rfl) rfl rfl Z.ar ?_
               with_reducible refine (spec_l1In.calls ((rd_T86 (rd_L9 l0_2 x3_1) x4_2).f2) 0 (wrap64 (((rd_L9 l0_2 ((rd_T86 (rd_L9 l0_2 x3_1) x4_2).f1)).length : Int) - 1)) false _ A34.out).mono ?_
               rintro e w' ⟨rfl, ⟨nd, rfl⟩⟩
               refine ⟨_, rfl, ?_⟩
               refine hK.out _ _ ⟨(blk_cell BK131.out 0).trans rfl, (blk_cell BK131.out 1).trans rfl, (blk_cell BK131.out 2).trans rfl, (blk_cell BK139.out 0).trans rfl, (blk_cell BK139.out 1).trans rfl, (blk_cell BK139.out 2).trans rfl, (Z.up HB.out hw142_0 :)⟩ (fun hHeld => ?_)
               clear hK K
               refine Z.nm ?_
               refine Z.pv 36 84 40 137438953471 HT_.out ?_
               refine Z.pv 37 85 40 274877906943 HT_.out ?_
               refine Z.pv 38 86 40 549755813887 HT_.out ?_
               refine Z.pv 39 87 40 1099511627775 HT_.out ?_
               refine done_ (done_of HT_.out (by kernel_rfl)) ?_
               try go_wp2
               go_ret
               exact ⟨by rfl, by repeat ((with_reducible first | exact HB.out | apply pw_below_drewN))⟩
             ·replace c31 := Bool.eq_false_iff.mpr c31
              subst c31
              rw [if_neg (show ¬ (false = true) by decide)] at H
              obtain rfl := Option.some.inj H
              try go_wp2
              replace BK131 := Aside0.mk (blk_drew BK131.out)
              replace BK139 := Aside0.mk (blk_drew BK139.out)
              replace HB := Aside0.mk (below_drew1 HB.out)
              refine start_ (n := 40) (S := fun w' => w'.cell? ⟨gb131, 0, none⟩ = some (.int .i64 a0_0) ∧ w'.cell? ⟨gb131, 1, none⟩ = some (.slice A0_1 l0_1.length c0_1) ∧ w'.cell? ⟨gb131, 2, none⟩ = some (.slice (some ad134) l0_2.length c0_2) ∧ w'.cell? ⟨gb139, 0, none⟩ = some (.slice A138_0 ((rd_T86 (rd_L9 l0_2 x3_1) x4_2).f0).length c138_0) ∧ w'.cell? ⟨gb139, 1, none⟩ = some (.int .i64 ((rd_T86 (rd_L9 l0_2 x3_1) x4_2).f1)) ∧ w'.cell? ⟨gb139, 2, none⟩ = some (.int .i64 ((rd_T86 (rd_L9 l0_2 x3_1) x4_2).f2))) (ds := []) #[false, false, false, false, false, false, false, false, false, false, false, false, false, false, false, false, false, false, false, false, false, false, false, false, false, false, false, false, false, false, false, false, false, false, false, false, false, false, false, false] (by kernel_rfl) rfl rfl ⟨(blk_cell BK131.out 0).trans rfl, (blk_cell BK131.out 1).trans rfl, (blk_cell BK131.out 2).trans rfl, (blk_cell BK139.out 0).trans rfl, (blk_cell BK139.out 1).trans rfl, (blk_cell BK139.out 2).trans rfl⟩ (fun hHeld => ?_); refine with_tabW spec_CharterOk.tab11 spec_CharterOk.bits11 (fun HT_ HW_ => ?_)
              generalize wc.drew = w40 at BK131 BK139 HB hHeld ⊢
              refine Z.pv 0 48 40 1 HT_.out ?_
              refine Z.pv 2 50 40 5 HT_.out ?_
              refine Z.t6 1 49 40 7 HT_.out HW_.out hHeld ?_
              refine Z.t6 3 51 40 15 HT_.out HW_.out hHeld ?_
              refine one_ (i := 4) (N := some 52) (Z.mb 40 31) rfl rfl (one_of HT_.out (by kernel_rfl)) (by decide) (fun K hK => ?_)
              refine goes_ Try.func108 (by kernel_rfl) rfl #[.agg #[.int .i64 a0_0, .slice A0_1 l0_1.length c0_1], .slice A138_0 ((rd_T86 (rd_L9 l0_2 x3_1) x4_2).f0).length c138_0] (by rfl) rfl rfl Z.ar ?_
              with_reducible refine (spec_TermOk.calls kj11 a0_0 _ _ l0_1 _ _ ((rd_T86 (rd_L9 l0_2 x3_1) x4_2).f0) true _ ?q1 ?q2 ?q3 ?q4 A22.out).mono ?_
              (case q1 => exact Z.cc HR0_1 HB)
              (case q2 => exact HC0_1.out)
              (case q3 => exact Z.cc HR138_0 HB)
              (case q4 => exact HC138_0.out)
              rintro e w41 ⟨rfl, hb⟩
              refine ⟨_, rfl, ?_⟩
              replace BK131 := Z.bb BK131 hb
              replace BK139 := Z.bb BK139 hb
              replace HB := Aside0.mk (below_step (by repeat ((with_reducible exact HB.out))) hb)
              (try clear hb)
              refine hK.out _ _ ⟨(blk_cell BK131.out 0).trans rfl, (blk_cell BK131.out 1).trans rfl, (blk_cell BK131.out 2).trans rfl, (blk_cell BK139.out 0).trans rfl, (blk_cell BK139.out 1).trans rfl, (blk_cell BK139.out 2).trans rfl⟩ (fun hHeld => ?_)
              clear hK K
              refine Z.nm ?_
              refine Z.pv 5 53 40 63 HT_.out ?_
              refine Z.pv 6 54 40 127 HT_.out ?_
              refine Z.pv 7 55 40 255 HT_.out ?_
              refine Z.pv 8 56 40 511 HT_.out ?_
              refine Z.pv 9 57 40 1023 HT_.out ?_
              refine Z.pv 10 58 40 2047 HT_.out ?_
              refine Z.pv 12 60 40 6143 HT_.out ?_
              refine Z.t6 11 59 40 8191 HT_.out HW_.out hHeld ?_
              refine Z.pv 13 61 40 16383 HT_.out ?_
              refine Z.pv 14 62 40 32767 HT_.out ?_
              refine Z.pv 15 63 40 65535 HT_.out ?_
              refine Z.pv 17 65 40 196607 HT_.out ?_
              refine Z.t6 16 64 40 262143 HT_.out HW_.out hHeld ?_
              refine Z.t6 18 66 40 524287 HT_.out HW_.out hHeld ?_
              refine Z.pv 19 67 40 1048575 HT_.out ?_
              refine Z.pv 20 68 40 2097151 HT_.out ?_
              refine one_ (i := 21) (N := some 69) (Z.mb 40 4194303) rfl rfl (one_of HT_.out (by kernel_rfl)) (by decide) (fun K hK => ?_)
              refine goes_ Try.func73 (by kernel_rfl) rfl #[.int .i64 ((rd_T86 (rd_L9 l0_2 x3_1) x4_2).f1), .int .i64 0, .int .i64 (wrap64 ((l0_2.length : Int) - 1))] (by rfl) rfl rfl Z.ar ?_
              with_reducible refine (spec_l1In.calls ((rd_T86 (rd_L9 l0_2 x3_1) x4_2).f1) 0 (wrap64 ((l0_2.length : Int) - 1)) false _ A30.out).mono ?_
              rintro e w' ⟨rfl, ⟨nd, rfl⟩⟩
              refine ⟨_, rfl, ?_⟩
              refine hK.out _ _ ⟨(blk_cell BK131.out 0).trans rfl, (blk_cell BK131.out 1).trans rfl, (blk_cell BK131.out 2).trans rfl, (blk_cell BK139.out 0).trans rfl, (blk_cell BK139.out 1).trans rfl, (blk_cell BK139.out 2).trans rfl⟩ (fun hHeld => ?_)
              clear hK K
              refine Z.nm ?_
              refine Z.pv 22 70 40 8388607 HT_.out ?_
              refine Z.pv 23 71 40 16777215 HT_.out ?_
              refine Z.pv 24 72 40 33554431 HT_.out ?_
              refine Z.pu 25 73 40 67108863 HT_.out ?_
              refine Z.pu 26 74 40 134217727 HT_.out ?_
              refine Z.pu 27 75 40 268435455 HT_.out ?_
              refine Z.pu 28 76 40 536870911 HT_.out ?_
              refine Z.pu 29 77 40 1073741823 HT_.out ?_
              refine Z.pu 30 78 40 2147483647 HT_.out ?_
              refine Z.pu 31 79 40 4294967295 HT_.out ?_
              refine Z.pu 32 80 40 8589934591 HT_.out ?_
              refine Z.pu 33 81 40 17179869183 HT_.out ?_
              refine Z.pu 34 82 40 34359738367 HT_.out ?_
              refine Z.pu 35 83 40 68719476735 HT_.out ?_
              refine Z.pu 36 84 40 137438953471 HT_.out ?_
              refine Z.pv 37 85 40 274877906943 HT_.out ?_
              refine Z.pv 38 86 40 549755813887 HT_.out ?_
              refine Z.pv 39 87 40 1099511627775 HT_.out ?_
              refine done_ (done_of HT_.out (by kernel_rfl)) ?_
              try go_wp2
              go_ret
              exact ⟨by rfl, by repeat ((with_reducible first | exact HB.out | apply pw_below_drewN))⟩
          ·replace c23 := Bool.eq_false_iff.mpr c23
           subst c23
           rw [if_neg (show ¬ (false = true) by decide)] at H
           obtain rfl := Option.some.inj H
           try go_wp2
           replace BK131 := Aside0.mk (blk_drew BK131.out)
           replace BK139 := Aside0.mk (blk_drew BK139.out)
           replace HB := Aside0.mk (below_drew1 HB.out)
           refine start_ (n := 40) (S := fun w' => w'.cell? ⟨gb131, 0, none⟩ = some (.int .i64 a0_0) ∧ w'.cell? ⟨gb131, 1, none⟩ = some (.slice A0_1 l0_1.length c0_1) ∧ w'.cell? ⟨gb131, 2, none⟩ = some (.slice (some ad134) l0_2.length c0_2) ∧ w'.cell? ⟨gb139, 0, none⟩ = some (.slice A138_0 ((rd_T86 (rd_L9 l0_2 x3_1) x4_2).f0).length c138_0) ∧ w'.cell? ⟨gb139, 1, none⟩ = some (.int .i64 ((rd_T86 (rd_L9 l0_2 x3_1) x4_2).f1)) ∧ w'.cell? ⟨gb139, 2, none⟩ = some (.int .i64 ((rd_T86 (rd_L9 l0_2 x3_1) x4_2).f2))) (ds := []) #[false, false, false, false, false, false, false, false, false, false, false, false, false, false, false, false, false, false, false, false, false, false, false, false, false, false, false, false, false, false, false, false, false, false, false, false, false, false, false, false] (by kernel_rfl) rfl rfl ⟨(blk_cell BK131.out 0).trans rfl, (blk_cell BK131.out 1).trans rfl, (blk_cell BK131.out 2).trans rfl, (blk_cell BK139.out 0).trans rfl, (blk_cell BK139.out 1).trans rfl, (blk_cell BK139.out 2).trans rfl⟩ (fun hHeld => ?_); refine with_tabW spec_CharterOk.tab11 spec_CharterOk.bits11 (fun HT_ HW_ => ?_)
           generalize wc.drew = w42 at BK131 BK139 HB hHeld ⊢
           refine Z.pv 0 48 40 1 HT_.out ?_
           refine Z.pv 2 50 40 5 HT_.out ?_
           refine Z.t6 1 49 40 7 HT_.out HW_.out hHeld ?_
           refine Z.t6 3 51 40 15 HT_.out HW_.out hHeld ?_
           refine one_ (i := 4) (N := some 52) (Z.mb 40 31) rfl rfl (one_of HT_.out (by kernel_rfl)) (by decide) (fun K hK => ?_)
           refine goes_ Try.func108 (by kernel_rfl) rfl #[.agg #[.int .i64 a0_0, .slice A0_1 l0_1.length c0_1], .slice A138_0 ((rd_T86 (rd_L9 l0_2 x3_1) x4_2).f0).length c138_0] (by rfl) rfl rfl Z.ar ?_
           with_reducible refine (spec_TermOk.calls kj11 a0_0 _ _ l0_1 _ _ ((rd_T86 (rd_L9 l0_2 x3_1) x4_2).f0) false _ ?q1 ?q2 ?q3 ?q4 A22.out).mono ?_
           (case q1 => exact Z.cc HR0_1 HB)
           (case q2 => exact HC0_1.out)
           (case q3 => exact Z.cc HR138_0 HB)
           (case q4 => exact HC138_0.out)
           rintro e w43 ⟨rfl, hb⟩
           refine ⟨_, rfl, ?_⟩
           replace BK131 := Z.bb BK131 hb
           replace BK139 := Z.bb BK139 hb
           replace HB := Aside0.mk (below_step (by repeat ((with_reducible exact HB.out))) hb)
           (try clear hb)
           refine hK.out _ _ ⟨(blk_cell BK131.out 0).trans rfl, (blk_cell BK131.out 1).trans rfl, (blk_cell BK131.out 2).trans rfl, (blk_cell BK139.out 0).trans rfl, (blk_cell BK139.out 1).trans rfl, (blk_cell BK139.out 2).trans rfl⟩ (fun hHeld => ?_)
           clear hK K
           refine Z.nm ?_
           refine Z.pv 5 53 40 63 HT_.out ?_
           refine Z.pv 6 54 40 127 HT_.out ?_
           refine Z.pu 7 55 40 255 HT_.out ?_
           refine Z.pu 8 56 40 511 HT_.out ?_
           refine Z.pu 9 57 40 1023 HT_.out ?_
           refine Z.pu 10 58 40 2047 HT_.out ?_
           refine Z.pu 11 59 40 4095 HT_.out ?_
           refine Z.pu 12 60 40 8191 HT_.out ?_
           refine Z.pu 13 61 40 16383 HT_.out ?_
           refine Z.pu 14 62 40 32767 HT_.out ?_
           refine Z.pu 15 63 40 65535 HT_.out ?_
           refine Z.pu 16 64 40 131071 HT_.out ?_
           refine Z.pu 17 65 40 262143 HT_.out ?_
           refine Z.pu 18 66 40 524287 HT_.out ?_
           refine Z.pu 19 67 40 1048575 HT_.out ?_
           refine Z.pu 20 68 40 2097151 HT_.out ?_
           refine Z.pu 21 69 40 4194303 HT_.out ?_
           refine Z.pu 22 70 40 8388607 HT_.out ?_
           refine Z.pu 23 71 40 16777215 HT_.out ?_
           refine Z.pu 24 72 40 33554431 HT_.out ?_
           refine Z.pu 25 73 40 67108863 HT_.out ?_
           refine Z.pu 26 74 40 134217727 HT_.out ?_
           refine Z.pu 27 75 40 268435455 HT_.out ?_
           refine Z.pu 28 76 40 536870911 HT_.out ?_
           refine Z.pu 29 77 40 1073741823 HT_.out ?_
           refine Z.pu 30 78 40 2147483647 HT_.out ?_
           refine Z.pu 31 79 40 4294967295 HT_.out ?_
           refine Z.pu 32 80 40 8589934591 HT_.out ?_
           refine Z.pu 33 81 40 17179869183 HT_.out ?_
           refine Z.pu 34 82 40 34359738367 HT_.out ?_
           refine Z.pu 35 83 40 68719476735 HT_.out ?_
           refine Z.pu 36 84 40 137438953471 HT_.out ?_
           refine Z.pu 37 85 40 274877906943 HT_.out ?_
           refine Z.pu 38 86 40 549755813887 HT_.out ?_
           refine Z.pv 39 87 40 1099511627775 HT_.out ?_
           refine done_ (done_of HT_.out (by kernel_rfl)) ?_
           try go_wp2
           go_ret
           exact ⟨by rfl, by repeat ((with_reducible exact HB.out))⟩
       ·rw [if_neg c10] at H
        have c10b0 := decide_eq_false c10
        clear c10
        have H' := Aside0.mk H
        clear H
        have hcz44 := Z.c3 BK131.out
        have p136 : 0 ≤ (x3_1 : Int) := Z.od
        have q136 : x3_1 < (l0_2.length : Int) := Z.od
        obtain ⟨ad136, A136_0, c136_0, e136, hx136_0, hl136_0, hi136_0⟩ := at_L9 HR0_2.out x3_1 p136 q136
        obtain rfl : ad134 = ad136 := (by injection e136)
        replace hx136_0 := Z.up HB.out hx136_0
        have HR136_0 := Aside0.mk hi136_0
        have HC136_0 := Aside0.mk hl136_0
        clear hi136_0 hl136_0
        replace p136 := eq_true p136
        replace q136 := eq_true q136
        go_wp2
        go_roundg k2
        case measure => have := HK1.out; have := HK2.out; omega
        case rel => exact ⟨(wrap64 (x3_1 + 1)), (by rfl), H', ⟨by have := HK1.out; have := HK2.out; omega⟩, ⟨by (with_reducible skip); exact BK131.out⟩, ⟨Z.bs HB.out GE131.out⟩⟩
    ·replace c6 := Bool.eq_false_iff.mpr c6
     subst c6
     rw [if_neg (show ¬ (false = true) by decide)] at H
     obtain rfl := Option.some.inj H
     have hcz45 := Z.c3 BK131.out
     have p134 : 0 ≤ (x3_1 : Int) := Z.od
     have q134 : x3_1 < (l0_2.length : Int) := Z.od
     obtain ⟨ad134, A134_0, c134_0, rfl, hx134_0, hl134_0, hi134_0⟩ := at_L9 HR0_2.out x3_1 p134 q134
     replace hx134_0 := Z.up HB.out hx134_0
     have HR134_0 := Aside0.mk hi134_0
     have HC134_0 := Aside0.mk hl134_0
     clear hi134_0 hl134_0
     replace p134 := eq_true p134
     replace q134 := eq_true q134
     go_wp2_with (((with_reducible refine gate_callee (f := 73) rfl ?_); refine goesL_ (some 20) rfl rfl Try.func73 (by kernel_rfl) rfl #[.int .i64 ((rd_L9 l0_2 x3_1).length : Int), .int .i64 1, .int .i64 3] rfl Z.ar ?_; (with_reducible refine (spec_l1In.calls ((rd_L9 l0_2 x3_1).length : Int) 1 3 false _ A5.out).mono ?_); rintro e w' ⟨rfl, ⟨nd, rfl⟩⟩; refine ⟨_, rfl, ?_⟩))
     go_ret
     exact ⟨by rfl, Z.bs HB.out GE131.out⟩
   ·rw [if_neg c3] at H
    have c3b0 := decide_eq_false c3
    clear c3
    replace H := Option.bind_eq_some_iff.mp H
    obtain ⟨t132, A460, H⟩ := H
    have A46 := Aside0.mk A460
    clear A460
    by_cases c47 : t132 = true
    ·subst c47
     rw [if_pos rfl] at H
     replace H := Option.bind_eq_some_iff.mp H
     obtain ⟨t133, A480, H⟩ := H
     have A48 := Aside0.mk A480
     clear A480
     obtain rfl := Option.some.inj H
     have hcz49 := Z.c3 BK131.out
     go_wp2_with (first | ((with_reducible refine gate_callee (f := 109) rfl ?_); refine goesL_ (some 90) rfl rfl Try.func109 (by kernel_rfl) rfl #[.agg #[.int .i64 a0_0, .slice A0_1 l0_1.length c0_1]] rfl Z.ar ?_; (with_reducible refine (spec_HouseOk.calls k1 a0_0 _ _ l0_1 true _ ?q1 ?q2 A46.out).mono ?_); (case q1 => exact Z.cc HR0_1 HB); (case q2 => exact HC0_1.out); rintro e w50 ⟨rfl, hb⟩; refine ⟨_, rfl, ?_⟩; replace BK131 := Z.bb BK131 hb; replace HB := Z.st (Z.bs HB.out GE131.out) hb; (try clear hb); have hcz51 := Z.c3 BK131.out) | (go_at_call 73; (with_reducible refine (spec_l1In.calls (l0_2.length : Int) 1 3 t133 _ A48.out).mono ?_); rintro e w' ⟨rfl, ⟨nd, rfl⟩⟩))
     go_ret
     exact ⟨by rfl, Z.bs HB.out GE131.out⟩
    ·replace c47 := Bool.eq_false_iff.mpr c47
     subst c47
     rw [if_neg (show ¬ (false = true) by decide)] at H
     obtain rfl := Option.some.inj H
     have hcz52 := Z.c3 BK131.out
     go_wp2_with (((with_reducible refine gate_callee (f := 109) rfl ?_); refine goesL_ (some 90) rfl rfl Try.func109 (by kernel_rfl) rfl #[.agg #[.int .i64 a0_0, .slice A0_1 l0_1.length c0_1]] rfl Z.ar ?_; (with_reducible refine (spec_HouseOk.calls k1 a0_0 _ _ l0_1 false _ ?q1 ?q2 A46.out).mono ?_); (case q1 => exact Z.cc HR0_1 HB); (case q2 => exact HC0_1.out); rintro e w53 ⟨rfl, hb⟩; refine ⟨_, rfl, ?_⟩; replace BK131 := Z.bb BK131 hb; replace HB := Z.st (Z.bs HB.out GE131.out) hb; (try clear hb)))
     go_ret
     exact ⟨by rfl, Z.bs HB.out GE131.out⟩

end Go.Proofs.Ytcafckapdgaogaa.PAll
