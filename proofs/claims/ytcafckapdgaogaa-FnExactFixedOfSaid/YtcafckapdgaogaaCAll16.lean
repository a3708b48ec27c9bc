/- Walks of functions that All reaches, in the form of the print. -/
-- PRINTED
import Derived.Test.YtcafckapdgaogaaCAll15
namespace Go.Proofs.Ytcafckapdgaogaa.PAll
open Go.RowKit Go.Proofs.YtcafckapdgaogaaW.PrintWords Go.Proofs.YtcafckapdgaogaaW.PrintLast Go.Proofs.YtcafckapdgaogaaW.PrintMore
attribute [local go_sem] max2_int min2_int max_two min_two max_three min_three max_four min_four
set_option linter.unusedVariables false
set_option linter.unusedSimpArgs false

/-! ### impl_mayChange: function 105 -/
def impl_mayChange.f (k : Nat) (a0_0 : Int) (l0_1 : List Int) (l0_2 : List (List (S86))) (l1 : List Int) (a2 : Int) (a3 : Int) (a4 : Int) : Option (Bool) := if a2 < 0 then (some false) else (if a2 ≥ (l1.length : Int) then (some false) else (if a3 < 0 then (some false) else (if 0 ≤ a2 then (if a2 < (l0_2.length : Int) then (if a3 ≥ ((rd_L9 l0_2 a2).length : Int) then (some false) else (if a2 < (l1.length : Int) then (if a3 = (rd l1 a2) then (some false) else (if 0 ≤ (rd l1 a2) then (if (rd l1 a2) < ((rd_L9 l0_2 a2).length : Int) then ((impl_consents.f k a0_0 l0_1 ((rd_T86 (rd_L9 l0_2 a2) (rd l1 a2)).f0) a4).bind fun t344 => (if t344 = true then (if ((rd_T86 (rd_L9 l0_2 a2) (rd l1 a2)).f1) = (-1) then (some true) else (if 0 ≤ ((rd_T86 (rd_L9 l0_2 a2) (rd l1 a2)).f1) then (if ((rd_T86 (rd_L9 l0_2 a2) (rd l1 a2)).f1) < (l1.length : Int) then (some ((rd l1 ((rd_T86 (rd_L9 l0_2 a2) (rd l1 a2)).f1)) == ((rd_T86 (rd_L9 l0_2 a2) (rd l1 a2)).f2))) else (none)) else (none))) else (some false))) else (none)) else (none))) else (none))) else (none)) else (none))))
theorem impl_mayChange.mono : ∀ a0 a1 a2 a3 a4 a5 a6 k, LeO (impl_mayChange.f k a0 a1 a2 a3 a4 a5 a6) (impl_mayChange.f (k + 1) a0 a1 a2 a3 a4 a5 a6) := by
 intro a0 a1 a2 a3 a4 a5 a6 k
 unfold impl_mayChange.f
 repeat' first
   | (with_reducible exact LeO.refl _)
   | exact impl_consents.mono _ _ _ _ _
   | exact LeO.none _
   | refine LeO.ite ?_ ?_
   | refine LeO.bind ?_ (fun _ => ?_)
def impl_mayChange.T3 : Bool × List (List Nat × List Nat) := (true, [([], []), ([0], [0]), ([], []), ([1, 2], [1, 2]), ([3], [3]), ([], []), ([], []), ([5, 6], [5, 6]), ([7], [7]), ([4, 8], [4, 8]), ([9], [9]), ([], []), ([11, 10, 0, 1, 2, 3, 4, 5, 6, 7, 8, 9, 10, 11], [10, 11])])
def impl_mayChange.B3 : List Nat := [0, 1, 0, 7, 15, 0, 0, 96, 224, 511, 1023, 0, 4095]
theorem impl_mayChange.tab3 : rtab .any (opsOf Try.f105 3) = impl_mayChange.T3 := by kernel_rfl
theorem impl_mayChange.bits3 : waitsOk impl_mayChange.T3.2 impl_mayChange.B3 = true := by kernel_rfl
def impl_mayChange.T4 : Bool × List (List Nat × List Nat) := (true, [([], []), ([0], [0]), ([], []), ([2], [2]), ([], []), ([1, 3, 4], [1, 3, 4]), ([5, 5], [5]), ([6], [6]), ([7, 6], [6, 7]), ([8, 6], [6, 8]), ([9, 6, 6], [6, 9]), ([10], [10]), ([10], [10]), ([12, 10], [10, 12]), ([11, 13, 10], [10, 11, 13]), ([14, 10], [10, 14]), ([10], [10]), ([16, 10], [10, 16]), ([15, 17, 10], [10, 15, 17]), ([10, 18, 6], [6, 10, 18]), ([6, 19], [6, 19]), ([20, 10, 0, 1, 2, 3, 4, 5, 6, 7, 8, 9, 10, 11, 12, 13, 14, 15, 16, 17, 18, 19, 20], [20])])
def impl_mayChange.B4 : List Nat := [0, 1, 0, 4, 0, 31, 63, 127, 255, 511, 1023, 2047, 2047, 6143, 16383, 32767, 2047, 67583, 262143, 524287, 1048575, 2097151]
theorem impl_mayChange.tab4 : rtab .any (opsOf Try.f105 4) = impl_mayChange.T4 := by kernel_rfl
theorem impl_mayChange.bits4 : waitsOk impl_mayChange.T4.2 impl_mayChange.B4 = true := by kernel_rfl
set_option maxHeartbeats 8000000 in
set_option maxRecDepth 100000 in
theorem impl_mayChange.calls (k : Nat) (a0_0 : Int) (A0_1 : Option Addr) (c0_1 : Nat) (l0_1 : List Int) (A0_2 : Option Addr) (c0_2 : Nat) (l0_2 : List (List (S86))) (A1 : Option Addr) (c1 : Nat) (l1 : List Int) (a2 : Int) (a3 : Int) (a4 : Int) (r : Bool) (w : World) (hr0_1 : Kd.C (Kd.int .i64) w A0_1 l0_1.length l0_1) (hc0_1 : l0_1.length ≤ c0_1) (hr0_2 : Kd.C (Kd.slice 86 k86) w A0_2 l0_2.length l0_2) (hc0_2 : l0_2.length ≤ c0_2) (hr1 : Kd.C (Kd.int .i64) w A1 l1.length l1) (hc1 : l1.length ≤ c1) (h : impl_mayChange.f k a0_0 l0_1 l0_2 l1 a2 a3 a4 = some r) :
  Calls Try.prog 105 #[.agg #[.int .i64 a0_0, .slice A0_1 l0_1.length c0_1, .slice A0_2 l0_2.length c0_2], .slice A1 l1.length c1, .int .i64 a2, .int .i64 a3, .int .i64 a4] w fun e w' => e = .returned (.bool r) ∧ Below w.heap.size w w' := by
 have hu35 := Try.underlying35
 have hu86 := Try.underlying86
 have hu32 := Try.underlying32
 have HR0_1 := Aside0.mk hr0_1
 have HC0_1 := Aside0.mk hc0_1
 clear hr0_1 hc0_1
 have HR0_2 := Aside0.mk hr0_2
 have HC0_2 := Aside0.mk hc0_2
 clear hr0_2 hc0_2
 have HR1 := Aside0.mk hr1
 have HC1 := Aside0.mk hc1
 clear hr1 hc1
 have HB := Aside0.mk (Below.refl w.heap.size w)
 have H := h
 clear h
 unfold impl_mayChange.f at H
 by_cases c6 : a2 < 0
 ·rw [if_pos c6] at H
  have c6b0 := decide_eq_true c6
  clear c6
  obtain rfl := Option.some.inj H
  go_enter Try.func105, Try.ntmps105
  go_wp2_with (((with_reducible refine gate_dst (N := 5) rfl ?_); (try (refine gate_guard (by rfl) ?_; dsimp only)); refine Z.bx #[.int .i64 a0_0, .slice A0_1 l0_1.length c0_1, .slice A0_2 l0_2.length c0_2] 35 HB ?_; clear HB; intro gb337 w7 BK337 GE337 HB hg hb; have GW337 := GE337; clear hb hg))
  go_ret
  exact ⟨by rfl, Z.bs HB.out GE337.out⟩
 ·rw [if_neg c6] at H
  have c6b0 := decide_eq_false c6
  clear c6
  by_cases c8 : a2 ≥ (l1.length : Int)
  ·rw [if_pos c8] at H
   have c8b0 : decide ((l1.length : Int) ≤ a2) = true := decide_eq_true c8
   clear c8
   obtain rfl := Option.some.inj H
   go_enter Try.func105, Try.ntmps105
   go_wp2_with (((with_reducible refine gate_dst (N := 5) rfl ?_); (try (refine gate_guard (by rfl) ?_; dsimp only)); refine Z.bx #[.int .i64 a0_0, .slice A0_1 l0_1.length c0_1, .slice A0_2 l0_2.length c0_2] 35 HB ?_; clear HB; intro gb337 w9 BK337 GE337 HB hg hb; have GW337 := GE337; clear hb hg))
   go_ret
   exact ⟨by rfl, Z.bs HB.out GE337.out⟩
  ·rw [if_neg c8] at H
   have c8b0 : decide ((l1.length : Int) ≤ a2) = false := decide_eq_false c8
   clear c8
   by_cases c10 : a3 < 0
   ·rw [if_pos c10] at H
    have c10b0 := decide_eq_true c10
    clear c10
    obtain rfl := Option.some.inj H
    go_enter Try.func105, Try.ntmps105
    go_wp2_with (((with_reducible refine gate_dst (N := 5) rfl ?_); (try (refine gate_guard (by rfl) ?_; dsimp only)); refine Z.bx #[.int .i64 a0_0, .slice A0_1 l0_1.length c0_1, .slice A0_2 l0_2.length c0_2] 35 HB ?_; clear HB; intro gb337 w11 BK337 GE337 HB hg hb; have GW337 := GE337; clear hb hg))
    go_ret
    exact ⟨by rfl, Z.bs HB.out GE337.out⟩
   ·rw [if_neg c10] at H
    have c10b0 := decide_eq_false c10
    clear c10
    obtain ⟨c12, H⟩ := Z.ifp H
    have c12b0 : decide (0 ≤ a2) = true := decide_eq_true c12
    clear c12
    obtain ⟨c13, H⟩ := Z.ifp H
    have c13b0 : decide (a2 < (l0_2.length : Int)) = true := decide_eq_true c13
    clear c13
    by_cases c14 : a3 ≥ ((rd_L9 l0_2 a2).length : Int)
    ·rw [if_pos c14] at H
     have c14b0 : decide (((rd_L9 l0_2 a2).length : Int) ≤ a3) = true := decide_eq_true c14
     clear c14
     obtain rfl := Option.some.inj H
     go_enter Try.func105, Try.ntmps105
     go_wp2_with (((with_reducible refine gate_dst (N := 5) rfl ?_); (try (refine gate_guard (by rfl) ?_; dsimp only)); refine Z.bx #[.int .i64 a0_0, .slice A0_1 l0_1.length c0_1, .slice A0_2 l0_2.length c0_2] 35 HB ?_; clear HB; intro gb337 w15 BK337 GE337 HB hg hb; have GW337 := GE337; clear hb hg; have hcz16 := Z.c3 BK337.out; have p338 : 0 ≤ (a2 : Int) := Z.od; have q338 : a2 < (l0_2.length : Int) := Z.od; obtain ⟨ad338, A338_0, c338_0, e338, hx338_0, hl338_0, hi338_0⟩ := at_L9 HR0_2.out a2 p338 q338; cases e338; replace hx338_0 := Z.up HB.out hx338_0; have HR338_0 := Aside0.mk hi338_0; have HC338_0 := Aside0.mk hl338_0; clear hi338_0 hl338_0; replace p338 := eq_true p338; replace q338 := eq_true q338))
     go_ret
     exact ⟨by rfl, Z.bs HB.out GE337.out⟩
    ·rw [if_neg c14] at H
     have c14b0 : decide (((rd_L9 l0_2 a2).length : Int) ≤ a3) = false := decide_eq_false c14
     clear c14
     obtain ⟨c17, H⟩ := Z.ifp H
     have c17b0 : decide (a2 < (l1.length : Int)) = true := decide_eq_true c17
     clear c17
     by_cases c18 : a3 = (rd l1 a2)
     ·rw [if_pos c18] at H
      have c18b0 : (a3 == (rd l1 a2)) = true := beq_iff_eq.mpr c18
      have c18b1 : (a3 != (rd l1 a2)) = false := bne_eq_false_iff_eq.mpr c18
      clear c18
      obtain rfl := Option.some.inj H
      go_enter Try.func105, Try.ntmps105
      go_wp2_with (((with_reducible refine gate_dst (N := 5) rfl ?_); (try (refine gate_guard (by rfl) ?_; dsimp only)); refine Z.bx #[.int .i64 a0_0, .slice A0_1 l0_1.length c0_1, .slice A0_2 l0_2.length c0_2] 35 HB ?_; clear HB; intro gb337 w19 BK337 GE337 HB hg hb; have GW337 := GE337; clear hb hg; have hcz20 := Z.c3 BK337.out; have p338 : 0 ≤ (a2 : Int) := Z.od; have q338 : a2 < (l0_2.length : Int) := Z.od; obtain ⟨ad338, A338_0, c338_0, e338, hx338_0, hl338_0, hi338_0⟩ := at_L9 HR0_2.out a2 p338 q338; cases e338; replace hx338_0 := Z.up HB.out hx338_0; have HR338_0 := Aside0.mk hi338_0; have HC338_0 := Aside0.mk hl338_0; clear hi338_0 hl338_0; replace p338 := eq_true p338; replace q338 := eq_true q338; have p339 : 0 ≤ (a2 : Int) := Z.od; have q339 : a2 < (l1.length : Int) := Z.od; obtain ⟨ad339, e339, hx339_0⟩ := Kd.at_int HR1.out a2 p339 q339; cases e339; replace hx339_0 := Z.up HB.out hx339_0; replace p339 := eq_true p339; replace q339 := eq_true q339))
      go_ret
      exact ⟨by rfl, Z.bs HB.out GE337.out⟩
     ·rw [if_neg c18] at H
      have c18b0 : (a3 == (rd l1 a2)) = false := beq_eq_false_iff_ne.mpr c18
      have c18b1 : (a3 != (rd l1 a2)) = true := bne_iff_ne.mpr c18
      obtain ⟨c21, H⟩ := Z.ifp H
      have c21b0 : decide (0 ≤ (rd l1 a2)) = true := decide_eq_true c21
      clear c21
      obtain ⟨c22, H⟩ := Z.ifp H
      have c22b0 : decide ((rd l1 a2) < ((rd_L9 l0_2 a2).length : Int)) = true := decide_eq_true c22
      clear c22
      replace H := Option.bind_eq_some_iff.mp H
      obtain ⟨t344, A230, H⟩ := H
      have A23 := Aside0.mk A230
      clear A230
      by_cases c24 : t344 = true
      ·subst c24
       rw [if_pos rfl] at H
       by_cases c25 : ((rd_T86 (rd_L9 l0_2 a2) (rd l1 a2)).f1) = (-1)
       ·rw [if_pos c25] at H
        have c25b0 : (((rd_T86 (rd_L9 l0_2 a2) (rd l1 a2)).f1) == (-1)) = true := beq_iff_eq.mpr c25
        have c25b1 : (((rd_T86 (rd_L9 l0_2 a2) (rd l1 a2)).f1) != (-1)) = false := bne_eq_false_iff_eq.mpr c25
        clear c25
        obtain rfl := Option.some.inj H
        go_enter Try.func105, Try.ntmps105
        try go_wp2_with (((with_reducible refine gate_dst (N := 5) rfl ?_); (try (refine gate_guard (by rfl) ?_; dsimp only)); refine Z.bx #[.int .i64 a0_0, .slice A0_1 l0_1.length c0_1, .slice A0_2 l0_2.length c0_2] 35 HB ?_; clear HB; intro gb337 w26 BK337 GE337 HB hg hb; have GW337 := GE337; clear hb hg; have hcz27 := Z.c3 BK337.out; have p338 : 0 ≤ (a2 : Int) := Z.od; have q338 : a2 < (l0_2.length : Int) := Z.od; obtain ⟨ad338, A338_0, c338_0, e338, hx338_0, hl338_0, hi338_0⟩ := at_L9 HR0_2.out a2 p338 q338; cases e338; replace hx338_0 := Z.up HB.out hx338_0; have HR338_0 := Aside0.mk hi338_0; have HC338_0 := Aside0.mk hl338_0; clear hi338_0 hl338_0; replace p338 := eq_true p338; replace q338 := eq_true q338; have p339 : 0 ≤ (a2 : Int) := Z.od; have q339 : a2 < (l1.length : Int) := Z.od; obtain ⟨ad339, e339, hx339_0⟩ := Kd.at_int HR1.out a2 p339 q339; cases e339; replace hx339_0 := Z.up HB.out hx339_0; replace p339 := eq_true p339; replace q339 := eq_true q339))
        replace BK337 := Aside0.mk (blk_drew BK337.out)
        replace HB := Aside0.mk (below_drew1 HB.out)
        have p340 : 0 ≤ (a2 : Int) := Z.od
        have q340 : a2 < (l0_2.length : Int) := Z.od
        obtain ⟨ad340, A340_0, c340_0, e340, hx340_0, hl340_0, hi340_0⟩ := at_L9 HR0_2.out a2 p340 q340
        have hw340_0 := hx340_0
        obtain rfl : ad338 = ad340 := (by injection e340)
        replace hx340_0 := Z.up HB.out hx340_0
        have HR340_0 := Aside0.mk hi340_0
        have HC340_0 := Aside0.mk hl340_0
        clear hi340_0 hl340_0
        replace p340 := eq_true p340
        replace q340 := eq_true q340
        have p341 : 0 ≤ (a2 : Int) := Z.od
        have q341 : a2 < (l1.length : Int) := Z.od
        obtain ⟨ad341, e341, hx341_0⟩ := Kd.at_int HR1.out a2 p341 q341
        have hw341_0 := hx341_0
        obtain rfl : ad339 = ad341 := (by injection e341)
        replace hx341_0 := Z.up HB.out hx341_0
        replace p341 := eq_true p341
        replace q341 := eq_true q341
        have p342 : 0 ≤ ((rd l1 a2) : Int) := Z.od
        have q342 : (rd l1 a2) < ((rd_L9 l0_2 a2).length : Int) := Z.od
        obtain ⟨ad342, A342_0, c342_0, rfl, hx342_0, hx342_1, hx342_2, hl342_0, hi342_0⟩ := at_T86 HR340_0.out (rd l1 a2) p342 q342
        have hw342_2 := hx342_2
        have hw342_1 := hx342_1
        have hw342_0 := hx342_0
        replace hx342_0 := Z.up HB.out hx342_0
        replace hx342_1 := Z.up HB.out hx342_1
        replace hx342_2 := Z.up HB.out hx342_2
        have HR342_0 := Aside0.mk hi342_0
        have HC342_0 := Aside0.mk hl342_0
        clear hi342_0 hl342_0
        replace p342 := eq_true p342
        replace q342 := eq_true q342
        refine start_ (n := 13) (S := fun w' => w'.cell? ⟨gb337, 0, none⟩ = some (.int .i64 a0_0) ∧ w'.cell? ⟨gb337, 1, none⟩ = some (.slice A0_1 l0_1.length c0_1) ∧ w'.cell? ⟨gb337, 2, none⟩ = some (.slice (some ad338) l0_2.length c0_2) ∧ w'.cell? (ad338.add (a2).toNat) = some (.slice (some ad342) (rd_L9 l0_2 a2).length c340_0) ∧ w'.cell? (ad339.add (a2).toNat) = some (.int .i64 (rd l1 a2)) ∧ w'.cell? (ad342.add (((rd l1 a2)).toNat * 3)) = some (.slice A342_0 ((rd_T86 (rd_L9 l0_2 a2) (rd l1 a2)).f0).length c342_0) ∧ w'.cell? ⟨(ad342.add (((rd l1 a2)).toNat * 3)).block, (ad342.add (((rd l1 a2)).toNat * 3)).off + 1, none⟩ = some (.int .i64 ((rd_T86 (rd_L9 l0_2 a2) (rd l1 a2)).f1)) ∧ w'.cell? ⟨(ad342.add (((rd l1 a2)).toNat * 3)).block, (ad342.add (((rd l1 a2)).toNat * 3)).off + 2, none⟩ = some (.int .i64 ((rd_T86 (rd_L9 l0_2 a2) (rd l1 a2)).f2))) (ds := []) #[false, false, false, false, false, false, false, false, false, false, false, false, false] (by kernel_rfl) rfl rfl ⟨(blk_cell BK337.out 0).trans rfl, (blk_cell BK337.out 1).trans rfl, (blk_cell BK337.out 2).trans rfl, (Z.up HB.out hw340_0 :), (Z.up HB.out hw341_0 :), (Z.up HB.out hw342_0 :), (Z.up HB.out hw342_1 :), (Z.up HB.out hw342_2 :)⟩ (fun hHeld => ?_); refine with_tabW impl_mayChange.tab3 impl_mayChange.bits3 (fun HT_ HW_ => ?_)
        generalize w26.drew = w28 at BK337 HB HR340_0 HR342_0 hx340_0 hx341_0 hx342_0 hx342_1 hx342_2 hHeld ⊢
        refine Z.pv 0 42 13 1 HT_.out ?_
        refine Z.pv 2 44 13 5 HT_.out ?_
        refine Z.pv 5 47 13 37 HT_.out ?_
        refine Z.pv 6 48 13 101 HT_.out ?_
        refine Z.pv 7 49 13 229 HT_.out ?_
        refine Z.t8 1 43 13 231 HT_.out HW_.out hHeld ?_
        refine Z.pv 3 45 13 239 HT_.out ?_
        refine Z.t8 4 46 13 255 HT_.out HW_.out hHeld ?_
        refine Z.t8 8 50 13 511 HT_.out HW_.out hHeld ?_
        refine Z.pv 9 51 13 1023 HT_.out ?_
        refine Z.t8 10 52 13 2047 HT_.out HW_.out hHeld ?_
        refine one_ (i := 11) (N := some 11) (Z.mb 13 4095) rfl rfl (one_of HT_.out (by kernel_rfl)) (by decide) (fun K hK => ?_)
        refine box_step ?hg (N := 11) ?hd (cs := #[.slice none 0 0, .int .i64 0, .int .i64 0]) (t := 86) ?hr ?_; (case hd | hg => rfl); (case hr => (go_simp; done))
        intro gb343 hg w29 hbox hb
        have BK343 := Aside0.mk (hbox)
        have GW343 := Z.gh hg (Z.bs HB.out GE337.out)
        have GE343 := Z.gh hg (Z.bs HB.out GE337.out)
        replace HB := Z.st (Z.bs HB.out GE337.out) hb
        have NB337_343 := Z.nl hg BK337
        have NB343_337 := Z.ng hg BK337
        replace BK337 := Z.bb BK337 hb
        clear hb hbox hg
        refine hK.out _ _ ⟨(blk_cell BK337.out 0).trans rfl, (blk_cell BK337.out 1).trans rfl, (blk_cell BK337.out 2).trans rfl, (Z.up HB.out hw340_0 :), (Z.up HB.out hw341_0 :), (Z.up HB.out hw342_0 :), (Z.up HB.out hw342_1 :), (Z.up HB.out hw342_2 :)⟩ (fun hHeld => ?_)
        clear hK K
        refine Z.nm ?_
        refine one_ (i := 12) (N := none) #[true, true, true, true, true, true, true, true, true, true, true, true, true] rfl rfl (one_of HT_.out (by kernel_rfl)) (by decide) (fun K hK => ?_)
        have hs30 : w29.cell? ⟨gb343, 0, none⟩ = some (.slice none 0 0) := (blk_cell BK343.out 0).trans rfl
        have hfs30 := blk_frozen BK343.out 0
        have hns30_0 := NB337_343.out
        have hms30_0 := NB343_337.out
        have hs31 : w29.cell? ⟨gb343, 1, none⟩ = some (.int .i64 0) := (blk_cell BK343.out 1).trans rfl
        have hfs31 := blk_frozen BK343.out 1
        have hns31_0 := NB337_343.out
        have hms31_0 := NB343_337.out
        have hs32 : w29.cell? ⟨gb343, 2, none⟩ = some (.int .i64 0) := (blk_cell BK343.out 2).trans rfl
        have hfs32 := blk_frozen BK343.out 2
        have hns32_0 := NB337_343.out
        have hms32_0 := NB343_337.out
        refine skip_ (w1 := ?_) (by rfl) rfl ?_ ?_
        rotate_left
        ·go_simp
         rfl
        refine hK.out _ _ ⟨(Z.f3 NB337_343.out (hHeld.1)), (Z.f3 NB337_343.out (hHeld.2.1)), (Z.f3 NB337_343.out (hHeld.2.2.1)), (Z.f3 (Z.fn hw340_0 GW343.out) (hHeld.2.2.2.1)), (Z.f3 (Z.fn hw341_0 GW343.out) (hHeld.2.2.2.2.1)), (Z.f3 (Z.fn hw342_0 GW343.out) (hHeld.2.2.2.2.2.1)), (Z.f3 (Z.fn hw342_1 GW343.out) (hHeld.2.2.2.2.2.2.1)), (Z.f3 (Z.fn hw342_2 GW343.out) (hHeld.2.2.2.2.2.2.2))⟩ (fun hHeld => ?_)
        clear hK K
        refine done_ (done_of HT_.out (by kernel_rfl)) ?_
        try go_wp2
        have n0_ : Aside0 ((((w29.setCell ⟨gb343, 0, none⟩ (.slice A342_0 ((rd_T86 (rd_L9 l0_2 a2) (rd l1 a2)).f0).length c342_0)).setCell ⟨gb343, 1, none⟩ (.int .i64 ((rd_T86 (rd_L9 l0_2 a2) (rd l1 a2)).f1))).setCell ⟨gb343, 2, none⟩ (.int .i64 ((rd_T86 (rd_L9 l0_2 a2) (rd l1 a2)).f2))).heap[gb337]? = some (.cells #[.int .i64 a0_0, .slice A0_1 l0_1.length c0_1, .slice (some ad338) l0_2.length c0_2] 35 (0, 0))) := ⟨by (with_reducible skip); refine blk_far ?_ NB337_343.out _; (with_reducible skip); refine blk_far ?_ NB337_343.out _; (with_reducible skip); refine blk_far ?_ NB337_343.out _; (with_reducible skip); exact BK337.out⟩
        have n1_ : Aside0 ((((w29.setCell ⟨gb343, 0, none⟩ (.slice A342_0 ((rd_T86 (rd_L9 l0_2 a2) (rd l1 a2)).f0).length c342_0)).setCell ⟨gb343, 1, none⟩ (.int .i64 ((rd_T86 (rd_L9 l0_2 a2) (rd l1 a2)).f1))).setCell ⟨gb343, 2, none⟩ (.int .i64 ((rd_T86 (rd_L9 l0_2 a2) (rd l1 a2)).f2))).heap[gb343]? = some (.cells #[.slice A342_0 ((rd_T86 (rd_L9 l0_2 a2) (rd l1 a2)).f0).length c342_0, .int .i64 ((rd_T86 (rd_L9 l0_2 a2) (rd l1 a2)).f1), .int .i64 ((rd_T86 (rd_L9 l0_2 a2) (rd l1 a2)).f2)] 86 (0, 0))) := ⟨by (with_reducible skip); refine blk_put (cs := #[.slice A342_0 ((rd_T86 (rd_L9 l0_2 a2) (rd l1 a2)).f0).length c342_0, .int .i64 ((rd_T86 (rd_L9 l0_2 a2) (rd l1 a2)).f1), .int .i64 0]) ?_ 2 _ rfl; (with_reducible skip); refine blk_put (cs := #[.slice A342_0 ((rd_T86 (rd_L9 l0_2 a2) (rd l1 a2)).f0).length c342_0, .int .i64 0, .int .i64 0]) ?_ 1 _ rfl; (with_reducible skip); refine blk_put (cs := #[.slice none 0 0, .int .i64 0, .int .i64 0]) ?_ 0 _ rfl; (with_reducible skip); exact BK343.out⟩
        have n2_ : Aside0 (Below w.heap.size w (((w29.setCell ⟨gb343, 0, none⟩ (.slice A342_0 ((rd_T86 (rd_L9 l0_2 a2) (rd l1 a2)).f0).length c342_0)).setCell ⟨gb343, 1, none⟩ (.int .i64 ((rd_T86 (rd_L9 l0_2 a2) (rd l1 a2)).f1))).setCell ⟨gb343, 2, none⟩ (.int .i64 ((rd_T86 (rd_L9 l0_2 a2) (rd l1 a2)).f2)))) := ⟨by repeat ((with_reducible first | exact HB.out | refine below_set ?_ GE343.out))⟩
        (try clear BK337)
        (try clear BK343)
        (try clear HB)
        generalize (((w29.setCell ⟨gb343, 0, none⟩ (.slice A342_0 ((rd_T86 (rd_L9 l0_2 a2) (rd l1 a2)).f0).length c342_0)).setCell ⟨gb343, 1, none⟩ (.int .i64 ((rd_T86 (rd_L9 l0_2 a2) (rd l1 a2)).f1))).setCell ⟨gb343, 2, none⟩ (.int .i64 ((rd_T86 (rd_L9 l0_2 a2) (rd l1 a2)).f2))) = w33 at n0_ n1_ n2_ ⊢
        have BK337 := n0_
        have BK343 := n1_
        have HB := n2_
        clear n0_ n1_ n2_
        replace BK337 := Aside0.mk (blk_drew BK337.out)
        replace BK343 := Aside0.mk (blk_drew BK343.out)
        replace HB := Aside0.mk (below_drew1 HB.out)
        refine start_ (n := 22) (S := fun w' => w'.cell? ⟨gb337, 0, none⟩ = some (.int .i64 a0_0) ∧ w'.cell? ⟨gb337, 1, none⟩ = some (.slice A0_1 l0_1.length c0_1) ∧ w'.cell? ⟨gb337, 2, none⟩ = some (.slice (some ad338) l0_2.length c0_2) ∧ w'.cell? ⟨gb343, 0, none⟩ = some (.slice A342_0 ((rd_T86 (rd_L9 l0_2 a2) (rd l1 a2)).f0).length c342_0) ∧ w'.cell? ⟨gb343, 1, none⟩ = some (.int .i64 ((rd_T86 (rd_L9 l0_2 a2) (rd l1 a2)).f1)) ∧ w'.cell? ⟨gb343, 2, none⟩ = some (.int .i64 ((rd_T86 (rd_L9 l0_2 a2) (rd l1 a2)).f2))) (ds := []) #[false, false, false, false, false, false, false, false, false, false, false, false, false, false, false, false, false, false, false, false, false, false] (by kernel_rfl) rfl rfl ⟨(blk_cell BK337.out 0).trans rfl, (blk_cell BK337.out 1).trans rfl, (blk_cell BK337.out 2).trans rfl, (blk_cell BK343.out 0).trans rfl, (blk_cell BK343.out 1).trans rfl, (blk_cell BK343.out 2).trans rfl⟩ (fun hHeld => ?_); refine with_tabW impl_mayChange.tab4 impl_mayChange.bits4 (fun HT_ HW_ => ?_)
        generalize w33.drew = w34 at BK337 BK343 HB hHeld ⊢
        refine Z.pv 0 53 22 1 HT_.out ?_
        refine Z.pv 2 55 22 5 HT_.out ?_
        refine Z.pv 4 57 22 21 HT_.out ?_
        refine Z.t6 1 54 22 23 HT_.out HW_.out hHeld ?_
        refine Z.t6 3 56 22 31 HT_.out HW_.out hHeld ?_
        refine one_ (i := 5) (N := some 58) (Z.mb 22 63) rfl rfl (one_of HT_.out (by kernel_rfl)) (by decide) (fun K hK => ?_)
        refine goes_ Try.func127 (by kernel_rfl) rfl #[.agg #[.int .i64 a0_0, .slice A0_1 l0_1.length c0_1], .slice A342_0 ((rd_T86 (rd_L9 l0_2 a2) (rd l1 a2)).f0).length c342_0, .int .i64 a4] (by rfl) rfl rfl Z.ar ?_
        with_reducible refine (impl_consents.calls k a0_0 _ _ l0_1 _ _ ((rd_T86 (rd_L9 l0_2 a2) (rd l1 a2)).f0) a4 true _ ?q1 ?q2 ?q3 ?q4 A23.out).mono ?_
        (case q1 => exact Z.cc HR0_1 HB)
        (case q2 => exact HC0_1.out)
        (case q3 => exact Z.cc HR342_0 HB)
        (case q4 => exact HC342_0.out)
        rintro e w35 ⟨rfl, hb⟩
        refine ⟨_, rfl, ?_⟩
        replace BK337 := Z.bb BK337 hb
        replace BK343 := Z.bb BK343 hb
        replace HB := Aside0.mk (below_step (by repeat ((with_reducible exact HB.out))) hb)
        (try clear hb)
        refine hK.out _ _ ⟨(blk_cell BK337.out 0).trans rfl, (blk_cell BK337.out 1).trans rfl, (blk_cell BK337.out 2).trans rfl, (blk_cell BK343.out 0).trans rfl, (blk_cell BK343.out 1).trans rfl, (blk_cell BK343.out 2).trans rfl⟩ (fun hHeld => ?_)
        clear hK K
        refine Z.nm ?_
        refine Z.pv 6 59 22 127 HT_.out ?_
        refine Z.pv 7 60 22 255 HT_.out ?_
        refine Z.t6 8 61 22 511 HT_.out HW_.out hHeld ?_
        refine Z.pv 9 62 22 1023 HT_.out ?_
        refine Z.pv 10 63 22 2047 HT_.out ?_
        refine Z.pu 11 64 22 4095 HT_.out ?_
        refine Z.pu 12 65 22 8191 HT_.out ?_
        refine Z.pu 13 66 22 16383 HT_.out ?_
        refine Z.pu 14 67 22 32767 HT_.out ?_
        refine Z.pu 15 68 22 65535 HT_.out ?_
        refine Z.pu 16 69 22 131071 HT_.out ?_
        refine Z.pu 17 70 22 262143 HT_.out ?_
        refine Z.pu 18 71 22 524287 HT_.out ?_
        refine Z.pv 19 72 22 1048575 HT_.out ?_
        refine Z.pv 20 73 22 2097151 HT_.out ?_
        refine Z.pv 21 10 22 4194303 HT_.out ?_
        refine done_ (done_of HT_.out (by kernel_rfl)) ?_
        try go_wp2
        go_ret
        exact ⟨by rfl, by repeat ((with_reducible exact HB.out))⟩
       ·rw [if_neg c25] at H
        have c25b0 : (((rd_T86 (rd_L9 l0_2 a2) (rd l1 a2)).f1) == (-1)) = false := beq_eq_false_iff_ne.mpr c25
        have c25b1 : (((rd_T86 (rd_L9 l0_2 a2) (rd l1 a2)).f1) != (-1)) = true := bne_iff_ne.mpr c25
        obtain ⟨c36, H⟩ := Z.ifp H
        have c36b0 : decide (0 ≤ ((rd_T86 (rd_L9 l0_2 a2) (rd l1 a2)).f1)) = true := decide_eq_true c36
        clear c36
        obtain ⟨c37, H⟩ := Z.ifp H
        have c37b0 : decide (((rd_T86 (rd_L9 l0_2 a2) (rd l1 a2)).f1) < (l1.length : Int)) = true := decide_eq_true c37
        clear c37
        obtain rfl := Option.some.inj H
        go_enter Try.func105, Try.ntmps105
        try go_wp2_with (((with_reducible refine gate_dst (N := 5) rfl ?_); (try (refine gate_guard (by rfl) ?_; dsimp only)); refine Z.bx #[.int .i64 a0_0, .slice A0_1 l0_1.length c0_1, .slice A0_2 l0_2.length c0_2] 35 HB ?_; clear HB; intro gb337 w38 BK337 GE337 HB hg hb; have GW337 := GE337; clear hb hg; have hcz39 := Z.c3 BK337.out; have p338 : 0 ≤ (a2 : Int) := Z.od; have q338 : a2 < (l0_2.length : Int) := Z.od; obtain ⟨ad338, A338_0, c338_0, e338, hx338_0, hl338_0, hi338_0⟩ := at_L9 HR0_2.out a2 p338 q338; cases e338; replace hx338_0 := Z.up HB.out hx338_0; have HR338_0 := Aside0.mk hi338_0; have HC338_0 := Aside0.mk hl338_0; clear hi338_0 hl338_0; replace p338 := eq_true p338; replace q338 := eq_true q338; have p339 : 0 ≤ (a2 : Int) := Z.od; have q339 : a2 < (l1.length : Int) := Z.od; obtain ⟨ad339, e339, hx339_0⟩ := Kd.at_int HR1.out a2 p339 q339; cases e339; replace hx339_0 := Z.up HB.out hx339_0; replace p339 := eq_true p339; replace q339 := eq_true q339))
        replace BK337 := Aside0.mk (blk_drew BK337.out)
        replace HB := Aside0.mk (below_drew1 HB.out)
        have p340 : 0 ≤ (a2 : Int) := Z.od
        have q340 : a2 < (l0_2.length : Int) := Z.od
        obtain ⟨ad340, A340_0, c340_0, e340, hx340_0, hl340_0, hi340_0⟩ := at_L9 HR0_2.out a2 p340 q340
        have hw340_0 := hx340_0
        obtain rfl : ad338 = ad340 := (by injection e340)
        replace hx340_0 := Z.up HB.out hx340_0
        have HR340_0 := Aside0.mk hi340_0
        have HC340_0 := Aside0.mk hl340_0
        clear hi340_0 hl340_0
        replace p340 := eq_true p340
        replace q340 := eq_true q340
        have p341 : 0 ≤ (a2 : Int) := Z.od
        have q341 : a2 < (l1.length : Int) := Z.od
        obtain ⟨ad341, e341, hx341_0⟩ := Kd.at_int HR1.out a2 p341 q341
        have hw341_0 := hx341_0
        obtain rfl : ad339 = ad341 := (by injection e341)
        replace hx341_0 := Z.up HB.out hx341_0
        replace p341 := eq_true p341
        replace q341 := eq_true q341
        have p342 : 0 ≤ ((rd l1 a2) : Int) := Z.od
        have q342 : (rd l1 a2) < ((rd_L9 l0_2 a2).length : Int) := Z.od
        obtain ⟨ad342, A342_0, c342_0, rfl, hx342_0, hx342_1, hx342_2, hl342_0, hi342_0⟩ := at_T86 HR340_0.out (rd l1 a2) p342 q342
        have hw342_2 := hx342_2
        have hw342_1 := hx342_1
        have hw342_0 := hx342_0
        replace hx342_0 := Z.up HB.out hx342_0
        replace hx342_1 := Z.up HB.out hx342_1
        replace hx342_2 := Z.up HB.out hx342_2
        have HR342_0 := Aside0.mk hi342_0
        have HC342_0 := Aside0.mk hl342_0
        clear hi342_0 hl342_0
        replace p342 := eq_true p342
        replace q342 := eq_true q342
        refine start_ (n := 13) (S := fun w' => w'.cell? ⟨gb337, 0, none⟩ = some (.int .i64 a0_0) ∧ w'.cell? ⟨gb337, 1, none⟩ = some (.slice A0_1 l0_1.length c0_1) ∧ w'.cell? ⟨gb337, 2, none⟩ = some (.slice (some ad338) l0_2.length c0_2) ∧ w'.cell? (ad338.add (a2).toNat) = some (.slice (some ad342) (rd_L9 l0_2 a2).length c340_0) ∧ w'.cell? (ad339.add (a2).toNat) = some (.int .i64 (rd l1 a2)) ∧ w'.cell? (ad342.add (((rd l1 a2)).toNat * 3)) = some (.slice A342_0 ((rd_T86 (rd_L9 l0_2 a2) (rd l1 a2)).f0).length c342_0) ∧ w'.cell? ⟨(ad342.add (((rd l1 a2)).toNat * 3)).block, (ad342.add (((rd l1 a2)).toNat * 3)).off + 1, none⟩ = some (.int .i64 ((rd_T86 (rd_L9 l0_2 a2) (rd l1 a2)).f1)) ∧ w'.cell? ⟨(ad342.add (((rd l1 a2)).toNat * 3)).block, (ad342.add (((rd l1 a2)).toNat * 3)).off + 2, none⟩ = some (.int .i64 ((rd_T86 (rd_L9 l0_2 a2) (rd l1 a2)).f2))) (ds := []) #[false, false, false, false, false, false, false, false, false, false, false, false, false] (by kernel_rfl) rfl rfl ⟨(blk_cell BK337.out 0).trans rfl, (blk_cell BK337.out 1).trans rfl, (blk_cell BK337.out 2).trans rfl, (Z.up HB.out hw340_0 :), (Z.up HB.out hw341_0 :), (Z.up HB.out hw342_0 :), (Z.up HB.out hw342_1 :), (Z.up HB.out hw342_2 :)⟩ (fun hHeld => ?_); refine with_tabW impl_mayChange.tab3 impl_mayChange.bits3 (fun HT_ HW_ => ?_)
        generalize w38.drew = w40 at BK337 HB HR340_0 HR342_0 hx340_0 hx341_0 hx342_0 hx342_1 hx342_2 hHeld ⊢
        refine Z.pv 0 42 13 1 HT_.out ?_
        refine Z.pv 2 44 13 5 HT_.out ?_
        refine Z.pv 5 47 13 37 HT_.out ?_
        refine Z.pv 6 48 13 101 HT_.out ?_
        refine Z.pv 7 49 13 229 HT_.out ?_
        refine Z.t8 1 43 13 231 HT_.out HW_.out hHeld ?_
        refine Z.pv 3 45 13 239 HT_.out ?_
        refine Z.t8 4 46 13 255 HT_.out HW_.out hHeld ?_
        refine Z.t8 8 50 13 511 HT_.out HW_.out hHeld ?_
        refine Z.pv 9 51 13 1023 HT_.out ?_
        refine Z.t8 10 52 13 2047 HT_.out HW_.out hHeld ?_
        refine one_ (i := 11) (N := some 11) (Z.mb 13 4095) rfl rfl (one_of HT_.out (by kernel_rfl)) (by decide) (fun K hK => ?_)
        refine box_step ?hg (N := 11) ?hd (cs := #[.slice none 0 0, .int .i64 0, .int .i64 0]) (t := 86) ?hr ?_; (case hd | hg => rfl); (case hr => (go_simp; done))
        intro gb343 hg w41 hbox hb
        have BK343 := Aside0.mk (hbox)
        have GW343 := Z.gh hg (Z.bs HB.out GE337.out)
        have GE343 := Z.gh hg (Z.bs HB.out GE337.out)
        replace HB := Z.st (Z.bs HB.out GE337.out) hb
        have NB337_343 := Z.nl hg BK337
        have NB343_337 := Z.ng hg BK337
        replace BK337 := Z.bb BK337 hb
        clear hb hbox hg
        refine hK.out _ _ ⟨(blk_cell BK337.out 0).trans rfl, (blk_cell BK337.out 1).trans rfl, (blk_cell BK337.out 2).trans rfl, (Z.up HB.out hw340_0 :), (Z.up HB.out hw341_0 :), (Z.up HB.out hw342_0 :), (Z.up HB.out hw342_1 :), (Z.up HB.out hw342_2 :)⟩ (fun hHeld => ?_)
        clear hK K
        refine Z.nm ?_
        refine one_ (i := 12) (N := none) #[true, true, true, true, true, true, true, true, true, true, true, true, true] rfl rfl (one_of HT_.out (by kernel_rfl)) (by decide) (fun K hK => ?_)
        have hs42 : w41.cell? ⟨gb343, 0, none⟩ = some (.slice none 0 0) := (blk_cell BK343.out 0).trans rfl
        have hfs42 := blk_frozen BK343.out 0
        have hns42_0 := NB337_343.out
        have hms42_0 := NB343_337.out
        have hs43 : w41.cell? ⟨gb343, 1, none⟩ = some (.int .i64 0) := (blk_cell BK343.out 1).trans rfl
        have hfs43 := blk_frozen BK343.out 1
        have hns43_0 := NB337_343.out
        have hms43_0 := NB343_337.out
        have hs44 : w41.cell? ⟨gb343, 2, none⟩ = some (.int .i64 0) := (blk_cell BK343.out 2).trans rfl
        have hfs44 := blk_frozen BK343.out 2
        have hns44_0 := NB337_343.out
        have hms44_0 := NB343_337.out
        refine skip_ (w1 := ?_) (by rfl) rfl ?_ ?_
        rotate_left
        ·go_simp
         rfl
        refine hK.out _ _ ⟨(Z.f3 NB337_343.out (hHeld.1)), (Z.f3 NB337_343.out (hHeld.2.1)), (Z.f3 NB337_343.out (hHeld.2.2.1)), (Z.f3 (Z.fn hw340_0 GW343.out) (hHeld.2.2.2.1)), (Z.f3 (Z.fn hw341_0 GW343.out) (hHeld.2.2.2.2.1)), (Z.f3 (Z.fn hw342_0 GW343.out) (hHeld.2.2.2.2.2.1)), (Z.f3 (Z.fn hw342_1 GW343.out) (hHeld.2.2.2.2.2.2.1)), (Z.f3 (Z.fn hw342_2 GW343.out) (hHeld.2.2.2.2.2.2.2))⟩ (fun hHeld => ?_)
        clear hK K
        refine done_ (done_of HT_.out (by kernel_rfl)) ?_
        try go_wp2
        have n0_ : Aside0 ((((w41.setCell ⟨gb343, 0, none⟩ (.slice A342_0 ((rd_T86 (rd_L9 l0_2 a2) (rd l1 a2)).f0).length c342_0)).setCell ⟨gb343, 1, none⟩ (.int .i64 ((rd_T86 (rd_L9 l0_2 a2) (rd l1 a2)).f1))).setCell ⟨gb343, 2, none⟩ (.int .i64 ((rd_T86 (rd_L9 l0_2 a2) (rd l1 a2)).f2))).heap[gb337]? = some (.cells #[.int .i64 a0_0, .slice A0_1 l0_1.length c0_1, .slice (some ad338) l0_2.length c0_2] 35 (0, 0))) := ⟨by (with_reducible skip); refine blk_far ?_ NB337_343.out _; (with_reducible skip); refine blk_far ?_ NB337_343.out _; (with_reducible skip); refine blk_far ?_ NB337_343.out _; (with_reducible skip); exact BK337.out⟩
        have n1_ : Aside0 ((((w41.setCell ⟨gb343, 0, none⟩ (.slice A342_0 ((rd_T86 (rd_L9 l0_2 a2) (rd l1 a2)).f0).length c342_0)).setCell ⟨gb343, 1, none⟩ (.int .i64 ((rd_T86 (rd_L9 l0_2 a2) (rd l1 a2)).f1))).setCell ⟨gb343, 2, none⟩ (.int .i64 ((rd_T86 (rd_L9 l0_2 a2) (rd l1 a2)).f2))).heap[gb343]? = some (.cells #[.slice A342_0 ((rd_T86 (rd_L9 l0_2 a2) (rd l1 a2)).f0).length c342_0, .int .i64 ((rd_T86 (rd_L9 l0_2 a2) (rd l1 a2)).f1), .int .i64 ((rd_T86 (rd_L9 l0_2 a2) (rd l1 a2)).f2)] 86 (0, 0))) := ⟨by (with_reducible skip); refine blk_put (cs := #[.slice A342_0 ((rd_T86 (rd_L9 l0_2 a2) (rd l1 a2)).f0).length c342_0, .int .i64 ((rd_T86 (rd_L9 l0_2 a2) (rd l1 a2)).f1), .int .i64 0]) ?_ 2 _ rfl; (with_reducible skip); refine blk_put (cs := #[.slice A342_0 ((rd_T86 (rd_L9 l0_2 a2) (rd l1 a2)).f0).length c342_0, .int .i64 0, .int .i64 0]) ?_ 1 _ rfl; (with_reducible skip); refine blk_put (cs := #[.slice none 0 0, .int .i64 0, .int .i64 0]) ?_ 0 _ rfl; (with_reducible skip); exact BK343.out⟩
        have n2_ : Aside0 (Below w.heap.size w (((w41.setCell ⟨gb343, 0, none⟩ (.slice A342_0 ((rd_T86 (rd_L9 l0_2 a2) (rd l1 a2)).f0).length c342_0)).setCell ⟨gb343, 1, none⟩ (.int .i64 ((rd_T86 (rd_L9 l0_2 a2) (rd l1 a2)).f1))).setCell ⟨gb343, 2, none⟩ (.int .i64 ((rd_T86 (rd_L9 l0_2 a2) (rd l1 a2)).f2)))) := ⟨by repeat ((with_reducible first | exact HB.out | refine below_set ?_ GE343.out))⟩
        (try clear BK337)
        (try clear BK343)
        (try clear HB)
        generalize (((w41.setCell ⟨gb343, 0, none⟩ (.slice A342_0 ((rd_T86 (rd_L9 l0_2 a2) (rd l1 a2)).f0).length c342_0)).setCell ⟨gb343, 1, none⟩ (.int .i64 ((rd_T86 (rd_L9 l0_2 a2) (rd l1 a2)).f1))).setCell ⟨gb343, 2, none⟩ (.int .i64 ((rd_T86 (rd_L9 l0_2 a2) (rd l1 a2)).f2))) = w45 at n0_ n1_ n2_ ⊢
        have BK337 := n0_
        have BK343 := n1_
        have HB := n2_
        clear n0_ n1_ n2_
        replace BK337 := Aside0.mk (blk_drew BK337.out)
        replace BK343 := Aside0.mk (blk_drew BK343.out)
        replace HB := Aside0.mk (below_drew1 HB.out)
        have p345 : 0 ≤ (((rd_T86 (rd_L9 l0_2 a2) (rd l1 a2)).f1) : Int) := Z.od
        have q345 : ((rd_T86 (rd_L9 l0_2 a2) (rd l1 a2)).f1) < (l1.length : Int) := Z.od
        obtain ⟨ad345, e345, hx345_0⟩ := Kd.at_int HR1.out ((rd_T86 (rd_L9 l0_2 a2) (rd l1 a2)).f1) p345 q345
        have hw345_0 := hx345_0
        obtain rfl : ad339 = ad345 := (by injection e345)
        replace hx345_0 := Z.up HB.out hx345_0
        replace p345 := eq_true p345
        replace q345 := eq_true q345
        refine start_ (n := 22) (S := fun w' => w'.cell? ⟨gb337, 0, none⟩ = some (.int .i64 a0_0) ∧ w'.cell? ⟨gb337, 1, none⟩ = some (.slice A0_1 l0_1.length c0_1) ∧ w'.cell? ⟨gb337, 2, none⟩ = some (.slice (some ad338) l0_2.length c0_2) ∧ w'.cell? ⟨gb343, 0, none⟩ = some (.slice A342_0 ((rd_T86 (rd_L9 l0_2 a2) (rd l1 a2)).f0).length c342_0) ∧ w'.cell? ⟨gb343, 1, none⟩ = some (.int .i64 ((rd_T86 (rd_L9 l0_2 a2) (rd l1 a2)).f1)) ∧ w'.cell? ⟨gb343, 2, none⟩ = some (.int .i64 ((rd_T86 (rd_L9 l0_2 a2) (rd l1 a2)).f2)) ∧ w'.cell? (ad339.add (((rd_T86 (rd_L9 l0_2 a2) (rd l1 a2)).f1)).toNat) = some (.int .i64 (rd l1 ((rd_T86 (rd_L9 l0_2 a2) (rd l1 a2)).f1)))) (ds := []) #[false, false, false, false, false, false, false, false, false, false, false, false, false, false, false, false, false, false, false, false, false, false] (by kernel_rfl) rfl rfl ⟨(blk_cell BK337.out 0).trans rfl, (blk_cell BK337.out 1).trans rfl, (blk_cell BK337.out 2).trans rfl, (blk_cell BK343.out 0).trans rfl, (blk_cell BK343.out 1).trans rfl, (blk_cell BK343.out 2).trans rfl, (Z.up HB.out hw345_0 :)⟩ (fun hHeld => ?_); refine with_tabW impl_mayChange.tab4 impl_mayChange.bits4 (fun HT_ HW_ => ?_)
        generalize w45.drew = w46 at BK337 BK343 HB hx345_0 hHeld ⊢
        refine Z.pv 0 53 22 1 HT_.out ?_
        refine Z.pv 2 55 22 5 HT_.out ?_
        refine Z.pv 4 57 22 21 HT_.out ?_
        refine Z.t7 1 54 22 23 HT_.out HW_.out hHeld ?_
        refine Z.t7 3 56 22 31 HT_.out HW_.out hHeld ?_
        refine one_ (i := 5) (N := some 58) (Z.mb 22 63) rfl rfl (one_of HT_.out (by kernel_rfl)) (by decide) (fun K hK => ?_)
        refine goes_ Try.func127 (by kernel_rfl) rfl #[.agg #[.int .i64 a0_0, .slice A0_1 l0_1.length c0_1], .slice A342_0 ((rd_T86 (rd_L9 l0_2 a2) (rd l1 a2)).f0).length c342_0, .int .i64 a4] (by rfl) rfl rfl Z.ar ?_
        with_reducible refine (impl_consents.calls k a0_0 _ _ l0_1 _ _ ((rd_T86 (rd_L9 l0_2 a2) (rd l1 a2)).f0) a4 true _ ?q1 ?q2 ?q3 ?q4 A23.out).mono ?_
        (case q1 => exact Z.cc HR0_1 HB)
        (case q2 => exact HC0_1.out)
        (case q3 => exact Z.cc HR342_0 HB)
        (case q4 => exact HC342_0.out)
        rintro e w47 ⟨rfl, hb⟩
        refine ⟨_, rfl, ?_⟩
        replace BK337 := Z.bb BK337 hb
        replace BK343 := Z.bb BK343 hb
        replace HB := Aside0.mk (below_step (by repeat ((with_reducible exact HB.out))) hb)
        (try clear hb)
        refine hK.out _ _ ⟨(blk_cell BK337.out 0).trans rfl, (blk_cell BK337.out 1).trans rfl, (blk_cell BK337.out 2).trans rfl, (blk_cell BK343.out 0).trans rfl, (blk_cell BK343.out 1).trans rfl, (blk_cell BK343.out 2).trans rfl, (Z.up HB.out hw345_0 :)⟩ (fun hHeld => ?_)
        clear hK K
        refine Z.nm ?_
        refine Z.pv 6 59 22 127 HT_.out ?_
        refine Z.pv 7 60 22 255 HT_.out ?_
        refine Z.t7 8 61 22 511 HT_.out HW_.out hHeld ?_
        refine Z.pv 9 62 22 1023 HT_.out ?_
        refine Z.pv 10 63 22 2047 HT_.out ?_
        refine Z.pv 11 64 22 4095 HT_.out ?_
        refine Z.pv 12 65 22 8191 HT_.out ?_
        refine Z.pv 16 69 22 73727 HT_.out ?_
        refine Z.t7 13 66 22 81919 HT_.out HW_.out hHeld ?_
        refine Z.pv 14 67 22 98303 HT_.out ?_
        refine Z.t7 15 68 22 131071 HT_.out HW_.out hHeld ?_
        refine Z.t7 17 70 22 262143 HT_.out HW_.out hHeld ?_
        refine Z.pv 18 71 22 524287 HT_.out ?_
        refine Z.pv 19 72 22 1048575 HT_.out ?_
        refine Z.pv 20 73 22 2097151 HT_.out ?_
        refine Z.pv 21 10 22 4194303 HT_.out ?_
        refine done_ (done_of HT_.out (by kernel_rfl)) ?_
        try go_wp2
        go_ret
        exact ⟨by rfl, by repeat ((with_reducible exact HB.out))⟩
      ·replace c24 := Bool.eq_false_iff.mpr c24
       subst c24
       rw [if_neg (show ¬ (false = true) by decide)] at H
       obtain rfl := Option.some.inj H
       go_enter Try.func105, Try.ntmps105
       try go_wp2_with (((with_reducible refine gate_dst (N := 5) rfl ?_); (try (refine gate_guard (by rfl) ?_; dsimp only)); refine Z.bx #[.int .i64 a0_0, .slice A0_1 l0_1.length c0_1, .slice A0_2 l0_2.length c0_2] 35 HB ?_; clear HB; intro gb337 w48 BK337 GE337 HB hg hb; have GW337 := GE337; clear hb hg; have hcz49 := Z.c3 BK337.out; have p338 : 0 ≤ (a2 : Int) := Z.od; have q338 : a2 < (l0_2.length : Int) := Z.od; obtain ⟨ad338, A338_0, c338_0, e338, hx338_0, hl338_0, hi338_0⟩ := at_L9 HR0_2.out a2 p338 q338; cases e338; replace hx338_0 := Z.up HB.out hx338_0; have HR338_0 := Aside0.mk hi338_0; have HC338_0 := Aside0.mk hl338_0; clear hi338_0 hl338_0; replace p338 := eq_true p338; replace q338 := eq_true q338; have p339 : 0 ≤ (a2 : Int) := Z.od; have q339 : a2 < (l1.length : Int) := Z.od; obtain ⟨ad339, e339, hx339_0⟩ := Kd.at_int HR1.out a2 p339 q339; cases e339; replace hx339_0 := Z.up HB.out hx339_0; replace p339 := eq_true p339; replace q339 := eq_true q339))
       replace BK337 := Aside0.mk (blk_drew BK337.out)
       replace HB := Aside0.mk (below_drew1 HB.out)
       have p340 : 0 ≤ (a2 : Int) := Z.od
       have q340 : a2 < (l0_2.length : Int) := Z.od
       obtain ⟨ad340, A340_0, c340_0, e340, hx340_0, hl340_0, hi340_0⟩ := at_L9 HR0_2.out a2 p340 q340
       have hw340_0 := hx340_0
       obtain rfl : ad338 = ad340 := (by injection e340)
       replace hx340_0 := Z.up HB.out hx340_0
       have HR340_0 := Aside0.mk hi340_0
       have HC340_0 := Aside0.mk hl340_0
       clear hi340_0 hl340_0
       replace p340 := eq_true p340
       replace q340 := eq_true q340
       have p341 : 0 ≤ (a2 : Int) := Z.od
       have q341 : a2 < (l1.length : Int) := Z.od
       obtain ⟨ad341, e341, hx341_0⟩ := Kd.at_int HR1.out a2 p341 q341
       have hw341_0 := hx341_0
       obtain rfl : ad339 = ad341 := (by injection e341)
       replace hx341_0 := Z.up HB.out hx341_0
       replace p341 := eq_true p341
       replace q341 := eq_true q341
       have p342 : 0 ≤ ((rd l1 a2) : Int) := Z.od
       have q342 : (rd l1 a2) < ((rd_L9 l0_2 a2).length : Int) := Z.od
       obtain ⟨ad342, A342_0, c342_0, rfl, hx342_0, hx342_1, hx342_2, hl342_0, hi342_0⟩ := at_T86 HR340_0.out (rd l1 a2) p342 q342
       have hw342_2 := hx342_2
       have hw342_1 := hx342_1
       have hw342_0 := hx342_0
       replace hx342_0 := Z.up HB.out hx342_0
       replace hx342_1 := Z.up HB.out hx342_1
       replace hx342_2 := Z.up HB.out hx342_2
       have HR342_0 := Aside0.mk hi342_0
       have HC342_0 := Aside0.mk hl342_0
       clear hi342_0 hl342_0
       replace p342 := eq_true p342
       replace q342 := eq_true q342
       refine start_ (n := 13) (S := fun w' => w'.cell? ⟨gb337, 0, none⟩ = some (.int .i64 a0_0) ∧ w'.cell? ⟨gb337, 1, none⟩ = some (.slice A0_1 l0_1.length c0_1) ∧ w'.cell? ⟨gb337, 2, none⟩ = some (.slice (some ad338) l0_2.length c0_2) ∧ w'.cell? (ad338.add (a2).toNat) = some (.slice (some ad342) (rd_L9 l0_2 a2).length c340_0) ∧ w'.cell? (ad339.add (a2).toNat) = some (.int .i64 (rd l1 a2)) ∧ w'.cell? (ad342.add (((rd l1 a2)).toNat * 3)) = some (.slice A342_0 ((rd_T86 (rd_L9 l0_2 a2) (rd l1 a2)).f0).length c342_0) ∧ w'.cell? ⟨(ad342.add (((rd l1 a2)).toNat * 3)).block, (ad342.add (((rd l1 a2)).toNat * 3)).off + 1, none⟩ = some (.int .i64 ((rd_T86 (rd_L9 l0_2 a2) (rd l1 a2)).f1)) ∧ w'.cell? ⟨(ad342.add (((rd l1 a2)).toNat * 3)).block, (ad342.add (((rd l1 a2)).toNat * 3)).off + 2, none⟩ = some (.int .i64 ((rd_T86 (rd_L9 l0_2 a2) (rd l1 a2)).f2))) (ds := []) #[false, false, false, false, false, false, false, false, false, false, false, false, false] (by kernel_rfl) rfl rfl ⟨(blk_cell BK337.out 0).trans rfl, (blk_cell BK337.out 1).trans rfl, (blk_cell BK337.out 2).trans rfl, (Z.up HB.out hw340_0 :), (Z.up HB.out hw341_0 :), (Z.up HB.out hw342_0 :), (Z.up HB.out hw342_1 :), (Z.up HB.out hw342_2 :)⟩ (fun hHeld => ?_); refine with_tabW impl_mayChange.tab3 impl_mayChange.bits3 (fun HT_ HW_ => ?_)
       generalize w48.drew = w50 at BK337 HB HR340_0 HR342_0 hx340_0 hx341_0 hx342_0 hx342_1 hx342_2 hHeld ⊢
       refine Z.pv 0 42 13 1 HT_.out ?_
       refine Z.pv 2 44 13 5 HT_.out ?_
       refine Z.pv 5 47 13 37 HT_.out ?_
       refine Z.pv 6 48 13 101 HT_.out ?_
       refine Z.pv 7 49 13 229 HT_.out ?_
       refine Z.t8 1 43 13 231 HT_.out HW_.out hHeld ?_
       refine Z.pv 3 45 13 239 HT_.out ?_
       refine Z.t8 4 46 13 255 HT_.out HW_.out hHeld ?_
       refine Z.t8 8 50 13 511 HT_.out HW_.out hHeld ?_
       refine Z.pv 9 51 13 1023 HT_.out ?_
       refine Z.t8 10 52 13 2047 HT_.out HW_.out hHeld ?_
       refine one_ (i := 11) (N := some 11) (Z.mb 13 4095) rfl rfl (one_of HT_.out (by kernel_rfl)) (by decide) (fun K hK => ?_)
       refine box_step ?hg (N := 11) ?hd (cs := #[.slice none 0 0, .int .i64 0, .int .i64 0]) (t := 86) ?hr ?_; (case hd | hg => rfl); (case hr => (go_simp; done))
       intro gb343 hg w51 hbox hb
       have BK343 := Aside0.mk (hbox)
       have GW343 := Z.gh hg (Z.bs HB.out GE337.out)
       have GE343 := Z.gh hg (Z.bs HB.out GE337.out)
       replace HB := Z.st (Z.bs HB.out GE337.out) hb
       have NB337_343 := Z.nl hg BK337
       have NB343_337 := Z.ng hg BK337
       replace BK337 := Z.bb BK337 hb
       clear hb hbox hg
       refine hK.out _ _ ⟨(blk_cell BK337.out 0).trans rfl, (blk_cell BK337.out 1).trans rfl, (blk_cell BK337.out 2).trans rfl, (Z.up HB.out hw340_0 :), (Z.up HB.out hw341_0 :), (Z.up HB.out hw342_0 :), (Z.up HB.out hw342_1 :), (Z.up HB.out hw342_2 :)⟩ (fun hHeld => ?_)
       clear hK K
       refine Z.nm ?_
       refine one_ (i := 12) (N := none) #[true, true, true, true, true, true, true, true, true, true, true, true, true] rfl rfl (one_of HT_.out (by kernel_rfl)) (by decide) (fun K hK => ?_)
       have hs52 : w51.cell? ⟨gb343, 0, none⟩ = some (.slice none 0 0) := (blk_cell BK343.out 0).trans rfl
       have hfs52 := blk_frozen BK343.out 0
       have hns52_0 := NB337_343.out
       have hms52_0 := NB343_337.out
       have hs53 : w51.cell? ⟨gb343, 1, none⟩ = some (.int .i64 0) := (blk_cell BK343.out 1).trans rfl
       have hfs53 := blk_frozen BK343.out 1
       have hns53_0 := NB337_343.out
       have hms53_0 := NB343_337.out
       have hs54 : w51.cell? ⟨gb343, 2, none⟩ = some (.int .i64 0) := (blk_cell BK343.out 2).trans rfl
       have hfs54 := blk_frozen BK343.out 2
       have hns54_0 := NB337_343.out
       have hms54_0 := NB343_337.out
       refine skip_ (w1 := ?_) (by rfl) rfl ?_ ?_
       rotate_left
       ·go_simp
        rfl
       refine hK.out _ _ ⟨(Z.f3 NB337_343.out (hHeld.1)), (Z.f3 NB337_343.out (hHeld.2.1)), (Z.f3 NB337_343.out (hHeld.2.2.1)), (Z.f3 (Z.fn hw340_0 GW343.out) (hHeld.2.2.2.1)), (Z.f3 (Z.fn hw341_0 GW343.out) (hHeld.2.2.2.2.1)), (Z.f3 (Z.fn hw342_0 GW343.out) (hHeld.2.2.2.2.2.1)), (Z.f3 (Z.fn hw342_1 GW343.out) (hHeld.2.2.2.2.2.2.1)), (Z.f3 (Z.fn hw342_2 GW343.out) (hHeld.2.2.2.2.2.2.2))⟩ (fun hHeld => ?_)
       clear hK K
       refine done_ (done_of HT_.out (by kernel_rfl)) ?_
       try go_wp2
       have n0_ : Aside0 ((((w51.setCell ⟨gb343, 0, none⟩ (.slice A342_0 ((rd_T86 (rd_L9 l0_2 a2) (rd l1 a2)).f0).length c342_0)).setCell ⟨gb343, 1, none⟩ (.int .i64 ((rd_T86 (rd_L9 l0_2 a2) (rd l1 a2)).f1))).setCell ⟨gb343, 2, none⟩ (.int .i64 ((rd_T86 (rd_L9 l0_2 a2) (rd l1 a2)).f2))).heap[gb337]? = some (.cells #[.int .i64 a0_0, .slice A0_1 l0_1.length c0_1, .slice (some ad338) l0_2.length c0_2] 35 (0, 0))) := ⟨by (with_reducible skip); refine blk_far ?_ NB337_343.out _; (with_reducible skip); refine blk_far ?_ NB337_343.out _; (with_reducible skip); refine blk_far ?_ NB337_343.out _; (with_reducible skip); exact BK337.out⟩
       have n1_ : Aside0 ((((w51.setCell ⟨gb343, 0, none⟩ (.slice A342_0 ((rd_T86 (rd_L9 l0_2 a2) (rd l1 a2)).f0).length c342_0)).setCell ⟨gb343, 1, none⟩ (.int .i64 ((rd_T86 (rd_L9 l0_2 a2) (rd l1 a2)).f1))).setCell ⟨gb343, 2, none⟩ (.int .i64 ((rd_T86 (rd_L9 l0_2 a2) (rd l1 a2)).f2))).heap[gb343]? = some (.cells #[.slice A342_0 ((rd_T86 (rd_L9 l0_2 a2) (rd l1 a2)).f0).length c342_0, .int .i64 ((rd_T86 (rd_L9 l0_2 a2) (rd l1 a2)).f1), .int .i64 ((rd_T86 (rd_L9 l0_2 a2) (rd l1 a2)).f2)] 86 (0, 0))) := ⟨by (with_reducible skip); refine blk_put (cs := #[.slice A342_0 ((rd_T86 (rd_L9 l0_2 a2) (rd l1 a2)).f0).length c342_0, .int .i64 ((rd_T86 (rd_L9 l0_2 a2) (rd l1 a2)).f1), .int .i64 0]) ?_ 2 _ rfl; (with_reducible skip); refine blk_put (cs := #[.slice A342_0 ((rd_T86 (rd_L9 l0_2 a2) (rd l1 a2)).f0).length c342_0, .int .i64 0, .int .i64 0]) ?_ 1 _ rfl; (with_reducible skip); refine blk_put (cs := #[.slice none 0 0, .int .i64 0, .int .i64 0]) ?_ 0 _ rfl; (with_reducible skip); exact BK343.out⟩
       have n2_ : Aside0 (Below w.heap.size w (((w51.setCell ⟨gb343, 0, none⟩ (.slice A342_0 ((rd_T86 (rd_L9 l0_2 a2) (rd l1 a2)).f0).length c342_0)).setCell ⟨gb343, 1, none⟩ (.int .i64 ((rd_T86 (rd_L9 l0_2 a2) (rd l1 a2)).f1))).setCell ⟨gb343, 2, none⟩ (.int .i64 ((rd_T86 (rd_L9 l0_2 a2) (rd l1 a2)).f2)))) := ⟨by repeat ((with_reducible first | exact HB.out | refine below_set ?_ GE343.out))⟩
       (try clear BK337)
       (try clear BK343)
       (try clear HB)
       generalize (((w51.setCell ⟨gb343, 0, none⟩ (.slice A342_0 ((rd_T86 (rd_L9 l0_2 a2) (rd l1 a2)).f0).length c342_0)).setCell ⟨gb343, 1, none⟩ (.int .i64 ((rd_T86 (rd_L9 l0_2 a2) (rd l1 a2)).f1))).setCell ⟨gb343, 2, none⟩ (.int .i64 ((rd_T86 (rd_L9 l0_2 a2) (rd l1 a2)).f2))) = w55 at n0_ n1_ n2_ ⊢
       have BK337 := n0_
       have BK343 := n1_
       have HB := n2_
       clear n0_ n1_ n2_
       replace BK337 := Aside0.mk (blk_drew BK337.out)
       replace BK343 := Aside0.mk (blk_drew BK343.out)
       replace HB := Aside0.mk (below_drew1 HB.out)
       refine start_ (n := 22) (S := fun w' => w'.cell? ⟨gb337, 0, none⟩ = some (.int .i64 a0_0) ∧ w'.cell? ⟨gb337, 1, none⟩ = some (.slice A0_1 l0_1.length c0_1) ∧ w'.cell? ⟨gb337, 2, none⟩ = some (.slice (some ad338) l0_2.length c0_2) ∧ w'.cell? ⟨gb343, 0, none⟩ = some (.slice A342_0 ((rd_T86 (rd_L9 l0_2 a2) (rd l1 a2)).f0).length c342_0) ∧ w'.cell? ⟨gb343, 1, none⟩ = some (.int .i64 ((rd_T86 (rd_L9 l0_2 a2) (rd l1 a2)).f1)) ∧ w'.cell? ⟨gb343, 2, none⟩ = some (.int .i64 ((rd_T86 (rd_L9 l0_2 a2) (rd l1 a2)).f2))) (ds := []) #[false, false, false, false, false, false, false, false, false, false, false, false, false, false, false, false, false, false, false, false, false, false] (by kernel_rfl) rfl rfl ⟨(blk_cell BK337.out 0).trans rfl, (blk_cell BK337.out 1).trans rfl, (blk_cell BK337.out 2).trans rfl, (blk_cell BK343.out 0).trans rfl, (blk_cell BK343.out 1).trans rfl, (blk_cell BK343.out 2).trans rfl⟩ (fun hHeld => ?_); refine with_tabW impl_mayChange.tab4 impl_mayChange.bits4 (fun HT_ HW_ => ?_)
       generalize w55.drew = w56 at BK337 BK343 HB hHeld ⊢
       refine Z.pv 0 53 22 1 HT_.out ?_
       refine Z.pv 2 55 22 5 HT_.out ?_
       refine Z.pv 4 57 22 21 HT_.out ?_
       refine Z.t6 1 54 22 23 HT_.out HW_.out hHeld ?_
       refine Z.t6 3 56 22 31 HT_.out HW_.out hHeld ?_
       refine one_ (i := 5) (N := some 58) (Z.mb 22 63) rfl rfl (one_of HT_.out (by kernel_rfl)) (by decide) (fun K hK => ?_)
       refine goes_ Try.func127 (by kernel_rfl) rfl #[.agg #[.int .i64 a0_0, .slice A0_1 l0_1.length c0_1], .slice A342_0 ((rd_T86 (rd_L9 l0_2 a2) (rd l1 a2)).f0).length c342_0, .int .i64 a4] (by rfl) rfl rfl Z.ar ?_
       with_reducible refine (impl_consents.calls k a0_0 _ _ l0_1 _ _ ((rd_T86 (rd_L9 l0_2 a2) (rd l1 a2)).f0) a4 false _ ?q1 ?q2 ?q3 ?q4 A23.out).mono ?_
       (case q1 => exact Z.cc HR0_1 HB)
       (case q2 => exact HC0_1.out)
       (case q3 => exact Z.cc HR342_0 HB)
       (case q4 => exact HC342_0.out)
       rintro e w57 ⟨rfl, hb⟩
       refine ⟨_, rfl, ?_⟩
       replace BK337 := Z.bb BK337 hb
       replace BK343 := Z.bb BK343 hb
       replace HB := Aside0.mk (below_step (by repeat ((with_reducible exact HB.out))) hb)
       (try clear hb)
       refine hK.out _ _ ⟨(blk_cell BK337.out 0).trans rfl, (blk_cell BK337.out 1).trans rfl, (blk_cell BK337.out 2).trans rfl, (blk_cell BK343.out 0).trans rfl, (blk_cell BK343.out 1).trans rfl, (blk_cell BK343.out 2).trans rfl⟩ (fun hHeld => ?_)
       clear hK K
       refine Z.nm ?_
       refine Z.pv 6 59 22 127 HT_.out ?_
       refine Z.pu 7 60 22 255 HT_.out ?_
       refine Z.pu 8 61 22 511 HT_.out ?_
       refine Z.pu 9 62 22 1023 HT_.out ?_
       refine Z.pu 10 63 22 2047 HT_.out ?_
       refine Z.pu 11 64 22 4095 HT_.out ?_
       refine Z.pu 12 65 22 8191 HT_.out ?_
       refine Z.pu 13 66 22 16383 HT_.out ?_
       refine Z.pu 14 67 22 32767 HT_.out ?_
       refine Z.pu 15 68 22 65535 HT_.out ?_
       refine Z.pu 16 69 22 131071 HT_.out ?_
       refine Z.pu 17 70 22 262143 HT_.out ?_
       refine Z.pu 18 71 22 524287 HT_.out ?_
       refine Z.pu 19 72 22 1048575 HT_.out ?_
       refine Z.pv 20 73 22 2097151 HT_.out ?_
       refine Z.pv 21 10 22 4194303 HT_.out ?_
       refine done_ (done_of HT_.out (by kernel_rfl)) ?_
       try go_wp2
       go_ret
       exact ⟨by rfl, by repeat ((with_reducible exact HB.out))⟩
end Go.Proofs.Ytcafckapdgaogaa.PAll
