/- Walks of functions that laws of this seat reach, in the form of the print. -/
import Derived.Test.YtkogboechfieeaaCAll16
-- PRINTED
namespace Go.Proofs.Ytkogboechfieeaa.PAll
open Go.RowKit Go.Proofs.YtkogboechfieeaaW.PrintWords Go.Proofs.YtkogboechfieeaaW.PrintLast Go.Proofs.YtkogboechfieeaaW.PrintMore
attribute [local go_sem] max2_int min2_int max_two min_two max_three min_three max_four min_four
set_option linter.unusedVariables false
set_option linter.unusedSimpArgs false

/-! ### impl_mayChange: function 74 -/
def impl_mayChange.f (k : Nat) (a0_0 : Int) (l0_1 : List Int) (l0_2 : List (List (S37))) (l1 : List Int) (a2 : Int) (a3 : Int) (a4 : Int) : Option (Bool) := if a2 < 0 then (some false) else (if a2 ≥ (l1.length : Int) then (some false) else (if a3 < 0 then (some false) else (if 0 ≤ a2 then (if a2 < (l0_2.length : Int) then (if a3 ≥ ((rd_L5 l0_2 a2).length : Int) then (some false) else (if a2 < (l1.length : Int) then (if a3 = (rd l1 a2) then (some false) else (if 0 ≤ (rd l1 a2) then (if (rd l1 a2) < ((rd_L5 l0_2 a2).length : Int) then ((impl_consents.f k a0_0 l0_1 ((rd_T37 (rd_L5 l0_2 a2) (rd l1 a2)).f0) a4).bind fun t83 => (if t83 = true then (if ((rd_T37 (rd_L5 l0_2 a2) (rd l1 a2)).f1) = (-1) then (some true) else (if 0 ≤ ((rd_T37 (rd_L5 l0_2 a2) (rd l1 a2)).f1) then (if ((rd_T37 (rd_L5 l0_2 a2) (rd l1 a2)).f1) < (l1.length : Int) then (some ((rd l1 ((rd_T37 (rd_L5 l0_2 a2) (rd l1 a2)).f1)) == ((rd_T37 (rd_L5 l0_2 a2) (rd l1 a2)).f2))) else (none)) else (none))) else (some false))) else (none)) else (none))) else (none))) else (none)) else (none))))
theorem impl_mayChange.mono : ∀ a0 a1 a2 a3 a4 a5 a6 k, LeO (impl_mayChange.f k a0 a1 a2 a3 a4 a5 a6) (impl_mayChange.f (k + 1) a0 a1 a2 a3 a4 a5 a6) := by
 intro a0 a1 a2 a3 a4 a5 a6 k
 unfold impl_mayChange.f
 repeat' first
   | (with_reducible exact LeO.refl _)
   | exact impl_consents.mono _ _ _ _ _
   | exact LeO.none _
   | refine LeO.ite ?_ ?_
   | refine LeO.bind ?_ (fun _ => ?_)
def impl_mayChange.T3 : Bool × List (List Nat × List Nat) := (true, [([], []), ([0], [0]), ([], []), ([1, 2], [1, 2]), ([3], [3]), ([], []), ([], []), ([5, 6], [5, 6]), ([7], [7]), ([4, 8], [4, 8]), ([9], [9]), ([], []), ([11, 10, 0, 1, 2, 3, 4, 5, 6, 7, 8, 9, 10, 11], [10, 11])])
def impl_mayChange.B3 : List Nat := [0, 1, 0, 7, 15, 0, 0, 96, 224, 511, 1023, 0, 4095]
theorem impl_mayChange.tab3 : rtab .any (opsOf Try.f74 3) = impl_mayChange.T3 := by kernel_rfl
theorem impl_mayChange.bits3 : waitsOk impl_mayChange.T3.2 impl_mayChange.B3 = true := by kernel_rfl
def impl_mayChange.T4 : Bool × List (List Nat × List Nat) := (true, [([], []), ([0], [0]), ([], []), ([2], [2]), ([], []), ([1, 3, 4], [1, 3, 4]), ([5, 5], [5]), ([6], [6]), ([7, 6], [6, 7]), ([8, 6], [6, 8]), ([9, 6, 6], [6, 9]), ([10], [10]), ([10], [10]), ([12, 10], [10, 12]), ([11, 13, 10], [10, 11, 13]), ([14, 10], [10, 14]), ([10], [10]), ([16, 10], [10, 16]), ([15, 17, 10], [10, 15, 17]), ([10, 18, 6], [6, 10, 18]), ([6, 19], [6, 19]), ([20, 10, 0, 1, 2, 3, 4, 5, 6, 7, 8, 9, 10, 11, 12, 13, 14, 15, 16, 17, 18, 19, 20], [20])])
def impl_mayChange.B4 : List Nat := [0, 1, 0, 4, 0, 31, 63, 127, 255, 511, 1023, 2047, 2047, 6143, 16383, 32767, 2047, 67583, 262143, 524287, 1048575, 2097151]
theorem impl_mayChange.tab4 : rtab .any (opsOf Try.f74 4) = impl_mayChange.T4 := by kernel_rfl
theorem impl_mayChange.bits4 : waitsOk impl_mayChange.T4.2 impl_mayChange.B4 = true := by kernel_rfl
set_option maxHeartbeats 8000000 in
set_option maxRecDepth 100000 in
theorem impl_mayChange.calls (k : Nat) (a0_0 : Int) (A0_1 : Option Addr) (c0_1 : Nat) (l0_1 : List Int) (A0_2 : Option Addr) (c0_2 : Nat) (l0_2 : List (List (S37))) (A1 : Option Addr) (c1 : Nat) (l1 : List Int) (a2 : Int) (a3 : Int) (a4 : Int) (r : Bool) (w : World) (hr0_1 : Kd.C (Kd.int .i64) w A0_1 l0_1.length l0_1) (hc0_1 : l0_1.length ≤ c0_1) (hr0_2 : Kd.C (Kd.slice 37 k37) w A0_2 l0_2.length l0_2) (hc0_2 : l0_2.length ≤ c0_2) (hr1 : Kd.C (Kd.int .i64) w A1 l1.length l1) (hc1 : l1.length ≤ c1) (h : impl_mayChange.f k a0_0 l0_1 l0_2 l1 a2 a3 a4 = some r) :
  Calls Try.prog 74 #[.agg #[.int .i64 a0_0, .slice A0_1 l0_1.length c0_1, .slice A0_2 l0_2.length c0_2], .slice A1 l1.length c1, .int .i64 a2, .int .i64 a3, .int .i64 a4] w fun e w' => e = .returned (.bool r) ∧ Below w.heap.size w w' := by
 have hu46 := Try.underlying28
 have hu91 := Try.underlying37
 have hu25 := Try.underlying25
 have HR0_1 := Z.k hr0_1
 have HC0_1 := Z.k hc0_1
 clear hr0_1 hc0_1
 have HR0_2 := Z.k hr0_2
 have HC0_2 := Z.k hc0_2
 clear hr0_2 hc0_2
 have HR1 := Z.k hr1
 have HC1 := Z.k hc1
 clear hr1 hc1
 have HB := Z.k (Below.refl w.heap.size w)
 have H := h
 clear h
 unfold impl_mayChange.f at H
 revert H; refine Z.fc ?_ ?_ <;> intro c6b0 H
 ·obtain rfl := Option.some.inj H
  go_enter Try.func74, Try.ntmps74
  go_wp2_with (((with_reducible refine gate_dst (N := 5) rfl ?_); (try (refine gate_guard (by rfl) ?_; dsimp only)); refine Z.bx #[.int .i64 a0_0, .slice A0_1 l0_1.length c0_1, .slice A0_2 l0_2.length c0_2] 28 HB ?_; clear HB; intro gb76 w7 BK76 GE76 HB hg hb; have GW76 := GE76; clear hb hg))
  go_ret
  exact ⟨by rfl, Z.bs HB.out GE76.out⟩
 revert H; refine Z.fc ?_ ?_ <;> intro c8b0 H
 ·obtain rfl := Option.some.inj H
  go_enter Try.func74, Try.ntmps74
  go_wp2_with (((with_reducible refine gate_dst (N := 5) rfl ?_); (try (refine gate_guard (by rfl) ?_; dsimp only)); refine Z.bx #[.int .i64 a0_0, .slice A0_1 l0_1.length c0_1, .slice A0_2 l0_2.length c0_2] 28 HB ?_; clear HB; intro gb76 w9 BK76 GE76 HB hg hb; have GW76 := GE76; clear hb hg))
  go_ret
  exact ⟨by rfl, Z.bs HB.out GE76.out⟩
 revert H; refine Z.fc ?_ ?_ <;> intro c10b0 H
 ·obtain rfl := Option.some.inj H
  go_enter Try.func74, Try.ntmps74
  go_wp2_with (((with_reducible refine gate_dst (N := 5) rfl ?_); (try (refine gate_guard (by rfl) ?_; dsimp only)); refine Z.bx #[.int .i64 a0_0, .slice A0_1 l0_1.length c0_1, .slice A0_2 l0_2.length c0_2] 28 HB ?_; clear HB; intro gb76 w11 BK76 GE76 HB hg hb; have GW76 := GE76; clear hb hg))
  go_ret
  exact ⟨by rfl, Z.bs HB.out GE76.out⟩
 obtain ⟨c12b0, H⟩ := Z.fd H
 obtain ⟨c13b0, H⟩ := Z.fd H
 revert H; refine Z.fc ?_ ?_ <;> intro c14b0 H
 ·obtain rfl := Option.some.inj H
  go_enter Try.func74, Try.ntmps74
  go_wp2_with (((with_reducible refine gate_dst (N := 5) rfl ?_); (try (refine gate_guard (by rfl) ?_; dsimp only)); refine Z.bx #[.int .i64 a0_0, .slice A0_1 l0_1.length c0_1, .slice A0_2 l0_2.length c0_2] 28 HB ?_; clear HB; intro gb76 w15 BK76 GE76 HB hg hb; have GW76 := GE76; clear hb hg; have hcz16 := Z.c3 BK76.out; have p78 : 0 ≤ (a2 : Int) := Z.od; have q78 : a2 < (l0_2.length : Int) := Z.od; obtain ⟨ad78, A78_0, c78_0, e78, hx78_0, hl78_0, hi78_0⟩ := at_L5 HR0_2.out a2 p78 q78; cases e78; replace hx78_0 := Z.up HB.out hx78_0; have HR78_0 := Z.k hi78_0; have HC78_0 := Z.k hl78_0; clear hi78_0 hl78_0; replace p78 := eq_true p78; replace q78 := eq_true q78))
  go_ret
  exact ⟨by rfl, Z.bs HB.out GE76.out⟩
 obtain ⟨c17b0, H⟩ := Z.fd H
 by_cases c18 : a3 = (rd l1 a2)
 ·rw [if_pos c18] at H
  have c18b0 : (a3 == (rd l1 a2)) = true := beq_iff_eq.mpr c18
  have c18b1 : (a3 != (rd l1 a2)) = false := bne_eq_false_iff_eq.mpr c18
  clear c18
  obtain rfl := Option.some.inj H
  go_enter Try.func74, Try.ntmps74
  go_wp2_with (((with_reducible refine gate_dst (N := 5) rfl ?_); (try (refine gate_guard (by rfl) ?_; dsimp only)); refine Z.bx #[.int .i64 a0_0, .slice A0_1 l0_1.length c0_1, .slice A0_2 l0_2.length c0_2] 28 HB ?_; clear HB; intro gb76 w19 BK76 GE76 HB hg hb; have GW76 := GE76; clear hb hg; have hcz20 := Z.c3 BK76.out; have p78 : 0 ≤ (a2 : Int) := Z.od; have q78 : a2 < (l0_2.length : Int) := Z.od; obtain ⟨ad78, A78_0, c78_0, e78, hx78_0, hl78_0, hi78_0⟩ := at_L5 HR0_2.out a2 p78 q78; cases e78; replace hx78_0 := Z.up HB.out hx78_0; have HR78_0 := Z.k hi78_0; have HC78_0 := Z.k hl78_0; clear hi78_0 hl78_0; replace p78 := eq_true p78; replace q78 := eq_true q78; have p80 : 0 ≤ (a2 : Int) := Z.od; have q80 : a2 < (l1.length : Int) := Z.od; obtain ⟨ad80, e80, hx80_0⟩ := Kd.at_int HR1.out a2 p80 q80; cases e80; replace hx80_0 := Z.up HB.out hx80_0; replace p80 := eq_true p80; replace q80 := eq_true q80))
  go_ret
  exact ⟨by rfl, Z.bs HB.out GE76.out⟩
 rw [if_neg c18] at H
 have c18b0 : (a3 == (rd l1 a2)) = false := beq_eq_false_iff_ne.mpr c18
 have c18b1 : (a3 != (rd l1 a2)) = true := bne_iff_ne.mpr c18
 obtain ⟨c21b0, H⟩ := Z.fd H
 obtain ⟨c22b0, H⟩ := Z.fd H
 revert H; refine Z.bd ?_; rintro t83 A23 H
 by_cases c24 : t83 = true
 rotate_left
 ·replace c24 := Bool.eq_false_iff.mpr c24
  subst c24
  rw [if_neg (show ¬ (false = true) by decide)] at H
  obtain rfl := Option.some.inj H
  go_enter Try.func74, Try.ntmps74
  try go_wp2_with (((with_reducible refine gate_dst (N := 5) rfl ?_); (try (refine gate_guard (by rfl) ?_; dsimp only)); refine Z.bx #[.int .i64 a0_0, .slice A0_1 l0_1.length c0_1, .slice A0_2 l0_2.length c0_2] 28 HB ?_; clear HB; intro gb76 w48 BK76 GE76 HB hg hb; have GW76 := GE76; clear hb hg; have hcz49 := Z.c3 BK76.out; have p78 : 0 ≤ (a2 : Int) := Z.od; have q78 : a2 < (l0_2.length : Int) := Z.od; obtain ⟨ad78, A78_0, c78_0, e78, hx78_0, hl78_0, hi78_0⟩ := at_L5 HR0_2.out a2 p78 q78; cases e78; replace hx78_0 := Z.up HB.out hx78_0; have HR78_0 := Z.k hi78_0; have HC78_0 := Z.k hl78_0; clear hi78_0 hl78_0; replace p78 := eq_true p78; replace q78 := eq_true q78; have p80 : 0 ≤ (a2 : Int) := Z.od; have q80 : a2 < (l1.length : Int) := Z.od; obtain ⟨ad80, e80, hx80_0⟩ := Kd.at_int HR1.out a2 p80 q80; cases e80; replace hx80_0 := Z.up HB.out hx80_0; replace p80 := eq_true p80; replace q80 := eq_true q80))
  replace BK76 := Z.k (blk_drew BK76.out)
  replace HB := Z.k (below_drew1 HB.out)
  have p79 : (0 ≤ (a2 : Int)) = True := Z.oe
  have q79 : (a2 < (l0_2.length : Int)) = True := Z.oe
  obtain ⟨ad79, A79_0, c79_0, e79, hx79_0, hl79_0, hi79_0⟩ := at_L5 HR0_2.out a2 Z.od Z.od
  have hw79_0 := hx79_0
  obtain rfl : ad78 = ad79 := (by injection e79)
  replace hx79_0 := Z.up HB.out hx79_0
  have HR79_0 := Z.k hi79_0
  have HC79_0 := Z.k hl79_0
  clear hi79_0 hl79_0
  have p81 : (0 ≤ (a2 : Int)) = True := Z.oe
  have q81 : (a2 < (l1.length : Int)) = True := Z.oe
  obtain ⟨ad81, e81, hx81_0⟩ := Kd.at_int HR1.out a2 Z.od Z.od
  have hw81_0 := hx81_0
  obtain rfl : ad80 = ad81 := (by injection e81)
  replace hx81_0 := Z.up HB.out hx81_0
  have p75 : (0 ≤ ((rd l1 a2) : Int)) = True := Z.oe
  have q75 : ((rd l1 a2) < ((rd_L5 l0_2 a2).length : Int)) = True := Z.oe
  obtain ⟨ad75, A75_0, c75_0, rfl, hx75_0, hx75_1, hx75_2, hl75_0, hi75_0⟩ := at_T37 HR79_0.out (rd l1 a2) Z.od Z.od
  have hw75_2 := hx75_2
  have hw75_1 := hx75_1
  have hw75_0 := hx75_0
  replace hx75_0 := Z.up HB.out hx75_0
  replace hx75_1 := Z.up HB.out hx75_1
  replace hx75_2 := Z.up HB.out hx75_2
  have HR75_0 := Z.k hi75_0
  have HC75_0 := Z.k hl75_0
  clear hi75_0 hl75_0
  refine start_ (n := 13) (S := fun w' => w'.cell? ⟨gb76, 0, none⟩ = some (.int .i64 a0_0) ∧ w'.cell? ⟨gb76, 1, none⟩ = some (.slice A0_1 l0_1.length c0_1) ∧ w'.cell? ⟨gb76, 2, none⟩ = some (.slice (some ad78) l0_2.length c0_2) ∧ w'.cell? (ad78.add (a2).toNat) = some (.slice (some ad75) (rd_L5 l0_2 a2).length c79_0) ∧ w'.cell? (ad80.add (a2).toNat) = some (.int .i64 (rd l1 a2)) ∧ w'.cell? (ad75.add (((rd l1 a2)).toNat * 3)) = some (.slice A75_0 ((rd_T37 (rd_L5 l0_2 a2) (rd l1 a2)).f0).length c75_0) ∧ w'.cell? ⟨(ad75.add (((rd l1 a2)).toNat * 3)).block, (ad75.add (((rd l1 a2)).toNat * 3)).off + 1, none⟩ = some (.int .i64 ((rd_T37 (rd_L5 l0_2 a2) (rd l1 a2)).f1)) ∧ w'.cell? ⟨(ad75.add (((rd l1 a2)).toNat * 3)).block, (ad75.add (((rd l1 a2)).toNat * 3)).off + 2, none⟩ = some (.int .i64 ((rd_T37 (rd_L5 l0_2 a2) (rd l1 a2)).f2))) (ds := []) (Z.mb 13 0) (by kernel_rfl) rfl rfl ⟨Z.b BK76 0, Z.b BK76 1, Z.b BK76 2, (Z.up HB.out hw79_0 :), (Z.up HB.out hw81_0 :), (Z.up HB.out hw75_0 :), (Z.up HB.out hw75_1 :), (Z.up HB.out hw75_2 :)⟩ (fun hHeld => ?_); refine with_tabW impl_mayChange.tab3 impl_mayChange.bits3 (fun HT_ HW_ => ?_)
  generalize w48.drew = w50 at BK76 HB HR79_0 HR75_0 hx79_0 hx81_0 hx75_0 hx75_1 hx75_2 hHeld ⊢
  refine Z.pv 0 42 13 1 HT_.out ?_
  refine Z.pv 2 44 13 5 HT_.out ?_
  refine Z.pv 5 47 13 37 HT_.out ?_
  refine Z.pv 6 48 13 101 HT_.out ?_
  refine Z.pv 7 49 13 229 HT_.out ?_
  refine Z.t8 1 43 13 231 HT_.out HW_.out hHeld ?_
  refine Z.pv 3 45 13 239 HT_.out ?_
  refine Z.t8 4 46 13 255 HT_.out HW_.out hHeld ?_
  refine Z.t8 8 50 13 511 HT_.out HW_.out hHeld ?_
  refine Z.pv 9 51 13 1023 HT_.out ?_
  refine Z.t8 10 52 13 2047 HT_.out HW_.out hHeld ?_
  refine one_ (i := 11) (N := some 11) (Z.mb 13 4095) rfl rfl (one_of HT_.out (by kernel_rfl)) (by decide) (fun K hK => ?_)
  refine box_step ?hg (N := 11) ?hd (cs := #[.slice none 0 0, .int .i64 0, .int .i64 0]) (t := 37) ?hr ?_; (case hd | hg => rfl); (case hr => (go_simp; done))
  intro gb77 hg w51 hbox hb
  have BK77 := Z.k hbox
  have GW77 := Z.gh hg (Z.bs HB.out GE76.out)
  have GE77 := Z.gh hg (Z.bs HB.out GE76.out)
  replace HB := Z.st (Z.bs HB.out GE76.out) hb
  have NB76_77 := Z.nl hg BK76
  have NB77_76 := Z.ng hg BK76
  replace BK76 := Z.bb BK76 hb
  clear hb hbox hg
  refine hK.out _ _ ⟨Z.b BK76 0, Z.b BK76 1, Z.b BK76 2, (Z.up HB.out hw79_0 :), (Z.up HB.out hw81_0 :), (Z.up HB.out hw75_0 :), (Z.up HB.out hw75_1 :), (Z.up HB.out hw75_2 :)⟩ (fun hHeld => ?_)
  clear hK K
  refine Z.nm ?_
  refine one_ (i := 12) (N := none) #[true, true, true, true, true, true, true, true, true, true, true, true, true] rfl rfl (one_of HT_.out (by kernel_rfl)) (by decide) (fun K hK => ?_)
  have hs52 : w51.cell? ⟨gb77, 0, none⟩ = some (.slice none 0 0) := Z.b BK77 0
  have hfs52 := blk_frozen BK77.out 0
  have hns52_0 := NB76_77.out
  have hms52_0 := NB77_76.out
  have hs53 : w51.cell? ⟨gb77, 1, none⟩ = some (.int .i64 0) := Z.b BK77 1
  have hfs53 := blk_frozen BK77.out 1
  have hns53_0 := NB76_77.out
  have hms53_0 := NB77_76.out
  have hs54 : w51.cell? ⟨gb77, 2, none⟩ = some (.int .i64 0) := Z.b BK77 2
  have hfs54 := blk_frozen BK77.out 2
  have hns54_0 := NB76_77.out
  have hms54_0 := NB77_76.out
  refine skip_ (w1 := ?_) (by rfl) rfl ?_ ?_
  rotate_left
  ·go_simp
   rfl
  refine hK.out _ _ ⟨(Z.f3 NB76_77.out (hHeld.1)), (Z.f3 NB76_77.out (hHeld.2.1)), (Z.f3 NB76_77.out (hHeld.2.2.1)), (Z.f3 (Z.fn hw79_0 GW77.out) (hHeld.2.2.2.1)), (Z.f3 (Z.fn hw81_0 GW77.out) (hHeld.2.2.2.2.1)), (Z.f3 (Z.fn hw75_0 GW77.out) (hHeld.2.2.2.2.2.1)), (Z.f3 (Z.fn hw75_1 GW77.out) (hHeld.2.2.2.2.2.2.1)), (Z.f3 (Z.fn hw75_2 GW77.out) (hHeld.2.2.2.2.2.2.2))⟩ (fun hHeld => ?_)
  clear hK K
  refine done_ (done_of HT_.out (by kernel_rfl)) ?_
  try go_wp2
  have n0_ : Aside0 ((((w51.setCell ⟨gb77, 0, none⟩ (.slice A75_0 ((rd_T37 (rd_L5 l0_2 a2) (rd l1 a2)).f0).length c75_0)).setCell ⟨gb77, 1, none⟩ (.int .i64 ((rd_T37 (rd_L5 l0_2 a2) (rd l1 a2)).f1))).setCell ⟨gb77, 2, none⟩ (.int .i64 ((rd_T37 (rd_L5 l0_2 a2) (rd l1 a2)).f2))).heap[gb76]? = some (.cells #[.int .i64 a0_0, .slice A0_1 l0_1.length c0_1, .slice (some ad78) l0_2.length c0_2] 28 (0, 0))) := ⟨by refine blk_far ?_ NB76_77.out _; refine blk_far ?_ NB76_77.out _; refine blk_far ?_ NB76_77.out _; exact BK76.out⟩
  have n1_ : Aside0 ((((w51.setCell ⟨gb77, 0, none⟩ (.slice A75_0 ((rd_T37 (rd_L5 l0_2 a2) (rd l1 a2)).f0).length c75_0)).setCell ⟨gb77, 1, none⟩ (.int .i64 ((rd_T37 (rd_L5 l0_2 a2) (rd l1 a2)).f1))).setCell ⟨gb77, 2, none⟩ (.int .i64 ((rd_T37 (rd_L5 l0_2 a2) (rd l1 a2)).f2))).heap[gb77]? = some (.cells #[.slice A75_0 ((rd_T37 (rd_L5 l0_2 a2) (rd l1 a2)).f0).length c75_0, .int .i64 ((rd_T37 (rd_L5 l0_2 a2) (rd l1 a2)).f1), .int .i64 ((rd_T37 (rd_L5 l0_2 a2) (rd l1 a2)).f2)] 37 (0, 0))) := ⟨by refine blk_put (cs := #[.slice A75_0 ((rd_T37 (rd_L5 l0_2 a2) (rd l1 a2)).f0).length c75_0, .int .i64 ((rd_T37 (rd_L5 l0_2 a2) (rd l1 a2)).f1), .int .i64 0]) ?_ 2 _ rfl; refine blk_put (cs := #[.slice A75_0 ((rd_T37 (rd_L5 l0_2 a2) (rd l1 a2)).f0).length c75_0, .int .i64 0, .int .i64 0]) ?_ 1 _ rfl; refine blk_put (cs := #[.slice none 0 0, .int .i64 0, .int .i64 0]) ?_ 0 _ rfl; exact BK77.out⟩
  have n2_ : Aside0 (Below w.heap.size w (((w51.setCell ⟨gb77, 0, none⟩ (.slice A75_0 ((rd_T37 (rd_L5 l0_2 a2) (rd l1 a2)).f0).length c75_0)).setCell ⟨gb77, 1, none⟩ (.int .i64 ((rd_T37 (rd_L5 l0_2 a2) (rd l1 a2)).f1))).setCell ⟨gb77, 2, none⟩ (.int .i64 ((rd_T37 (rd_L5 l0_2 a2) (rd l1 a2)).f2)))) := ⟨by repeat ((with_reducible first | exact HB.out | refine below_set ?_ GE77.out))⟩
  (try clear BK76)
  (try clear BK77)
  (try clear HB)
  generalize (((w51.setCell ⟨gb77, 0, none⟩ (.slice A75_0 ((rd_T37 (rd_L5 l0_2 a2) (rd l1 a2)).f0).length c75_0)).setCell ⟨gb77, 1, none⟩ (.int .i64 ((rd_T37 (rd_L5 l0_2 a2) (rd l1 a2)).f1))).setCell ⟨gb77, 2, none⟩ (.int .i64 ((rd_T37 (rd_L5 l0_2 a2) (rd l1 a2)).f2))) = w55 at n0_ n1_ n2_ ⊢
  have BK76 := n0_
  have BK77 := n1_
  have HB := n2_
  clear n0_ n1_ n2_
  replace BK76 := Z.k (blk_drew BK76.out)
  replace BK77 := Z.k (blk_drew BK77.out)
  replace HB := Z.k (below_drew1 HB.out)
  refine start_ (n := 22) (S := fun w' => w'.cell? ⟨gb76, 0, none⟩ = some (.int .i64 a0_0) ∧ w'.cell? ⟨gb76, 1, none⟩ = some (.slice A0_1 l0_1.length c0_1) ∧ w'.cell? ⟨gb76, 2, none⟩ = some (.slice (some ad78) l0_2.length c0_2) ∧ w'.cell? ⟨gb77, 0, none⟩ = some (.slice A75_0 ((rd_T37 (rd_L5 l0_2 a2) (rd l1 a2)).f0).length c75_0) ∧ w'.cell? ⟨gb77, 1, none⟩ = some (.int .i64 ((rd_T37 (rd_L5 l0_2 a2) (rd l1 a2)).f1)) ∧ w'.cell? ⟨gb77, 2, none⟩ = some (.int .i64 ((rd_T37 (rd_L5 l0_2 a2) (rd l1 a2)).f2))) (ds := []) (Z.mb 22 0) (by kernel_rfl) rfl rfl ⟨Z.b BK76 0, Z.b BK76 1, Z.b BK76 2, Z.b BK77 0, Z.b BK77 1, Z.b BK77 2⟩ (fun hHeld => ?_); refine with_tabW impl_mayChange.tab4 impl_mayChange.bits4 (fun HT_ HW_ => ?_)
  generalize w55.drew = w56 at BK76 BK77 HB hHeld ⊢
  refine Z.pv 0 53 22 1 HT_.out ?_
  refine Z.pv 2 55 22 5 HT_.out ?_
  refine Z.pv 4 57 22 21 HT_.out ?_
  refine Z.t6 1 54 22 23 HT_.out HW_.out hHeld ?_
  refine Z.t6 3 56 22 31 HT_.out HW_.out hHeld ?_
  refine one_ (i := 5) (N := some 58) (Z.mb 22 63) rfl rfl (one_of HT_.out (by kernel_rfl)) (by decide) (fun K hK => ?_)
  refine goes_ Try.func101 (by kernel_rfl) rfl #[.agg #[.int .i64 a0_0, .slice A0_1 l0_1.length c0_1], .slice A75_0 ((rd_T37 (rd_L5 l0_2 a2) (rd l1 a2)).f0).length c75_0, .int .i64 a4] (by rfl) rfl rfl Z.ar ?_
  with_reducible refine (impl_consents.calls k a0_0 _ _ l0_1 _ _ ((rd_T37 (rd_L5 l0_2 a2) (rd l1 a2)).f0) a4 false _ ?q1 ?q2 ?q3 ?q4 A23.out).mono ?_
  (case q1 => exact Z.cc HR0_1 HB)
  (case q2 => exact HC0_1.out)
  (case q3 => exact Z.cc HR75_0 HB)
  (case q4 => exact HC75_0.out)
  rintro e w57 ⟨rfl, hb⟩
  refine ⟨_, rfl, ?_⟩
  replace BK76 := Z.bb BK76 hb
  replace BK77 := Z.bb BK77 hb
  replace HB := Z.k (below_step HB.out hb)
  (try clear hb)
  refine hK.out _ _ ⟨Z.b BK76 0, Z.b BK76 1, Z.b BK76 2, Z.b BK77 0, Z.b BK77 1, Z.b BK77 2⟩ (fun hHeld => ?_)
  clear hK K
  refine Z.nm ?_
  refine Z.pv 6 59 22 127 HT_.out ?_
  refine Z.pu 7 60 22 255 HT_.out ?_
  refine Z.pu 8 61 22 511 HT_.out ?_
  refine Z.pu 9 62 22 1023 HT_.out ?_
  refine Z.pu 10 63 22 2047 HT_.out ?_
  refine Z.pu 11 64 22 4095 HT_.out ?_
  refine Z.pu 12 65 22 8191 HT_.out ?_
  refine Z.pu 13 66 22 16383 HT_.out ?_
  refine Z.pu 14 67 22 32767 HT_.out ?_
  refine Z.pu 15 68 22 65535 HT_.out ?_
  refine Z.pu 16 69 22 131071 HT_.out ?_
  refine Z.pu 17 70 22 262143 HT_.out ?_
  refine Z.pu 18 71 22 524287 HT_.out ?_
  refine Z.pu 19 72 22 1048575 HT_.out ?_
  refine Z.pv 20 73 22 2097151 HT_.out ?_
  refine Z.pv 21 10 22 4194303 HT_.out ?_
  refine done_ (done_of HT_.out (by kernel_rfl)) ?_
  try go_wp2
  go_ret
  exact ⟨by rfl, HB.out⟩

 subst c24
 rw [if_pos rfl] at H
 by_cases c25 : ((rd_T37 (rd_L5 l0_2 a2) (rd l1 a2)).f1) = (-1)
 ·rw [if_pos c25] at H
  have c25b0 : (((rd_T37 (rd_L5 l0_2 a2) (rd l1 a2)).f1) == (-1)) = true := beq_iff_eq.mpr c25
  have c25b1 : (((rd_T37 (rd_L5 l0_2 a2) (rd l1 a2)).f1) != (-1)) = false := bne_eq_false_iff_eq.mpr c25
  clear c25
  obtain rfl := Option.some.inj H
  go_enter Try.func74, Try.ntmps74
  try go_wp2_with (((with_reducible refine gate_dst (N := 5) rfl ?_); (try (refine gate_guard (by rfl) ?_; dsimp only)); refine Z.bx #[.int .i64 a0_0, .slice A0_1 l0_1.length c0_1, .slice A0_2 l0_2.length c0_2] 28 HB ?_; clear HB; intro gb76 w26 BK76 GE76 HB hg hb; have GW76 := GE76; clear hb hg; have hcz27 := Z.c3 BK76.out; have p78 : 0 ≤ (a2 : Int) := Z.od; have q78 : a2 < (l0_2.length : Int) := Z.od; obtain ⟨ad78, A78_0, c78_0, e78, hx78_0, hl78_0, hi78_0⟩ := at_L5 HR0_2.out a2 p78 q78; cases e78; replace hx78_0 := Z.up HB.out hx78_0; have HR78_0 := Z.k hi78_0; have HC78_0 := Z.k hl78_0; clear hi78_0 hl78_0; replace p78 := eq_true p78; replace q78 := eq_true q78; have p80 : 0 ≤ (a2 : Int) := Z.od; have q80 : a2 < (l1.length : Int) := Z.od; obtain ⟨ad80, e80, hx80_0⟩ := Kd.at_int HR1.out a2 p80 q80; cases e80; replace hx80_0 := Z.up HB.out hx80_0; replace p80 := eq_true p80; replace q80 := eq_true q80))
  replace BK76 := Z.k (blk_drew BK76.out)
  replace HB := Z.k (below_drew1 HB.out)
  have p79 : (0 ≤ (a2 : Int)) = True := Z.oe
  have q79 : (a2 < (l0_2.length : Int)) = True := Z.oe
  obtain ⟨ad79, A79_0, c79_0, e79, hx79_0, hl79_0, hi79_0⟩ := at_L5 HR0_2.out a2 Z.od Z.od
  have hw79_0 := hx79_0
  obtain rfl : ad78 = ad79 := (by injection e79)
  replace hx79_0 := Z.up HB.out hx79_0
  have HR79_0 := Z.k hi79_0
  have HC79_0 := Z.k hl79_0
  clear hi79_0 hl79_0
  have p81 : (0 ≤ (a2 : Int)) = True := Z.oe
  have q81 : (a2 < (l1.length : Int)) = True := Z.oe
  obtain ⟨ad81, e81, hx81_0⟩ := Kd.at_int HR1.out a2 Z.od Z.od
  have hw81_0 := hx81_0
  obtain rfl : ad80 = ad81 := (by injection e81)
  replace hx81_0 := Z.up HB.out hx81_0
  have p75 : (0 ≤ ((rd l1 a2) : Int)) = True := Z.oe
  have q75 : ((rd l1 a2) < ((rd_L5 l0_2 a2).length : Int)) = True := Z.oe
  obtain ⟨ad75, A75_0, c75_0, rfl, hx75_0, hx75_1, hx75_2, hl75_0, hi75_0⟩ := at_T37 HR79_0.out (rd l1 a2) Z.od Z.od
  have hw75_2 := hx75_2
  have hw75_1 := hx75_1
  have hw75_0 := hx75_0
  replace hx75_0 := Z.up HB.out hx75_0
  replace hx75_1 := Z.up HB.out hx75_1
  replace hx75_2 := Z.up HB.out hx75_2
  have HR75_0 := Z.k hi75_0
  have HC75_0 := Z.k hl75_0
  clear hi75_0 hl75_0
  refine start_ (n := 13) (S := fun w' => w'.cell? ⟨gb76, 0, none⟩ = some (.int .i64 a0_0) ∧ w'.cell? ⟨gb76, 1, none⟩ = some (.slice A0_1 l0_1.length c0_1) ∧ w'.cell? ⟨gb76, 2, none⟩ = some (.slice (some ad78) l0_2.length c0_2) ∧ w'.cell? (ad78.add (a2).toNat) = some (.slice (some ad75) (rd_L5 l0_2 a2).length c79_0) ∧ w'.cell? (ad80.add (a2).toNat) = some (.int .i64 (rd l1 a2)) ∧ w'.cell? (ad75.add (((rd l1 a2)).toNat * 3)) = some (.slice A75_0 ((rd_T37 (rd_L5 l0_2 a2) (rd l1 a2)).f0).length c75_0) ∧ w'.cell? ⟨(ad75.add (((rd l1 a2)).toNat * 3)).block, (ad75.add (((rd l1 a2)).toNat * 3)).off + 1, none⟩ = some (.int .i64 ((rd_T37 (rd_L5 l0_2 a2) (rd l1 a2)).f1)) ∧ w'.cell? ⟨(ad75.add (((rd l1 a2)).toNat * 3)).block, (ad75.add (((rd l1 a2)).toNat * 3)).off + 2, none⟩ = some (.int .i64 ((rd_T37 (rd_L5 l0_2 a2) (rd l1 a2)).f2))) (ds := []) (Z.mb 13 0) (by kernel_rfl) rfl rfl ⟨Z.b BK76 0, Z.b BK76 1, Z.b BK76 2, (Z.up HB.out hw79_0 :), (Z.up HB.out hw81_0 :), (Z.up HB.out hw75_0 :), (Z.up HB.out hw75_1 :), (Z.up HB.out hw75_2 :)⟩ (fun hHeld => ?_); refine with_tabW impl_mayChange.tab3 impl_mayChange.bits3 (fun HT_ HW_ => ?_)
  generalize w26.drew = w28 at BK76 HB HR79_0 HR75_0 hx79_0 hx81_0 hx75_0 hx75_1 hx75_2 hHeld ⊢
  refine Z.pv 0 42 13 1 HT_.out ?_
  refine Z.pv 2 44 13 5 HT_.out ?_
  refine Z.pv 5 47 13 37 HT_.out ?_
  refine Z.pv 6 48 13 101 HT_.out ?_
  refine Z.pv 7 49 13 229 HT_.out ?_
  refine Z.t8 1 43 13 231 HT_.out HW_.out hHeld ?_
  refine Z.pv 3 45 13 239 HT_.out ?_
  refine Z.t8 4 46 13 255 HT_.out HW_.out hHeld ?_
  refine Z.t8 8 50 13 511 HT_.out HW_.out hHeld ?_
  refine Z.pv 9 51 13 1023 HT_.out ?_
  refine Z.t8 10 52 13 2047 HT_.out HW_.out hHeld ?_
  refine one_ (i := 11) (N := some 11) (Z.mb 13 4095) rfl rfl (one_of HT_.out (by kernel_rfl)) (by decide) (fun K hK => ?_)
  refine box_step ?hg (N := 11) ?hd (cs := #[.slice none 0 0, .int .i64 0, .int .i64 0]) (t := 37) ?hr ?_; (case hd | hg => rfl); (case hr => (go_simp; done))
  intro gb77 hg w29 hbox hb
  have BK77 := Z.k hbox
  have GW77 := Z.gh hg (Z.bs HB.out GE76.out)
  have GE77 := Z.gh hg (Z.bs HB.out GE76.out)
  replace HB := Z.st (Z.bs HB.out GE76.out) hb
  have NB76_77 := Z.nl hg BK76
  have NB77_76 := Z.ng hg BK76
  replace BK76 := Z.bb BK76 hb
  clear hb hbox hg
  refine hK.out _ _ ⟨Z.b BK76 0, Z.b BK76 1, Z.b BK76 2, (Z.up HB.out hw79_0 :), (Z.up HB.out hw81_0 :), (Z.up HB.out hw75_0 :), (Z.up HB.out hw75_1 :), (Z.up HB.out hw75_2 :)⟩ (fun hHeld => ?_)
  clear hK K
  refine Z.nm ?_
  refine one_ (i := 12) (N := none) #[true, true, true, true, true, true, true, true, true, true, true, true, true] rfl rfl (one_of HT_.out (by kernel_rfl)) (by decide) (fun K hK => ?_)
  have hs30 : w29.cell? ⟨gb77, 0, none⟩ = some (.slice none 0 0) := Z.b BK77 0
  have hfs30 := blk_frozen BK77.out 0
  have hns30_0 := NB76_77.out
  have hms30_0 := NB77_76.out
  have hs31 : w29.cell? ⟨gb77, 1, none⟩ = some (.int .i64 0) := Z.b BK77 1
  have hfs31 := blk_frozen BK77.out 1
  have hns31_0 := NB76_77.out
  have hms31_0 := NB77_76.out
  have hs32 : w29.cell? ⟨gb77, 2, none⟩ = some (.int .i64 0) := Z.b BK77 2
  have hfs32 := blk_frozen BK77.out 2
  have hns32_0 := NB76_77.out
  have hms32_0 := NB77_76.out
  refine skip_ (w1 := ?_) (by rfl) rfl ?_ ?_
  rotate_left
  ·go_simp
   rfl
  refine hK.out _ _ ⟨(Z.f3 NB76_77.out (hHeld.1)), (Z.f3 NB76_77.out (hHeld.2.1)), (Z.f3 NB76_77.out (hHeld.2.2.1)), (Z.f3 (Z.fn hw79_0 GW77.out) (hHeld.2.2.2.1)), (Z.f3 (Z.fn hw81_0 GW77.out) (hHeld.2.2.2.2.1)), (Z.f3 (Z.fn hw75_0 GW77.out) (hHeld.2.2.2.2.2.1)), (Z.f3 (Z.fn hw75_1 GW77.out) (hHeld.2.2.2.2.2.2.1)), (Z.f3 (Z.fn hw75_2 GW77.out) (hHeld.2.2.2.2.2.2.2))⟩ (fun hHeld => ?_)
  clear hK K
  refine done_ (done_of HT_.out (by kernel_rfl)) ?_
  try go_wp2
  have n0_ : Aside0 ((((w29.setCell ⟨gb77, 0, none⟩ (.slice A75_0 ((rd_T37 (rd_L5 l0_2 a2) (rd l1 a2)).f0).length c75_0)).setCell ⟨gb77, 1, none⟩ (.int .i64 ((rd_T37 (rd_L5 l0_2 a2) (rd l1 a2)).f1))).setCell ⟨gb77, 2, none⟩ (.int .i64 ((rd_T37 (rd_L5 l0_2 a2) (rd l1 a2)).f2))).heap[gb76]? = some (.cells #[.int .i64 a0_0, .slice A0_1 l0_1.length c0_1, .slice (some ad78) l0_2.length c0_2] 28 (0, 0))) := ⟨by refine blk_far ?_ NB76_77.out _; refine blk_far ?_ NB76_77.out _; refine blk_far ?_ NB76_77.out _; exact BK76.out⟩
  have n1_ : Aside0 ((((w29.setCell ⟨gb77, 0, none⟩ (.slice A75_0 ((rd_T37 (rd_L5 l0_2 a2) (rd l1 a2)).f0).length c75_0)).setCell ⟨gb77, 1, none⟩ (.int .i64 ((rd_T37 (rd_L5 l0_2 a2) (rd l1 a2)).f1))).setCell ⟨gb77, 2, none⟩ (.int .i64 ((rd_T37 (rd_L5 l0_2 a2) (rd l1 a2)).f2))).heap[gb77]? = some (.cells #[.slice A75_0 ((rd_T37 (rd_L5 l0_2 a2) (rd l1 a2)).f0).length c75_0, .int .i64 ((rd_T37 (rd_L5 l0_2 a2) (rd l1 a2)).f1), .int .i64 ((rd_T37 (rd_L5 l0_2 a2) (rd l1 a2)).f2)] 37 (0, 0))) := ⟨by refine blk_put (cs := #[.slice A75_0 ((rd_T37 (rd_L5 l0_2 a2) (rd l1 a2)).f0).length c75_0, .int .i64 ((rd_T37 (rd_L5 l0_2 a2) (rd l1 a2)).f1), .int .i64 0]) ?_ 2 _ rfl; refine blk_put (cs := #[.slice A75_0 ((rd_T37 (rd_L5 l0_2 a2) (rd l1 a2)).f0).length c75_0, .int .i64 0, .int .i64 0]) ?_ 1 _ rfl; refine blk_put (cs := #[.slice none 0 0, .int .i64 0, .int .i64 0]) ?_ 0 _ rfl; exact BK77.out⟩
  have n2_ : Aside0 (Below w.heap.size w (((w29.setCell ⟨gb77, 0, none⟩ (.slice A75_0 ((rd_T37 (rd_L5 l0_2 a2) (rd l1 a2)).f0).length c75_0)).setCell ⟨gb77, 1, none⟩ (.int .i64 ((rd_T37 (rd_L5 l0_2 a2) (rd l1 a2)).f1))).setCell ⟨gb77, 2, none⟩ (.int .i64 ((rd_T37 (rd_L5 l0_2 a2) (rd l1 a2)).f2)))) := ⟨by repeat ((with_reducible first | exact HB.out | refine below_set ?_ GE77.out))⟩
  (try clear BK76)
  (try clear BK77)
  (try clear HB)
  generalize (((w29.setCell ⟨gb77, 0, none⟩ (.slice A75_0 ((rd_T37 (rd_L5 l0_2 a2) (rd l1 a2)).f0).length c75_0)).setCell ⟨gb77, 1, none⟩ (.int .i64 ((rd_T37 (rd_L5 l0_2 a2) (rd l1 a2)).f1))).setCell ⟨gb77, 2, none⟩ (.int .i64 ((rd_T37 (rd_L5 l0_2 a2) (rd l1 a2)).f2))) = w33 at n0_ n1_ n2_ ⊢
  have BK76 := n0_
  have BK77 := n1_
  have HB := n2_
  clear n0_ n1_ n2_
  replace BK76 := Z.k (blk_drew BK76.out)
  replace BK77 := Z.k (blk_drew BK77.out)
  replace HB := Z.k (below_drew1 HB.out)
  refine start_ (n := 22) (S := fun w' => w'.cell? ⟨gb76, 0, none⟩ = some (.int .i64 a0_0) ∧ w'.cell? ⟨gb76, 1, none⟩ = some (.slice A0_1 l0_1.length c0_1) ∧ w'.cell? ⟨gb76, 2, none⟩ = some (.slice (some ad78) l0_2.length c0_2) ∧ w'.cell? ⟨gb77, 0, none⟩ = some (.slice A75_0 ((rd_T37 (rd_L5 l0_2 a2) (rd l1 a2)).f0).length c75_0) ∧ w'.cell? ⟨gb77, 1, none⟩ = some (.int .i64 ((rd_T37 (rd_L5 l0_2 a2) (rd l1 a2)).f1)) ∧ w'.cell? ⟨gb77, 2, none⟩ = some (.int .i64 ((rd_T37 (rd_L5 l0_2 a2) (rd l1 a2)).f2))) (ds := []) (Z.mb 22 0) (by kernel_rfl) rfl rfl ⟨Z.b BK76 0, Z.b BK76 1, Z.b BK76 2, Z.b BK77 0, Z.b BK77 1, Z.b BK77 2⟩ (fun hHeld => ?_); refine with_tabW impl_mayChange.tab4 impl_mayChange.bits4 (fun HT_ HW_ => ?_)
  generalize w33.drew = w34 at BK76 BK77 HB hHeld ⊢
  refine Z.pv 0 53 22 1 HT_.out ?_
  refine Z.pv 2 55 22 5 HT_.out ?_
  refine Z.pv 4 57 22 21 HT_.out ?_
  refine Z.t6 1 54 22 23 HT_.out HW_.out hHeld ?_
  refine Z.t6 3 56 22 31 HT_.out HW_.out hHeld ?_
  refine one_ (i := 5) (N := some 58) (Z.mb 22 63) rfl rfl (one_of HT_.out (by kernel_rfl)) (by decide) (fun K hK => ?_)
  refine goes_ Try.func101 (by kernel_rfl) rfl #[.agg #[.int .i64 a0_0, .slice A0_1 l0_1.length c0_1], .slice A75_0 ((rd_T37 (rd_L5 l0_2 a2) (rd l1 a2)).f0).length c75_0, .int .i64 a4] (by rfl) rfl rfl Z.ar ?_
  with_reducible refine (impl_consents.calls k a0_0 _ _ l0_1 _ _ ((rd_T37 (rd_L5 l0_2 a2) (rd l1 a2)).f0) a4 true _ ?q1 ?q2 ?q3 ?q4 A23.out).mono ?_
  (case q1 => exact Z.cc HR0_1 HB)
  (case q2 => exact HC0_1.out)
  (case q3 => exact Z.cc HR75_0 HB)
  (case q4 => exact HC75_0.out)
  rintro e w35 ⟨rfl, hb⟩
  refine ⟨_, rfl, ?_⟩
  replace BK76 := Z.bb BK76 hb
  replace BK77 := Z.bb BK77 hb
  replace HB := Z.k (below_step HB.out hb)
  (try clear hb)
  refine hK.out _ _ ⟨Z.b BK76 0, Z.b BK76 1, Z.b BK76 2, Z.b BK77 0, Z.b BK77 1, Z.b BK77 2⟩ (fun hHeld => ?_)
  clear hK K
  refine Z.nm ?_
  refine Z.pv 6 59 22 127 HT_.out ?_
  refine Z.pv 7 60 22 255 HT_.out ?_
  refine Z.t6 8 61 22 511 HT_.out HW_.out hHeld ?_
  refine Z.pv 9 62 22 1023 HT_.out ?_
  refine Z.pv 10 63 22 2047 HT_.out ?_
  refine Z.pu 11 64 22 4095 HT_.out ?_
  refine Z.pu 12 65 22 8191 HT_.out ?_
  refine Z.pu 13 66 22 16383 HT_.out ?_
  refine Z.pu 14 67 22 32767 HT_.out ?_
  refine Z.pu 15 68 22 65535 HT_.out ?_
  refine Z.pu 16 69 22 131071 HT_.out ?_
  refine Z.pu 17 70 22 262143 HT_.out ?_
  refine Z.pu 18 71 22 524287 HT_.out ?_
  refine Z.pv 19 72 22 1048575 HT_.out ?_
  refine Z.pv 20 73 22 2097151 HT_.out ?_
  refine Z.pv 21 10 22 4194303 HT_.out ?_
  refine done_ (done_of HT_.out (by kernel_rfl)) ?_
  try go_wp2
  go_ret
  exact ⟨by rfl, HB.out⟩
 rw [if_neg c25] at H
 have c25b0 : (((rd_T37 (rd_L5 l0_2 a2) (rd l1 a2)).f1) == (-1)) = false := beq_eq_false_iff_ne.mpr c25
 have c25b1 : (((rd_T37 (rd_L5 l0_2 a2) (rd l1 a2)).f1) != (-1)) = true := bne_iff_ne.mpr c25
 obtain ⟨c36, H⟩ := Z.ifp H
 have c36b0 : decide (0 ≤ ((rd_T37 (rd_L5 l0_2 a2) (rd l1 a2)).f1)) = true := decide_eq_true c36
 clear c36
 obtain ⟨c37, H⟩ := Z.ifp H
 have c37b0 : decide (((rd_T37 (rd_L5 l0_2 a2) (rd l1 a2)).f1) < (l1.length : Int)) = true := decide_eq_true c37
 clear c37
 obtain rfl := Option.some.inj H
 go_enter Try.func74, Try.ntmps74
 try go_wp2_with (((with_reducible refine gate_dst (N := 5) rfl ?_); (try (refine gate_guard (by rfl) ?_; dsimp only)); refine Z.bx #[.int .i64 a0_0, .slice A0_1 l0_1.length c0_1, .slice A0_2 l0_2.length c0_2] 28 HB ?_; clear HB; intro gb76 w38 BK76 GE76 HB hg hb; have GW76 := GE76; clear hb hg; have hcz39 := Z.c3 BK76.out; have p78 : 0 ≤ (a2 : Int) := Z.od; have q78 : a2 < (l0_2.length : Int) := Z.od; obtain ⟨ad78, A78_0, c78_0, e78, hx78_0, hl78_0, hi78_0⟩ := at_L5 HR0_2.out a2 p78 q78; cases e78; replace hx78_0 := Z.up HB.out hx78_0; have HR78_0 := Z.k hi78_0; have HC78_0 := Z.k hl78_0; clear hi78_0 hl78_0; replace p78 := eq_true p78; replace q78 := eq_true q78; have p80 : 0 ≤ (a2 : Int) := Z.od; have q80 : a2 < (l1.length : Int) := Z.od; obtain ⟨ad80, e80, hx80_0⟩ := Kd.at_int HR1.out a2 p80 q80; cases e80; replace hx80_0 := Z.up HB.out hx80_0; replace p80 := eq_true p80; replace q80 := eq_true q80))
 replace BK76 := Z.k (blk_drew BK76.out)
 replace HB := Z.k (below_drew1 HB.out)
 have p79 : (0 ≤ (a2 : Int)) = True := Z.oe
 have q79 : (a2 < (l0_2.length : Int)) = True := Z.oe
 obtain ⟨ad79, A79_0, c79_0, e79, hx79_0, hl79_0, hi79_0⟩ := at_L5 HR0_2.out a2 Z.od Z.od
 have hw79_0 := hx79_0
 obtain rfl : ad78 = ad79 := (by injection e79)
 replace hx79_0 := Z.up HB.out hx79_0
 have HR79_0 := Z.k hi79_0
 have HC79_0 := Z.k hl79_0
 clear hi79_0 hl79_0
 have p81 : (0 ≤ (a2 : Int)) = True := Z.oe
 have q81 : (a2 < (l1.length : Int)) = True := Z.oe
 obtain ⟨ad81, e81, hx81_0⟩ := Kd.at_int HR1.out a2 Z.od Z.od
 have hw81_0 := hx81_0
 obtain rfl : ad80 = ad81 := (by injection e81)
 replace hx81_0 := Z.up HB.out hx81_0
 have p75 : (0 ≤ ((rd l1 a2) : Int)) = True := Z.oe
 have q75 : ((rd l1 a2) < ((rd_L5 l0_2 a2).length : Int)) = True := Z.oe
 obtain ⟨ad75, A75_0, c75_0, rfl, hx75_0, hx75_1, hx75_2, hl75_0, hi75_0⟩ := at_T37 HR79_0.out (rd l1 a2) Z.od Z.od
 have hw75_2 := hx75_2
 have hw75_1 := hx75_1
 have hw75_0 := hx75_0
 replace hx75_0 := Z.up HB.out hx75_0
 replace hx75_1 := Z.up HB.out hx75_1
 replace hx75_2 := Z.up HB.out hx75_2
 have HR75_0 := Z.k hi75_0
 have HC75_0 := Z.k hl75_0
 clear hi75_0 hl75_0
 refine start_ (n := 13) (S := fun w' => w'.cell? ⟨gb76, 0, none⟩ = some (.int .i64 a0_0) ∧ w'.cell? ⟨gb76, 1, none⟩ = some (.slice A0_1 l0_1.length c0_1) ∧ w'.cell? ⟨gb76, 2, none⟩ = some (.slice (some ad78) l0_2.length c0_2) ∧ w'.cell? (ad78.add (a2).toNat) = some (.slice (some ad75) (rd_L5 l0_2 a2).length c79_0) ∧ w'.cell? (ad80.add (a2).toNat) = some (.int .i64 (rd l1 a2)) ∧ w'.cell? (ad75.add (((rd l1 a2)).toNat * 3)) = some (.slice A75_0 ((rd_T37 (rd_L5 l0_2 a2) (rd l1 a2)).f0).length c75_0) ∧ w'.cell? ⟨(ad75.add (((rd l1 a2)).toNat * 3)).block, (ad75.add (((rd l1 a2)).toNat * 3)).off + 1, none⟩ = some (.int .i64 ((rd_T37 (rd_L5 l0_2 a2) (rd l1 a2)).f1)) ∧ w'.cell? ⟨(ad75.add (((rd l1 a2)).toNat * 3)).block, (ad75.add (((rd l1 a2)).toNat * 3)).off + 2, none⟩ = some (.int .i64 ((rd_T37 (rd_L5 l0_2 a2) (rd l1 a2)).f2))) (ds := []) (Z.mb 13 0) (by kernel_rfl) rfl rfl ⟨Z.b BK76 0, Z.b BK76 1, Z.b BK76 2, (Z.up HB.out hw79_0 :), (Z.up HB.out hw81_0 :), (Z.up HB.out hw75_0 :), (Z.up HB.out hw75_1 :), (Z.up HB.out hw75_2 :)⟩ (fun hHeld => ?_); refine with_tabW impl_mayChange.tab3 impl_mayChange.bits3 (fun HT_ HW_ => ?_)
 generalize w38.drew = w40 at BK76 HB HR79_0 HR75_0 hx79_0 hx81_0 hx75_0 hx75_1 hx75_2 hHeld ⊢
 refine Z.pv 0 42 13 1 HT_.out ?_
 refine Z.pv 2 44 13 5 HT_.out ?_
 refine Z.pv 5 47 13 37 HT_.out ?_
 refine Z.pv 6 48 13 101 HT_.out ?_
 refine Z.pv 7 49 13 229 HT_.out ?_
 refine Z.t8 1 43 13 231 HT_.out HW_.out hHeld ?_
 refine Z.pv 3 45 13 239 HT_.out ?_
 refine Z.t8 4 46 13 255 HT_.out HW_.out hHeld ?_
 refine Z.t8 8 50 13 511 HT_.out HW_.out hHeld ?_
 refine Z.pv 9 51 13 1023 HT_.out ?_
 refine Z.t8 10 52 13 2047 HT_.out HW_.out hHeld ?_
 refine one_ (i := 11) (N := some 11) (Z.mb 13 4095) rfl rfl (one_of HT_.out (by kernel_rfl)) (by decide) (fun K hK => ?_)
 refine box_step ?hg (N := 11) ?hd (cs := #[.slice none 0 0, .int .i64 0, .int .i64 0]) (t := 37) ?hr ?_; (case hd | hg => rfl); (case hr => (go_simp; done))
 intro gb77 hg w41 hbox hb
 have BK77 := Z.k hbox
 have GW77 := Z.gh hg (Z.bs HB.out GE76.out)
 have GE77 := Z.gh hg (Z.bs HB.out GE76.out)
 replace HB := Z.st (Z.bs HB.out GE76.out) hb
 have NB76_77 := Z.nl hg BK76
 have NB77_76 := Z.ng hg BK76
 replace BK76 := Z.bb BK76 hb
 clear hb hbox hg
 refine hK.out _ _ ⟨Z.b BK76 0, Z.b BK76 1, Z.b BK76 2, (Z.up HB.out hw79_0 :), (Z.up HB.out hw81_0 :), (Z.up HB.out hw75_0 :), (Z.up HB.out hw75_1 :), (Z.up HB.out hw75_2 :)⟩ (fun hHeld => ?_)
 clear hK K
 refine Z.nm ?_
 refine one_ (i := 12) (N := none) #[true, true, true, true, true, true, true, true, true, true, true, true, true] rfl rfl (one_of HT_.out (by kernel_rfl)) (by decide) (fun K hK => ?_)
 have hs42 : w41.cell? ⟨gb77, 0, none⟩ = some (.slice none 0 0) := Z.b BK77 0
 have hfs42 := blk_frozen BK77.out 0
 have hns42_0 := NB76_77.out
 have hms42_0 := NB77_76.out
 have hs43 : w41.cell? ⟨gb77, 1, none⟩ = some (.int .i64 0) := Z.b BK77 1
 have hfs43 := blk_frozen BK77.out 1
 have hns43_0 := NB76_77.out
 have hms43_0 := NB77_76.out
 have hs44 : w41.cell? ⟨gb77, 2, none⟩ = some (.int .i64 0) := Z.b BK77 2
 have hfs44 := blk_frozen BK77.out 2
 have hns44_0 := NB76_77.out
 have hms44_0 := NB77_76.out
 refine skip_ (w1 := ?_) (by rfl) rfl ?_ ?_
 rotate_left
 ·go_simp
  rfl
 refine hK.out _ _ ⟨(Z.f3 NB76_77.out (hHeld.1)), (Z.f3 NB76_77.out (hHeld.2.1)), (Z.f3 NB76_77.out (hHeld.2.2.1)), (Z.f3 (Z.fn hw79_0 GW77.out) (hHeld.2.2.2.1)), (Z.f3 (Z.fn hw81_0 GW77.out) (hHeld.2.2.2.2.1)), (Z.f3 (Z.fn hw75_0 GW77.out) (hHeld.2.2.2.2.2.1)), (Z.f3 (Z.fn hw75_1 GW77.out) (hHeld.2.2.2.2.2.2.1)), (Z.f3 (Z.fn hw75_2 GW77.out) (hHeld.2.2.2.2.2.2.2))⟩ (fun hHeld => ?_)
 clear hK K
 refine done_ (done_of HT_.out (by kernel_rfl)) ?_
 try go_wp2
 have n0_ : Aside0 ((((w41.setCell ⟨gb77, 0, none⟩ (.slice A75_0 ((rd_T37 (rd_L5 l0_2 a2) (rd l1 a2)).f0).length c75_0)).setCell ⟨gb77, 1, none⟩ (.int .i64 ((rd_T37 (rd_L5 l0_2 a2) (rd l1 a2)).f1))).setCell ⟨gb77, 2, none⟩ (.int .i64 ((rd_T37 (rd_L5 l0_2 a2) (rd l1 a2)).f2))).heap[gb76]? = some (.cells #[.int .i64 a0_0, .slice A0_1 l0_1.length c0_1, .slice (some ad78) l0_2.length c0_2] 28 (0, 0))) := ⟨by refine blk_far ?_ NB76_77.out _; refine blk_far ?_ NB76_77.out _; refine blk_far ?_ NB76_77.out _; exact BK76.out⟩
 have n1_ : Aside0 ((((w41.setCell ⟨gb77, 0, none⟩ (.slice A75_0 ((rd_T37 (rd_L5 l0_2 a2) (rd l1 a2)).f0).length c75_0)).setCell ⟨gb77, 1, none⟩ (.int .i64 ((rd_T37 (rd_L5 l0_2 a2) (rd l1 a2)).f1))).setCell ⟨gb77, 2, none⟩ (.int .i64 ((rd_T37 (rd_L5 l0_2 a2) (rd l1 a2)).f2))).heap[gb77]? = some (.cells #[.slice A75_0 ((rd_T37 (rd_L5 l0_2 a2) (rd l1 a2)).f0).length c75_0, .int .i64 ((rd_T37 (rd_L5 l0_2 a2) (rd l1 a2)).f1), .int .i64 ((rd_T37 (rd_L5 l0_2 a2) (rd l1 a2)).f2)] 37 (0, 0))) := ⟨by refine blk_put (cs := #[.slice A75_0 ((rd_T37 (rd_L5 l0_2 a2) (rd l1 a2)).f0).length c75_0, .int .i64 ((rd_T37 (rd_L5 l0_2 a2) (rd l1 a2)).f1), .int .i64 0]) ?_ 2 _ rfl; refine blk_put (cs := #[.slice A75_0 ((rd_T37 (rd_L5 l0_2 a2) (rd l1 a2)).f0).length c75_0, .int .i64 0, .int .i64 0]) ?_ 1 _ rfl; refine blk_put (cs := #[.slice none 0 0, .int .i64 0, .int .i64 0]) ?_ 0 _ rfl; exact BK77.out⟩
 have n2_ : Aside0 (Below w.heap.size w (((w41.setCell ⟨gb77, 0, none⟩ (.slice A75_0 ((rd_T37 (rd_L5 l0_2 a2) (rd l1 a2)).f0).length c75_0)).setCell ⟨gb77, 1, none⟩ (.int .i64 ((rd_T37 (rd_L5 l0_2 a2) (rd l1 a2)).f1))).setCell ⟨gb77, 2, none⟩ (.int .i64 ((rd_T37 (rd_L5 l0_2 a2) (rd l1 a2)).f2)))) := ⟨by repeat ((with_reducible first | exact HB.out | refine below_set ?_ GE77.out))⟩
 (try clear BK76)
 (try clear BK77)
 (try clear HB)
 generalize (((w41.setCell ⟨gb77, 0, none⟩ (.slice A75_0 ((rd_T37 (rd_L5 l0_2 a2) (rd l1 a2)).f0).length c75_0)).setCell ⟨gb77, 1, none⟩ (.int .i64 ((rd_T37 (rd_L5 l0_2 a2) (rd l1 a2)).f1))).setCell ⟨gb77, 2, none⟩ (.int .i64 ((rd_T37 (rd_L5 l0_2 a2) (rd l1 a2)).f2))) = w45 at n0_ n1_ n2_ ⊢
 have BK76 := n0_
 have BK77 := n1_
 have HB := n2_
 clear n0_ n1_ n2_
 replace BK76 := Z.k (blk_drew BK76.out)
 replace BK77 := Z.k (blk_drew BK77.out)
 replace HB := Z.k (below_drew1 HB.out)
 have p82 : (0 ≤ (((rd_T37 (rd_L5 l0_2 a2) (rd l1 a2)).f1) : Int)) = True := Z.oe
 have q82 : (((rd_T37 (rd_L5 l0_2 a2) (rd l1 a2)).f1) < (l1.length : Int)) = True := Z.oe
 obtain ⟨ad82, e82, hx82_0⟩ := Kd.at_int HR1.out ((rd_T37 (rd_L5 l0_2 a2) (rd l1 a2)).f1) Z.od Z.od
 have hw82_0 := hx82_0
 obtain rfl : ad80 = ad82 := (by injection e82)
 replace hx82_0 := Z.up HB.out hx82_0
 refine start_ (n := 22) (S := fun w' => w'.cell? ⟨gb76, 0, none⟩ = some (.int .i64 a0_0) ∧ w'.cell? ⟨gb76, 1, none⟩ = some (.slice A0_1 l0_1.length c0_1) ∧ w'.cell? ⟨gb76, 2, none⟩ = some (.slice (some ad78) l0_2.length c0_2) ∧ w'.cell? ⟨gb77, 0, none⟩ = some (.slice A75_0 ((rd_T37 (rd_L5 l0_2 a2) (rd l1 a2)).f0).length c75_0) ∧ w'.cell? ⟨gb77, 1, none⟩ = some (.int .i64 ((rd_T37 (rd_L5 l0_2 a2) (rd l1 a2)).f1)) ∧ w'.cell? ⟨gb77, 2, none⟩ = some (.int .i64 ((rd_T37 (rd_L5 l0_2 a2) (rd l1 a2)).f2)) ∧ w'.cell? (ad80.add (((rd_T37 (rd_L5 l0_2 a2) (rd l1 a2)).f1)).toNat) = some (.int .i64 (rd l1 ((rd_T37 (rd_L5 l0_2 a2) (rd l1 a2)).f1)))) (ds := []) (Z.mb 22 0) (by kernel_rfl) rfl rfl ⟨Z.b BK76 0, Z.b BK76 1, Z.b BK76 2, Z.b BK77 0, Z.b BK77 1, Z.b BK77 2, (Z.up HB.out hw82_0 :)⟩ (fun hHeld => ?_); refine with_tabW impl_mayChange.tab4 impl_mayChange.bits4 (fun HT_ HW_ => ?_)
 generalize w45.drew = w46 at BK76 BK77 HB hx82_0 hHeld ⊢
 refine Z.pv 0 53 22 1 HT_.out ?_
 refine Z.pv 2 55 22 5 HT_.out ?_
 refine Z.pv 4 57 22 21 HT_.out ?_
 refine Z.t7 1 54 22 23 HT_.out HW_.out hHeld ?_
 refine Z.t7 3 56 22 31 HT_.out HW_.out hHeld ?_
 refine one_ (i := 5) (N := some 58) (Z.mb 22 63) rfl rfl (one_of HT_.out (by kernel_rfl)) (by decide) (fun K hK => ?_)
 refine goes_ Try.func101 (by kernel_rfl) rfl #[.agg #[.int .i64 a0_0, .slice A0_1 l0_1.length c0_1], .slice A75_0 ((rd_T37 (rd_L5 l0_2 a2) (rd l1 a2)).f0).length c75_0, .int .i64 a4] (by rfl) rfl rfl Z.ar ?_
 with_reducible refine (impl_consents.calls k a0_0 _ _ l0_1 _ _ ((rd_T37 (rd_L5 l0_2 a2) (rd l1 a2)).f0) a4 true _ ?q1 ?q2 ?q3 ?q4 A23.out).mono ?_
 (case q1 => exact Z.cc HR0_1 HB)
 (case q2 => exact HC0_1.out)
 (case q3 => exact Z.cc HR75_0 HB)
 (case q4 => exact HC75_0.out)
 rintro e w47 ⟨rfl, hb⟩
 refine ⟨_, rfl, ?_⟩
 replace BK76 := Z.bb BK76 hb
 replace BK77 := Z.bb BK77 hb
 replace HB := Z.k (below_step HB.out hb)
 (try clear hb)
 refine hK.out _ _ ⟨Z.b BK76 0, Z.b BK76 1, Z.b BK76 2, Z.b BK77 0, Z.b BK77 1, Z.b BK77 2, (Z.up HB.out hw82_0 :)⟩ (fun hHeld => ?_)
 clear hK K
 refine Z.nm ?_
 refine Z.pv 6 59 22 127 HT_.out ?_
 refine Z.pv 7 60 22 255 HT_.out ?_
 refine Z.t7 8 61 22 511 HT_.out HW_.out hHeld ?_
 refine Z.pv 9 62 22 1023 HT_.out ?_
 refine Z.pv 10 63 22 2047 HT_.out ?_
 refine Z.pv 11 64 22 4095 HT_.out ?_
 refine Z.pv 12 65 22 8191 HT_.out ?_
 refine Z.pv 16 69 22 73727 HT_.out ?_
 refine Z.t7 13 66 22 81919 HT_.out HW_.out hHeld ?_
 refine Z.pv 14 67 22 98303 HT_.out ?_
 refine Z.t7 15 68 22 131071 HT_.out HW_.out hHeld ?_
 refine Z.t7 17 70 22 262143 HT_.out HW_.out hHeld ?_
 refine Z.pv 18 71 22 524287 HT_.out ?_
 refine Z.pv 19 72 22 1048575 HT_.out ?_
 refine Z.pv 20 73 22 2097151 HT_.out ?_
 refine Z.pv 21 10 22 4194303 HT_.out ?_
 refine done_ (done_of HT_.out (by kernel_rfl)) ?_
 try go_wp2
 go_ret
 exact ⟨by rfl, HB.out⟩
end Go.Proofs.Ytkogboechfieeaa.PAll
