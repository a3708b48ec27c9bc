/- Walks of functions that laws of this seat reach, in the form of the print. -/
import Derived.Test.YtkogboechfieeaaCAll38
import Derived.Test.YtkogboechfieeaaCAll39
-- PRINTED
namespace Go.Proofs.Ytkogboechfieeaa.PAll
open Go.RowKit Go.Proofs.YtkogboechfieeaaW.PrintWords Go.Proofs.YtkogboechfieeaaW.PrintLast Go.Proofs.YtkogboechfieeaaW.PrintMore
attribute [local go_sem] max2_int min2_int max_two min_two max_three min_three max_four min_four
set_option linter.unusedVariables false
set_option linter.unusedSimpArgs false

/-! ### spec_l20Charter: function 65 -/
namespace PutNew
open Go.Proofs.YtkogboechfieeaaW.PrintWords.Kd
theorem S_borrow_new {α : Type} {d : Kd α} {e base n cap : Nat} {W : World} {okP ok : Nat → Prop} {xs : List α} {vn : Value} {ad : Addr} (h : Kd.S d e W base okP (.slice (some ad) n cap) xs) (hp : ∀ k, okP k → ok k ∧ some k ≠ vn.ownBlock) (hn : ∀ k, some k = vn.ownBlock → ok k) (z : α) (i : Int) (h0 : 0 ≤ i) (h1 : i < n) :
    ∃ (oki : Nat → Prop) (c : List Value), c.length = d.sz ∧ d.M W base oki (xs.getD i.toNat z) c ∧ (∀ j u, c[j]? = some u → W.cell? (ad.add (i.toNat * d.sz + j)) = some u) ∧ (∀ k, oki k → (some k ≠ vn.ownBlock) ∧ some k ≠ (Value.slice (some ad) n cap).ownBlock) ∧
      ∀ {w1 : World} {row : Option Nat} {x' : α}, W.grownBy w1 row → (∀ k, row = some k → oki k) → d.M w1 base (fun k => oki k ∨ some k = vn.ownBlock) x' c → Kd.S d e w1 base ok (.slice (some ad) n cap) (xs.set i.toNat x') := by
  obtain ⟨g, rfl⟩ := Kd.R_head (Kd.S_R h)
  obtain ⟨oki, c, hcl, hM, hcc, hoki, hH⟩ := Kd.S_lend h z i h0 h1
  refine ⟨oki, c, hcl, hM, fun j u hu => ?_, fun k hk => ⟨(hp k (hoki k hk).1).2, fun he => (hoki k hk).2 ?_⟩, fun hg hrow hM1 => ?_⟩
  · rw [add_at, Nat.zero_add]; exact hcc j u hu
  · simpa [Value.ownBlock] using he
  · have hH1 := Kd.H_grown hH hg hrow
    exact Kd.H_back (Kd.H_more (okg := fun k => some k = vn.ownBlock) (Kd.H_mono hH1 (fun k hk => hp k hk)) hn) hM1 (fun _ hk => hk)
theorem cut {B : Nat} {W w1 : World} (_ : Below B W w1) : ∃ m_, m_ = B := ⟨_, rfl⟩
theorem cut_le {m : Nat} {W w1 : World} (hb : Below W.heap.size W w1) (hm : m = W.heap.size) : m ≤ w1.heap.size := hm ▸ hb.size
theorem S_above {α : Type} {d : Kd α} {e m base : Nat} {w : World} {ok : Nat → Prop} {v : Value} {xs : List α} (h : Kd.S d e w base ok v xs) (hm : m = base) : Kd.S d e w base (fun k_ => m ≤ k_) v xs := Kd.S_mono (Kd.S_bound h) (fun k hk => by rw [hm]; exact hk.2.1)
theorem S_under {α : Type} {d : Kd α} {e m base : Nat} {W w1 : World} {ok : Nat → Prop} {v : Value} {xs : List α} (h : Kd.S d e W base ok v xs) (hb : Below W.heap.size W w1) (hm : m = W.heap.size) : Kd.S d e w1 base (fun k_ => k_ < m) v xs := Kd.S_below (Kd.S_mono (Kd.S_bound h) (fun k hk => by rw [hm]; exact hk.2.2.1)) hb
end PutNew
mutual
def spec_l20Charter.l0 : Nat → Int → Int → Int → List Int → Int → Int → List Int → List (List (S37)) → Option (Int × List Int × (List (List (S37))) × Int)
 | 0, _, _, _, _, _, _, _, _ => none
 | k + 1, x1, x6, x7, x150, x143, x148, x132, x129 => if x7 < x6 then ((spec_l20Rd_pick.f k x150 x143 3).bind fun bt179 => (spec_l20Charter.l1 k x1 x6 x7 (([] : List (S37))) (wrap64 (1 + bt179.1)) x150 bt179.2 x148 x132 x129)) else (spec_l20Charter.l2 k x1 x6 0 x150 x143 x148 x132 x129)
def spec_l20Charter.l1 : Nat → Int → Int → Int → List (S37) → Int → List Int → Int → Int → List Int → List (List (S37)) → Option (Int × List Int × (List (List (S37))) × Int)
 | 0, _, _, _, _, _, _, _, _, _, _ => none
 | k + 1, x1, x6, x7, x8, x9, x150, x143, x148, x132, x129 => if x9 > 0 then ((spec_l20Atom.f k x150 x143 x148 x132).bind fun bt181 => (if x8.length < 3518437208883 then (spec_l20Charter.l1 k x1 x6 x7 (x8 ++ [(⟨bt181.1, (-1), 0⟩ : S37)]) (wrap64 (x9 - 1)) x150 bt181.2 x148 x132 x129) else (none))) else (if x129.length < 5864062014805 then (spec_l20Charter.l0 k x1 x6 (wrap64 (x7 + 1)) x150 x143 x148 x132 (x129 ++ [x8])) else (none))
def spec_l20Charter.l2 : Nat → Int → Int → Int → List Int → Int → Int → List Int → List (List (S37)) → Option (Int × List Int × (List (List (S37))) × Int)
 | 0, _, _, _, _, _, _, _, _ => none
 | k + 1, x1, x6, x10, x150, x143, x148, x132, x129 => if x10 < x6 then (spec_l20Charter.j3 k x1 x6 x10 (decide (x6 > 1)) x150 x143 x148 x132 x129) else (spec_l20Charter.j3 k x1 x6 x10 false x150 x143 x148 x132 x129)
def spec_l20Charter.j3 : Nat → Int → Int → Int → Bool → List Int → Int → Int → List Int → List (List (S37)) → Option (Int × List Int × (List (List (S37))) × Int)
 | 0, _, _, _, _, _, _, _, _, _ => none
 | k + 1, x1, x6, x10, x52, x150, x143, x148, x132, x129 => if x52 = true then (spec_l20Charter.l3 k x1 x6 x10 0 x150 x143 x148 x132 x129) else ((spec_l20Rd_odd.f k x150 x143 x1).bind fun bt207 => (if bt207.1 = true then ((spec_l20Rd_pick.f k x150 bt207.2 3).bind fun bt209 => (if bt209.1 = 0 then (if 0 < (x129.length : Int) then (if 0 < ((rd_L5 x129 0).length : Int) then (some (x148, x132, (x129.set (0 : Int).toNat ((rd_L5 x129 0).set (0 : Int).toNat (⟨(rd_T37 (rd_L5 x129 0) 0).f0, 0, (rd_T37 (rd_L5 x129 0) 0).f2⟩ : S37))), bt209.2)) else (none)) else (none)) else (if bt209.1 = 1 then (some (x148, x132, (([] : List (List (S37)))), bt209.2)) else (if 0 < (x129.length : Int) then (if 0 < ((rd_L5 x129 0).length : Int) then (some (x148, x132, (x129.set (0 : Int).toNat ((rd_L5 x129 0).set (0 : Int).toNat (⟨(([] : List (S111))), (rd_T37 (rd_L5 x129 0) 0).f1, (rd_T37 (rd_L5 x129 0) 0).f2⟩ : S37))), bt209.2)) else (none)) else (none))))) else (some (x148, x132, x129, bt207.2))))
def spec_l20Charter.l3 : Nat → Int → Int → Int → Int → List Int → Int → Int → List Int → List (List (S37)) → Option (Int × List Int × (List (List (S37))) × Int)
 | 0, _, _, _, _, _, _, _, _, _ => none
 | k + 1, x1, x6, x10, x11, x150, x143, x148, x132, x129 => if 0 ≤ x10 then (if x10 < (x129.length : Int) then (if x11 < ((rd_L5 x129 x10).length : Int) then ((spec_l20Rd_pick.f k x150 x143 (wrap64 (x6 - 1))).bind fun bt192 => (if x6 = 0 then (none) else ((spec_l20Rd_pick.f k x150 bt192.2 3).bind fun bt194 => (if bt194.1 = 0 then (if 0 ≤ x11 then ((some (x129.set (x10 : Int).toNat ((rd_L5 x129 x10).set (x11 : Int).toNat (⟨(rd_T37 (rd_L5 x129 x10) x11).f0, Int.tmod (wrap64 ((wrap64 (x10 + 1)) + bt192.1)) x6, (rd_T37 (rd_L5 x129 x10) x11).f2⟩ : S37)) : List (List (S37)))).bind fun y199 => (if 0 ≤ (Int.tmod (wrap64 ((wrap64 (x10 + 1)) + bt192.1)) x6) then (if (Int.tmod (wrap64 ((wrap64 (x10 + 1)) + bt192.1)) x6) < (x129.length : Int) then ((spec_l20Rd_pick.f k x150 bt194.2 ((rd_L5 y199 (Int.tmod (wrap64 ((wrap64 (x10 + 1)) + bt192.1)) x6)).length : Int)).bind fun bt202 => (if x11 < ((rd_L5 y199 x10).length : Int) then (spec_l20Charter.l3 k x1 x6 x10 (wrap64 (x11 + 1)) x150 bt202.2 x148 x132 (y199.set (x10 : Int).toNat ((rd_L5 y199 x10).set (x11 : Int).toNat (⟨(rd_T37 (rd_L5 y199 x10) x11).f0, (rd_T37 (rd_L5 y199 x10) x11).f1, bt202.1⟩ : S37)))) else (none))) else (none)) else (none))) else (none)) else (spec_l20Charter.l3 k x1 x6 x10 (wrap64 (x11 + 1)) x150 bt194.2 x148 x132 x129))))) else (spec_l20Charter.l2 k x1 x6 (wrap64 (x10 + 1)) x150 x143 x148 x132 x129)) else (none)) else (none)
end
def spec_l20Charter.f (k : Nat) (s0_0 : List Int) (s0_1 : Int) (a1 : Int) : Option (Int × List Int × (List (List (S37))) × Int) := (spec_l20House.f k s0_0 s0_1 0).bind fun bt168 => ((spec_l20Rd_pick.f k s0_0 bt168.2.2 3).bind fun bt174 => (spec_l20Charter.l0 k a1 (wrap64 (1 + bt174.1)) 0 s0_0 bt174.2 bt168.1 bt168.2.1 ([] : List (List (S37)))))
def spec_l20Charter.T21 : Bool × List (List Nat × List Nat) := (true, [([], []), ([0], [0]), ([], []), ([1, 2], [1, 2]), ([3], [3]), ([], []), ([], []), ([], []), ([7], [7]), ([], []), ([8, 9], [8, 9]), ([10], [10]), ([11], [11]), ([6, 12], [6, 12]), ([4, 5, 0, 1, 2, 3, 4, 5, 6, 7, 8, 9, 10, 11, 12, 13], [4, 5]), ([14, 0, 1, 2, 3, 4, 5, 6, 7, 8, 9, 10, 11, 12, 13], [14]), ([15, 13, 13, 0, 1, 2, 3, 4, 5, 6, 7, 8, 9, 10, 11, 12, 13], [13, 15])])
def spec_l20Charter.B21 : List Nat := [0, 1, 0, 7, 15, 0, 0, 0, 128, 0, 896, 1920, 3968, 8128, 16383, 32767, 65535]
theorem spec_l20Charter.tab21 : rtab .any (opsOf Try.f88 21) = spec_l20Charter.T21 := by kernel_rfl
theorem spec_l20Charter.bits21 : waitsOk spec_l20Charter.T21.2 spec_l20Charter.B21 = true := by kernel_rfl
set_option maxHeartbeats 8000000 in
set_option maxRecDepth 100000 in
theorem spec_l20Charter.callsS (k : Nat) (g : Nat) (s0_0 : List Int) (s0_1 : Int) (a1 : Int) (r1 : Int) (r2 : List Int) (r3 : List (List (S37))) (r4 : Int) (w0 w : World) (hI : IsS92 w0 w g s0_0 s0_1) (hB : Below w0.heap.size w0 w) (h : spec_l20Charter.f k s0_0 s0_1 a1 = some (r1, r2, r3, r4)) :
  Calls Try.prog 88 #[.pointer (some ⟨g, 0, none⟩), .int .i64 a1] w fun e w' => ∃ v1_ v2_ : Value, e = .returned (.agg #[.int .i64 r1, v1_, v2_]) ∧ Kd.R (Kd.int .i64) 3 w' w.heap.size (fun _ => True) v1_ r2 ∧ Kd.S (Kd.slice 37 k37) 34 w' w.heap.size (fun _ => True) v2_ r3 ∧ IsS92 w0 w' g s0_0 r4 ∧ Below w0.heap.size w0 w' ∧ KeepBut w w' g none := by
 have hu46 := Try.underlying28
 have hu25 := Try.underlying25
 have hu91 := Try.underlying37
 have HI0 := Z.k hI
 have HK := Z.k (KeepBut.refl w g none)
 have HL := Z.k hB.size
 clear hI
 have HW0 := Z.k hB.size
 have HB := Z.k hB
 clear hB
 have H : ((spec_l20House.f k s0_0 s0_1 0).bind fun bt168 => ((spec_l20Rd_pick.f k s0_0 bt168.2.2 3).bind fun bt174 => (spec_l20Charter.l0 k a1 (wrap64 (1 + bt174.1)) 0 s0_0 bt174.2 bt168.1 bt168.2.1 ([] : List (List (S37)))))) = some (r1, r2, r3, r4) := h
 clear h
 replace H := Option.bind_eq_some_iff.mp H
 obtain ⟨⟨t168, t169, t172⟩, A30, H⟩ := H
 replace H : ((spec_l20Rd_pick.f k s0_0 t172 3).bind fun bt174 => (spec_l20Charter.l0 k a1 (wrap64 (1 + bt174.1)) 0 s0_0 bt174.2 t168 t169 ([] : List (List (S37))))) = some (r1, r2, r3, r4) := H
 have A3 := Z.k A30
 clear A30
 replace H := Option.bind_eq_some_iff.mp H
 obtain ⟨⟨t174, t175⟩, A40, H⟩ := H
 replace H : (spec_l20Charter.l0 k a1 (wrap64 (1 + t174)) 0 s0_0 t175 t168 t169 ([] : List (List (S37)))) = some (r1, r2, r3, r4) := H
 have A4 := Z.k A40
 clear A40
 have H' := Z.k H
 clear H
 go_enter Try.func88, Try.ntmps88
 go_wp2_with (first | ((with_reducible refine gate_dst (N := 4) rfl ?_); refine box_event ?hg (N := 4) ?hd (cs := #[.int .i64 0, .slice none 0 0, .slice none 0 0]) (t := 28) ?hr ?_; (case hd => rfl); (case hg => rfl); (case hr => (go_simp; done)); intro gb167 hg w5 hbox hb; replace HB := Z.k (below_step HB.out hb); have BK167 := Z.k hbox; have GW167 := Z.k ((by rw [hg]; exact (keep_size (w := w) (g := g) (row := none) HK.out) : w.heap.size ≤ gb167)); have GE167 := Z.k ((Nat.le_trans HW0.out (by rw [hg]; exact (keep_size (w := w) (g := g) (row := none) HK.out) : w.heap.size ≤ gb167) : w0.heap.size ≤ gb167)); replace HK := Z.k (KeepBut.trans HK.out (KeepBut.of_below hb g none) (.inl rfl)); have NB0_167 := Z.k ((by rw [hg]; exact Nat.ne_of_lt (IsS92.lt HI0.out) : g ≠ gb167)); have NB167_0 := Z.k ((by rw [hg]; exact Nat.ne_of_gt (IsS92.lt HI0.out) : gb167 ≠ g)); replace HI0 := Z.k (IsS92.below HI0.out hb); clear hb hbox hg) | ((with_reducible refine gate_callee (f := 106) rfl ?_); refine goesL_ (some 14) rfl rfl Try.func106 (by kernel_rfl) rfl #[.pointer (some ⟨g, 0, none⟩), .int .i64 0] rfl Z.ar ?_; (with_reducible refine (spec_l20House.calls k g s0_0 s0_1 0 t168 t169 t172 w0 _ ?side1 ?side2 A3.out).mono ?_); (case side1 => exact HI0.out); (case side2 => exact HB.out); rintro e w6 ⟨v170, rfl, ho0, hi, hb, hk⟩; refine ⟨_, rfl, ?_⟩; replace BK167 := Z.kb hk BK167 NB167_0; have HO171 := Z.k (Kd.R_lower ho0 (keep_size (w := w) (g := g) (row := none) HK.out)); replace HK := Z.k (KeepBut.trans HK.out hk (.inl rfl)); replace HB := Z.k hb; replace HI0 := Z.k hi; (try clear hb hk hi); (try clear ho0); obtain ⟨Ao7, co7, eo7⟩ := Kd.R_slice HO171.out; subst eo7) | ((with_reducible refine gate_dst (N := 5) rfl ?_); refine box_event ?hg (N := 5) ?hd (cs := #[.int .i64 0, .slice none 0 0, .slice none 0 0]) (t := 28) ?hr ?_; (case hd => rfl); (case hg => rfl); (case hr => (go_simp; done)); intro gb173 hg w8 hbox hb; replace HO171 := Z.rb HO171 hb; replace HB := Z.k (below_step HB.out hb); have BK173 := Z.k hbox; have GW173 := Z.k ((by rw [hg]; exact (keep_size (w := w) (g := g) (row := none) HK.out) : w.heap.size ≤ gb173)); have GE173 := Z.k ((Nat.le_trans HW0.out (by rw [hg]; exact (keep_size (w := w) (g := g) (row := none) HK.out) : w.heap.size ≤ gb173) : w0.heap.size ≤ gb173)); replace HK := Z.k (KeepBut.trans HK.out (KeepBut.of_below hb g none) (.inl rfl)); have NB167_173 := Z.k ((by rw [hg]; exact Nat.ne_of_lt (blk_lt (g := gb167) (o := .cells #[.int .i64 0, .slice none 0 0, .slice none 0 0] 28 (0, 0)) (Z.bk BK167.out)) : gb167 ≠ gb173)); have NB173_167 := Z.k ((by rw [hg]; exact Nat.ne_of_gt (blk_lt (g := gb167) (o := .cells #[.int .i64 0, .slice none 0 0, .slice none 0 0] 28 (0, 0)) (Z.bk BK167.out)) : gb173 ≠ gb167)); replace BK167 := Z.k (blk_below (g := gb167) (o := .cells #[.int .i64 0, .slice none 0 0, .slice none 0 0] 28 (0, 0)) (Z.bk BK167.out) hb); have NB0_173 := Z.k ((by rw [hg]; exact Nat.ne_of_lt (IsS92.lt HI0.out) : g ≠ gb173)); have NB173_0 := Z.k ((by rw [hg]; exact Nat.ne_of_gt (IsS92.lt HI0.out) : gb173 ≠ g)); replace HI0 := Z.k (IsS92.below HI0.out hb); clear hb hbox hg; have hnb9 := NB173_167.out; have hnc9 := NB167_173.out; have hnb10 := NB173_0.out; have hnc10 := NB0_173.out; have hcz11_0 : w8.cell? ⟨gb173, 0, none⟩ = some (.int .i64 0) := Z.b BK173 0; have hcz11_1 : w8.cell? ⟨gb173, 1, none⟩ = some (.slice none 0 0) := Z.b BK173 1; have hcz11_2 : w8.cell? ⟨gb173, 2, none⟩ = some (.slice none 0 0) := Z.b BK173 2; have hfz11_0 := blk_frozen BK173.out 0; have hfz11_1 := blk_frozen BK173.out 1; have hfz11_2 := blk_frozen BK173.out 2) | ((with_reducible refine gate_callee (f := 73) rfl ?_); refine goesL_ (some 17) rfl rfl Try.func73 (by kernel_rfl) rfl #[.pointer (some ⟨g, 0, none⟩), .int .i64 3] rfl Z.ar ?_; (with_reducible refine (spec_l20Rd_pick.calls k g s0_0 t172 3 t174 t175 w0 _ ?side1 ?side2 A4.out).mono ?_); (case side1 => repeat ((with_reducible first | exact HI0.out | refine IsS92.far ?_ NB0_173.out _))); (case side2 => repeat ((with_reducible first | exact HB.out | refine below_set ?_ GE173.out))); rintro e w12 ⟨rfl, hi, hb, hk⟩; refine ⟨_, rfl, ?_⟩; replace BK167 := Z.k (KeepBut.blk hk (g' := gb167) (o := .cells #[.int .i64 0, .slice none 0 0, .slice none 0 0] 28 (0, 0)) (by refine blk_far ?_ NB167_173.out _; refine blk_far ?_ NB167_173.out _; refine blk_far ?_ NB167_173.out _; exact BK167.out) NB167_0.out (by simp)); replace HO171 := Z.k (Kd.R_mono (Kd.R_keep (IsS92.apart (show IsS92 w0 _ g s0_0 t172 from by repeat ((with_reducible first | exact HI0.out | refine IsS92.far ?_ NB0_173.out _))) (Kd.R_mono (Kd.R_far (p := ⟨gb173, 2, none⟩) (Kd.R_far (p := ⟨gb173, 1, none⟩) (Kd.R_far (p := ⟨gb173, 0, none⟩) (Kd.R_types HO171.out BK173.out (by decide)) (fun _ hk => hk.2) (.int .i64 t168)) (fun _ hk => hk.2) (.slice Ao7 t169.length co7)) (fun _ hk => hk.2) (.slice none 0 0)) (fun _ h_ => h_.1)) (by decide)) hk (fun _ h => h.2)) (fun _ h => h.1)); replace BK173 := Z.k (KeepBut.blk hk (g' := gb173) (o := .cells #[.int .i64 t168, .slice Ao7 t169.length co7, .slice none 0 0] 28 (0, 0)) (by refine blk_put (cs := #[.int .i64 t168, .slice Ao7 t169.length co7, .slice none 0 0]) ?_ 2 _ rfl; refine blk_put (cs := #[.int .i64 t168, .slice none 0 0, .slice none 0 0]) ?_ 1 _ rfl; refine blk_put (cs := #[.int .i64 0, .slice none 0 0, .slice none 0 0]) ?_ 0 _ rfl; exact BK173.out) NB173_0.out (by simp)); replace HK := Z.k (KeepBut.trans (by repeat ((with_reducible first | exact HK.out | refine keep_far ?_ GW173.out _))) hk (.inl rfl)); replace HB := Z.k hb; replace HI0 := Z.k hi; (try clear hb hk hi)))
 go_loopg [7] k (fun kq v7 w' => ∃ (x7_1 : Int) (x143_1 : Int) (x129_1 : List (List (S37))) (u129 : Value), v7 = .int .i64 x7_1 ∧ Aside0 (spec_l20Charter.l0 kq a1 (wrap64 (1 + t174)) x7_1 s0_0 x143_1 t168 t169 x129_1 = some (r1, r2, r3, r4)) ∧ Aside0 (kq ≤ k) ∧ Aside0 (Kd.R (Kd.int .i64) 3 w' w.heap.size (fun _ => True) (.slice Ao7 t169.length co7) t169) ∧ Aside0 (Kd.S (Kd.slice 37 k37) 34 w' w.heap.size (fun _ => True) u129 x129_1) ∧ Aside0 (w'.heap[gb167]? = some (.cells #[.int .i64 0, (.slice none 0 0), (.slice none 0 0)] 28 (0, 0))) ∧ Aside0 (w'.heap[gb173]? = some (.cells #[.int .i64 t168, (.slice Ao7 t169.length co7), u129] 28 (0, 0))) ∧ Aside0 (IsS92 w0 w' g s0_0 x143_1) ∧ Aside0 (KeepBut w w' g none) ∧ Aside0 (Below w0.heap.size w0 w'))
 case atStart => exact ⟨(0), (t175), (([] : List (List (S37)))), (.slice none 0 0), (by rfl), H', ⟨Nat.le_refl _⟩, ⟨by exact HO171.out⟩, ⟨by exact Kd.S_nil _ _ _ _ _⟩, ⟨by exact BK167.out⟩, ⟨by exact BK173.out⟩, ⟨HI0.out⟩, ⟨HK.out⟩, ⟨HB.out⟩⟩
 clear H'
 try clear hcz11_0
 try clear hcz11_1
 try clear hcz11_2
 try clear hfz11_0
 try clear hfz11_1
 try clear hfz11_2
 obtain ⟨x7_1, x143_1, x129_1, u129, rfl, HA, HK1, HO_132, HO_129, BK167, BK173, HI0, HK, HB⟩ := hrel
 cases gk with
 | zero => exact absurd HA.out (by simp [spec_l20Charter.l0])
 | succ k1 =>
  have H := HA.out
  clear HA
  simp only [spec_l20Charter.l0] at H
  revert H; refine Z.fc ?_ ?_ <;> intro c13b0 H
  ·obtain ⟨y176, hy176⟩ : ∃ y_ : List (S37), y_ = (([] : List (S37))) := ⟨_, rfl⟩
   replace H : ((spec_l20Rd_pick.f k1 s0_0 x143_1 3).bind fun bt179 => (spec_l20Charter.l1 k1 a1 (wrap64 (1 + t174)) x7_1 y176 (wrap64 (1 + bt179.1)) s0_0 bt179.2 t168 t169 x129_1)) = some (r1, r2, r3, r4) := by (rw [hy176]; with_reducible exact H)
   have Ny176 := Z.k hy176
   clear hy176
   replace H := Option.bind_eq_some_iff.mp H
   obtain ⟨⟨t179, t180⟩, A140, H⟩ := H
   replace H : (spec_l20Charter.l1 k1 a1 (wrap64 (1 + t174)) x7_1 y176 (wrap64 (1 + t179)) s0_0 t180 t168 t169 x129_1) = some (r1, r2, r3, r4) := H
   have A14 := Z.k A140
   clear A140
   have H' := Z.k H
   clear H
   go_wp2_with (first | ((with_reducible refine gate_dst (N := 24) rfl ?_); refine Kd.S_lit k37 _ 37 ?hg (N := 24) ?hd (xs := ([] : List (S37))) (inner := []) (ok := fun _ => True) (okp := fun _ => True) ?hr ?hp (fun _ hk => hk) trivial (Below.refl _ _) (Nat.le_refl _) (by simp) ?_; (case hd => rfl); (case hg => rfl); (case hr => (go_simp; done)); (case hp => exact (Reps.none _ _)); intro v177 w15 ho16 hb hg_ hnew_; clear hg_ hnew_; (rw [← Ny176.out] at ho16); have n0_ := Z.rb HO_132 hb; obtain ⟨m17, hm17⟩ : ∃ m_, m_ = _ := PutNew.cut hb; have HM := Z.k (PutNew.cut_le hb hm17); have n1_ := Z.k (PutNew.S_under HO_129.out hb hm17); have n2_ := Z.k (Kd.S_lower (PutNew.S_above ho16 hm17) (keep_size (w := w) (g := g) (row := none) HK.out)); have n3_ := Z.k (blk_below (g := gb167) (o := .cells #[.int .i64 0, .slice none 0 0, .slice none 0 0] 28 (0, 0)) (Z.bk BK167.out) hb); have n4_ := Z.k (blk_below (g := gb173) (o := .cells #[.int .i64 t168, .slice Ao7 t169.length co7, u129] 28 (0, 0)) (Z.bk BK173.out) hb); have n5_ := Z.k (IsS92.below HI0.out hb); have n6_ := Z.k (KeepBut.trans HK.out (KeepBut.of_below hb g none) (.inl rfl)); have n7_ := Z.k (below_step HB.out hb); clear HO_132; clear HO_129; clear BK167; clear BK173; clear HI0; clear HK; clear HB; have HO_132 := n0_; have HO_129 := n1_; have HO178 := n2_; have BK167 := n3_; have BK173 := n4_; have HI0 := n5_; have HK := n6_; have HB := n7_; clear n0_ n1_ n2_ n3_ n4_ n5_ n6_ n7_; clear hb ho16) | ((with_reducible refine gate_callee (f := 73) rfl ?_); refine goesL_ (some 26) rfl rfl Try.func73 (by kernel_rfl) rfl #[.pointer (some ⟨g, 0, none⟩), .int .i64 3] rfl Z.ar ?_; (with_reducible refine (spec_l20Rd_pick.calls k1 g s0_0 x143_1 3 t179 t180 w0 _ ?side1 ?side2 A14.out).mono ?_); (case side1 => exact HI0.out); (case side2 => exact HB.out); rintro e w17 ⟨rfl, hi, hb, hk⟩; refine ⟨_, rfl, ?_⟩; have HM := Z.k (Nat.le_trans HM.out hk.1); replace HO_132 := rk HI0 HO_132 hk; replace HO_129 := Z.k (Kd.S_mono (Kd.S_keep (IsS92.apartS HI0.out HO_129.out (by decide)) hk (fun _ h => h.2)) (fun _ h => h.1)); replace BK167 := Z.kb hk BK167 NB167_0; replace BK173 := Z.kb hk BK173 NB173_0; replace HO178 := Z.k (Kd.S_mono (Kd.S_keep (IsS92.apartS HI0.out HO178.out (by decide)) hk (fun _ h => h.2)) (fun _ h => h.1)); replace HK := Z.k (KeepBut.trans HK.out hk (.inl rfl)); replace HB := Z.k hb; replace HI0 := Z.k hi; (try clear hb hk hi)))
   go_loopg [8, 9] k1 (fun kq v8 v9 w' => ∃ (x8_2 : List (S37)) (x9_2 : Int) (x143_2 : Int), v9 = .int .i64 x9_2 ∧ Aside0 (spec_l20Charter.l1 kq a1 (wrap64 (1 + t174)) x7_1 x8_2 x9_2 s0_0 x143_2 t168 t169 x129_1 = some (r1, r2, r3, r4)) ∧ Aside0 (kq ≤ k1) ∧ Aside0 (Kd.S k37 37 w' w.heap.size (fun k_ => m17 ≤ k_) v8 x8_2) ∧ Aside0 (Kd.R (Kd.int .i64) 3 w' w.heap.size (fun _ => True) (.slice Ao7 t169.length co7) t169) ∧ Aside0 (Kd.S (Kd.slice 37 k37) 34 w' w.heap.size (fun k_ => k_ < m17) u129 x129_1) ∧ Aside0 (w'.heap[gb167]? = some (.cells #[.int .i64 0, (.slice none 0 0), (.slice none 0 0)] 28 (0, 0))) ∧ Aside0 (w'.heap[gb173]? = some (.cells #[.int .i64 t168, (.slice Ao7 t169.length co7), u129] 28 (0, 0))) ∧ Aside0 (IsS92 w0 w' g s0_0 x143_2) ∧ Aside0 (KeepBut w w' g none) ∧ Aside0 (Below w0.heap.size w0 w') ∧ Aside0 (m17 ≤ w'.heap.size))
   case atStart => exact ⟨(y176), (wrap64 (1 + t179)), (t180), (by rfl), H', ⟨Nat.le_refl _⟩, ⟨by exact HO178.out⟩, ⟨by exact HO_132.out⟩, ⟨by exact HO_129.out⟩, ⟨by exact BK167.out⟩, ⟨by exact BK173.out⟩, ⟨HI0.out⟩, ⟨HK.out⟩, ⟨HB.out⟩, ⟨by exact HM.out⟩⟩
   clear H'
   try clear c13b0
   obtain ⟨x8_2, x9_2, x143_2, rfl, HA, HK2, HO_8, HO_132, HO_129, BK167, BK173, HI0, HK, HB, HM⟩ := hrel
   cases gk with
   | zero => exact absurd HA.out (by simp [spec_l20Charter.l1])
   | succ k2 =>
    have H := HA.out
    clear HA
    simp only [spec_l20Charter.l1] at H
    revert H; refine Z.fm ?_ ?_ <;> intro c18b0 H
    ·by_cases c27 : x129_1.length < 5864062014805
     ·rw [if_pos c27] at H
      have LMc27 := Z.k c27
      clear c27
      obtain ⟨y188, hy188⟩ : ∃ y_ : List (List (S37)), y_ = (x129_1 ++ [x8_2]) := ⟨_, rfl⟩
      replace H : (spec_l20Charter.l0 k2 a1 (wrap64 (1 + t174)) (wrap64 (x7_1 + 1)) s0_0 x143_2 t168 t169 y188) = some (r1, r2, r3, r4) := by (rw [hy188]; with_reducible exact H)
      have Ny188 := Z.k hy188
      clear hy188
      have H' := Z.k H
      clear H
      have hnb28 := NB173_167.out
      have hnc28 := NB167_173.out
      have hnb29 := NB173_0.out
      have hnc29 := NB0_173.out
      have hcz30_0 : wr.cell? ⟨gb173, 0, none⟩ = some (.int .i64 t168) := Z.b BK173 0
      have hcz30_1 : wr.cell? ⟨gb173, 1, none⟩ = some (.slice Ao7 t169.length co7) := Z.b BK173 1
      have hcz30_2 : wr.cell? ⟨gb173, 2, none⟩ = some (u129) := Z.b BK173 2
      have hfz30_0 := blk_frozen BK173.out 0
      have hfz30_1 := blk_frozen BK173.out 1
      have hfz30_2 := blk_frozen BK173.out 2
      obtain ⟨Ao32, co32, eo32⟩ := Kd.S_slice HO_8.out
      subst eo32
      go_wp2_with (((with_reducible refine gate_builtin (b := .append) (xs := #[.tmp 41, .tmp 43]) rfl ?_); at_builtin; refine Kd.S_append (Kd.slice 37 k37) w.heap.size rfl (.tmp 41) (.tmp 43) 26 34 (.slice none 0 0) 24 rfl Try.underlying26 info34 rfl (by decide) (by omega) u129 x129_1 x8_2 [.slice Ao32 x8_2.length co32] (fun _ => True) (fun k_ => m17 ≤ k_) rfl rfl ?aP (fun k_ hk_ => ⟨trivial, fun e_ => Nat.not_le.mpr ((Kd.S_R HO_129.out).1 k_ e_.symm) hk_⟩) ?aF ?aO (Below.refl _ _) ?aS ?aL ?_; (case aP => exact Kd.M_row (Kd.S_R HO_8.out)); (case aF => exact (fun _ _ => trivial)); (case aO => exact (Kd.S_mono HO_129.out (fun k_ hk => ⟨trivial, Nat.not_le.mpr hk⟩))); (case aS => exact (keep_size (w := w) (g := g) (row := none) HK.out)); (case aL => have := LMc27.out; omega); intro v189 w31 ho hb hg hat; rw [← Ny188.out] at ho; have n0_ := Z.k (Kd.R_over' HO_132.out (Kd.S_typed HO_129.out) (by decide) hg); have n1_ := Z.k (blk_grown (g := gb167) (o := .cells #[.int .i64 0, .slice none 0 0, .slice none 0 0] 28 (0, 0)) (Z.bk BK167.out) hg (Kd.S_ne HO_129.out BK167.out (by decide))); have n2_ := Z.k (blk_grown (g := gb173) (o := .cells #[.int .i64 t168, .slice Ao7 t169.length co7, u129] 28 (0, 0)) (Z.bk BK173.out) hg (Kd.S_ne HO_129.out BK173.out (by decide))); have n3_ := Z.k (IsS92.grown HI0.out hg (IsS92.own_neS HI0.out HO_129.out (by decide))); have n4_ := Z.k (below_weaken HB.out HL.out hb); have n5_ := Z.k (KeepBut.trans HK.out (KeepBut.of_grown hg g) (Kd.S_base2 HO_129.out)); have n6_ := Z.k ho; clear HO_132; clear BK167; clear BK173; clear HI0; clear HB; clear HK; clear HO_129; clear HO_8; have HO_132 := n0_; have BK167 := n1_; have BK173 := n2_; have HI0 := n3_; have HB := n4_; have HK := n5_; have HO190 := n6_; clear n0_ n1_ n2_ n3_ n4_ n5_ n6_; clear ho hb hg hat; obtain ⟨Ao33, co33, eo33⟩ := Kd.S_slice HO190.out; subst eo33; have hcz34_0 : w31.cell? ⟨gb173, 0, none⟩ = some (.int .i64 t168) := Z.b BK173 0; have hcz34_1 : w31.cell? ⟨gb173, 1, none⟩ = some (.slice Ao7 t169.length co7) := Z.b BK173 1; have hcz34_2 : w31.cell? ⟨gb173, 2, none⟩ = some (u129) := Z.b BK173 2; have hfz34_0 := blk_frozen BK173.out 0; have hfz34_1 := blk_frozen BK173.out 1; have hfz34_2 := blk_frozen BK173.out 2))
      go_roundg k2
      case measure => have := HK1.out; have := HK2.out; omega
      case rel => exact ⟨(wrap64 (x7_1 + 1)), (x143_2), (y188), (.slice Ao33 y188.length co33), (by rfl), H', ⟨by have := HK1.out; have := HK2.out; omega⟩, ⟨by exact Kd.R_mono (Kd.R_far (p := ⟨gb173, 2, none⟩) (Kd.R_types HO_132.out BK173.out (by decide)) (fun _ hk => hk.2) (.slice Ao33 y188.length co33)) (fun _ hk => trivial)⟩, ⟨by exact Kd.S_mono (Kd.S_far (p := ⟨gb173, 2, none⟩) (Kd.S_types HO190.out BK173.out (by decide)) (fun _ hk => hk.2) (.slice Ao33 y188.length co33)) (fun _ hk => trivial)⟩, ⟨by refine blk_far ?_ NB167_173.out _; exact BK167.out⟩, ⟨by refine blk_put (cs := #[.int .i64 t168, .slice Ao7 t169.length co7, u129]) ?_ 2 _ rfl; exact BK173.out⟩, ⟨by repeat ((with_reducible first | exact HI0.out | refine IsS92.far ?_ NB0_173.out _))⟩, ⟨by repeat ((with_reducible first | exact HK.out | refine keep_far ?_ GW173.out _))⟩, ⟨by repeat ((with_reducible first | exact HB.out | refine below_set ?_ GE173.out))⟩⟩
     rw [if_neg c27] at H
     exact absurd H (by simp)
    replace H := Option.bind_eq_some_iff.mp H
    obtain ⟨⟨t181, t184⟩, A190, H⟩ := H
    replace H : (if x8_2.length < 3518437208883 then (spec_l20Charter.l1 k2 a1 (wrap64 (1 + t174)) x7_1 (x8_2 ++ [(⟨t181, (-1), 0⟩ : S37)]) (wrap64 (x9_2 - 1)) s0_0 t184 t168 t169 x129_1) else (none)) = some (r1, r2, r3, r4) := H
    have A19 := Z.k A190
    clear A190
    by_cases c20 : x8_2.length < 3518437208883
    ·rw [if_pos c20] at H
     have LMc20 := Z.k c20
     clear c20
     obtain ⟨y185, hy185⟩ : ∃ y_ : List (S37), y_ = (x8_2 ++ [(⟨t181, (-1), 0⟩ : S37)]) := ⟨_, rfl⟩
     replace H : (spec_l20Charter.l1 k2 a1 (wrap64 (1 + t174)) x7_1 y185 (wrap64 (x9_2 - 1)) s0_0 t184 t168 t169 x129_1) = some (r1, r2, r3, r4) := by (rw [hy185]; with_reducible exact H)
     have Ny185 := Z.k hy185
     clear hy185
     have H' := Z.k H
     clear H
     have hnb21 := NB173_167.out
     have hnc21 := NB167_173.out
     have hnb22 := NB173_0.out
     have hnc22 := NB0_173.out
     have hcz23_0 : wr.cell? ⟨gb173, 0, none⟩ = some (.int .i64 t168) := Z.b BK173 0
     have hcz23_1 : wr.cell? ⟨gb173, 1, none⟩ = some (.slice Ao7 t169.length co7) := Z.b BK173 1
     have hcz23_2 : wr.cell? ⟨gb173, 2, none⟩ = some (u129) := Z.b BK173 2
     have hfz23_0 := blk_frozen BK173.out 0
     have hfz23_1 := blk_frozen BK173.out 1
     have hfz23_2 := blk_frozen BK173.out 2
     go_wp2_with (first | ((with_reducible refine gate_callee (f := 107) rfl ?_); refine goesL_ (some 36) rfl rfl Try.func107 (by kernel_rfl) rfl #[.pointer (some ⟨g, 0, none⟩), .agg #[.int .i64 t168, .slice Ao7 t169.length co7]] rfl Z.ar ?_; (with_reducible refine (spec_l20Atom.calls k2 g s0_0 x143_2 t168 _ _ t169 t181 t184 w0 _ ?side1 ?side2 ?side3 ?side4 ?side5 A19.out).mono ?_); (case side1 => exact HI0.out); (case side2 => exact HB.out); (case side3 => exact (Kd.R_reads' HO_132.out).2.2); (case side4 => exact (Kd.R_reads' HO_132.out).2.1); (case side5 => exact far_slice (IsS92.own_ne HI0.out HO_132.out (by decide))); rintro e w24 ⟨v182, rfl, ho0, hi, hb, hk⟩; refine ⟨_, rfl, ?_⟩; have ho0 := Kd.R_mono (Kd.R_bound ho0) (fun k_ hk_ => (Nat.le_trans HM.out hk_.2.1 : m17 ≤ k_)); have HM := Z.k (Nat.le_trans HM.out hk.1); replace HO_8 := Z.k (Kd.S_mono (Kd.S_told (Kd.S_oldK (IsS92.apartS HI0.out HO_8.out (by decide)) hk) (Kd.R_base ho0)) (fun _ h_ => h_.1)); replace HO_132 := rk HI0 HO_132 hk; replace HO_129 := Z.k (Kd.S_mono (Kd.S_told (Kd.S_oldK (IsS92.apartS HI0.out HO_129.out (by decide)) hk) (Kd.R_base ho0)) (fun _ h_ => h_.1)); replace BK167 := Z.kb hk BK167 NB167_0; replace BK173 := Z.kb hk BK173 NB173_0; have HO183 := Z.k (Kd.R_lower ho0 (keep_size (w := w) (g := g) (row := none) HK.out)); replace HK := Z.k (KeepBut.trans HK.out hk (.inl rfl)); replace HB := Z.k hb; replace HI0 := Z.k hi; (try clear hb hk hi); (try clear ho0); obtain ⟨Ao25, co25, eo25⟩ := Kd.R_slice HO183.out; subst eo25) | ((with_reducible refine gate_builtin (b := .append) (xs := #[.tmp 32, .tmp 38]) rfl ?_); at_builtin; refine Kd.S_append k37 w.heap.size rfl (.tmp 32) (.tmp 38) 34 37 (.agg #[(.slice none 0 0), (.int .i64 0), (.int .i64 0)]) 40 rfl Try.underlying34 info37 rfl (by decide) (by omega) u8 x8_2 (⟨t181, (-1), 0⟩ : S37) [.slice Ao25 t181.length co25, .int .i64 (-1), .int .i64 0] (fun k_ => m17 ≤ k_) (fun k_ => some k_ = (.slice Ao25 t181.length co25 : Value).ownBlock) rfl rfl ?aP (fun k_ hk_ => ((Kd.R_mono (ok' := fun k_ => m17 ≤ k_ ∧ some k_ ≠ (u8 : Value).ownBlock) (Kd.R_apart' (HO183.out) (Kd.S_typed HO_8.out) (by decide)) (fun k_ hk => hk))).1 k_ hk_.symm) ?aF ?aO (Below.refl _ _) ?aS ?aL ?_; (case aP => exact k37_mkM _ _ _ (⟨t181, (-1), 0⟩ : S37) (Kd.R_mono (Kd.R_tight rfl (Kd.R_mono (ok' := fun k_ => m17 ≤ k_ ∧ some k_ ≠ (u8 : Value).ownBlock) (Kd.R_apart' (HO183.out) (Kd.S_typed HO_8.out) (by decide)) (fun k_ hk => hk))) (fun _ h_ => h_))); (case aF => exact (fun _ hk_ => Nat.le_trans HM.out hk_)); (case aO => exact (Kd.S_mono HO_8.out (fun k_ hk => ⟨hk.1, fun e_ => hk.2 e_⟩))); (case aS => exact (keep_size (w := w) (g := g) (row := none) HK.out)); (case aL => have := LMc20.out; omega); intro v186 w26 ho hb hg hat; rw [← Ny185.out] at ho; have n0_ := Z.k (Kd.R_over' HO_132.out (Kd.S_typed HO_8.out) (by decide) hg); have n1_ := Z.k (Kd.S_mono (Kd.S_after (ok := fun k_ => k_ < m17) (Kd.S_mono HO_129.out (fun k_ hk => ⟨hk.1, fun e_ => Nat.not_le.mpr hk.1 ((Kd.S_R HO_8.out).1 k_ e_.symm).1⟩)) hg hat) (fun _ h_ => h_.1)); have HM := Z.k (Nat.le_trans HM.out hg.size); have n2_ := Z.k (blk_grown (g := gb167) (o := .cells #[.int .i64 0, .slice none 0 0, .slice none 0 0] 28 (0, 0)) (Z.bk BK167.out) hg (Kd.S_ne HO_8.out BK167.out (by decide))); have n3_ := Z.k (blk_grown (g := gb173) (o := .cells #[.int .i64 t168, .slice Ao7 t169.length co7, u129] 28 (0, 0)) (Z.bk BK173.out) hg (Kd.S_ne HO_8.out BK173.out (by decide))); have n4_ := Z.k (IsS92.grown HI0.out hg (IsS92.own_neS HI0.out HO_8.out (by decide))); have n5_ := Z.k (below_weaken HB.out HL.out hb); have n6_ := Z.k (KeepBut.trans HK.out (KeepBut.of_grown hg g) (Kd.S_base2 HO_8.out)); have n7_ := Z.k ho; clear HO_132; clear HO_129; clear BK167; clear BK173; clear HI0; clear HB; clear HK; clear HO_8; clear HO183; have HO_132 := n0_; have HO_129 := n1_; have BK167 := n2_; have BK173 := n3_; have HI0 := n4_; have HB := n5_; have HK := n6_; have HO187 := n7_; clear n0_ n1_ n2_ n3_ n4_ n5_ n6_ n7_; clear ho hb hg hat))
     go_roundg k2
     case measure => have := HK1.out; have := HK2.out; omega
     case rel => exact ⟨(y185), (wrap64 (x9_2 - 1)), (t184), (by rfl), H', ⟨by have := HK1.out; have := HK2.out; omega⟩, ⟨by exact HO187.out⟩, ⟨by exact HO_132.out⟩, ⟨by exact HO_129.out⟩, ⟨by exact BK167.out⟩, ⟨by exact BK173.out⟩, ⟨HI0.out⟩, ⟨HK.out⟩, ⟨HB.out⟩, ⟨by exact HM.out⟩⟩
    rw [if_neg c20] at H
    exact absurd H (by simp)
  have H' := Z.k H
  clear H
  go_wp2
  go_loopg [10] k1 (fun kq v10 w' => ∃ (x10_2 : Int) (x143_2 : Int) (x129_2 : List (List (S37))) (u129 : Value), v10 = .int .i64 x10_2 ∧ Aside0 (spec_l20Charter.l2 kq a1 (wrap64 (1 + t174)) x10_2 s0_0 x143_2 t168 t169 x129_2 = some (r1, r2, r3, r4)) ∧ Aside0 (kq ≤ k1) ∧ Aside0 (Kd.R (Kd.int .i64) 3 w' w.heap.size (fun _ => True) (.slice Ao7 t169.length co7) t169) ∧ Aside0 (Kd.S (Kd.slice 37 k37) 34 w' w.heap.size (fun _ => True) u129 x129_2) ∧ Aside0 (w'.heap[gb167]? = some (.cells #[.int .i64 0, (.slice none 0 0), (.slice none 0 0)] 28 (0, 0))) ∧ Aside0 (w'.heap[gb173]? = some (.cells #[.int .i64 t168, (.slice Ao7 t169.length co7), u129] 28 (0, 0))) ∧ Aside0 (IsS92 w0 w' g s0_0 x143_2) ∧ Aside0 (KeepBut w w' g none) ∧ Aside0 (Below w0.heap.size w0 w'))
  case atStart => exact ⟨(0), (x143_1), (x129_1), (u129), (by rfl), H', ⟨Nat.le_refl _⟩, ⟨by exact HO_132.out⟩, ⟨by exact HO_129.out⟩, ⟨by exact BK167.out⟩, ⟨by exact BK173.out⟩, ⟨HI0.out⟩, ⟨HK.out⟩, ⟨HB.out⟩⟩
  clear H'
  try clear c13b0
  obtain ⟨x10_2, x143_2, x129_2, u129, rfl, HA, HK2, HO_132, HO_129, BK167, BK173, HI0, HK, HB⟩ := hrel
  cases gk with
  | zero => exact absurd HA.out (by simp [spec_l20Charter.l2])
  | succ k2 =>
   have H := HA.out
   clear HA
   simp only [spec_l20Charter.l2] at H
   have HC35 := Z.k H
   clear H
   go_upto_region 13 with (fail)
   go_cut [52] (fun v52 wc => ∃ (kq : Nat) (x52_34 : Bool), v52 = .bool x52_34 ∧ Aside0 (spec_l20Charter.j3 kq a1 (wrap64 (1 + t174)) x10_2 x52_34 s0_0 x143_2 t168 t169 x129_2 = some (r1, r2, r3, r4)) ∧ Aside0 (kq ≤ k2) ∧ Aside0 (Kd.R (Kd.int .i64) 3 wc w.heap.size (fun _ => True) (.slice Ao7 t169.length co7) t169) ∧ Aside0 (Kd.S (Kd.slice 37 k37) 34 wc w.heap.size (fun _ => True) u129 x129_2) ∧ Aside0 (wc.heap[gb167]? = some (.cells #[.int .i64 0, (.slice none 0 0), (.slice none 0 0)] 28 (0, 0))) ∧ Aside0 (wc.heap[gb173]? = some (.cells #[.int .i64 t168, (.slice Ao7 t169.length co7), u129] 28 (0, 0))) ∧ Aside0 (IsS92 w0 wc g s0_0 x143_2) ∧ Aside0 (KeepBut w wc g none) ∧ Aside0 (Below w0.heap.size w0 wc))
   case first =>
    have H := HC35.out
    clear HC35
    revert H; refine Z.fc ?_ ?_ <;> intro c36b0 H
    ·have H' := Z.k H
     clear H
     go_wp2
     go_meet
     case rel => exact ⟨_, (decide ((wrap64 (1 + t174)) > 1)), (by rfl), H', ⟨by have := HK1.out; have := HK2.out; omega⟩, ⟨by exact HO_132.out⟩, ⟨by exact HO_129.out⟩, ⟨by exact BK167.out⟩, ⟨by exact BK173.out⟩, ⟨HI0.out⟩, ⟨HK.out⟩, ⟨HB.out⟩⟩
    have H' := Z.k H
    clear H
    go_wp2
    go_meet
    case rel => exact ⟨_, (false), (by rfl), H', ⟨by have := HK1.out; have := HK2.out; omega⟩, ⟨by exact HO_132.out⟩, ⟨by exact HO_129.out⟩, ⟨by exact BK167.out⟩, ⟨by exact BK173.out⟩, ⟨HI0.out⟩, ⟨HK.out⟩, ⟨HB.out⟩⟩
   case rest =>
    clear HC35
    obtain ⟨kq, x52_34, rfl, HA, HJ34, HO_132, HO_129, BK167, BK173, HI0, HK, HB⟩ := hcut
    cases kq with
    | zero => exact absurd HA.out (by simp [spec_l20Charter.j3])
    | succ kj34 =>
     have H := HA.out
     clear HA
     simp only [spec_l20Charter.j3] at H
     by_cases c37 : x52_34 = true
     rotate_left
     ·replace c37 := Bool.eq_false_iff.mpr c37
      subst c37
      have H1 : ((spec_l20Rd_odd.f kj34 s0_0 x143_2 a1).bind fun bt207 => (if bt207.1 = true then ((spec_l20Rd_pick.f kj34 s0_0 bt207.2 3).bind fun bt209 => (if bt209.1 = 0 then (if 0 < (x129_2.length : Int) then (if 0 < ((rd_L5 x129_2 0).length : Int) then (some (t168, t169, (x129_2.set (0 : Int).toNat ((rd_L5 x129_2 0).set (0 : Int).toNat (⟨(rd_T37 (rd_L5 x129_2 0) 0).f0, 0, (rd_T37 (rd_L5 x129_2 0) 0).f2⟩ : S37))), bt209.2)) else (none)) else (none)) else (if bt209.1 = 1 then (some (t168, t169, (([] : List (List (S37)))), bt209.2)) else (if 0 < (x129_2.length : Int) then (if 0 < ((rd_L5 x129_2 0).length : Int) then (some (t168, t169, (x129_2.set (0 : Int).toNat ((rd_L5 x129_2 0).set (0 : Int).toNat (⟨(([] : List (S111))), (rd_T37 (rd_L5 x129_2 0) 0).f1, (rd_T37 (rd_L5 x129_2 0) 0).f2⟩ : S37))), bt209.2)) else (none)) else (none))))) else (some (t168, t169, x129_2, bt207.2)))) = some (r1, r2, r3, r4) := by rw [if_neg (show ¬ (false = true) by decide)] at H; exact H
      clear H
      have H := H1
      clear H1
      replace H := Option.bind_eq_some_iff.mp H
      obtain ⟨⟨t207, t208⟩, A760, H⟩ := H
      replace H : (if t207 = true then ((spec_l20Rd_pick.f kj34 s0_0 t208 3).bind fun bt209 => (if bt209.1 = 0 then (if 0 < (x129_2.length : Int) then (if 0 < ((rd_L5 x129_2 0).length : Int) then (some (t168, t169, (x129_2.set (0 : Int).toNat ((rd_L5 x129_2 0).set (0 : Int).toNat (⟨(rd_T37 (rd_L5 x129_2 0) 0).f0, 0, (rd_T37 (rd_L5 x129_2 0) 0).f2⟩ : S37))), bt209.2)) else (none)) else (none)) else (if bt209.1 = 1 then (some (t168, t169, (([] : List (List (S37)))), bt209.2)) else (if 0 < (x129_2.length : Int) then (if 0 < ((rd_L5 x129_2 0).length : Int) then (some (t168, t169, (x129_2.set (0 : Int).toNat ((rd_L5 x129_2 0).set (0 : Int).toNat (⟨(([] : List (S111))), (rd_T37 (rd_L5 x129_2 0) 0).f1, (rd_T37 (rd_L5 x129_2 0) 0).f2⟩ : S37))), bt209.2)) else (none)) else (none))))) else (some (t168, t169, x129_2, t208))) = some (r1, r2, r3, r4) := H
      have A76 := Z.k A760
      clear A760
      by_cases c77 : t207 = true
      rotate_left
      ·replace c77 := Bool.eq_false_iff.mpr c77
       subst c77
       have H1 : (some (t168, t169, x129_2, t208)) = some (r1, r2, r3, r4) := by rw [if_neg (show ¬ (false = true) by decide)] at H; exact H
       clear H
       have H := H1
       clear H1
       simp only [Option.some.injEq, Prod.mk.injEq] at H
       obtain ⟨rfl, rfl, rfl, rfl⟩ := H
       go_wp2_with (((with_reducible refine gate_callee (f := 89) rfl ?_); refine goesL_ (some 104) rfl rfl Try.func89 (by kernel_rfl) rfl #[.pointer (some ⟨g, 0, none⟩), .int .i64 a1] rfl Z.ar ?_; (with_reducible refine (spec_l20Rd_odd.calls kj34 g s0_0 x143_2 a1 false t208 w0 _ ?side1 ?side2 A76.out).mono ?_); (case side1 => exact HI0.out); (case side2 => exact HB.out); rintro e w121 ⟨rfl, hi, hb, hk⟩; refine ⟨_, rfl, ?_⟩; replace HO_132 := rk HI0 HO_132 hk; replace HO_129 := Z.k (Kd.S_mono (Kd.S_keep (IsS92.apartS HI0.out HO_129.out (by decide)) hk (fun _ h => h.2)) (fun _ h => h.1)); replace BK167 := Z.kb hk BK167 NB167_0; replace BK173 := Z.kb hk BK173 NB173_0; replace HK := Z.k (KeepBut.trans HK.out hk (.inl rfl)); replace HB := Z.k hb; replace HI0 := Z.k hi; (try clear hb hk hi); have hnb122 := NB173_167.out; have hnc122 := NB167_173.out; have hnb123 := NB173_0.out; have hnc123 := NB0_173.out; have hcz124_0 : w121.cell? ⟨gb173, 0, none⟩ = some (.int .i64 t168) := Z.b BK173 0; have hcz124_1 : w121.cell? ⟨gb173, 1, none⟩ = some (.slice Ao7 t169.length co7) := Z.b BK173 1; have hcz124_2 : w121.cell? ⟨gb173, 2, none⟩ = some (u129) := Z.b BK173 2; have hfz124_0 := blk_frozen BK173.out 0; have hfz124_1 := blk_frozen BK173.out 1; have hfz124_2 := blk_frozen BK173.out 2; have hnb125 := NB167_0.out; have hnc125 := NB0_167.out; have hcz126_0 : w121.cell? ⟨gb167, 0, none⟩ = some (.int .i64 0) := Z.b BK167 0; have hcz126_1 : w121.cell? ⟨gb167, 1, none⟩ = some (.slice none 0 0) := Z.b BK167 1; have hcz126_2 : w121.cell? ⟨gb167, 2, none⟩ = some (.slice none 0 0) := Z.b BK167 2; have hfz126_0 := blk_frozen BK167.out 0; have hfz126_1 := blk_frozen BK167.out 1; have hfz126_2 := blk_frozen BK167.out 2; obtain ⟨Ao127, co127, eo127⟩ := Kd.S_slice HO_129.out; subst eo127))
       refine bodyPost_ret (results_cell_row rfl _ _ gb167 28 #[.int .i64 t168, .slice Ao7 t169.length co7, .slice Ao127 x129_2.length co127] (0, 0) _ rfl (by refine blk_put (cs := #[.int .i64 t168, .slice Ao7 t169.length co7, .slice none 0 0]) ?_ 2 _ rfl; refine blk_put (cs := #[.int .i64 t168, .slice none 0 0, .slice none 0 0]) ?_ 1 _ rfl; refine blk_put (cs := #[.int .i64 0, .slice none 0 0, .slice none 0 0]) ?_ 0 _ rfl; exact BK167.out) Try.underlying28 rfl (by kernel_rfl)) rfl ?_
       exact ⟨_, _, by rfl, by exact Kd.R_mono (Kd.R_far (p := ⟨gb167, 2, none⟩) (Kd.R_far (p := ⟨gb167, 1, none⟩) (Kd.R_far (p := ⟨gb167, 0, none⟩) (Kd.R_types HO_132.out BK167.out (by decide)) (fun _ hk => hk.2) (.int .i64 t168)) (fun _ hk => hk.2) (.slice Ao7 t169.length co7)) (fun _ hk => hk.2) (.slice Ao127 x129_2.length co127)) (fun _ hk => trivial), by exact Kd.S_mono (Kd.S_far (p := ⟨gb167, 2, none⟩) (Kd.S_far (p := ⟨gb167, 1, none⟩) (Kd.S_far (p := ⟨gb167, 0, none⟩) (Kd.S_types HO_129.out BK167.out (by decide)) (fun _ hk => hk.2) (.int .i64 t168)) (fun _ hk => hk.2) (.slice Ao7 t169.length co7)) (fun _ hk => hk.2) (.slice Ao127 x129_2.length co127)) (fun _ hk => trivial), by repeat ((with_reducible first | exact HI0.out | refine IsS92.far ?_ NB0_167.out _)), by repeat ((with_reducible first | exact HB.out | refine below_set ?_ GE167.out)), by repeat ((with_reducible first | exact HK.out | refine keep_far ?_ GW167.out _))⟩

      subst c77
      have H1 : ((spec_l20Rd_pick.f kj34 s0_0 t208 3).bind fun bt209 => (if bt209.1 = 0 then (if 0 < (x129_2.length : Int) then (if 0 < ((rd_L5 x129_2 0).length : Int) then (some (t168, t169, (x129_2.set (0 : Int).toNat ((rd_L5 x129_2 0).set (0 : Int).toNat (⟨(rd_T37 (rd_L5 x129_2 0) 0).f0, 0, (rd_T37 (rd_L5 x129_2 0) 0).f2⟩ : S37))), bt209.2)) else (none)) else (none)) else (if bt209.1 = 1 then (some (t168, t169, (([] : List (List (S37)))), bt209.2)) else (if 0 < (x129_2.length : Int) then (if 0 < ((rd_L5 x129_2 0).length : Int) then (some (t168, t169, (x129_2.set (0 : Int).toNat ((rd_L5 x129_2 0).set (0 : Int).toNat (⟨(([] : List (S111))), (rd_T37 (rd_L5 x129_2 0) 0).f1, (rd_T37 (rd_L5 x129_2 0) 0).f2⟩ : S37))), bt209.2)) else (none)) else (none))))) = some (r1, r2, r3, r4) := by rw [if_pos rfl] at H; exact H
      clear H
      have H := H1
      clear H1
      replace H := Option.bind_eq_some_iff.mp H
      obtain ⟨⟨t209, t210⟩, A780, H⟩ := H
      replace H : (if t209 = 0 then (if 0 < (x129_2.length : Int) then (if 0 < ((rd_L5 x129_2 0).length : Int) then (some (t168, t169, (x129_2.set (0 : Int).toNat ((rd_L5 x129_2 0).set (0 : Int).toNat (⟨(rd_T37 (rd_L5 x129_2 0) 0).f0, 0, (rd_T37 (rd_L5 x129_2 0) 0).f2⟩ : S37))), t210)) else (none)) else (none)) else (if t209 = 1 then (some (t168, t169, (([] : List (List (S37)))), t210)) else (if 0 < (x129_2.length : Int) then (if 0 < ((rd_L5 x129_2 0).length : Int) then (some (t168, t169, (x129_2.set (0 : Int).toNat ((rd_L5 x129_2 0).set (0 : Int).toNat (⟨(([] : List (S111))), (rd_T37 (rd_L5 x129_2 0) 0).f1, (rd_T37 (rd_L5 x129_2 0) 0).f2⟩ : S37))), t210)) else (none)) else (none)))) = some (r1, r2, r3, r4) := H
      have A78 := Z.k A780
      clear A780
      by_cases c79 : t209 = 0
      ·rw [if_pos c79] at H
       have c79b0 : (t209 == 0) = true := beq_iff_eq.mpr c79
       have c79b1 : (t209 != 0) = false := bne_eq_false_iff_eq.mpr c79
       clear c79
       by_cases c80 : 0 < (x129_2.length : Int)
       ·rw [if_pos c80] at H
        have c80b0 : decide (0 < (x129_2.length : Int)) = true := decide_eq_true c80
        have c80b1 : decide (0 < x129_2.length) = true := decide_eq_true (by omega)
        clear c80
        by_cases c81 : 0 < ((rd_L5 x129_2 0).length : Int)
        ·rw [if_pos c81] at H
         have c81b0 : decide (0 < ((rd_L5 x129_2 0).length : Int)) = true := decide_eq_true c81
         have c81b1 : decide (0 < (rd_L5 x129_2 0).length) = true := decide_eq_true (by omega)
         clear c81
         obtain ⟨y212, hy212⟩ : ∃ y_ : List (S37), y_ = ((rd_L5 x129_2 0).set (0 : Int).toNat (⟨(rd_T37 (rd_L5 x129_2 0) 0).f0, 0, (rd_T37 (rd_L5 x129_2 0) 0).f2⟩ : S37)) := ⟨_, rfl⟩
         replace H : (some (t168, t169, (x129_2.set (0 : Int).toNat y212), t210)) = some (r1, r2, r3, r4) := by (rw [hy212]; with_reducible exact H)
         have Ny212 := Z.k hy212
         clear hy212
         obtain ⟨y214, hy214⟩ : ∃ y_ : List (List (S37)), y_ = (x129_2.set (0 : Int).toNat y212) := ⟨_, rfl⟩
         replace H : (some (t168, t169, y214, t210)) = some (r1, r2, r3, r4) := by (rw [hy214]; with_reducible exact H)
         have Ny214 := Z.k hy214
         clear hy214
         simp only [Option.some.injEq, Prod.mk.injEq] at H
         obtain ⟨rfl, rfl, rfl, rfl⟩ := H
         go_wp2_with (first | ((with_reducible refine gate_callee (f := 89) rfl ?_); refine goesL_ (some 104) rfl rfl Try.func89 (by kernel_rfl) rfl #[.pointer (some ⟨g, 0, none⟩), .int .i64 a1] rfl Z.ar ?_; (with_reducible refine (spec_l20Rd_odd.calls kj34 g s0_0 x143_2 a1 true t208 w0 _ ?side1 ?side2 A76.out).mono ?_); (case side1 => exact HI0.out); (case side2 => exact HB.out); rintro e w83 ⟨rfl, hi, hb, hk⟩; refine ⟨_, rfl, ?_⟩; replace HO_132 := rk HI0 HO_132 hk; replace HO_129 := Z.k (Kd.S_mono (Kd.S_keep (IsS92.apartS HI0.out HO_129.out (by decide)) hk (fun _ h => h.2)) (fun _ h => h.1)); replace BK167 := Z.kb hk BK167 NB167_0; replace BK173 := Z.kb hk BK173 NB173_0; replace HK := Z.k (KeepBut.trans HK.out hk (.inl rfl)); replace HB := Z.k hb; replace HI0 := Z.k hi; (try clear hb hk hi)) | ((with_reducible refine gate_callee (f := 73) rfl ?_); refine goesL_ (some 106) rfl rfl Try.func73 (by kernel_rfl) rfl #[.pointer (some ⟨g, 0, none⟩), .int .i64 3] rfl Z.ar ?_; (with_reducible refine (spec_l20Rd_pick.calls kj34 g s0_0 t208 3 t209 t210 w0 _ ?side1 ?side2 A78.out).mono ?_); (case side1 => exact HI0.out); (case side2 => exact HB.out); rintro e w84 ⟨rfl, hi, hb, hk⟩; refine ⟨_, rfl, ?_⟩; replace HO_132 := rk HI0 HO_132 hk; replace HO_129 := Z.k (Kd.S_mono (Kd.S_keep (IsS92.apartS HI0.out HO_129.out (by decide)) hk (fun _ h => h.2)) (fun _ h => h.1)); replace BK167 := Z.kb hk BK167 NB167_0; replace BK173 := Z.kb hk BK173 NB173_0; replace HK := Z.k (KeepBut.trans HK.out hk (.inl rfl)); replace HB := Z.k hb; replace HI0 := Z.k hi; (try clear hb hk hi); have hnb85 := NB173_167.out; have hnc85 := NB167_173.out; have hnb86 := NB173_0.out; have hnc86 := NB0_173.out; have hcz87_0 : w84.cell? ⟨gb173, 0, none⟩ = some (.int .i64 t168) := Z.b BK173 0; have hcz87_1 : w84.cell? ⟨gb173, 1, none⟩ = some (.slice Ao7 t169.length co7) := Z.b BK173 1; have hcz87_2 : w84.cell? ⟨gb173, 2, none⟩ = some (u129) := Z.b BK173 2; have hfz87_0 := blk_frozen BK173.out 0; have hfz87_1 := blk_frozen BK173.out 1; have hfz87_2 := blk_frozen BK173.out 2; obtain ⟨Ao88, co88, eo88⟩ := Kd.S_slice HO_129.out; subst eo88; have p211 : 0 ≤ (0 : Int) := (by omega); have q211 : 0 < (x129_2.length : Int) := Z.od; obtain ⟨ad211, A211_0, c211_0, e211, hx211_0, hl211_0, hi211_0⟩ := at_L5 (Kd.S_reads' HO_129.out).2.2 0 p211 q211; cases e211; obtain ⟨ce211, hce211, hMe211, hcc211⟩ := Kd.S_get HO_129.out [] 0 p211 q211; obtain ⟨ve211_0, rfl, ge211_0⟩ := hMe211; have hv211_0 := hcc211 0 _ rfl; rw [Nat.add_zero, show ((Kd.slice 37 k37)).sz = 1 from rfl, Nat.mul_one] at hv211_0; replace hv211_0 := Option.some.inj (hv211_0.symm.trans hx211_0); rw [hv211_0] at ge211_0; have HL211_0 := Z.k (show Kd.R k37 37 _ _ _ _ (rd_L5 x129_2 0) from ge211_0); clear hv211_0 ge211_0; have HX211_0 := Z.k hx211_0; clear hcc211 hce211; have qi211 : (0 < x129_2.length) = True := eq_true (by omega); (try rw [show ((0 : Int)).toNat = 0 from rfl] at hx211_0); (try rw [Addr.add_zero'] at hx211_0); have HR211_0 := Z.k hi211_0; have HC211_0 := Z.k hl211_0; clear hi211_0 hl211_0; replace p211 := eq_true p211; replace q211 := eq_true q211; have p82 : 0 ≤ (0 : Int) := (by omega); have q82 : (0 : Int) < (((rd_L5 x129_2 0).length : Int) : Int) := Z.od; have qi82 : (0 < (rd_L5 x129_2 0).length) = True := eq_true (by omega); obtain ⟨go82, co82, eo82, gb82, gl82, cl82, HG82⟩ := Kd.R_form HL211_0.out (by omega); (cases eo82); have GB82 := Z.k gb82; have GG82 := Z.k HG82; clear gb82 gl82 HG82; obtain ⟨ce82, hcl82, hM82, hcc82, hfr82⟩ := Kd.R_elem HL211_0.out z37 (0 : Int) p82 q82; obtain ⟨ve82_0, rfl, ge82_0⟩ := k37_openM hM82; have hx82_0 : w84.cell? ⟨go82, (0 : Int).toNat * 3, none⟩ = some (ve82_0) := hcc82 0 _ rfl; have hx82_1 : w84.cell? ⟨go82, (0 : Int).toNat * 3 + 1, none⟩ = some (.int .i64 ((rd_T37 (rd_L5 x129_2 0) 0).f1)) := hcc82 1 _ rfl; have hx82_2 : w84.cell? ⟨go82, (0 : Int).toNat * 3 + 2, none⟩ = some (.int .i64 ((rd_T37 (rd_L5 x129_2 0) 0).f2)) := hcc82 2 _ rfl; have hf82_0 : w84.frozen? ⟨go82, (0 : Int).toNat * 3, none⟩ = false := hfr82 0; have hf82_1 : w84.frozen? ⟨go82, (0 : Int).toNat * 3 + 1, none⟩ = false := hfr82 1; have hf82_2 : w84.frozen? ⟨go82, (0 : Int).toNat * 3 + 2, none⟩ = false := hfr82 2; clear hcl82 hcc82 hfr82 hM82; (try rw [show ((0 : Int)).toNat = 0 from rfl] at hx82_0); (try simp only [Nat.reduceMul, Nat.zero_mul, Nat.zero_add, Nat.reduceAdd] at hx82_0); (try rw [show ((0 : Int)).toNat = 0 from rfl] at hf82_0); (try simp only [Nat.reduceMul, Nat.zero_mul, Nat.zero_add, Nat.reduceAdd] at hf82_0); (try rw [show ((0 : Int)).toNat = 0 from rfl] at hx82_1); (try simp only [Nat.reduceMul, Nat.zero_mul, Nat.zero_add, Nat.reduceAdd] at hx82_1); (try rw [show ((0 : Int)).toNat = 0 from rfl] at hf82_1); (try simp only [Nat.reduceMul, Nat.zero_mul, Nat.zero_add, Nat.reduceAdd] at hf82_1); (try rw [show ((0 : Int)).toNat = 0 from rfl] at hx82_2); (try simp only [Nat.reduceMul, Nat.zero_mul, Nat.zero_add, Nat.reduceAdd] at hx82_2); (try rw [show ((0 : Int)).toNat = 0 from rfl] at hf82_2); (try simp only [Nat.reduceMul, Nat.zero_mul, Nat.zero_add, Nat.reduceAdd] at hf82_2); replace p82 := eq_true p82; replace q82 := eq_true q82; have hq89 : (0 : Int) < (x129_2.length : Int) := (by have h_ : (0 : Int) < ((x129_2.length : Int) : Int) := Z.od; exact h_); obtain ⟨oki89, ce89, hcl89, hM89, hcc89, hok89, hbk89⟩ := Kd.S_borrow HO_129.out [] (0 : Int) (by omega) hq89; obtain ⟨ve89_0, rfl, ge89_0⟩ := hM89; have hv89 := hcc89 0 _ rfl; rw [Nat.add_zero, show ((Kd.slice 37 k37)).sz = 1 from rfl, Nat.mul_one] at hv89; replace hv89 := Option.some.inj (hv89.symm.trans HX211_0.out); subst hv89; clear hcc89 hcl89; replace ge89_0 := (show Kd.R k37 37 _ _ _ _ (rd_L5 x129_2 0) from ge89_0); obtain ⟨cf89, hcl89, hN89, hcc89, hfr89⟩ := Kd.R_elem ge89_0 z37 (0 : Int) (by omega) (by have h_ : (0 : Int) < (((rd_L5 x129_2 0).length : Int) : Int) := Z.od; exact h_); obtain ⟨vf89_0, rfl, gf89_0⟩ := k37_openM hN89; have HP89 := Kd.R_seg ge89_0 (0 : Int) (by omega) (by have h_ : (0 : Int) < (((rd_L5 x129_2 0).length : Int) : Int) := Z.od; exact h_) (seg := [.int .i64 0]) (j := 1) hcl89 hcc89 (show 2 ≤ 3 from by decide) (x' := (⟨(rd_T37 (rd_L5 x129_2 0) 0).f0, 0, (rd_T37 (rd_L5 x129_2 0) 0).f2⟩ : S37)) (k37_mkM _ _ _ (⟨(rd_T37 (rd_L5 x129_2 0) 0).f0, 0, (rd_T37 (rd_L5 x129_2 0) 0).f2⟩ : S37) gf89_0) (fun _ hk => hk); clear hcl89 hcc89 hfr89 hN89) | ((with_reducible refine gate_store (t := 3) (p := 121) rfl ?_); refine store_event (t := 3) (p := 121) (v := ?vo_w90) (w1 := (w84.setCell ⟨go82, 1, none⟩ (.int .i64 0))) ?hg ?ho ?hn ?hr ?_; (case ho => rfl); (case hg => rfl); (case hn => rfl); (case hr => (go_simp; done)); intro w90 hw; have hg : w84.grownBy w90 (some go82) := (by rw [hw]; exact HP89.2); have hz_ : Kd.R k37 37 w90 w.heap.size oki89 (.slice (some ⟨go82, 0, none⟩) (rd_L5 x129_2 0).length c211_0) y212 := (by rw [hw, Ny212.out]; exact HP89.1); have hp_ : Kd.S (Kd.slice 37 k37) 34 w90 w.heap.size (fun _ => True) (.slice (some ad211) x129_2.length co88) y214 := (by rw [Ny214.out]; exact hbk89 hg (fun k_ e_ => by injection e_ with e_; subst e_; exact ge89_0.1 _ rfl) (Kd.M_row hz_)); have hm_ := Kd.R_mono hz_ hok89; clear HP89 hbk89; have n0_ := Z.k (Kd.R_over' (v := (.slice (some ⟨go82, 0, none⟩) (rd_L5 x129_2 0).length c211_0)) HO_132.out (Kd.R_typed HL211_0.out) (by decide) hg); have n1_ := Z.k hp_; have n2_ := Z.gb hg HL211_0 BK167; have n3_ := Z.gb hg HL211_0 BK173; have n4_ := Z.k (IsS92.grown HI0.out hg (IsS92.own_ne HI0.out HL211_0.out (by decide))); have n5_ := Z.k ((by rw [hw]; exact below_set (HB.out) (Nat.le_trans HL.out GB82.out) : Below w0.heap.size w0 w90)); have n6_ := Z.k (KeepBut.trans HK.out (KeepBut.of_grown hg g) (Kd.R_base2 HL211_0.out)); have n7_ := Z.k hm_; have n8_ := Z.k ((Kd.R_reads' hm_).2.1); clear HO_132; clear HO_129; clear BK167; clear BK173; clear HI0; clear HB; clear HK; clear HL211_0; have HO_132 := n0_; have HO_129 := n1_; have BK167 := n2_; have BK173 := n3_; have HI0 := n4_; have HB := n5_; have HK := n6_; have HL226 := n7_; have HC213 := n8_; clear n0_ n1_ n2_ n3_ n4_ n5_ n6_ n7_ n8_; clear hg hw hp_ hz_ hm_ hok89; have hcz91_0 : w90.cell? ⟨gb173, 0, none⟩ = some (.int .i64 t168) := Z.b BK173 0; have hcz91_1 : w90.cell? ⟨gb173, 1, none⟩ = some (.slice Ao7 t169.length co7) := Z.b BK173 1; have hcz91_2 : w90.cell? ⟨gb173, 2, none⟩ = some (.slice (some ad211) x129_2.length co88) := Z.b BK173 2; have hfz91_0 := blk_frozen BK173.out 0; have hfz91_1 := blk_frozen BK173.out 1; have hfz91_2 := blk_frozen BK173.out 2; have hnb92 := NB167_0.out; have hnc92 := NB0_167.out; have hcz93_0 : w90.cell? ⟨gb167, 0, none⟩ = some (.int .i64 0) := Z.b BK167 0; have hcz93_1 : w90.cell? ⟨gb167, 1, none⟩ = some (.slice none 0 0) := Z.b BK167 1; have hcz93_2 : w90.cell? ⟨gb167, 2, none⟩ = some (.slice none 0 0) := Z.b BK167 2; have hfz93_0 := blk_frozen BK167.out 0; have hfz93_1 := blk_frozen BK167.out 1; have hfz93_2 := blk_frozen BK167.out 2))
         refine bodyPost_ret (results_cell_row rfl _ _ gb167 28 #[.int .i64 t168, .slice Ao7 t169.length co7, .slice (some ad211) x129_2.length co88] (0, 0) _ rfl (by refine blk_put (cs := #[.int .i64 t168, .slice Ao7 t169.length co7, .slice none 0 0]) ?_ 2 _ rfl; refine blk_put (cs := #[.int .i64 t168, .slice none 0 0, .slice none 0 0]) ?_ 1 _ rfl; refine blk_put (cs := #[.int .i64 0, .slice none 0 0, .slice none 0 0]) ?_ 0 _ rfl; exact BK167.out) Try.underlying28 rfl (by kernel_rfl)) rfl ?_
         exact ⟨_, _, by rfl, by exact Kd.R_mono (Kd.R_far (p := ⟨gb167, 2, none⟩) (Kd.R_far (p := ⟨gb167, 1, none⟩) (Kd.R_far (p := ⟨gb167, 0, none⟩) (Kd.R_types HO_132.out BK167.out (by decide)) (fun _ hk => hk.2) (.int .i64 t168)) (fun _ hk => hk.2) (.slice Ao7 t169.length co7)) (fun _ hk => hk.2) (.slice (some ad211) x129_2.length co88)) (fun _ hk => trivial), by exact Kd.S_mono (Kd.S_far (p := ⟨gb167, 2, none⟩) (Kd.S_far (p := ⟨gb167, 1, none⟩) (Kd.S_far (p := ⟨gb167, 0, none⟩) (Kd.S_types HO_129.out BK167.out (by decide)) (fun _ hk => hk.2) (.int .i64 t168)) (fun _ hk => hk.2) (.slice Ao7 t169.length co7)) (fun _ hk => hk.2) (.slice (some ad211) x129_2.length co88)) (fun _ hk => trivial), by repeat ((with_reducible first | exact HI0.out | refine IsS92.far ?_ NB0_167.out _)), by repeat ((with_reducible first | exact HB.out | refine below_set ?_ GE167.out)), by repeat ((with_reducible first | exact HK.out | refine keep_far ?_ GW167.out _))⟩
        rw [if_neg c81] at H
        exact absurd H (by simp)
       rw [if_neg c80] at H
       exact absurd H (by simp)
      rw [if_neg c79] at H
      have c79b0 : (t209 == 0) = false := beq_eq_false_iff_ne.mpr c79
      have c79b1 : (t209 != 0) = true := bne_iff_ne.mpr c79
      by_cases c94 : t209 = 1
      ·rw [if_pos c94] at H
       have c94b0 : (t209 == 1) = true := beq_iff_eq.mpr c94
       have c94b1 : (t209 != 1) = false := bne_eq_false_iff_eq.mpr c94
       clear c94
       obtain ⟨y215, hy215⟩ : ∃ y_ : List (List (S37)), y_ = (([] : List (List (S37)))) := ⟨_, rfl⟩
       replace H : (some (t168, t169, y215, t210)) = some (r1, r2, r3, r4) := by (rw [hy215]; with_reducible exact H)
       have Ny215 := Z.k hy215
       clear hy215
       simp only [Option.some.injEq, Prod.mk.injEq] at H
       obtain ⟨rfl, rfl, rfl, rfl⟩ := H
       go_wp2_with (first | ((with_reducible refine gate_callee (f := 89) rfl ?_); refine goesL_ (some 104) rfl rfl Try.func89 (by kernel_rfl) rfl #[.pointer (some ⟨g, 0, none⟩), .int .i64 a1] rfl Z.ar ?_; (with_reducible refine (spec_l20Rd_odd.calls kj34 g s0_0 x143_2 a1 true t208 w0 _ ?side1 ?side2 A76.out).mono ?_); (case side1 => exact HI0.out); (case side2 => exact HB.out); rintro e w95 ⟨rfl, hi, hb, hk⟩; refine ⟨_, rfl, ?_⟩; replace HO_132 := rk HI0 HO_132 hk; replace HO_129 := Z.k (Kd.S_mono (Kd.S_keep (IsS92.apartS HI0.out HO_129.out (by decide)) hk (fun _ h => h.2)) (fun _ h => h.1)); replace BK167 := Z.kb hk BK167 NB167_0; replace BK173 := Z.kb hk BK173 NB173_0; replace HK := Z.k (KeepBut.trans HK.out hk (.inl rfl)); replace HB := Z.k hb; replace HI0 := Z.k hi; (try clear hb hk hi)) | ((with_reducible refine gate_callee (f := 73) rfl ?_); refine goesL_ (some 106) rfl rfl Try.func73 (by kernel_rfl) rfl #[.pointer (some ⟨g, 0, none⟩), .int .i64 3] rfl Z.ar ?_; (with_reducible refine (spec_l20Rd_pick.calls kj34 g s0_0 t208 3 t209 t210 w0 _ ?side1 ?side2 A78.out).mono ?_); (case side1 => exact HI0.out); (case side2 => exact HB.out); rintro e w96 ⟨rfl, hi, hb, hk⟩; refine ⟨_, rfl, ?_⟩; replace HO_132 := rk HI0 HO_132 hk; replace HO_129 := Z.k (Kd.S_mono (Kd.S_keep (IsS92.apartS HI0.out HO_129.out (by decide)) hk (fun _ h => h.2)) (fun _ h => h.1)); replace BK167 := Z.kb hk BK167 NB167_0; replace BK173 := Z.kb hk BK173 NB173_0; replace HK := Z.k (KeepBut.trans HK.out hk (.inl rfl)); replace HB := Z.k hb; replace HI0 := Z.k hi; (try clear hb hk hi)) | ((with_reducible refine gate_dst (N := 124) rfl ?_); refine Kd.S_lit (Kd.slice 37 k37) _ 34 ?hg (N := 124) ?hd (xs := ([] : List (List (S37)))) (inner := []) (ok := fun _ => True) (okp := fun _ => True) ?hr ?hp (fun _ hk => hk) trivial (Below.refl _ _) (Nat.le_refl _) (by simp) ?_; (case hd => rfl); (case hg => rfl); (case hr => (go_simp; done)); (case hp => exact (Reps.none _ _)); intro v216 w97 ho98 hb hg_ hnew_; clear hg_ hnew_; (rw [← Ny215.out] at ho98); replace HO_132 := Z.rb HO_132 hb; have HO217 := Z.k (Kd.S_lower (Kd.S_new' ho98 (Kd.S_lt HO_129.out)) (keep_size (w := w) (g := g) (row := none) HK.out)); replace HO_129 := Z.k (Kd.S_elder' HO_129.out (Kd.S_base ho98) hb); replace BK167 := Z.k (blk_below (g := gb167) (o := .cells #[.int .i64 0, .slice none 0 0, .slice none 0 0] 28 (0, 0)) (Z.bk BK167.out) hb); replace BK173 := Z.k (blk_below (g := gb173) (o := .cells #[.int .i64 t168, .slice Ao7 t169.length co7, u129] 28 (0, 0)) (Z.bk BK173.out) hb); replace HI0 := Z.k (IsS92.below HI0.out hb); replace HK := Z.k (KeepBut.trans HK.out (KeepBut.of_below hb g none) (.inl rfl)); replace HB := Z.k (below_step HB.out hb); clear hb ho98; obtain ⟨Ao99, co99, eo99⟩ := Kd.S_slice HO217.out; subst eo99; have hnb100 := NB173_167.out; have hnc100 := NB167_173.out; have hnb101 := NB173_0.out; have hnc101 := NB0_173.out; have hcz102_0 : w97.cell? ⟨gb173, 0, none⟩ = some (.int .i64 t168) := Z.b BK173 0; have hcz102_1 : w97.cell? ⟨gb173, 1, none⟩ = some (.slice Ao7 t169.length co7) := Z.b BK173 1; have hcz102_2 : w97.cell? ⟨gb173, 2, none⟩ = some (u129) := Z.b BK173 2; have hfz102_0 := blk_frozen BK173.out 0; have hfz102_1 := blk_frozen BK173.out 1; have hfz102_2 := blk_frozen BK173.out 2; have hnb103 := NB167_0.out; have hnc103 := NB0_167.out; have hcz104_0 : w97.cell? ⟨gb167, 0, none⟩ = some (.int .i64 0) := Z.b BK167 0; have hcz104_1 : w97.cell? ⟨gb167, 1, none⟩ = some (.slice none 0 0) := Z.b BK167 1; have hcz104_2 : w97.cell? ⟨gb167, 2, none⟩ = some (.slice none 0 0) := Z.b BK167 2; have hfz104_0 := blk_frozen BK167.out 0; have hfz104_1 := blk_frozen BK167.out 1; have hfz104_2 := blk_frozen BK167.out 2))
       refine bodyPost_ret (results_cell_row rfl _ _ gb167 28 #[.int .i64 t168, .slice Ao7 t169.length co7, .slice Ao99 y215.length co99] (0, 0) _ rfl (by refine blk_put (cs := #[.int .i64 t168, .slice Ao7 t169.length co7, .slice none 0 0]) ?_ 2 _ rfl; refine blk_put (cs := #[.int .i64 t168, .slice none 0 0, .slice none 0 0]) ?_ 1 _ rfl; refine blk_put (cs := #[.int .i64 0, .slice none 0 0, .slice none 0 0]) ?_ 0 _ rfl; refine blk_far ?_ NB167_173.out _; exact BK167.out) Try.underlying28 rfl (by kernel_rfl)) rfl ?_
       exact ⟨_, _, by rfl, by exact Kd.R_mono (Kd.R_far (p := ⟨gb167, 2, none⟩) (Kd.R_far (p := ⟨gb167, 1, none⟩) (Kd.R_far (p := ⟨gb167, 0, none⟩) (Kd.R_far (p := ⟨gb173, 2, none⟩) (Kd.R_types (Kd.R_types HO_132.out BK173.out (by decide)) BK167.out (by decide)) (fun _ hk => hk.1.2) (.slice Ao99 y215.length co99)) (fun _ hk => hk.2) (.int .i64 t168)) (fun _ hk => hk.2) (.slice Ao7 t169.length co7)) (fun _ hk => hk.2) (.slice Ao99 y215.length co99)) (fun _ hk => trivial), by exact Kd.S_mono (Kd.S_far (p := ⟨gb167, 2, none⟩) (Kd.S_far (p := ⟨gb167, 1, none⟩) (Kd.S_far (p := ⟨gb167, 0, none⟩) (Kd.S_far (p := ⟨gb173, 2, none⟩) (Kd.S_types (Kd.S_types HO217.out BK173.out (by decide)) BK167.out (by decide)) (fun _ hk => hk.1.2) (.slice Ao99 y215.length co99)) (fun _ hk => hk.2) (.int .i64 t168)) (fun _ hk => hk.2) (.slice Ao7 t169.length co7)) (fun _ hk => hk.2) (.slice Ao99 y215.length co99)) (fun _ hk => trivial), by repeat ((with_reducible first | exact HI0.out | refine IsS92.far ?_ NB0_167.out _ | refine IsS92.far ?_ NB0_173.out _)), by repeat ((with_reducible first | exact HB.out | refine below_set ?_ GE167.out | refine below_set ?_ GE173.out)), by repeat ((with_reducible first | exact HK.out | refine keep_far ?_ GW167.out _ | refine keep_far ?_ GW173.out _))⟩
      rw [if_neg c94] at H
      have c94b0 : (t209 == 1) = false := beq_eq_false_iff_ne.mpr c94
      have c94b1 : (t209 != 1) = true := bne_iff_ne.mpr c94
      by_cases c105 : 0 < (x129_2.length : Int)
      ·rw [if_pos c105] at H
       have c105b0 : decide (0 < (x129_2.length : Int)) = true := decide_eq_true c105
       have c105b1 : decide (0 < x129_2.length) = true := decide_eq_true (by omega)
       clear c105
       obtain ⟨y219, hy219⟩ : ∃ y_ : List (S111), y_ = (([] : List (S111))) := ⟨_, rfl⟩
       replace H : (if 0 < ((rd_L5 x129_2 0).length : Int) then (some (t168, t169, (x129_2.set (0 : Int).toNat ((rd_L5 x129_2 0).set (0 : Int).toNat (⟨y219, (rd_T37 (rd_L5 x129_2 0) 0).f1, (rd_T37 (rd_L5 x129_2 0) 0).f2⟩ : S37))), t210)) else (none)) = some (r1, r2, r3, r4) := by (rw [hy219]; with_reducible exact H)
       have Ny219 := Z.k hy219
       clear hy219
       by_cases c106 : 0 < ((rd_L5 x129_2 0).length : Int)
       ·rw [if_pos c106] at H
        have c106b0 : decide (0 < ((rd_L5 x129_2 0).length : Int)) = true := decide_eq_true c106
        have c106b1 : decide (0 < (rd_L5 x129_2 0).length) = true := decide_eq_true (by omega)
        clear c106
        obtain ⟨y222, hy222⟩ : ∃ y_ : List (S37), y_ = ((rd_L5 x129_2 0).set (0 : Int).toNat (⟨y219, (rd_T37 (rd_L5 x129_2 0) 0).f1, (rd_T37 (rd_L5 x129_2 0) 0).f2⟩ : S37)) := ⟨_, rfl⟩
        replace H : (some (t168, t169, (x129_2.set (0 : Int).toNat y222), t210)) = some (r1, r2, r3, r4) := by (rw [hy222]; with_reducible exact H)
        have Ny222 := Z.k hy222
        clear hy222
        obtain ⟨y224, hy224⟩ : ∃ y_ : List (List (S37)), y_ = (x129_2.set (0 : Int).toNat y222) := ⟨_, rfl⟩
        replace H : (some (t168, t169, y224, t210)) = some (r1, r2, r3, r4) := by (rw [hy224]; with_reducible exact H)
        have Ny224 := Z.k hy224
        clear hy224
        simp only [Option.some.injEq, Prod.mk.injEq] at H
        obtain ⟨rfl, rfl, rfl, rfl⟩ := H
        go_wp2_with (first | ((with_reducible refine gate_callee (f := 89) rfl ?_); refine goesL_ (some 104) rfl rfl Try.func89 (by kernel_rfl) rfl #[.pointer (some ⟨g, 0, none⟩), .int .i64 a1] rfl Z.ar ?_; (with_reducible refine (spec_l20Rd_odd.calls kj34 g s0_0 x143_2 a1 true t208 w0 _ ?side1 ?side2 A76.out).mono ?_); (case side1 => exact HI0.out); (case side2 => exact HB.out); rintro e w108 ⟨rfl, hi, hb, hk⟩; refine ⟨_, rfl, ?_⟩; replace HO_132 := rk HI0 HO_132 hk; replace HO_129 := Z.k (Kd.S_mono (Kd.S_keep (IsS92.apartS HI0.out HO_129.out (by decide)) hk (fun _ h => h.2)) (fun _ h => h.1)); replace BK167 := Z.kb hk BK167 NB167_0; replace BK173 := Z.kb hk BK173 NB173_0; replace HK := Z.k (KeepBut.trans HK.out hk (.inl rfl)); replace HB := Z.k hb; replace HI0 := Z.k hi; (try clear hb hk hi)) | ((with_reducible refine gate_callee (f := 73) rfl ?_); refine goesL_ (some 106) rfl rfl Try.func73 (by kernel_rfl) rfl #[.pointer (some ⟨g, 0, none⟩), .int .i64 3] rfl Z.ar ?_; (with_reducible refine (spec_l20Rd_pick.calls kj34 g s0_0 t208 3 t209 t210 w0 _ ?side1 ?side2 A78.out).mono ?_); (case side1 => exact HI0.out); (case side2 => exact HB.out); rintro e w109 ⟨rfl, hi, hb, hk⟩; refine ⟨_, rfl, ?_⟩; replace HO_132 := rk HI0 HO_132 hk; replace HO_129 := Z.k (Kd.S_mono (Kd.S_keep (IsS92.apartS HI0.out HO_129.out (by decide)) hk (fun _ h => h.2)) (fun _ h => h.1)); replace BK167 := Z.kb hk BK167 NB167_0; replace BK173 := Z.kb hk BK173 NB173_0; replace HK := Z.k (KeepBut.trans HK.out hk (.inl rfl)); replace HB := Z.k hb; replace HI0 := Z.k hi; (try clear hb hk hi); have hnb110 := NB173_167.out; have hnc110 := NB167_173.out; have hnb111 := NB173_0.out; have hnc111 := NB0_173.out; have hcz112_0 : w109.cell? ⟨gb173, 0, none⟩ = some (.int .i64 t168) := Z.b BK173 0; have hcz112_1 : w109.cell? ⟨gb173, 1, none⟩ = some (.slice Ao7 t169.length co7) := Z.b BK173 1; have hcz112_2 : w109.cell? ⟨gb173, 2, none⟩ = some (u129) := Z.b BK173 2; have hfz112_0 := blk_frozen BK173.out 0; have hfz112_1 := blk_frozen BK173.out 1; have hfz112_2 := blk_frozen BK173.out 2; obtain ⟨Ao113, co113, eo113⟩ := Kd.S_slice HO_129.out; subst eo113; have p218 : 0 ≤ (0 : Int) := (by omega); have q218 : 0 < (x129_2.length : Int) := Z.od; obtain ⟨ad218, A218_0, c218_0, e218, hx218_0, hl218_0, hi218_0⟩ := at_L5 (Kd.S_reads' HO_129.out).2.2 0 p218 q218; cases e218; obtain ⟨ce218, hce218, hMe218, hcc218⟩ := Kd.S_get HO_129.out [] 0 p218 q218; obtain ⟨ve218_0, rfl, ge218_0⟩ := hMe218; have hv218_0 := hcc218 0 _ rfl; rw [Nat.add_zero, show ((Kd.slice 37 k37)).sz = 1 from rfl, Nat.mul_one] at hv218_0; replace hv218_0 := Option.some.inj (hv218_0.symm.trans hx218_0); rw [hv218_0] at ge218_0; have HL218_0 := Z.k (show Kd.R k37 37 _ _ _ _ (rd_L5 x129_2 0) from ge218_0); clear hv218_0 ge218_0; have HX218_0 := Z.k hx218_0; clear hcc218 hce218; have qi218 : (0 < x129_2.length) = True := eq_true (by omega); (try rw [show ((0 : Int)).toNat = 0 from rfl] at hx218_0); (try rw [Addr.add_zero'] at hx218_0); have HR218_0 := Z.k hi218_0; have HC218_0 := Z.k hl218_0; clear hi218_0 hl218_0; replace p218 := eq_true p218; replace q218 := eq_true q218) | ((with_reducible refine gate_dst (N := 111) rfl ?_); refine Kd.R_lit k111 _ 111 ?hg (N := 111) ?hd (xs := ([] : List (S111))) (inner := []) (ok := fun _ => True) (okp := fun _ => True) ?hr ?hp (fun _ hk => hk) trivial (Below.refl _ _) (Nat.le_refl _) (by simp) ?_; (case hd => rfl); (case hg => rfl); (case hr => (go_simp; done)); (case hp => exact (Reps.none _ _)); intro v220 w114 ho115 hb hg_ hnew_; clear hg_ hnew_; (rw [← Ny219.out] at ho115); replace HO_132 := Z.rb HO_132 hb; replace HO_129 := Z.k (Kd.S_elder' HO_129.out (Kd.R_base ho115) hb); replace HL218_0 := Z.k (Kd.R_elder' HL218_0.out (Kd.R_base ho115) hb); have HO221 := Z.k (Kd.R_lower ho115 (keep_size (w := w) (g := g) (row := none) HK.out)); replace BK167 := Z.k (blk_below (g := gb167) (o := .cells #[.int .i64 0, .slice none 0 0, .slice none 0 0] 28 (0, 0)) (Z.bk BK167.out) hb); replace BK173 := Z.k (blk_below (g := gb173) (o := .cells #[.int .i64 t168, .slice Ao7 t169.length co7, .slice (some ad218) x129_2.length co113] 28 (0, 0)) (Z.bk BK173.out) hb); replace HI0 := Z.k (IsS92.below HI0.out hb); replace HR218_0 := Z.k (Kd.C_below HR218_0.out hb); replace HX218_0 := Z.k (pw_cell_below hb HX218_0.out); replace HK := Z.k (KeepBut.trans HK.out (KeepBut.of_below hb g none) (.inl rfl)); replace HB := Z.k (below_step HB.out hb); clear hb ho115; have p107 : 0 ≤ (0 : Int) := (by omega); have q107 : (0 : Int) < (((rd_L5 x129_2 0).length : Int) : Int) := Z.od; have qi107 : (0 < (rd_L5 x129_2 0).length) = True := eq_true (by omega); obtain ⟨go107, co107, eo107, gb107, gl107, cl107, HG107⟩ := Kd.R_form HL218_0.out (by omega); (cases eo107); have GB107 := Z.k gb107; have GG107 := Z.k HG107; clear gb107 gl107 HG107; obtain ⟨ce107, hcl107, hM107, hcc107, hfr107⟩ := Kd.R_elem HL218_0.out z37 (0 : Int) p107 q107; obtain ⟨ve107_0, rfl, ge107_0⟩ := k37_openM hM107; have hx107_0 : w114.cell? ⟨go107, (0 : Int).toNat * 3, none⟩ = some (ve107_0) := hcc107 0 _ rfl; have hx107_1 : w114.cell? ⟨go107, (0 : Int).toNat * 3 + 1, none⟩ = some (.int .i64 ((rd_T37 (rd_L5 x129_2 0) 0).f1)) := hcc107 1 _ rfl; have hx107_2 : w114.cell? ⟨go107, (0 : Int).toNat * 3 + 2, none⟩ = some (.int .i64 ((rd_T37 (rd_L5 x129_2 0) 0).f2)) := hcc107 2 _ rfl; have hf107_0 : w114.frozen? ⟨go107, (0 : Int).toNat * 3, none⟩ = false := hfr107 0; have hf107_1 : w114.frozen? ⟨go107, (0 : Int).toNat * 3 + 1, none⟩ = false := hfr107 1; have hf107_2 : w114.frozen? ⟨go107, (0 : Int).toNat * 3 + 2, none⟩ = false := hfr107 2; clear hcl107 hcc107 hfr107 hM107; (try rw [show ((0 : Int)).toNat = 0 from rfl] at hx107_0); (try simp only [Nat.reduceMul, Nat.zero_mul, Nat.zero_add, Nat.reduceAdd] at hx107_0); (try rw [show ((0 : Int)).toNat = 0 from rfl] at hf107_0); (try simp only [Nat.reduceMul, Nat.zero_mul, Nat.zero_add, Nat.reduceAdd] at hf107_0); (try rw [show ((0 : Int)).toNat = 0 from rfl] at hx107_1); (try simp only [Nat.reduceMul, Nat.zero_mul, Nat.zero_add, Nat.reduceAdd] at hx107_1); (try rw [show ((0 : Int)).toNat = 0 from rfl] at hf107_1); (try simp only [Nat.reduceMul, Nat.zero_mul, Nat.zero_add, Nat.reduceAdd] at hf107_1); (try rw [show ((0 : Int)).toNat = 0 from rfl] at hx107_2); (try simp only [Nat.reduceMul, Nat.zero_mul, Nat.zero_add, Nat.reduceAdd] at hx107_2); (try rw [show ((0 : Int)).toNat = 0 from rfl] at hf107_2); (try simp only [Nat.reduceMul, Nat.zero_mul, Nat.zero_add, Nat.reduceAdd] at hf107_2); replace p107 := eq_true p107; replace q107 := eq_true q107; have n_ := Z.k (Kd.S_mono (ok' := (fun k_ => some k_ ≠ (v220 : Value).ownBlock)) HO_129.out (fun k_ hk => hk.2)); clear HO_129; have HO_129 := n_; clear n_; obtain ⟨Ao220, co220, eo220⟩ := Kd.R_slice HO221.out; subst eo220; have hq116 : (0 : Int) < (x129_2.length : Int) := (by have h_ : (0 : Int) < ((x129_2.length : Int) : Int) := Z.od; exact h_); obtain ⟨oki116, ce116, hcl116, hM116, hcc116, hok116, hbk116⟩ := Kd.S_borrow HO_129.out [] (0 : Int) (by omega) hq116; obtain ⟨ve116_0, rfl, ge116_0⟩ := hM116; have hv116 := hcc116 0 _ rfl; rw [Nat.add_zero, show ((Kd.slice 37 k37)).sz = 1 from rfl, Nat.mul_one] at hv116; replace hv116 := Option.some.inj (hv116.symm.trans HX218_0.out); subst hv116; clear hcc116 hcl116; replace ge116_0 := (show Kd.R k37 37 _ _ _ _ (rd_L5 x129_2 0) from ge116_0); clear hbk116; obtain ⟨oki116, ce116, hcl116, hM116, hcc116, hok116, hbk116⟩ := PutNew.S_borrow_new (vn := (.slice Ao220 y219.length co220)) HO_129.out (ok := fun _ => True) (fun _ h_ => ⟨trivial, h_⟩) (fun _ _ => trivial) [] (0 : Int) (by omega) hq116; obtain ⟨ve116_0, rfl, ge116_0⟩ := hM116; have hv116 := hcc116 0 _ rfl; rw [Nat.add_zero, show ((Kd.slice 37 k37)).sz = 1 from rfl, Nat.mul_one] at hv116; replace hv116 := Option.some.inj (hv116.symm.trans HX218_0.out); subst hv116; clear hcc116 hcl116; replace ge116_0 := (show Kd.R k37 37 _ _ _ _ (rd_L5 x129_2 0) from ge116_0); obtain ⟨cf116, hcl116, hN116, hcc116, hfr116⟩ := Kd.R_elem ge116_0 z37 (0 : Int) (by omega) (by have h_ : (0 : Int) < (((rd_L5 x129_2 0).length : Int) : Int) := Z.od; exact h_); obtain ⟨vf116_0, rfl, gf116_0⟩ := k37_openM hN116; have HP116 := Kd.R_seg (Kd.R_mono (ok' := fun k_ => oki116 k_ ∨ some k_ = ((.slice Ao220 y219.length co220) : Value).ownBlock) ge116_0 (fun _ h_ => .inl h_)) (0 : Int) (by omega) (by have h_ : (0 : Int) < (((rd_L5 x129_2 0).length : Int) : Int) := Z.od; exact h_) (seg := [(.slice Ao220 y219.length co220)]) (j := 0) hcl116 hcc116 (show 1 ≤ 3 from by decide) (x' := (⟨y219, (rd_T37 (rd_L5 x129_2 0) 0).f1, (rd_T37 (rd_L5 x129_2 0) 0).f2⟩ : S37)) (k37_mkM _ _ _ (⟨y219, (rd_T37 (rd_L5 x129_2 0) 0).f1, (rd_T37 (rd_L5 x129_2 0) 0).f2⟩ : S37) (Kd.R_tight rfl HO221.out)) (fun k_ hk_ => ⟨.inr hk_, fun e_ => (hok116 _ (ge116_0.1 _ rfl)).1 (e_ ▸ hk_)⟩); clear hcl116 hcc116 hfr116 hN116 gf116_0) | ((with_reducible refine gate_store (t := 35) (p := 113) rfl ?_); refine store_event (t := 35) (p := 113) (v := ?vo_w117) (w1 := (w114.setCell ⟨go107, 0, none⟩ ((.slice Ao220 y219.length co220)))) ?hg ?ho ?hn ?hr ?_; (case ho => rfl); (case hg => rfl); (case hn => rfl); (case hr => (go_simp; done)); intro w117 hw; have hg : w114.grownBy w117 (some go107) := (by rw [hw]; exact HP116.2); have hz_ : Kd.R k37 37 w117 w.heap.size (fun k_ => oki116 k_ ∨ some k_ = ((.slice Ao220 y219.length co220) : Value).ownBlock) (.slice (some ⟨go107, 0, none⟩) (rd_L5 x129_2 0).length c218_0) y222 := (by rw [hw, Ny222.out]; exact HP116.1); have hp_ : Kd.S (Kd.slice 37 k37) 34 w117 w.heap.size (fun _ => True) (.slice (some ad218) x129_2.length co113) y224 := (by rw [Ny224.out]; exact hbk116 hg (fun k_ e_ => by injection e_ with e_; subst e_; exact ge116_0.1 _ rfl) (Kd.M_row hz_)); clear HP116 hbk116; have n0_ := Z.k (Kd.R_over' (v := (.slice (some ⟨go107, 0, none⟩) (rd_L5 x129_2 0).length c218_0)) HO_132.out (Kd.R_typed HL218_0.out) (by decide) hg); have n1_ := Z.k hp_; have n2_ := Z.gb hg HL218_0 BK167; have n3_ := Z.gb hg HL218_0 BK173; have n4_ := Z.k (IsS92.grown HI0.out hg (IsS92.own_ne HI0.out HL218_0.out (by decide))); have n5_ := Z.k ((by rw [hw]; exact below_set HB.out (Nat.le_trans HL.out GB107.out) : Below w0.heap.size w0 w117)); have n6_ := Z.k (KeepBut.trans HK.out (KeepBut.of_grown hg g) (Kd.R_base2 HL218_0.out)); clear HO_132; clear HO_129; clear BK167; clear BK173; clear HI0; clear HB; clear HK; clear HO221; clear HL218_0; have HO_132 := n0_; have HO_129 := n1_; have BK167 := n2_; have BK173 := n3_; have HI0 := n4_; have HB := n5_; have HK := n6_; clear n0_ n1_ n2_ n3_ n4_ n5_ n6_; clear hg hw hp_ hz_ hok116; have hcz118_0 : w117.cell? ⟨gb173, 0, none⟩ = some (.int .i64 t168) := Z.b BK173 0; have hcz118_1 : w117.cell? ⟨gb173, 1, none⟩ = some (.slice Ao7 t169.length co7) := Z.b BK173 1; have hcz118_2 : w117.cell? ⟨gb173, 2, none⟩ = some (.slice (some ad218) x129_2.length co113) := Z.b BK173 2; have hfz118_0 := blk_frozen BK173.out 0; have hfz118_1 := blk_frozen BK173.out 1; have hfz118_2 := blk_frozen BK173.out 2; have hnb119 := NB167_0.out; have hnc119 := NB0_167.out; have hcz120_0 : w117.cell? ⟨gb167, 0, none⟩ = some (.int .i64 0) := Z.b BK167 0; have hcz120_1 : w117.cell? ⟨gb167, 1, none⟩ = some (.slice none 0 0) := Z.b BK167 1; have hcz120_2 : w117.cell? ⟨gb167, 2, none⟩ = some (.slice none 0 0) := Z.b BK167 2; have hfz120_0 := blk_frozen BK167.out 0; have hfz120_1 := blk_frozen BK167.out 1; have hfz120_2 := blk_frozen BK167.out 2))
        refine bodyPost_ret (results_cell_row rfl _ _ gb167 28 #[.int .i64 t168, .slice Ao7 t169.length co7, .slice (some ad218) x129_2.length co113] (0, 0) _ rfl (by refine blk_put (cs := #[.int .i64 t168, .slice Ao7 t169.length co7, .slice none 0 0]) ?_ 2 _ rfl; refine blk_put (cs := #[.int .i64 t168, .slice none 0 0, .slice none 0 0]) ?_ 1 _ rfl; refine blk_put (cs := #[.int .i64 0, .slice none 0 0, .slice none 0 0]) ?_ 0 _ rfl; exact BK167.out) Try.underlying28 rfl (by kernel_rfl)) rfl ?_
        exact ⟨_, _, by rfl, by exact Kd.R_mono (Kd.R_far (p := ⟨gb167, 2, none⟩) (Kd.R_far (p := ⟨gb167, 1, none⟩) (Kd.R_far (p := ⟨gb167, 0, none⟩) (Kd.R_types HO_132.out BK167.out (by decide)) (fun _ hk => hk.2) (.int .i64 t168)) (fun _ hk => hk.2) (.slice Ao7 t169.length co7)) (fun _ hk => hk.2) (.slice (some ad218) x129_2.length co113)) (fun _ hk => trivial), by exact Kd.S_mono (Kd.S_far (p := ⟨gb167, 2, none⟩) (Kd.S_far (p := ⟨gb167, 1, none⟩) (Kd.S_far (p := ⟨gb167, 0, none⟩) (Kd.S_types HO_129.out BK167.out (by decide)) (fun _ hk => hk.2) (.int .i64 t168)) (fun _ hk => hk.2) (.slice Ao7 t169.length co7)) (fun _ hk => hk.2) (.slice (some ad218) x129_2.length co113)) (fun _ hk => trivial), by repeat ((with_reducible first | exact HI0.out | refine IsS92.far ?_ NB0_167.out _)), by repeat ((with_reducible first | exact HB.out | refine below_set ?_ GE167.out)), by repeat ((with_reducible first | exact HK.out | refine keep_far ?_ GW167.out _))⟩
       rw [if_neg c106] at H
       exact absurd H (by simp)
      rw [if_neg c105] at H
      exact absurd H (by simp)
     subst c37
     have H1 : (spec_l20Charter.l3 kj34 a1 (wrap64 (1 + t174)) x10_2 0 s0_0 x143_2 t168 t169 x129_2) = some (r1, r2, r3, r4) := by rw [if_pos rfl] at H; exact H
     clear H
     have H := H1
     clear H1
     have H' := Z.k H
     clear H
     go_wp2
     go_loopg [11] kj34 (fun kq v11 w' => ∃ (x11_4 : Int) (x143_4 : Int) (x129_4 : List (List (S37))) (u129 : Value), v11 = .int .i64 x11_4 ∧ Aside0 (spec_l20Charter.l3 kq a1 (wrap64 (1 + t174)) x10_2 x11_4 s0_0 x143_4 t168 t169 x129_4 = some (r1, r2, r3, r4)) ∧ Aside0 (kq ≤ kj34) ∧ Aside0 (Kd.R (Kd.int .i64) 3 w' w.heap.size (fun _ => True) (.slice Ao7 t169.length co7) t169) ∧ Aside0 (Kd.S (Kd.slice 37 k37) 34 w' w.heap.size (fun _ => True) u129 x129_4) ∧ Aside0 (w'.heap[gb167]? = some (.cells #[.int .i64 0, (.slice none 0 0), (.slice none 0 0)] 28 (0, 0))) ∧ Aside0 (w'.heap[gb173]? = some (.cells #[.int .i64 t168, (.slice Ao7 t169.length co7), u129] 28 (0, 0))) ∧ Aside0 (IsS92 w0 w' g s0_0 x143_4) ∧ Aside0 (KeepBut w w' g none) ∧ Aside0 (Below w0.heap.size w0 w'))
     case atStart => exact ⟨(0), (x143_2), (x129_2), (u129), (by rfl), H', ⟨Nat.le_refl _⟩, ⟨by exact HO_132.out⟩, ⟨by exact HO_129.out⟩, ⟨by exact BK167.out⟩, ⟨by exact BK173.out⟩, ⟨HI0.out⟩, ⟨HK.out⟩, ⟨HB.out⟩⟩
     clear H'
     obtain ⟨x11_4, x143_4, x129_4, u129, rfl, HA, HK4, HO_132, HO_129, BK167, BK173, HI0, HK, HB⟩ := hrel
     cases gk with
     | zero => exact absurd HA.out (by simp [spec_l20Charter.l3])
     | succ k4 =>
      have H := HA.out
      clear HA
      simp only [spec_l20Charter.l3] at H
      by_cases c38 : 0 ≤ x10_2
      rotate_left
      ·rw [if_neg c38] at H
       exact absurd H (by simp)
      rw [if_pos c38] at H
      have c38b0 : decide (0 ≤ x10_2) = true := decide_eq_true c38
      clear c38
      by_cases c39 : x10_2 < (x129_4.length : Int)
      rotate_left
      ·rw [if_neg c39] at H
       exact absurd H (by simp)
      rw [if_pos c39] at H
      have c39b0 : decide (x10_2 < (x129_4.length : Int)) = true := decide_eq_true c39
      clear c39
      revert H; refine Z.fm ?_ ?_ <;> intro c40b0 H
      ·have H' := Z.k H
       clear H
       have hnb72 := NB173_167.out
       have hnc72 := NB167_173.out
       have hnb73 := NB173_0.out
       have hnc73 := NB0_173.out
       have hcz74_0 : wr.cell? ⟨gb173, 0, none⟩ = some (.int .i64 t168) := Z.b BK173 0
       have hcz74_1 : wr.cell? ⟨gb173, 1, none⟩ = some (.slice Ao7 t169.length co7) := Z.b BK173 1
       have hcz74_2 : wr.cell? ⟨gb173, 2, none⟩ = some (u129) := Z.b BK173 2
       have hfz74_0 := blk_frozen BK173.out 0
       have hfz74_1 := blk_frozen BK173.out 1
       have hfz74_2 := blk_frozen BK173.out 2
       obtain ⟨Ao75, co75, eo75⟩ := Kd.S_slice HO_129.out
       subst eo75
       have p191 : 0 ≤ (x10_2 : Int) := Z.od
       have q191 : x10_2 < (x129_4.length : Int) := Z.od
       obtain ⟨ad191, A191_0, c191_0, e191, hx191_0, hl191_0, hi191_0⟩ := at_L5 (Kd.S_reads' HO_129.out).2.2 x10_2 p191 q191
       cases e191
       obtain ⟨ce191, hce191, hMe191, hcc191⟩ := Kd.S_get HO_129.out [] x10_2 p191 q191
       obtain ⟨ve191_0, rfl, ge191_0⟩ := hMe191
       have hv191_0 := hcc191 0 _ rfl
       rw [Nat.add_zero, show ((Kd.slice 37 k37)).sz = 1 from rfl, Nat.mul_one] at hv191_0
       replace hv191_0 := Option.some.inj (hv191_0.symm.trans hx191_0)
       rw [hv191_0] at ge191_0
       have HL191_0 := Z.k (show Kd.R k37 37 _ _ _ _ (rd_L5 x129_4 x10_2) from ge191_0)
       clear hv191_0 ge191_0
       have HX191_0 := Z.k hx191_0
       clear hcc191 hce191
       have HR191_0 := Z.k hi191_0
       have HC191_0 := Z.k hl191_0
       clear hi191_0 hl191_0
       replace p191 := eq_true p191
       replace q191 := eq_true q191
       go_wp2
       go_roundg k4
       case measure => have := HK1.out; have := HK2.out; have := HJ34.out; have := HK4.out; omega
       case rel => exact ⟨(wrap64 (x10_2 + 1)), (x143_4), (x129_4), (.slice (some ad191) x129_4.length co75), (by rfl), H', ⟨by have := HK1.out; have := HK2.out; have := HJ34.out; have := HK4.out; omega⟩, ⟨by exact HO_132.out⟩, ⟨by exact HO_129.out⟩, ⟨by exact BK167.out⟩, ⟨by exact BK173.out⟩, ⟨HI0.out⟩, ⟨HK.out⟩, ⟨HB.out⟩⟩
      replace H := Option.bind_eq_some_iff.mp H
      obtain ⟨⟨t192, t193⟩, A410, H⟩ := H
      replace H : (if (wrap64 (1 + t174)) = 0 then (none) else ((spec_l20Rd_pick.f k4 s0_0 t193 3).bind fun bt194 => (if bt194.1 = 0 then (if 0 ≤ x11_4 then ((some (x129_4.set (x10_2 : Int).toNat ((rd_L5 x129_4 x10_2).set (x11_4 : Int).toNat (⟨(rd_T37 (rd_L5 x129_4 x10_2) x11_4).f0, Int.tmod (wrap64 ((wrap64 (x10_2 + 1)) + t192)) (wrap64 (1 + t174)), (rd_T37 (rd_L5 x129_4 x10_2) x11_4).f2⟩ : S37)) : List (List (S37)))).bind fun y199 => (if 0 ≤ (Int.tmod (wrap64 ((wrap64 (x10_2 + 1)) + t192)) (wrap64 (1 + t174))) then (if (Int.tmod (wrap64 ((wrap64 (x10_2 + 1)) + t192)) (wrap64 (1 + t174))) < (x129_4.length : Int) then ((spec_l20Rd_pick.f k4 s0_0 bt194.2 ((rd_L5 y199 (Int.tmod (wrap64 ((wrap64 (x10_2 + 1)) + t192)) (wrap64 (1 + t174)))).length : Int)).bind fun bt202 => (if x11_4 < ((rd_L5 y199 x10_2).length : Int) then (spec_l20Charter.l3 k4 a1 (wrap64 (1 + t174)) x10_2 (wrap64 (x11_4 + 1)) s0_0 bt202.2 t168 t169 (y199.set (x10_2 : Int).toNat ((rd_L5 y199 x10_2).set (x11_4 : Int).toNat (⟨(rd_T37 (rd_L5 y199 x10_2) x11_4).f0, (rd_T37 (rd_L5 y199 x10_2) x11_4).f1, bt202.1⟩ : S37)))) else (none))) else (none)) else (none))) else (none)) else (spec_l20Charter.l3 k4 a1 (wrap64 (1 + t174)) x10_2 (wrap64 (x11_4 + 1)) s0_0 bt194.2 t168 t169 x129_4)))) = some (r1, r2, r3, r4) := H
      have A41 := Z.k A410
      clear A410
      by_cases c42 : (wrap64 (1 + t174)) = 0
      ·rw [if_pos c42] at H
       exact absurd H (by simp)
      rw [if_neg c42] at H
      have c42b0 : ((wrap64 (1 + t174)) == 0) = false := beq_eq_false_iff_ne.mpr c42
      have c42b1 : ((wrap64 (1 + t174)) != 0) = true := bne_iff_ne.mpr c42
      replace H := Option.bind_eq_some_iff.mp H
      obtain ⟨⟨t194, t195⟩, A430, H⟩ := H
      replace H : (if t194 = 0 then (if 0 ≤ x11_4 then ((some (x129_4.set (x10_2 : Int).toNat ((rd_L5 x129_4 x10_2).set (x11_4 : Int).toNat (⟨(rd_T37 (rd_L5 x129_4 x10_2) x11_4).f0, Int.tmod (wrap64 ((wrap64 (x10_2 + 1)) + t192)) (wrap64 (1 + t174)), (rd_T37 (rd_L5 x129_4 x10_2) x11_4).f2⟩ : S37)) : List (List (S37)))).bind fun y199 => (if 0 ≤ (Int.tmod (wrap64 ((wrap64 (x10_2 + 1)) + t192)) (wrap64 (1 + t174))) then (if (Int.tmod (wrap64 ((wrap64 (x10_2 + 1)) + t192)) (wrap64 (1 + t174))) < (x129_4.length : Int) then ((spec_l20Rd_pick.f k4 s0_0 t195 ((rd_L5 y199 (Int.tmod (wrap64 ((wrap64 (x10_2 + 1)) + t192)) (wrap64 (1 + t174)))).length : Int)).bind fun bt202 => (if x11_4 < ((rd_L5 y199 x10_2).length : Int) then (spec_l20Charter.l3 k4 a1 (wrap64 (1 + t174)) x10_2 (wrap64 (x11_4 + 1)) s0_0 bt202.2 t168 t169 (y199.set (x10_2 : Int).toNat ((rd_L5 y199 x10_2).set (x11_4 : Int).toNat (⟨(rd_T37 (rd_L5 y199 x10_2) x11_4).f0, (rd_T37 (rd_L5 y199 x10_2) x11_4).f1, bt202.1⟩ : S37)))) else (none))) else (none)) else (none))) else (none)) else (spec_l20Charter.l3 k4 a1 (wrap64 (1 + t174)) x10_2 (wrap64 (x11_4 + 1)) s0_0 t195 t168 t169 x129_4)) = some (r1, r2, r3, r4) := H
      have A43 := Z.k A430
      clear A430
      by_cases c44 : t194 = 0
      rotate_left
      ·rw [if_neg c44] at H
       have c44b0 : (t194 == 0) = false := beq_eq_false_iff_ne.mpr c44
       have c44b1 : (t194 != 0) = true := bne_iff_ne.mpr c44
       have H' := Z.k H
       clear H
       have hnb66 := NB173_167.out
       have hnc66 := NB167_173.out
       have hnb67 := NB173_0.out
       have hnc67 := NB0_173.out
       have hcz68_0 : wr.cell? ⟨gb173, 0, none⟩ = some (.int .i64 t168) := Z.b BK173 0
       have hcz68_1 : wr.cell? ⟨gb173, 1, none⟩ = some (.slice Ao7 t169.length co7) := Z.b BK173 1
       have hcz68_2 : wr.cell? ⟨gb173, 2, none⟩ = some (u129) := Z.b BK173 2
       have hfz68_0 := blk_frozen BK173.out 0
       have hfz68_1 := blk_frozen BK173.out 1
       have hfz68_2 := blk_frozen BK173.out 2
       obtain ⟨Ao69, co69, eo69⟩ := Kd.S_slice HO_129.out
       subst eo69
       have p191 : 0 ≤ (x10_2 : Int) := Z.od
       have q191 : x10_2 < (x129_4.length : Int) := Z.od
       obtain ⟨ad191, A191_0, c191_0, e191, hx191_0, hl191_0, hi191_0⟩ := at_L5 (Kd.S_reads' HO_129.out).2.2 x10_2 p191 q191
       cases e191
       obtain ⟨ce191, hce191, hMe191, hcc191⟩ := Kd.S_get HO_129.out [] x10_2 p191 q191
       obtain ⟨ve191_0, rfl, ge191_0⟩ := hMe191
       have hv191_0 := hcc191 0 _ rfl
       rw [Nat.add_zero, show ((Kd.slice 37 k37)).sz = 1 from rfl, Nat.mul_one] at hv191_0
       replace hv191_0 := Option.some.inj (hv191_0.symm.trans hx191_0)
       rw [hv191_0] at ge191_0
       have HL191_0 := Z.k (show Kd.R k37 37 _ _ _ _ (rd_L5 x129_4 x10_2) from ge191_0)
       clear hv191_0 ge191_0
       have HX191_0 := Z.k hx191_0
       clear hcc191 hce191
       have HR191_0 := Z.k hi191_0
       have HC191_0 := Z.k hl191_0
       clear hi191_0 hl191_0
       replace p191 := eq_true p191
       replace q191 := eq_true q191
       go_wp2_with (first | ((with_reducible refine gate_callee (f := 73) rfl ?_); refine goesL_ (some 70) rfl rfl Try.func73 (by kernel_rfl) rfl #[.pointer (some ⟨g, 0, none⟩), .int .i64 (wrap64 ((wrap64 (1 + t174)) - 1))] rfl Z.ar ?_; (with_reducible refine (spec_l20Rd_pick.calls k4 g s0_0 x143_4 (wrap64 ((wrap64 (1 + t174)) - 1)) t192 t193 w0 _ ?side1 ?side2 A41.out).mono ?_); (case side1 => exact HI0.out); (case side2 => exact HB.out); rintro e w70 ⟨rfl, hi, hb, hk⟩; refine ⟨_, rfl, ?_⟩; replace HO_132 := rk HI0 HO_132 hk; replace BK167 := Z.kb hk BK167 NB167_0; replace BK173 := Z.kb hk BK173 NB173_0; replace HL191_0 := rk HI0 HL191_0 hk; replace HX191_0 := Z.k (keep_cell hk HX191_0.out (by (rw [add_block]; exact Kd.own_blk (IsS92.own_neS HI0.out HO_129.out (by decide))))); replace HO_129 := Z.k (Kd.S_mono (Kd.S_keep (IsS92.apartS HI0.out HO_129.out (by decide)) hk (fun _ h => h.2)) (fun _ h => h.1)); replace HK := Z.k (KeepBut.trans HK.out hk (.inl rfl)); replace HB := Z.k hb; replace HI0 := Z.k hi; (try clear hb hk hi)) | ((with_reducible refine gate_callee (f := 73) rfl ?_); refine goesL_ (some 75) rfl rfl Try.func73 (by kernel_rfl) rfl #[.pointer (some ⟨g, 0, none⟩), .int .i64 3] rfl Z.ar ?_; (with_reducible refine (spec_l20Rd_pick.calls k4 g s0_0 t193 3 t194 t195 w0 _ ?side1 ?side2 A43.out).mono ?_); (case side1 => exact HI0.out); (case side2 => exact HB.out); rintro e w71 ⟨rfl, hi, hb, hk⟩; refine ⟨_, rfl, ?_⟩; replace HO_132 := rk HI0 HO_132 hk; replace BK167 := Z.kb hk BK167 NB167_0; replace BK173 := Z.kb hk BK173 NB173_0; replace HL191_0 := rk HI0 HL191_0 hk; replace HX191_0 := Z.k (keep_cell hk HX191_0.out (by (rw [add_block]; exact Kd.own_blk (IsS92.own_neS HI0.out HO_129.out (by decide))))); replace HO_129 := Z.k (Kd.S_mono (Kd.S_keep (IsS92.apartS HI0.out HO_129.out (by decide)) hk (fun _ h => h.2)) (fun _ h => h.1)); replace HK := Z.k (KeepBut.trans HK.out hk (.inl rfl)); replace HB := Z.k hb; replace HI0 := Z.k hi; (try clear hb hk hi)))
       go_roundg k4
       case measure => have := HK1.out; have := HK2.out; have := HJ34.out; have := HK4.out; omega
       case rel => exact ⟨(wrap64 (x11_4 + 1)), (t195), (x129_4), (.slice (some ad191) x129_4.length co69), (by rfl), H', ⟨by have := HK1.out; have := HK2.out; have := HJ34.out; have := HK4.out; omega⟩, ⟨by exact HO_132.out⟩, ⟨by exact HO_129.out⟩, ⟨by exact BK167.out⟩, ⟨by exact BK173.out⟩, ⟨HI0.out⟩, ⟨HK.out⟩, ⟨HB.out⟩⟩
      rw [if_pos c44] at H
      have c44b0 : (t194 == 0) = true := beq_iff_eq.mpr c44
      have c44b1 : (t194 != 0) = false := bne_eq_false_iff_eq.mpr c44
      clear c44
      by_cases c45 : 0 ≤ x11_4
      rotate_left
      ·rw [if_neg c45] at H
       exact absurd H (by simp)
      rw [if_pos c45] at H
      have c45b0 : decide (0 ≤ x11_4) = true := decide_eq_true c45
      clear c45
      obtain ⟨y197, hy197⟩ : ∃ y_ : List (S37), y_ = ((rd_L5 x129_4 x10_2).set (x11_4 : Int).toNat (⟨(rd_T37 (rd_L5 x129_4 x10_2) x11_4).f0, Int.tmod (wrap64 ((wrap64 (x10_2 + 1)) + t192)) (wrap64 (1 + t174)), (rd_T37 (rd_L5 x129_4 x10_2) x11_4).f2⟩ : S37)) := ⟨_, rfl⟩
      replace H : ((some (x129_4.set (x10_2 : Int).toNat y197 : List (List (S37)))).bind fun y199 => (if 0 ≤ (Int.tmod (wrap64 ((wrap64 (x10_2 + 1)) + t192)) (wrap64 (1 + t174))) then (if (Int.tmod (wrap64 ((wrap64 (x10_2 + 1)) + t192)) (wrap64 (1 + t174))) < (x129_4.length : Int) then ((spec_l20Rd_pick.f k4 s0_0 t195 ((rd_L5 y199 (Int.tmod (wrap64 ((wrap64 (x10_2 + 1)) + t192)) (wrap64 (1 + t174)))).length : Int)).bind fun bt202 => (if x11_4 < ((rd_L5 y199 x10_2).length : Int) then (spec_l20Charter.l3 k4 a1 (wrap64 (1 + t174)) x10_2 (wrap64 (x11_4 + 1)) s0_0 bt202.2 t168 t169 (y199.set (x10_2 : Int).toNat ((rd_L5 y199 x10_2).set (x11_4 : Int).toNat (⟨(rd_T37 (rd_L5 y199 x10_2) x11_4).f0, (rd_T37 (rd_L5 y199 x10_2) x11_4).f1, bt202.1⟩ : S37)))) else (none))) else (none)) else (none))) = some (r1, r2, r3, r4) := by (rw [hy197]; with_reducible exact H)
      have Ny197 := Z.k hy197
      clear hy197
      obtain ⟨y199, hy199⟩ : ∃ y_ : List (List (S37)), y_ = (x129_4.set (x10_2 : Int).toNat y197) := ⟨_, rfl⟩
      replace H : (if 0 ≤ (Int.tmod (wrap64 ((wrap64 (x10_2 + 1)) + t192)) (wrap64 (1 + t174))) then (if (Int.tmod (wrap64 ((wrap64 (x10_2 + 1)) + t192)) (wrap64 (1 + t174))) < (x129_4.length : Int) then ((spec_l20Rd_pick.f k4 s0_0 t195 ((rd_L5 y199 (Int.tmod (wrap64 ((wrap64 (x10_2 + 1)) + t192)) (wrap64 (1 + t174)))).length : Int)).bind fun bt202 => (if x11_4 < ((rd_L5 y199 x10_2).length : Int) then (spec_l20Charter.l3 k4 a1 (wrap64 (1 + t174)) x10_2 (wrap64 (x11_4 + 1)) s0_0 bt202.2 t168 t169 (y199.set (x10_2 : Int).toNat ((rd_L5 y199 x10_2).set (x11_4 : Int).toNat (⟨(rd_T37 (rd_L5 y199 x10_2) x11_4).f0, (rd_T37 (rd_L5 y199 x10_2) x11_4).f1, bt202.1⟩ : S37)))) else (none))) else (none)) else (none)) = some (r1, r2, r3, r4) := by (have H2_ := (Option.bind_some _ _).symm.trans H; rw [hy199]; with_reducible exact H2_)
      have Ny199 := Z.k hy199
      clear hy199
      obtain ⟨ji47, hji47⟩ : ∃ j_ : Int, (Int.tmod (wrap64 ((wrap64 (x10_2 + 1)) + t192)) (wrap64 (1 + t174))) = j_ := ⟨_, rfl⟩
      replace H : (if 0 ≤ (ji47) then (if (ji47) < (x129_4.length : Int) then ((spec_l20Rd_pick.f k4 s0_0 t195 ((rd_L5 y199 (ji47)).length : Int)).bind fun bt202 => (if x11_4 < ((rd_L5 y199 x10_2).length : Int) then (spec_l20Charter.l3 k4 a1 (wrap64 (1 + t174)) x10_2 (wrap64 (x11_4 + 1)) s0_0 bt202.2 t168 t169 (y199.set (x10_2 : Int).toNat ((rd_L5 y199 x10_2).set (x11_4 : Int).toNat (⟨(rd_T37 (rd_L5 y199 x10_2) x11_4).f0, (rd_T37 (rd_L5 y199 x10_2) x11_4).f1, bt202.1⟩ : S37)))) else (none))) else (none)) else (none)) = some (r1, r2, r3, r4) := by (rw [hji47] at H; exact H)
      subst hji47
      by_cases c48 : 0 ≤ (Int.tmod (wrap64 ((wrap64 (x10_2 + 1)) + t192)) (wrap64 (1 + t174)))
      rotate_left
      ·rw [if_neg c48] at H
       exact absurd H (by simp)
      rw [if_pos c48] at H
      have c48b0 : decide (0 ≤ (Int.tmod (wrap64 ((wrap64 (x10_2 + 1)) + t192)) (wrap64 (1 + t174)))) = true := decide_eq_true c48
      clear c48
      by_cases c49 : (Int.tmod (wrap64 ((wrap64 (x10_2 + 1)) + t192)) (wrap64 (1 + t174))) < (x129_4.length : Int)
      rotate_left
      ·rw [if_neg c49] at H
       exact absurd H (by simp)
      rw [if_pos c49] at H
      have c49b0 : decide ((Int.tmod (wrap64 ((wrap64 (x10_2 + 1)) + t192)) (wrap64 (1 + t174))) < (x129_4.length : Int)) = true := decide_eq_true c49
      clear c49
      replace H := Option.bind_eq_some_iff.mp H
      obtain ⟨⟨t202, t203⟩, A500, H⟩ := H
      replace H : (if x11_4 < ((rd_L5 y199 x10_2).length : Int) then (spec_l20Charter.l3 k4 a1 (wrap64 (1 + t174)) x10_2 (wrap64 (x11_4 + 1)) s0_0 t203 t168 t169 (y199.set (x10_2 : Int).toNat ((rd_L5 y199 x10_2).set (x11_4 : Int).toNat (⟨(rd_T37 (rd_L5 y199 x10_2) x11_4).f0, (rd_T37 (rd_L5 y199 x10_2) x11_4).f1, t202⟩ : S37)))) else (none)) = some (r1, r2, r3, r4) := H
      have A50 := Z.k A500
      clear A500
      by_cases c51 : x11_4 < ((rd_L5 y199 x10_2).length : Int)
      rotate_left
      ·rw [if_neg c51] at H
       exact absurd H (by simp)
      rw [if_pos c51] at H
      have c51b0 : decide (x11_4 < ((rd_L5 y199 x10_2).length : Int)) = true := decide_eq_true c51
      clear c51
      obtain ⟨y204, hy204⟩ : ∃ y_ : List (S37), y_ = ((rd_L5 y199 x10_2).set (x11_4 : Int).toNat (⟨(rd_T37 (rd_L5 y199 x10_2) x11_4).f0, (rd_T37 (rd_L5 y199 x10_2) x11_4).f1, t202⟩ : S37)) := ⟨_, rfl⟩
      replace H : (spec_l20Charter.l3 k4 a1 (wrap64 (1 + t174)) x10_2 (wrap64 (x11_4 + 1)) s0_0 t203 t168 t169 (y199.set (x10_2 : Int).toNat y204)) = some (r1, r2, r3, r4) := by (rw [hy204]; with_reducible exact H)
      have Ny204 := Z.k hy204
      clear hy204
      obtain ⟨y206, hy206⟩ : ∃ y_ : List (List (S37)), y_ = (y199.set (x10_2 : Int).toNat y204) := ⟨_, rfl⟩
      replace H : (spec_l20Charter.l3 k4 a1 (wrap64 (1 + t174)) x10_2 (wrap64 (x11_4 + 1)) s0_0 t203 t168 t169 y206) = some (r1, r2, r3, r4) := by (rw [hy206]; with_reducible exact H)
      have Ny206 := Z.k hy206
      clear hy206
      have H' := Z.k H
      clear H
      have hnb53 := NB173_167.out
      have hnc53 := NB167_173.out
      have hnb54 := NB173_0.out
      have hnc54 := NB0_173.out
      have hcz55_0 : wr.cell? ⟨gb173, 0, none⟩ = some (.int .i64 t168) := Z.b BK173 0
      have hcz55_1 : wr.cell? ⟨gb173, 1, none⟩ = some (.slice Ao7 t169.length co7) := Z.b BK173 1
      have hcz55_2 : wr.cell? ⟨gb173, 2, none⟩ = some (u129) := Z.b BK173 2
      have hfz55_0 := blk_frozen BK173.out 0
      have hfz55_1 := blk_frozen BK173.out 1
      have hfz55_2 := blk_frozen BK173.out 2
      obtain ⟨Ao56, co56, eo56⟩ := Kd.S_slice HO_129.out
      subst eo56
      have p191 : 0 ≤ (x10_2 : Int) := Z.od
      have q191 : x10_2 < (x129_4.length : Int) := Z.od
      obtain ⟨ad191, A191_0, c191_0, e191, hx191_0, hl191_0, hi191_0⟩ := at_L5 (Kd.S_reads' HO_129.out).2.2 x10_2 p191 q191
      cases e191
      obtain ⟨ce191, hce191, hMe191, hcc191⟩ := Kd.S_get HO_129.out [] x10_2 p191 q191
      obtain ⟨ve191_0, rfl, ge191_0⟩ := hMe191
      have hv191_0 := hcc191 0 _ rfl
      rw [Nat.add_zero, show ((Kd.slice 37 k37)).sz = 1 from rfl, Nat.mul_one] at hv191_0
      replace hv191_0 := Option.some.inj (hv191_0.symm.trans hx191_0)
      rw [hv191_0] at ge191_0
      have HL191_0 := Z.k (show Kd.R k37 37 _ _ _ _ (rd_L5 x129_4 x10_2) from ge191_0)
      clear hv191_0 ge191_0
      have HX191_0 := Z.k hx191_0
      clear hcc191 hce191
      have HR191_0 := Z.k hi191_0
      have HC191_0 := Z.k hl191_0
      clear hi191_0 hl191_0
      replace p191 := eq_true p191
      replace q191 := eq_true q191
      try go_wp2_with (first | ((with_reducible refine gate_callee (f := 73) rfl ?_); refine goesL_ (some 70) rfl rfl Try.func73 (by kernel_rfl) rfl #[.pointer (some ⟨g, 0, none⟩), .int .i64 (wrap64 ((wrap64 (1 + t174)) - 1))] rfl Z.ar ?_; (with_reducible refine (spec_l20Rd_pick.calls k4 g s0_0 x143_4 (wrap64 ((wrap64 (1 + t174)) - 1)) t192 t193 w0 _ ?side1 ?side2 A41.out).mono ?_); (case side1 => exact HI0.out); (case side2 => exact HB.out); rintro e w57 ⟨rfl, hi, hb, hk⟩; refine ⟨_, rfl, ?_⟩; replace HO_132 := rk HI0 HO_132 hk; replace BK167 := Z.kb hk BK167 NB167_0; replace BK173 := Z.kb hk BK173 NB173_0; replace HL191_0 := rk HI0 HL191_0 hk; replace HX191_0 := Z.k (keep_cell hk HX191_0.out (by (rw [add_block]; exact Kd.own_blk (IsS92.own_neS HI0.out HO_129.out (by decide))))); replace HO_129 := Z.k (Kd.S_mono (Kd.S_keep (IsS92.apartS HI0.out HO_129.out (by decide)) hk (fun _ h => h.2)) (fun _ h => h.1)); replace HK := Z.k (KeepBut.trans HK.out hk (.inl rfl)); replace HB := Z.k hb; replace HI0 := Z.k hi; (try clear hb hk hi)) | ((with_reducible refine gate_callee (f := 73) rfl ?_); refine goesL_ (some 75) rfl rfl Try.func73 (by kernel_rfl) rfl #[.pointer (some ⟨g, 0, none⟩), .int .i64 3] rfl Z.ar ?_; (with_reducible refine (spec_l20Rd_pick.calls k4 g s0_0 t193 3 t194 t195 w0 _ ?side1 ?side2 A43.out).mono ?_); (case side1 => exact HI0.out); (case side2 => exact HB.out); rintro e w58 ⟨rfl, hi, hb, hk⟩; refine ⟨_, rfl, ?_⟩; replace HO_132 := rk HI0 HO_132 hk; replace BK167 := Z.kb hk BK167 NB167_0; replace BK173 := Z.kb hk BK173 NB173_0; replace HL191_0 := rk HI0 HL191_0 hk; replace HX191_0 := Z.k (keep_cell hk HX191_0.out (by (rw [add_block]; exact Kd.own_blk (IsS92.own_neS HI0.out HO_129.out (by decide))))); replace HO_129 := Z.k (Kd.S_mono (Kd.S_keep (IsS92.apartS HI0.out HO_129.out (by decide)) hk (fun _ h => h.2)) (fun _ h => h.1)); replace HK := Z.k (KeepBut.trans HK.out hk (.inl rfl)); replace HB := Z.k hb; replace HI0 := Z.k hi; (try clear hb hk hi); have hcz59_0 : w58.cell? ⟨gb173, 0, none⟩ = some (.int .i64 t168) := Z.b BK173 0; have hcz59_1 : w58.cell? ⟨gb173, 1, none⟩ = some (.slice Ao7 t169.length co7) := Z.b BK173 1; have hcz59_2 : w58.cell? ⟨gb173, 2, none⟩ = some (.slice (some ad191) x129_4.length co56) := Z.b BK173 2; have hfz59_0 := blk_frozen BK173.out 0; have hfz59_1 := blk_frozen BK173.out 1; have hfz59_2 := blk_frozen BK173.out 2; have p196 : 0 ≤ (x10_2 : Int) := Z.od; have q196 : x10_2 < (x129_4.length : Int) := Z.od; obtain ⟨ad196, A196_0, c196_0, e196, hx196_0, hl196_0, hi196_0⟩ := at_L5 (Kd.S_reads' HO_129.out).2.2 x10_2 p196 q196; obtain rfl : ad191 = ad196 := (by injection e196); obtain ⟨ce196, hce196, hMe196, hcc196⟩ := Kd.S_get HO_129.out [] x10_2 p196 q196; obtain ⟨ve196_0, rfl, ge196_0⟩ := hMe196; have hv196_0 := hcc196 0 _ rfl; rw [Nat.add_zero, show ((Kd.slice 37 k37)).sz = 1 from rfl, Nat.mul_one] at hv196_0; replace hv196_0 := Option.some.inj (hv196_0.symm.trans hx196_0); rw [hv196_0] at ge196_0; have HL196_0 := Z.k (show Kd.R k37 37 _ _ _ _ (rd_L5 x129_4 x10_2) from ge196_0); clear hv196_0 ge196_0; have HX196_0 := Z.k hx196_0; clear hcc196 hce196; have HR196_0 := Z.k hi196_0; have HC196_0 := Z.k hl196_0; clear hi196_0 hl196_0; replace p196 := eq_true p196; replace q196 := eq_true q196; have p46 : 0 ≤ (x11_4 : Int) := Z.od; have q46 : (x11_4 : Int) < (((rd_L5 x129_4 x10_2).length : Int) : Int) := Z.od; obtain ⟨go46, co46, eo46, gb46, gl46, cl46, HG46⟩ := Kd.R_form HL196_0.out (by omega); (cases eo46); have GB46 := Z.k gb46; have GG46 := Z.k HG46; clear gb46 gl46 HG46; obtain ⟨ce46, hcl46, hM46, hcc46, hfr46⟩ := Kd.R_elem HL196_0.out z37 (x11_4 : Int) p46 q46; obtain ⟨ve46_0, rfl, ge46_0⟩ := k37_openM hM46; have hx46_0 : w58.cell? ⟨go46, (x11_4 : Int).toNat * 3, none⟩ = some (ve46_0) := hcc46 0 _ rfl; have hx46_1 : w58.cell? ⟨go46, (x11_4 : Int).toNat * 3 + 1, none⟩ = some (.int .i64 ((rd_T37 (rd_L5 x129_4 x10_2) x11_4).f1)) := hcc46 1 _ rfl; have hx46_2 : w58.cell? ⟨go46, (x11_4 : Int).toNat * 3 + 2, none⟩ = some (.int .i64 ((rd_T37 (rd_L5 x129_4 x10_2) x11_4).f2)) := hcc46 2 _ rfl; have hf46_0 : w58.frozen? ⟨go46, (x11_4 : Int).toNat * 3, none⟩ = false := hfr46 0; have hf46_1 : w58.frozen? ⟨go46, (x11_4 : Int).toNat * 3 + 1, none⟩ = false := hfr46 1; have hf46_2 : w58.frozen? ⟨go46, (x11_4 : Int).toNat * 3 + 2, none⟩ = false := hfr46 2; clear hcl46 hcc46 hfr46 hM46; replace p46 := eq_true p46; replace q46 := eq_true q46; have hq60 : (x10_2 : Int) < (x129_4.length : Int) := (by have h_ : (x10_2 : Int) < ((x129_4.length : Int) : Int) := Z.od; exact h_); obtain ⟨oki60, ce60, hcl60, hM60, hcc60, hok60, hbk60⟩ := Kd.S_borrow HO_129.out [] (x10_2 : Int) (Z.od) hq60; obtain ⟨ve60_0, rfl, ge60_0⟩ := hM60; have hv60 := hcc60 0 _ rfl; rw [Nat.add_zero, show ((Kd.slice 37 k37)).sz = 1 from rfl, Nat.mul_one] at hv60; replace hv60 := Option.some.inj (hv60.symm.trans HX196_0.out); subst hv60; clear hcc60 hcl60; replace ge60_0 := (show Kd.R k37 37 _ _ _ _ (rd_L5 x129_4 x10_2) from ge60_0); obtain ⟨cf60, hcl60, hN60, hcc60, hfr60⟩ := Kd.R_elem ge60_0 z37 (x11_4 : Int) (Z.od) (by have h_ : (x11_4 : Int) < (((rd_L5 x129_4 x10_2).length : Int) : Int) := Z.od; exact h_); obtain ⟨vf60_0, rfl, gf60_0⟩ := k37_openM hN60; have HP60 := Kd.R_seg ge60_0 (x11_4 : Int) (Z.od) (by have h_ : (x11_4 : Int) < (((rd_L5 x129_4 x10_2).length : Int) : Int) := Z.od; exact h_) (seg := [.int .i64 (Int.tmod (wrap64 ((wrap64 (x10_2 + 1)) + t192)) (wrap64 (1 + t174)))]) (j := 1) hcl60 hcc60 (show 2 ≤ 3 from by decide) (x' := (⟨(rd_T37 (rd_L5 x129_4 x10_2) x11_4).f0, (Int.tmod (wrap64 ((wrap64 (x10_2 + 1)) + t192)) (wrap64 (1 + t174))), (rd_T37 (rd_L5 x129_4 x10_2) x11_4).f2⟩ : S37)) (k37_mkM _ _ _ (⟨(rd_T37 (rd_L5 x129_4 x10_2) x11_4).f0, (Int.tmod (wrap64 ((wrap64 (x10_2 + 1)) + t192)) (wrap64 (1 + t174))), (rd_T37 (rd_L5 x129_4 x10_2) x11_4).f2⟩ : S37) gf60_0) (fun _ hk => hk); clear hcl60 hcc60 hfr60 hN60) | ((with_reducible refine gate_store (t := 3) (p := 85) rfl ?_); refine store_event (t := 3) (p := 85) (v := ?vo_w61) (w1 := (w58.setCell ⟨go46, (x11_4 : Int).toNat * 3 + 1, none⟩ (.int .i64 (Int.tmod (wrap64 ((wrap64 (x10_2 + 1)) + t192)) (wrap64 (1 + t174)))))) ?hg ?ho ?hn ?hr ?_; (case ho => rfl); (case hg => rfl); (case hn => rfl); (case hr => (go_simp; done)); intro w61 hw; have hg : w58.grownBy w61 (some go46) := (by rw [hw]; exact HP60.2); have hz_ : Kd.R k37 37 w61 w.heap.size oki60 (.slice (some ⟨go46, 0, none⟩) (rd_L5 x129_4 x10_2).length c196_0) y197 := (by rw [hw, Ny197.out]; exact HP60.1); have hp_ : Kd.S (Kd.slice 37 k37) 34 w61 w.heap.size (fun _ => True) (.slice (some ad191) x129_4.length co56) y199 := (by rw [Ny199.out]; exact hbk60 hg (fun k_ e_ => by injection e_ with e_; subst e_; exact ge60_0.1 _ rfl) (Kd.M_row hz_)); have hm_ := Kd.R_mono hz_ hok60; clear HP60 hbk60; have n0_ := Z.k (Kd.R_over' (v := (.slice (some ⟨go46, 0, none⟩) (rd_L5 x129_4 x10_2).length c196_0)) HO_132.out (Kd.R_typed HL196_0.out) (by decide) hg); have n1_ := Z.k hp_; have n2_ := Z.gb hg HL196_0 BK167; have n3_ := Z.gb hg HL196_0 BK173; have n4_ := Z.k (IsS92.grown HI0.out hg (IsS92.own_ne HI0.out HL196_0.out (by decide))); have n5_ := Z.k ((by rw [hw]; exact below_set (HB.out) (Nat.le_trans HL.out GB46.out) : Below w0.heap.size w0 w61)); have n6_ := Z.k (KeepBut.trans HK.out (KeepBut.of_grown hg g) (Kd.R_base2 HL196_0.out)); have n7_ := Z.k hm_; have n8_ := Z.k ((Kd.R_reads' hm_).2.1); clear HO_132; clear HO_129; clear BK167; clear BK173; clear HI0; clear HB; clear HK; clear HL191_0; clear HL196_0; have HO_132 := n0_; have HO_129 := n1_; have BK167 := n2_; have BK173 := n3_; have HI0 := n4_; have HB := n5_; have HK := n6_; have HL225 := n7_; have HC198 := n8_; clear n0_ n1_ n2_ n3_ n4_ n5_ n6_ n7_ n8_; clear hg hw hp_ hz_ hm_ hok60))
      have n0_ := Z.k (Kd.R_drew HO_132.out)
      have n1_ := Z.k (Kd.S_drew HO_129.out)
      have n2_ := Z.k (Kd.R_drew HL225.out)
      have n3_ := Z.k (blk_drew BK167.out)
      have n4_ := Z.k (blk_drew BK173.out)
      have n5_ := Z.k (IsS92.drew HI0.out)
      have n6_ := Z.k (keep_drew HK.out)
      have n7_ := Z.k (below_drew1 HB.out)
      clear HO_132
      clear HO_129
      clear HL225
      clear BK167
      clear BK173
      clear HI0
      clear HK
      clear HB
      have HO_132 := n0_
      have HO_129 := n1_
      have HL225 := n2_
      have BK167 := n3_
      have BK173 := n4_
      have HI0 := n5_
      have HK := n6_
      have HB := n7_
      clear n0_ n1_ n2_ n3_ n4_ n5_ n6_ n7_
      have p200 : 0 ≤ (x10_2 : Int) := Z.od
      have q200 : x10_2 < (y199.length : Int) := (by have h_ : (x10_2 : Int) < ((x129_4.length : Int) : Int) := Z.od; (have e_ := (Kd.S_reads' HO_129.out).1; omega))
      have ql200 : ((x10_2 : Int) < ((x129_4.length : Int) : Int)) = True := eq_true (Z.od)
      obtain ⟨ad200, A200_0, c200_0, e200, hx200_0, hl200_0, hi200_0⟩ := at_L5 (Kd.S_reads' HO_129.out).2.2 x10_2 p200 q200
      obtain rfl : ad191 = ad200 := (by injection e200)
      obtain ⟨ce200, hce200, hMe200, hcc200⟩ := Kd.S_get HO_129.out [] x10_2 p200 Z.od
      obtain ⟨ve200_0, rfl, ge200_0⟩ := hMe200
      have hv200_0 := hcc200 0 _ rfl
      rw [Nat.add_zero, show ((Kd.slice 37 k37)).sz = 1 from rfl, Nat.mul_one] at hv200_0
      replace hv200_0 := Option.some.inj (hv200_0.symm.trans hx200_0)
      rw [hv200_0] at ge200_0
      have HL200_0 := Z.k (show Kd.R k37 37 _ _ _ _ (rd_L5 y199 x10_2) from ge200_0)
      clear hv200_0 ge200_0
      have HX200_0 := Z.k hx200_0
      clear hcc200 hce200
      have HR200_0 := Z.k hi200_0
      have HC200_0 := Z.k hl200_0
      clear hi200_0 hl200_0
      replace p200 := eq_true p200
      replace q200 := eq_true q200
      have p201 : 0 ≤ ((Int.tmod (wrap64 ((wrap64 (x10_2 + 1)) + t192)) (wrap64 (1 + t174))) : Int) := Z.od
      have q201 : (Int.tmod (wrap64 ((wrap64 (x10_2 + 1)) + t192)) (wrap64 (1 + t174))) < (y199.length : Int) := (by have h_ : ((Int.tmod (wrap64 ((wrap64 (x10_2 + 1)) + t192)) (wrap64 (1 + t174))) : Int) < ((x129_4.length : Int) : Int) := Z.od; (have e_ := (Kd.S_reads' HO_129.out).1; omega))
      have ql201 : (((Int.tmod (wrap64 ((wrap64 (x10_2 + 1)) + t192)) (wrap64 (1 + t174))) : Int) < ((x129_4.length : Int) : Int)) = True := eq_true (Z.od)
      obtain ⟨ad201, A201_0, c201_0, e201, hx201_0, hl201_0, hi201_0⟩ := at_L5 (Kd.S_reads' HO_129.out).2.2 (Int.tmod (wrap64 ((wrap64 (x10_2 + 1)) + t192)) (wrap64 (1 + t174))) p201 q201
      obtain rfl : ad191 = ad201 := (by injection e201)
      obtain ⟨ce201, hce201, hMe201, hcc201⟩ := Kd.S_get HO_129.out [] (Int.tmod (wrap64 ((wrap64 (x10_2 + 1)) + t192)) (wrap64 (1 + t174))) p201 Z.od
      obtain ⟨ve201_0, rfl, ge201_0⟩ := hMe201
      have hv201_0 := hcc201 0 _ rfl
      rw [Nat.add_zero, show ((Kd.slice 37 k37)).sz = 1 from rfl, Nat.mul_one] at hv201_0
      replace hv201_0 := Option.some.inj (hv201_0.symm.trans hx201_0)
      rw [hv201_0] at ge201_0
      have HL201_0 := Z.k (show Kd.R k37 37 _ _ _ _ (rd_L5 y199 (Int.tmod (wrap64 ((wrap64 (x10_2 + 1)) + t192)) (wrap64 (1 + t174)))) from ge201_0)
      clear hv201_0 ge201_0
      have HX201_0 := Z.k hx201_0
      clear hcc201 hce201
      have HR201_0 := Z.k hi201_0
      have HC201_0 := Z.k hl201_0
      clear hi201_0 hl201_0
      replace p201 := eq_true p201
      replace q201 := eq_true q201
      refine start_ (n := 17) (S := fun w' => w'.cell? ⟨gb173, 0, none⟩ = some (.int .i64 t168) ∧ w'.cell? ⟨gb173, 1, none⟩ = some (.slice Ao7 t169.length co7) ∧ w'.cell? ⟨gb173, 2, none⟩ = some (.slice (some ad191) x129_4.length co56) ∧ w'.cell? (ad191.add (x10_2).toNat) = some (.slice A200_0 (rd_L5 y199 x10_2).length c200_0) ∧ w'.cell? (ad191.add ((Int.tmod (wrap64 ((wrap64 (x10_2 + 1)) + t192)) (wrap64 (1 + t174)))).toNat) = some (.slice A201_0 (rd_L5 y199 (Int.tmod (wrap64 ((wrap64 (x10_2 + 1)) + t192)) (wrap64 (1 + t174)))).length c201_0)) (ds := [16]) #[false, false, false, false, false, false, false, false, false, false, false, false, false, false, false, false, false] (by kernel_rfl) rfl rfl ⟨Z.b BK173 0, Z.b BK173 1, Z.b BK173 2, hx200_0, hx201_0⟩ (fun hHeld => ?_); refine with_tabW spec_l20Charter.tab21 spec_l20Charter.bits21 (fun HT_ HW_ => ?_)
      generalize w61.drew = w62 at HO_132 HO_129 HL225 BK167 BK173 HI0 HK HB HL200_0 HL201_0 HR200_0 HR201_0 HX200_0 HX201_0 hx200_0 hx201_0 hHeld ⊢
      refine Z.pv 0 86 17 1 HT_.out ?_
      refine Z.pv 2 88 17 5 HT_.out ?_
      refine Z.pv 5 91 17 37 HT_.out ?_
      refine Z.pv 6 92 17 101 HT_.out ?_
      refine Z.pv 7 93 17 229 HT_.out ?_
      refine Z.pv 9 95 17 741 HT_.out ?_
      refine Z.t5 1 87 17 743 HT_.out HW_.out hHeld ?_
      refine Z.pv 3 89 17 751 HT_.out ?_
      refine Z.t5 4 90 17 767 HT_.out HW_.out hHeld ?_
      refine Z.t5 8 94 17 1023 HT_.out HW_.out hHeld ?_
      refine Z.pv 10 96 17 2047 HT_.out ?_
      refine Z.t5 11 97 17 4095 HT_.out HW_.out hHeld ?_
      refine Z.pv 12 98 17 8191 HT_.out ?_
      refine one_ (i := 13) (N := some 99) (Z.mb 17 16383) rfl rfl (one_of HT_.out (by kernel_rfl)) (by decide) (fun K hK => ?_)
      refine goes_ Try.func73 (by kernel_rfl) rfl #[.pointer (some ⟨g, 0, none⟩), .int .i64 ((rd_L5 y199 (Int.tmod (wrap64 ((wrap64 (x10_2 + 1)) + t192)) (wrap64 (1 + t174)))).length : Int)] (by rfl) rfl rfl (by (try simp only [List.map_toArray, List.map_cons, List.map_nil]); rfl) ?_
      with_reducible refine (spec_l20Rd_pick.calls k4 g s0_0 t195 ((rd_L5 y199 (Int.tmod (wrap64 ((wrap64 (x10_2 + 1)) + t192)) (wrap64 (1 + t174)))).length : Int) t202 t203 w0 _ ?side1 ?side2 A50.out).mono ?_
      (case side1 => exact HI0.out)
      (case side2 => exact HB.out)
      rintro e w63 ⟨rfl, hi, hb, hk⟩
      have HS3_ := keep_cell hk (hHeld.2.2.2.1) (by (rw [add_block]; exact Kd.own_blk (IsS92.own_neS HI0.out HO_129.out (by decide))))
      have HS4_ := keep_cell hk (hHeld.2.2.2.2) (by (rw [add_block]; exact Kd.own_blk (IsS92.own_neS HI0.out HO_129.out (by decide))))
      refine ⟨_, rfl, ?_⟩
      have n0_ := rk HI0 HO_132 hk
      have n1_ := Z.k (Kd.S_mono (Kd.S_keep (IsS92.apartS HI0.out HO_129.out (by decide)) hk (fun _ h => h.2)) (fun _ h => h.1))
      have n2_ := Z.kb hk BK167 NB167_0
      have n3_ := Z.kb hk BK173 NB173_0
      have n4_ := rk HI0 HL225 hk
      have n5_ := rk HI0 HL200_0 hk
      have n6_ := Z.k (keep_cell hk HX200_0.out (by (rw [add_block]; exact Kd.own_blk (IsS92.own_neS HI0.out HO_129.out (by decide)))))
      have n7_ := rk HI0 HL201_0 hk
      have n8_ := Z.k (keep_cell hk HX201_0.out (by (rw [add_block]; exact Kd.own_blk (IsS92.own_neS HI0.out HO_129.out (by decide)))))
      have n9_ := Z.k (KeepBut.trans HK.out hk (.inl rfl))
      have n10_ := Z.k hb
      have n11_ := Z.k hi
      clear HO_132
      clear HO_129
      clear BK167
      clear BK173
      clear HL225
      clear HL200_0
      clear HX200_0
      clear HL201_0
      clear HX201_0
      clear HK
      clear HB
      clear HI0
      have HO_132 := n0_
      have HO_129 := n1_
      have BK167 := n2_
      have BK173 := n3_
      have HL225 := n4_
      have HL200_0 := n5_
      have HX200_0 := n6_
      have HL201_0 := n7_
      have HX201_0 := n8_
      have HK := n9_
      have HB := n10_
      have HI0 := n11_
      clear n0_ n1_ n2_ n3_ n4_ n5_ n6_ n7_ n8_ n9_ n10_ n11_
      (try clear hb)
      (try clear hk)
      (try clear hi)
      have p52 : 0 ≤ (x11_4 : Int) := Z.od
      have q52 : (x11_4 : Int) < (((rd_L5 y199 x10_2).length : Int) : Int) := Z.od
      obtain ⟨go52, co52, eo52, gb52, gl52, cl52, HG52⟩ := Kd.R_form HL200_0.out (by omega)
      (cases eo52)
      have GB52 := Z.k gb52
      have GG52 := Z.k HG52
      clear gb52 gl52 HG52
      obtain ⟨ce52, hcl52, hM52, hcc52, hfr52⟩ := Kd.R_elem HL200_0.out z37 (x11_4 : Int) p52 q52
      obtain ⟨ve52_0, rfl, ge52_0⟩ := k37_openM hM52
      have hx52_0 : World.cell? _ ⟨go52, (x11_4 : Int).toNat * 3, none⟩ = some (ve52_0) := hcc52 0 _ rfl
      have hx52_1 : World.cell? _ ⟨go52, (x11_4 : Int).toNat * 3 + 1, none⟩ = some (.int .i64 ((rd_T37 (rd_L5 y199 x10_2) x11_4).f1)) := hcc52 1 _ rfl
      have hx52_2 : World.cell? _ ⟨go52, (x11_4 : Int).toNat * 3 + 2, none⟩ = some (.int .i64 ((rd_T37 (rd_L5 y199 x10_2) x11_4).f2)) := hcc52 2 _ rfl
      have hf52_0 : World.frozen? _ ⟨go52, (x11_4 : Int).toNat * 3, none⟩ = false := hfr52 0
      have hf52_1 : World.frozen? _ ⟨go52, (x11_4 : Int).toNat * 3 + 1, none⟩ = false := hfr52 1
      have hf52_2 : World.frozen? _ ⟨go52, (x11_4 : Int).toNat * 3 + 2, none⟩ = false := hfr52 2
      clear hcl52 hcc52 hfr52 hM52
      replace p52 := eq_true p52
      replace q52 := eq_true q52
      have hq64 : (x10_2 : Int) < (x129_4.length : Int) := (by have h_ : (x10_2 : Int) < ((x129_4.length : Int) : Int) := Z.od; exact h_)
      obtain ⟨oki64, ce64, hcl64, hM64, hcc64, hok64, hbk64⟩ := Kd.S_borrow HO_129.out [] (x10_2 : Int) (Z.od) hq64
      obtain ⟨ve64_0, rfl, ge64_0⟩ := hM64
      have hv64 := hcc64 0 _ rfl
      rw [Nat.add_zero, show ((Kd.slice 37 k37)).sz = 1 from rfl, Nat.mul_one] at hv64
      replace hv64 := Option.some.inj (hv64.symm.trans HX200_0.out)
      subst hv64
      clear hcc64 hcl64
      replace ge64_0 := (show Kd.R k37 37 _ _ _ _ (rd_L5 y199 x10_2) from ge64_0)
      obtain ⟨cf64, hcl64, hN64, hcc64, hfr64⟩ := Kd.R_elem ge64_0 z37 (x11_4 : Int) (Z.od) (by have h_ : (x11_4 : Int) < (((rd_L5 y199 x10_2).length : Int) : Int) := Z.od; exact h_)
      obtain ⟨vf64_0, rfl, gf64_0⟩ := k37_openM hN64
      have HP64 := Kd.R_seg ge64_0 (x11_4 : Int) (Z.od) (by have h_ : (x11_4 : Int) < (((rd_L5 y199 x10_2).length : Int) : Int) := Z.od; exact h_) (seg := [.int .i64 t202]) (j := 2) hcl64 hcc64 (show 3 ≤ 3 from by decide) (x' := (⟨(rd_T37 (rd_L5 y199 x10_2) x11_4).f0, (rd_T37 (rd_L5 y199 x10_2) x11_4).f1, t202⟩ : S37)) (k37_mkM _ _ _ (⟨(rd_T37 (rd_L5 y199 x10_2) x11_4).f0, (rd_T37 (rd_L5 y199 x10_2) x11_4).f1, t202⟩ : S37) gf64_0) (fun _ hk => hk)
      clear hcl64 hcc64 hfr64 hN64
      have HN0_go52 := Z.k (show g ≠ go52 from by have h_ := IsS92.own_ne HI0.out HL200_0.out (by decide); intro e_; exact h_ (by rw [e_]; rfl))
      rw [← Ny204.out] at HP64
      have HS64 := hbk64 HP64.2 (fun k_ e_ => by injection e_ with e_; subst e_; exact ge64_0.1 _ rfl) (x' := y204) (Kd.M_row HP64.1)
      rw [← Ny206.out] at HS64
      have HQ64 := Z.k HS64
      clear HP64 HS64 hbk64 hok64
      refine hK.out _ _ ⟨Z.b BK173 0, Z.b BK173 1, Z.b BK173 2, HS3_, HS4_⟩ (fun hHeld => ?_)
      clear hK K
      refine Z.nm ?_
      refine Z.pv 14 100 17 32767 HT_.out ?_
      refine Z.pv 15 101 17 65535 HT_.out ?_
      refine last_ (i := 16) (N := none) #[true, true, true, true, true, true, true, true, true, true, true, true, true, true, true, true, true] rfl rfl (one_of HT_.out (by kernel_rfl)) (by decide) (fun K hK => ?_)
      refine skip_ (w1 := ?_) (by rfl) rfl ?_ ?_
      rotate_left
      ·go_simp
       rfl
      refine hK.out _ _ ?_
      clear hK K
      refine done_ (done_of HT_.out (by kernel_rfl)) ?_
      try go_wp2
      go_roundg k4
      case measure => have := HK1.out; have := HK2.out; have := HJ34.out; have := HK4.out; omega
      case rel => exact ⟨(wrap64 (x11_4 + 1)), (t203), (y206), (.slice (some ad191) x129_4.length co56), (by rfl), H', ⟨by have := HK1.out; have := HK2.out; have := HJ34.out; have := HK4.out; omega⟩, ⟨by exact Kd.R_mono (Kd.R_far (p := ⟨go52, (x11_4 : Int).toNat * 3 + 2, none⟩) (Kd.R_types HO_132.out GG52.out (by decide)) (fun _ hk => hk.2) (.int .i64 t202)) (fun _ hk => trivial)⟩, ⟨by exact HQ64.out⟩, ⟨by refine blk_far ?_ (by have h_ := Kd.R_ne HL200_0.out BK167.out (by decide); intro e_; exact h_ (by rw [e_]; rfl)) _; exact BK167.out⟩, ⟨by refine blk_far ?_ (by have h_ := Kd.R_ne HL200_0.out BK173.out (by decide); intro e_; exact h_ (by rw [e_]; rfl)) _; exact BK173.out⟩, ⟨by repeat ((with_reducible first | exact HI0.out | refine IsS92.far ?_ HN0_go52.out _))⟩, ⟨by repeat ((with_reducible first | exact HK.out | refine keep_far ?_ GB52.out _))⟩, ⟨by repeat ((with_reducible first | exact HB.out | refine below_set ?_ (Nat.le_trans HL.out GB52.out)))⟩⟩
theorem spec_l20Charter.calls (k : Nat) (g : Nat) (s0_0 : List Int) (s0_1 : Int) (a1 : Int) (r1 : Int) (r2 : List Int) (r3 : List (List (S37))) (r4 : Int) (w0 w : World) (hI : IsS92 w0 w g s0_0 s0_1) (hB : Below w0.heap.size w0 w) (h : spec_l20Charter.f k s0_0 s0_1 a1 = some (r1, r2, r3, r4)) :
  Calls Try.prog 88 #[.pointer (some ⟨g, 0, none⟩), .int .i64 a1] w fun e w' => ∃ v1_ v2_ : Value, e = .returned (.agg #[.int .i64 r1, v1_, v2_]) ∧ Kd.R (Kd.int .i64) 3 w' w.heap.size (fun _ => True) v1_ r2 ∧ Kd.R (Kd.slice 37 k37) 34 w' w.heap.size (fun _ => True) v2_ r3 ∧ IsS92 w0 w' g s0_0 r4 ∧ Below w0.heap.size w0 w' ∧ KeepBut w w' g none :=
 (spec_l20Charter.callsS k g s0_0 s0_1 a1 r1 r2 r3 r4 w0 w hI hB h).mono (fun e w' ⟨v1, v2, he, h1, h2, h3⟩ => ⟨v1, v2, he, h1, Kd.S_R h2, h3⟩)

end Go.Proofs.Ytkogboechfieeaa.PAll
