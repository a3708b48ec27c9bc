/- test -/
import Derived.Test.YtcafckapdgaogaaCAll61
import Derived.Test.YtcafckapdgaogaaCAll60
import Derived.Shelf.Abstract
import Derived.Maps.OwnSet
namespace Go.Proofs.Ytcafckapdgaogaa.PAll
open Go.RowKit Go.Proofs.YtcafckapdgaogaaW.PrintWords Go.Proofs.YtcafckapdgaogaaW.PrintLast Go.Proofs.YtcafckapdgaogaaW.PrintMore
set_option linter.unusedVariables false
def sortI (L : List Int) : List Int := L.mergeSort fun x y => decide (x ≤ y)
section
open Go.Shelf Go.Sort
theorem sort_gen (W : World) (base : Nat) (v : Value) (L : List Int) (hR : Kd.R (Kd.int .i64) 3 W base (fun _ => True) v L) (hl : L.length ≤ 4096) :
    Calls Try.prog 95 #[v] W fun e w' => e = .returned (.tuple #[]) ∧ Kd.R (Kd.int .i64) 3 w' base (fun _ => True) v (sortI L) ∧ W.grownBy w' v.ownBlock := by
  have ho := Kd.own_of_R hR
  rcases ho.2 with ⟨e0, e2⟩ | ⟨g, cap, cur, e0, hbase, hg, h1, h2, h3, h4⟩
  · subst e0
    obtain rfl : L = [] := List.eq_nil_of_length_eq_zero e2
    refine (AnyM.slices_Sort_int_none sortLay none 0 W).mono ?_
    rintro e w' ⟨rfl, rfl⟩
    exact ⟨rfl, (by rw [show sortI ([] : List Int) = [] by simp [sortI]]; exact hR), ⟨rfl, rfl, rfl, Nat.le_refl _, fun _ _ _ => rfl⟩⟩
  · subst e0
    have hH := holds_of_blockI hg (ss := L) (by simpa [encs] using h4)
    refine (AnyM.slices_Sort_int sortLay g 0 cap L W hH (blk_lt hg) (by omega)).mono ?_
    rintro e w' ⟨rfl, n, os, rfl⟩
    have hlen : (sortI L).length = L.length := List.length_mergeSort _
    have hw := ownsRow_sortedI (n := n) (os := os) (ts := sortI L) (ss := L) hlen hbase hg h1 h2 (by simpa using h3)
    rw [← hlen] at hw ⊢
    exact ⟨rfl, Kd.R_of_own hw (fun _ _ => trivial), grownBy_sortedI _⟩
end
theorem map_at {W W1 : World} {gm : Nat} {D : List (Int × Int)} (hm : MapAt W gm D) (hb : Below W.heap.size W W1) : MapAt W1 gm D := World.ownsMap.kept hm (grown0 hb) (by simp)
def impl_NeverOf.T3 : Bool × List (List Nat × List Nat) := (true, [([], []), ([], []), ([], []), ([2], [2]), ([3], [3]), ([4], [4]), ([0, 1, 5, 5], [0, 1, 5]), ([6, 6, 0, 1, 2, 3, 4, 5, 6], [6])])
def impl_NeverOf.B3 : List Nat := [0, 0, 0, 4, 12, 28, 63, 127]
theorem impl_NeverOf.tab3 : rtab .any (opsOf Try.f52 3) = impl_NeverOf.T3 := by kernel_rfl
theorem impl_NeverOf.bits3 : waitsOk impl_NeverOf.T3.2 impl_NeverOf.B3 = true := by kernel_rfl
def impl_NeverOf.l0 : Nat → List (Int × Int) → List (List Int) → Int → List Int → Option (List Int)
  | 0, _, _, _, _ => none
  | k + 1, D, L, i, out => if i < (L.length : Int) then (if 0 ≤ i then ((impl_stateNumber.f k (rd_L12 L i)).bind fun n => if mhas n D = true then impl_NeverOf.l0 k D L (wrap64 (i + 1)) out else (if out.length < 17592186044416 then impl_NeverOf.l0 k D L (wrap64 (i + 1)) (out ++ [n]) else none)) else none) else (if out.length ≤ 4096 then some (sortI out) else none)
def impl_NeverOf.f (k : Nat) (P : Int) (B : List Int) (C : List (List S86)) (s : List Int) : Option (List Int) := (impl_isState.f k P B C s).bind fun a => if a = true then ((impl_everybody.f P).bind fun E => (impl_reach.f k P B C s E).bind fun D => (impl_statesOf.f k P B C).bind fun L => impl_NeverOf.l0 k D L 0 []) else some []
theorem impl_NeverOf.mono_l : ∀ k D L i out, LeO (impl_NeverOf.l0 k D L i out) (impl_NeverOf.l0 (k + 1) D L i out)
  | 0 => fun _ _ _ _ r h => by simp [impl_NeverOf.l0] at h
  | k + 1 => fun D L i out => by
    have ih := impl_NeverOf.mono_l k
    rw [impl_NeverOf.l0, impl_NeverOf.l0]
    exact LeO.ite (LeO.ite (LeO.bind (impl_stateNumber.mono _ _) fun _ => LeO.ite (ih _ _ _ _) (LeO.ite (ih _ _ _ _) (LeO.refl _))) (LeO.refl _)) (LeO.refl _)
theorem impl_NeverOf.mono (P : Int) (B : List Int) (C : List (List S86)) (s : List Int) (k : Nat) : LeO (impl_NeverOf.f k P B C s) (impl_NeverOf.f (k + 1) P B C s) := by
  unfold impl_NeverOf.f
  exact LeO.bind (impl_isState.mono _ _ _ _ _) fun _ => LeO.ite (LeO.bind (LeO.refl _) fun _ => LeO.bind (impl_reach.mono _ _ _ _ _ _) fun _ => LeO.bind (impl_statesOf.mono _ _ _ _) fun _ => impl_NeverOf.mono_l _ _ _ _ _) (LeO.refl _)
set_option maxHeartbeats 4000000 in
set_option maxRecDepth 100000 in
theorem impl_NeverOf.calls (k : Nat) (a0_0 : Int) (A0_1 : Option Addr) (c0_1 : Nat) (l0_1 : List Int) (A0_2 : Option Addr) (c0_2 : Nat) (l0_2 : List (List (S86))) (A1 : Option Addr) (c1 : Nat) (l1 : List Int) (r : List Int) (w : World) (hr0_1 : Kd.C (Kd.int .i64) w A0_1 l0_1.length l0_1) (hc0_1 : l0_1.length ≤ c0_1) (hr0_2 : Kd.C (Kd.slice 86 k86) w A0_2 l0_2.length l0_2) (hc0_2 : l0_2.length ≤ c0_2) (hr1 : Kd.C (Kd.int .i64) w A1 l1.length l1) (hc1 : l1.length ≤ c1) (h : impl_NeverOf.f k a0_0 l0_1 l0_2 l1 = some r) :
  Calls Try.prog 52 #[.agg #[.int .i64 a0_0, .slice A0_1 l0_1.length c0_1, .slice A0_2 l0_2.length c0_2], .slice A1 l1.length c1] w fun e w' => ∃ v0_ : Value, e = .returned (v0_) ∧ Kd.R (Kd.int .i64) 3 w' w.heap.size (fun _ => True) v0_ r ∧ Below w.heap.size w w' := by
  have hu35 := Try.underlying35
  have hu32 := Try.underlying32
  have HR0_1 := Aside0.mk hr0_1
  have HR0_2 := Aside0.mk hr0_2
  have HR1 := Aside0.mk hr1
  have HC0_1 := Aside0.mk hc0_1
  have HC0_2 := Aside0.mk hc0_2
  have HC1 := Aside0.mk hc1
  clear hr0_1 hr0_2 hr1 hc0_1 hc0_2 hc1
  unfold impl_NeverOf.f at h
  obtain ⟨a, ha, h⟩ := Option.bind_eq_some_iff.mp h
  have HA := Aside0.mk ha
  clear ha
  cases a with
  | false =>
    rw [if_neg (by decide)] at h
    obtain rfl := Option.some.inj h
    clear h
    go_enter Try.func52, Try.ntmps52
    go_wp2_with (first
      | ((with_reducible refine gate_dst (N := 2) rfl ?_); refine box_event ?hg (N := 2) ?hd (cs := #[.int .i64 a0_0, .slice A0_1 l0_1.length c0_1, .slice A0_2 l0_2.length c0_2]) (t := 35) ?hr ?_; (case hd => rfl); (case hg => rfl); (case hr => (go_simp; done)); intro gb hg w1 hbox hb; have HB := Aside0.mk hb; have HX := Aside0.mk hbox; have hcz := Z.c3 hbox; clear hb hg hbox)
      | (go_at_call 65; (with_reducible refine (impl_isState.calls k a0_0 _ _ l0_1 _ _ l0_2 _ _ l1 false _ ?q1 ?q2 ?q3 ?q4 ?q5 ?q6 HA.out).mono ?_); (case q1 => exact Kd.C_below HR0_1.out HB.out); (case q2 => exact HC0_1.out); (case q3 => exact Kd.C_below HR0_2.out HB.out); (case q4 => exact HC0_2.out); (case q5 => exact Kd.C_below HR1.out HB.out); (case q6 => exact HC1.out); rintro e w2 ⟨rfl, hb⟩; replace HX := Aside0.mk (blk_below HX.out hb); replace HB := Aside0.mk (below_step HB.out hb); clear hb hcz; have hcz := Z.c3 HX.out))
    go_ret
    exact ⟨_, rfl, Kd.R_nil _ _ _ _ _, HB.out⟩
  | true =>
  rw [if_pos rfl] at h
  obtain ⟨E, hE, h⟩ := Option.bind_eq_some_iff.mp h
  have HE := Aside0.mk hE
  obtain ⟨D, hD, h⟩ := Option.bind_eq_some_iff.mp h
  have HD := Aside0.mk hD
  clear hE hD
  obtain ⟨L, hL, h⟩ := Option.bind_eq_some_iff.mp h
  have HL := Aside0.mk hL
  have H := Aside0.mk h
  clear hL h
  go_enter Try.func52, Try.ntmps52
  go_wp2_with (first
    | ((with_reducible refine gate_dst (N := 2) rfl ?_); refine box_event ?hg (N := 2) ?hd (cs := #[.int .i64 a0_0, .slice A0_1 l0_1.length c0_1, .slice A0_2 l0_2.length c0_2]) (t := 35) ?hr ?_; (case hd => rfl); (case hg => rfl); (case hr => (go_simp; done)); intro gb hg w1 hbox hb; have HB := Aside0.mk hb; have HX := Aside0.mk hbox; have hcz := Z.c3 hbox; clear hb hg hbox)
    | (go_at_call 65; (with_reducible refine (impl_isState.calls k a0_0 _ _ l0_1 _ _ l0_2 _ _ l1 true _ ?q1 ?q2 ?q3 ?q4 ?q5 ?q6 HA.out).mono ?_); (case q1 => exact Kd.C_below HR0_1.out HB.out); (case q2 => exact HC0_1.out); (case q3 => exact Kd.C_below HR0_2.out HB.out); (case q4 => exact HC0_2.out); (case q5 => exact Kd.C_below HR1.out HB.out); (case q6 => exact HC1.out); rintro e w2 ⟨rfl, hb⟩; replace HX := Aside0.mk (blk_below HX.out hb); replace HB := Aside0.mk (below_step HB.out hb); clear hb hcz; have hcz := Z.c3 HX.out))
  replace HX := Aside0.mk (blk_drew HX.out)
  replace HB := Aside0.mk (below_drew1 HB.out)
  clear hcz
  refine start_ (n := 8) (S := fun w' => w'.cell? ⟨gb, 0, none⟩ = some (.int .i64 a0_0) ∧ w'.cell? ⟨gb, 1, none⟩ = some (.slice A0_1 l0_1.length c0_1) ∧ w'.cell? ⟨gb, 2, none⟩ = some (.slice A0_2 l0_2.length c0_2)) (ds := []) #[false, false, false, false, false, false, false, false] (by kernel_rfl) rfl rfl ⟨(blk_cell HX.out 0).trans rfl, (blk_cell HX.out 1).trans rfl, (blk_cell HX.out 2).trans rfl⟩ (fun hHeld => ?_); refine with_tabW impl_NeverOf.tab3 impl_NeverOf.bits3 (fun HT_ HW_ => ?_)
  generalize w2.drew = w3 at HX HB hHeld ⊢
  refine Z.pv 1 16 8 2 HT_.out ?_
  refine Z.pv 2 17 8 6 HT_.out ?_
  refine Z.pv 3 18 8 14 HT_.out ?_
  refine Z.t3 0 15 8 15 HT_.out HW_.out hHeld ?_
  refine Z.t3 4 19 8 31 HT_.out HW_.out hHeld ?_
  refine one_ (i := 5) (N := some 20) (Z.mb 8 63) rfl rfl (one_of HT_.out (by kernel_rfl)) (by decide) (fun K hK => ?_)
  refine goes_ Try.func91 (by kernel_rfl) rfl #[.int .i64 a0_0] (by rfl) rfl rfl Z.ar ?_
  (with_reducible refine (impl_everybody.calls a0_0 E _ HE.out).mono ?_)
  rintro e w4 ⟨rfl, hd⟩
  refine ⟨_, rfl, ?_⟩
  replace HX := Aside0.mk (blk_below HX.out hd.below)
  replace HB := Aside0.mk (below_step HB.out hd.below)
  clear hd
  refine hK.out _ _ ⟨(blk_cell HX.out 0).trans rfl, (blk_cell HX.out 1).trans rfl, (blk_cell HX.out 2).trans rfl⟩ (fun hHeld => ?_)
  clear hK K
  refine Z.nm ?_
  refine one_ (i := 6) (N := some 21) (Z.mb 8 127) rfl rfl (one_of HT_.out (by kernel_rfl)) (by decide) (fun K hK => ?_)
  refine goes_ Try.func88 (by kernel_rfl) rfl #[.agg #[.int .i64 a0_0, .slice A0_1 l0_1.length c0_1, .slice A0_2 l0_2.length c0_2], .slice A1 l1.length c1, .int .i64 E] (by rfl) rfl rfl Z.ar ?_
  (with_reducible refine (impl_reach.calls k a0_0 _ _ l0_1 _ _ l0_2 _ _ l1 E D _ ?q1 ?q2 ?q3 ?q4 ?q5 ?q6 HD.out).mono ?_)
  (case q1 => exact Kd.C_below HR0_1.out HB.out)
  (case q2 => exact HC0_1.out)
  (case q3 => exact Kd.C_below HR0_2.out HB.out)
  (case q4 => exact HC0_2.out)
  (case q5 => exact Kd.C_below HR1.out HB.out)
  (case q6 => exact HC1.out)
  rintro e w5 ⟨gm, rfl, hm, hb⟩
  refine ⟨_, rfl, ?_⟩
  have HM5 := Aside0.mk hm
  replace HX := Aside0.mk (blk_below HX.out hb)
  have HB5 := Aside0.mk (below_step HB.out hb)
  clear hm hb HB
  refine hK.out _ _ ⟨(blk_cell HX.out 0).trans rfl, (blk_cell HX.out 1).trans rfl, (blk_cell HX.out 2).trans rfl⟩ (fun hHeld => ?_)
  clear hK K
  refine Z.nm ?_
  refine Z.pv 7 5 8 255 HT_.out ?_
  refine done_ (done_of HT_.out (by kernel_rfl)) ?_
  clear hHeld
  have hcz := Z.c3 HX.out
  go_wp2_with (first
    | ((with_reducible refine gate_dst (N := 22) rfl ?_); refine Kd.R_lit (Kd.int .i64) _ 3 ?hg (N := 22) ?hd (xs := ([] : List Int)) (inner := []) (ok := fun _ => True) (okp := fun _ => True) ?hr ?hp (fun _ hk => hk) trivial (Below.refl _ _) (Nat.le_refl _) (by simp) ?_; (case hd | hg => rfl); (case hr => first | (go_simp; done) | (go_simp; rfl)); (case hp => exact (Reps.none _ _)); intro v6 w6 ho hb hg_ hnew_; clear hg_ hnew_; have hle6 : w5.heap.size ≤ w6.heap.size := Nat.le_trans (below_size (Z.bl (Below.refl w5.heap.size w5))) (below_size hb); have HO := Aside0.mk (Kd.R_lower (base' := w5.heap.size) ho (below_size (Z.bl (Below.refl w5.heap.size w5)))); have HB := Aside0.mk (below_step (Z.bl (Below.refl w5.heap.size w5)) hb); clear ho hb; clear hcz; have HX6 := Aside0.mk (blk_below HX.out HB.out); have hcz := Z.c3 HX6.out)
    | (go_at_call 92; (with_reducible refine (impl_statesOf.calls k a0_0 _ _ l0_1 _ _ l0_2 L _ ?q1 ?q2 ?q3 ?q4 HL.out).mono ?_); (case q1 => exact Kd.C_below HR0_1.out (below_step HB5.out HB.out)); (case q2 => exact HC0_1.out); (case q3 => exact Kd.C_below HR0_2.out (below_step HB5.out HB.out)); (case q4 => exact HC0_2.out); rintro e w7 ⟨v7, rfl, hN, hb⟩; obtain ⟨A7, c7, rfl⟩ := Kd.N_slice hN; have HN := Aside0.mk (Kd.N_mono (ok' := fun k_ => True ∧ some k_ ≠ (v6 : Value).ownBlock) (Kd.N_lower hN (below_size HB.out)) (fun k_ hk => ⟨trivial, Kd.fresh' (Kd.R_lt HO.out) k_ hk⟩)); replace HO := Aside0.mk (Kd.R_below HO.out hb); replace HB := Aside0.mk (below_step HB.out hb); clear hN hb hcz))
  clear HX HX6
  go_loopg [6, 26] k (fun gk v6 v26 wr => ∃ (i : Int) (out : List Int), v26 = .int .i64 i ∧ Aside0 (impl_NeverOf.l0 gk D L i out = some r) ∧ Aside0 (Kd.R (Kd.int .i64) 3 wr w5.heap.size (fun _ => True) v6 out) ∧ Aside0 (Kd.N (Kd.slice 3 (Kd.int .i64)) 22 wr w5.heap.size (fun k_ => True ∧ some k_ ≠ (v6 : Value).ownBlock) (.slice A7 L.length c7) L) ∧ Aside0 (Below w5.heap.size w5 wr))
  case atStart => exact ⟨0, [], rfl, H, ⟨(by (with_reducible repeat (first | apply Kd.R_alloc | apply Kd.R_drewN | apply Kd.R_drew)); exact HO.out)⟩, ⟨(by (with_reducible repeat (first | apply Kd.N_alloc | apply Kd.N_drewN | apply Kd.N_drew)); exact HN.out)⟩, ⟨Z.bl HB.out⟩⟩
  case round =>
    clear H HO HN HB
    obtain ⟨i, out, rfl, H, HO, HN, HB⟩ := hrel
    cases gk with
    | zero => exact absurd H.out (by simp [impl_NeverOf.l0])
    | succ m =>
    have hl := H.out
    clear H
    rw [impl_NeverOf.l0] at hl
    by_cases hi : i < (L.length : Int)
    · rw [if_pos hi] at hl
      obtain ⟨h0, hl⟩ := Z.ifp hl
      obtain ⟨n, hn, hl⟩ := Option.bind_eq_some_iff.mp hl
      have HNn := Aside0.mk hn
      have d1 := decide_eq_true hi
      have p1 : 0 ≤ i := h0
      have q1 : i < (L.length : Int) := hi
      obtain ⟨ad, A, c, e1, hx, hlc, hC⟩ := at_L12 (Kd.N_reads' HN.out).2.2 i p1 q1
      cases e1
      have HCe := Aside0.mk hC
      have HLe := Aside0.mk hlc
      clear hC hlc hn hi h0
      replace p1 := eq_true p1
      replace q1 := eq_true q1
      cases hh : mhas n D with
      | true =>
        rw [hh, if_pos rfl] at hl
        have HH := Aside0.mk hh
        have H := Aside0.mk hl
        clear hh hl
        go_wp2_with (first
          | (go_at_call 83; (with_reducible refine (impl_stateNumber.calls m _ _ (rd_L12 L i) n _ ?q1 ?q2 HNn.out).mono ?_); (case q1 => repeat (first | exact HCe.out | (with_reducible refine Kd.C_alloc ?_ _) | (with_reducible refine Kd.C_drewN ?_ _) | (with_reducible refine Kd.C_drew ?_))); (case q2 => exact HLe.out); rintro e w8 ⟨rfl, hd⟩; have hb := hd.below; replace HO := Aside0.mk (Kd.R_below (by (with_reducible repeat (first | apply Kd.R_alloc | apply Kd.R_drewN | apply Kd.R_drew)); exact HO.out) hb); replace HN := Aside0.mk (Kd.N_below (by (with_reducible repeat (first | apply Kd.N_alloc | apply Kd.N_drewN | apply Kd.N_drew)); exact HN.out) hb); replace HCe := Aside0.mk (Kd.C_below (by (with_reducible repeat (first | refine Kd.C_alloc ?_ _ | refine Kd.C_drewN ?_ _ | refine Kd.C_drew ?_)); exact HCe.out) hb); replace HB := Aside0.mk (below_step (Z.bl HB.out) hb); clear hd hb; (try clear hx))
          | (at_lookup; refine wpList_lookup_own_ok_int _ rfl _ _ 97 rfl 3 3 .i64 keyed3 Try.underlying97 Try.underlying3 (zero3 _) gm _ _ rfl (map_at HM5.out HB.out) _ (.int .i64 n) rfl (stNum_key HNn.out) ?_; intro c9 hat hwc; rw [mapD_has, HH.out]; clear hat hwc))
        go_roundg m
        case measure => omega
        case rel => exact ⟨wrap64 (i + 1), out, (by first | rfl | (simp; done) | (simp [*]; done)), H, ⟨(by (with_reducible repeat (first | apply Kd.R_alloc | apply Kd.R_drewN | apply Kd.R_drew)); exact HO.out)⟩, ⟨(by (with_reducible repeat (first | apply Kd.N_alloc | apply Kd.N_drewN | apply Kd.N_drew)); exact HN.out)⟩, ⟨Z.bl HB.out⟩⟩
      | false =>
        rw [hh, if_neg (by decide)] at hl
        obtain ⟨hlm, hl⟩ := Z.ifp hl
        have HH := Aside0.mk hh
        have HLm := Aside0.mk hlm
        have H := Aside0.mk hl
        clear hh hl hlm
        go_wp2_with (first
          | (go_at_call 83; (with_reducible refine (impl_stateNumber.calls m _ _ (rd_L12 L i) n _ ?q1 ?q2 HNn.out).mono ?_); (case q1 => repeat (first | exact HCe.out | (with_reducible refine Kd.C_alloc ?_ _) | (with_reducible refine Kd.C_drewN ?_ _) | (with_reducible refine Kd.C_drew ?_))); (case q2 => exact HLe.out); rintro e w8 ⟨rfl, hd⟩; have hb := hd.below; replace HO := Aside0.mk (Kd.R_below (by (with_reducible repeat (first | apply Kd.R_alloc | apply Kd.R_drewN | apply Kd.R_drew)); exact HO.out) hb); replace HN := Aside0.mk (Kd.N_below (by (with_reducible repeat (first | apply Kd.N_alloc | apply Kd.N_drewN | apply Kd.N_drew)); exact HN.out) hb); replace HCe := Aside0.mk (Kd.C_below (by (with_reducible repeat (first | refine Kd.C_alloc ?_ _ | refine Kd.C_drewN ?_ _ | refine Kd.C_drew ?_)); exact HCe.out) hb); replace HB := Aside0.mk (below_step (Z.bl HB.out) hb); clear hd hb; (try clear hx))
          | (at_lookup; refine wpList_lookup_own_ok_int _ rfl _ _ 97 rfl 3 3 .i64 keyed3 Try.underlying97 Try.underlying3 (zero3 _) gm _ _ rfl (map_at HM5.out HB.out) _ (.int .i64 n) rfl (stNum_key HNn.out) ?_; intro c9 hat hwc; rw [mapD_has, HH.out]; clear hat hwc)
          | ((with_reducible refine gate_builtin (b := .append) (xs := #[.tmp 39, .tmp 42]) rfl ?_); at_builtin; refine Kd.R_append (Kd.int .i64) (w0 := w5) w5.heap.size rfl (.tmp 39) (.tmp 42) 22 3 (.int .i64 0) 8 rfl Try.underlying22 info3 rfl (by decide) (by omega) u6 out n [.int .i64 n] (fun _ => True) (fun _ => False) rfl rfl ?aP (fun _ hk => hk.elim) ?aF ?aO ?aB ?aS ?aL ?_; (case aP => exact rfl); (case aB => exact (Z.bl HB.out)); (case aF => exact (fun k_ hk => trivial)); (case aO => exact (by (with_reducible repeat (first | apply Kd.R_alloc | apply Kd.R_drewN | apply Kd.R_drew)); exact HO.out)); (case aS => exact (below_size (Z.bl HB.out))); (case aL => have := HLm.out; omega); intro v9 w9 ho hb hg hat; replace HN := Aside0.mk (Kd.N_afterv (ok := fun _ => True) (by (with_reducible repeat (first | apply Kd.N_alloc | apply Kd.N_drewN | apply Kd.N_drew)); exact HN.out) hg hat); replace HB := Aside0.mk hb; replace HO := Aside0.mk ho; clear ho hb hg hat))
        go_roundg m
        case measure => omega
        case rel => exact ⟨wrap64 (i + 1), out ++ [n], (by first | rfl | (simp; done) | (simp [*]; done)), H, ⟨(by (with_reducible repeat (first | apply Kd.R_alloc | apply Kd.R_drewN | apply Kd.R_drew)); exact HO.out)⟩, ⟨(by (with_reducible repeat (first | apply Kd.N_alloc | apply Kd.N_drewN | apply Kd.N_drew)); exact HN.out)⟩, ⟨Z.bl HB.out⟩⟩
    · rw [if_neg hi] at hl
      obtain ⟨hln, hl⟩ := Z.ifp hl
      obtain rfl := Option.some.inj hl
      have HLn := Aside0.mk hln
      have d1 := decide_eq_false hi
      clear hl hln
      go_wp2_with (first
        | (go_at_call 95; refine (sort_gen _ w5.heap.size u6 out (by (with_reducible repeat (first | apply Kd.R_alloc | apply Kd.R_drewN | apply Kd.R_drew)); exact HO.out) HLn.out).mono ?_; rintro e w8 ⟨rfl, hR, hg⟩; have HB8 := Aside0.mk (HB.out.grown hg HB.out.size (fun k hk => ((Kd.R_bound HO.out).1 k hk).2.1)); have HO8 := Aside0.mk hR; clear hR hg))
      go_ret
      exact ⟨_, rfl, Kd.R_lower HO8.out (below_size HB5.out), below_step HB5.out HB8.out⟩

end Go.Proofs.Ytcafckapdgaogaa.PAll
