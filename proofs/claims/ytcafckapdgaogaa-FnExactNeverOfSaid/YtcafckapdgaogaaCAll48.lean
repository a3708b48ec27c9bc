/- Walks of functions that some laws of this seat reach, in the form of the print. -/
import Derived.Test.YtcafckapdgaogaaCAll1
import Derived.Test.YtcafckapdgaogaaV2
-- PRINTED
namespace Go.Proofs.Ytcafckapdgaogaa.PAll
open Go.RowKit Go.Proofs.YtcafckapdgaogaaW.PrintWords Go.Proofs.YtcafckapdgaogaaW.PrintLast Go.Proofs.YtcafckapdgaogaaW.PrintMore
attribute [local go_sem] max2_int min2_int max_two min_two max_three min_three max_four min_four
set_option linter.unusedVariables false
set_option linter.unusedSimpArgs false


/-! ### laws_markCharter: function 29 -/
/-- Only whole numbers have been written, into blocks from b0 on whose types are those of a charter's rows; what is new is new. -/
structure Mk (B : Option Nat) (b0 : Nat) (w w' : World) : Prop where
 os : w'.os = w.os
 tape : w'.tape = w.tape
 output : w'.output = w.output
 size : w.heap.size ≤ w'.heap.size
 at_ : ∀ g, g < w.heap.size → w'.heap[g]? = w.heap[g]? ∨
 (b0 ≤ g ∧ ∃ q c c', (q = 134 ∨ q = 86 ∨ q = 3 ∧ some g = B) ∧ w.heap[g]? = some (.cells c q (0, 0)) ∧ w'.heap[g]? = some (.cells c' q (0, 0)) ∧ c'.size = c.size ∧ ∀ i : Nat, c'[i]? = c[i]? ∨ ∃ z z' : Int, c[i]? = some (.int .i64 z) ∧ c'[i]? = some (.int .i64 z'))
theorem Mk.refl (B : Option Nat) (b0 : Nat) (w : World) : Mk B b0 w w := ⟨rfl, rfl, rfl, Nat.le_refl _, fun _ _ => .inl rfl⟩
theorem Mk.of_below {B : Option Nat} {b0 : Nat} {w w' : World} (h : Below w.heap.size w w') : Mk B b0 w w' := ⟨h.os, h.tape, h.output, h.size, fun g hg => .inl (h.block g hg)⟩
theorem Mk.trans {B : Option Nat} {b0 : Nat} {w w1 w2 : World} (h : Mk B b0 w w1) (k : Mk B b0 w1 w2) : Mk B b0 w w2 := by
 refine ⟨k.os.trans h.os, k.tape.trans h.tape, k.output.trans h.output, Nat.le_trans h.size k.size, fun g hg => ?_⟩
 rcases h.at_ g hg with e | ⟨hb, q, c, c', hq, e1, e2, e3, e4⟩
 ·rcases k.at_ g (Nat.lt_of_lt_of_le hg h.size) with e' | ⟨hb', q', d, d', hq', f1, f2, f3, f4⟩
  ·exact .inl (e'.trans e)
  ·exact .inr ⟨hb', q', d, d', hq', e ▸ f1, f2, f3, f4⟩
 ·rcases k.at_ g (Nat.lt_of_lt_of_le hg h.size) with e' | ⟨hb', q', d, d', hq', f1, f2, f3, f4⟩
  ·exact .inr ⟨hb, q, c, c', hq, e1, e'.trans e2, e3, e4⟩
  ·rw [e2] at f1
   injection f1 with f1
   injection f1 with f1 f5
   subst f1; subst f5
   refine .inr ⟨hb, q, c, d', hq, e1, f2, f3.trans e3, fun i => ?_⟩
   rcases f4 i with a | ⟨z, z', a1, a2⟩
   ·rcases e4 i with b | ⟨y, y', b1, b2⟩
    ·exact .inl (a.trans b)
    ·exact .inr ⟨y, y', b1, a.trans b2⟩
   ·rcases e4 i with b | ⟨y, y', b1, b2⟩
    ·exact .inr ⟨z, z', b ▸ a1, a2⟩
    ·exact .inr ⟨y, z', b1, a2⟩
/-- A cell that holds a whole number and may be written. -/
def Ic (B : Option Nat) (b0 : Nat) (w : World) (g i : Nat) : Prop := b0 ≤ g ∧ ∃ q c z, (q = 134 ∨ q = 86 ∨ q = 3 ∧ some g = B) ∧ w.heap[g]? = some (.cells c q (0, 0)) ∧ c[i]? = some (.int .i64 z)
theorem Ic.cell {B : Option Nat} {b0 : Nat} {w : World} {g i : Nat} (h : Ic B b0 w g i) : ∃ z, w.cell? ⟨g, i, none⟩ = some (.int .i64 z) ∧ w.frozen? ⟨g, i, none⟩ = false := by
 obtain ⟨_, q, c, z, _, e, ez⟩ := h
 exact ⟨z, (blk_cell e i).trans ez, blk_frozen e i⟩
theorem Mk.set {B : Option Nat} {b0 : Nat} {w : World} {g i : Nat} (h : Ic B b0 w g i) (z' : Int) : Mk B b0 w (w.setCell ⟨g, i, none⟩ (.int .i64 z')) := by
 obtain ⟨hb, q, c, z, hq, e, ez⟩ := h
 refine ⟨rfl, rfl, rfl, by simp [World.setCell], fun g' hg' => ?_⟩
 by_cases hne : g' = g
 ·subst hne
  refine .inr ⟨hb, q, c, _, hq, e, blk_set e i _, by simp, fun j => ?_⟩
  by_cases hj : j = i
  ·subst hj
   refine .inr ⟨z, z', ez, ?_⟩
   have hlt : j < c.size := (Array.getElem?_eq_some_iff.1 ez).1
   simp [hlt]
  ·left
   rw [Array.getElem?_setIfInBounds_ne (Ne.symm hj)]
 ·exact .inl (Below.heap_setCell w ⟨g, i, none⟩ _ g' hne)
theorem Ic.mk {B : Option Nat} {b0 b1 : Nat} {w w' : World} {g i : Nat} (h : Ic B b0 w g i) (k : Mk B b1 w w') : Ic B b0 w' g i := by
 obtain ⟨hb, q, c, z, hq, e, ez⟩ := h
 rcases k.at_ g (blk_lt e) with e' | ⟨_, q', d, d', hq', f1, f2, f3, f4⟩
 ·exact ⟨hb, q, c, z, hq, e'.trans e, ez⟩
 ·rw [e] at f1
  injection f1 with f1
  injection f1 with f1 f5
  subst f1; subst f5
  rcases f4 i with a | ⟨y, y', b1, b2⟩
  ·exact ⟨hb, q, d', z, hq, f2, a.trans ez⟩
  ·exact ⟨hb, q, d', y', hq, f2, b2⟩
/-- A cell that holds a slice stays as it is. -/
theorem Mk.slice {B : Option Nat} {b1 : Nat} {w w' : World} (k : Mk B b1 w w') {g i : Nat} {q : TypeId} {c : Array Value} {A : Option Addr} {n m : Nat} (e : w.heap[g]? = some (.cells c q (0, 0))) (ec : c[i]? = some (.slice A n m)) : ∃ c', w'.heap[g]? = some (.cells c' q (0, 0)) ∧ c'[i]? = some (.slice A n m) := by
 rcases k.at_ g (blk_lt e) with e' | ⟨_, q', d, d', hq', f1, f2, f3, f4⟩
 ·exact ⟨c, e'.trans e, ec⟩
 ·rw [e] at f1
  injection f1 with f1
  injection f1 with f1 f5
  subst f1; subst f5
  refine ⟨d', f2, ?_⟩
  rcases f4 i with a | ⟨y, y', b1, b2⟩
  ·exact a.trans ec
  ·rw [ec] at b1; cases b1
/-- A row of marks; of variants, with the lengths of their terms; of clauses, with those of their variants: from b0 on. -/
def MRow (B : Option Nat) (b0 : Nat) (w : World) (v : Value) (n : Nat) : Prop := ∃ A cap, v = .slice A n cap ∧ (0 < n → ∃ g, A = some ⟨g, 0, none⟩ ∧ ∀ i, i < n * 3 → Ic B b0 w g i)
def VRow (B : Option Nat) (b0 : Nat) (w : World) (v : Value) (ns : List Nat) : Prop := ∃ A cap, v = .slice A ns.length cap ∧ (0 < ns.length → ∃ g, A = some ⟨g, 0, none⟩ ∧ ∀ i (h : i < ns.length), (∃ c u, w.heap[g]? = some (.cells c 86 (0, 0)) ∧ c[i * 3]? = some u ∧ MRow B b0 w u ns[i]) ∧ Ic B b0 w g (i * 3 + 1) ∧ Ic B b0 w g (i * 3 + 2))
def CRow (B : Option Nat) (b0 : Nat) (w : World) (v : Value) (ns : List (List Nat)) : Prop := ∃ A cap, v = .slice A ns.length cap ∧ (0 < ns.length → ∃ g, A = some ⟨g, 0, none⟩ ∧ ∀ i (h : i < ns.length), ∃ c u, w.heap[g]? = some (.cells c 83 (0, 0)) ∧ c[i]? = some u ∧ VRow B b0 w u ns[i])
theorem MRow.mk {B : Option Nat} {b0 b1 : Nat} {w w' : World} {v : Value} {n : Nat} (h : MRow B b0 w v n) (k : Mk B b1 w w') : MRow B b0 w' v n := by
 obtain ⟨A, cap, e, h⟩ := h
 refine ⟨A, cap, e, fun hn => ?_⟩
 obtain ⟨g, eg, h⟩ := h hn
 exact ⟨g, eg, fun i hi => (h i hi).mk k⟩
theorem VRow.mk {B : Option Nat} {b0 b1 : Nat} {w w' : World} {v : Value} {ns : List Nat} (h : VRow B b0 w v ns) (k : Mk B b1 w w') : VRow B b0 w' v ns := by
 obtain ⟨A, cap, e, h⟩ := h
 refine ⟨A, cap, e, fun hn => ?_⟩
 obtain ⟨g, eg, h⟩ := h hn
 refine ⟨g, eg, fun i hi => ?_⟩
 obtain ⟨⟨c, u, e1, e2, hu⟩, i1, i2⟩ := h i hi
 have hu' := hu.mk k
 obtain ⟨A', cap', rfl, _⟩ := hu
 obtain ⟨c', e1', e2'⟩ := k.slice e1 e2
 exact ⟨⟨c', _, e1', e2', hu'⟩, i1.mk k, i2.mk k⟩
theorem CRow.mk {B : Option Nat} {b0 b1 : Nat} {w w' : World} {v : Value} {ns : List (List Nat)} (h : CRow B b0 w v ns) (k : Mk B b1 w w') : CRow B b0 w' v ns := by
 obtain ⟨A, cap, e, h⟩ := h
 refine ⟨A, cap, e, fun hn => ?_⟩
 obtain ⟨g, eg, h⟩ := h hn
 refine ⟨g, eg, fun i hi => ?_⟩
 obtain ⟨c, u, e1, e2, hu⟩ := h i hi
 have hu' := hu.mk k
 obtain ⟨A', cap', rfl, _⟩ := hu
 obtain ⟨c', e1', e2'⟩ := k.slice e1 e2
 exact ⟨c', _, e1', e2', hu'⟩
/-! rows in the words of the print are such rows -/
theorem own_at {α : Type} {R : α → List Value → Prop} {e size : Nat} {w : World} {base : Nat} {v : Value} {ps : List α} (h : OwnRow R e size w base v ps) : ∃ A cap, v = .slice A ps.length cap ∧ (0 < ps.length → ∃ g c, A = some ⟨g, 0, none⟩ ∧ base ≤ g ∧ w.heap[g]? = some (.cells c e (0, 0)) ∧ ∀ i (h : i < ps.length), ∃ cs, R ps[i] cs ∧ ∀ j u, j < size → cs[j]? = some u → c[i * size + j]? = some u) := by
 obtain ⟨inner, ho, hr⟩ := h
 rcases ho.2 with ⟨rfl, hn⟩ | ⟨g, cap, cur, rfl, hg, hb, hcap, _, hs, ht⟩
 ·exact ⟨none, 0, by rw [hn], fun h => by omega⟩
 ·refine ⟨_, cap, rfl, fun _ => ⟨g, cur, rfl, hg, hb, fun i hi => ⟨_, hr.2 i ps[i] (List.getElem?_eq_getElem hi), fun j u hj hu => ?_⟩⟩⟩
  rw [List.getElem?_take_of_lt hj, List.getElem?_drop, ← ht] at hu
  have hlt : i * size + j < ps.length * size := by
   have : i * size + size ≤ ps.length * size := by rw [← Nat.succ_mul]; exact Nat.mul_le_mul_right _ hi
   omega
  rw [List.getElem?_take_of_lt hlt, Array.getElem?_toList] at hu
  exact hu
theorem MRow.of {B : Option Nat} {w : World} {base b0 : Nat} {ok : Nat → Prop} {v : Value} {l : List S134} (h : Kd.R k134 134 w base ok v l) (hb : b0 ≤ base) : MRow B b0 w v l.length := by
 obtain ⟨A, cap, e, h⟩ := own_at h.2
 refine ⟨A, cap, e, fun hn => ?_⟩
 obtain ⟨g, c, eg, hg, hblk, h⟩ := h hn
 refine ⟨g, eg, fun i hi => ⟨by omega, 134, c, ?_⟩⟩
 have hi3 : i / 3 < l.length := by omega
 obtain ⟨cs, hcs, hj⟩ := h (i / 3) hi3
 obtain rfl := k134_openM hcs
 have hx : i / 3 * 3 + i % 3 = i := by omega
 have hm : i % 3 = 0 ∨ i % 3 = 1 ∨ i % 3 = 2 := by omega
 have hlt : i % 3 < 3 := by omega
 rcases hm with hm | hm | hm <;> rw [hm] at hx
 ·exact ⟨_, .inl rfl, hblk, by have := hj 0 _ (by decide) rfl; rw [show i / 3 * k134.sz + 0 = i from hx] at this; exact this⟩
 ·exact ⟨_, .inl rfl, hblk, by have := hj 1 _ (by decide) rfl; rw [show i / 3 * k134.sz + 1 = i from hx] at this; exact this⟩
 ·exact ⟨_, .inl rfl, hblk, by have := hj 2 _ (by decide) rfl; rw [show i / 3 * k134.sz + 2 = i from hx] at this; exact this⟩
theorem VRow.of {B : Option Nat} {w : World} {base b0 : Nat} {ok : Nat → Prop} {v : Value} {l : List S86} (h : Kd.R k86 86 w base ok v l) (hb : b0 ≤ base) : VRow B b0 w v (l.map fun x => x.f0.length) := by
 obtain ⟨A, cap, e, h⟩ := own_at h.2
 refine ⟨A, cap, by rw [e, List.length_map], fun hn => ?_⟩
 rw [List.length_map] at hn
 obtain ⟨g, c, eg, hg, hblk, h⟩ := h hn
 refine ⟨g, eg, fun i hi => ?_⟩
 have hi' : i < l.length := by rw [List.length_map] at hi; exact hi
 obtain ⟨cs, hcs, hj⟩ := h i hi'
 obtain ⟨v0, rfl, hv0⟩ := k86_openM hcs
 refine ⟨⟨c, v0, hblk, hj 0 _ (by decide) rfl, ?_⟩, ⟨by omega, 86, c, _, .inr (.inl rfl), hblk, hj 1 _ (by decide) rfl⟩, ⟨by omega, 86, c, _, .inr (.inl rfl), hblk, hj 2 _ (by decide) rfl⟩⟩
 rw [List.getElem_map]
 exact MRow.of hv0 hb
theorem CRow.of {B : Option Nat} {w : World} {base b0 : Nat} {ok : Nat → Prop} {v : Value} {l : List (List S86)} (h : Kd.R (Kd.slice 86 k86) 83 w base ok v l) (hb : b0 ≤ base) : CRow B b0 w v (l.map fun x => x.map fun y => y.f0.length) := by
 obtain ⟨A, cap, e, h⟩ := own_at h.2
 refine ⟨A, cap, by rw [e, List.length_map], fun hn => ?_⟩
 rw [List.length_map] at hn
 obtain ⟨g, c, eg, hg, hblk, h⟩ := h hn
 refine ⟨g, eg, fun i hi => ?_⟩
 have hi' : i < l.length := by rw [List.length_map] at hi; exact hi
 obtain ⟨cs, ⟨v0, rfl, hv0⟩, hj⟩ := h i hi'
 refine ⟨c, v0, hblk, by have := hj 0 _ (by decide) rfl; rw [show i * (Kd.slice 86 k86).sz + 0 = i from Nat.mul_one i] at this; exact this, ?_⟩
 rw [List.getElem_map]
 exact VRow.of hv0 hb
theorem mk_int {a b : Int} (h : a = b) : Value.int .i64 a = Value.int .i64 b := by rw [h]
set_option maxHeartbeats 4000000 in
set_option maxRecDepth 100000 in
theorem mkM_any (B : Option Nat) (w : World) (b0 : Nat) (v : Value) (n : Nat) (a1 : Int) (hv : MRow B b0 w v n) (hn : n ≤ 1048576) (h0 : 0 ≤ a1) (h1 : a1 ≤ 4611686018427387904) :
  Calls Try.prog 129 #[v, .int .i64 a1] w fun e w' => e = .returned (.int .i64 (a1 + 3 * n)) ∧ Mk B b0 w w' := by
 obtain ⟨A, cap, rfl, hc⟩ := hv
 have HC := Aside0.mk hc
 clear hc
 go_enter Try.func129, Try.ntmps129
 go_wp2
 go_loopg [1, 5] n (fun kq v1 v5 w' => ∃ i : Nat, Aside0 (i + kq = n) ∧ v1 = .int .i64 (a1 + 3 * (i : Int)) ∧ v5 = .int .i64 (i : Int) ∧ Aside0 (Mk B b0 w w'))
 case atStart => exact ⟨0, ⟨by omega⟩, by simp, by simp, ⟨Mk.refl _ _ _⟩⟩
 case round =>
  obtain ⟨i, hi, rfl, rfl, HK⟩ := hrel
  have hio := hi.out
  by_cases hlt : i < n
  ·obtain ⟨m, rfl⟩ : ∃ m, gk = m + 1 := ⟨gk - 1, by omega⟩
   obtain ⟨g, eg, hI⟩ := HC.out (by omega)
   cases eg
   have I0 := Aside0.mk ((hI (i * 3) (by omega)).mk HK.out)
   have I1 := Aside0.mk ((hI (i * 3 + 1) (by omega)).mk HK.out)
   have I2 := Aside0.mk ((hI (i * 3 + 2) (by omega)).mk HK.out)
   clear hI
   obtain ⟨z0, hx0, hf0⟩ := I0.out.cell
   have d0 : decide ((i : Int) < (n : Int)) = true := decide_eq_true (by omega)
   have d1 : decide (i < n) = true := decide_eq_true hlt
   have d2 : (0 : Int) ≤ (i : Int) := by omega
   have d3 : (i : Int) < (n : Int) := by omega
   have b1 : a1 + 3 * (i : Int) ≤ 4611686018430533632 := by omega
   have b2 : 0 ≤ a1 + 3 * (i : Int) := by omega
   clear hio
   go_wp2_with (first
    | ((with_reducible refine gate_store (t := 3) (p := 16) rfl ?_); refine store_event (t := 3) (p := 16) (v := ?vo1) (w1 := wr.setCell ⟨g, i * 3, none⟩ (.int .i64 (a1 + 3 * (i : Int)))) ?hg ?ho ?hn ?hr ?_; (case ho => rfl); (case hg => rfl); (case hn => rfl); (case hr => first | (go_simp; done) | (go_simp; rfl)); intro w1 hw; have K1 : Mk B b0 wr w1 := hw ▸ Mk.set I0.out _; replace HK := Aside0.mk (HK.out.trans K1); replace I1 := Aside0.mk (I1.out.mk K1); replace I2 := Aside0.mk (I2.out.mk K1); clear K1 hw hx0 hf0 I0; obtain ⟨z1, hx0, hf0⟩ := I1.out.cell)
    | ((with_reducible refine gate_store (t := 3) (p := 23) rfl ?_); refine store_event (t := 3) (p := 23) (v := ?vo2) (w1 := w1.setCell ⟨g, i * 3 + 1, none⟩ (.int .i64 (a1 + 3 * (i : Int) + 1))) ?hg ?ho ?hn ?hr ?_; (case ho => rfl); (case hg => rfl); (case hn => rfl); (case hr => first | (go_simp; done) | (go_simp; rfl)); intro w2 hw; have K1 : Mk B b0 w1 w2 := hw ▸ Mk.set I1.out _; replace HK := Aside0.mk (HK.out.trans K1); replace I2 := Aside0.mk (I2.out.mk K1); clear K1 hw hx0 hf0 I1; obtain ⟨z2, hx0, hf0⟩ := I2.out.cell)
    | ((with_reducible refine gate_store (t := 3) (p := 30) rfl ?_); refine store_event (t := 3) (p := 30) (v := ?vo3) (w1 := w2.setCell ⟨g, i * 3 + 2, none⟩ (.int .i64 (a1 + 3 * (i : Int) + 1 + 1))) ?hg ?ho ?hn ?hr ?_; (case ho => rfl); (case hg => rfl); (case hn => rfl); (case hr => first | (go_simp; done) | (go_simp; rfl)); intro w3 hw; have K1 : Mk B b0 w2 w3 := hw ▸ Mk.set I2.out _; replace HK := Aside0.mk (HK.out.trans K1); clear K1 hw hx0 hf0 I2))
   go_roundg m
   case measure => omega
   case rel => exact ⟨i + 1, ⟨by have := hi.out; omega⟩, mk_int (by omega), mk_int (by omega), HK⟩
  ·obtain rfl : i = n := by omega
   have d0 : decide ((i : Int) < (i : Int)) = false := decide_eq_false (by omega)
   have d1 : decide (i < i) = false := decide_eq_false hlt
   clear hio
   go_wp2
   go_ret
   exact ⟨by rfl, HK.out⟩
/-- How many cells variants with such terms have. -/
def tot : List Nat → Nat
 | [] => 0
 | n :: r => 3 * n + 2 + tot r
def totC : List (List Nat) → Nat
 | [] => 0
 | x :: r => tot x + totC r
theorem tot_take : ∀ (ns : List Nat) (i : Nat) (h : i < ns.length), tot (ns.take (i + 1)) = tot (ns.take i) + (3 * ns[i] + 2) ∧ tot (ns.take (i + 1)) ≤ tot ns
 | n :: r, 0, _ => by simp [tot]
 | n :: r, i + 1, h => by
  have := tot_take r i (by simpa using h)
  simp only [List.take_succ_cons, tot, List.getElem_cons_succ]
  omega
theorem totC_take : ∀ (ns : List (List Nat)) (i : Nat) (h : i < ns.length), totC (ns.take (i + 1)) = totC (ns.take i) + tot ns[i] ∧ totC (ns.take (i + 1)) ≤ totC ns
 | n :: r, 0, _ => by simp [totC]
 | n :: r, i + 1, h => by
  have := totC_take r i (by simpa using h)
  simp only [List.take_succ_cons, totC, List.getElem_cons_succ]
  omega
set_option maxHeartbeats 4000000 in
set_option maxRecDepth 100000 in
theorem mkV_any (B : Option Nat) (w : World) (b0 : Nat) (v : Value) (ns : List Nat) (a1 : Int) (hv : VRow B b0 w v ns) (hn : ns.length ≤ 1048576) (hm : ∀ n ∈ ns, n ≤ 1048576) (h0 : 0 ≤ a1) (h1 : a1 + tot ns ≤ 4611686018427387904) :
  Calls Try.prog 107 #[v, .int .i64 a1] w fun e w' => e = .returned (.int .i64 (a1 + tot ns)) ∧ Mk B b0 w w' := by
 obtain ⟨A, cap, rfl, hc⟩ := hv
 have HC := Aside0.mk hc
 have HM := Aside0.mk hm
 have H1 := Aside0.mk h1
 clear hc hm h1
 go_enter Try.func107, Try.ntmps107
 go_wp2
 go_loopg [1, 5] ns.length (fun kq v1 v5 w' => ∃ (i : Nat) (a : Int), Aside0 (i + kq = ns.length ∧ a = a1 + tot (ns.take i)) ∧ v1 = .int .i64 a ∧ v5 = .int .i64 (i : Int) ∧ Aside0 (Mk B b0 w w'))
 case atStart => exact ⟨0, a1, ⟨by omega, by simp [tot]⟩, rfl, by simp, ⟨Mk.refl _ _ _⟩⟩
 case round =>
  obtain ⟨i, a, hi, rfl, rfl, HK⟩ := hrel
  have hio := hi.out
  by_cases hlt : i < ns.length
  ·obtain ⟨m, rfl⟩ : ∃ m, gk = m + 1 := ⟨gk - 1, by omega⟩
   obtain ⟨g, eg, hI⟩ := HC.out (by omega)
   cases eg
   obtain ⟨⟨c, u, hb0, hu0, hM0⟩, hI1, hI2⟩ := hI i hlt
   clear hI
   have I1 := Aside0.mk (hI1.mk HK.out)
   have I2 := Aside0.mk (hI2.mk HK.out)
   have hM1 := hM0.mk HK.out
   obtain ⟨Ab, cb, rfl, _⟩ := hM0
   obtain ⟨c', hb1, hu1⟩ := HK.out.slice hb0 hu0
   have hx0 : wr.cell? ⟨g, i * 3, none⟩ = some (.slice Ab ns[i] cb) := (blk_cell hb1 (i * 3)).trans hu1
   have HM1 := Aside0.mk hM1
   clear hI1 hI2 hM1 hb0 hu0 hb1 hu1
   obtain ⟨t1, t2⟩ := tot_take ns i hlt
   have ha : 0 ≤ a := by omega
   have hb : a + 3 * (ns[i] : Int) + 2 ≤ 4611686018427387904 := by have := H1.out; omega
   have hb' : 0 ≤ (ns[i] : Int) := by omega
   have hni : ns[i] ≤ 1048576 := HM.out _ (List.getElem_mem hlt)
   have HT := Aside0.mk t1
   clear t1 t2
   have d0 : decide ((i : Int) < (ns.length : Int)) = true := decide_eq_true (by omega)
   have d1 : decide (i < ns.length) = true := decide_eq_true hlt
   have d2 : (0 : Int) ≤ (i : Int) := by omega
   have d3 : (i : Int) < (ns.length : Int) := by omega
   clear hio
   go_wp2_with (first
    | ((with_reducible refine gate_callee (f := 129) rfl ?_); refine goesL_ (some 18) rfl rfl Try.func129 (by kernel_rfl) rfl #[.slice Ab ns[i] cb, .int .i64 a] rfl Z.ar ?_; refine (mkM_any B _ b0 _ _ _ HM1.out hni ha (by omega)).mono ?_; rintro e w1 ⟨rfl, hk⟩; refine ⟨_, rfl, ?_⟩; replace HK := Aside0.mk (HK.out.trans hk); replace I1 := Aside0.mk (I1.out.mk hk); replace I2 := Aside0.mk (I2.out.mk hk); clear hk hx0 HM1; obtain ⟨z1, hx0, hf0⟩ := I1.out.cell)
    | ((with_reducible refine gate_store (t := 3) (p := 23) rfl ?_); refine store_event (t := 3) (p := 23) (v := ?vo2) (w1 := w1.setCell ⟨g, i * 3 + 1, none⟩ (.int .i64 (a + 3 * (ns[i] : Int)))) ?hg ?ho ?hn ?hr ?_; (case ho => rfl); (case hg => rfl); (case hn => rfl); (case hr => first | (go_simp; done) | (go_simp; rfl)); intro w2 hw; have K1 : Mk B b0 w1 w2 := hw ▸ Mk.set I1.out _; replace HK := Aside0.mk (HK.out.trans K1); replace I2 := Aside0.mk (I2.out.mk K1); clear K1 hw hx0 hf0 I1; obtain ⟨z2, hx0, hf0⟩ := I2.out.cell)
    | ((with_reducible refine gate_store (t := 3) (p := 30) rfl ?_); refine store_event (t := 3) (p := 30) (v := ?vo3) (w1 := w2.setCell ⟨g, i * 3 + 2, none⟩ (.int .i64 (a + 3 * (ns[i] : Int) + 1))) ?hg ?ho ?hn ?hr ?_; (case ho => rfl); (case hg => rfl); (case hn => rfl); (case hr => first | (go_simp; done) | (go_simp; rfl)); intro w3 hw; have K1 : Mk B b0 w2 w3 := hw ▸ Mk.set I2.out _; replace HK := Aside0.mk (HK.out.trans K1); clear K1 hw hx0 hf0 I2))
   go_roundg m
   case measure => omega
   case rel => exact ⟨i + 1, a + 3 * (ns[i] : Int) + 1 + 1, ⟨by have := hi.out; omega, by have := hi.out.2; have := HT.out; omega⟩, rfl, mk_int (by omega), HK⟩
  ·obtain rfl : i = ns.length := by omega
   have d0 : decide ((ns.length : Int) < (ns.length : Int)) = false := decide_eq_false (by omega)
   have d1 : decide (ns.length < ns.length) = false := decide_eq_false hlt
   have ea : a = a1 + tot ns := by have := hio.2; rwa [List.take_length] at this
   have EA := Aside0.mk ea
   clear hio ea
   go_wp2
   go_ret
   exact ⟨by rw [← EA.out]; rfl, HK.out⟩
set_option maxHeartbeats 4000000 in
set_option maxRecDepth 100000 in
theorem mkC_any (B : Option Nat) (w : World) (b0 : Nat) (v : Value) (ns : List (List Nat)) (a1 : Int) (hv : CRow B b0 w v ns) (hn : ns.length ≤ 1048576) (hl : ∀ n ∈ ns, n.length ≤ 1048576 ∧ ∀ m ∈ n, m ≤ 1048576) (h0 : 0 ≤ a1) (h1 : a1 + totC ns ≤ 4611686018427387904) :
  Calls Try.prog 71 #[v, .int .i64 a1] w fun e w' => e = .returned (.int .i64 (a1 + totC ns)) ∧ Mk B b0 w w' := by
 obtain ⟨A, cap, rfl, hc⟩ := hv
 have HC := Aside0.mk hc
 have HM := Aside0.mk hl
 have H1 := Aside0.mk h1
 clear hc hl h1
 go_enter Try.func71, Try.ntmps71
 go_wp2
 go_loopg [1, 5] ns.length (fun kq v1 v5 w' => ∃ (i : Nat) (a : Int), Aside0 (i + kq = ns.length ∧ a = a1 + totC (ns.take i)) ∧ v1 = .int .i64 a ∧ v5 = .int .i64 (i : Int) ∧ Aside0 (Mk B b0 w w'))
 case atStart => exact ⟨0, a1, ⟨by omega, by simp [totC]⟩, rfl, by simp, ⟨Mk.refl _ _ _⟩⟩
 case round =>
  obtain ⟨i, a, hi, rfl, rfl, HK⟩ := hrel
  have hio := hi.out
  by_cases hlt : i < ns.length
  ·obtain ⟨m, rfl⟩ : ∃ m, gk = m + 1 := ⟨gk - 1, by omega⟩
   obtain ⟨g, eg, hI⟩ := HC.out (by omega)
   cases eg
   obtain ⟨c, u, hb0, hu0, hM0⟩ := hI i hlt
   clear hI
   have hM1 := hM0.mk HK.out
   obtain ⟨Ab, cb, rfl, _⟩ := hM0
   obtain ⟨c', hb1, hu1⟩ := HK.out.slice hb0 hu0
   have hx0 : wr.cell? ⟨g, i, none⟩ = some (.slice Ab ns[i].length cb) := (blk_cell hb1 i).trans hu1
   have HM1 := Aside0.mk hM1
   clear hM1 hb0 hu0 hb1 hu1
   obtain ⟨t1, t2⟩ := totC_take ns i hlt
   have ha : 0 ≤ a := by omega
   have hb : a + (tot ns[i] : Int) ≤ 4611686018427387904 := by have := H1.out; omega
   have hni := HM.out _ (List.getElem_mem hlt)
   have HN := Aside0.mk hni
   have HT := Aside0.mk t1
   clear t1 t2 hni
   have d0 : decide ((i : Int) < (ns.length : Int)) = true := decide_eq_true (by omega)
   have d1 : decide (i < ns.length) = true := decide_eq_true hlt
   have d2 : (0 : Int) ≤ (i : Int) := by omega
   have d3 : (i : Int) < (ns.length : Int) := by omega
   clear hio
   go_wp2_with ((with_reducible refine gate_callee (f := 107) rfl ?_); refine goesL_ (some 17) rfl rfl Try.func107 (by kernel_rfl) rfl #[.slice Ab ns[i].length cb, .int .i64 a] rfl Z.ar ?_; refine (mkV_any B _ b0 _ _ _ HM1.out HN.out.1 HN.out.2 ha hb).mono ?_; rintro e w1 ⟨rfl, hk⟩; refine ⟨_, rfl, ?_⟩; replace HK := Aside0.mk (HK.out.trans hk); clear hk hx0 HM1)
   go_roundg m
   case measure => omega
   case rel => exact ⟨i + 1, a + (tot ns[i] : Int), ⟨by have := hi.out; omega, by have := hi.out.2; have := HT.out; omega⟩, rfl, mk_int (by omega), HK⟩
  ·obtain rfl : i = ns.length := by omega
   have d0 : decide ((ns.length : Int) < (ns.length : Int)) = false := decide_eq_false (by omega)
   have d1 : decide (ns.length < ns.length) = false := decide_eq_false hlt
   have ea : a = a1 + totC ns := by have := hio.2; rwa [List.take_length] at this
   have EA := Aside0.mk ea
   clear hio ea
   go_wp2
   go_ret
   exact ⟨by rw [← EA.out]; rfl, HK.out⟩
/-- A row of whole numbers, in the block B. -/
def IRow (B : Option Nat) (b0 : Nat) (w : World) (v : Value) (n : Nat) : Prop := ∃ A cap, v = .slice A n cap ∧ (0 < n → ∃ g, A = some ⟨g, 0, none⟩ ∧ ∀ i, i < n → Ic B b0 w g i)
theorem IRow.mk {B : Option Nat} {b0 b1 : Nat} {w w' : World} {v : Value} {n : Nat} (h : IRow B b0 w v n) (k : Mk B b1 w w') : IRow B b0 w' v n := by
 obtain ⟨A, cap, e, h⟩ := h
 refine ⟨A, cap, e, fun hn => ?_⟩
 obtain ⟨g, eg, h⟩ := h hn
 exact ⟨g, eg, fun i hi => (h i hi).mk k⟩
theorem IRow.of {w : World} {base b0 : Nat} {ok : Nat → Prop} {v : Value} {l : List Int} (h : Kd.R (Kd.int .i64) 3 w base ok v l) (hb : b0 ≤ base) : IRow v.ownBlock b0 w v l.length := by
 obtain ⟨A, cap, e, h⟩ := own_at h.2
 refine ⟨A, cap, e, fun hn => ?_⟩
 obtain ⟨g, c, eg, hg, hblk, h⟩ := h hn
 refine ⟨g, eg, fun i hi => ⟨by omega, 3, c, l[i], .inr (.inr ⟨rfl, by rw [e, eg]; rfl⟩), hblk, ?_⟩⟩
 obtain ⟨cs, hcs, hj⟩ := h i hi
 have hcs' : cs = [Value.int .i64 l[i]] := hcs
 subst hcs'
 have := hj 0 _ (by decide) rfl
 rw [show i * (Kd.int .i64).sz + 0 = i from Nat.mul_one i] at this
 exact this
theorem Mk.far {B : Option Nat} {b0 : Nat} {w w' : World} (k : Mk B b0 w w') {g : Nat} {T : TypeId} {c : Array Value} (e : w.heap[g]? = some (.cells c T (0, 0))) (hT : T ≠ 134 ∧ T ≠ 86 ∧ T ≠ 3) : w'.heap[g]? = some (.cells c T (0, 0)) := by
 rcases k.at_ g (blk_lt e) with e' | ⟨_, q', d, d', hq', f1, f2, f3, f4⟩
 ·exact e'.trans e
 ·rw [e] at f1
  injection f1 with f1
  injection f1 with f1 f5
  subst f5
  rcases hq' with h | h | h
  ·exact absurd h hT.1
  ·exact absurd h hT.2.1
  ·exact absurd h.1 hT.2.2
set_option maxHeartbeats 4000000 in
set_option maxRecDepth 100000 in
theorem mkI_any (B : Option Nat) (w : World) (b0 : Nat) (v : Value) (n : Nat) (a1 : Int) (hv : IRow B b0 w v n) (hn : n ≤ 1048576) (h0 : 0 ≤ a1) (h1 : a1 ≤ 4611686018427387904) :
  Calls Try.prog 30 #[v, .int .i64 a1] w fun e w' => e = .returned (.int .i64 (a1 + n)) ∧ Mk B b0 w w' := by
 obtain ⟨A, cap, rfl, hc⟩ := hv
 have HC := Aside0.mk hc
 clear hc
 go_enter Try.func30, Try.ntmps30
 go_wp2
 go_loopg [1, 5] n (fun kq v1 v5 w' => ∃ i : Nat, Aside0 (i + kq = n) ∧ v1 = .int .i64 (a1 + (i : Int)) ∧ v5 = .int .i64 (i : Int) ∧ Aside0 (Mk B b0 w w'))
 case atStart => exact ⟨0, ⟨by omega⟩, by simp, by simp, ⟨Mk.refl _ _ _⟩⟩
 case round =>
  obtain ⟨i, hi, rfl, rfl, HK⟩ := hrel
  have hio := hi.out
  by_cases hlt : i < n
  ·obtain ⟨m, rfl⟩ : ∃ m, gk = m + 1 := ⟨gk - 1, by omega⟩
   obtain ⟨g, eg, hI⟩ := HC.out (by omega)
   cases eg
   have I0 := Aside0.mk ((hI i hlt).mk HK.out)
   clear hI
   obtain ⟨z0, hx0, hf0⟩ := I0.out.cell
   have d0 : decide ((i : Int) < (n : Int)) = true := decide_eq_true (by omega)
   have d1 : decide (i < n) = true := decide_eq_true hlt
   have d2 : (0 : Int) ≤ (i : Int) := by omega
   have d3 : (i : Int) < (n : Int) := by omega
   have b1 : a1 + (i : Int) ≤ 4611686018430533632 := by omega
   have b2 : 0 ≤ a1 + (i : Int) := by omega
   clear hio
   go_wp2_with ((with_reducible refine gate_store (t := 3) (p := 15) rfl ?_); refine store_event (t := 3) (p := 15) (v := ?vo1) (w1 := wr.setCell ⟨g, i, none⟩ (.int .i64 (a1 + (i : Int)))) ?hg ?ho ?hn ?hr ?_; (case ho => rfl); (case hg => rfl); (case hn => rfl); (case hr => first | (go_simp; done) | (go_simp; rfl)); intro w1 hw; have K1 : Mk B b0 wr w1 := hw ▸ Mk.set I0.out _; replace HK := Aside0.mk (HK.out.trans K1); clear K1 hw hx0 hf0 I0)
   go_roundg m
   case measure => omega
   case rel => exact ⟨i + 1, ⟨by have := hi.out; omega⟩, mk_int (by omega), mk_int (by omega), HK⟩
  ·obtain rfl : i = n := by omega
   have d0 : decide ((i : Int) < (i : Int)) = false := decide_eq_false (by omega)
   have d1 : decide (i < i) = false := decide_eq_false hlt
   clear hio
   go_wp2
   go_ret
   exact ⟨by rfl, HK.out⟩
set_option maxHeartbeats 4000000 in
set_option maxRecDepth 100000 in
theorem mkH_any (B : Option Nat) (w : World) (b0 : Nat) (P : Int) (A : Option Addr) (cap n : Nat) (a1 : Int) (hv : IRow B b0 w (.slice A n cap) n) (hn : n ≤ 1048576) (h0 : 0 ≤ a1) (h1 : a1 ≤ 4611686018427387904) :
  Calls Try.prog 70 #[.agg #[.int .i64 P, .slice A n cap], .int .i64 a1] w fun e w' => e = .returned (.int .i64 (a1 + n)) ∧ Mk B b0 w w' := by
 have hu := Try.underlying32
 have HV := Aside0.mk hv
 clear hv
 go_enter Try.func70, Try.ntmps70
 go_wp2_with (first
  | ((with_reducible refine gate_dst (N := 2) rfl ?_); refine box_event ?hg (N := 2) ?hd (cs := #[.int .i64 P, .slice A n cap]) (t := 32) ?hr ?_; (case hd | hg => rfl); (case hr => (go_simp; done)); intro gb hg w1 hbox hb; have HK := Aside0.mk (Mk.of_below (B := B) (b0 := b0) hb); replace HV := Aside0.mk (HV.out.mk HK.out); have hcz := Z.c2 hbox; clear hb hg hbox)
  | ((with_reducible refine gate_callee (f := 30) rfl ?_); refine goesL_ (some 8) rfl rfl Try.func30 (by kernel_rfl) rfl #[.slice A n cap, .int .i64 a1] rfl Z.ar ?_; refine (mkI_any B _ b0 _ _ _ HV.out hn h0 h1).mono ?_; rintro e w2 ⟨rfl, hk⟩; refine ⟨_, rfl, ?_⟩; replace HK := Aside0.mk (HK.out.trans hk); clear hk hcz HV))
 go_ret
 exact ⟨by rfl, HK.out⟩
set_option maxHeartbeats 4000000 in
set_option maxRecDepth 100000 in
theorem mkCh_any (B : Option Nat) (w : World) (b0 : Nat) (P : Int) (A A2 : Option Addr) (cap n cap2 : Nat) (ns : List (List Nat)) (a1 : Int) (hv : IRow B b0 w (.slice A n cap) n) (hc : CRow B b0 w (.slice A2 ns.length cap2) ns) (hn : n ≤ 1048576) (hn2 : ns.length ≤ 1048576) (hl : ∀ n ∈ ns, n.length ≤ 1048576 ∧ ∀ m ∈ n, m ≤ 1048576) (h0 : 0 ≤ a1) (h1 : a1 + n + totC ns ≤ 4611686018427387904) :
  Calls Try.prog 29 #[.agg #[.int .i64 P, .slice A n cap, .slice A2 ns.length cap2], .int .i64 a1] w fun e w' => e = .returned (.int .i64 (a1 + n + totC ns)) ∧ Mk B b0 w w' := by
 have hu := Try.underlying35
 have hu2 := Try.underlying32
 have HV := Aside0.mk hv
 have HC := Aside0.mk hc
 have HL := Aside0.mk hl
 clear hv hc hl
 go_enter Try.func29, Try.ntmps29
 go_wp2_with (first
  | ((with_reducible refine gate_dst (N := 2) rfl ?_); refine box_event ?hg (N := 2) ?hd (cs := #[.int .i64 P, .slice A n cap, .slice A2 ns.length cap2]) (t := 35) ?hr ?_; (case hd | hg => rfl); (case hr => (go_simp; done)); intro gb hg w1 hbox hb; have HK := Aside0.mk (Mk.of_below (B := B) (b0 := b0) hb); replace HV := Aside0.mk (HV.out.mk HK.out); replace HC := Aside0.mk (HC.out.mk HK.out); have hcz := Z.c3 hbox; have BK := Aside0.mk hbox; clear hb hg hbox)
  | ((with_reducible refine gate_callee (f := 70) rfl ?_); refine goesL_ (some 8) rfl rfl Try.func70 (by kernel_rfl) rfl #[.agg #[.int .i64 P, .slice A n cap], .int .i64 a1] rfl Z.ar ?_; refine (mkH_any B _ b0 P _ _ _ _ HV.out hn h0 (by omega)).mono ?_; rintro e w2 ⟨rfl, hk⟩; refine ⟨_, rfl, ?_⟩; replace HK := Aside0.mk (HK.out.trans hk); replace HC := Aside0.mk (HC.out.mk hk); replace BK := Aside0.mk (hk.far BK.out (by decide)); clear hk hcz HV; have hcz := Z.c3 BK.out)
  | ((with_reducible refine gate_callee (f := 71) rfl ?_); refine goesL_ (some 12) rfl rfl Try.func71 (by kernel_rfl) rfl #[.slice A2 ns.length cap2, .int .i64 (a1 + n)] rfl Z.ar ?_; refine (mkC_any B _ b0 _ _ _ HC.out hn2 HL.out (by omega) h1).mono ?_; rintro e w3 ⟨rfl, hk⟩; refine ⟨_, rfl, ?_⟩; replace HK := Aside0.mk (HK.out.trans hk); clear hk hcz HC BK))
 go_ret
 exact ⟨by rfl, HK.out⟩
/-! what stays, in the words of the print -/
theorem Mk.below {B : Option Nat} {w W w' : World} (k : Mk B w.heap.size W w') (h : Below w.heap.size w W) : Below w.heap.size w w' :=
 ⟨k.os.trans h.os, k.tape.trans h.tape, k.output.trans h.output, Nat.le_trans h.size k.size, fun i hi => by
  rcases k.at_ i (Nat.lt_of_lt_of_le hi h.size) with e | ⟨hb, _⟩
  ·exact e.trans (h.block i hi)
  ·omega⟩
theorem Mk.row {α : Type} {d : Kd α} {e base b0 : Nat} {B : Option Nat} {ok : Nat → Prop} {v : Value} {xs : List α} {W w' : World} (k : Mk B b0 W w') (h : d.R e W base ok v xs) (hE : d.E = []) (he : e ≠ 134 ∧ e ≠ 86 ∧ e ≠ 3) : d.R e w' base ok v xs := by
 refine Kd.R_mono (Kd.R_step (Kd.R_tight2 hE h) (fun i hi hlt => ?_)) (fun _ hk => hk.2)
 obtain ⟨cells, hc⟩ := Kd.R_typed h i hi.1.symm
 exact (k.far hc he).trans hc.symm
theorem Mk.ints {base b0 : Nat} {B : Option Nat} {ok : Nat → Prop} {v : Value} {xs : List Int} {W w' : World} (k : Mk B b0 W w') (h : (Kd.int .i64).R 3 W base ok v xs) (hne : ∀ i, v.ownBlock = some i → some i ≠ B) : (Kd.int .i64).R 3 w' base ok v xs := by
 refine Kd.R_mono (Kd.R_step (Kd.R_tight2 rfl h) (fun i hi hlt => ?_)) (fun _ hk => hk.2)
 obtain ⟨cells, hc⟩ := Kd.R_typed h i hi.1.symm
 rcases k.at_ i hlt with e | ⟨_, q, d, d', hq, f1, _⟩
 ·exact e
 ·rw [hc] at f1
  injection f1 with f1
  injection f1 with f1 f5
  subst f5
  rcases hq with q1 | q1 | q1
  ·exact absurd q1 (by decide)
  ·exact absurd q1 (by decide)
  ·exact absurd q1.2 (hne i hi.1.symm)
def shapeC (l0_2 : List (List (S86))) : List (List Nat) := l0_2.map fun x => x.map fun y => y.f0.length
def laws_markCharter.f (a0_0 : Int) (l0_1 : List Int) (l0_2 : List (List (S86))) (a1 : Int) : Option (Int) :=
 if 0 ≤ a1 ∧ l0_1.length ≤ 1048576 ∧ l0_2.length ≤ 1048576 ∧ (∀ n ∈ shapeC l0_2, n.length ≤ 1048576 ∧ ∀ m ∈ n, m ≤ 1048576) ∧ a1 + l0_1.length + totC (shapeC l0_2) ≤ 4611686018427387904 then some (a1 + l0_1.length + totC (shapeC l0_2)) else none
theorem laws_markCharter.calls (a0_0 : Int) (A0_1 : Option Addr) (c0_1 : Nat) (l0_1 : List Int) (A0_2 : Option Addr) (c0_2 : Nat) (l0_2 : List (List (S86))) (a1 : Int) (r : Int) (w : World) {b0 : Nat} {ok1 ok2 : Nat → Prop} (ho1 : Kd.R (Kd.int .i64) 3 w b0 ok1 (.slice A0_1 l0_1.length c0_1) l0_1) (ho2 : Kd.R (Kd.slice 86 k86) 83 w b0 ok2 (.slice A0_2 l0_2.length c0_2) l0_2) (h : laws_markCharter.f a0_0 l0_1 l0_2 a1 = some r) :
 Calls Try.prog 29 #[.agg #[.int .i64 a0_0, .slice A0_1 l0_1.length c0_1, .slice A0_2 l0_2.length c0_2], .int .i64 a1] w fun e w' => e = .returned (.int .i64 r) ∧ Mk (Value.slice A0_1 l0_1.length c0_1).ownBlock b0 w w' := by
 unfold laws_markCharter.f at h
 split at h
 ·rename_i hh
  obtain ⟨h1, h2, h3, h4, h5⟩ := hh
  obtain rfl := Option.some.inj h
  have hl : (shapeC l0_2).length = l0_2.length := by unfold shapeC; rw [List.length_map]
  have e2 := CRow.of (B := (Value.slice A0_1 l0_1.length c0_1).ownBlock) ho2 (Nat.le_refl _)
  have := mkCh_any (Value.slice A0_1 l0_1.length c0_1).ownBlock w b0 a0_0 A0_1 A0_2 c0_1 l0_1.length c0_2 (shapeC l0_2) a1 (IRow.of ho1 (Nat.le_refl _)) (by rw [hl]; exact e2) h2 (by rw [hl]; exact h3) h4 h1 h5
  rw [hl] at this
  exact this
 ·cases h

end Go.Proofs.Ytcafckapdgaogaa.PAll
