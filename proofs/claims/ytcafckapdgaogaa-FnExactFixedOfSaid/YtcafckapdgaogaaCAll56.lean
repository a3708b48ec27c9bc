/- Walks of functions that some laws of this seat reach, in the form of the print. -/
import Derived.Test.YtcafckapdgaogaaCAll1
import Derived.Test.YtcafckapdgaogaaCAll14
import Derived.Test.YtcafckapdgaogaaCAll16
import Derived.Test.YtcafckapdgaogaaCAll31
import Derived.Test.YtcafckapdgaogaaV2
import Derived.Maps.OwnSet
-- PRINTED
namespace Go.Proofs.Ytcafckapdgaogaa.PAll
open Go.RowKit Go.Proofs.YtcafckapdgaogaaW.PrintWords Go.Proofs.YtcafckapdgaogaaW.PrintLast Go.Proofs.YtcafckapdgaogaaW.PrintMore
attribute [local go_sem] max2_int min2_int max_two min_two max_three min_three max_four min_four
set_option linter.unusedVariables false
set_option linter.unusedSimpArgs false


/-! ### impl_ChangesTo: function 44 -/
/-! a row that is read from the front and grows at the end -/
/-- Block g holds, from a place on, the elements xs, one cell each. -/
structure QRow (w : World) (base : Nat) (e : TypeId) (v : Value) (xs : List Value) : Prop where
 mk :: (out : ∃ g off cap cur, v = .slice (some ⟨g, off, none⟩) xs.length cap ∧ base ≤ g ∧ w.heap[g]? = some (.cells cur e (0, 0)) ∧ xs.length ≤ cap ∧ cap ≤ maxLen ∧ off + cap ≤ cur.size ∧ (cur.toList.drop off).take xs.length = xs)
theorem QRow.kept {w w' : World} {base : Nat} {e : TypeId} {v : Value} {xs : List Value} {row : Option Nat} (h : QRow w base e v xs) (hg : w.grownBy w' row) (hne : v.ownBlock ≠ row) : QRow w' base e v xs := by
 obtain ⟨g, off, cap, cur, rfl, h1, h2, h3, h4, h5, h6⟩ := h.out
 refine ⟨g, off, cap, cur, rfl, h1, ?_, h3, h4, h5, h6⟩
 have hlt : g < w.heap.size := by
  rcases Nat.lt_or_ge g w.heap.size with hh | hh
  ·exact hh
  ·rw [Array.getElem?_eq_none hh] at h2; cases h2
 rw [hg.block g hlt hne]; exact h2
theorem QRow.head {w : World} {base : Nat} {e : TypeId} {v x : Value} {r : List Value} (h : QRow w base e v (x :: r)) : ∃ g off cap, v = .slice (some ⟨g, off, none⟩) (r.length + 1) cap ∧ 1 ≤ cap ∧ w.cell? ⟨g, off, none⟩ = some x ∧ w.frozen? ⟨g, off, none⟩ = false ∧ QRow w base e (sliced (some ⟨g, off, none⟩) 1 (r.length + 1) cap 1) r := by
 obtain ⟨g, off, cap, cur, rfl, h1, h2, h3, h4, h5, h6⟩ := h.out
 simp only [List.length_cons] at h3 h6
 have hlt : off < cur.size := by omega
 have hx : cur[off]? = some x := by
  rw [List.drop_eq_getElem_cons (by simpa using hlt), List.take_succ_cons] at h6
  rw [Array.getElem?_eq_getElem hlt]
  injection h6 with h6 _
  simpa using h6
 have ht : (cur.toList.drop (off + 1)).take r.length = r := by
  rw [List.drop_eq_getElem_cons (by simpa using hlt), List.take_succ_cons] at h6
  injection h6
 refine ⟨g, off, cap, rfl, by omega, (blk_cell h2 off).trans hx, blk_frozen h2 off, ?_⟩
 unfold sliced
 by_cases hc : cap = 1
 ·have hr : r = [] := List.eq_nil_of_length_eq_zero (by omega)
  subst hr
  exact ⟨g, off, 0, cur, by simp [hc], h1, h2, by simp, by omega, by omega, by simp⟩
 ·exact ⟨g, off + 1, cap - 1, cur, by simp [hc, Addr.add_lit], h1, h2, by omega, by omega, by omega, ht⟩
theorem run_append_at {P : Program} {w : World} (t ty e : TypeId) (i : TypeInfo) (ht : P.underlying t = some (.slice e)) (hi : P.info? e = some i) (hi1 : i.size = 1)
  (g off sLen sCap : Nat) (cur : Array Value) (hg : w.heap[g]? = some (.cells cur e (0, 0)))
  (a : Addr) (u : Value) (hu : w.cell? (a.add 0) = some u) (h1 : u.oneCell' = true) (hroom : sLen + 1 ≤ sCap) (hfit : off + sLen + 1 ≤ cur.size) :
  (Builtin.append_ #[t, t] ty #[.slice (some ⟨g, off, none⟩) sLen sCap, .slice (some a) 1 1]).run P w =
   .ok (.slice (some ⟨g, off, none⟩) (sLen + 1) sCap) (w.setRow g (cur.toList.take (off + sLen) ++ [u] ++ cur.toList.drop (off + sLen + 1)).toArray) := by
 have hf := run_firstCells_some (P := P) (w := w) i.size 1 a 1 1 [u] (by simp [hi1]) (fun j v hj => by
  rcases j with _ | j
  ·simp at hj; subst hj; exact hu
  ·simp at hj)
 have hst := run_storeCells_at P g (off + sLen) e [u] 0 cur w hg (by simpa using hfit) (by simpa using h1)
 simp only [Nat.add_zero, List.length_singleton] at hst
 rw [hi1] at hf
 simp [Builtin.append_, run_underlying ht, sizeOf, typeInfo, hi, Builtin.lenOf, hroom, hf, hi1, Addr.add_lit]
 rw [hst]
 simp [Result.andThen]
theorem run_append_q {P : Program} {w : World} (base : Nat) (t ty e : TypeId) (i : TypeInfo) (z : Value) (ht : P.underlying t = some (.slice e)) (hi : P.info? e = some i) (hz : i.zero = some z) (hi1 : i.size = 1) (hzs : z.cells.size = 1) (bytes : Nat) (hby : i.bytes = bytes)
  (v : Value) (xs : List Value) (hq : QRow w base e v xs) (a : Addr) (u : Value) (hu : w.cell? (a.add 0) = some u) (h1 : u.oneCell' = true) (hl : (xs.length + 1) * bytes ≤ 140737488355328) (hm : xs.length + 1 ≤ maxLen) (hbase : base ≤ w.heap.size) :
  ∃ v' w', (Builtin.append_ #[t, t] ty #[v, .slice (some a) 1 1]).run P w = .ok v' w' ∧ QRow w' base e v' (xs ++ [u]) ∧ w.grownBy w' v.ownBlock ∧ (v'.ownBlock = v.ownBlock ∨ v'.ownBlock = some w.heap.size) := by
 obtain ⟨g, off, cap, cur, rfl, q1, q2, q3, q4, q5, q6⟩ := hq.out
 have hml : maxLen = 9223372036854775807 ∨ True := .inr trivial
 by_cases hroom : xs.length + 1 ≤ cap
 ·have hr := run_append_at (P := P) (w := w) t ty e i ht hi hi1 g off xs.length cap cur q2 a u hu h1 hroom (by omega)
  refine ⟨_, _, hr, ⟨g, off, cap, _, by simp, q1, setRow_heap w g cur _ e _ q2, by simpa using hroom, q4, ?_, ?_⟩, ⟨rfl, rfl, rfl, by simp, fun k _ hk => setRow_other w g k _ (fun e => hk (by simp [Value.ownBlock, e]))⟩, .inl rfl⟩
  ·simp only [List.size_toArray, List.length_append, List.length_take, List.length_drop, Array.length_toList, List.length_singleton]
   omega
  ·have h2 : (cur.toList.take (off + xs.length)).drop off = xs := by rw [List.drop_take, Nat.add_sub_cancel_left]; exact q6
   have h3 : off ≤ (cur.toList.take (off + xs.length)).length := by have hcl : cur.toList.length = cur.size := Array.length_toList; rw [List.length_take, hcl]; omega
   show List.take (xs ++ [u]).length (List.drop off (cur.toList.take (off + xs.length) ++ [u] ++ cur.toList.drop (off + xs.length + 1))) = xs ++ [u]
   rw [List.append_assoc, List.drop_append_of_le_length h3, h2, ← List.append_assoc]
   exact List.take_left
 ·have holds : ∀ j y, xs[j]? = some y → w.cell? ((⟨g, off, none⟩ : Addr).add j) = some y := by
   intro j y hj
   obtain ⟨hjl, hj⟩ := List.getElem?_eq_some_iff.mp hj
   have hadd : (⟨g, off, none⟩ : Addr).add j = ⟨g, off + j, none⟩ := Addr.add_lit ..
   rw [hadd, blk_cell q2 (off + j)]
   have h2 : off + j < cur.size := by omega
   rw [Array.getElem?_eq_getElem h2]
   have h3 : ((cur.toList.drop off).take xs.length)[j]? = some y := by rw [q6, List.getElem?_eq_getElem hjl, hj]
   rw [List.getElem?_take, if_pos hjl, List.getElem?_drop] at h3
   rw [← h3, List.getElem?_eq_getElem (by simpa using h2)]; simp
  have hr := run_append_grow (P := P) w t ty e i z ht hi hz ⟨g, off, none⟩ xs.length cap xs (by rw [hi1]; simp) holds a 1 1 [u] (by simp [hi1]) (fun j y hj => by
   rcases j with _ | j
   ·simp at hj; subst hj; exact hu
   ·simp at hj) (by omega) (by simp only [maxLen] at hm; omega) (growslice_fits (by omega) (by rw [hby]; exact hl))
  have hge := grownCap_ge w (xs.length + 1) cap e
  have hcm : grownCap w (xs.length + 1) cap e ≤ maxLen := grownCap_le_maxLen w (xs.length + 1) cap e hm
  refine ⟨_, _, hr, ⟨w.heap.size, 0, _, _, by simp, hbase, heap_alloc_new w.drew _, by simpa using hge, hcm, ?_, ?_⟩, ⟨rfl, rfl, rfl, by simp, fun k hk _ => heap_alloc_old w.drew _ hk⟩, .inr rfl⟩
  ·simp only [Array.size_append, List.size_toArray, size_zeroCells, hzs, List.length_singleton]
   omega
  ·simp only [Array.toList_append, List.drop_zero]
   exact List.take_left
theorem wpList_append_q {P : Program} {w : World} {ops : Array Oper} {rest : List Oper} {o : Oper} {a : Act} {Q : Exit → Act → World → Prop} (base : Nat) (hgd : o.guard = none) (s x : Operand) (t e : TypeId) (z : Value) (bytes : Nat)
  (ho : o.op = .call { callee := .builtin .append, args := #[s, x], argTypes := #[t, t] }) (ht : P.underlying t = some (.slice e)) (hinfo : (P.info? e).map (fun i => (i.zero, i.size, i.bytes)) = some (some z, 1, bytes)) (hzs : z.cells.size = 1)
  (v : Value) (xs : List Value) (hs : a.eval s = v) (hq : QRow w base e v xs) (ad : Addr) (hx : a.eval x = .slice (some ad) 1 1) (u : Value) (hu : w.cell? (ad.add 0) = some u) (h1 : u.oneCell' = true) (hl : (xs.length + 1) * bytes ≤ 140737488355328) (hm : xs.length + 1 ≤ maxLen) (hbase : base ≤ w.heap.size)
  (h : ∀ v' w', QRow w' base e v' (xs ++ [u]) → w.grownBy w' v.ownBlock → (v'.ownBlock = v.ownBlock ∨ v'.ownBlock = some w.heap.size) → wpList P ops Q rest (a.put o.dst v') w') : wpList P ops Q (o :: rest) a w := by
 obtain ⟨i, hi, hzz⟩ := Option.map_eq_some_iff.1 hinfo
 simp only [Prod.mk.injEq] at hzz
 obtain ⟨z0, z1, z2⟩ := hzz
 obtain ⟨v', w', hr, h2, h3, h4⟩ := run_append_q (P := P) base t o.type e i z ht hi z0 z1 hzs bytes z2 v xs hq ad u hu h1 hl hm hbase
 refine wpList_plain hgd fun _ hK => ?_
 unfold Oper.wp execOp
 simp only [ho, resolve, invoke, builtin, Sem.run_bind, Sem.run_pure, Result.andThen_ok, List.map_toArray, List.map_cons, List.map_nil, hs, hx, hr]
 exact hK _ _ (h v' w' h2 h3 h4)
/-! a map that the call makes, keyed by int, of ints -/
def mapD : List (Int × Int) → DataW Unit
 | [] => .map []
 | (k, d) :: r => (mapD r).put (.int .i64 k) (.lit (.int .i64 d))
def mhas (n : Int) (L : List (Int × Int)) : Bool := L.any fun p => p.1 == n
def mfind (n : Int) : List (Int × Int) → Int
 | [] => 0
 | (k, d) :: r => if k = n then d else mfind n r
theorem isKeyI (n : Int) : WideAt.IsKeyLit (.int .i64 n) := by simp [WideAt.IsKeyLit]
theorem mapD_isMap : ∀ L, Maps.IsMap (mapD L)
 | [] => Maps.isMap_empty
 | (_, _) :: r => (mapD_isMap r).put _ _
theorem mapD_has (n : Int) : ∀ L, Maps.has (mapD L) (.int .i64 n) = mhas n L
 | [] => rfl
 | (k, d) :: r => by
  by_cases h : k = n
  ·subst h; simp only [mapD]; rw [Maps.has_put_same (mapD_isMap r) (isKeyI _)]; simp [mhas]
  ·simp only [mapD]; rw [Maps.has_put_other (by simpa using fun e => h e.symm), mapD_has n r]; simp [mhas, h]
theorem mapD_at (n : Int) : ∀ L, (mapD L).atKey (.int .i64 n) (.lit (.int .i64 0)) = .lit (.int .i64 (mfind n L))
 | [] => rfl
 | (k, d) :: r => by
  by_cases h : k = n
  ·subst h; simp only [mapD]; rw [Maps.atKey_put_same (mapD_isMap r) (isKeyI _)]; simp [mfind]
  ·simp only [mapD]; rw [Maps.atKey_put_other (by simpa using fun e => h e.symm), mapD_at n r]; simp [mfind, h]
def MapAt (w : World) (g : Nat) (L : List (Int × Int)) : Prop := w.ownsMap Try.prog 3 (plainElem Try.prog 3) g L.length (mapD L)
theorem Ci_grown {w w' : World} {A : Option Addr} {l : List Int} {row : Option Nat} (h : Kd.C (Kd.int .i64) w A l.length l) (hg : w.grownBy w' row) (hne : l.length ≠ 0 → ∀ ad, A = some ad → some ad.block ≠ row) : Kd.C (Kd.int .i64) w' A l.length l := by
 obtain ⟨h1, h2, h3⟩ := h
 refine ⟨h1, h2, fun hn => ?_⟩
 obtain ⟨ad, e, hc⟩ := h3 hn
 refine ⟨ad, e, fun j p hp => ?_⟩
 obtain ⟨c, hs, hr, hcell⟩ := hc j p hp
 refine ⟨c, hs, hr, fun i u hu => hg.cell (hcell i u hu) ?_⟩
 have : (ad.add (j * (Kd.int .i64).sz + i)).block = ad.block := by unfold Addr.add; split <;> rfl
 rw [this]; exact hne (by omega) ad e
/-- The slice u reads as x; it lies in none of the two blocks. -/
structure El (gq gm : Nat) (w : World) (u : Value) (x : List Int) : Prop where
 mk :: (out : ∃ A c, u = .slice A x.length c ∧ x.length ≤ c ∧ Kd.C (Kd.int .i64) w A x.length x ∧ (x.length ≠ 0 → ∀ ad, A = some ad → ad.block ≠ gq ∧ ad.block ≠ gm ∧ ad.block < w.heap.size))
theorem El.step {gq gm gq' : Nat} {w w' : World} {u : Value} {x : List Int} {row : Option Nat} (h : El gq gm w u x) (hg : w.grownBy w' row) (hr : row = none ∨ row = some gq ∨ row = some gm) (hq : gq' = gq ∨ w.heap.size ≤ gq') : El gq' gm w' u x := by
 obtain ⟨A, c, e1, e2, e3, e4⟩ := h.out
 refine ⟨A, c, e1, e2, Ci_grown e3 hg (fun hn ad ha => ?_), fun hn ad ha => ?_⟩
 ·obtain ⟨n1, n2, n3⟩ := e4 hn ad ha
  rcases hr with rfl | rfl | rfl
  ·simp
  ·simpa using n1
  ·simpa using n2
 ·obtain ⟨n1, n2, n3⟩ := e4 hn ad ha
  have := hg.size
  refine ⟨?_, n2, by omega⟩
  rcases hq with rfl | hq
  ·exact n1
  ·omega
/-- The rows of a queue, each slice read. -/
def Els (gq gm : Nat) (w : World) : List Value → List (List Int) → Prop
 | [], [] => True
 | u :: us, x :: xs => El gq gm w u x ∧ Els gq gm w us xs
 | _, _ => False
theorem Els.step {gq gm gq' : Nat} {w w' : World} {row : Option Nat} (hg : w.grownBy w' row) (hr : row = none ∨ row = some gq ∨ row = some gm) (hq : gq' = gq ∨ w.heap.size ≤ gq') : ∀ {us : List Value} {xs : List (List Int)}, Els gq gm w us xs → Els gq' gm w' us xs
 | [], [], _ => trivial
 | _ :: _, _ :: _, h => ⟨h.1.step hg hr hq, Els.step hg hr hq h.2⟩
 | [], _ :: _, h => h.elim
 | _ :: _, [], h => h.elim
theorem Els.len {gq gm : Nat} {w : World} : ∀ {us : List Value} {xs : List (List Int)}, Els gq gm w us xs → us.length = xs.length
 | [], [], _ => rfl
 | _ :: _, _ :: _, h => by simp [Els.len h.2]
 | [], _ :: _, h => h.elim
 | _ :: _, [], h => h.elim
theorem Els.snoc {gq gm : Nat} {w : World} {u : Value} {x : List Int} (hx : El gq gm w u x) : ∀ {us : List Value} {xs : List (List Int)}, Els gq gm w us xs → Els gq gm w (us ++ [u]) (xs ++ [x])
 | [], [], _ => ⟨hx, trivial⟩
 | _ :: _, _ :: _, h => ⟨h.1, Els.snoc hx h.2⟩
 | [], _ :: _, h => h.elim
 | _ :: _, [], h => h.elim
/-- What holds all along: the box of the charter, the map, the queue, and slices that are looked at. -/
structure RI (w0 : World) (gb gm : Nat) (cs : Array Value) (W : World) (v : Value) (q : List (List Int)) (hold : List (Value × List Int)) (D : List (Int × Int)) : Prop where
 hb : Below w0.heap.size w0 W
 bx : W.heap[gb]? = some (.cells cs 35 (0, 0))
 lb : w0.heap.size ≤ gb
 lm : w0.heap.size ≤ gm
 ne : gb ≠ gm
 mp : MapAt W gm D
 qu : ∃ gq us, v.ownBlock = some gq ∧ gq ≠ gm ∧ gq ≠ gb ∧ w0.heap.size ≤ gq ∧ QRow W w0.heap.size 22 v us ∧ Els gq gm W us q ∧ ∀ p ∈ hold, El gq gm W p.1 p.2
section
variable {w0 : World} {gb gm : Nat} {cs : Array Value} {W w' : World} {v : Value} {q : List (List Int)} {hold : List (Value × List Int)} {D : List (Int × Int)}
theorem grown0 (h : Below W.heap.size W w') : W.grownBy w' none := ⟨h.os, h.tape, h.output, h.size, fun k hk _ => h.block k hk⟩
theorem RI.step (h : RI w0 gb gm cs W v q hold D) (hb : Below W.heap.size W w') : RI w0 gb gm cs w' v q hold D := by
 obtain ⟨gq, us, e1, e2, e3, e4, e5, e6, e7⟩ := h.qu
 have hg := grown0 hb
 refine ⟨below_step h.hb hb, blk_below h.bx hb, h.lb, h.lm, h.ne, h.mp.kept hg (by simp), gq, us, e1, e2, e3, e4, e5.kept hg (by rw [e1]; simp), e6.step hg (.inl rfl) (.inl rfl), fun p hp => (e7 p hp).step hg (.inl rfl) (.inl rfl)⟩
theorem RI.put {n d : Int} (h : RI w0 gb gm cs W v q hold D) (ho : w'.ownsMap Try.prog 3 (plainElem Try.prog 3) gm (D.length + 1) ((mapD D).put (.int .i64 n) (.lit (.int .i64 d)))) (hg : W.grownBy w' (some gm)) : RI w0 gb gm cs w' v q hold ((n, d) :: D) := by
 obtain ⟨gq, us, e1, e2, e3, e4, e5, e6, e7⟩ := h.qu
 refine ⟨h.hb.grown hg h.hb.size (fun k hk => by cases hk; exact h.lm), (hg.block gb (blk_lt h.bx) (by simpa using h.ne)).trans h.bx, h.lb, h.lm, h.ne, ho, gq, us, e1, e2, e3, e4, e5.kept hg (by rw [e1]; simpa using e2), e6.step hg (.inr (.inr rfl)) (.inl rfl), fun p hp => (e7 p hp).step hg (.inr (.inr rfl)) (.inl rfl)⟩
theorem wpList_append_RI {P : Program} {ops : Array Oper} {rest : List Oper} {o : Oper} {a : Act} {Q : Exit → Act → World → Prop} (hgd : o.guard = none) (s x : Operand) (t : TypeId) (z : Value) (bytes : Nat)
  (ho : o.op = .call { callee := .builtin .append, args := #[s, x], argTypes := #[t, t] }) (ht : P.underlying t = some (.slice 22)) (hinfo : (P.info? 22).map (fun i => (i.zero, i.size, i.bytes)) = some (some z, 1, bytes)) (hzs : z.cells.size = 1)
  {u : Value} {y : List Int} (h : RI w0 gb gm cs W v q hold D) (hx : (u, y) ∈ hold) (hs : a.eval s = v) (ad : Addr) (hxa : a.eval x = .slice (some ad) 1 1) (hu : W.cell? (ad.add 0) = some u) (h1 : u.oneCell' = true) (hl : (q.length + 1) * bytes ≤ 140737488355328) (hm : q.length + 1 ≤ maxLen)
  (hK : ∀ v' w', RI w0 gb gm cs w' v' (q ++ [y]) hold D → wpList P ops Q rest (a.put o.dst v') w') : wpList P ops Q (o :: rest) a W := by
 obtain ⟨gq, us, e1, e2, e3, e4, e5, e6, e7⟩ := h.qu
 have hlen := e6.len
 refine wpList_append_q w0.heap.size hgd s x t 22 z bytes ho ht hinfo hzs v us hs e5 ad hxa u hu h1 (by rw [hlen]; exact hl) (by rw [hlen]; exact hm) h.hb.size ?_
 intro v' w' hq hg hv
 refine hK v' w' ?_
 have l1 := h.hb.size
 have l2 : gm < W.heap.size := World.ownsMap.lt h.mp
 have l3 := blk_lt h.bx
 obtain ⟨gq', f1, f2⟩ : ∃ g', v'.ownBlock = some g' ∧ (g' = gq ∨ W.heap.size = g') := by
  rcases hv with hv | hv
  ·exact ⟨gq, hv.trans e1, .inl rfl⟩
  ·exact ⟨_, hv, .inr rfl⟩
 have f2' : gq' = gq ∨ W.heap.size ≤ gq' := f2.imp id Nat.le_of_eq
 rw [e1] at hg
 refine ⟨h.hb.grown hg h.hb.size (fun k hk => by cases hk; exact e4), (hg.block gb l3 (by simpa using fun e => e3 e.symm)).trans h.bx, h.lb, h.lm, h.ne, h.mp.kept hg (by simpa using fun e => e2 e.symm), gq', us ++ [u], f1, ?_, ?_, ?_, hq, (e6.step hg (.inr (.inl rfl)) f2').snoc ((e7 _ hx).step hg (.inr (.inl rfl)) f2'), fun p hp => (e7 p hp).step hg (.inr (.inl rfl)) f2'⟩
 ·rcases f2 with rfl | rfl
  ·exact e2
  ·omega
 ·rcases f2 with rfl | rfl
  ·exact e3
  ·omega
 ·rcases f2 with rfl | rfl
  ·exact e4
  ·omega
theorem RI.pop {x : List Int} (h : RI w0 gb gm cs W v (x :: q) hold D) : ∃ g off cap u, v = .slice (some ⟨g, off, none⟩) (q.length + 1) cap ∧ 1 ≤ cap ∧ W.cell? ⟨g, off, none⟩ = some u ∧ W.frozen? ⟨g, off, none⟩ = false ∧ RI w0 gb gm cs W (sliced (some ⟨g, off, none⟩) 1 (q.length + 1) cap 1) q ((u, x) :: hold) D := by
 obtain ⟨gq, us, e1, e2, e3, e4, e5, e6, e7⟩ := h.qu
 cases us with
 | nil => exact e6.elim
 | cons u us =>
  obtain ⟨e6a, e6b⟩ := e6
  obtain ⟨g, off, cap, rfl, c1, c2, c3, c4⟩ := e5.head
  have hl := e6b.len
  rw [hl] at c4
  obtain rfl : g = gq := by simpa [Value.ownBlock] using e1
  refine ⟨g, off, cap, u, by rw [hl], c1, c2, c3, h.hb, h.bx, h.lb, h.lm, h.ne, h.mp, g, us, ?_, e2, e3, e4, c4, e6b, ?_⟩
  ·unfold sliced; by_cases hc : cap = 1 <;> simp [hc, Value.ownBlock, Addr.add_lit]
  ·intro p hp
   rcases List.mem_cons.mp hp with rfl | hp
   ·exact e6a
   ·exact e7 p hp
theorem RI.sub {hold' : List (Value × List Int)} (h : RI w0 gb gm cs W v q hold D) (hs : ∀ p ∈ hold', p ∈ hold) : RI w0 gb gm cs W v q hold' D := by
 obtain ⟨gq, us, e1, e2, e3, e4, e5, e6, e7⟩ := h.qu
 exact ⟨h.hb, h.bx, h.lb, h.lm, h.ne, h.mp, gq, us, e1, e2, e3, e4, e5, e6, fun p hp => e7 p (hs p hp)⟩
/-- A slice that a callee has made. -/
theorem RI.new {ok : Nat → Prop} {A : Option Addr} {c : Nat} {y : List Int} (h : RI w0 gb gm cs W v q hold D) (hr : (Kd.int .i64).R 3 w' W.heap.size ok (.slice A y.length c) y) (hb : Below W.heap.size W w') : RI w0 gb gm cs w' v q ((.slice A y.length c, y) :: hold) D := by
 have h' := h.step hb
 have l2 : gm < W.heap.size := World.ownsMap.lt h.mp
 obtain ⟨gq, us, e1, e2, e3, e4, e5, e6, e7⟩ := h.qu
 have l4 : gq < W.heap.size := by
  obtain ⟨g, off, cap, cur, rfl, _, hh, _⟩ := e5.out
  obtain rfl : g = gq := by simpa [Value.ownBlock] using e1
  exact blk_lt hh
 have hg := grown0 hb
 refine ⟨h'.hb, h'.bx, h'.lb, h'.lm, h'.ne, h'.mp, gq, us, e1, e2, e3, e4, e5.kept hg (by rw [e1]; simp), e6.step hg (.inl rfl) (.inl rfl), fun p hp => ?_⟩
 rcases List.mem_cons.mp hp with rfl | hp
 ·obtain ⟨_, r1, r2⟩ := Kd.R_reads' hr
  refine ⟨A, c, rfl, r1, r2, fun _ ad ha => ?_⟩
  subst ha
  have b1 := Kd.R_base hr ad.block rfl
  have b2 := Kd.R_lt hr ad.block rfl
  exact ⟨by omega, by omega, b2⟩
 ·exact (e7 p hp).step hg (.inl rfl) (.inl rfl)
theorem RI.held {A : Option Addr} {c : Nat} {x : List Int} (h : RI w0 gb gm cs W v q hold D) (hm : (.slice A x.length c, x) ∈ hold) : x.length ≤ c ∧ Kd.C (Kd.int .i64) W A x.length x := by
 obtain ⟨gq, us, e1, e2, e3, e4, e5, e6, e7⟩ := h.qu
 obtain ⟨A', c', f1, f2, f3, _⟩ := (e7 _ hm).out
 injection f1 with a1 a2 a3
 subst a1 a3
 exact ⟨f2, f3⟩
theorem RI.form {u : Value} {x : List Int} (h : RI w0 gb gm cs W v q hold D) (hm : (u, x) ∈ hold) : ∃ A c, u = .slice A x.length c := by
 obtain ⟨gq, us, e1, e2, e3, e4, e5, e6, e7⟩ := h.qu
 obtain ⟨A', c', f1, _⟩ := (e7 _ hm).out
 exact ⟨A', c', f1⟩
theorem RI.shape (h : RI w0 gb gm cs W v q hold D) : ∃ ad cap, v = .slice (some ad) q.length cap := by
 obtain ⟨gq, us, e1, e2, e3, e4, e5, e6, e7⟩ := h.qu
 obtain ⟨g, off, cap, cur, rfl, _⟩ := e5.out
 exact ⟨_, cap, by rw [e6.len]⟩
theorem El.of {w : World} {A : Option Addr} {c : Nat} {x : List Int} {gq gm : Nat} (h : Kd.C (Kd.int .i64) w A x.length x) (hc : x.length ≤ c) (hb : Below w.heap.size w W) (h1 : w.heap.size ≤ gq) (h2 : w.heap.size ≤ gm) : El gq gm W (.slice A x.length c) x := by
 refine ⟨A, c, rfl, hc, Kd.C_below h hb, fun hn ad ha => ?_⟩
 obtain ⟨_, _, h3⟩ := h
 obtain ⟨ad', e, hcell⟩ := h3 (by omega)
 rw [ha] at e
 obtain rfl : ad = ad' := by injection e
 obtain ⟨cc, l1, l2, l3⟩ := hcell 0 x[0] (List.getElem?_eq_getElem (by omega))
 have hlen : cc.length = 1 := l1
 have hlt := World.block_lt_of_cell? w _ (l3 0 cc[0] (List.getElem?_eq_getElem (by omega)))
 have : (ad.add (0 * (Kd.int .i64).sz + 0)).block = ad.block := by unfold Addr.add; split <;> rfl
 rw [this] at hlt
 have := hb.size
 exact ⟨by omega, by omega, by omega⟩
end
theorem wpList_insert_own {P : Program} (w : World) {ops : Array Oper} {rest : List Oper} {o : Oper} {a : Act} {Q : Exit → Act → World → Prop}
  (hg : o.guard = none) (m x v : Operand) (t : TypeId) (hop : o.op = Op.insert t m x v)
  (k e : TypeId) (K : Maps.Keyed P k) (ht : P.underlying t = some (.map k e)) (R : Value → Option (DataW Unit × List MemPlace)) (b n : Nat) (D : DataW Unit)
  (hm : a.eval m = .map (some b)) (hown : w.ownsMap P k R b n D) (hn : n < maxLen) (key val : Value) (kl : Lit) (hx : a.eval x = key) (hv : a.eval v = val) (hkey : keyOf P k key = some kl)
  (d : DataW Unit) (ps : List MemPlace) (hval : R val = some (d, ps))
  (hK : ∀ w', w'.ownsMap P k R b (n + 1) (D.put kl d) → w.grownBy w' (some b) → wpList P ops Q rest (a.put o.dst undef) w') :
  wpList P ops Q (o :: rest) a w := by
 refine wpList_plain hg fun K' hK' => ?_
 obtain ⟨w', hrun, r1, r2⟩ := hown.update K ht hn hkey hval
 unfold Oper.wp
 simp [execOp, hop, hm, hx, hv, hrun, Result.andThen]
 exact hK' _ _ (hK w' r1 r2)
theorem keyed3 : Maps.Keyed Try.prog 3 := Maps.int_keyed Try.underlying3
theorem zero3 (w : World) : (zeroValue 3).run Try.prog w = .ok (.int .i64 0) w := by kernel_rfl
theorem stNum_wf : ∀ (k : Nat) (l : List Int) (a b r : Int), (Lit.int .i64 a).wf = true → impl_stateNumber.l0 k l a b = some r → (Lit.int .i64 r).wf = true
 | 0, _, _, _, _, _, h => by rw [impl_stateNumber.l0] at h; cases h
 | k + 1, l, a, b, r, ha, h => by
  rw [impl_stateNumber.l0] at h
  by_cases c1 : b ≥ 0
  ·rw [if_pos c1, if_pos c1] at h
   split at h
   ·exact stNum_wf k l _ _ r (wrap64_wf _) h
   ·cases h
  ·rw [if_neg c1] at h; injection h with h; subst h; exact ha
theorem stNum_key {k : Nat} {l : List Int} {r : Int} (h : impl_stateNumber.f k l = some r) : keyOf Try.prog 3 (.int .i64 r) = some (.int .i64 r) :=
 Maps.keyOf_int_mk Try.underlying3 (stNum_wf k l 0 _ r rfl h)
mutual
def impl_reach.l0 : Nat → List (Int × Int) → List (List Int) → Int → List Int → List (List S86) → Int → Option (List (Int × Int))
 | 0, _, _, _, _, _, _ => none
 | _ + 1, D, [], _, _, _, _ => some D
 | k + 1, D, x :: q, P, B, C, cr => impl_reach.l1 k D q x 0 P B C cr
def impl_reach.l1 : Nat → List (Int × Int) → List (List Int) → List Int → Nat → Int → List Int → List (List S86) → Int → Option (List (Int × Int))
 | 0, _, _, _, _, _, _, _, _ => none
 | k + 1, D, q, x, i, P, B, C, cr => if i < C.length then impl_reach.l2 k D q x i 0 P B C cr else impl_reach.l0 k D q P B C cr
def impl_reach.l2 : Nat → List (Int × Int) → List (List Int) → List Int → Nat → Nat → Int → List Int → List (List S86) → Int → Option (List (Int × Int))
 | 0, _, _, _, _, _, _, _, _, _ => none
 | k + 1, D, q, x, i, j, P, B, C, cr => if j < (rd_L9 C (i : Int)).length then
   (impl_changed.f x (i : Int) (j : Int)).bind fun y => (impl_stateNumber.f k y).bind fun n =>
    if mhas n D = true then impl_reach.l2 k D q x i (j + 1) P B C cr
    else (impl_mayChange.f k P B C x (i : Int) (j : Int) cr).bind fun b =>
     if b = true then (impl_stateNumber.f k x).bind fun m => if D.length + 1 ≤ 1099511627776 ∧ q.length + 1 ≤ 1099511627776 then impl_reach.l2 k ((n, wrap64 (mfind m D + 1)) :: D) (q ++ [y]) x i (j + 1) P B C cr else none
     else impl_reach.l2 k D q x i (j + 1) P B C cr
  else impl_reach.l1 k D q x (i + 1) P B C cr
end
def impl_reach.f (k : Nat) (P : Int) (B : List Int) (C : List (List S86)) (s : List Int) (cr : Int) : Option (List (Int × Int)) := (impl_stateNumber.f k s).bind fun n => impl_reach.l0 k [(n, 0)] [s] P B C cr
theorem wrap_ok (i : Nat) (h : i < 9223372036854775807) : Value.int .i64 (wrap64 ((i : Int) + 1)) = Value.int .i64 ((i + 1 : Nat) : Int) := by
 have : wrap64 ((i : Int) + 1) = ((i + 1 : Nat) : Int) := by unfold wrap64; omega
 rw [this]
theorem at_eq {n c : Int} {D : List (Int × Int)} (h : (mapD D).atKey (.int .i64 n) (.lit (.int .i64 0)) = .lit (.int .i64 c)) : c = mfind n D := by
 rw [mapD_at] at h; injection h with h; injection h with _ h; exact h.symm
set_option maxHeartbeats 4000000 in
set_option maxRecDepth 100000 in
theorem impl_reach.calls (k : Nat) (a0_0 : Int) (A0_1 : Option Addr) (c0_1 : Nat) (l0_1 : List Int) (A0_2 : Option Addr) (c0_2 : Nat) (l0_2 : List (List (S86))) (A1 : Option Addr) (c1 : Nat) (l1 : List Int) (a2 : Int) (r : List (Int × Int)) (w : World) (hr0_1 : Kd.C (Kd.int .i64) w A0_1 l0_1.length l0_1) (hc0_1 : l0_1.length ≤ c0_1) (hr0_2 : Kd.C (Kd.slice 86 k86) w A0_2 l0_2.length l0_2) (hc0_2 : l0_2.length ≤ c0_2) (hr1 : Kd.C (Kd.int .i64) w A1 l1.length l1) (hc1 : l1.length ≤ c1) (h : impl_reach.f k a0_0 l0_1 l0_2 l1 a2 = some r) :
 Calls Try.prog 88 #[.agg #[.int .i64 a0_0, .slice A0_1 l0_1.length c0_1, .slice A0_2 l0_2.length c0_2], .slice A1 l1.length c1, .int .i64 a2] w fun e w' => ∃ g, e = .returned (.map (some g)) ∧ MapAt w' g r ∧ Below w.heap.size w w' := by
 have hu35 := Try.underlying35
 have hu102 := Try.underlying102
 have hmm := @run_makeMap Try.prog
 have HR0_1 := Aside0.mk hr0_1
 have HR0_2 := Aside0.mk hr0_2
 have HR1 := Aside0.mk hr1
 have HC0_1 := Aside0.mk hc0_1
 have HC0_2 := Aside0.mk hc0_2
 have HC1 := Aside0.mk hc1
 clear hr0_1 hr0_2 hr1 hc0_1 hc0_2 hc1
 unfold impl_reach.f at h
 obtain ⟨n, hn, h⟩ := Option.bind_eq_some_iff.mp h
 have HN := Aside0.mk hn
 have H := Aside0.mk h
 clear hn h
 go_enter Try.func88, Try.ntmps88
 go_wp2_with (first
  | ((with_reducible refine gate_dst (N := 3) rfl ?_); refine box_event ?hg (N := 3) ?hd (cs := #[.int .i64 a0_0, .slice A0_1 l0_1.length c0_1, .slice A0_2 l0_2.length c0_2]) (t := 35) ?hr ?_; (case hd | hg => rfl); (case hr => (go_simp; done)); intro gb hg w1 hbox hb; have HB := Aside0.mk hb; have HX := Aside0.mk hbox; have HG := Aside0.mk hg; clear hb hg hbox)
  | (go_at_call 83; (with_reducible refine (impl_stateNumber.calls k _ _ l1 n _ ?q1 ?q2 HN.out).mono ?_); (case q1 => exact (Kd.C_alloc (Kd.C_below HR1.out HB.out) _)); (case q2 => exact HC1.out); rintro e w' ⟨rfl, ⟨nd, rfl⟩⟩)
  | (refine wpList_insert_own _ rfl _ _ _ 97 rfl 3 3 keyed3 Try.underlying97 _ w1.heap.size 0 (.map []) rfl (World.ownsMap_made w1 Try.prog 3 (plainElem Try.prog 3)) (by decide) _ _ (.int .i64 n) rfl rfl (stNum_key HN.out) (.lit (.int .i64 0)) [] (plainElem_int Try.underlying3 (by decide)) ?_; intro w2 hown1 hg1))
 obtain ⟨gm, hgm⟩ : ∃ g, g = w1.heap.size := ⟨_, rfl⟩
 obtain ⟨W, hW⟩ : ∃ W_, W_ = w2.alloc (.cells #[.slice A1 l1.length c1] 22) := ⟨_, rfl⟩
 have HI : Aside0 (RI w gb gm #[.int .i64 a0_0, .slice A0_1 l0_1.length c0_1, .slice A0_2 l0_2.length c0_2] W (.slice (some ⟨w2.heap.size, 0, none⟩) 1 1) [l1] [] [(n, 0)]) := by
  subst hgm
  subst hW
  have b1 := HB.out
  have b0 : Below w1.heap.size w1 ((w1.alloc (.map #[] 0)).drewN nd) := pw_below_drewN (below_alloc (Below.refl _ _) _) _
  have b2 : Below w.heap.size w ((w1.alloc (.map #[] 0)).drewN nd) := below_step b1 b0
  have b3 : Below w.heap.size w w2 := b2.grown hg1 b2.size (fun k hk => by cases hk; exact b1.size)
  have b4 : Below w.heap.size w (w2.alloc (.cells #[.slice A1 l1.length c1] 22)) := below_alloc b3 _
  have z1 : w1.heap.size < w2.heap.size := World.ownsMap.lt hown1
  have z2 := blk_lt HX.out
  have x1 := blk_below HX.out b0
  have x2 := (hg1.block gb (blk_lt x1) (by simp; omega)).trans x1
  refine ⟨b4, blk_below x2 (below_alloc (Below.refl _ _) _), by rw [HG.out]; exact Nat.le_refl _, b1.size, by omega, World.ownsMap.alloc hown1 _, w2.heap.size, [.slice A1 l1.length c1], rfl, by omega, by omega, b3.size, ⟨w2.heap.size, 0, 1, _, rfl, b3.size, heap_alloc_new w2 _, by simp, by decide, by simp, by simp⟩, ⟨El.of HR1.out HC1.out b4 b3.size b1.size, trivial⟩, fun p hp => by cases hp⟩
 rw [← hgm]
 rw [← hW]
 clear hg1 hown1 HG HX
 clear HB hgm hW HN
 generalize hv0 : (Value.slice (some ⟨w2.heap.size, 0, none⟩) 1 1) = v0 at HI
 clear hv0
 go_loopg [8] k (fun gk v8 wr => ∃ q D, Aside0 (impl_reach.l0 gk D q a0_0 l0_1 l0_2 a2 = some r) ∧ Aside0 (RI w gb gm #[.int .i64 a0_0, .slice A0_1 l0_1.length c0_1, .slice A0_2 l0_2.length c0_2] wr v8 q [] D))
 case atStart => exact ⟨[l1], [(n, 0)], H, HI⟩
 case round =>
  obtain ⟨q, D, HL, HI⟩ := hrel
  have hl := HL.out
  cases gk with
  | zero => rw [impl_reach.l0] at hl; cases hl
  | succ m =>
  cases q with
  | nil =>
   rw [impl_reach.l0] at hl
   obtain rfl := Option.some.inj hl
   clear hl
   obtain ⟨ad, cap, rfl⟩ := HI.out.shape
   go_wp2
   go_ret
   exact ⟨gm, rfl, HI.out.mp, HI.out.hb⟩
  | cons x q =>
   rw [impl_reach.l0] at hl
   replace HL := Aside0.mk hl
   clear hl
   obtain ⟨g, off, cap, u, rfl, hcap, hx, hf, hI⟩ := HI.out.pop
   obtain ⟨A, c, rfl⟩ := hI.form List.mem_cons_self
   have hcz := Z.c3 hI.bx
   replace HI := Aside0.mk hI
   have d0 : decide ((0 : Int) < ((q.length : Int) + 1)) = true := decide_eq_true (by omega)
   clear hI
   go_upto_region 5 with (fail)
   go_cut [8] (fun v8 wc => Aside0 (RI w gb gm #[.int .i64 a0_0, .slice A0_1 l0_1.length c0_1, .slice A0_2 l0_2.length c0_2] wc v8 q [(.slice A x.length c, x)] D))
   case first =>
    by_cases hc : cap = 1
    ·subst hc
     go_wp2
     go_meet
     case rel => exact ⟨by simpa [sliced] using HI.out⟩
    ·go_wp2
     go_meet
     case rel => exact ⟨by simpa [sliced, hc, Addr.add_lit] using HI.out⟩
   case rest =>
    clear HI hx hf hcz hcap d0
    have HI := hcut
    clear hcut
    have hcz := Z.c3 HI.out.bx
    go_wp2
    clear hcz
    go_loopg [33, 8] m (fun g2 v33 v8 wr => ∃ (i : Nat) (q : List (List Int)) (D : List (Int × Int)), v33 = .int .i64 (i : Int) ∧ Aside0 (i ≤ l0_2.length) ∧ Aside0 (g2 ≤ m) ∧ Aside0 (impl_reach.l1 g2 D q x i a0_0 l0_1 l0_2 a2 = some r) ∧ Aside0 (RI w gb gm #[.int .i64 a0_0, .slice A0_1 l0_1.length c0_1, .slice A0_2 l0_2.length c0_2] wr v8 q [(.slice A x.length c, x)] D))
    case atStart => exact ⟨0, q, D, rfl, ⟨Nat.zero_le _⟩, ⟨Nat.le_refl _⟩, HL, HI⟩
    case round =>
     clear HL HI
     obtain ⟨i, q, D, rfl, HLe, HM, HL, HI⟩ := hrel
     have hl := HL.out
     cases gk with
     | zero => rw [impl_reach.l1] at hl; cases hl
     | succ m2 =>
     rw [impl_reach.l1] at hl
     by_cases hi : i < l0_2.length
     ·rw [if_pos hi] at hl
      replace HL := Aside0.mk hl
      clear hl
      have p1 : (0 : Int) ≤ (i : Int) := by omega
      have q1 : (i : Int) < (l0_2.length : Int) := by omega
      obtain ⟨ad, A0, c0, ea, hx, hl0, hC0⟩ := at_L9 HR0_2.out (i : Int) p1 q1
      cases ea
      replace hx := Z.up HI.out.hb hx
      have hnv : (rd_L9 l0_2 (i : Int)).length ≤ 9223372036854775807 := hC0.2.1
      have hil : l0_2.length ≤ 9223372036854775807 := HR0_2.out.2.1
      have HIL := Aside0.mk (Nat.lt_of_lt_of_le hi hil)
      clear hC0 hl0 hil
      rw [Int.toNat_natCast] at hx
      generalize hX : (rd_L9 l0_2 (i : Int)).length = nv at hx hnv
      have HX := Aside0.mk hX
      have HNV := Aside0.mk hnv
      clear hX hnv
      have d0 : decide ((i : Int) < (l0_2.length : Int)) = true := decide_eq_true q1
      have d1 : decide (i < l0_2.length) = true := decide_eq_true hi
      go_wp2
      clear hx
      go_loopg [40, 8] m2 (fun g3 v40 v8 wr => ∃ (j : Nat) (q : List (List Int)) (D : List (Int × Int)), v40 = .int .i64 (j : Int) ∧ Aside0 (j ≤ nv) ∧ Aside0 (g3 ≤ m2) ∧ Aside0 (impl_reach.l2 g3 D q x i j a0_0 l0_1 l0_2 a2 = some r) ∧ Aside0 (RI w gb gm #[.int .i64 a0_0, .slice A0_1 l0_1.length c0_1, .slice (some ad) l0_2.length c0_2] wr v8 q [(.slice A x.length c, x)] D))
      case atStart => exact ⟨0, q, D, rfl, ⟨Nat.zero_le _⟩, ⟨Nat.le_refl _⟩, HL, HI⟩
      case round =>
       clear HL HI
       obtain ⟨j, q, D, rfl, HJe, HM2, HL, HI⟩ := hrel
       have hl := HL.out
       cases gk with
       | zero => rw [impl_reach.l2] at hl; cases hl
       | succ m3 =>
       rw [impl_reach.l2, HX.out] at hl
       by_cases hj : j < nv
       ·rw [if_pos hj] at hl
        obtain ⟨y, hy, hl⟩ := Option.bind_eq_some_iff.mp hl
        obtain ⟨n2, hn2, hl⟩ := Option.bind_eq_some_iff.mp hl
        have HY := Aside0.mk hy
        have HN2 := Aside0.mk hn2
        clear hy hn2
        have d2 : decide ((j : Int) < (nv : Int)) = true := decide_eq_true (by omega)
        have d3 : decide (j < nv) = true := decide_eq_true hj
        by_cases hD : mhas n2 D = true
        ·rw [if_pos hD] at hl
         replace HL := Aside0.mk hl
         have HD := Aside0.mk hD
         clear hl hD
         go_wp2_with (first
           | (go_at_call 84; (with_reducible refine (impl_changed.calls _ _ x (i : Int) (j : Int) y _ ?q1 ?q2 HY.out).mono ?_); (case q1 => exact (HI.out.held List.mem_cons_self).2); (case q2 => exact (HI.out.held List.mem_cons_self).1); rintro e w3 ⟨vy, rfl, hy, hb⟩; obtain ⟨Ay, cy, ey⟩ := Kd.R_slice hy; subst ey; have HI3 := Aside0.mk (HI.out.new hy hb); clear hy hb)
           | (go_at_call 83; (with_reducible refine (impl_stateNumber.calls m3 _ _ y n2 _ ?q1 ?q2 HN2.out).mono ?_); (case q1 => exact (HI3.out.held List.mem_cons_self).2); (case q2 => exact (HI3.out.held List.mem_cons_self).1); rintro e w4 ⟨rfl, hd⟩; have HI4 := Aside0.mk (HI3.out.step hd.below); clear hd HI3; have hcz := Z.c3 HI4.out.bx)
           | (at_lookup; refine wpList_lookup_own_ok_int _ rfl _ _ 97 rfl 3 3 .i64 keyed3 Try.underlying97 Try.underlying3 (zero3 _) gm _ _ rfl HI4.out.mp _ (.int .i64 n2) rfl (stNum_key HN2.out) ?_; intro c4 hat hwc; rw [mapD_has, HD.out]; clear hat hwc))
         go_roundg m3
         case measure => omega
         case rel => exact ⟨j + 1, q, D, wrap_ok j (by have := HNV.out; omega), ⟨hj⟩, ⟨by have := HM2.out; omega⟩, HL, ⟨HI4.out.sub (by simp)⟩⟩
        ·rw [if_neg hD] at hl
         replace hD := Bool.eq_false_iff.mpr hD
         have HD := Aside0.mk hD
         clear hD
         obtain ⟨b2, hb2, hl⟩ := Option.bind_eq_some_iff.mp hl
         have HB2 := Aside0.mk hb2
         clear hb2
         cases b2 with
         | true =>
          rw [if_pos rfl] at hl
          obtain ⟨nm, hnm, hl⟩ := Option.bind_eq_some_iff.mp hl
          have HNm := Aside0.mk hnm
          obtain ⟨hbd, hl⟩ := Z.ifp hl
          have HBd := Aside0.mk hbd
          replace HL := Aside0.mk hl
          clear hl hnm hbd
          go_wp2_with (first
           | (go_at_call 84; (with_reducible refine (impl_changed.calls _ _ x (i : Int) (j : Int) y _ ?q1 ?q2 HY.out).mono ?_); (case q1 => exact (HI.out.held List.mem_cons_self).2); (case q2 => exact (HI.out.held List.mem_cons_self).1); rintro e w3 ⟨vy, rfl, hy, hb⟩; obtain ⟨Ay, cy, ey⟩ := Kd.R_slice hy; subst ey; have HI3 := Aside0.mk (HI.out.new hy hb); clear hy hb)
           | (go_at_call 83; (with_reducible refine (impl_stateNumber.calls m3 _ _ y n2 _ ?q1 ?q2 HN2.out).mono ?_); (case q1 => exact (HI3.out.held List.mem_cons_self).2); (case q2 => exact (HI3.out.held List.mem_cons_self).1); rintro e w4 ⟨rfl, hd⟩; have HI4 := Aside0.mk (HI3.out.step hd.below); clear hd HI3; have hcz := Z.c3 HI4.out.bx)
           | (at_lookup; refine wpList_lookup_own_ok_int _ rfl _ _ 97 rfl 3 3 .i64 keyed3 Try.underlying97 Try.underlying3 (zero3 _) gm _ _ rfl HI4.out.mp _ (.int .i64 n2) rfl (stNum_key HN2.out) ?_; intro c4 hat hwc; rw [mapD_has, HD.out]; clear hat hwc)
           | (go_at_call 105; (with_reducible refine (impl_mayChange.calls m3 a0_0 _ _ l0_1 _ _ l0_2 _ _ x (i : Int) (j : Int) a2 true _ ?q1 ?q2 ?q3 ?q4 ?q5 ?q6 HB2.out).mono ?_); (case q1 => exact Kd.C_below HR0_1.out HI4.out.hb); (case q2 => exact HC0_1.out); (case q3 => exact Kd.C_below HR0_2.out HI4.out.hb); (case q4 => exact HC0_2.out); (case q5 => exact (HI4.out.held (.tail _ List.mem_cons_self)).2); (case q6 => exact (HI4.out.held (.tail _ List.mem_cons_self)).1); rintro e w5 ⟨rfl, hb⟩; have HI5 := Aside0.mk (HI4.out.step hb); clear hb)
           | ((with_reducible refine gate_callee (f := 105) rfl ?_); refine goesL_ (some 62) rfl rfl Try.func105 (by kernel_rfl) rfl #[.agg #[.int .i64 a0_0, .slice A0_1 l0_1.length c0_1, .slice (some ad) l0_2.length c0_2], .slice A x.length c, .int .i64 (i : Int), .int .i64 (j : Int), .int .i64 a2] rfl Z.ar ?_; (with_reducible refine (impl_mayChange.calls m3 a0_0 _ _ l0_1 _ _ l0_2 _ _ x (i : Int) (j : Int) a2 true _ ?q1 ?q2 ?q3 ?q4 ?q5 ?q6 HB2.out).mono ?_); (case q1 => exact Kd.C_below HR0_1.out HI4.out.hb); (case q2 => exact HC0_1.out); (case q3 => exact Kd.C_below HR0_2.out HI4.out.hb); (case q4 => exact HC0_2.out); (case q5 => exact (HI4.out.held (.tail _ List.mem_cons_self)).2); (case q6 => exact (HI4.out.held (.tail _ List.mem_cons_self)).1); rintro e w5 ⟨rfl, hb⟩; refine ⟨_, rfl, ?_⟩; have HI5 := Aside0.mk (HI4.out.step hb); clear hb)
           | (go_at_call 83; (with_reducible refine (impl_stateNumber.calls m3 _ _ y n2 _ ?q1 ?q2 HN2.out).mono ?_); (case q1 => exact (HI5.out.held List.mem_cons_self).2); (case q2 => exact (HI5.out.held List.mem_cons_self).1); rintro e w6 ⟨rfl, hd⟩; have HI6 := Aside0.mk (HI5.out.step hd.below); clear hd HI5)
           | (go_at_call 83; (with_reducible refine (impl_stateNumber.calls m3 _ _ x nm _ ?q1 ?q2 HNm.out).mono ?_); (case q1 => exact (HI6.out.held (.tail _ List.mem_cons_self)).2); (case q2 => exact (HI6.out.held (.tail _ List.mem_cons_self)).1); rintro e w7 ⟨rfl, hd⟩; have HI7 := Aside0.mk (HI6.out.step hd.below); clear hd HI6)
           | (at_lookup; refine wpList_lookup_own_int _ rfl _ _ 97 rfl 3 3 .i64 keyed3 Try.underlying97 Try.underlying3 (zero3 _) gm _ _ rfl HI7.out.mp _ (.int .i64 nm) rfl (stNum_key HNm.out) ?_; intro c5 hat hwc; obtain rfl := at_eq hat; clear hat hwc)
           | (at_mapUpdate; refine wpList_mapUpdate_own _ rfl _ _ _ 97 rfl 3 3 keyed3 Try.underlying97 _ gm _ _ rfl HI7.out.mp (by have := HBd.out.1; simp only [maxLen]; omega) _ _ (.int .i64 n2) rfl rfl (stNum_key HN2.out) (.lit (.int .i64 (wrap64 (mfind nm D + 1)))) [] (plainElem_int Try.underlying3 (wrap64_wf _)) ?_; intro w8 hown hg; have HI8 := Aside0.mk (HI7.out.put hown hg); clear hown hg HI7)
           | (at_builtin; refine wpList_append_RI rfl _ _ 102 _ 24 rfl Try.underlying102 info22 rfl (HI8.out.step (below_alloc (Below.refl _ _) _)) List.mem_cons_self rfl ⟨w8.heap.size, 0, none⟩ rfl (blk_cell (heap_alloc_new w8 _) 0) rfl (by have := HBd.out.2; omega) (by have := HBd.out.2; simp only [maxLen]; omega) ?_; intro v9 w9 hi9; have HI9 := Aside0.mk hi9; clear hi9 HI8))
          go_roundg m3
          case measure => omega
          case rel => exact ⟨j + 1, q ++ [y], _, wrap_ok j (by have := HNV.out; omega), ⟨hj⟩, ⟨by have := HM2.out; omega⟩, HL, ⟨HI9.out.sub (by simp)⟩⟩
         | false =>
          rw [if_neg (by decide)] at hl
          replace HL := Aside0.mk hl
          clear hl
          go_wp2_with (first
           | (go_at_call 84; (with_reducible refine (impl_changed.calls _ _ x (i : Int) (j : Int) y _ ?q1 ?q2 HY.out).mono ?_); (case q1 => exact (HI.out.held List.mem_cons_self).2); (case q2 => exact (HI.out.held List.mem_cons_self).1); rintro e w3 ⟨vy, rfl, hy, hb⟩; obtain ⟨Ay, cy, ey⟩ := Kd.R_slice hy; subst ey; have HI3 := Aside0.mk (HI.out.new hy hb); clear hy hb)
           | (go_at_call 83; (with_reducible refine (impl_stateNumber.calls m3 _ _ y n2 _ ?q1 ?q2 HN2.out).mono ?_); (case q1 => exact (HI3.out.held List.mem_cons_self).2); (case q2 => exact (HI3.out.held List.mem_cons_self).1); rintro e w4 ⟨rfl, hd⟩; have HI4 := Aside0.mk (HI3.out.step hd.below); clear hd HI3; have hcz := Z.c3 HI4.out.bx)
           | (at_lookup; refine wpList_lookup_own_ok_int _ rfl _ _ 97 rfl 3 3 .i64 keyed3 Try.underlying97 Try.underlying3 (zero3 _) gm _ _ rfl HI4.out.mp _ (.int .i64 n2) rfl (stNum_key HN2.out) ?_; intro c4 hat hwc; rw [mapD_has, HD.out]; clear hat hwc)
           | (go_at_call 105; (with_reducible refine (impl_mayChange.calls m3 a0_0 _ _ l0_1 _ _ l0_2 _ _ x (i : Int) (j : Int) a2 false _ ?q1 ?q2 ?q3 ?q4 ?q5 ?q6 HB2.out).mono ?_); (case q1 => exact Kd.C_below HR0_1.out HI4.out.hb); (case q2 => exact HC0_1.out); (case q3 => exact Kd.C_below HR0_2.out HI4.out.hb); (case q4 => exact HC0_2.out); (case q5 => exact (HI4.out.held (.tail _ List.mem_cons_self)).2); (case q6 => exact (HI4.out.held (.tail _ List.mem_cons_self)).1); rintro e w5 ⟨rfl, hb⟩; have HI5 := Aside0.mk (HI4.out.step hb); clear hb)
           | ((with_reducible refine gate_callee (f := 105) rfl ?_); refine goesL_ (some 62) rfl rfl Try.func105 (by kernel_rfl) rfl #[.agg #[.int .i64 a0_0, .slice A0_1 l0_1.length c0_1, .slice (some ad) l0_2.length c0_2], .slice A x.length c, .int .i64 (i : Int), .int .i64 (j : Int), .int .i64 a2] rfl Z.ar ?_; (with_reducible refine (impl_mayChange.calls m3 a0_0 _ _ l0_1 _ _ l0_2 _ _ x (i : Int) (j : Int) a2 false _ ?q1 ?q2 ?q3 ?q4 ?q5 ?q6 HB2.out).mono ?_); (case q1 => exact Kd.C_below HR0_1.out HI4.out.hb); (case q2 => exact HC0_1.out); (case q3 => exact Kd.C_below HR0_2.out HI4.out.hb); (case q4 => exact HC0_2.out); (case q5 => exact (HI4.out.held (.tail _ List.mem_cons_self)).2); (case q6 => exact (HI4.out.held (.tail _ List.mem_cons_self)).1); rintro e w5 ⟨rfl, hb⟩; refine ⟨_, rfl, ?_⟩; have HI5 := Aside0.mk (HI4.out.step hb); clear hb))
          go_roundg m3
          case measure => omega
          case rel => exact ⟨j + 1, q, D, wrap_ok j (by have := HNV.out; omega), ⟨hj⟩, ⟨by have := HM2.out; omega⟩, HL, ⟨HI5.out.sub (by simp)⟩⟩
       ·rw [if_neg hj] at hl
        replace HL := Aside0.mk hl
        clear hl
        have d2 : decide ((j : Int) < (nv : Int)) = false := decide_eq_false (by omega)
        have d3 : decide (j < nv) = false := decide_eq_false hj
        go_wp2
        go_roundg m3
        case measure => have := HM2.out; omega
        case rel => exact ⟨i + 1, q, D, wrap_ok i HIL.out, ⟨hi⟩, ⟨by have := HM2.out; have := HM.out; omega⟩, HL, HI⟩
     ·rw [if_neg hi] at hl
      replace HL := Aside0.mk hl
      clear hl
      have d0 : decide ((i : Int) < (l0_2.length : Int)) = false := decide_eq_false (by omega)
      have d1 : decide (i < l0_2.length) = false := decide_eq_false hi
      go_wp2
      go_roundg m2
      case measure => have := HM.out; omega
      case rel => exact ⟨q, D, HL, ⟨HI.out.sub (fun p hp => by cases hp)⟩⟩
theorem impl_reach.mono_l : ∀ k, (∀ D q P B C cr, LeO (impl_reach.l0 k D q P B C cr) (impl_reach.l0 (k + 1) D q P B C cr)) ∧ (∀ D q x i P B C cr, LeO (impl_reach.l1 k D q x i P B C cr) (impl_reach.l1 (k + 1) D q x i P B C cr)) ∧ (∀ D q x i j P B C cr, LeO (impl_reach.l2 k D q x i j P B C cr) (impl_reach.l2 (k + 1) D q x i j P B C cr))
 | 0 => ⟨fun _ _ _ _ _ _ r h => by simp [impl_reach.l0] at h, fun _ _ _ _ _ _ _ _ r h => by simp [impl_reach.l1] at h, fun _ _ _ _ _ _ _ _ _ r h => by simp [impl_reach.l2] at h⟩
 | k + 1 => by
  obtain ⟨ih0, ih1, ih2⟩ := impl_reach.mono_l k
  refine ⟨?_, ?_, ?_⟩
  ·intro D q P B C cr
   cases q with
   | nil => simp only [impl_reach.l0]; exact LeO.refl _
   | cons x q => simp only [impl_reach.l0]; exact ih1 _ _ _ _ _ _ _ _
  ·intro D q x i P B C cr
   unfold impl_reach.l1
   exact LeO.ite (ih2 _ _ _ _ _ _ _ _ _) (ih0 _ _ _ _ _ _)
  ·intro D q x i j P B C cr
   unfold impl_reach.l2
   refine LeO.ite (LeO.bind (LeO.refl _) fun _ => LeO.bind (impl_stateNumber.mono _ _) fun _ => LeO.ite (ih2 _ _ _ _ _ _ _ _ _) (LeO.bind (impl_mayChange.mono _ _ _ _ _ _ _ _) fun _ => LeO.ite (LeO.bind (impl_stateNumber.mono _ _) fun _ => LeO.ite (ih2 _ _ _ _ _ _ _ _ _) (LeO.refl _)) (ih2 _ _ _ _ _ _ _ _ _))) (ih1 _ _ _ _ _ _ _ _)
theorem impl_reach.mono (P : Int) (B : List Int) (C : List (List S86)) (s : List Int) (cr : Int) (k : Nat) : LeO (impl_reach.f k P B C s cr) (impl_reach.f (k + 1) P B C s cr) := by
 unfold impl_reach.f
 exact LeO.bind (impl_stateNumber.mono _ _) fun _ => (impl_reach.mono_l k).1 _ _ _ _ _ _
def impl_ChangesTo.f (k : Nat) (P : Int) (B : List Int) (C : List (List S86)) (s t : List Int) (cr : Int) : Option (Int) := (impl_isState.f k P B C s).bind fun a => if a = true then ((impl_isState.f k P B C t).bind fun b => if b = true then ((impl_isCrowd.f P cr).bind fun c => if c = true then ((impl_reach.f k P B C s cr).bind fun D => (impl_stateNumber.f k t).bind fun n => if mhas n D = true then some (mfind n D) else some (-1)) else some (-1)) else some (-1)) else some (-1)
end Go.Proofs.Ytcafckapdgaogaa.PAll
