/- Walks of functions that laws of this seat reach, in the form of the print. -/
import Derived.Test.YtojoblllgddckaaCAll0
import Derived.Test.YtojoblllgddckaaCAll1
import Derived.Test.YtojoblllgddckaaCAll9
import Derived.Test.YtojoblllgddckaaCAll14
import Derived.Test.YtojoblllgddckaaCAll22
import Derived.Test.YtojoblllgddckaaCAll29
import Derived.Test.YtojoblllgddckaaCAll31
import Derived.Test.YtojoblllgddckaaCAll53
import Derived.Test.YtojoblllgddckaaZ
-- PRINTED
namespace Go.Proofs.Ytojoblllgddckaa.PAll
open Go.RowKit Go.Proofs.YtojoblllgddckaaW.PrintWords Go.Proofs.YtojoblllgddckaaW.PrintLast Go.Proofs.YtojoblllgddckaaW.PrintMore
attribute [local go_sem] max2_int min2_int max_two min_two max_three min_three max_four min_four
set_option linter.unusedVariables false
set_option linter.unusedSimpArgs false

/-! ### laws_FnEitherOrder: function 9 -/
mutual
def laws_FnEitherOrder.j0 : Nat → List Int → Option (Bool)
 | 0, _ => none
 | k + 1, x0 => (spec_DrawEitherOrder.f k x0).bind fun bt962 => ((impl_EitherOrder.f k bt962.1 bt962.2.1 bt962.2.2.1 bt962.2.2.2.1 bt962.2.2.2.2.1 bt962.2.2.2.2.2.1 bt962.2.2.2.2.2.2.1 bt962.2.2.2.2.2.2.2.1 bt962.2.2.2.2.2.2.2.2.1 bt962.2.2.2.2.2.2.2.2.2).bind fun t981 => ((spec_EitherOrder.f k bt962.1 bt962.2.1 bt962.2.2.1 bt962.2.2.2.1 bt962.2.2.2.2.1 bt962.2.2.2.2.2.1 bt962.2.2.2.2.2.2.1 bt962.2.2.2.2.2.2.2.1 bt962.2.2.2.2.2.2.2.2.1 bt962.2.2.2.2.2.2.2.2.2).bind fun t982 => (if (t981 != t982) = true then (some false) else (laws_FnEitherOrder.j1 k bt962.2.2.2.1 t981 bt962.1 bt962.2.1 bt962.2.2.1 bt962.2.2.2.2.1 bt962.2.2.2.2.2.1 bt962.2.2.2.2.2.2.1 bt962.2.2.2.2.2.2.2.1 bt962.2.2.2.2.2.2.2.2.1 bt962.2.2.2.2.2.2.2.2.2))))
def laws_FnEitherOrder.j1 : Nat → List Int → Bool → Int → List Int → List (List (S91)) → Int → Int → Int → Int → Int → Int → Option (Bool)
 | 0, _, _, _, _, _, _, _, _, _, _, _ => none
 | k + 1, x4, x7, x979000, x979001, x979002, x980000, x980001, x980002, x981000, x981001, x981002 => (impl_MayChange.f k x979000 x979001 x979002 x4 x980000 x980001 x980002).bind fun t983 => ((impl_MayChange.f k x979000 x979001 x979002 x4 x981000 x981001 x981002).bind fun t984 => (if t983 = true then (if t984 = true then ((impl_ApartOk.f k x979000 x979001 x979002 x980000 x980001 x980002 x981000 x981001 x981002).bind fun t985 => (if t985 = true then (if x7 = true then ((impl_EitherOrder.f k x979000 x979001 x979002 x4 x981000 x981001 x981002 x980000 x980001 x980002).bind fun t986 => (if (t986 == x7) = true then ((laws_alive.f).bind fun t987 => (some t987)) else (some false))) else (some false)) else ((impl_EitherOrder.f k x979000 x979001 x979002 x4 x981000 x981001 x981002 x980000 x980001 x980002).bind fun t988 => (if (t988 == x7) = true then (if x7 = true then ((laws_alive.f).bind fun t989 => (some t989)) else ((laws_alive.f).bind fun t990 => (some t990))) else (some false))))) else ((impl_EitherOrder.f k x979000 x979001 x979002 x4 x981000 x981001 x981002 x980000 x980001 x980002).bind fun t991 => (if (t991 == x7) = true then (if x7 = true then (some false) else ((laws_alive.f).bind fun t992 => (some t992))) else (some false)))) else ((impl_EitherOrder.f k x979000 x979001 x979002 x4 x981000 x981001 x981002 x980000 x980001 x980002).bind fun t993 => (if (t993 == x7) = true then (if x7 = true then (some false) else ((laws_alive.f).bind fun t994 => (some t994))) else (some false)))))
end
def laws_FnEitherOrder.f (k : Nat) (l0 : List Int) : Option (Bool) := if (l0.length : Int) > 1048576 then (some true) else (laws_FnEitherOrder.j0 k l0)
set_option maxHeartbeats 8000000 in
set_option maxRecDepth 100000 in
theorem laws_FnEitherOrder.calls (k : Nat) (A0 : Option Addr) (c0 : Nat) (l0 : List Int) (r : Bool) (w : World) (hr0 : Kd.C (Kd.int .u8) w A0 l0.length l0) (hc0 : l0.length ≤ c0) (h : laws_FnEitherOrder.f k l0 = some r) :
  Calls Try.prog 9 #[.slice A0 l0.length c0] w fun e w' => e = .returned (.bool r) ∧ Below w.heap.size w w' := by
 have hu46 := Try.underlying46
 have hu48 := Try.underlying48
 have HR0 := Z.k hr0
 have HC0 := Z.k hc0
 clear hr0 hc0
 have HB := Z.k (Below.refl w.heap.size w)
 have H := h
 clear h
 unfold laws_FnEitherOrder.f at H
 have HC2 := Z.k H
 clear H
 go_enter Try.func9, Try.ntmps9
 go_upto_if 12 with (fail)
 go_cut [] (fun wc => ∃ (kq : Nat), Aside0 (laws_FnEitherOrder.j0 kq l0 = some r) ∧ Aside0 (kq ≤ k) ∧ Aside0 (Below w.heap.size w wc))
 case first =>
  have H := HC2.out
  clear HC2
  by_cases c3 : (l0.length : Int) > 1048576
  ·rw [if_pos c3] at H
   have c3b0 : decide (1048576 < (l0.length : Int)) = true := decide_eq_true c3
   have c3b1 : decide (1048576 < l0.length) = true := decide_eq_true (by omega)
   clear c3
   (rw [c3b0])
   obtain rfl := Option.some.inj H
   go_wp2
   go_ret
   exact ⟨by rfl, Z.bl HB.out⟩
  ·rw [if_neg c3] at H
   have c3b0 : decide (1048576 < (l0.length : Int)) = false := decide_eq_false c3
   have c3b1 : decide (1048576 < l0.length) = false := decide_eq_false (by omega)
   clear c3
   (rw [c3b0])
   have H' := Z.k H
   clear H
   go_wp2
   go_meet
   case rel => exact ⟨_, H', ⟨by omega⟩, ⟨Z.bl HB.out⟩⟩
 case rest =>
  clear HC2
  obtain ⟨kq, HA, HJ1, HB⟩ := hcut
  cases kq with
  | zero => exact absurd HA.out (by simp [laws_FnEitherOrder.j0])
  | succ kj1 =>
   have H := HA.out
   clear HA
   simp only [laws_FnEitherOrder.j0] at H
   replace H := Option.bind_eq_some_iff.mp H
   obtain ⟨⟨t962, t963, t966, t969, t972, t973, t974, t975, t976, t977⟩, A40, H⟩ := H
   try dsimp only at H
   have A4 := Z.k A40
   clear A40
   replace H := Option.bind_eq_some_iff.mp H
   obtain ⟨t981, A50, H⟩ := H
   have A5 := Z.k A50
   clear A50
   replace H := Option.bind_eq_some_iff.mp H
   obtain ⟨t982, A60, H⟩ := H
   have A6 := Z.k A60
   clear A60
   have HC7 := Z.k H
   clear H
   go_upto_if 31 with (first | ((with_reducible refine gate_callee (f := 35) rfl ?_); refine goesL_ (some 15) rfl rfl Try.func35 (by kernel_rfl) rfl #[.slice A0 l0.length c0] rfl Z.ar ?_; (with_reducible refine (spec_DrawEitherOrder.calls kj1 _ _ l0 t962 t963 t966 t969 t972 t973 t974 t975 t976 t977 _ ?q1 ?q2 A4.out).mono ?_); (case q1 => exact Z.cc HR0 HB); (case q2 => exact HC0.out); rintro e w8 ⟨v964, v967, v970, rfl, ho0, ho1, ho2, hb⟩; refine ⟨_, rfl, ?_⟩; have HO965 := Z.k (Kd.R_lower ho0 (below_size (Z.bl HB.out))); have HO968 := Z.k (Kd.R_lower ho1 (below_size (Z.bl HB.out))); have HO971 := Z.k (Kd.R_lower ho2 (below_size (Z.bl HB.out))); replace HB := Z.st (Z.bl HB.out) hb; (try clear hb); (try clear ho0); (try clear ho1); (try clear ho2)) | ((with_reducible refine gate_dst (N := 3) rfl ?_); refine Z.bx #[.int .i64 0, .slice none 0 0, .slice none 0 0] 46 HB ?_; clear HB; intro gb978 w9 BK978 GE978 HB hg hb; have GW978 := GE978; replace HO965 := Z.k (Kd.R_below HO965.out hb); replace HO968 := Z.k (Kd.R_below HO968.out hb); replace HO971 := Z.k (Kd.R_below HO971.out hb); clear hb hg) | ((with_reducible refine gate_dst (N := 5) rfl ?_); refine Z.bz #[.int .i64 0, .int .i64 0, .int .i64 0] 48 HB GE978 ?_; clear HB; intro gb979 w10 BK979 GE979 HB hg hb; have GW979 := GE979; replace HO965 := Z.k (Kd.R_below HO965.out hb); replace HO968 := Z.k (Kd.R_below HO968.out hb); replace HO971 := Z.k (Kd.R_below HO971.out hb); have NB978_979 := Z.nl hg BK978; have NB979_978 := Z.ng hg BK978; replace BK978 := Z.bb BK978 hb; clear hb hg) | ((with_reducible refine gate_dst (N := 6) rfl ?_); refine box_event ?hg (N := 6) ?hd (cs := #[.int .i64 0, .int .i64 0, .int .i64 0]) (t := 48) ?hr ?_; (case hd | hg => rfl); (case hr => (go_simp; done)); intro gb980 hg w11 hbox hb; replace HO965 := Z.k (Kd.R_below HO965.out hb); replace HO968 := Z.k (Kd.R_below HO968.out hb); replace HO971 := Z.k (Kd.R_below HO971.out hb); have BK980 := Z.k hbox; have GW980 := Z.k ((by rw [hg]; exact (below_size HB.out) : w.heap.size ≤ gb980)); have GE980 := Z.k ((by rw [hg]; exact (below_size HB.out) : w.heap.size ≤ gb980)); replace HB := Z.k (below_step HB.out hb); have NB978_980 := Z.nl hg BK978; have NB980_978 := Z.ng hg BK978; replace BK978 := Z.bb BK978 hb; have NB979_980 := Z.nl hg BK979; have NB980_979 := Z.ng hg BK979; replace BK979 := Z.bb BK979 hb; clear hb hbox hg; have hnb12 := NB978_979.out; have hnc12 := NB979_978.out; have hnb13 := NB978_980.out; have hnc13 := NB980_978.out; have hcz14 := Z.c3 BK978.out; obtain ⟨Ao15, co15, eo15⟩ := Kd.R_slice HO965.out; subst eo15; obtain ⟨Ao16, co16, eo16⟩ := Kd.R_slice HO968.out; subst eo16; have hnb17 := NB979_980.out; have hnc17 := NB980_979.out; have hcz18 := Z.c3 BK979.out; have hcz19 := Z.c3 BK980.out; obtain ⟨Ao20, co20, eo20⟩ := Kd.R_slice HO971.out; subst eo20) | ((with_reducible refine gate_callee (f := 36) rfl ?_); refine goesL_ (some 24) rfl rfl Try.func36 (by kernel_rfl) rfl #[.agg #[.int .i64 t962, .slice Ao15 t963.length co15, .slice Ao16 t966.length co16], .slice Ao20 t969.length co20, .agg #[.int .i64 t972, .int .i64 t973, .int .i64 t974], .agg #[.int .i64 t975, .int .i64 t976, .int .i64 t977]] rfl Z.ar ?_; (with_reducible refine (impl_EitherOrder.calls kj1 t962 _ _ t963 _ _ t966 _ _ t969 t972 t973 t974 t975 t976 t977 t981 _ ?q1 ?q2 ?q3 ?q4 ?q5 ?q6 A5.out).mono ?_); (case q1 => refine (Kd.R_reads' (e := 3) (base := w.heap.size) (ok := fun k_ => some k_ ≠ (.slice Ao20 t969.length co20 : Value).ownBlock) (n := t963.length) (c := co15) ?_).2.2; exact (Kd.R_mono (Kd.R_mono (Kd.R_mono (Kd.R_far (p := ⟨gb980, 2, none⟩) (Kd.R_far (p := ⟨gb980, 1, none⟩) (Kd.R_far (p := ⟨gb980, 0, none⟩) (Kd.R_far (p := ⟨gb979, 2, none⟩) (Kd.R_far (p := ⟨gb979, 1, none⟩) (Kd.R_far (p := ⟨gb979, 0, none⟩) (Kd.R_far (p := ⟨gb978, 2, none⟩) (Kd.R_far (p := ⟨gb978, 1, none⟩) (Kd.R_far (p := ⟨gb978, 0, none⟩) (Kd.R_types (Kd.R_types (Kd.R_types HO965.out BK978.out (by decide)) BK979.out (by decide)) BK980.out (by decide)) (fun _ hk => hk.1.1.2) (.int .i64 t962)) (fun _ hk => hk.1.1.2) (.slice Ao15 t963.length co15)) (fun _ hk => hk.1.1.2) (.slice Ao16 t966.length co16)) (fun _ hk => hk.1.2) (.int .i64 t972)) (fun _ hk => hk.1.2) (.int .i64 t973)) (fun _ hk => hk.1.2) (.int .i64 t974)) (fun _ hk => hk.2) (.int .i64 t975)) (fun _ hk => hk.2) (.int .i64 t976)) (fun _ hk => hk.2) (.int .i64 t977)) (fun _ h_ => h_.1)) (fun _ h_ => h_.1)) (fun _ h_ => h_.1))); (case q2 => exact (Kd.R_reads' HO965.out).2.1); (case q3 => refine (Kd.R_reads' (e := 56) (base := w.heap.size) (ok := fun k_ => True) (n := t966.length) (c := co16) ?_).2.2; exact (Kd.R_mono (Kd.R_mono (Kd.R_mono (Kd.R_far (p := ⟨gb980, 2, none⟩) (Kd.R_far (p := ⟨gb980, 1, none⟩) (Kd.R_far (p := ⟨gb980, 0, none⟩) (Kd.R_far (p := ⟨gb979, 2, none⟩) (Kd.R_far (p := ⟨gb979, 1, none⟩) (Kd.R_far (p := ⟨gb979, 0, none⟩) (Kd.R_far (p := ⟨gb978, 2, none⟩) (Kd.R_far (p := ⟨gb978, 1, none⟩) (Kd.R_far (p := ⟨gb978, 0, none⟩) (Kd.R_types (Kd.R_types (Kd.R_types HO968.out BK978.out (by decide)) BK979.out (by decide)) BK980.out (by decide)) (fun _ hk => hk.1.1.2) (.int .i64 t962)) (fun _ hk => hk.1.1.2) (.slice Ao15 t963.length co15)) (fun _ hk => hk.1.1.2) (.slice Ao16 t966.length co16)) (fun _ hk => hk.1.2) (.int .i64 t972)) (fun _ hk => hk.1.2) (.int .i64 t973)) (fun _ hk => hk.1.2) (.int .i64 t974)) (fun _ hk => hk.2) (.int .i64 t975)) (fun _ hk => hk.2) (.int .i64 t976)) (fun _ hk => hk.2) (.int .i64 t977)) (fun _ h_ => h_.1)) (fun _ h_ => h_.1)) (fun _ h_ => h_.1))); (case q4 => exact (Kd.R_reads' HO968.out).2.1); (case q5 => refine (Kd.R_reads' (e := 3) (base := w.heap.size) (ok := fun k_ => some k_ ≠ (.slice Ao15 t963.length co15 : Value).ownBlock) (n := t969.length) (c := co20) ?_).2.2; exact (Kd.R_mono (Kd.R_mono (Kd.R_mono (Kd.R_far (p := ⟨gb980, 2, none⟩) (Kd.R_far (p := ⟨gb980, 1, none⟩) (Kd.R_far (p := ⟨gb980, 0, none⟩) (Kd.R_far (p := ⟨gb979, 2, none⟩) (Kd.R_far (p := ⟨gb979, 1, none⟩) (Kd.R_far (p := ⟨gb979, 0, none⟩) (Kd.R_far (p := ⟨gb978, 2, none⟩) (Kd.R_far (p := ⟨gb978, 1, none⟩) (Kd.R_far (p := ⟨gb978, 0, none⟩) (Kd.R_types (Kd.R_types (Kd.R_types HO971.out BK978.out (by decide)) BK979.out (by decide)) BK980.out (by decide)) (fun _ hk => hk.1.1.2) (.int .i64 t962)) (fun _ hk => hk.1.1.2) (.slice Ao15 t963.length co15)) (fun _ hk => hk.1.1.2) (.slice Ao16 t966.length co16)) (fun _ hk => hk.1.2) (.int .i64 t972)) (fun _ hk => hk.1.2) (.int .i64 t973)) (fun _ hk => hk.1.2) (.int .i64 t974)) (fun _ hk => hk.2) (.int .i64 t975)) (fun _ hk => hk.2) (.int .i64 t976)) (fun _ hk => hk.2) (.int .i64 t977)) (fun _ h_ => h_.1)) (fun _ h_ => h_.1)) (fun _ h_ => h_.1))); (case q6 => exact (Kd.R_reads' HO971.out).2.1); rintro e w21 ⟨rfl, hb⟩; refine ⟨_, rfl, ?_⟩; replace HO965 := Z.k (Kd.R_below (Kd.R_mono (Kd.R_mono (Kd.R_mono (Kd.R_far (p := ⟨gb980, 2, none⟩) (Kd.R_far (p := ⟨gb980, 1, none⟩) (Kd.R_far (p := ⟨gb980, 0, none⟩) (Kd.R_far (p := ⟨gb979, 2, none⟩) (Kd.R_far (p := ⟨gb979, 1, none⟩) (Kd.R_far (p := ⟨gb979, 0, none⟩) (Kd.R_far (p := ⟨gb978, 2, none⟩) (Kd.R_far (p := ⟨gb978, 1, none⟩) (Kd.R_far (p := ⟨gb978, 0, none⟩) (Kd.R_types (Kd.R_types (Kd.R_types HO965.out BK978.out (by decide)) BK979.out (by decide)) BK980.out (by decide)) (fun _ hk => hk.1.1.2) (.int .i64 t962)) (fun _ hk => hk.1.1.2) (.slice Ao15 t963.length co15)) (fun _ hk => hk.1.1.2) (.slice Ao16 t966.length co16)) (fun _ hk => hk.1.2) (.int .i64 t972)) (fun _ hk => hk.1.2) (.int .i64 t973)) (fun _ hk => hk.1.2) (.int .i64 t974)) (fun _ hk => hk.2) (.int .i64 t975)) (fun _ hk => hk.2) (.int .i64 t976)) (fun _ hk => hk.2) (.int .i64 t977)) (fun _ h_ => h_.1)) (fun _ h_ => h_.1)) (fun _ h_ => h_.1)) hb); replace HO968 := Z.k (Kd.R_below (Kd.R_mono (Kd.R_mono (Kd.R_mono (Kd.R_far (p := ⟨gb980, 2, none⟩) (Kd.R_far (p := ⟨gb980, 1, none⟩) (Kd.R_far (p := ⟨gb980, 0, none⟩) (Kd.R_far (p := ⟨gb979, 2, none⟩) (Kd.R_far (p := ⟨gb979, 1, none⟩) (Kd.R_far (p := ⟨gb979, 0, none⟩) (Kd.R_far (p := ⟨gb978, 2, none⟩) (Kd.R_far (p := ⟨gb978, 1, none⟩) (Kd.R_far (p := ⟨gb978, 0, none⟩) (Kd.R_types (Kd.R_types (Kd.R_types HO968.out BK978.out (by decide)) BK979.out (by decide)) BK980.out (by decide)) (fun _ hk => hk.1.1.2) (.int .i64 t962)) (fun _ hk => hk.1.1.2) (.slice Ao15 t963.length co15)) (fun _ hk => hk.1.1.2) (.slice Ao16 t966.length co16)) (fun _ hk => hk.1.2) (.int .i64 t972)) (fun _ hk => hk.1.2) (.int .i64 t973)) (fun _ hk => hk.1.2) (.int .i64 t974)) (fun _ hk => hk.2) (.int .i64 t975)) (fun _ hk => hk.2) (.int .i64 t976)) (fun _ hk => hk.2) (.int .i64 t977)) (fun _ h_ => h_.1)) (fun _ h_ => h_.1)) (fun _ h_ => h_.1)) hb); replace HO971 := Z.k (Kd.R_below (Kd.R_mono (Kd.R_mono (Kd.R_mono (Kd.R_far (p := ⟨gb980, 2, none⟩) (Kd.R_far (p := ⟨gb980, 1, none⟩) (Kd.R_far (p := ⟨gb980, 0, none⟩) (Kd.R_far (p := ⟨gb979, 2, none⟩) (Kd.R_far (p := ⟨gb979, 1, none⟩) (Kd.R_far (p := ⟨gb979, 0, none⟩) (Kd.R_far (p := ⟨gb978, 2, none⟩) (Kd.R_far (p := ⟨gb978, 1, none⟩) (Kd.R_far (p := ⟨gb978, 0, none⟩) (Kd.R_types (Kd.R_types (Kd.R_types HO971.out BK978.out (by decide)) BK979.out (by decide)) BK980.out (by decide)) (fun _ hk => hk.1.1.2) (.int .i64 t962)) (fun _ hk => hk.1.1.2) (.slice Ao15 t963.length co15)) (fun _ hk => hk.1.1.2) (.slice Ao16 t966.length co16)) (fun _ hk => hk.1.2) (.int .i64 t972)) (fun _ hk => hk.1.2) (.int .i64 t973)) (fun _ hk => hk.1.2) (.int .i64 t974)) (fun _ hk => hk.2) (.int .i64 t975)) (fun _ hk => hk.2) (.int .i64 t976)) (fun _ hk => hk.2) (.int .i64 t977)) (fun _ h_ => h_.1)) (fun _ h_ => h_.1)) (fun _ h_ => h_.1)) hb); replace BK978 := Z.k (blk_below (g := gb978) (o := .cells #[.int .i64 t962, .slice Ao15 t963.length co15, .slice Ao16 t966.length co16] 46 (0, 0)) (by refine blk_far ?_ NB978_980.out _; refine blk_far ?_ NB978_980.out _; refine blk_far ?_ NB978_980.out _; refine blk_far ?_ NB978_979.out _; refine blk_far ?_ NB978_979.out _; refine blk_far ?_ NB978_979.out _; refine blk_put (cs := #[.int .i64 t962, .slice Ao15 t963.length co15, .slice none 0 0]) ?_ 2 _ rfl; refine blk_put (cs := #[.int .i64 t962, .slice none 0 0, .slice none 0 0]) ?_ 1 _ rfl; refine blk_put (cs := #[.int .i64 0, .slice none 0 0, .slice none 0 0]) ?_ 0 _ rfl; exact BK978.out) hb); replace BK979 := Z.k (blk_below (g := gb979) (o := .cells #[.int .i64 t972, .int .i64 t973, .int .i64 t974] 48 (0, 0)) (by refine blk_far ?_ NB979_980.out _; refine blk_far ?_ NB979_980.out _; refine blk_far ?_ NB979_980.out _; refine blk_put (cs := #[.int .i64 t972, .int .i64 t973, .int .i64 0]) ?_ 2 _ rfl; refine blk_put (cs := #[.int .i64 t972, .int .i64 0, .int .i64 0]) ?_ 1 _ rfl; refine blk_put (cs := #[.int .i64 0, .int .i64 0, .int .i64 0]) ?_ 0 _ rfl; refine blk_far ?_ NB979_978.out _; refine blk_far ?_ NB979_978.out _; refine blk_far ?_ NB979_978.out _; exact BK979.out) hb); replace BK980 := Z.k (blk_below (g := gb980) (o := .cells #[.int .i64 t975, .int .i64 t976, .int .i64 t977] 48 (0, 0)) (by refine blk_put (cs := #[.int .i64 t975, .int .i64 t976, .int .i64 0]) ?_ 2 _ rfl; refine blk_put (cs := #[.int .i64 t975, .int .i64 0, .int .i64 0]) ?_ 1 _ rfl; refine blk_put (cs := #[.int .i64 0, .int .i64 0, .int .i64 0]) ?_ 0 _ rfl; refine blk_far ?_ NB980_979.out _; refine blk_far ?_ NB980_979.out _; refine blk_far ?_ NB980_979.out _; refine blk_far ?_ NB980_978.out _; refine blk_far ?_ NB980_978.out _; refine blk_far ?_ NB980_978.out _; exact BK980.out) hb); replace HB := Z.k (below_step (by repeat ((with_reducible first | exact HB.out | refine below_set ?_ GE978.out | refine below_set ?_ GE979.out | refine below_set ?_ GE980.out))) hb); (try clear hb); have hcz22 := Z.c3 BK978.out; have hcz23 := Z.c3 BK979.out; have hcz24 := Z.c3 BK980.out) | ((with_reducible refine gate_callee (f := 37) rfl ?_); refine goesL_ (some 30) rfl rfl Try.func37 (by kernel_rfl) rfl #[.agg #[.int .i64 t962, .slice Ao15 t963.length co15, .slice Ao16 t966.length co16], .slice Ao20 t969.length co20, .agg #[.int .i64 t972, .int .i64 t973, .int .i64 t974], .agg #[.int .i64 t975, .int .i64 t976, .int .i64 t977]] rfl Z.ar ?_; (with_reducible refine (spec_EitherOrder.calls kj1 t962 _ _ t963 _ _ t966 _ _ t969 t972 t973 t974 t975 t976 t977 t982 _ ?q1 ?q2 ?q3 ?q4 ?q5 ?q6 A6.out).mono ?_); (case q1 => exact (Kd.R_reads' HO965.out).2.2); (case q2 => exact (Kd.R_reads' HO965.out).2.1); (case q3 => exact (Kd.R_reads' HO968.out).2.2); (case q4 => exact (Kd.R_reads' HO968.out).2.1); (case q5 => exact (Kd.R_reads' HO971.out).2.2); (case q6 => exact (Kd.R_reads' HO971.out).2.1); rintro e w25 ⟨rfl, hb⟩; refine ⟨_, rfl, ?_⟩; replace HO965 := Z.k (Kd.R_below HO965.out hb); replace HO968 := Z.k (Kd.R_below HO968.out hb); replace HO971 := Z.k (Kd.R_below HO971.out hb); replace BK978 := Z.bb BK978 hb; replace BK979 := Z.bb BK979 hb; replace BK980 := Z.bb BK980 hb; replace HB := Z.k (below_step HB.out hb); (try clear hb)))
   go_cut [] (fun wc => ∃ (kq : Nat), Aside0 (laws_FnEitherOrder.j1 kq t969 t981 t962 t963 t966 t972 t973 t974 t975 t976 t977 = some r) ∧ Aside0 (kq ≤ kj1) ∧ Aside0 (Kd.R (Kd.int .i64) 3 wc w.heap.size (fun k_ => some k_ ≠ ((.slice Ao15 t963.length co15) : Value).ownBlock) (.slice Ao20 t969.length co20) t969) ∧ Aside0 (Kd.R (Kd.int .i64) 3 wc w.heap.size (fun k_ => some k_ ≠ ((.slice Ao20 t969.length co20) : Value).ownBlock) (.slice Ao15 t963.length co15) t963) ∧ Aside0 (Kd.R (Kd.slice 91 k91) 56 wc w.heap.size (fun _ => True) (.slice Ao16 t966.length co16) t966) ∧ Aside0 (wc.heap[gb978]? = some (.cells #[.int .i64 t962, (.slice Ao15 t963.length co15), (.slice Ao16 t966.length co16)] 46 (0, 0))) ∧ Aside0 (wc.heap[gb979]? = some (.cells #[.int .i64 t972, .int .i64 t973, .int .i64 t974] 48 (0, 0))) ∧ Aside0 (wc.heap[gb980]? = some (.cells #[.int .i64 t975, .int .i64 t976, .int .i64 t977] 48 (0, 0))) ∧ Aside0 (Below w.heap.size w wc))
   case first =>
    have H := HC7.out
    clear HC7
    by_cases c26 : (t981 != t982) = true
    ·rw [if_pos c26] at H
     have c26b0 : (t981 != t982) = true := c26
     (try (have c26b4 : (!t981 == t982) = true := (by decide : ∀ a b : Bool, (a != b) = true → (!a == b) = true) _ _ c26b0))
     (try (have c26b1 : decide (t981 = t982) = false := by simpa using c26))
     (try (have c26b2 : (t981 == t982) = false := by simpa using c26))
     (try (have c26b3 : ¬ (t981 = t982) := by simpa using c26))
     clear c26
     (rw [c26b4])
     obtain rfl := Option.some.inj H
     go_wp2
     go_ret
     exact ⟨by rfl, HB.out⟩
    ·rw [if_neg c26] at H
     have c26b0 : (t981 != t982) = false := by simpa using c26
     (try (have c26b4 : (!t981 == t982) = false := (by decide : ∀ a b : Bool, (a != b) = false → (!a == b) = false) _ _ c26b0))
     (try (have c26b1 : decide (t981 = t982) = true := by simpa using c26))
     (try (have c26b2 : (t981 == t982) = true := by simpa using c26))
     clear c26
     (rw [c26b4])
     have H' := Z.k H
     clear H
     go_wp2
     go_meet
     case rel => exact ⟨_, H', ⟨by have := HJ1.out; omega⟩, ⟨by exact HO971.out⟩, ⟨by exact HO965.out⟩, ⟨by exact HO968.out⟩, ⟨by exact BK978.out⟩, ⟨by exact BK979.out⟩, ⟨by exact BK980.out⟩, ⟨HB.out⟩⟩
   case rest =>
    clear HC7
    obtain ⟨kq, HA, HJ6, HO_4, HO_979001, HO_979002, BK978, BK979, BK980, HB⟩ := hcut
    cases kq with
    | zero => exact absurd HA.out (by simp [laws_FnEitherOrder.j1])
    | succ kj6 =>
     have H := HA.out
     clear HA
     simp only [laws_FnEitherOrder.j1] at H
     replace H := Option.bind_eq_some_iff.mp H
     obtain ⟨t983, A270, H⟩ := H
     have A27 := Z.k A270
     clear A270
     replace H := Option.bind_eq_some_iff.mp H
     obtain ⟨t984, A280, H⟩ := H
     have A28 := Z.k A280
     clear A280
     by_cases c29 : t983 = true
     ·subst c29
      rw [if_pos rfl] at H
      by_cases c30 : t984 = true
      ·subst c30
       rw [if_pos rfl] at H
       replace H := Option.bind_eq_some_iff.mp H
       obtain ⟨t985, A310, H⟩ := H
       have A31 := Z.k A310
       clear A310
       by_cases c32 : t985 = true
       ·subst c32
        rw [if_pos rfl] at H
        by_cases c33 : t981 = true
        ·subst c33
         rw [if_pos rfl] at H
         replace H := Option.bind_eq_some_iff.mp H
         obtain ⟨t986, A340, H⟩ := H
         have A34 := Z.k A340
         clear A340
         by_cases c35 : (t986 == true) = true
         ·rw [if_pos c35] at H
          have c35b0 : (t986 == true) = true := c35
          (try (have c35b1 : decide (t986 = true) = true := by simpa using c35))
          (try (have c35b2 : (t986 == true) = true := by simpa using c35))
          clear c35
          replace H := Option.bind_eq_some_iff.mp H
          obtain ⟨t987, A360, H⟩ := H
          have A36 := Z.k A360
          clear A360
          obtain rfl := Option.some.inj H
          have hnb37 := NB978_979.out
          have hnc37 := NB979_978.out
          have hnb38 := NB978_980.out
          have hnc38 := NB980_978.out
          have hcz39 := Z.c3 BK978.out
          have hnb40 := NB979_980.out
          have hnc40 := NB980_979.out
          have hcz41 := Z.c3 BK979.out
          go_wp2_with (first | ((with_reducible refine gate_callee (f := 31) rfl ?_); refine goesL_ (some 40) rfl rfl Try.func31 (by kernel_rfl) rfl #[.agg #[.int .i64 t962, .slice Ao15 t963.length co15, .slice Ao16 t966.length co16], .slice Ao20 t969.length co20, .int .i64 t972, .int .i64 t973, .int .i64 t974] rfl Z.ar ?_; (with_reducible refine (impl_MayChange.calls kj6 t962 _ _ t963 _ _ t966 _ _ t969 t972 t973 t974 true _ ?q1 ?q2 ?q3 ?q4 ?q5 ?q6 A27.out).mono ?_); (case q1 => exact (Kd.R_reads' HO_979001.out).2.2); (case q2 => exact (Kd.R_reads' HO_979001.out).2.1); (case q3 => exact (Kd.R_reads' HO_979002.out).2.2); (case q4 => exact (Kd.R_reads' HO_979002.out).2.1); (case q5 => exact (Kd.R_reads' HO_4.out).2.2); (case q6 => exact (Kd.R_reads' HO_4.out).2.1); rintro e w42 ⟨rfl, hb⟩; refine ⟨_, rfl, ?_⟩; replace HO_4 := Z.k (Kd.R_below HO_4.out hb); replace HO_979001 := Z.k (Kd.R_below HO_979001.out hb); replace HO_979002 := Z.k (Kd.R_below HO_979002.out hb); replace BK978 := Z.bb BK978 hb; replace BK979 := Z.bb BK979 hb; replace BK980 := Z.bb BK980 hb; replace HB := Z.k (below_step HB.out hb); (try clear hb); have hcz43 := Z.c3 BK978.out; have hcz44 := Z.c3 BK980.out) | ((with_reducible refine gate_callee (f := 31) rfl ?_); refine goesL_ (some 49) rfl rfl Try.func31 (by kernel_rfl) rfl #[.agg #[.int .i64 t962, .slice Ao15 t963.length co15, .slice Ao16 t966.length co16], .slice Ao20 t969.length co20, .int .i64 t975, .int .i64 t976, .int .i64 t977] rfl Z.ar ?_; (with_reducible refine (impl_MayChange.calls kj6 t962 _ _ t963 _ _ t966 _ _ t969 t975 t976 t977 true _ ?q1 ?q2 ?q3 ?q4 ?q5 ?q6 A28.out).mono ?_); (case q1 => exact (Kd.R_reads' HO_979001.out).2.2); (case q2 => exact (Kd.R_reads' HO_979001.out).2.1); (case q3 => exact (Kd.R_reads' HO_979002.out).2.2); (case q4 => exact (Kd.R_reads' HO_979002.out).2.1); (case q5 => exact (Kd.R_reads' HO_4.out).2.2); (case q6 => exact (Kd.R_reads' HO_4.out).2.1); rintro e w45 ⟨rfl, hb⟩; refine ⟨_, rfl, ?_⟩; replace HO_4 := Z.k (Kd.R_below HO_4.out hb); replace HO_979001 := Z.k (Kd.R_below HO_979001.out hb); replace HO_979002 := Z.k (Kd.R_below HO_979002.out hb); replace BK978 := Z.bb BK978 hb; replace BK979 := Z.bb BK979 hb; replace BK980 := Z.bb BK980 hb; replace HB := Z.k (below_step HB.out hb); (try clear hb); have hcz46 := Z.c3 BK978.out; have hcz47 := Z.c3 BK979.out; have hcz48 := Z.c3 BK980.out) | (go_at_call 25; (with_reducible refine (impl_ApartOk.calls kj6 t962 _ _ t963 _ _ t966 t972 t973 t974 t975 t976 t977 true _ ?q1 ?q2 ?q3 ?q4 A31.out).mono ?_); (case q1 => exact (Kd.R_reads' HO_979001.out).2.2); (case q2 => exact (Kd.R_reads' HO_979001.out).2.1); (case q3 => exact (Kd.R_reads' HO_979002.out).2.2); (case q4 => exact (Kd.R_reads' HO_979002.out).2.1); rintro e w49 ⟨rfl, hb⟩; replace HO_4 := Z.k (Kd.R_below HO_4.out hb); replace HO_979001 := Z.k (Kd.R_below HO_979001.out hb); replace HO_979002 := Z.k (Kd.R_below HO_979002.out hb); replace BK978 := Z.bb BK978 hb; replace BK979 := Z.bb BK979 hb; replace BK980 := Z.bb BK980 hb; replace HB := Z.k (below_step HB.out hb); (try clear hb); have hcz50 := Z.c3 BK978.out; have hcz51 := Z.c3 BK980.out; have hcz52 := Z.c3 BK979.out) | (go_at_call 36; (with_reducible refine (impl_EitherOrder.calls kj6 t962 _ _ t963 _ _ t966 _ _ t969 t975 t976 t977 t972 t973 t974 t986 _ ?q1 ?q2 ?q3 ?q4 ?q5 ?q6 A34.out).mono ?_); (case q1 => exact (Kd.R_reads' HO_979001.out).2.2); (case q2 => exact (Kd.R_reads' HO_979001.out).2.1); (case q3 => exact (Kd.R_reads' HO_979002.out).2.2); (case q4 => exact (Kd.R_reads' HO_979002.out).2.1); (case q5 => exact (Kd.R_reads' HO_4.out).2.2); (case q6 => exact (Kd.R_reads' HO_4.out).2.1); rintro e w53 ⟨rfl, hb⟩; replace HO_4 := Z.k (Kd.R_below HO_4.out hb); replace HO_979001 := Z.k (Kd.R_below HO_979001.out hb); replace HO_979002 := Z.k (Kd.R_below HO_979002.out hb); replace BK978 := Z.bb BK978 hb; replace BK979 := Z.bb BK979 hb; replace BK980 := Z.bb BK980 hb; replace HB := Z.k (below_step HB.out hb); (try clear hb)) | (go_at_call 15; (with_reducible refine (laws_alive.calls  t987 _ A36.out).mono ?_); rintro e w' ⟨rfl, ⟨nd, rfl⟩⟩))
          go_ret
          exact ⟨by rfl, by repeat ((with_reducible first | exact HB.out | apply pw_below_drewN))⟩
         ·rw [if_neg c35] at H
          have c35b0 : (t986 == true) = false := by simpa using c35
          (try (have c35b1 : decide (t986 = true) = false := by simpa using c35))
          (try (have c35b2 : (t986 == true) = false := by simpa using c35))
          (try (have c35b3 : ¬ (t986 = true) := by simpa using c35))
          clear c35
          obtain rfl := Option.some.inj H
          have hnb54 := NB978_979.out
          have hnc54 := NB979_978.out
          have hnb55 := NB978_980.out
          have hnc55 := NB980_978.out
          have hcz56 := Z.c3 BK978.out
          have hnb57 := NB979_980.out
          have hnc57 := NB980_979.out
          have hcz58 := Z.c3 BK979.out
          go_wp2_with (first | ((with_reducible refine gate_callee (f := 31) rfl ?_); refine goesL_ (some 40) rfl rfl Try.func31 (by kernel_rfl) rfl #[.agg #[.int .i64 t962, .slice Ao15 t963.length co15, .slice Ao16 t966.length co16], .slice Ao20 t969.length co20, .int .i64 t972, .int .i64 t973, .int .i64 t974] rfl Z.ar ?_; (with_reducible refine (impl_MayChange.calls kj6 t962 _ _ t963 _ _ t966 _ _ t969 t972 t973 t974 true _ ?q1 ?q2 ?q3 ?q4 ?q5 ?q6 A27.out).mono ?_); (case q1 => exact (Kd.R_reads' HO_979001.out).2.2); (case q2 => exact (Kd.R_reads' HO_979001.out).2.1); (case q3 => exact (Kd.R_reads' HO_979002.out).2.2); (case q4 => exact (Kd.R_reads' HO_979002.out).2.1); (case q5 => exact (Kd.R_reads' HO_4.out).2.2); (case q6 => exact (Kd.R_reads' HO_4.out).2.1); rintro e w59 ⟨rfl, hb⟩; refine ⟨_, rfl, ?_⟩; replace HO_4 := Z.k (Kd.R_below HO_4.out hb); replace HO_979001 := Z.k (Kd.R_below HO_979001.out hb); replace HO_979002 := Z.k (Kd.R_below HO_979002.out hb); replace BK978 := Z.bb BK978 hb; replace BK979 := Z.bb BK979 hb; replace BK980 := Z.bb BK980 hb; replace HB := Z.k (below_step HB.out hb); (try clear hb); have hcz60 := Z.c3 BK978.out; have hcz61 := Z.c3 BK980.out) | ((with_reducible refine gate_callee (f := 31) rfl ?_); refine goesL_ (some 49) rfl rfl Try.func31 (by kernel_rfl) rfl #[.agg #[.int .i64 t962, .slice Ao15 t963.length co15, .slice Ao16 t966.length co16], .slice Ao20 t969.length co20, .int .i64 t975, .int .i64 t976, .int .i64 t977] rfl Z.ar ?_; (with_reducible refine (impl_MayChange.calls kj6 t962 _ _ t963 _ _ t966 _ _ t969 t975 t976 t977 true _ ?q1 ?q2 ?q3 ?q4 ?q5 ?q6 A28.out).mono ?_); (case q1 => exact (Kd.R_reads' HO_979001.out).2.2); (case q2 => exact (Kd.R_reads' HO_979001.out).2.1); (case q3 => exact (Kd.R_reads' HO_979002.out).2.2); (case q4 => exact (Kd.R_reads' HO_979002.out).2.1); (case q5 => exact (Kd.R_reads' HO_4.out).2.2); (case q6 => exact (Kd.R_reads' HO_4.out).2.1); rintro e w62 ⟨rfl, hb⟩; refine ⟨_, rfl, ?_⟩; replace HO_4 := Z.k (Kd.R_below HO_4.out hb); replace HO_979001 := Z.k (Kd.R_below HO_979001.out hb); replace HO_979002 := Z.k (Kd.R_below HO_979002.out hb); replace BK978 := Z.bb BK978 hb; replace BK979 := Z.bb BK979 hb; replace BK980 := Z.bb BK980 hb; replace HB := Z.k (below_step HB.out hb); (try clear hb); have hcz63 := Z.c3 BK978.out; have hcz64 := Z.c3 BK979.out; have hcz65 := Z.c3 BK980.out) | (go_at_call 25; (with_reducible refine (impl_ApartOk.calls kj6 t962 _ _ t963 _ _ t966 t972 t973 t974 t975 t976 t977 true _ ?q1 ?q2 ?q3 ?q4 A31.out).mono ?_); (case q1 => exact (Kd.R_reads' HO_979001.out).2.2); (case q2 => exact (Kd.R_reads' HO_979001.out).2.1); (case q3 => exact (Kd.R_reads' HO_979002.out).2.2); (case q4 => exact (Kd.R_reads' HO_979002.out).2.1); rintro e w66 ⟨rfl, hb⟩; replace HO_4 := Z.k (Kd.R_below HO_4.out hb); replace HO_979001 := Z.k (Kd.R_below HO_979001.out hb); replace HO_979002 := Z.k (Kd.R_below HO_979002.out hb); replace BK978 := Z.bb BK978 hb; replace BK979 := Z.bb BK979 hb; replace BK980 := Z.bb BK980 hb; replace HB := Z.k (below_step HB.out hb); (try clear hb); have hcz67 := Z.c3 BK978.out; have hcz68 := Z.c3 BK980.out; have hcz69 := Z.c3 BK979.out) | (go_at_call 36; (with_reducible refine (impl_EitherOrder.calls kj6 t962 _ _ t963 _ _ t966 _ _ t969 t975 t976 t977 t972 t973 t974 t986 _ ?q1 ?q2 ?q3 ?q4 ?q5 ?q6 A34.out).mono ?_); (case q1 => exact (Kd.R_reads' HO_979001.out).2.2); (case q2 => exact (Kd.R_reads' HO_979001.out).2.1); (case q3 => exact (Kd.R_reads' HO_979002.out).2.2); (case q4 => exact (Kd.R_reads' HO_979002.out).2.1); (case q5 => exact (Kd.R_reads' HO_4.out).2.2); (case q6 => exact (Kd.R_reads' HO_4.out).2.1); rintro e w70 ⟨rfl, hb⟩; replace HO_4 := Z.k (Kd.R_below HO_4.out hb); replace HO_979001 := Z.k (Kd.R_below HO_979001.out hb); replace HO_979002 := Z.k (Kd.R_below HO_979002.out hb); replace BK978 := Z.bb BK978 hb; replace BK979 := Z.bb BK979 hb; replace BK980 := Z.bb BK980 hb; replace HB := Z.k (below_step HB.out hb); (try clear hb)))
          go_ret
          exact ⟨by rfl, HB.out⟩
        ·replace c33 := Bool.eq_false_iff.mpr c33
         subst c33
         rw [if_neg (show ¬ (false = true) by decide)] at H
         obtain rfl := Option.some.inj H
         have hnb71 := NB978_979.out
         have hnc71 := NB979_978.out
         have hnb72 := NB978_980.out
         have hnc72 := NB980_978.out
         have hcz73 := Z.c3 BK978.out
         have hnb74 := NB979_980.out
         have hnc74 := NB980_979.out
         have hcz75 := Z.c3 BK979.out
         go_wp2_with (first | ((with_reducible refine gate_callee (f := 31) rfl ?_); refine goesL_ (some 40) rfl rfl Try.func31 (by kernel_rfl) rfl #[.agg #[.int .i64 t962, .slice Ao15 t963.length co15, .slice Ao16 t966.length co16], .slice Ao20 t969.length co20, .int .i64 t972, .int .i64 t973, .int .i64 t974] rfl Z.ar ?_; (with_reducible refine (impl_MayChange.calls kj6 t962 _ _ t963 _ _ t966 _ _ t969 t972 t973 t974 true _ ?q1 ?q2 ?q3 ?q4 ?q5 ?q6 A27.out).mono ?_); (case q1 => exact (Kd.R_reads' HO_979001.out).2.2); (case q2 => exact (Kd.R_reads' HO_979001.out).2.1); (case q3 => exact (Kd.R_reads' HO_979002.out).2.2); (case q4 => exact (Kd.R_reads' HO_979002.out).2.1); (case q5 => exact (Kd.R_reads' HO_4.out).2.2); (case q6 => exact (Kd.R_reads' HO_4.out).2.1); rintro e w76 ⟨rfl, hb⟩; refine ⟨_, rfl, ?_⟩; replace HO_4 := Z.k (Kd.R_below HO_4.out hb); replace HO_979001 := Z.k (Kd.R_below HO_979001.out hb); replace HO_979002 := Z.k (Kd.R_below HO_979002.out hb); replace BK978 := Z.bb BK978 hb; replace BK979 := Z.bb BK979 hb; replace BK980 := Z.bb BK980 hb; replace HB := Z.k (below_step HB.out hb); (try clear hb); have hcz77 := Z.c3 BK978.out; have hcz78 := Z.c3 BK980.out) | ((with_reducible refine gate_callee (f := 31) rfl ?_); refine goesL_ (some 49) rfl rfl Try.func31 (by kernel_rfl) rfl #[.agg #[.int .i64 t962, .slice Ao15 t963.length co15, .slice Ao16 t966.length co16], .slice Ao20 t969.length co20, .int .i64 t975, .int .i64 t976, .int .i64 t977] rfl Z.ar ?_; (with_reducible refine (impl_MayChange.calls kj6 t962 _ _ t963 _ _ t966 _ _ t969 t975 t976 t977 true _ ?q1 ?q2 ?q3 ?q4 ?q5 ?q6 A28.out).mono ?_); (case q1 => exact (Kd.R_reads' HO_979001.out).2.2); (case q2 => exact (Kd.R_reads' HO_979001.out).2.1); (case q3 => exact (Kd.R_reads' HO_979002.out).2.2); (case q4 => exact (Kd.R_reads' HO_979002.out).2.1); (case q5 => exact (Kd.R_reads' HO_4.out).2.2); (case q6 => exact (Kd.R_reads' HO_4.out).2.1); rintro e w79 ⟨rfl, hb⟩; refine ⟨_, rfl, ?_⟩; replace HO_4 := Z.k (Kd.R_below HO_4.out hb); replace HO_979001 := Z.k (Kd.R_below HO_979001.out hb); replace HO_979002 := Z.k (Kd.R_below HO_979002.out hb); replace BK978 := Z.bb BK978 hb; replace BK979 := Z.bb BK979 hb; replace BK980 := Z.bb BK980 hb; replace HB := Z.k (below_step HB.out hb); (try clear hb); have hcz80 := Z.c3 BK978.out; have hcz81 := Z.c3 BK979.out; have hcz82 := Z.c3 BK980.out) | (go_at_call 25; (with_reducible refine (impl_ApartOk.calls kj6 t962 _ _ t963 _ _ t966 t972 t973 t974 t975 t976 t977 true _ ?q1 ?q2 ?q3 ?q4 A31.out).mono ?_); (case q1 => exact (Kd.R_reads' HO_979001.out).2.2); (case q2 => exact (Kd.R_reads' HO_979001.out).2.1); (case q3 => exact (Kd.R_reads' HO_979002.out).2.2); (case q4 => exact (Kd.R_reads' HO_979002.out).2.1); rintro e w83 ⟨rfl, hb⟩; replace HO_4 := Z.k (Kd.R_below HO_4.out hb); replace HO_979001 := Z.k (Kd.R_below HO_979001.out hb); replace HO_979002 := Z.k (Kd.R_below HO_979002.out hb); replace BK978 := Z.bb BK978 hb; replace BK979 := Z.bb BK979 hb; replace BK980 := Z.bb BK980 hb; replace HB := Z.k (below_step HB.out hb); (try clear hb)))
         go_ret
         exact ⟨by rfl, HB.out⟩
       ·replace c32 := Bool.eq_false_iff.mpr c32
        subst c32
        rw [if_neg (show ¬ (false = true) by decide)] at H
        replace H := Option.bind_eq_some_iff.mp H
        obtain ⟨t988, A840, H⟩ := H
        have A84 := Z.k A840
        clear A840
        by_cases c85 : (t988 == t981) = true
        ·rw [if_pos c85] at H
         have c85b0 : (t988 == t981) = true := c85
         (try (have c85b1 : decide (t988 = t981) = true := by simpa using c85))
         (try (have c85b2 : (t988 == t981) = true := by simpa using c85))
         clear c85
         by_cases c86 : t981 = true
         ·subst c86
          rw [if_pos rfl] at H
          replace H := Option.bind_eq_some_iff.mp H
          obtain ⟨t989, A870, H⟩ := H
          have A87 := Z.k A870
          clear A870
          obtain rfl := Option.some.inj H
          have hnb88 := NB978_979.out
          have hnc88 := NB979_978.out
          have hnb89 := NB978_980.out
          have hnc89 := NB980_978.out
          have hcz90 := Z.c3 BK978.out
          have hnb91 := NB979_980.out
          have hnc91 := NB980_979.out
          have hcz92 := Z.c3 BK979.out
          go_wp2_with (first | ((with_reducible refine gate_callee (f := 31) rfl ?_); refine goesL_ (some 40) rfl rfl Try.func31 (by kernel_rfl) rfl #[.agg #[.int .i64 t962, .slice Ao15 t963.length co15, .slice Ao16 t966.length co16], .slice Ao20 t969.length co20, .int .i64 t972, .int .i64 t973, .int .i64 t974] rfl Z.ar ?_; (with_reducible refine (impl_MayChange.calls kj6 t962 _ _ t963 _ _ t966 _ _ t969 t972 t973 t974 true _ ?q1 ?q2 ?q3 ?q4 ?q5 ?q6 A27.out).mono ?_); (case q1 => exact (Kd.R_reads' HO_979001.out).2.2); (case q2 => exact (Kd.R_reads' HO_979001.out).2.1); (case q3 => exact (Kd.R_reads' HO_979002.out).2.2); (case q4 => exact (Kd.R_reads' HO_979002.out).2.1); (case q5 => exact (Kd.R_reads' HO_4.out).2.2); (case q6 => exact (Kd.R_reads' HO_4.out).2.1); rintro e w93 ⟨rfl, hb⟩; refine ⟨_, rfl, ?_⟩; replace HO_4 := Z.k (Kd.R_below HO_4.out hb); replace HO_979001 := Z.k (Kd.R_below HO_979001.out hb); replace HO_979002 := Z.k (Kd.R_below HO_979002.out hb); replace BK978 := Z.bb BK978 hb; replace BK979 := Z.bb BK979 hb; replace BK980 := Z.bb BK980 hb; replace HB := Z.k (below_step HB.out hb); (try clear hb); have hcz94 := Z.c3 BK978.out; have hcz95 := Z.c3 BK980.out) | ((with_reducible refine gate_callee (f := 31) rfl ?_); refine goesL_ (some 49) rfl rfl Try.func31 (by kernel_rfl) rfl #[.agg #[.int .i64 t962, .slice Ao15 t963.length co15, .slice Ao16 t966.length co16], .slice Ao20 t969.length co20, .int .i64 t975, .int .i64 t976, .int .i64 t977] rfl Z.ar ?_; (with_reducible refine (impl_MayChange.calls kj6 t962 _ _ t963 _ _ t966 _ _ t969 t975 t976 t977 true _ ?q1 ?q2 ?q3 ?q4 ?q5 ?q6 A28.out).mono ?_); (case q1 => exact (Kd.R_reads' HO_979001.out).2.2); (case q2 => exact (Kd.R_reads' HO_979001.out).2.1); (case q3 => exact (Kd.R_reads' HO_979002.out).2.2); (case q4 => exact (Kd.R_reads' HO_979002.out).2.1); (case q5 => exact (Kd.R_reads' HO_4.out).2.2); (case q6 => exact (Kd.R_reads' HO_4.out).2.1); rintro e w96 ⟨rfl, hb⟩; refine ⟨_, rfl, ?_⟩; replace HO_4 := Z.k (Kd.R_below HO_4.out hb); replace HO_979001 := Z.k (Kd.R_below HO_979001.out hb); replace HO_979002 := Z.k (Kd.R_below HO_979002.out hb); replace BK978 := Z.bb BK978 hb; replace BK979 := Z.bb BK979 hb; replace BK980 := Z.bb BK980 hb; replace HB := Z.k (below_step HB.out hb); (try clear hb); have hcz97 := Z.c3 BK978.out; have hcz98 := Z.c3 BK979.out; have hcz99 := Z.c3 BK980.out) | (go_at_call 25; (with_reducible refine (impl_ApartOk.calls kj6 t962 _ _ t963 _ _ t966 t972 t973 t974 t975 t976 t977 false _ ?q1 ?q2 ?q3 ?q4 A31.out).mono ?_); (case q1 => exact (Kd.R_reads' HO_979001.out).2.2); (case q2 => exact (Kd.R_reads' HO_979001.out).2.1); (case q3 => exact (Kd.R_reads' HO_979002.out).2.2); (case q4 => exact (Kd.R_reads' HO_979002.out).2.1); rintro e w100 ⟨rfl, hb⟩; replace HO_4 := Z.k (Kd.R_below HO_4.out hb); replace HO_979001 := Z.k (Kd.R_below HO_979001.out hb); replace HO_979002 := Z.k (Kd.R_below HO_979002.out hb); replace BK978 := Z.bb BK978 hb; replace BK979 := Z.bb BK979 hb; replace BK980 := Z.bb BK980 hb; replace HB := Z.k (below_step HB.out hb); (try clear hb); have hcz101 := Z.c3 BK978.out; have hcz102 := Z.c3 BK980.out; have hcz103 := Z.c3 BK979.out) | (go_at_call 36; (with_reducible refine (impl_EitherOrder.calls kj6 t962 _ _ t963 _ _ t966 _ _ t969 t975 t976 t977 t972 t973 t974 t988 _ ?q1 ?q2 ?q3 ?q4 ?q5 ?q6 A84.out).mono ?_); (case q1 => exact (Kd.R_reads' HO_979001.out).2.2); (case q2 => exact (Kd.R_reads' HO_979001.out).2.1); (case q3 => exact (Kd.R_reads' HO_979002.out).2.2); (case q4 => exact (Kd.R_reads' HO_979002.out).2.1); (case q5 => exact (Kd.R_reads' HO_4.out).2.2); (case q6 => exact (Kd.R_reads' HO_4.out).2.1); rintro e w104 ⟨rfl, hb⟩; replace HO_4 := Z.k (Kd.R_below HO_4.out hb); replace HO_979001 := Z.k (Kd.R_below HO_979001.out hb); replace HO_979002 := Z.k (Kd.R_below HO_979002.out hb); replace BK978 := Z.bb BK978 hb; replace BK979 := Z.bb BK979 hb; replace BK980 := Z.bb BK980 hb; replace HB := Z.k (below_step HB.out hb); (try clear hb)) | (go_at_call 15; (with_reducible refine (laws_alive.calls  t989 _ A87.out).mono ?_); rintro e w' ⟨rfl, ⟨nd, rfl⟩⟩))
          go_ret
          exact ⟨by rfl, by repeat ((with_reducible first | exact HB.out | apply pw_below_drewN))⟩
         ·replace c86 := Bool.eq_false_iff.mpr c86
          subst c86
          rw [if_neg (show ¬ (false = true) by decide)] at H
          replace H := Option.bind_eq_some_iff.mp H
          obtain ⟨t990, A1050, H⟩ := H
          have A105 := Z.k A1050
          clear A1050
          obtain rfl := Option.some.inj H
          have hnb106 := NB978_979.out
          have hnc106 := NB979_978.out
          have hnb107 := NB978_980.out
          have hnc107 := NB980_978.out
          have hcz108 := Z.c3 BK978.out
          have hnb109 := NB979_980.out
          have hnc109 := NB980_979.out
          have hcz110 := Z.c3 BK979.out
          go_wp2_with (first | ((with_reducible refine gate_callee (f := 31) rfl ?_); refine goesL_ (some 40) rfl rfl Try.func31 (by kernel_rfl) rfl #[.agg #[.int .i64 t962, .slice Ao15 t963.length co15, .slice Ao16 t966.length co16], .slice Ao20 t969.length co20, .int .i64 t972, .int .i64 t973, .int .i64 t974] rfl Z.ar ?_; (with_reducible refine (impl_MayChange.calls kj6 t962 _ _ t963 _ _ t966 _ _ t969 t972 t973 t974 true _ ?q1 ?q2 ?q3 ?q4 ?q5 ?q6 A27.out).mono ?_); (case q1 => exact (Kd.R_reads' HO_979001.out).2.2); (case q2 => exact (Kd.R_reads' HO_979001.out).2.1); (case q3 => exact (Kd.R_reads' HO_979002.out).2.2); (case q4 => exact (Kd.R_reads' HO_979002.out).2.1); (case q5 => exact (Kd.R_reads' HO_4.out).2.2); (case q6 => exact (Kd.R_reads' HO_4.out).2.1); rintro e w111 ⟨rfl, hb⟩; refine ⟨_, rfl, ?_⟩; replace HO_4 := Z.k (Kd.R_below HO_4.out hb); replace HO_979001 := Z.k (Kd.R_below HO_979001.out hb); replace HO_979002 := Z.k (Kd.R_below HO_979002.out hb); replace BK978 := Z.bb BK978 hb; replace BK979 := Z.bb BK979 hb; replace BK980 := Z.bb BK980 hb; replace HB := Z.k (below_step HB.out hb); (try clear hb); have hcz112 := Z.c3 BK978.out; have hcz113 := Z.c3 BK980.out) | ((with_reducible refine gate_callee (f := 31) rfl ?_); refine goesL_ (some 49) rfl rfl Try.func31 (by kernel_rfl) rfl #[.agg #[.int .i64 t962, .slice Ao15 t963.length co15, .slice Ao16 t966.length co16], .slice Ao20 t969.length co20, .int .i64 t975, .int .i64 t976, .int .i64 t977] rfl Z.ar ?_; (with_reducible refine (impl_MayChange.calls kj6 t962 _ _ t963 _ _ t966 _ _ t969 t975 t976 t977 true _ ?q1 ?q2 ?q3 ?q4 ?q5 ?q6 A28.out).mono ?_); (case q1 => exact (Kd.R_reads' HO_979001.out).2.2); (case q2 => exact (Kd.R_reads' HO_979001.out).2.1); (case q3 => exact (Kd.R_reads' HO_979002.out).2.2); (case q4 => exact (Kd.R_reads' HO_979002.out).2.1); (case q5 => exact (Kd.R_reads' HO_4.out).2.2); (case q6 => exact (Kd.R_reads' HO_4.out).2.1); rintro e w114 ⟨rfl, hb⟩; refine ⟨_, rfl, ?_⟩; replace HO_4 := Z.k (Kd.R_below HO_4.out hb); replace HO_979001 := Z.k (Kd.R_below HO_979001.out hb); replace HO_979002 := Z.k (Kd.R_below HO_979002.out hb); replace BK978 := Z.bb BK978 hb; replace BK979 := Z.bb BK979 hb; replace BK980 := Z.bb BK980 hb; replace HB := Z.k (below_step HB.out hb); (try clear hb); have hcz115 := Z.c3 BK978.out; have hcz116 := Z.c3 BK979.out; have hcz117 := Z.c3 BK980.out) | (go_at_call 25; (with_reducible refine (impl_ApartOk.calls kj6 t962 _ _ t963 _ _ t966 t972 t973 t974 t975 t976 t977 false _ ?q1 ?q2 ?q3 ?q4 A31.out).mono ?_); (case q1 => exact (Kd.R_reads' HO_979001.out).2.2); (case q2 => exact (Kd.R_reads' HO_979001.out).2.1); (case q3 => exact (Kd.R_reads' HO_979002.out).2.2); (case q4 => exact (Kd.R_reads' HO_979002.out).2.1); rintro e w118 ⟨rfl, hb⟩; replace HO_4 := Z.k (Kd.R_below HO_4.out hb); replace HO_979001 := Z.k (Kd.R_below HO_979001.out hb); replace HO_979002 := Z.k (Kd.R_below HO_979002.out hb); replace BK978 := Z.bb BK978 hb; replace BK979 := Z.bb BK979 hb; replace BK980 := Z.bb BK980 hb; replace HB := Z.k (below_step HB.out hb); (try clear hb); have hcz119 := Z.c3 BK978.out; have hcz120 := Z.c3 BK980.out; have hcz121 := Z.c3 BK979.out) | (go_at_call 36; (with_reducible refine (impl_EitherOrder.calls kj6 t962 _ _ t963 _ _ t966 _ _ t969 t975 t976 t977 t972 t973 t974 t988 _ ?q1 ?q2 ?q3 ?q4 ?q5 ?q6 A84.out).mono ?_); (case q1 => exact (Kd.R_reads' HO_979001.out).2.2); (case q2 => exact (Kd.R_reads' HO_979001.out).2.1); (case q3 => exact (Kd.R_reads' HO_979002.out).2.2); (case q4 => exact (Kd.R_reads' HO_979002.out).2.1); (case q5 => exact (Kd.R_reads' HO_4.out).2.2); (case q6 => exact (Kd.R_reads' HO_4.out).2.1); rintro e w122 ⟨rfl, hb⟩; replace HO_4 := Z.k (Kd.R_below HO_4.out hb); replace HO_979001 := Z.k (Kd.R_below HO_979001.out hb); replace HO_979002 := Z.k (Kd.R_below HO_979002.out hb); replace BK978 := Z.bb BK978 hb; replace BK979 := Z.bb BK979 hb; replace BK980 := Z.bb BK980 hb; replace HB := Z.k (below_step HB.out hb); (try clear hb)) | (go_at_call 15; (with_reducible refine (laws_alive.calls  t990 _ A105.out).mono ?_); rintro e w' ⟨rfl, ⟨nd, rfl⟩⟩))
          go_ret
          exact ⟨by rfl, by repeat ((with_reducible first | exact HB.out | apply pw_below_drewN))⟩
        ·rw [if_neg c85] at H
         have c85b0 : (t988 == t981) = false := by simpa using c85
         (try (have c85b1 : decide (t988 = t981) = false := by simpa using c85))
         (try (have c85b2 : (t988 == t981) = false := by simpa using c85))
         (try (have c85b3 : ¬ (t988 = t981) := by simpa using c85))
         clear c85
         obtain rfl := Option.some.inj H
         have hnb123 := NB978_979.out
         have hnc123 := NB979_978.out
         have hnb124 := NB978_980.out
         have hnc124 := NB980_978.out
         have hcz125 := Z.c3 BK978.out
         have hnb126 := NB979_980.out
         have hnc126 := NB980_979.out
         have hcz127 := Z.c3 BK979.out
         go_wp2_with (first | ((with_reducible refine gate_callee (f := 31) rfl ?_); refine goesL_ (some 40) rfl rfl Try.func31 (by kernel_rfl) rfl #[.agg #[.int .i64 t962, .slice Ao15 t963.length co15, .slice Ao16 t966.length co16], .slice Ao20 t969.length co20, .int .i64 t972, .int .i64 t973, .int .i64 t974] rfl Z.ar ?_; (with_reducible refine (impl_MayChange.calls kj6 t962 _ _ t963 _ _ t966 _ _ t969 t972 t973 t974 true _ ?q1 ?q2 ?q3 ?q4 ?q5 ?q6 A27.out).mono ?_); (case q1 => exact (Kd.R_reads' HO_979001.out).2.2); (case q2 => exact (Kd.R_reads' HO_979001.out).2.1); (case q3 => exact (Kd.R_reads' HO_979002.out).2.2); (case q4 => exact (Kd.R_reads' HO_979002.out).2.1); (case q5 => exact (Kd.R_reads' HO_4.out).2.2); (case q6 => exact (Kd.R_reads' HO_4.out).2.1); rintro e w128 ⟨rfl, hb⟩; refine ⟨_, rfl, ?_⟩; replace HO_4 := Z.k (Kd.R_below HO_4.out hb); replace HO_979001 := Z.k (Kd.R_below HO_979001.out hb); replace HO_979002 := Z.k (Kd.R_below HO_979002.out hb); replace BK978 := Z.bb BK978 hb; replace BK979 := Z.bb BK979 hb; replace BK980 := Z.bb BK980 hb; replace HB := Z.k (below_step HB.out hb); (try clear hb); have hcz129 := Z.c3 BK978.out; have hcz130 := Z.c3 BK980.out) | ((with_reducible refine gate_callee (f := 31) rfl ?_); refine goesL_ (some 49) rfl rfl Try.func31 (by kernel_rfl) rfl #[.agg #[.int .i64 t962, .slice Ao15 t963.length co15, .slice Ao16 t966.length co16], .slice Ao20 t969.length co20, .int .i64 t975, .int .i64 t976, .int .i64 t977] rfl Z.ar ?_; (with_reducible refine (impl_MayChange.calls kj6 t962 _ _ t963 _ _ t966 _ _ t969 t975 t976 t977 true _ ?q1 ?q2 ?q3 ?q4 ?q5 ?q6 A28.out).mono ?_); (case q1 => exact (Kd.R_reads' HO_979001.out).2.2); (case q2 => exact (Kd.R_reads' HO_979001.out).2.1); (case q3 => exact (Kd.R_reads' HO_979002.out).2.2); (case q4 => exact (Kd.R_reads' HO_979002.out).2.1); (case q5 => exact (Kd.R_reads' HO_4.out).2.2); (case q6 => exact (Kd.R_reads' HO_4.out).2.1); rintro e w131 ⟨rfl, hb⟩; refine ⟨_, rfl, ?_⟩; replace HO_4 := Z.k (Kd.R_below HO_4.out hb); replace HO_979001 := Z.k (Kd.R_below HO_979001.out hb); replace HO_979002 := Z.k (Kd.R_below HO_979002.out hb); replace BK978 := Z.bb BK978 hb; replace BK979 := Z.bb BK979 hb; replace BK980 := Z.bb BK980 hb; replace HB := Z.k (below_step HB.out hb); (try clear hb); have hcz132 := Z.c3 BK978.out; have hcz133 := Z.c3 BK979.out; have hcz134 := Z.c3 BK980.out) | (go_at_call 25; (with_reducible refine (impl_ApartOk.calls kj6 t962 _ _ t963 _ _ t966 t972 t973 t974 t975 t976 t977 false _ ?q1 ?q2 ?q3 ?q4 A31.out).mono ?_); (case q1 => exact (Kd.R_reads' HO_979001.out).2.2); (case q2 => exact (Kd.R_reads' HO_979001.out).2.1); (case q3 => exact (Kd.R_reads' HO_979002.out).2.2); (case q4 => exact (Kd.R_reads' HO_979002.out).2.1); rintro e w135 ⟨rfl, hb⟩; replace HO_4 := Z.k (Kd.R_below HO_4.out hb); replace HO_979001 := Z.k (Kd.R_below HO_979001.out hb); replace HO_979002 := Z.k (Kd.R_below HO_979002.out hb); replace BK978 := Z.bb BK978 hb; replace BK979 := Z.bb BK979 hb; replace BK980 := Z.bb BK980 hb; replace HB := Z.k (below_step HB.out hb); (try clear hb); have hcz136 := Z.c3 BK978.out; have hcz137 := Z.c3 BK980.out; have hcz138 := Z.c3 BK979.out) | (go_at_call 36; (with_reducible refine (impl_EitherOrder.calls kj6 t962 _ _ t963 _ _ t966 _ _ t969 t975 t976 t977 t972 t973 t974 t988 _ ?q1 ?q2 ?q3 ?q4 ?q5 ?q6 A84.out).mono ?_); (case q1 => exact (Kd.R_reads' HO_979001.out).2.2); (case q2 => exact (Kd.R_reads' HO_979001.out).2.1); (case q3 => exact (Kd.R_reads' HO_979002.out).2.2); (case q4 => exact (Kd.R_reads' HO_979002.out).2.1); (case q5 => exact (Kd.R_reads' HO_4.out).2.2); (case q6 => exact (Kd.R_reads' HO_4.out).2.1); rintro e w139 ⟨rfl, hb⟩; replace HO_4 := Z.k (Kd.R_below HO_4.out hb); replace HO_979001 := Z.k (Kd.R_below HO_979001.out hb); replace HO_979002 := Z.k (Kd.R_below HO_979002.out hb); replace BK978 := Z.bb BK978 hb; replace BK979 := Z.bb BK979 hb; replace BK980 := Z.bb BK980 hb; replace HB := Z.k (below_step HB.out hb); (try clear hb)))
         go_ret
         exact ⟨by rfl, HB.out⟩
      ·replace c30 := Bool.eq_false_iff.mpr c30
       subst c30
       rw [if_neg (show ¬ (false = true) by decide)] at H
       replace H := Option.bind_eq_some_iff.mp H
       obtain ⟨t991, A1400, H⟩ := H
       have A140 := Z.k A1400
       clear A1400
       by_cases c141 : (t991 == t981) = true
       ·rw [if_pos c141] at H
        have c141b0 : (t991 == t981) = true := c141
        (try (have c141b1 : decide (t991 = t981) = true := by simpa using c141))
        (try (have c141b2 : (t991 == t981) = true := by simpa using c141))
        clear c141
        by_cases c142 : t981 = true
        ·subst c142
         rw [if_pos rfl] at H
         obtain rfl := Option.some.inj H
         have hnb143 := NB978_979.out
         have hnc143 := NB979_978.out
         have hnb144 := NB978_980.out
         have hnc144 := NB980_978.out
         have hcz145 := Z.c3 BK978.out
         have hnb146 := NB979_980.out
         have hnc146 := NB980_979.out
         have hcz147 := Z.c3 BK979.out
         go_wp2_with (first | ((with_reducible refine gate_callee (f := 31) rfl ?_); refine goesL_ (some 40) rfl rfl Try.func31 (by kernel_rfl) rfl #[.agg #[.int .i64 t962, .slice Ao15 t963.length co15, .slice Ao16 t966.length co16], .slice Ao20 t969.length co20, .int .i64 t972, .int .i64 t973, .int .i64 t974] rfl Z.ar ?_; (with_reducible refine (impl_MayChange.calls kj6 t962 _ _ t963 _ _ t966 _ _ t969 t972 t973 t974 true _ ?q1 ?q2 ?q3 ?q4 ?q5 ?q6 A27.out).mono ?_); (case q1 => exact (Kd.R_reads' HO_979001.out).2.2); (case q2 => exact (Kd.R_reads' HO_979001.out).2.1); (case q3 => exact (Kd.R_reads' HO_979002.out).2.2); (case q4 => exact (Kd.R_reads' HO_979002.out).2.1); (case q5 => exact (Kd.R_reads' HO_4.out).2.2); (case q6 => exact (Kd.R_reads' HO_4.out).2.1); rintro e w148 ⟨rfl, hb⟩; refine ⟨_, rfl, ?_⟩; replace HO_4 := Z.k (Kd.R_below HO_4.out hb); replace HO_979001 := Z.k (Kd.R_below HO_979001.out hb); replace HO_979002 := Z.k (Kd.R_below HO_979002.out hb); replace BK978 := Z.bb BK978 hb; replace BK979 := Z.bb BK979 hb; replace BK980 := Z.bb BK980 hb; replace HB := Z.k (below_step HB.out hb); (try clear hb); have hcz149 := Z.c3 BK978.out; have hcz150 := Z.c3 BK980.out) | ((with_reducible refine gate_callee (f := 31) rfl ?_); refine goesL_ (some 49) rfl rfl Try.func31 (by kernel_rfl) rfl #[.agg #[.int .i64 t962, .slice Ao15 t963.length co15, .slice Ao16 t966.length co16], .slice Ao20 t969.length co20, .int .i64 t975, .int .i64 t976, .int .i64 t977] rfl Z.ar ?_; (with_reducible refine (impl_MayChange.calls kj6 t962 _ _ t963 _ _ t966 _ _ t969 t975 t976 t977 false _ ?q1 ?q2 ?q3 ?q4 ?q5 ?q6 A28.out).mono ?_); (case q1 => exact (Kd.R_reads' HO_979001.out).2.2); (case q2 => exact (Kd.R_reads' HO_979001.out).2.1); (case q3 => exact (Kd.R_reads' HO_979002.out).2.2); (case q4 => exact (Kd.R_reads' HO_979002.out).2.1); (case q5 => exact (Kd.R_reads' HO_4.out).2.2); (case q6 => exact (Kd.R_reads' HO_4.out).2.1); rintro e w151 ⟨rfl, hb⟩; refine ⟨_, rfl, ?_⟩; replace HO_4 := Z.k (Kd.R_below HO_4.out hb); replace HO_979001 := Z.k (Kd.R_below HO_979001.out hb); replace HO_979002 := Z.k (Kd.R_below HO_979002.out hb); replace BK978 := Z.bb BK978 hb; replace BK979 := Z.bb BK979 hb; replace BK980 := Z.bb BK980 hb; replace HB := Z.k (below_step HB.out hb); (try clear hb); have hcz152 := Z.c3 BK978.out; have hcz153 := Z.c3 BK980.out; have hcz154 := Z.c3 BK979.out) | (go_at_call 36; (with_reducible refine (impl_EitherOrder.calls kj6 t962 _ _ t963 _ _ t966 _ _ t969 t975 t976 t977 t972 t973 t974 t991 _ ?q1 ?q2 ?q3 ?q4 ?q5 ?q6 A140.out).mono ?_); (case q1 => exact (Kd.R_reads' HO_979001.out).2.2); (case q2 => exact (Kd.R_reads' HO_979001.out).2.1); (case q3 => exact (Kd.R_reads' HO_979002.out).2.2); (case q4 => exact (Kd.R_reads' HO_979002.out).2.1); (case q5 => exact (Kd.R_reads' HO_4.out).2.2); (case q6 => exact (Kd.R_reads' HO_4.out).2.1); rintro e w155 ⟨rfl, hb⟩; replace HO_4 := Z.k (Kd.R_below HO_4.out hb); replace HO_979001 := Z.k (Kd.R_below HO_979001.out hb); replace HO_979002 := Z.k (Kd.R_below HO_979002.out hb); replace BK978 := Z.bb BK978 hb; replace BK979 := Z.bb BK979 hb; replace BK980 := Z.bb BK980 hb; replace HB := Z.k (below_step HB.out hb); (try clear hb)))
         go_ret
         exact ⟨by rfl, HB.out⟩
        ·replace c142 := Bool.eq_false_iff.mpr c142
         subst c142
         rw [if_neg (show ¬ (false = true) by decide)] at H
         replace H := Option.bind_eq_some_iff.mp H
         obtain ⟨t992, A1560, H⟩ := H
         have A156 := Z.k A1560
         clear A1560
         obtain rfl := Option.some.inj H
         have hnb157 := NB978_979.out
         have hnc157 := NB979_978.out
         have hnb158 := NB978_980.out
         have hnc158 := NB980_978.out
         have hcz159 := Z.c3 BK978.out
         have hnb160 := NB979_980.out
         have hnc160 := NB980_979.out
         have hcz161 := Z.c3 BK979.out
         go_wp2_with (first | ((with_reducible refine gate_callee (f := 31) rfl ?_); refine goesL_ (some 40) rfl rfl Try.func31 (by kernel_rfl) rfl #[.agg #[.int .i64 t962, .slice Ao15 t963.length co15, .slice Ao16 t966.length co16], .slice Ao20 t969.length co20, .int .i64 t972, .int .i64 t973, .int .i64 t974] rfl Z.ar ?_; (with_reducible refine (impl_MayChange.calls kj6 t962 _ _ t963 _ _ t966 _ _ t969 t972 t973 t974 true _ ?q1 ?q2 ?q3 ?q4 ?q5 ?q6 A27.out).mono ?_); (case q1 => exact (Kd.R_reads' HO_979001.out).2.2); (case q2 => exact (Kd.R_reads' HO_979001.out).2.1); (case q3 => exact (Kd.R_reads' HO_979002.out).2.2); (case q4 => exact (Kd.R_reads' HO_979002.out).2.1); (case q5 => exact (Kd.R_reads' HO_4.out).2.2); (case q6 => exact (Kd.R_reads' HO_4.out).2.1); rintro e w162 ⟨rfl, hb⟩; refine ⟨_, rfl, ?_⟩; replace HO_4 := Z.k (Kd.R_below HO_4.out hb); replace HO_979001 := Z.k (Kd.R_below HO_979001.out hb); replace HO_979002 := Z.k (Kd.R_below HO_979002.out hb); replace BK978 := Z.bb BK978 hb; replace BK979 := Z.bb BK979 hb; replace BK980 := Z.bb BK980 hb; replace HB := Z.k (below_step HB.out hb); (try clear hb); have hcz163 := Z.c3 BK978.out; have hcz164 := Z.c3 BK980.out) | ((with_reducible refine gate_callee (f := 31) rfl ?_); refine goesL_ (some 49) rfl rfl Try.func31 (by kernel_rfl) rfl #[.agg #[.int .i64 t962, .slice Ao15 t963.length co15, .slice Ao16 t966.length co16], .slice Ao20 t969.length co20, .int .i64 t975, .int .i64 t976, .int .i64 t977] rfl Z.ar ?_; (with_reducible refine (impl_MayChange.calls kj6 t962 _ _ t963 _ _ t966 _ _ t969 t975 t976 t977 false _ ?q1 ?q2 ?q3 ?q4 ?q5 ?q6 A28.out).mono ?_); (case q1 => exact (Kd.R_reads' HO_979001.out).2.2); (case q2 => exact (Kd.R_reads' HO_979001.out).2.1); (case q3 => exact (Kd.R_reads' HO_979002.out).2.2); (case q4 => exact (Kd.R_reads' HO_979002.out).2.1); (case q5 => exact (Kd.R_reads' HO_4.out).2.2); (case q6 => exact (Kd.R_reads' HO_4.out).2.1); rintro e w165 ⟨rfl, hb⟩; refine ⟨_, rfl, ?_⟩; replace HO_4 := Z.k (Kd.R_below HO_4.out hb); replace HO_979001 := Z.k (Kd.R_below HO_979001.out hb); replace HO_979002 := Z.k (Kd.R_below HO_979002.out hb); replace BK978 := Z.bb BK978 hb; replace BK979 := Z.bb BK979 hb; replace BK980 := Z.bb BK980 hb; replace HB := Z.k (below_step HB.out hb); (try clear hb); have hcz166 := Z.c3 BK978.out; have hcz167 := Z.c3 BK980.out; have hcz168 := Z.c3 BK979.out) | (go_at_call 36; (with_reducible refine (impl_EitherOrder.calls kj6 t962 _ _ t963 _ _ t966 _ _ t969 t975 t976 t977 t972 t973 t974 t991 _ ?q1 ?q2 ?q3 ?q4 ?q5 ?q6 A140.out).mono ?_); (case q1 => exact (Kd.R_reads' HO_979001.out).2.2); (case q2 => exact (Kd.R_reads' HO_979001.out).2.1); (case q3 => exact (Kd.R_reads' HO_979002.out).2.2); (case q4 => exact (Kd.R_reads' HO_979002.out).2.1); (case q5 => exact (Kd.R_reads' HO_4.out).2.2); (case q6 => exact (Kd.R_reads' HO_4.out).2.1); rintro e w169 ⟨rfl, hb⟩; replace HO_4 := Z.k (Kd.R_below HO_4.out hb); replace HO_979001 := Z.k (Kd.R_below HO_979001.out hb); replace HO_979002 := Z.k (Kd.R_below HO_979002.out hb); replace BK978 := Z.bb BK978 hb; replace BK979 := Z.bb BK979 hb; replace BK980 := Z.bb BK980 hb; replace HB := Z.k (below_step HB.out hb); (try clear hb)) | (go_at_call 15; (with_reducible refine (laws_alive.calls  t992 _ A156.out).mono ?_); rintro e w' ⟨rfl, ⟨nd, rfl⟩⟩))
         go_ret
         exact ⟨by rfl, by repeat ((with_reducible first | exact HB.out | apply pw_below_drewN))⟩
       ·rw [if_neg c141] at H
        have c141b0 : (t991 == t981) = false := by simpa using c141
        (try (have c141b1 : decide (t991 = t981) = false := by simpa using c141))
        (try (have c141b2 : (t991 == t981) = false := by simpa using c141))
        (try (have c141b3 : ¬ (t991 = t981) := by simpa using c141))
        clear c141
        obtain rfl := Option.some.inj H
        have hnb170 := NB978_979.out
        have hnc170 := NB979_978.out
        have hnb171 := NB978_980.out
        have hnc171 := NB980_978.out
        have hcz172 := Z.c3 BK978.out
        have hnb173 := NB979_980.out
        have hnc173 := NB980_979.out
        have hcz174 := Z.c3 BK979.out
        go_wp2_with (first | ((with_reducible refine gate_callee (f := 31) rfl ?_); refine goesL_ (some 40) rfl rfl Try.func31 (by kernel_rfl) rfl #[.agg #[.int .i64 t962, .slice Ao15 t963.length co15, .slice Ao16 t966.length co16], .slice Ao20 t969.length co20, .int .i64 t972, .int .i64 t973, .int .i64 t974] rfl Z.ar ?_; (with_reducible refine (impl_MayChange.calls kj6 t962 _ _ t963 _ _ t966 _ _ t969 t972 t973 t974 true _ ?q1 ?q2 ?q3 ?q4 ?q5 ?q6 A27.out).mono ?_); (case q1 => exact (Kd.R_reads' HO_979001.out).2.2); (case q2 => exact (Kd.R_reads' HO_979001.out).2.1); (case q3 => exact (Kd.R_reads' HO_979002.out).2.2); (case q4 => exact (Kd.R_reads' HO_979002.out).2.1); (case q5 => exact (Kd.R_reads' HO_4.out).2.2); (case q6 => exact (Kd.R_reads' HO_4.out).2.1); rintro e w175 ⟨rfl, hb⟩; refine ⟨_, rfl, ?_⟩; replace HO_4 := Z.k (Kd.R_below HO_4.out hb); replace HO_979001 := Z.k (Kd.R_below HO_979001.out hb); replace HO_979002 := Z.k (Kd.R_below HO_979002.out hb); replace BK978 := Z.bb BK978 hb; replace BK979 := Z.bb BK979 hb; replace BK980 := Z.bb BK980 hb; replace HB := Z.k (below_step HB.out hb); (try clear hb); have hcz176 := Z.c3 BK978.out; have hcz177 := Z.c3 BK980.out) | ((with_reducible refine gate_callee (f := 31) rfl ?_); refine goesL_ (some 49) rfl rfl Try.func31 (by kernel_rfl) rfl #[.agg #[.int .i64 t962, .slice Ao15 t963.length co15, .slice Ao16 t966.length co16], .slice Ao20 t969.length co20, .int .i64 t975, .int .i64 t976, .int .i64 t977] rfl Z.ar ?_; (with_reducible refine (impl_MayChange.calls kj6 t962 _ _ t963 _ _ t966 _ _ t969 t975 t976 t977 false _ ?q1 ?q2 ?q3 ?q4 ?q5 ?q6 A28.out).mono ?_); (case q1 => exact (Kd.R_reads' HO_979001.out).2.2); (case q2 => exact (Kd.R_reads' HO_979001.out).2.1); (case q3 => exact (Kd.R_reads' HO_979002.out).2.2); (case q4 => exact (Kd.R_reads' HO_979002.out).2.1); (case q5 => exact (Kd.R_reads' HO_4.out).2.2); (case q6 => exact (Kd.R_reads' HO_4.out).2.1); rintro e w178 ⟨rfl, hb⟩; refine ⟨_, rfl, ?_⟩; replace HO_4 := Z.k (Kd.R_below HO_4.out hb); replace HO_979001 := Z.k (Kd.R_below HO_979001.out hb); replace HO_979002 := Z.k (Kd.R_below HO_979002.out hb); replace BK978 := Z.bb BK978 hb; replace BK979 := Z.bb BK979 hb; replace BK980 := Z.bb BK980 hb; replace HB := Z.k (below_step HB.out hb); (try clear hb); have hcz179 := Z.c3 BK978.out; have hcz180 := Z.c3 BK980.out; have hcz181 := Z.c3 BK979.out) | (go_at_call 36; (with_reducible refine (impl_EitherOrder.calls kj6 t962 _ _ t963 _ _ t966 _ _ t969 t975 t976 t977 t972 t973 t974 t991 _ ?q1 ?q2 ?q3 ?q4 ?q5 ?q6 A140.out).mono ?_); (case q1 => exact (Kd.R_reads' HO_979001.out).2.2); (case q2 => exact (Kd.R_reads' HO_979001.out).2.1); (case q3 => exact (Kd.R_reads' HO_979002.out).2.2); (case q4 => exact (Kd.R_reads' HO_979002.out).2.1); (case q5 => exact (Kd.R_reads' HO_4.out).2.2); (case q6 => exact (Kd.R_reads' HO_4.out).2.1); rintro e w182 ⟨rfl, hb⟩; replace HO_4 := Z.k (Kd.R_below HO_4.out hb); replace HO_979001 := Z.k (Kd.R_below HO_979001.out hb); replace HO_979002 := Z.k (Kd.R_below HO_979002.out hb); replace BK978 := Z.bb BK978 hb; replace BK979 := Z.bb BK979 hb; replace BK980 := Z.bb BK980 hb; replace HB := Z.k (below_step HB.out hb); (try clear hb)))
        go_ret
        exact ⟨by rfl, HB.out⟩
     ·replace c29 := Bool.eq_false_iff.mpr c29
      subst c29
      rw [if_neg (show ¬ (false = true) by decide)] at H
      replace H := Option.bind_eq_some_iff.mp H
      obtain ⟨t993, A1830, H⟩ := H
      have A183 := Z.k A1830
      clear A1830
      by_cases c184 : (t993 == t981) = true
      ·rw [if_pos c184] at H
       have c184b0 : (t993 == t981) = true := c184
       (try (have c184b1 : decide (t993 = t981) = true := by simpa using c184))
       (try (have c184b2 : (t993 == t981) = true := by simpa using c184))
       clear c184
       by_cases c185 : t981 = true
       ·subst c185
        rw [if_pos rfl] at H
        obtain rfl := Option.some.inj H
        have hnb186 := NB978_979.out
        have hnc186 := NB979_978.out
        have hnb187 := NB978_980.out
        have hnc187 := NB980_978.out
        have hcz188 := Z.c3 BK978.out
        have hnb189 := NB979_980.out
        have hnc189 := NB980_979.out
        have hcz190 := Z.c3 BK979.out
        go_wp2_with (first | ((with_reducible refine gate_callee (f := 31) rfl ?_); refine goesL_ (some 40) rfl rfl Try.func31 (by kernel_rfl) rfl #[.agg #[.int .i64 t962, .slice Ao15 t963.length co15, .slice Ao16 t966.length co16], .slice Ao20 t969.length co20, .int .i64 t972, .int .i64 t973, .int .i64 t974] rfl Z.ar ?_; (with_reducible refine (impl_MayChange.calls kj6 t962 _ _ t963 _ _ t966 _ _ t969 t972 t973 t974 false _ ?q1 ?q2 ?q3 ?q4 ?q5 ?q6 A27.out).mono ?_); (case q1 => exact (Kd.R_reads' HO_979001.out).2.2); (case q2 => exact (Kd.R_reads' HO_979001.out).2.1); (case q3 => exact (Kd.R_reads' HO_979002.out).2.2); (case q4 => exact (Kd.R_reads' HO_979002.out).2.1); (case q5 => exact (Kd.R_reads' HO_4.out).2.2); (case q6 => exact (Kd.R_reads' HO_4.out).2.1); rintro e w191 ⟨rfl, hb⟩; refine ⟨_, rfl, ?_⟩; replace HO_4 := Z.k (Kd.R_below HO_4.out hb); replace HO_979001 := Z.k (Kd.R_below HO_979001.out hb); replace HO_979002 := Z.k (Kd.R_below HO_979002.out hb); replace BK978 := Z.bb BK978 hb; replace BK979 := Z.bb BK979 hb; replace BK980 := Z.bb BK980 hb; replace HB := Z.k (below_step HB.out hb); (try clear hb); have hcz192 := Z.c3 BK978.out; have hcz193 := Z.c3 BK980.out) | ((with_reducible refine gate_callee (f := 31) rfl ?_); refine goesL_ (some 49) rfl rfl Try.func31 (by kernel_rfl) rfl #[.agg #[.int .i64 t962, .slice Ao15 t963.length co15, .slice Ao16 t966.length co16], .slice Ao20 t969.length co20, .int .i64 t975, .int .i64 t976, .int .i64 t977] rfl Z.ar ?_; (with_reducible refine (impl_MayChange.calls kj6 t962 _ _ t963 _ _ t966 _ _ t969 t975 t976 t977 t984 _ ?q1 ?q2 ?q3 ?q4 ?q5 ?q6 A28.out).mono ?_); (case q1 => exact (Kd.R_reads' HO_979001.out).2.2); (case q2 => exact (Kd.R_reads' HO_979001.out).2.1); (case q3 => exact (Kd.R_reads' HO_979002.out).2.2); (case q4 => exact (Kd.R_reads' HO_979002.out).2.1); (case q5 => exact (Kd.R_reads' HO_4.out).2.2); (case q6 => exact (Kd.R_reads' HO_4.out).2.1); rintro e w194 ⟨rfl, hb⟩; refine ⟨_, rfl, ?_⟩; replace HO_4 := Z.k (Kd.R_below HO_4.out hb); replace HO_979001 := Z.k (Kd.R_below HO_979001.out hb); replace HO_979002 := Z.k (Kd.R_below HO_979002.out hb); replace BK978 := Z.bb BK978 hb; replace BK979 := Z.bb BK979 hb; replace BK980 := Z.bb BK980 hb; replace HB := Z.k (below_step HB.out hb); (try clear hb); have hcz195 := Z.c3 BK978.out; have hcz196 := Z.c3 BK980.out; have hcz197 := Z.c3 BK979.out) | (go_at_call 36; (with_reducible refine (impl_EitherOrder.calls kj6 t962 _ _ t963 _ _ t966 _ _ t969 t975 t976 t977 t972 t973 t974 t993 _ ?q1 ?q2 ?q3 ?q4 ?q5 ?q6 A183.out).mono ?_); (case q1 => exact (Kd.R_reads' HO_979001.out).2.2); (case q2 => exact (Kd.R_reads' HO_979001.out).2.1); (case q3 => exact (Kd.R_reads' HO_979002.out).2.2); (case q4 => exact (Kd.R_reads' HO_979002.out).2.1); (case q5 => exact (Kd.R_reads' HO_4.out).2.2); (case q6 => exact (Kd.R_reads' HO_4.out).2.1); rintro e w198 ⟨rfl, hb⟩; replace HO_4 := Z.k (Kd.R_below HO_4.out hb); replace HO_979001 := Z.k (Kd.R_below HO_979001.out hb); replace HO_979002 := Z.k (Kd.R_below HO_979002.out hb); replace BK978 := Z.bb BK978 hb; replace BK979 := Z.bb BK979 hb; replace BK980 := Z.bb BK980 hb; replace HB := Z.k (below_step HB.out hb); (try clear hb)))
        go_ret
        exact ⟨by rfl, HB.out⟩
       ·replace c185 := Bool.eq_false_iff.mpr c185
        subst c185
        rw [if_neg (show ¬ (false = true) by decide)] at H
        replace H := Option.bind_eq_some_iff.mp H
        obtain ⟨t994, A1990, H⟩ := H
        have A199 := Z.k A1990
        clear A1990
        obtain rfl := Option.some.inj H
        have hnb200 := NB978_979.out
        have hnc200 := NB979_978.out
        have hnb201 := NB978_980.out
        have hnc201 := NB980_978.out
        have hcz202 := Z.c3 BK978.out
        have hnb203 := NB979_980.out
        have hnc203 := NB980_979.out
        have hcz204 := Z.c3 BK979.out
        go_wp2_with (first | ((with_reducible refine gate_callee (f := 31) rfl ?_); refine goesL_ (some 40) rfl rfl Try.func31 (by kernel_rfl) rfl #[.agg #[.int .i64 t962, .slice Ao15 t963.length co15, .slice Ao16 t966.length co16], .slice Ao20 t969.length co20, .int .i64 t972, .int .i64 t973, .int .i64 t974] rfl Z.ar ?_; (with_reducible refine (impl_MayChange.calls kj6 t962 _ _ t963 _ _ t966 _ _ t969 t972 t973 t974 false _ ?q1 ?q2 ?q3 ?q4 ?q5 ?q6 A27.out).mono ?_); (case q1 => exact (Kd.R_reads' HO_979001.out).2.2); (case q2 => exact (Kd.R_reads' HO_979001.out).2.1); (case q3 => exact (Kd.R_reads' HO_979002.out).2.2); (case q4 => exact (Kd.R_reads' HO_979002.out).2.1); (case q5 => exact (Kd.R_reads' HO_4.out).2.2); (case q6 => exact (Kd.R_reads' HO_4.out).2.1); rintro e w205 ⟨rfl, hb⟩; refine ⟨_, rfl, ?_⟩; replace HO_4 := Z.k (Kd.R_below HO_4.out hb); replace HO_979001 := Z.k (Kd.R_below HO_979001.out hb); replace HO_979002 := Z.k (Kd.R_below HO_979002.out hb); replace BK978 := Z.bb BK978 hb; replace BK979 := Z.bb BK979 hb; replace BK980 := Z.bb BK980 hb; replace HB := Z.k (below_step HB.out hb); (try clear hb); have hcz206 := Z.c3 BK978.out; have hcz207 := Z.c3 BK980.out) | ((with_reducible refine gate_callee (f := 31) rfl ?_); refine goesL_ (some 49) rfl rfl Try.func31 (by kernel_rfl) rfl #[.agg #[.int .i64 t962, .slice Ao15 t963.length co15, .slice Ao16 t966.length co16], .slice Ao20 t969.length co20, .int .i64 t975, .int .i64 t976, .int .i64 t977] rfl Z.ar ?_; (with_reducible refine (impl_MayChange.calls kj6 t962 _ _ t963 _ _ t966 _ _ t969 t975 t976 t977 t984 _ ?q1 ?q2 ?q3 ?q4 ?q5 ?q6 A28.out).mono ?_); (case q1 => exact (Kd.R_reads' HO_979001.out).2.2); (case q2 => exact (Kd.R_reads' HO_979001.out).2.1); (case q3 => exact (Kd.R_reads' HO_979002.out).2.2); (case q4 => exact (Kd.R_reads' HO_979002.out).2.1); (case q5 => exact (Kd.R_reads' HO_4.out).2.2); (case q6 => exact (Kd.R_reads' HO_4.out).2.1); rintro e w208 ⟨rfl, hb⟩; refine ⟨_, rfl, ?_⟩; replace HO_4 := Z.k (Kd.R_below HO_4.out hb); replace HO_979001 := Z.k (Kd.R_below HO_979001.out hb); replace HO_979002 := Z.k (Kd.R_below HO_979002.out hb); replace BK978 := Z.bb BK978 hb; replace BK979 := Z.bb BK979 hb; replace BK980 := Z.bb BK980 hb; replace HB := Z.k (below_step HB.out hb); (try clear hb); have hcz209 := Z.c3 BK978.out; have hcz210 := Z.c3 BK980.out; have hcz211 := Z.c3 BK979.out) | (go_at_call 36; (with_reducible refine (impl_EitherOrder.calls kj6 t962 _ _ t963 _ _ t966 _ _ t969 t975 t976 t977 t972 t973 t974 t993 _ ?q1 ?q2 ?q3 ?q4 ?q5 ?q6 A183.out).mono ?_); (case q1 => exact (Kd.R_reads' HO_979001.out).2.2); (case q2 => exact (Kd.R_reads' HO_979001.out).2.1); (case q3 => exact (Kd.R_reads' HO_979002.out).2.2); (case q4 => exact (Kd.R_reads' HO_979002.out).2.1); (case q5 => exact (Kd.R_reads' HO_4.out).2.2); (case q6 => exact (Kd.R_reads' HO_4.out).2.1); rintro e w212 ⟨rfl, hb⟩; replace HO_4 := Z.k (Kd.R_below HO_4.out hb); replace HO_979001 := Z.k (Kd.R_below HO_979001.out hb); replace HO_979002 := Z.k (Kd.R_below HO_979002.out hb); replace BK978 := Z.bb BK978 hb; replace BK979 := Z.bb BK979 hb; replace BK980 := Z.bb BK980 hb; replace HB := Z.k (below_step HB.out hb); (try clear hb)) | (go_at_call 15; (with_reducible refine (laws_alive.calls  t994 _ A199.out).mono ?_); rintro e w' ⟨rfl, ⟨nd, rfl⟩⟩))
        go_ret
        exact ⟨by rfl, by repeat ((with_reducible first | exact HB.out | apply pw_below_drewN))⟩
      ·rw [if_neg c184] at H
       have c184b0 : (t993 == t981) = false := by simpa using c184
       (try (have c184b1 : decide (t993 = t981) = false := by simpa using c184))
       (try (have c184b2 : (t993 == t981) = false := by simpa using c184))
       (try (have c184b3 : ¬ (t993 = t981) := by simpa using c184))
       clear c184
       obtain rfl := Option.some.inj H
       have hnb213 := NB978_979.out
       have hnc213 := NB979_978.out
       have hnb214 := NB978_980.out
       have hnc214 := NB980_978.out
       have hcz215 := Z.c3 BK978.out
       have hnb216 := NB979_980.out
       have hnc216 := NB980_979.out
       have hcz217 := Z.c3 BK979.out
       go_wp2_with (first | ((with_reducible refine gate_callee (f := 31) rfl ?_); refine goesL_ (some 40) rfl rfl Try.func31 (by kernel_rfl) rfl #[.agg #[.int .i64 t962, .slice Ao15 t963.length co15, .slice Ao16 t966.length co16], .slice Ao20 t969.length co20, .int .i64 t972, .int .i64 t973, .int .i64 t974] rfl Z.ar ?_; (with_reducible refine (impl_MayChange.calls kj6 t962 _ _ t963 _ _ t966 _ _ t969 t972 t973 t974 false _ ?q1 ?q2 ?q3 ?q4 ?q5 ?q6 A27.out).mono ?_); (case q1 => exact (Kd.R_reads' HO_979001.out).2.2); (case q2 => exact (Kd.R_reads' HO_979001.out).2.1); (case q3 => exact (Kd.R_reads' HO_979002.out).2.2); (case q4 => exact (Kd.R_reads' HO_979002.out).2.1); (case q5 => exact (Kd.R_reads' HO_4.out).2.2); (case q6 => exact (Kd.R_reads' HO_4.out).2.1); rintro e w218 ⟨rfl, hb⟩; refine ⟨_, rfl, ?_⟩; replace HO_4 := Z.k (Kd.R_below HO_4.out hb); replace HO_979001 := Z.k (Kd.R_below HO_979001.out hb); replace HO_979002 := Z.k (Kd.R_below HO_979002.out hb); replace BK978 := Z.bb BK978 hb; replace BK979 := Z.bb BK979 hb; replace BK980 := Z.bb BK980 hb; replace HB := Z.k (below_step HB.out hb); (try clear hb); have hcz219 := Z.c3 BK978.out; have hcz220 := Z.c3 BK980.out) | ((with_reducible refine gate_callee (f := 31) rfl ?_); refine goesL_ (some 49) rfl rfl Try.func31 (by kernel_rfl) rfl #[.agg #[.int .i64 t962, .slice Ao15 t963.length co15, .slice Ao16 t966.length co16], .slice Ao20 t969.length co20, .int .i64 t975, .int .i64 t976, .int .i64 t977] rfl Z.ar ?_; (with_reducible refine (impl_MayChange.calls kj6 t962 _ _ t963 _ _ t966 _ _ t969 t975 t976 t977 t984 _ ?q1 ?q2 ?q3 ?q4 ?q5 ?q6 A28.out).mono ?_); (case q1 => exact (Kd.R_reads' HO_979001.out).2.2); (case q2 => exact (Kd.R_reads' HO_979001.out).2.1); (case q3 => exact (Kd.R_reads' HO_979002.out).2.2); (case q4 => exact (Kd.R_reads' HO_979002.out).2.1); (case q5 => exact (Kd.R_reads' HO_4.out).2.2); (case q6 => exact (Kd.R_reads' HO_4.out).2.1); rintro e w221 ⟨rfl, hb⟩; refine ⟨_, rfl, ?_⟩; replace HO_4 := Z.k (Kd.R_below HO_4.out hb); replace HO_979001 := Z.k (Kd.R_below HO_979001.out hb); replace HO_979002 := Z.k (Kd.R_below HO_979002.out hb); replace BK978 := Z.bb BK978 hb; replace BK979 := Z.bb BK979 hb; replace BK980 := Z.bb BK980 hb; replace HB := Z.k (below_step HB.out hb); (try clear hb); have hcz222 := Z.c3 BK978.out; have hcz223 := Z.c3 BK980.out; have hcz224 := Z.c3 BK979.out) | (go_at_call 36; (with_reducible refine (impl_EitherOrder.calls kj6 t962 _ _ t963 _ _ t966 _ _ t969 t975 t976 t977 t972 t973 t974 t993 _ ?q1 ?q2 ?q3 ?q4 ?q5 ?q6 A183.out).mono ?_); (case q1 => exact (Kd.R_reads' HO_979001.out).2.2); (case q2 => exact (Kd.R_reads' HO_979001.out).2.1); (case q3 => exact (Kd.R_reads' HO_979002.out).2.2); (case q4 => exact (Kd.R_reads' HO_979002.out).2.1); (case q5 => exact (Kd.R_reads' HO_4.out).2.2); (case q6 => exact (Kd.R_reads' HO_4.out).2.1); rintro e w225 ⟨rfl, hb⟩; replace HO_4 := Z.k (Kd.R_below HO_4.out hb); replace HO_979001 := Z.k (Kd.R_below HO_979001.out hb); replace HO_979002 := Z.k (Kd.R_below HO_979002.out hb); replace BK978 := Z.bb BK978 hb; replace BK979 := Z.bb BK979 hb; replace BK980 := Z.bb BK980 hb; replace HB := Z.k (below_step HB.out hb); (try clear hb)))
       go_ret
       exact ⟨by rfl, HB.out⟩

/-- THE ONE PURE STATEMENT of laws_FnEitherOrder: yours. -/
def laws_FnEitherOrder.Pure : Prop := ∀ (l0 : List Int), l0.length ≤ maxLen → l0.length * 1 ≤ 140737488351232 → (∀ x ∈ l0, (Lit.int .u8 x).wf = true) → ∃ k, laws_FnEitherOrder.f k l0 = some true
theorem laws_FnEitherOrder.walk (P : laws_FnEitherOrder.Pure) (a0 : Option Addr) (len0 cap0 : Nat) (z0 : List Int) (w : World) (w0 : (a0 = none ∧ len0 = 0 ∧ cap0 = 0 ∧ z0 = []) ∨ ∃ x, a0 = some x ∧ len0 ≤ cap0 ∧ cap0 ≤ maxLen ∧ z0.length = cap0 ∧ (∀ i, i < z0.length → w.cell? (x.add i) = some (.int .u8 (z0.getD i 0))) ∧ ∀ n ∈ z0, (Lit.int .u8 n).wf = true) (y0 : len0 * 1 ≤ 140737488351232) :
  Calls Try.prog 9 #[.slice a0 len0 cap0] w fun e w' => e = .returned (.bool true) ∧ Below w.heap.size w w' := by
 obtain ⟨l0, rfl, hr0, hm0, hw0, hc0⟩ := ReadsInt.ofRowC w0
 obtain ⟨k, h⟩ := P l0 hm0 y0 hw0
 refine (laws_FnEitherOrder.calls k _ _ l0 true w (Kd.C_of_reads (d := (0 : Int)) (h1 := fun _ => rfl) hr0) hc0 h).mono ?_
 rintro e w' ⟨rfl, hd⟩
 exact ⟨rfl, hd⟩

end Go.Proofs.Ytojoblllgddckaa.PAll
