-- by gprint.py (this session's program over the kit's print.py) (a twelfth state) out of the translation. Not trusted: Lean checks it.
import Derived.Test.YtfncjddolbghlaaGreatDoorGFnMorex0
import Derived.Test.YtfncjddolbghlaaGreatDoorGFnMorex2
import Derived.Test.YtfncjddolbghlaaGreatDoorGFnMorex6
namespace Go.Proofs.YtfncjddolbghlaaGreatDoor.GFnMore
open Go.RowKit Go.Proofs.YtfncjddolbghlaaGreatDoorW.PrintWords Go.Proofs.YtfncjddolbghlaaGreatDoorW.PrintLast Go.Proofs.YtfncjddolbghlaaGreatDoorW.PrintMore
attribute [local go_sem] max2_int min2_int max_two min_two max_three min_three max_four min_four   -- for this text's walks alone
set_option linter.unusedVariables false
set_option linter.unusedSimpArgs false
set_option maxRecDepth 100000
set_option maxHeartbeats 8000000

def spec_DrawGetReq.f (k : Nat) (l0 : List Int) : Option (List Int) := (spec_l1New.f k l0).bind fun bt327 => ((spec_l3Bytes.f k bt327.1 bt327.2.1 bt327.2.2).bind fun bt331 => ((spec_l1Once.f bt327.1 bt331.2.1 bt331.2.2 3).bind fun bt336 => (if bt336.1 = true then ((spec_l3Bytes.f k bt327.1 bt336.2.1 bt336.2.2).bind fun bt339 => (if bt331.1.length + bt339.1.length < 140737488355328 then (some (bt331.1 ++ bt339.1)) else (none))) else (some bt331.1))))

theorem spec_DrawGetReq.calls (k : Nat) (A0 : Option Addr) (c0 : Nat) (l0 : List Int) (r : List Int) (w : World) (hr0 : Kd.C (Kd.int .u8) w A0 l0.length l0) (hc0 : l0.length ≤ c0) (h : spec_DrawGetReq.f k l0 = some r) :
  Calls Tryz.prog 51 #[.slice A0 l0.length c0] w fun e w' => ∃ v0_ : Value, e = .returned (v0_) ∧ Kd.R (Kd.int .u8) 5 w' w.heap.size (fun _ => True) v0_ r ∧ Below w.heap.size w w' := by
 have HR0 := Aside0.mk hr0
 have HC0 := Aside0.mk hc0
 clear hr0 hc0
 have HB := Aside0.mk (Below.refl w.heap.size w)
 have H : ((spec_l1New.f k l0).bind fun bt327 => ((spec_l3Bytes.f k bt327.1 bt327.2.1 bt327.2.2).bind fun bt331 => ((spec_l1Once.f bt327.1 bt331.2.1 bt331.2.2 3).bind fun bt336 => (if bt336.1 = true then ((spec_l3Bytes.f k bt327.1 bt336.2.1 bt336.2.2).bind fun bt339 => (if bt331.1.length + bt339.1.length < 140737488355328 then (some (bt331.1 ++ bt339.1)) else (none))) else (some bt331.1))))) = some r := h
 clear h
 replace H := Option.bind_eq_some_iff.mp H
 obtain ⟨⟨t327, t328, t329⟩, A20, H⟩ := H
 replace H : ((spec_l3Bytes.f k t327 t328 t329).bind fun bt331 => ((spec_l1Once.f t327 bt331.2.1 bt331.2.2 3).bind fun bt336 => (if bt336.1 = true then ((spec_l3Bytes.f k t327 bt336.2.1 bt336.2.2).bind fun bt339 => (if bt331.1.length + bt339.1.length < 140737488355328 then (some (bt331.1 ++ bt339.1)) else (none))) else (some bt331.1)))) = some r := H
 have A2 := Aside0.mk A20
 clear A20
 replace H := Option.bind_eq_some_iff.mp H
 obtain ⟨⟨t331, t334, t335⟩, A30, H⟩ := H
 replace H : ((spec_l1Once.f t327 t334 t335 3).bind fun bt336 => (if bt336.1 = true then ((spec_l3Bytes.f k t327 bt336.2.1 bt336.2.2).bind fun bt339 => (if t331.length + bt339.1.length < 140737488355328 then (some (t331 ++ bt339.1)) else (none))) else (some t331))) = some r := H
 have A3 := Aside0.mk A30
 clear A30
 replace H := Option.bind_eq_some_iff.mp H
 obtain ⟨⟨t336, t337, t338⟩, A40, H⟩ := H
 replace H : (if t336 = true then ((spec_l3Bytes.f k t327 t337 t338).bind fun bt339 => (if t331.length + bt339.1.length < 140737488355328 then (some (t331 ++ bt339.1)) else (none))) else (some t331)) = some r := H
 have A4 := Aside0.mk A40
 clear A40
 by_cases c5 : t336 = true
 ·subst c5
  rw [if_pos rfl] at H
  replace H := Option.bind_eq_some_iff.mp H
  obtain ⟨⟨t339, t342, t343⟩, A60, H⟩ := H
  replace H : (if t331.length + t339.length < 140737488355328 then (some (t331 ++ t339)) else (none)) = some r := H
  have A6 := Aside0.mk A60
  clear A60
  by_cases c7 : t331.length + t339.length < 140737488355328
  ·rw [if_pos c7] at H
   have LMc7 := Aside0.mk c7
   clear c7
   obtain ⟨y344, hy344⟩ : ∃ y_ : List Int, y_ = (t331 ++ t339) := ⟨_, rfl⟩
   replace H : (some y344) = some r := by first | (rw [hy344]; with_reducible exact H) | (have H2_ := (Option.bind_some _ _).symm.trans H; rw [hy344]; with_reducible exact H2_) | (have H2_ := (Option.bind_some _ _).symm.trans H; with_reducible exact H2_) | with_reducible exact H | (rw [hy344]; exact H) | exact H
   have Ny344 := Aside0.mk hy344
   clear hy344
   obtain rfl := Option.some.inj H
   go_enter Tryz.func51, Tryz.ntmps51
   go_wp2_with (first | ((with_reducible refine gate_callee (f := 84) rfl ?_); refine goesL_ (some 6) rfl rfl Tryz.func84 (by kernel_rfl) rfl #[.slice A0 l0.length c0] rfl q2_ ?_; (with_reducible refine (spec_l1New.calls k _ _ l0 t327 t328 t329 w _ ?side1 ?side2 ?side3 A2.1).mono ?_); (case side1 => exact q1_); (case side2 => exact HR0.1); (case side3 => exact q121_); rintro e w8 ⟨g330, rfl, hi, hb, hb2⟩; refine ⟨_, rfl, ?_⟩; have n0_ := Aside0.mk (hb); have n1_ := Aside0.mk (hi); clear HB; have HB := n0_; have HI330 := n1_; clear n0_ n1_; (try clear hb); (try clear hb2); (try clear hk); (try clear hi)) | ((with_reducible refine gate_callee (f := 107) rfl ?_); refine goesL_ (some 8) rfl rfl Tryz.func107 (by kernel_rfl) rfl #[.pointer (some ⟨g330, 0, none⟩)] rfl q2_ ?_; (with_reducible refine (spec_l3Bytes.calls k g330 t327 t328 t329 t331 t334 t335 w _ ?side1 ?side2 A3.1).mono ?_); (case side1 => exact q68_); (case side2 => exact q36_); rintro e w9 ⟨v332, rfl, ho0, hi, hb, hk⟩; refine ⟨_, rfl, ?_⟩; have n0_ := Aside0.mk (Kd.R_lower ho0 (below_size q36_)); have n1_ := Aside0.mk (hb); have n2_ := Aside0.mk (hi); clear HB HI330; have HO333 := n0_; have HB := n1_; have HI330 := n2_; clear n0_ n1_ n2_; (try clear hb); (try clear hb2); (try clear hk); (try clear hi); (try clear ho0)) | ((with_reducible refine gate_callee (f := 92) rfl ?_); refine goesL_ (some 10) rfl rfl Tryz.func92 (by kernel_rfl) rfl #[.pointer (some ⟨g330, 0, none⟩), .int .i64 3] rfl q2_ ?_; (with_reducible refine (spec_l1Once.calls g330 t327 t334 t335 3 true t337 t338 w _ ?side1 ?side2 A4.1).mono ?_); (case side1 => exact q68_); (case side2 => exact q36_); rintro e w10 ⟨rfl, hi, hb, hk⟩; refine ⟨_, rfl, ?_⟩; have n0_ := Aside0.mk (Kd.R_mono (Kd.R_keep (IsS143.apart (show IsS143 w _ g330 t327 t334 t335 from by repeat (first | (with_reducible first | exact HI330.1 | apply IsS143.alloc | apply IsS143.drewN | apply IsS143.drew | apply IsS143.set_1 | apply IsS143.set_2) | exact HI330.1)) q91_ (by decide)) hk (fun _ h => h.2)) (fun _ h => h.1)); have n1_ := Aside0.mk (hb); have n2_ := Aside0.mk (hi); clear HO333 HB HI330; have HO333 := n0_; have HB := n1_; have HI330 := n2_; clear n0_ n1_ n2_; (try clear hb); (try clear hb2); (try clear hk); (try clear hi)) | ((with_reducible refine gate_callee (f := 107) rfl ?_); refine goesL_ (some 13) rfl rfl Tryz.func107 (by kernel_rfl) rfl #[.pointer (some ⟨g330, 0, none⟩)] rfl q2_ ?_; (with_reducible refine (spec_l3Bytes.calls k g330 t327 t337 t338 t339 t342 t343 w _ ?side1 ?side2 A6.1).mono ?_); (case side1 => exact q68_); (case side2 => exact q36_); rintro e w11 ⟨v340, rfl, ho0, hi, hb, hk⟩; refine ⟨_, rfl, ?_⟩; have n0_ := Aside0.mk (Kd.R_mono (Kd.R_told (Kd.R_oldK (IsS143.apart (show IsS143 w _ g330 t327 t337 t338 from by repeat (first | (with_reducible first | exact HI330.1 | apply IsS143.alloc | apply IsS143.drewN | apply IsS143.drew | apply IsS143.set_1 | apply IsS143.set_2) | exact HI330.1)) q91_ (by decide)) hk) (Kd.R_base ho0)) (fun _ h_ => h_.1)); have n1_ := Aside0.mk (Kd.R_lower (Kd.R_new' ho0 (Kd.R_lt q91_)) (below_size q36_)); have n2_ := Aside0.mk (hb); have n3_ := Aside0.mk (hi); clear HO333 HB HI330; have HO333 := n0_; have HO341 := n1_; have HB := n2_; have HI330 := n3_; clear n0_ n1_ n2_ n3_; (try clear hb); (try clear hb2); (try clear hk); (try clear hi); (try clear ho0); obtain ⟨Ao13, co13, eo13⟩ := Kd.R_slice HO341.1; subst eo13) | ((with_reducible refine gate_builtin (b := .append) (xs := #[.tmp 11, .tmp 13]) rfl ?_); at_builtin; refine Kd.R_append_rows (Kd.int .u8) (w0 := w) w.heap.size rfl (.tmp 11) (.tmp 13) 22 5 (.int .u8 0) 1 rfl Tryz.underlying22 info5 rfl (by decide) (by omega) v332 t331 t339 _ _ _ (fun k_ => some k_ ≠ (.slice Ao13 t339.length co13 : Value).ownBlock) (fun _ => False) rfl rfl ?aO ?aR (fun _ _ h => h) (fun _ h => h.elim) ?aF ?aB ?aS ?aL ?_; (case aR => repeat (first | exact (Kd.R_reads' HO341.1).2.2 | (with_reducible refine Kd.C_alloc ?_ _) | (with_reducible refine Kd.C_drewN ?_ _) | (with_reducible refine Kd.C_drew ?_))); (case aB => exact q36_); (case aF => exact (fun k_ hk => Kd.fresh' (Kd.R_lt (by (with_reducible repeat (first | apply rA_ | apply rN_ | apply rD_)); exact HO341.1)) k_ hk)); (case aO => exact (by (with_reducible repeat (first | apply rA_ | apply rN_ | apply rD_)); exact Kd.R_mono HO333.1 (fun _ hk => hk.2))); (case aS => exact (below_size q36_)); (case aL => have := LMc7.1; omega); intro v345 w12 ho hb hg hat; rw [← Ny344.1] at ho; have n0_ := Aside0.mk (IsS143.grown (show IsS143 w _ g330 t327 t342 t343 from by repeat (first | (with_reducible first | exact HI330.1 | apply IsS143.alloc | apply IsS143.drewN | apply IsS143.drew | apply IsS143.set_1 | apply IsS143.set_2) | exact HI330.1)) hg (IsS143.own_ne HI330.1 HO333.1 (by decide))); have n1_ := Aside0.mk (Kd.R_after (ok := (fun _ => True)) (by (with_reducible repeat (first | apply rA_ | apply rN_ | apply rD_)); exact HO341.1) hg hat); have n2_ := Aside0.mk (hb); have n3_ := Aside0.mk (ho); clear HI330 HO341; clear HB HO333; have HI330 := n0_; have HO341 := n1_; have HB := n2_; have HO346 := n3_; clear n0_ n1_ n2_ n3_; clear ho hb hg hat))
   go_ret
   exact ⟨_, q10_, by (with_reducible repeat (first | apply rA_ | apply rN_ | apply rD_)); exact Kd.R_mono HO346.1 (fun _ hk => trivial), q36_⟩
  ·rw [if_neg c7] at H
   exact absurd H (by simp)
 ·replace c5 := Bool.eq_false_iff.mpr c5
  subst c5
  rw [if_neg (show ¬ (false = true) by decide)] at H
  obtain rfl := Option.some.inj H
  go_enter Tryz.func51, Tryz.ntmps51
  go_wp2_with (first | ((with_reducible refine gate_callee (f := 84) rfl ?_); refine goesL_ (some 6) rfl rfl Tryz.func84 (by kernel_rfl) rfl #[.slice A0 l0.length c0] rfl q2_ ?_; (with_reducible refine (spec_l1New.calls k _ _ l0 t327 t328 t329 w _ ?side1 ?side2 ?side3 A2.1).mono ?_); (case side1 => exact q1_); (case side2 => exact HR0.1); (case side3 => exact q121_); rintro e w14 ⟨g330, rfl, hi, hb, hb2⟩; refine ⟨_, rfl, ?_⟩; have n0_ := Aside0.mk (hb); have n1_ := Aside0.mk (hi); clear HB; have HB := n0_; have HI330 := n1_; clear n0_ n1_; (try clear hb); (try clear hb2); (try clear hk); (try clear hi)) | ((with_reducible refine gate_callee (f := 107) rfl ?_); refine goesL_ (some 8) rfl rfl Tryz.func107 (by kernel_rfl) rfl #[.pointer (some ⟨g330, 0, none⟩)] rfl q2_ ?_; (with_reducible refine (spec_l3Bytes.calls k g330 t327 t328 t329 t331 t334 t335 w _ ?side1 ?side2 A3.1).mono ?_); (case side1 => exact q68_); (case side2 => exact q36_); rintro e w15 ⟨v332, rfl, ho0, hi, hb, hk⟩; refine ⟨_, rfl, ?_⟩; have n0_ := Aside0.mk (Kd.R_lower ho0 (below_size q36_)); have n1_ := Aside0.mk (hb); have n2_ := Aside0.mk (hi); clear HB HI330; have HO333 := n0_; have HB := n1_; have HI330 := n2_; clear n0_ n1_ n2_; (try clear hb); (try clear hb2); (try clear hk); (try clear hi); (try clear ho0)) | ((with_reducible refine gate_callee (f := 92) rfl ?_); refine goesL_ (some 10) rfl rfl Tryz.func92 (by kernel_rfl) rfl #[.pointer (some ⟨g330, 0, none⟩), .int .i64 3] rfl q2_ ?_; (with_reducible refine (spec_l1Once.calls g330 t327 t334 t335 3 false t337 t338 w _ ?side1 ?side2 A4.1).mono ?_); (case side1 => exact q68_); (case side2 => exact q36_); rintro e w16 ⟨rfl, hi, hb, hk⟩; refine ⟨_, rfl, ?_⟩; have n0_ := Aside0.mk (Kd.R_mono (Kd.R_keep (IsS143.apart (show IsS143 w _ g330 t327 t334 t335 from by repeat (first | (with_reducible first | exact HI330.1 | apply IsS143.alloc | apply IsS143.drewN | apply IsS143.drew | apply IsS143.set_1 | apply IsS143.set_2) | exact HI330.1)) q91_ (by decide)) hk (fun _ h => h.2)) (fun _ h => h.1)); have n1_ := Aside0.mk (hb); have n2_ := Aside0.mk (hi); clear HO333 HB HI330; have HO333 := n0_; have HB := n1_; have HI330 := n2_; clear n0_ n1_ n2_; (try clear hb); (try clear hb2); (try clear hk); (try clear hi)))
  go_ret
  exact ⟨_, q10_, q91_, q36_⟩


def strings_Index.f (a0 : ByteArray) (a1 : ByteArray) : Option Int := if a0.size < 4294967281 then some (Lib.index a0.data.toList a1.data.toList) else none
theorem strings_Index.calls (a0 : ByteArray) (a1 : ByteArray) (r : Int) (w : World) (h : strings_Index.f a0 a1 = some r) (hG : GOK w) :
  Calls Tryz.prog 109 #[.string a0, .string a1] w fun e w' => e = .returned (.int .i64 r) ∧ Drawn0 w w' := by
 unfold strings_Index.f at h
 split at h
 ·rename_i hs
  obtain rfl := Option.some.inj h
  obtain ⟨m, hm⟩ := hG.maxlen
  exact (Go.Proofs.YtfncjddolbghlaaGreatDoor.Shelf.Tryz.strings_Index a0 a1 m w hs hm).mono fun e w' ⟨he, hw⟩ => ⟨he, by subst hw; exact Drawn0.refl _⟩
 ·cases h

def impl_HeadEnd.f (l0 : List Int) : Option (Int) := if 0 ≤ (mn (l0.length : Int) 400) then (if (mn (l0.length : Int) 400) ≤ (l0.length : Int) then ((strings_Index.f (strOfNums (l0.take ((mn (l0.length : Int) 400) : Int).toNat)) (⟨#[13, 10, 13, 10]⟩ : ByteArray)).bind fun t348 => (if t348 < 0 then (some (-1)) else (some (wrap64 (t348 + 4))))) else (none)) else (none)
theorem impl_HeadEnd.calls (A0 : Option Addr) (c0 : Nat) (l0 : List Int) (r : Int) (w : World) (hr0 : Kd.C (Kd.int .u8) w A0 l0.length l0) (hc0 : l0.length ≤ c0) (h : impl_HeadEnd.f l0 = some r) (hG : GOK w) :
  Calls Tryz.prog 54 #[.slice A0 l0.length c0] w fun e w' => e = .returned (.int .i64 r) ∧ Below w.heap.size w w' := by
 have HR0 := Aside0.mk hr0
 have HC0 := Aside0.mk hc0
 clear hr0 hc0
 have HB := Aside0.mk (Below.refl w.heap.size w)
 have H : (if 0 ≤ (mn (l0.length : Int) 400) then (if (mn (l0.length : Int) 400) ≤ (l0.length : Int) then ((strings_Index.f (strOfNums (l0.take ((mn (l0.length : Int) 400) : Int).toNat)) (⟨#[13, 10, 13, 10]⟩ : ByteArray)).bind fun t348 => (if t348 < 0 then (some (-1)) else (some (wrap64 (t348 + 4))))) else (none)) else (none)) = some r := h
 clear h
 obtain ⟨ji2, hji2⟩ : ∃ j_ : Int, (mn (l0.length : Int) 400) = j_ := ⟨_, rfl⟩
 replace H : (if 0 ≤ (ji2) then (if (ji2) ≤ (l0.length : Int) then ((strings_Index.f (strOfNums (l0.take ((ji2) : Int).toNat)) (⟨#[13, 10, 13, 10]⟩ : ByteArray)).bind fun t348 => (if t348 < 0 then (some (-1)) else (some (wrap64 (t348 + 4))))) else (none)) else (none)) = some r := by first | (rw [hji2] at H; exact H) | (simp only [hji2] at H ⊢; exact H)
 (try (have hji2h : ji2 ≤ 400 := by (rw [← hji2]; unfold mn; (repeat' split) <;> omega)))
 (try (have hji2g : ji2 ≤ 64 := by omega))
 (try (have hji2l : 0 ≤ ji2 := by (rw [← hji2]; unfold mn; (repeat' split) <;> omega)))
 (try (have hji2m : 0 ≤ ji2 := by omega))
 have hji2_ : (if 400 < (l0.length : Int) then 400 else (l0.length : Int)) = ji2 := hji2
 by_cases c3 : 0 ≤ (ji2)
 ·rw [if_pos c3] at H
  have c3b0 := eq_true c3
  have c3b1 : decide (0 ≤ (ji2)) = true := decide_eq_true c3
  clear c3
  by_cases c4 : (ji2) ≤ (l0.length : Int)
  ·rw [if_pos c4] at H
   have c4b0 := eq_true c4
   have c4b1 : decide ((ji2) ≤ (l0.length : Int)) = true := decide_eq_true c4
   clear c4
   replace H := Option.bind_eq_some_iff.mp H
   obtain ⟨t348, A50, H⟩ := H
   replace H : (if t348 < 0 then (some (-1)) else (some (wrap64 (t348 + 4)))) = some r := H
   have A5 := Aside0.mk A50
   clear A50
   by_cases c6 : t348 < 0
   ·rw [if_pos c6] at H
    have c6b0 : decide (t348 < 0) = true := decide_eq_true c6
    clear c6
    obtain rfl := Option.some.inj H
    obtain ⟨i07, hi07, _, hsz7, _⟩ := info_parts info5
    obtain ⟨hcut7, hA7, hC7⟩ := print_take_of (P := Tryz.prog) (Value.int .u8) 0 22 5 .i64 Tryz.underlying22 hi07 hsz7 A0 c0 l0 (ji2) (of_decide_eq_true q4_) (of_decide_eq_true q4_) HC0.1
    have HR347 := Aside0.mk (Kd.C_of_reads (h1 := fun _ => rfl) (hA7 _ (Kd.reads_of_C HR0.1)))
    have HC347 := Aside0.mk hC7
    clear hA7 hC7 hi07 hsz7
    have hq_ := HR347.1
    rw [show (l0.take ((ji2) : Int).toNat).length = (ji2).toNat from (by rw [List.length_take]; have h_ : ((ji2) : Int) ≤ (l0.length : Int) := of_decide_eq_true q4_; omega)] at hq_
    have hcv8 := Kd.C_string (P := Tryz.prog) (A := A0) (c := c0) Tryz.underlying22 Tryz.underlying5 Tryz.underlying9 hq_
    have hcv9 := fun nq_ : Nat => Kd.C_string (P := Tryz.prog) (A := A0) (c := c0) Tryz.underlying22 Tryz.underlying5 Tryz.underlying9 (Kd.C_drewN hq_ nq_)
    clear hq_
    go_enter Tryz.func54, Tryz.ntmps54
    go_wp2_with (first | ((with_reducible refine gate_callee (f := 109) rfl ?_); refine goesL_ (some 10) rfl rfl Tryz.func109 (by kernel_rfl) rfl #[.string (strOfNums (l0.take ((ji2) : Int).toNat)), .string (⟨#[13, 10, 13, 10]⟩ : ByteArray)] rfl q95_ ?_; (with_reducible refine (strings_Index.calls (strOfNums (l0.take ((ji2) : Int).toNat)) (⟨#[13, 10, 13, 10]⟩ : ByteArray) t348 _ A5.1 ?side99).mono ?_); (case side99 => exact q20_); rintro e w' ⟨rfl, ⟨nd, rfl⟩⟩; refine ⟨_, rfl, ?_⟩))
    go_ret
    exact ⟨q94_, q1_⟩
   ·rw [if_neg c6] at H
    have c6b0 : decide (t348 < 0) = false := decide_eq_false c6
    clear c6
    obtain rfl := Option.some.inj H
    obtain ⟨i010, hi010, _, hsz10, _⟩ := info_parts info5
    obtain ⟨hcut10, hA10, hC10⟩ := print_take_of (P := Tryz.prog) (Value.int .u8) 0 22 5 .i64 Tryz.underlying22 hi010 hsz10 A0 c0 l0 (ji2) (of_decide_eq_true q4_) (of_decide_eq_true q4_) HC0.1
    have HR347 := Aside0.mk (Kd.C_of_reads (h1 := fun _ => rfl) (hA10 _ (Kd.reads_of_C HR0.1)))
    have HC347 := Aside0.mk hC10
    clear hA10 hC10 hi010 hsz10
    have hq_ := HR347.1
    rw [show (l0.take ((ji2) : Int).toNat).length = (ji2).toNat from (by rw [List.length_take]; have h_ : ((ji2) : Int) ≤ (l0.length : Int) := of_decide_eq_true q4_; omega)] at hq_
    have hcv11 := Kd.C_string (P := Tryz.prog) (A := A0) (c := c0) Tryz.underlying22 Tryz.underlying5 Tryz.underlying9 hq_
    have hcv12 := fun nq_ : Nat => Kd.C_string (P := Tryz.prog) (A := A0) (c := c0) Tryz.underlying22 Tryz.underlying5 Tryz.underlying9 (Kd.C_drewN hq_ nq_)
    clear hq_
    go_enter Tryz.func54, Tryz.ntmps54
    go_wp2_with (first | ((with_reducible refine gate_callee (f := 109) rfl ?_); refine goesL_ (some 10) rfl rfl Tryz.func109 (by kernel_rfl) rfl #[.string (strOfNums (l0.take ((ji2) : Int).toNat)), .string (⟨#[13, 10, 13, 10]⟩ : ByteArray)] rfl q95_ ?_; (with_reducible refine (strings_Index.calls (strOfNums (l0.take ((ji2) : Int).toNat)) (⟨#[13, 10, 13, 10]⟩ : ByteArray) t348 _ A5.1 ?side99).mono ?_); (case side99 => exact q20_); rintro e w' ⟨rfl, ⟨nd, rfl⟩⟩; refine ⟨_, rfl, ?_⟩))
    go_ret
    exact ⟨q94_, q1_⟩
  ·rw [if_neg c4] at H
   exact absurd H (by simp)
 ·rw [if_neg c3] at H
  exact absurd H (by simp)

def impl_in.f (a0 : Int) (a1 : Int) (a2 : Int) : Option (Bool) := if a0 ≥ a1 then (some (decide (a0 ≤ a2))) else (some false)
theorem impl_in.calls (a0 : Int) (a1 : Int) (a2 : Int) (r : Bool) (w : World) (h : impl_in.f a0 a1 a2 = some r) :
  Calls Tryz.prog 95 #[.int .i64 a0, .int .i64 a1, .int .i64 a2] w fun e w' => e = .returned (.bool r) ∧ Drawn0 w w' := by
 have H : (if a0 ≥ a1 then (some (decide (a0 ≤ a2))) else (some false)) = some r := h
 clear h
 by_cases c4 : a0 ≥ a1
 ·rw [if_pos c4] at H
  have c4b0 : decide (a1 ≤ a0) = true := decide_eq_true c4
  clear c4
  obtain rfl := Option.some.inj H
  go_enter Tryz.func95, Tryz.ntmps95
  go_wp2
  go_ret
  exact ⟨q3_, q13_⟩
 ·rw [if_neg c4] at H
  have c4b0 : decide (a1 ≤ a0) = false := decide_eq_false c4
  clear c4
  obtain rfl := Option.some.inj H
  go_enter Tryz.func95, Tryz.ntmps95
  go_wp2
  go_ret
  exact ⟨q3_, q13_⟩


def strings_Cut.f (a0 : ByteArray) (a1 : ByteArray) : Option (ByteArray × ByteArray × Bool) := if a0.size < 4294967281 then some (⟨(Lib.cut a0.data.toList a1.data.toList).1.toArray⟩, ⟨(Lib.cut a0.data.toList a1.data.toList).2.1.toArray⟩, (Lib.cut a0.data.toList a1.data.toList).2.2) else none
theorem strings_Cut.calls (a0 : ByteArray) (a1 : ByteArray) (r1 : ByteArray) (r2 : ByteArray) (r3 : Bool) (w : World) (h : strings_Cut.f a0 a1 = some (r1, r2, r3)) (hG : GOK w) :
  Calls Tryz.prog 76 #[.string a0, .string a1] w fun e w' => e = .returned (.tuple #[.string r1, .string r2, .bool r3]) ∧ Drawn0 w w' := by
 unfold strings_Cut.f at h
 split at h
 ·rename_i hs
  simp only [Option.some.injEq, Prod.mk.injEq] at h
  obtain ⟨rfl, rfl, rfl⟩ := h
  obtain ⟨m, hm⟩ := hG.maxlen
  exact (Go.Proofs.YtfncjddolbghlaaGreatDoor.Shelf.Tryz.strings_Cut a0 a1 m w hs hm).mono fun e w' ⟨he, hw⟩ => ⟨he, ⟨hw⟩⟩
 ·cases h

/-- A state of type 127 at block g of W; what its slices lead to came in by w0. -/
def IsS127 (w0 W : World) (g : Nat) (f0 : ByteArray) (f1 : Int) : Prop := W.heap[g]? = some (.cells #[.string f0, .int .i64 f1] 127 (0, 0)) ∧ w0.heap.size ≤ g
theorem IsS127.grown {w0 W : World} {g : Nat} {f0 : ByteArray} {f1 : Int} {W1 : World} {row : Option Nat} (h : IsS127 w0 W g f0 f1) (hw : W.grownBy W1 row) (hne : some g ≠ row) : IsS127 w0 W1 g f0 f1 := by
 obtain ⟨hb, hg⟩ := h
 exact ⟨blk_grown hb hw hne, hg⟩
theorem IsS127.own_neN {w0 W : World} {g : Nat} {f0 : ByteArray} {f1 : Int} {α : Type} {d : Kd α} {e : Nat} {base : Nat} {ok : Nat → Prop} {v : Value} {xs : List α} (h : IsS127 w0 W g f0 f1) (ho : Kd.N d e W base ok v xs) (ht : e ≠ 127) : some g ≠ v.ownBlock := by
 obtain ⟨hb, hg⟩ := h
 exact Kd.N_ne ho hb ht
theorem IsS127.fresh {w0 W : World} {g : Nat} {f0 : ByteArray} {f1 : Int} (h : IsS127 w0 W g f0 f1) : ∀ k, W.heap.size ≤ k → k ≠ g := by
 obtain ⟨hb, hg⟩ := h
 exact Kd.freshB hb
theorem IsS127.kept {w0 W : World} {g : Nat} {f0 : ByteArray} {f1 : Int} {W1 : World} {S : Nat → Prop} (h : IsS127 w0 W g f0 f1) (hk : Kept W W1 S) (hne : ¬ S g) : IsS127 w0 W1 g f0 f1 := by
 obtain ⟨hb, hg⟩ := h
 exact ⟨blk_kept hb hk hne, hg⟩
theorem IsS127.below {w0 W : World} {g : Nat} {f0 : ByteArray} {f1 : Int} {W1 : World} (h : IsS127 w0 W g f0 f1) (hw : Below W.heap.size W W1) : IsS127 w0 W1 g f0 f1 := h.grown (grown_of_below hw none) (by simp)
theorem IsS127.alloc {w0 W : World} {g : Nat} {f0 : ByteArray} {f1 : Int} (h : IsS127 w0 W g f0 f1) (o : Obj) : IsS127 w0 (W.alloc o) g f0 f1 := h.below (aB_ (Below.refl _ _) o)
theorem IsS127.drewN {w0 W : World} {g : Nat} {f0 : ByteArray} {f1 : Int} (h : IsS127 w0 W g f0 f1) (m : Nat) : IsS127 w0 (W.drewN m) g f0 f1 := h
theorem IsS127.drew {w0 W : World} {g : Nat} {f0 : ByteArray} {f1 : Int} (h : IsS127 w0 W g f0 f1) : IsS127 w0 W.drew g f0 f1 := h
theorem IsS127.at_ {w0 W : World} {g : Nat} {f0 : ByteArray} {f1 : Int} {w' : World} {m : Nat} (hq : W.drewN m = w') (h : IsS127 w0 W g f0 f1) : IsS127 w0 w' g f0 f1 := by subst hq; exact IsS127.drewN h m
theorem IsS127.apart {w0 W : World} {g : Nat} {f0 : ByteArray} {f1 : Int} {α : Type} {d : Kd α} {e : Nat} {base : Nat} {ok : Nat → Prop} {v : Value} {xs : List α} (h : IsS127 w0 W g f0 f1) (ho : d.R e W base ok v xs) (ht : ∀ q, q ∈ e :: d.E → q ≠ 127) : d.R e W base (fun k => ok k ∧ k ≠ g) v xs := by
 obtain ⟨hb, hg⟩ := h
 exact Kd.R_types ho hb ht
theorem IsS127.own_ne {w0 W : World} {g : Nat} {f0 : ByteArray} {f1 : Int} {α : Type} {d : Kd α} {e : Nat} {base : Nat} {ok : Nat → Prop} {v : Value} {xs : List α} (h : IsS127 w0 W g f0 f1) (ho : d.R e W base ok v xs) (ht : e ≠ 127) : some g ≠ v.ownBlock := by
 obtain ⟨hb, hg⟩ := h
 exact Kd.R_ne ho hb ht
theorem IsS127.apartQ {w0 W : World} {g : Nat} {f0 : ByteArray} {f1 : Int} {α : Type} {d : Kd α} {e : Nat} {base : Nat} {ok : Nat → Prop} {v : Value} {xs : List α} (h : IsS127 w0 W g f0 f1) (ho : d.Q e W base ok v xs) (ht : ∀ q, q ∈ e :: d.E → q ≠ 127) : d.Q e W base (fun k => ok k ∧ k ≠ g) v xs := by
 obtain ⟨hb, hg⟩ := h
 exact Kd.Q_types ho hb ht
theorem IsS127.own_neQ {w0 W : World} {g : Nat} {f0 : ByteArray} {f1 : Int} {α : Type} {d : Kd α} {e : Nat} {base : Nat} {ok : Nat → Prop} {v : Value} {xs : List α} (h : IsS127 w0 W g f0 f1) (ho : d.Q e W base ok v xs) (ht : e ≠ 127) : some g ≠ v.ownBlock := by
 obtain ⟨hb, hg⟩ := h
 exact Kd.Q_ne ho hb ht
theorem IsS127.apartS {w0 W : World} {g : Nat} {f0 : ByteArray} {f1 : Int} {α : Type} {d : Kd α} {e : Nat} {base : Nat} {ok : Nat → Prop} {v : Value} {xs : List α} (h : IsS127 w0 W g f0 f1) (ho : d.S e W base ok v xs) (ht : ∀ q, q ∈ e :: d.E → q ≠ 127) : d.S e W base (fun k => ok k ∧ k ≠ g) v xs := by
 obtain ⟨hb, hg⟩ := h
 exact Kd.S_types ho hb ht
theorem IsS127.own_neS {w0 W : World} {g : Nat} {f0 : ByteArray} {f1 : Int} {α : Type} {d : Kd α} {e : Nat} {base : Nat} {ok : Nat → Prop} {v : Value} {xs : List α} (h : IsS127 w0 W g f0 f1) (ho : d.S e W base ok v xs) (ht : e ≠ 127) : some g ≠ v.ownBlock := by
 obtain ⟨hb, hg⟩ := h
 exact Kd.S_ne ho hb ht
theorem IsS127.lt {w0 W : World} {g : Nat} {f0 : ByteArray} {f1 : Int} (h : IsS127 w0 W g f0 f1) : g < W.heap.size := by
 obtain ⟨hb, hg⟩ := h
 exact blk_lt hb
theorem IsS127.ge {w0 W : World} {g : Nat} {f0 : ByteArray} {f1 : Int} (h : IsS127 w0 W g f0 f1) : w0.heap.size ≤ g := by
 obtain ⟨hb, hg⟩ := h
 exact hg
theorem IsS127.ne_blk {w0 W : World} {g : Nat} {f0 : ByteArray} {f1 : Int} {a : Nat} {cs : Array Value} {t : TypeId} {fr : Nat × Nat} (h : IsS127 w0 W g f0 f1) (hb2 : W.heap[a]? = some (.cells cs t fr)) (ht : t ≠ 127) : g ≠ a := by
 obtain ⟨hb, hg⟩ := h
 rintro rfl
 rw [hb] at hb2
 injection hb2 with hb2
 injection hb2 with _ ht2
 exact ht ht2.symm
theorem IsS127.far {w0 W : World} {g : Nat} {f0 : ByteArray} {f1 : Int} {p : Addr} (h : IsS127 w0 W g f0 f1) (hne : g ≠ p.block) (u : Value) : IsS127 w0 (W.setCell p u) g f0 f1 := by
 obtain ⟨hb, hg⟩ := h
 exact ⟨blk_far hb hne u, hg⟩
theorem cellS127_0 {W : World} {g : Nat} {f0 : ByteArray} {f1 : Int} (h : W.heap[g]? = some (.cells #[.string f0, .int .i64 f1] 127 (0, 0))) : W.cell? ⟨g, 0, none⟩ = some (.string f0) := (bc_ h 0).trans rfl
theorem IsS127.set_0 {w0 W : World} {g : Nat} {f0 : ByteArray} {f1 : Int} (h : IsS127 w0 W g f0 f1) (x : ByteArray) : IsS127 w0 (W.setCell ⟨g, 0, none⟩ (.string x)) g x f1 := by
 obtain ⟨hb, hg⟩ := h
 exact ⟨by simpa using blk_set hb 0 (.string x), hg⟩
theorem cellS127_1 {W : World} {g : Nat} {f0 : ByteArray} {f1 : Int} (h : W.heap[g]? = some (.cells #[.string f0, .int .i64 f1] 127 (0, 0))) : W.cell? ⟨g, 1, none⟩ = some (.int .i64 f1) := (bc_ h 1).trans rfl
theorem IsS127.set_1 {w0 W : World} {g : Nat} {f0 : ByteArray} {f1 : Int} (h : IsS127 w0 W g f0 f1) (x : Int) : IsS127 w0 (W.setCell ⟨g, 1, none⟩ (.int .i64 x)) g f0 x := by
 obtain ⟨hb, hg⟩ := h
 exact ⟨by simpa using blk_set hb 1 (.int .i64 x), hg⟩
theorem IsS127.new (w0 W : World) (f0 : ByteArray) (f1 : Int) (hB : Below w0.heap.size w0 W) : IsS127 w0 (W.alloc (.cells #[.string f0, .int .i64 f1] 127)) W.heap.size f0 f1 := ⟨by simpa using heap_alloc_new W _, hB.size⟩

mutual
def impl_chunks_end.l0 : Nat → Int → ByteArray → Int → Option (ByteArray × Int)
 | 0, _, _, _ => none
 | k + 1, x2, x1000, x1001 => if x2 < 2 then (impl_chunks_end.j1 k x2 (x1001 == 0) x1000 x1001) else (impl_chunks_end.j1 k x2 false x1000 x1001)
def impl_chunks_end.j1 : Nat → Int → Bool → ByteArray → Int → Option (ByteArray × Int)
 | 0, _, _, _, _ => none
 | k + 1, x2, x11, x1000, x1001 => if x11 = true then (if x1000.toList = ([] : List UInt8) then (impl_chunks_end.l0 k (wrap64 (x2 + 1)) x1000 1) else (if 0 < (x1000.size : Int) then (if 0 ≤ x2 then (if x2 < 2 then (if (bt x1000 0) = (bt (⟨#[13, 10]⟩ : ByteArray) x2) then (if 1 ≤ (x1000.size : Int) then (impl_chunks_end.l0 k (wrap64 (x2 + 1)) (x1000.extract 1 x1000.size) x1001) else (none)) else (impl_chunks_end.l0 k (wrap64 (x2 + 1)) x1000 400)) else (none)) else (none)) else (none))) else (some (x1000, x1001))
end
def impl_chunks_end.f (k : Nat) (s0_0 : ByteArray) (s0_1 : Int) : Option (ByteArray × Int) := impl_chunks_end.l0 k 0 s0_0 s0_1

theorem impl_chunks_end.calls (k : Nat) (g : Nat) (s0_0 : ByteArray) (s0_1 : Int) (r1 : ByteArray) (r2 : Int) (w0 w : World) (hI : IsS127 w0 w g s0_0 s0_1) (hB : Below w0.heap.size w0 w) (h : impl_chunks_end.f k s0_0 s0_1 = some (r1, r2)) :
  Calls Tryz.prog 121 #[.pointer (some ⟨g, 0, none⟩)] w fun e w' => e = .returned (.tuple #[]) ∧ IsS127 w0 w' g r1 r2 ∧ Below w0.heap.size w0 w' ∧ KeepBut w w' g none := by
 have HI0 := Aside0.mk hI
 have HK := Aside0.mk (KeepBut.refl w g none)
 have HL := Aside0.mk hB.size
 clear hI
 have HW0 := Aside0.mk hB.size
 have HB := Aside0.mk hB
 clear hB
 have H : (impl_chunks_end.l0 k 0 s0_0 s0_1) = some (r1, r2) := h
 clear h
 have H' := Aside0.mk H
 clear H
 go_enter Tryz.func121, Tryz.ntmps121
 go_wp2
 repeat (go_quiet (fail); try go_wp2)
 go_loopg [2] k (fun kq v2 w' => ∃ (x2_1 : Int) (x1000_1 : ByteArray) (x1001_1 : Int), v2 = .int .i64 x2_1 ∧ Aside0 (impl_chunks_end.l0 kq x2_1 x1000_1 x1001_1 = some (r1, r2)) ∧ Aside0 (kq ≤ k) ∧ Aside0 (IsS127 w0 w' g x1000_1 x1001_1) ∧ Aside0 (KeepBut w w' g none) ∧ Aside0 (Below w0.heap.size w0 w'))
 case atStart => exact ⟨(0), (s0_0), (s0_1), q3_, H', ⟨Nat.le_refl _⟩, ⟨q29_⟩, ⟨q6_⟩, ⟨q31_⟩⟩
 case round =>
  clear H'
  try clear c1
  obtain ⟨x2_1, x1000_1, x1001_1, rfl, HA, HK1, HI0, HK, HB⟩ := hrel
  cases gk with
  | zero => exact absurd HA.1 (by simp [impl_chunks_end.l0])
  | succ k1 =>
   have H := HA.1
   clear HA
   simp only [impl_chunks_end.l0] at H
   have HC2 := Aside0.mk H
   clear H
   go_upto_region 1 with (fail)
   repeat (go_quiet (fail); go_upto_region 1 with (fail))
   go_cut [11] (fun v11 wc => ∃ (kq : Nat) (x11_1 : Bool), v11 = .bool x11_1 ∧ Aside0 (impl_chunks_end.j1 kq x2_1 x11_1 x1000_1 x1001_1 = some (r1, r2)) ∧ Aside0 (kq ≤ k1) ∧ Aside0 (IsS127 w0 wc g x1000_1 x1001_1) ∧ Aside0 (KeepBut w wc g none) ∧ Aside0 (Below w0.heap.size w0 wc))
   case first =>
    have H := HC2.1
    clear HC2
    by_cases c3 : x2_1 < 2
    ·rw [if_pos c3] at H
     have c3b0 : decide (x2_1 < 2) = true := decide_eq_true c3
     clear c3
     (first | rw [c3b0] | (simp only [i64_w, i32_w]; rw [c3b0]) | skip)
     have H' := Aside0.mk H
     clear H
     obtain ⟨HGz4, hgz4⟩ := HI0.1
     have hcz4_0 := cellS127_0 HGz4
     have hcz4_1 := cellS127_1 HGz4
     have hfz4_0 := bF_ HGz4 0
     have hfz4_1 := bF_ HGz4 1
     clear HGz4 hgz4
     go_wp2
     repeat (go_quiet (fail); try go_wp2)
     go_meet
     case rel => exact ⟨_, ((x1001_1 == 0)), q3_, H', ⟨q84_⟩, ⟨q29_⟩, ⟨q6_⟩, ⟨q31_⟩⟩
    ·rw [if_neg c3] at H
     have c3b0 : decide (x2_1 < 2) = false := decide_eq_false c3
     clear c3
     (first | rw [c3b0] | (simp only [i64_w, i32_w]; rw [c3b0]) | skip)
     have H' := Aside0.mk H
     clear H
     go_wp2
     repeat (go_quiet (fail); try go_wp2)
     go_meet
     case rel => exact ⟨_, (false), q3_, H', ⟨q84_⟩, ⟨q29_⟩, ⟨q6_⟩, ⟨q31_⟩⟩
   case rest =>
    clear HC2
    try clear c1
    try clear p2
    try clear c3
    try clear c3b0
    try clear hcz4_0
    try clear hcz4_1
    try clear hfz4_0
    try clear hfz4_1
    obtain ⟨kq, x11_1, rfl, HA, HJ1, HI0, HK, HB⟩ := hcut
    cases kq with
    | zero => exact absurd HA.1 (by simp [impl_chunks_end.j1])
    | succ kj1 =>
     have H := HA.1
     clear HA
     simp only [impl_chunks_end.j1] at H
     by_cases c5 : x11_1 = true
     ·subst c5
      rw [if_pos rfl] at H
      by_cases c6 : x1000_1.toList = ([] : List UInt8)
      ·rw [if_pos c6] at H
       have c6b0 : (x1000_1.toList == ([] : List UInt8)) = true := beq_iff_eq.mpr c6
       have c6b1 : (x1000_1.toList != ([] : List UInt8)) = false := bne_eq_false_iff_eq.mpr c6
       clear c6
       have H' := Aside0.mk H
       clear H
       obtain ⟨HGz7, hgz7⟩ := HI0.1
       have hcz7_0 := cellS127_0 HGz7
       have hcz7_1 := cellS127_1 HGz7
       have hfz7_0 := bF_ HGz7 0
       have hfz7_1 := bF_ HGz7 1
       clear HGz7 hgz7
       go_wp2
       repeat (go_quiet (fail); try go_wp2)
       go_roundg kj1
       case measure => have := HK1.1; have := HJ1.1; omega
       case rel => exact ⟨(wrap64 (x2_1 + 1)), (x1000_1), (1), q3_, H', ⟨q128_⟩, ⟨q29_⟩, ⟨q6_⟩, ⟨q31_⟩⟩
      ·rw [if_neg c6] at H
       have c6b0 : (x1000_1.toList == ([] : List UInt8)) = false := beq_eq_false_iff_ne.mpr c6
       have c6b1 : (x1000_1.toList != ([] : List UInt8)) = true := bne_iff_ne.mpr c6
       by_cases c8 : 0 < (x1000_1.size : Int)
       ·rw [if_pos c8] at H
        have c8b0 : decide (0 < (x1000_1.size : Int)) = true := decide_eq_true c8
        have c8b1 : decide (0 < x1000_1.size) = true := decide_eq_true (by omega)
        clear c8
        by_cases c10 : 0 ≤ x2_1
        ·rw [if_pos c10] at H
         have c10b0 : decide (0 ≤ x2_1) = true := decide_eq_true c10
         clear c10
         by_cases c11 : x2_1 < 2
         ·rw [if_pos c11] at H
          have c11b0 : decide (x2_1 < 2) = true := decide_eq_true c11
          clear c11
          by_cases c13 : (bt x1000_1 0) = (bt (⟨#[13, 10]⟩ : ByteArray) x2_1)
          ·rw [if_pos c13] at H
           have c13b0 : ((bt x1000_1 0) == (bt (⟨#[13, 10]⟩ : ByteArray) x2_1)) = true := beq_iff_eq.mpr c13
           have c13b1 : ((bt x1000_1 0) != (bt (⟨#[13, 10]⟩ : ByteArray) x2_1)) = false := bne_eq_false_iff_eq.mpr c13
           clear c13
           by_cases c14 : 1 ≤ (x1000_1.size : Int)
           ·rw [if_pos c14] at H
            have c14b0 := eq_true c14
            have c14b1 : decide (1 ≤ (x1000_1.size : Int)) = true := decide_eq_true c14
            clear c14
            have H' := Aside0.mk H
            clear H
            obtain ⟨HGz15, hgz15⟩ := HI0.1
            have hcz15_0 := cellS127_0 HGz15
            have hcz15_1 := cellS127_1 HGz15
            have hfz15_0 := bF_ HGz15 0
            have hfz15_1 := bF_ HGz15 1
            clear HGz15 hgz15
            have p9 : 0 ≤ (0 : Int) := (by omega)
            have q9 : 0 < x1000_1.size := (by have : (0 : Int) < (x1000_1.size : Int) := of_decide_eq_true q4_; omega)
            have hx9 : ∀ h : 0 < x1000_1.size, ((x1000_1[0]'h).toNat : Int) = bt x1000_1 0 := bt_at x1000_1 0
            clear p9
            have qi9 : (0 < (x1000_1.size : Int)) = True := eq_true (of_decide_eq_true q4_)
            replace q9 := eq_true q9
            have p12 : 0 ≤ (x2_1 : Int) := of_decide_eq_true q4_
            have q12 : x2_1 < (2 : Int) := of_decide_eq_true q4_
            have hx12 := bt_at (⟨#[13, 10]⟩ : ByteArray) x2_1
            replace p12 := eq_true p12
            replace q12 := eq_true q12
            go_wp2
            repeat (go_quiet (fail); try go_wp2)
            go_roundg kj1
            case measure => have := HK1.1; have := HJ1.1; omega
            case rel => exact ⟨(wrap64 (x2_1 + 1)), (x1000_1.extract 1 x1000_1.size), (x1001_1), q3_, H', ⟨q128_⟩, ⟨q29_⟩, ⟨q6_⟩, ⟨q31_⟩⟩
           ·rw [if_neg c14] at H
            exact absurd H (by simp)
          ·rw [if_neg c13] at H
           have c13b0 : ((bt x1000_1 0) == (bt (⟨#[13, 10]⟩ : ByteArray) x2_1)) = false := beq_eq_false_iff_ne.mpr c13
           have c13b1 : ((bt x1000_1 0) != (bt (⟨#[13, 10]⟩ : ByteArray) x2_1)) = true := bne_iff_ne.mpr c13
           have H' := Aside0.mk H
           clear H
           obtain ⟨HGz16, hgz16⟩ := HI0.1
           have hcz16_0 := cellS127_0 HGz16
           have hcz16_1 := cellS127_1 HGz16
           have hfz16_0 := bF_ HGz16 0
           have hfz16_1 := bF_ HGz16 1
           clear HGz16 hgz16
           have p9 : 0 ≤ (0 : Int) := (by omega)
           have q9 : 0 < x1000_1.size := (by have : (0 : Int) < (x1000_1.size : Int) := of_decide_eq_true q4_; omega)
           have hx9 : ∀ h : 0 < x1000_1.size, ((x1000_1[0]'h).toNat : Int) = bt x1000_1 0 := bt_at x1000_1 0
           clear p9
           have qi9 : (0 < (x1000_1.size : Int)) = True := eq_true (of_decide_eq_true q4_)
           replace q9 := eq_true q9
           have p12 : 0 ≤ (x2_1 : Int) := of_decide_eq_true q4_
           have q12 : x2_1 < (2 : Int) := of_decide_eq_true q4_
           have hx12 := bt_at (⟨#[13, 10]⟩ : ByteArray) x2_1
           replace p12 := eq_true p12
           replace q12 := eq_true q12
           go_wp2
           repeat (go_quiet (fail); try go_wp2)
           go_roundg kj1
           case measure => have := HK1.1; have := HJ1.1; omega
           case rel => exact ⟨(wrap64 (x2_1 + 1)), (x1000_1), (400), q3_, H', ⟨q128_⟩, ⟨q29_⟩, ⟨q6_⟩, ⟨q31_⟩⟩
         ·rw [if_neg c11] at H
          exact absurd H (by simp)
        ·rw [if_neg c10] at H
         exact absurd H (by simp)
       ·rw [if_neg c8] at H
        exact absurd H (by simp)
     ·replace c5 := Bool.eq_false_iff.mpr c5
      subst c5
      rw [if_neg (show ¬ (false = true) by decide)] at H
      simp only [Option.some.injEq, Prod.mk.injEq] at H
      obtain ⟨rfl, rfl⟩ := H
      go_wp2
      repeat (go_quiet (fail); try go_wp2)
      first | go_end0 | ((try simp only [Exit.inBlock, Exit.then]); refine bodyPost_ret (results_none rfl _ _ _) rfl ?_)
      exact ⟨q10_, q29_, q31_, q6_⟩

def impl_isDigit.f (a0 : Int) : Option (Bool) := if a0 ≥ 48 then (some (decide (a0 ≤ 57))) else (some false)
theorem impl_isDigit.calls (a0 : Int) (r : Bool) (w : World) (h : impl_isDigit.f a0 = some r) :
  Calls Tryz.prog 163 #[.int .u8 a0] w fun e w' => e = .returned (.bool r) ∧ Drawn0 w w' := by
 have H : (if a0 ≥ 48 then (some (decide (a0 ≤ 57))) else (some false)) = some r := h
 clear h
 by_cases c2 : a0 ≥ 48
 ·rw [if_pos c2] at H
  have c2b0 : decide (48 ≤ a0) = true := decide_eq_true c2
  clear c2
  obtain rfl := Option.some.inj H
  go_enter Tryz.func163, Tryz.ntmps163
  go_wp2
  go_ret
  exact ⟨q3_, q13_⟩
 ·rw [if_neg c2] at H
  have c2b0 : decide (48 ≤ a0) = false := decide_eq_false c2
  clear c2
  obtain rfl := Option.some.inj H
  go_enter Tryz.func163, Tryz.ntmps163
  go_wp2
  go_ret
  exact ⟨q3_, q13_⟩

def impl_digitOf.j0 : Nat → Int → Bool → Option (Int)
 | 0, _, _ => none
 | k + 1, x0, x9 => if x9 = true then (some (((x0 - 97) % 256) + 10)) else (if x0 ≥ 65 then (if x0 ≤ 70 then (some (((x0 - 65) % 256) + 10)) else (some (-1))) else (some (-1)))
def impl_digitOf.f (k : Nat) (a0 : Int) : Option (Int) := (impl_isDigit.f a0).bind fun t349 => (if t349 = true then (some ((a0 - 48) % 256)) else (if a0 ≥ 97 then (impl_digitOf.j0 k a0 (decide (a0 ≤ 102))) else (impl_digitOf.j0 k a0 false)))

theorem impl_digitOf.calls (k : Nat) (a0 : Int) (r : Int) (w : World) (h : impl_digitOf.f k a0 = some r) :
  Calls Tryz.prog 177 #[.int .u8 a0] w fun e w' => e = .returned (.int .i64 r) ∧ Drawn0 w w' := by
 have H : ((impl_isDigit.f a0).bind fun t349 => (if t349 = true then (some ((a0 - 48) % 256)) else (if a0 ≥ 97 then (impl_digitOf.j0 k a0 (decide (a0 ≤ 102))) else (impl_digitOf.j0 k a0 false)))) = some r := h
 clear h
 replace H := Option.bind_eq_some_iff.mp H
 obtain ⟨t349, A20, H⟩ := H
 replace H : (if t349 = true then (some ((a0 - 48) % 256)) else (if a0 ≥ 97 then (impl_digitOf.j0 k a0 (decide (a0 ≤ 102))) else (impl_digitOf.j0 k a0 false))) = some r := H
 have A2 := Aside0.mk A20
 clear A20
 by_cases c3 : t349 = true
 ·subst c3
  rw [if_pos rfl] at H
  obtain rfl := Option.some.inj H
  go_enter Tryz.func177, Tryz.ntmps177
  go_wp2_with (first | ((with_reducible refine gate_callee (f := 163) rfl ?_); refine goesL_ (some 5) rfl rfl Tryz.func163 (by kernel_rfl) rfl #[.int .u8 a0] rfl q2_ ?_; (with_reducible refine (impl_isDigit.calls a0 true _ A2.1).mono ?_); rintro e w' ⟨rfl, ⟨nd, rfl⟩⟩; refine ⟨_, rfl, ?_⟩))
  go_ret
  exact ⟨q3_, q13_⟩
 ·replace c3 := Bool.eq_false_iff.mpr c3
  subst c3
  rw [if_neg (show ¬ (false = true) by decide)] at H
  have HC4 := Aside0.mk H
  clear H
  go_enter Tryz.func177, Tryz.ntmps177
  go_upto_region 3 with (first | ((with_reducible refine gate_callee (f := 163) rfl ?_); refine goesL_ (some 5) rfl rfl Tryz.func163 (by kernel_rfl) rfl #[.int .u8 a0] rfl q2_ ?_; (with_reducible refine (impl_isDigit.calls a0 false _ A2.1).mono ?_); rintro e w' ⟨rfl, ⟨nd, rfl⟩⟩; refine ⟨_, rfl, ?_⟩))
  (try simp only [Act.put, List.setIfInBounds_toArray, List.set_cons_zero, List.set_cons_succ])
  go_cut [9] (fun v9 wc => ∃ (kq : Nat) (x9_3 : Bool), v9 = .bool x9_3 ∧ Aside0 (impl_digitOf.j0 kq a0 x9_3 = some r) ∧ Aside0 (kq ≤ k) ∧ Drawn0 w wc)
  case first =>
   have H := HC4.1
   clear HC4
   by_cases c5 : a0 ≥ 97
   ·rw [if_pos c5] at H
    have c5b0 : decide (97 ≤ a0) = true := decide_eq_true c5
    clear c5
    (first | rw [c5b0] | (simp only [i64_w, i32_w]; rw [c5b0]) | skip)
    have H' := Aside0.mk H
    clear H
    go_wp2
    go_meet
    case rel => exact ⟨_, (decide (a0 ≤ 102)), q3_, H', ⟨q73_⟩, q13_⟩
   ·rw [if_neg c5] at H
    have c5b0 : decide (97 ≤ a0) = false := decide_eq_false c5
    clear c5
    (first | rw [c5b0] | (simp only [i64_w, i32_w]; rw [c5b0]) | skip)
    have H' := Aside0.mk H
    clear H
    go_wp2
    go_meet
    case rel => exact ⟨_, (false), q3_, H', ⟨q73_⟩, q13_⟩
  case rest =>
   clear HC4
   try clear c1
   try clear p2
   try clear c3
   try clear c5
   try clear c5b0
   obtain ⟨kq, x9_3, rfl, HA, HJ3, ⟨mc3, rfl⟩⟩ := hcut
   cases kq with
   | zero => exact absurd HA.1 (by simp [impl_digitOf.j0])
   | succ kj3 =>
    have H := HA.1
    clear HA
    simp only [impl_digitOf.j0] at H
    by_cases c6 : x9_3 = true
    ·subst c6
     rw [if_pos rfl] at H
     obtain rfl := Option.some.inj H
     go_wp2
     go_ret
     exact ⟨q3_, q13_⟩
    ·replace c6 := Bool.eq_false_iff.mpr c6
     subst c6
     rw [if_neg (show ¬ (false = true) by decide)] at H
     by_cases c7 : a0 ≥ 65
     ·rw [if_pos c7] at H
      have c7b0 : decide (65 ≤ a0) = true := decide_eq_true c7
      clear c7
      by_cases c8 : a0 ≤ 70
      ·rw [if_pos c8] at H
       have c8b0 : decide (a0 ≤ 70) = true := decide_eq_true c8
       clear c8
       obtain rfl := Option.some.inj H
       go_wp2
       go_ret
       exact ⟨q3_, q13_⟩
      ·rw [if_neg c8] at H
       have c8b0 : decide (a0 ≤ 70) = false := decide_eq_false c8
       clear c8
       obtain rfl := Option.some.inj H
       go_wp2
       go_ret
       exact ⟨q3_, q13_⟩
     ·rw [if_neg c7] at H
      have c7b0 : decide (65 ≤ a0) = false := decide_eq_false c7
      clear c7
      obtain rfl := Option.some.inj H
      go_wp2
      go_ret
      exact ⟨q3_, q13_⟩

def impl_ParseHex.l0 : Nat → ByteArray → Int → Int → Option (Int × Bool)
 | 0, _, _, _ => none
 | k + 1, x0, x4, x5 => if x5 < (x0.size : Int) then (if 0 ≤ x5 then ((impl_digitOf.f k (bt x0 x5)).bind fun t350 => (if t350 < 0 then (some (0, false)) else (if x5 ≥ 4 then (some (0, false)) else (impl_ParseHex.l0 k x0 (wrap64 ((wrap64 (16 * x4)) + t350)) (wrap64 (x5 + 1)))))) else (none)) else (some (x4, (x0.toList != ([] : List UInt8))))
def impl_ParseHex.f (k : Nat) (a0 : ByteArray) : Option (Int × Bool) := impl_ParseHex.l0 k a0 0 0

theorem impl_ParseHex.calls (k : Nat) (a0 : ByteArray) (r1 : Int) (r2 : Bool) (w : World) (h : impl_ParseHex.f k a0 = some (r1, r2)) :
  Calls Tryz.prog 149 #[.string a0] w fun e w' => e = .returned (.tuple #[.int .i64 r1, .bool r2]) ∧ Drawn0 w w' := by
 have H : (impl_ParseHex.l0 k a0 0 0) = some (r1, r2) := h
 clear h
 have H' := Aside0.mk H
 clear H
 go_enter Tryz.func149, Tryz.ntmps149
 go_wp2
 go_loopg [4, 5] k (fun kq v4 v5 w' => ∃ (x4_1 : Int) (x5_1 : Int), v4 = .int .i64 x4_1 ∧ v5 = .int .i64 x5_1 ∧ Aside0 (impl_ParseHex.l0 kq a0 x4_1 x5_1 = some (r1, r2)) ∧ Aside0 (kq ≤ k) ∧ Drawn0 w w')
 case atStart => exact ⟨(0), (0), q3_, q3_, H', ⟨Nat.le_refl _⟩, q13_⟩
 case round =>
  clear H'
  try clear c1
  obtain ⟨x4_1, x5_1, rfl, rfl, HA, HK1, ⟨m1, rfl⟩⟩ := hrel
  cases gk with
  | zero => exact absurd HA.1 (by simp [impl_ParseHex.l0])
  | succ k1 =>
   have H := HA.1
   clear HA
   simp only [impl_ParseHex.l0] at H
   by_cases c2 : x5_1 < (a0.size : Int)
   ·rw [if_pos c2] at H
    have c2b0 : decide (x5_1 < (a0.size : Int)) = true := decide_eq_true c2
    clear c2
    by_cases c3 : 0 ≤ x5_1
    ·rw [if_pos c3] at H
     have c3b0 : decide (0 ≤ x5_1) = true := decide_eq_true c3
     clear c3
     replace H := Option.bind_eq_some_iff.mp H
     obtain ⟨t350, A50, H⟩ := H
     replace H : (if t350 < 0 then (some (0, false)) else (if x5_1 ≥ 4 then (some (0, false)) else (impl_ParseHex.l0 k1 a0 (wrap64 ((wrap64 (16 * x4_1)) + t350)) (wrap64 (x5_1 + 1))))) = some (r1, r2) := H
     have A5 := Aside0.mk A50
     clear A50
     by_cases c6 : t350 < 0
     ·rw [if_pos c6] at H
      have c6b0 : decide (t350 < 0) = true := decide_eq_true c6
      clear c6
      simp only [Option.some.injEq, Prod.mk.injEq] at H
      obtain ⟨rfl, rfl⟩ := H
      have p4 : 0 ≤ (x5_1 : Int) := of_decide_eq_true q4_
      have q4 : x5_1 < (a0.size : Int) := of_decide_eq_true q4_
      have hx4 := bt_at a0 x5_1
      replace p4 := eq_true p4
      replace q4 := eq_true q4
      go_wp2_with (first | ((with_reducible refine gate_callee (f := 177) rfl ?_); refine goesL_ (some 16) rfl rfl Tryz.func177 (by kernel_rfl) rfl #[.int .u8 (bt a0 x5_1)] rfl q2_ ?_; (with_reducible refine (impl_digitOf.calls k1 (bt a0 x5_1) t350 _ A5.1).mono ?_); rintro e w' ⟨rfl, ⟨nd, rfl⟩⟩; refine ⟨_, rfl, ?_⟩))
      go_ret2
      exact ⟨q3_, q13_⟩
     ·rw [if_neg c6] at H
      have c6b0 : decide (t350 < 0) = false := decide_eq_false c6
      clear c6
      by_cases c7 : x5_1 ≥ 4
      ·rw [if_pos c7] at H
       have c7b0 : decide (4 ≤ x5_1) = true := decide_eq_true c7
       clear c7
       simp only [Option.some.injEq, Prod.mk.injEq] at H
       obtain ⟨rfl, rfl⟩ := H
       have p4 : 0 ≤ (x5_1 : Int) := of_decide_eq_true q4_
       have q4 : x5_1 < (a0.size : Int) := of_decide_eq_true q4_
       have hx4 := bt_at a0 x5_1
       replace p4 := eq_true p4
       replace q4 := eq_true q4
       go_wp2_with (first | ((with_reducible refine gate_callee (f := 177) rfl ?_); refine goesL_ (some 16) rfl rfl Tryz.func177 (by kernel_rfl) rfl #[.int .u8 (bt a0 x5_1)] rfl q2_ ?_; (with_reducible refine (impl_digitOf.calls k1 (bt a0 x5_1) t350 _ A5.1).mono ?_); rintro e w' ⟨rfl, ⟨nd, rfl⟩⟩; refine ⟨_, rfl, ?_⟩))
       go_ret2
       exact ⟨q3_, q13_⟩
      ·rw [if_neg c7] at H
       have c7b0 : decide (4 ≤ x5_1) = false := decide_eq_false c7
       clear c7
       have H' := Aside0.mk H
       clear H
       have p4 : 0 ≤ (x5_1 : Int) := of_decide_eq_true q4_
       have q4 : x5_1 < (a0.size : Int) := of_decide_eq_true q4_
       have hx4 := bt_at a0 x5_1
       replace p4 := eq_true p4
       replace q4 := eq_true q4
       go_wp2_with (first | ((with_reducible refine gate_callee (f := 177) rfl ?_); refine goesL_ (some 16) rfl rfl Tryz.func177 (by kernel_rfl) rfl #[.int .u8 (bt a0 x5_1)] rfl q2_ ?_; (with_reducible refine (impl_digitOf.calls k1 (bt a0 x5_1) t350 _ A5.1).mono ?_); rintro e w' ⟨rfl, ⟨nd, rfl⟩⟩; refine ⟨_, rfl, ?_⟩))
       go_roundg k1
       case measure => have := HK1.1; omega
       case rel => exact ⟨(wrap64 ((wrap64 (16 * x4_1)) + t350)), (wrap64 (x5_1 + 1)), q3_, q3_, H', ⟨q85_⟩, q13_⟩
    ·rw [if_neg c3] at H
     exact absurd H (by simp)
   ·rw [if_neg c2] at H
    have c2b0 : decide (x5_1 < (a0.size : Int)) = false := decide_eq_false c2
    clear c2
    simp only [Option.some.injEq, Prod.mk.injEq] at H
    obtain ⟨rfl, rfl⟩ := H
    go_wp2
    go_ret2
    exact ⟨q3_, q13_⟩

def impl_chunks_size.j0 : Nat → ByteArray → Bool → Int → Bool → Bool → ByteArray → Int → Option (Int × ByteArray × Int)
 | 0, _, _, _, _, _, _, _ => none
 | k + 1, x3, x5, x6, x7, x34, x1000, x1001 => if x34 = true then (some (x6, x1000, 1)) else (if x7 = true then (if x5 = true then (if 0 ≤ (x3.size : Int) then (if (x3.size : Int) ≤ (x1000.size : Int) then ((impl_chunks_end.f k (x1000.extract x3.size x1000.size) x1001).bind fun bt356 => (some (x6, bt356.1, bt356.2))) else (none)) else (none)) else (some (x6, x1000, 1))) else (some (x6, x1000, 400)))
def impl_chunks_size.f (k : Nat) (s0_0 : ByteArray) (s0_1 : Int) : Option (Int × ByteArray × Int) := (strings_Cut.f s0_0 (⟨#[13]⟩ : ByteArray)).bind fun bt351 => ((impl_ParseHex.f k bt351.1).bind fun bt354 => (if bt351.2.2 = true then (impl_chunks_size.j0 k bt351.1 bt351.2.2 bt354.1 bt354.2 false s0_0 s0_1) else (impl_chunks_size.j0 k bt351.1 bt351.2.2 bt354.1 bt354.2 (bt351.1.toList == ([] : List UInt8)) s0_0 s0_1)))

theorem impl_chunks_size.calls (k : Nat) (g : Nat) (s0_0 : ByteArray) (s0_1 : Int) (r1 : Int) (r2 : ByteArray) (r3 : Int) (w0 w : World) (hI : IsS127 w0 w g s0_0 s0_1) (hB : Below w0.heap.size w0 w) (h : impl_chunks_size.f k s0_0 s0_1 = some (r1, r2, r3)) (hG : GOK w0) :
  Calls Tryz.prog 120 #[.pointer (some ⟨g, 0, none⟩)] w fun e w' => e = .returned (.int .i64 r1) ∧ IsS127 w0 w' g r2 r3 ∧ Below w0.heap.size w0 w' ∧ KeepBut w w' g none := by
 have HI0 := Aside0.mk hI
 have HK := Aside0.mk (KeepBut.refl w g none)
 have HL := Aside0.mk hB.size
 clear hI
 have HW0 := Aside0.mk hB.size
 have HB := Aside0.mk hB
 clear hB
 have H : ((strings_Cut.f s0_0 (⟨#[13]⟩ : ByteArray)).bind fun bt351 => ((impl_ParseHex.f k bt351.1).bind fun bt354 => (if bt351.2.2 = true then (impl_chunks_size.j0 k bt351.1 bt351.2.2 bt354.1 bt354.2 false s0_0 s0_1) else (impl_chunks_size.j0 k bt351.1 bt351.2.2 bt354.1 bt354.2 (bt351.1.toList == ([] : List UInt8)) s0_0 s0_1)))) = some (r1, r2, r3) := h
 clear h
 replace H := Option.bind_eq_some_iff.mp H
 obtain ⟨⟨t351, t352, t353⟩, A20, H⟩ := H
 replace H : ((impl_ParseHex.f k t351).bind fun bt354 => (if t353 = true then (impl_chunks_size.j0 k t351 t353 bt354.1 bt354.2 false s0_0 s0_1) else (impl_chunks_size.j0 k t351 t353 bt354.1 bt354.2 (t351.toList == ([] : List UInt8)) s0_0 s0_1))) = some (r1, r2, r3) := H
 have A2 := Aside0.mk A20
 clear A20
 replace H := Option.bind_eq_some_iff.mp H
 obtain ⟨⟨t354, t355⟩, A30, H⟩ := H
 replace H : (if t353 = true then (impl_chunks_size.j0 k t351 t353 t354 t355 false s0_0 s0_1) else (impl_chunks_size.j0 k t351 t353 t354 t355 (t351.toList == ([] : List UInt8)) s0_0 s0_1)) = some (r1, r2, r3) := H
 have A3 := Aside0.mk A30
 clear A30
 have HC4 := Aside0.mk H
 clear H
 obtain ⟨HGz5, hgz5⟩ := HI0.1
 have hcz5_0 := cellS127_0 HGz5
 have hcz5_1 := cellS127_1 HGz5
 have hfz5_0 := bF_ HGz5 0
 have hfz5_1 := bF_ HGz5 1
 clear HGz5 hgz5
 go_enter Tryz.func120, Tryz.ntmps120
 go_upto_region 5 with (first | ((with_reducible refine gate_callee (f := 76) rfl ?_); refine goesL_ (some 13) rfl rfl Tryz.func76 (by kernel_rfl) rfl #[.string s0_0, .string (⟨#[13]⟩ : ByteArray)] rfl q2_ ?_; (with_reducible refine (strings_Cut.calls s0_0 (⟨#[13]⟩ : ByteArray) t351 t352 t353 _ A2.1 ?side99).mono ?_); (case side99 => exact q20_); rintro e w' ⟨rfl, ⟨nd, rfl⟩⟩; refine ⟨_, rfl, ?_⟩) | ((with_reducible refine gate_callee (f := 149) rfl ?_); refine goesL_ (some 19) rfl rfl Tryz.func149 (by kernel_rfl) rfl #[.string t351] rfl q2_ ?_; (with_reducible refine (impl_ParseHex.calls k t351 t354 t355 _ A3.1).mono ?_); rintro e w' ⟨rfl, ⟨nd, rfl⟩⟩; refine ⟨_, rfl, ?_⟩))
 (try simp only [Act.put, List.setIfInBounds_toArray, List.set_cons_zero, List.set_cons_succ])
 go_cut [34] (fun v34 wc => ∃ (kq : Nat) (x34_3 : Bool), v34 = .bool x34_3 ∧ Aside0 (impl_chunks_size.j0 kq t351 t353 t354 t355 x34_3 s0_0 s0_1 = some (r1, r2, r3)) ∧ Aside0 (kq ≤ k) ∧ Aside0 (IsS127 w0 wc g s0_0 s0_1) ∧ Aside0 (KeepBut w wc g none) ∧ Aside0 (Below w0.heap.size w0 wc))
 case first =>
  have H := HC4.1
  clear HC4
  by_cases c6 : t353 = true
  ·subst c6
   rw [if_pos rfl] at H
   have H' := Aside0.mk H
   clear H
   go_wp2
   go_meet
   case rel => exact ⟨_, (false), q3_, H', ⟨q73_⟩, ⟨q29_⟩, ⟨q6_⟩, ⟨q31_⟩⟩
  ·replace c6 := Bool.eq_false_iff.mpr c6
   subst c6
   rw [if_neg (show ¬ (false = true) by decide)] at H
   have H' := Aside0.mk H
   clear H
   go_wp2
   go_meet
   case rel => exact ⟨_, ((t351.toList == ([] : List UInt8))), q3_, H', ⟨q73_⟩, ⟨q29_⟩, ⟨q6_⟩, ⟨q31_⟩⟩
 case rest =>
  clear HC4
  try clear c1
  try clear p2
  try clear c6
  try clear hcz5_0
  try clear hcz5_1
  try clear hfz5_0
  try clear hfz5_1
  obtain ⟨kq, x34_3, rfl, HA, HJ3, HI0, HK, HB⟩ := hcut
  cases kq with
  | zero => exact absurd HA.1 (by simp [impl_chunks_size.j0])
  | succ kj3 =>
   have H := HA.1
   clear HA
   simp only [impl_chunks_size.j0] at H
   by_cases c7 : x34_3 = true
   ·subst c7
    rw [if_pos rfl] at H
    simp only [Option.some.injEq, Prod.mk.injEq] at H
    obtain ⟨rfl, rfl, rfl⟩ := H
    obtain ⟨HGz8, hgz8⟩ := HI0.1
    have hcz8_0 := cellS127_0 HGz8
    have hcz8_1 := cellS127_1 HGz8
    have hfz8_0 := bF_ HGz8 0
    have hfz8_1 := bF_ HGz8 1
    clear HGz8 hgz8
    go_wp2
    go_ret
    exact ⟨q10_, q29_, q31_, q6_⟩
   ·replace c7 := Bool.eq_false_iff.mpr c7
    subst c7
    rw [if_neg (show ¬ (false = true) by decide)] at H
    by_cases c9 : t355 = true
    ·subst c9
     rw [if_pos rfl] at H
     by_cases c10 : t353 = true
     ·subst c10
      rw [if_pos rfl] at H
      by_cases c11 : 0 ≤ (t351.size : Int)
      ·rw [if_pos c11] at H
       have c11b0 := eq_true c11
       have c11b1 : decide (0 ≤ (t351.size : Int)) = true := decide_eq_true c11
       clear c11
       by_cases c12 : (t351.size : Int) ≤ (s0_0.size : Int)
       ·rw [if_pos c12] at H
        have c12b0 := eq_true c12
        have c12b1 : decide ((t351.size : Int) ≤ (s0_0.size : Int)) = true := decide_eq_true c12
        clear c12
        replace H := Option.bind_eq_some_iff.mp H
        obtain ⟨⟨t356, t357⟩, A130, H⟩ := H
        replace H : (some (t354, t356, t357)) = some (r1, r2, r3) := H
        have A13 := Aside0.mk A130
        clear A130
        simp only [Option.some.injEq, Prod.mk.injEq] at H
        obtain ⟨rfl, rfl, rfl⟩ := H
        obtain ⟨HGz14, hgz14⟩ := HI0.1
        have hcz14_0 := cellS127_0 HGz14
        have hcz14_1 := cellS127_1 HGz14
        have hfz14_0 := bF_ HGz14 0
        have hfz14_1 := bF_ HGz14 1
        clear HGz14 hgz14
        go_wp2_with (first | ((with_reducible refine gate_callee (f := 121) rfl ?_); refine goesL_ (some 33) rfl rfl Tryz.func121 (by kernel_rfl) rfl #[.pointer (some ⟨g, 0, none⟩)] rfl q2_ ?_; (with_reducible refine (impl_chunks_end.calls kj3 g (s0_0.extract t351.size s0_0.size) s0_1 t356 t357 w0 _ ?side1 ?side2 A13.1).mono ?_); (case side1 => exact q29_); (case side2 => exact q31_); rintro e w15 ⟨rfl, hi, hb, hk⟩; refine ⟨_, rfl, ?_⟩; have n0_ := Aside0.mk (KeepBut.trans q6_ hk (.inl rfl)); have n1_ := Aside0.mk (hb); have n2_ := Aside0.mk (hi); clear HK HB HI0; have HK := n0_; have HB := n1_; have HI0 := n2_; clear n0_ n1_ n2_; (try clear hb); (try clear hb2); (try clear hk); (try clear hi)))
        go_ret
        exact ⟨q10_, q29_, q31_, q6_⟩
       ·rw [if_neg c12] at H
        exact absurd H (by simp)
      ·rw [if_neg c11] at H
       exact absurd H (by simp)
     ·replace c10 := Bool.eq_false_iff.mpr c10
      subst c10
      rw [if_neg (show ¬ (false = true) by decide)] at H
      simp only [Option.some.injEq, Prod.mk.injEq] at H
      obtain ⟨rfl, rfl, rfl⟩ := H
      obtain ⟨HGz16, hgz16⟩ := HI0.1
      have hcz16_0 := cellS127_0 HGz16
      have hcz16_1 := cellS127_1 HGz16
      have hfz16_0 := bF_ HGz16 0
      have hfz16_1 := bF_ HGz16 1
      clear HGz16 hgz16
      go_wp2
      go_ret
      exact ⟨q10_, q29_, q31_, q6_⟩
    ·replace c9 := Bool.eq_false_iff.mpr c9
     subst c9
     rw [if_neg (show ¬ (false = true) by decide)] at H
     simp only [Option.some.injEq, Prod.mk.injEq] at H
     obtain ⟨rfl, rfl, rfl⟩ := H
     obtain ⟨HGz17, hgz17⟩ := HI0.1
     have hcz17_0 := cellS127_0 HGz17
     have hcz17_1 := cellS127_1 HGz17
     have hfz17_0 := bF_ HGz17 0
     have hfz17_1 := bF_ HGz17 1
     clear HGz17 hgz17
     go_wp2
     go_ret
     exact ⟨q10_, q29_, q31_, q6_⟩

end Go.Proofs.YtfncjddolbghlaaGreatDoor.GFnMore
