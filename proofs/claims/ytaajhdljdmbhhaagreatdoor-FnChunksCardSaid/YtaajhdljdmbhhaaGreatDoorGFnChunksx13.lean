-- by gprint.py (this session's program over the kit's print.py) (a twelfth state) out of the translation. Not trusted: Lean checks it.
import Derived.Test.YtaajhdljdmbhhaaGreatDoorGFnChunksx0
import Derived.Test.YtaajhdljdmbhhaaGreatDoorGFnChunksx4
import Derived.Test.YtaajhdljdmbhhaaGreatDoorGFnChunksx6
import Derived.Test.YtaajhdljdmbhhaaGreatDoorGFnChunksx12
namespace Go.Proofs.YtaajhdljdmbhhaaGreatDoor.GFnChunks
open Go.RowKit Go.Proofs.YtaajhdljdmbhhaaGreatDoorW.PrintWords Go.Proofs.YtaajhdljdmbhhaaGreatDoorW.PrintLast Go.Proofs.YtaajhdljdmbhhaaGreatDoorW.PrintMore
attribute [local go_sem] max2_int min2_int max_two min_two max_three min_three max_four min_four   -- for this text's walks alone
set_option linter.unusedVariables false
set_option linter.unusedSimpArgs false
set_option maxRecDepth 100000
set_option maxHeartbeats 8000000

def spec_GetChunks.l0 : Nat → List Int → Int → ByteArray → Option (ByteArray × Int × Int)
 | 0, _, _, _ => none
 | k + 1, x0, x1, x7 => if (x7.size : Int) ≤ 200 then ((spec_l4Size.f k x0 x1).bind fun bt521 => (if bt521.2.2 = 0 then (if (wrap64 ((x7.size : Int) + bt521.1)) > 200 then (some ((⟨#[]⟩ : BA), 0, 413)) else (if bt521.1 > (wrap64 ((x0.length : Int) - bt521.2.1)) then (some ((⟨#[]⟩ : BA), 0, 1)) else (if 0 ≤ bt521.2.1 then (if bt521.2.1 ≤ (wrap64 (bt521.2.1 + bt521.1)) then (if (wrap64 (bt521.2.1 + bt521.1)) ≤ (x0.length : Int) then (if x7.size + (strOfNums ((x0.take ((wrap64 (bt521.2.1 + bt521.1)) : Int).toNat).drop (bt521.2.1 : Int).toNat)).size ≤ 9223372036854775807 then ((spec_l4End.f x0 (wrap64 (bt521.2.1 + bt521.1))).bind fun t525 => (if t525 = 0 then (if bt521.1 = 0 then (some (x7 ++ (strOfNums ((x0.take ((wrap64 (bt521.2.1 + bt521.1)) : Int).toNat).drop (bt521.2.1 : Int).toNat)), wrap64 ((wrap64 (bt521.2.1 + bt521.1)) + 2), 0)) else (spec_GetChunks.l0 k x0 (wrap64 ((wrap64 (bt521.2.1 + bt521.1)) + 2)) (x7 ++ (strOfNums ((x0.take ((wrap64 (bt521.2.1 + bt521.1)) : Int).toNat).drop (bt521.2.1 : Int).toNat))))) else (some ((⟨#[]⟩ : BA), 0, t525)))) else (none)) else (none)) else (none)) else (none)))) else (some ((⟨#[]⟩ : BA), 0, bt521.2.2)))) else (some ((⟨#[]⟩ : BA), 0, 413))
def spec_GetChunks.f (k : Nat) (l0 : List Int) (a1 : Int) : Option (ByteArray × Int × Int) := (spec_l1In.f a1 0 (l0.length : Int)).bind fun t520 => (if t520 = true then (spec_GetChunks.l0 k l0 a1 (⟨#[]⟩ : BA)) else (some ((⟨#[]⟩ : BA), 0, 400)))

theorem spec_GetChunks.calls (k : Nat) (A0 : Option Addr) (c0 : Nat) (l0 : List Int) (a1 : Int) (r1 : ByteArray) (r2 : Int) (r3 : Int) (w : World) (hr0 : Kd.C (Kd.int .u8) w A0 l0.length l0) (hc0 : l0.length ≤ c0) (h : spec_GetChunks.f k l0 a1 = some (r1, r2, r3)) :
  Calls Tryz.prog 48 #[.slice A0 l0.length c0, .int .i64 a1] w fun e w' => e = .returned (.tuple #[.string r1, .int .i64 r2, .int .i64 r3]) ∧ Drawn0 w w' := by
 have HR0 := aK hr0; have HC0 := aK hc0; clear hr0 hc0; have H := h; clear h; unfold spec_GetChunks.f at H
 replace H := oB H; obtain ⟨t520, A3, H⟩ := H; (try dsimp only at H); have HC4 := aK H; clear H; go_enter Tryz.func48, Tryz.ntmps48
 go_upto_if 15 with (first | ((with_reducible refine gate_callee (f := 84) rfl ?_); refine goesL_ (some 14) rfl rfl Tryz.func84 (by kernel_rfl) rfl #[.int .i64 a1, .int .i64 0, .int .i64 (l0.length : Int)] rfl q2_ ?_; (with_reducible refine (spec_l1In.calls a1 0 (l0.length : Int) t520 _ A3.1).mono ?_); rintro e w' ⟨rfl, ⟨nd, rfl⟩⟩; refine ⟨_, rfl, ?_⟩))
 (try simp only [Act.put, sI, sZ, sS]); have H := HC4.1; clear HC4; by_cases c5 : t520 = true
 ·subst c5; rw [if_pos rfl] at H; have H' := aK H; clear H; go_wp2
  go_loopg [1, 7] k (fun kq v1 v7 w' => ∃ (x1_1 : Int) (x7_1 : ByteArray), v1 = .int .i64 x1_1 ∧ v7 = .string x7_1 ∧ Aside0 (spec_GetChunks.l0 kq l0 x1_1 x7_1 = some (r1, r2, r3)) ∧ Aside0 (kq ≤ k) ∧ Drawn0 w w')
  case atStart => exact ⟨(a1), ((⟨#[]⟩ : BA)), q3_, q3_, H', ⟨Nat.le_refl _⟩, q10_⟩
  case round =>
   clear H'; (try clear p2); (try clear c4); (try clear c5); obtain ⟨x1_1, x7_1, rfl, rfl, HA, HK1, ⟨m1, rfl⟩⟩ := hrel; cases gk with
   | zero => exact absurd HA.1 (by simp [spec_GetChunks.l0])
   | succ k1 =>
    have H := HA.1; clear HA; simp only [spec_GetChunks.l0] at H; by_cases c6 : (x7_1.size : Int) ≤ 200
    ·rw [if_pos c6] at H; have c6b0 := decide_eq_true c6; have c6b1 : decide (x7_1.size ≤ 200) = true := decide_eq_true (by omega); clear c6; (first | rw [c6b0] | rw [c6i0] | (simp only [i64_w, i32_w]; rw [c6b0]) | skip); replace H := oB H; obtain ⟨⟨t521, t522, t523⟩, A7, H⟩ := H; (try dsimp only at H); have HC8 := aK H; clear H; go_upto_if 27 with (first | ((with_reducible refine gate_callee (f := 85) rfl ?_); refine goesL_ (some 22) rfl rfl Tryz.func85 (by kernel_rfl) rfl #[.slice A0 l0.length c0, .int .i64 x1_1] rfl q2_ ?_; (with_reducible refine (spec_l4Size.calls k1 _ _ l0 x1_1 t521 t522 t523 _ ?side1 ?side2 A7.1).mono ?_); (case side1 => exact q61_); (case side2 => exact q160_); rintro e w' ⟨rfl, ⟨nd, rfl⟩⟩; refine ⟨_, rfl, ?_⟩))
     (try simp only [Act.put, sI, sZ, sS]); have H := HC8.1; clear HC8; by_cases c9 : t523 = 0
     ·rw [if_pos c9] at H; have c9b0 := beq_iff_eq.mpr c9; have c9b1 : (t523 != 0) = false := bne_eq_false_iff_eq.mpr c9; clear c9; (first | rw [c9b0] | rw [c9i0] | (simp only [i64_w, i32_w]; rw [c9b0]) | skip); by_cases c10 : (wrap64 ((x7_1.size : Int) + t521)) > 200
      ·rw [if_pos c10] at H; have c10b0 : decide (200 < (wrap64 ((x7_1.size : Int) + t521))) = true := decide_eq_true c10; clear c10; simp only [Option.some.injEq, Prod.mk.injEq] at H; obtain ⟨rfl, rfl, rfl⟩ := H; go_wp2
       go_ret3
       exact ⟨q3_, q10_⟩
      ·rw [if_neg c10] at H; have c10b0 : decide (200 < (wrap64 ((x7_1.size : Int) + t521))) = false := decide_eq_false c10; clear c10; by_cases c11 : t521 > (wrap64 ((l0.length : Int) - t522))
       ·rw [if_pos c11] at H; have c11b0 : decide ((wrap64 ((l0.length : Int) - t522)) < t521) = true := decide_eq_true c11; clear c11; simp only [Option.some.injEq, Prod.mk.injEq] at H; obtain ⟨rfl, rfl, rfl⟩ := H; go_wp2
        go_ret3
        exact ⟨q3_, q10_⟩
       ·rw [if_neg c11] at H; have c11b0 : decide ((wrap64 ((l0.length : Int) - t522)) < t521) = false := decide_eq_false c11; clear c11; by_cases c12 : 0 ≤ t522
        ·rw [if_pos c12] at H; have c12b0 := eq_true c12; have c12b1 := decide_eq_true c12; clear c12; by_cases c13 : t522 ≤ (wrap64 (t522 + t521))
         ·rw [if_pos c13] at H; have c13b0 := eq_true c13; have c13b1 := decide_eq_true c13; by_cases c14 : (wrap64 (t522 + t521)) ≤ (l0.length : Int)
          ·rw [if_pos c14] at H; have c14b0 := eq_true c14; have c14b1 := decide_eq_true c14; by_cases c15 : x7_1.size + (strOfNums ((l0.take ((wrap64 (t522 + t521)) : Int).toNat).drop (t522 : Int).toNat)).size ≤ 9223372036854775807
           ·rw [if_pos c15] at H; have c15b0 := eq_true c15; have c15b1 := decide_eq_true c15; try have c15b2 : (9223372036854775807 < x7_1.size + (strOfNums ((l0.take ((wrap64 (t522 + t521)) : Int).toNat).drop (t522 : Int).toNat)).size) = False := eq_false (Nat.not_lt.2 c15)
            replace H := oB H; obtain ⟨t525, A16, H⟩ := H; (try dsimp only at H); have HC17 := aK H; clear H; obtain ⟨i018, hi018, _, hsz18, _⟩ := info_parts info5; obtain ⟨A18, hcut18, hA18, hC18⟩ := print_mid_of (P := Tryz.prog) (Value.int .u8) 0 22 5 .i64 .i64 Tryz.underlying22 hi018 hsz18 A0 c0 l0 t522 (wrap64 (t522 + t521)) (of_decide_eq_true q4_) (by first | omega | exact of_decide_eq_true q4_) (of_decide_eq_true q4_) HC0.1; have HR524 := aK (Kd.C_of_reads (h1 := fun _ => rfl) (hA18 _ (Kd.reads_of_C HR0.1))); have HC524 := aK hC18; clear hA18 hC18 hi018 hsz18; have hq_ := HR524.1; rw [show ((l0.take ((wrap64 (t522 + t521)) : Int).toNat).drop (t522 : Int).toNat).length = ((wrap64 (t522 + t521)).toNat - t522.toNat) from (by rw [List.length_drop, List.length_take]; have h_ : ((wrap64 (t522 + t521)) : Int) ≤ (l0.length : Int) := of_decide_eq_true q4_; omega)] at hq_; have hcv19 := Kd.C_string (P := Tryz.prog) (A := A18) (c := (c0 - t522.toNat)) Tryz.underlying22 Tryz.underlying5 Tryz.underlying9 hq_; have hcv20 := fun nq_ : Nat => Kd.C_string (P := Tryz.prog) (A := A18) (c := (c0 - t522.toNat)) Tryz.underlying22 Tryz.underlying5 Tryz.underlying9 (Kd.C_drewN hq_ nq_)
            clear hq_; go_upto_if 55 with (first | ((with_reducible refine gate_callee (f := 86) rfl ?_); refine goesL_ (some 53) rfl rfl Tryz.func86 (by kernel_rfl) rfl #[.slice A0 l0.length c0, .int .i64 (wrap64 (t522 + t521))] rfl q2_ ?_; (with_reducible refine (spec_l4End.calls _ _ l0 (wrap64 (t522 + t521)) t525 _ ?side1 ?side2 A16.1).mono ?_); (case side1 => exact q61_); (case side2 => exact q160_); rintro e w' ⟨rfl, ⟨nd, rfl⟩⟩; refine ⟨_, rfl, ?_⟩))
            (try simp only [Act.put, sI, sZ, sS]); have H := HC17.1; clear HC17; by_cases c21 : t525 = 0
            ·rw [if_pos c21] at H; have c21b0 := beq_iff_eq.mpr c21; have c21b1 : (t525 != 0) = false := bne_eq_false_iff_eq.mpr c21; clear c21; (first | rw [c21b0] | rw [c21i0] | (simp only [i64_w, i32_w]; rw [c21b0]) | skip); by_cases c22 : t521 = 0
             ·rw [if_pos c22] at H; have c22b0 := beq_iff_eq.mpr c22; have c22b1 : (t521 != 0) = false := bne_eq_false_iff_eq.mpr c22; clear c22; simp only [Option.some.injEq, Prod.mk.injEq] at H; obtain ⟨rfl, rfl, rfl⟩ := H; go_wp2
              go_ret3
              exact ⟨q3_, q10_⟩
             ·rw [if_neg c22] at H; have c22b0 := beq_eq_false_iff_ne.mpr c22; have c22b1 : (t521 != 0) = true := bne_iff_ne.mpr c22; have H' := aK H; clear H; go_wp2
              go_roundg k1
              case measure => have := HK1.1; omega
              case rel => exact ⟨(wrap64 ((wrap64 (t522 + t521)) + 2)), (x7_1 ++ (strOfNums ((l0.take ((wrap64 (t522 + t521)) : Int).toNat).drop (t522 : Int).toNat))), q3_, q3_, H', ⟨q82_⟩, q10_⟩
            ·rw [if_neg c21] at H; have c21b0 := beq_eq_false_iff_ne.mpr c21; have c21b1 : (t525 != 0) = true := bne_iff_ne.mpr c21; (first | rw [c21b0] | rw [c21i0] | (simp only [i64_w, i32_w]; rw [c21b0]) | skip); simp only [Option.some.injEq, Prod.mk.injEq] at H; obtain ⟨rfl, rfl, rfl⟩ := H; go_wp2
             go_ret3
             exact ⟨q3_, q10_⟩
           ·rw [if_neg c15] at H; exact absurd H (by simp)
          ·rw [if_neg c14] at H; exact absurd H (by simp)
         ·rw [if_neg c13] at H; exact absurd H (by simp)
        ·rw [if_neg c12] at H; exact absurd H (by simp)
     ·rw [if_neg c9] at H; have c9b0 := beq_eq_false_iff_ne.mpr c9; have c9b1 : (t523 != 0) = true := bne_iff_ne.mpr c9; (first | rw [c9b0] | rw [c9i0] | (simp only [i64_w, i32_w]; rw [c9b0]) | skip); simp only [Option.some.injEq, Prod.mk.injEq] at H; obtain ⟨rfl, rfl, rfl⟩ := H; go_wp2
      go_ret3
      exact ⟨q3_, q10_⟩
    ·rw [if_neg c6] at H; have c6b0 := decide_eq_false c6; have c6b1 : decide (x7_1.size ≤ 200) = false := decide_eq_false (by omega); clear c6; (first | rw [c6b0] | rw [c6i0] | (simp only [i64_w, i32_w]; rw [c6b0]) | skip); simp only [Option.some.injEq, Prod.mk.injEq] at H; obtain ⟨rfl, rfl, rfl⟩ := H; go_wp2
     go_ret3
     exact ⟨q3_, q10_⟩
 ·replace c5 := Bool.eq_false_iff.mpr c5; subst c5; rw [if_neg (show ¬ (false = true) by decide)] at H; simp only [Option.some.injEq, Prod.mk.injEq] at H; obtain ⟨rfl, rfl, rfl⟩ := H; go_wp2
  go_ret3
  exact ⟨q3_, q10_⟩


def strings_Index.f (a0 : ByteArray) (a1 : ByteArray) : Option Int := if a0.size < 4294967281 then some (Lib.index a0.data.toList a1.data.toList) else none
theorem strings_Index.calls (a0 : ByteArray) (a1 : ByteArray) (r : Int) (w : World) (h : strings_Index.f a0 a1 = some r) (hG : GOK w) :
  Calls Tryz.prog 75 #[.string a0, .string a1] w fun e w' => e = .returned (.int .i64 r) ∧ Drawn0 w w' := by
 unfold strings_Index.f at h
 split at h
 ·rename_i hs
  obtain rfl := Option.some.inj h; obtain ⟨m, hm⟩ := hG.maxlen; exact (Go.Proofs.YtaajhdljdmbhhaaGreatDoor.Shelf.Tryz.strings_Index a0 a1 m w hs hm).mono fun e w' ⟨he, hw⟩ => ⟨he, by subst hw; exact Drawn0.refl _⟩
 ·cases h

def impl_HeadEnd.f (l0 : List Int) : Option (Int) := if 0 ≤ (mn (l0.length : Int) 400) then (if (mn (l0.length : Int) 400) ≤ (l0.length : Int) then ((strings_Index.f (strOfNums (l0.take ((mn (l0.length : Int) 400) : Int).toNat)) (⟨#[13, 10, 13, 10]⟩ : BA)).bind fun t527 => (if t527 < 0 then (some (-1)) else (some (wrap64 (t527 + 4))))) else (none)) else (none)
theorem impl_HeadEnd.calls (A0 : Option Addr) (c0 : Nat) (l0 : List Int) (r : Int) (w : World) (hr0 : Kd.C (Kd.int .u8) w A0 l0.length l0) (hc0 : l0.length ≤ c0) (h : impl_HeadEnd.f l0 = some r) (hG : GOK w) :
  Calls Tryz.prog 41 #[.slice A0 l0.length c0] w fun e w' => e = .returned (.int .i64 r) ∧ Below w.heap.size w w' := by
 have HR0 := aK hr0; have HC0 := aK hc0; clear hr0 hc0; have HB := aK (Below.refl w.heap.size w); have H := h; clear h; unfold impl_HeadEnd.f at H
 obtain ⟨ji2, hji2⟩ : ∃ j_ : Int, (mn (l0.length : Int) 400) = j_ := ⟨_, rfl⟩; replace H : (if 0 ≤ (ji2) then (if (ji2) ≤ (l0.length : Int) then ((strings_Index.f (strOfNums (l0.take ((ji2) : Int).toNat)) (⟨#[13, 10, 13, 10]⟩ : BA)).bind fun t527 => (if t527 < 0 then (some (-1)) else (some (wrap64 (t527 + 4))))) else (none)) else (none)) = some r := q164_; (try (have hji2h : ji2 ≤ 400 := by (rw [← hji2]; unfold mn; (repeat' split) <;> omega))); (try (have hji2g : ji2 ≤ 64 := by omega)); (try (have hji2l : 0 ≤ ji2 := by (rw [← hji2]; unfold mn; (repeat' split) <;> omega))); (try (have hji2m : 0 ≤ ji2 := by omega)); have hji2_ : (if 400 < (l0.length : Int) then 400 else (l0.length : Int)) = ji2 := hji2; by_cases c3 : 0 ≤ (ji2)
 ·rw [if_pos c3] at H; have c3b0 := eq_true c3; have c3b1 := decide_eq_true c3; clear c3; by_cases c4 : (ji2) ≤ (l0.length : Int)
  ·rw [if_pos c4] at H; have c4b0 := eq_true c4; have c4b1 := decide_eq_true c4; clear c4; replace H := oB H; obtain ⟨t527, A5, H⟩ := H; (try dsimp only at H); by_cases c6 : t527 < 0
   ·rw [if_pos c6] at H; have c6b0 := decide_eq_true c6; clear c6; obtain rfl := Option.some.inj H; obtain ⟨i07, hi07, _, hsz7, _⟩ := info_parts info5; obtain ⟨hcut7, hA7, hC7⟩ := print_take_of (P := Tryz.prog) (Value.int .u8) 0 22 5 .i64 Tryz.underlying22 hi07 hsz7 A0 c0 l0 (ji2) (of_decide_eq_true q4_) (of_decide_eq_true q4_) HC0.1; have HR526 := aK (Kd.C_of_reads (h1 := fun _ => rfl) (hA7 _ (Kd.reads_of_C HR0.1))); have HC526 := aK hC7; clear hA7 hC7 hi07 hsz7; have hq_ := HR526.1; rw [show (l0.take ((ji2) : Int).toNat).length = (ji2).toNat from (by rw [List.length_take]; have h_ : ((ji2) : Int) ≤ (l0.length : Int) := of_decide_eq_true q4_; omega)] at hq_; have hcv8 := Kd.C_string (P := Tryz.prog) (A := A0) (c := c0) Tryz.underlying22 Tryz.underlying5 Tryz.underlying9 hq_; have hcv9 := fun nq_ : Nat => Kd.C_string (P := Tryz.prog) (A := A0) (c := c0) Tryz.underlying22 Tryz.underlying5 Tryz.underlying9 (Kd.C_drewN hq_ nq_)
    clear hq_; go_enter Tryz.func41, Tryz.ntmps41
    go_wp2_with (first | ((with_reducible refine gate_callee (f := 75) rfl ?_); refine goesL_ (some 10) rfl rfl Tryz.func75 (by kernel_rfl) rfl #[.string (strOfNums (l0.take ((ji2) : Int).toNat)), .string (⟨#[13, 10, 13, 10]⟩ : BA)] rfl q97_ ?_; (with_reducible refine (strings_Index.calls (strOfNums (l0.take ((ji2) : Int).toNat)) (⟨#[13, 10, 13, 10]⟩ : BA) t527 _ A5.1 ?side99).mono ?_); (case side99 => exact q19_); rintro e w' ⟨rfl, ⟨nd, rfl⟩⟩; refine ⟨_, rfl, ?_⟩))
    go_ret
    exact ⟨q95_, q1_⟩
   ·rw [if_neg c6] at H; have c6b0 := decide_eq_false c6; clear c6; obtain rfl := Option.some.inj H; obtain ⟨i010, hi010, _, hsz10, _⟩ := info_parts info5; obtain ⟨hcut10, hA10, hC10⟩ := print_take_of (P := Tryz.prog) (Value.int .u8) 0 22 5 .i64 Tryz.underlying22 hi010 hsz10 A0 c0 l0 (ji2) (of_decide_eq_true q4_) (of_decide_eq_true q4_) HC0.1; have HR526 := aK (Kd.C_of_reads (h1 := fun _ => rfl) (hA10 _ (Kd.reads_of_C HR0.1))); have HC526 := aK hC10; clear hA10 hC10 hi010 hsz10; have hq_ := HR526.1; rw [show (l0.take ((ji2) : Int).toNat).length = (ji2).toNat from (by rw [List.length_take]; have h_ : ((ji2) : Int) ≤ (l0.length : Int) := of_decide_eq_true q4_; omega)] at hq_; have hcv11 := Kd.C_string (P := Tryz.prog) (A := A0) (c := c0) Tryz.underlying22 Tryz.underlying5 Tryz.underlying9 hq_; have hcv12 := fun nq_ : Nat => Kd.C_string (P := Tryz.prog) (A := A0) (c := c0) Tryz.underlying22 Tryz.underlying5 Tryz.underlying9 (Kd.C_drewN hq_ nq_)
    clear hq_; go_enter Tryz.func41, Tryz.ntmps41
    go_wp2_with (first | ((with_reducible refine gate_callee (f := 75) rfl ?_); refine goesL_ (some 10) rfl rfl Tryz.func75 (by kernel_rfl) rfl #[.string (strOfNums (l0.take ((ji2) : Int).toNat)), .string (⟨#[13, 10, 13, 10]⟩ : BA)] rfl q97_ ?_; (with_reducible refine (strings_Index.calls (strOfNums (l0.take ((ji2) : Int).toNat)) (⟨#[13, 10, 13, 10]⟩ : BA) t527 _ A5.1 ?side99).mono ?_); (case side99 => exact q19_); rintro e w' ⟨rfl, ⟨nd, rfl⟩⟩; refine ⟨_, rfl, ?_⟩))
    go_ret
    exact ⟨q95_, q1_⟩
  ·rw [if_neg c4] at H; exact absurd H (by simp)
 ·rw [if_neg c3] at H; exact absurd H (by simp)


def strings_Split.f (a0 : ByteArray) (a1 : ByteArray) : Option (List ByteArray) := if a0.size < 4294967281 ∧ 1 ≤ a1.size then some (Go.Lib.splitB a1 0 (Go.Lib.countB a0 a1) a0) else none
theorem strings_Split.calls (a0 : ByteArray) (a1 : ByteArray) (r : List ByteArray) (w : World) (h : strings_Split.f a0 a1 = some r) (hG : GOK w) :
  Calls Tryz.prog 106 #[.string a0, .string a1] w fun e w' => ∃ v0_ : Value, e = .returned (v0_) ∧ Kd.R Kd.string 9 w' w.heap.size (fun _ => True) v0_ r ∧ Below w.heap.size w w' := by
 unfold strings_Split.f at h
 split at h
 ·rename_i hs
  obtain rfl := Option.some.inj h; obtain ⟨m, hm⟩ := hG.maxlen; have hl := Go.Lib.splitB_all a1 hs.2 0 _ a0 rfl; have hc := Go.Lib.countB_le a1 hs.2 a0.size a0 (Nat.le_refl _); refine (Go.Proofs.YtaajhdljdmbhhaaGreatDoor.Shelf.Tryz.strings_Split a0 a1 m w hs.1 hm hs.2).mono fun e w' ⟨he, hw⟩ => ⟨_, he, ?_, by subst hw; exact aB_ (Below.refl _ _) _⟩
  subst hw; refine Kd.R_of_own (enc := Value.string) (h1 := fun _ => rfl) ?_ (fun _ _ => trivial); refine ⟨by simp [encs], .inr ⟨w.heap.size, _, _, by rw [hl], Nat.le_refl _, (by first | exact blk_new w _ | exact HasRow.of (blk_new w _)), by rw [hl]; exact Nat.le_refl _, by unfold maxLen; omega, by simp [hl], ?_⟩⟩; rw [Nat.mul_one, List.take_of_length_le (by simp)]; simp [encs]
 ·cases h

def impl_Lower.l0 : Nat → List Int → Int → Int → Option (ByteArray)
 | 0, _, _, _ => none
 | k + 1, x3, x9, x10 => if x10 < x9 then (if 0 ≤ x10 then (if x10 < (x3.length : Int) then ((impl_isLarge.f (rd x3 x10)).bind fun t532 => (if t532 = true then (impl_Lower.l0 k (x3.set (x10 : Int).toNat (((rd x3 x10) + 32) % 256)) x9 (wrap64 (x10 + 1))) else (impl_Lower.l0 k x3 x9 (wrap64 (x10 + 1))))) else (none)) else (none)) else (some (strOfNums x3))
def impl_Lower.f (k : Nat) (a0 : ByteArray) : Option (ByteArray) := if a0.size < 140737488355328 then ((some (bytesOf a0 : List Int)).bind fun y528 => (impl_Lower.l0 k y528 (y528.length : Int) 0)) else (none)

theorem impl_Lower.calls (k : Nat) (a0 : ByteArray) (r : ByteArray) (w : World) (h : impl_Lower.f k a0 = some r) :
  Calls Tryz.prog 108 #[.string a0] w fun e w' => e = .returned (.string r) ∧ Below w.heap.size w w' := by
 have HB := aK (Below.refl w.heap.size w); have H := h; clear h; unfold impl_Lower.f at H
 by_cases c2 : a0.size < 140737488355328
 ·rw [if_pos c2] at H; have LMc2 := aK c2; clear c2; (first | (with_reducible replace H := oS H; obtain ⟨y528, Ny528, H⟩ := H) | (generalize hy_ : (bytesOf a0 : List Int) = y528 at H; have Ny528 := aK hy_.symm; clear hy_)); (try dsimp only at H); have H' := aK H; clear H; go_enter Tryz.func108, Tryz.ntmps108
  go_wp2_with (first | ((with_reducible refine gate_ (.convert 9 22 _) rfl ?_); refine Kd.R_conv_str (w0 := w) w.heap.size rfl 9 22 5 _ rfl Tryz.underlying9 Tryz.underlying22 Tryz.underlying5 a0 (fun _ => True) rfl ?aF ?aO ?aB ?aS ?aL ?_; (case aB => exact q1_); (case aF => exact q120_); (case aO => exact q133_); (case aS => exact (below_size q1_)); (case aL => have := LMc2.1; omega); intro v529 w3 ho hb hg hat; rw [← Ny528.1] at ho; replace HB := aK (hb); have HO530 := aK (ho); clear ho hb hg hat; obtain ⟨Ao4, co4, eo4⟩ := Kd.R_slice HO530.1; subst eo4))
  go_loopg [10] k (fun kq v10 w' => ∃ (x3_1 : List Int) (x10_1 : Int), v10 = .int .i64 x10_1 ∧ Aside0 (impl_Lower.l0 kq x3_1 (y528.length : Int) x10_1 = some r) ∧ Aside0 (kq ≤ k) ∧ Aside0 (Kd.R (Kd.int .u8) 5 w' w.heap.size (fun _ => True) (.slice Ao4 y528.length co4) x3_1) ∧ Aside0 (Below w.heap.size w w'))
  case atStart => exact ⟨(y528), (0), q3_, H', ⟨Nat.le_refl _⟩, ⟨by (with_reducible repeat (first | apply rA_ | apply rN_ | apply rD_)); first | exact HO530.1 | exact Kd.R_mono HO530.1 (fun k_ h_ e_ => h_ (e_.trans (ob_len _ _ _ _ _)))⟩, ⟨q1_⟩⟩
  case round =>
   clear H'; (try clear c1); (try clear c2); (try clear p2); obtain ⟨x3_1, x10_1, rfl, HA, HK1, HO_3, HB⟩ := hrel; have hl3_1 := (Kd.R_reads' HO_3.1).1; rw [hl3_1] at HO_3; (try simp only [hl3_1]); cases gk with
   | zero => exact absurd HA.1 (by simp [impl_Lower.l0])
   | succ k1 =>
    have H := HA.1; clear HA; simp only [impl_Lower.l0] at H; by_cases c5 : x10_1 < (y528.length : Int)
    ·rw [if_pos c5] at H; have c5b0 := decide_eq_true c5; (try simp only [hl3_1] at c5b0); clear c5; by_cases c6 : 0 ≤ x10_1
     ·rw [if_pos c6] at H; have c6b0 := decide_eq_true c6; clear c6; by_cases c7 : x10_1 < (x3_1.length : Int)
      ·rw [if_pos c7] at H; have c7b0 := decide_eq_true c7; (try simp only [hl3_1] at c7b0); clear c7; replace H := oB H; obtain ⟨t532, A8, H⟩ := H; (try dsimp only at H); by_cases c9 : t532 = true
       ·subst c9; rw [if_pos rfl] at H; (first | (with_reducible replace H := oS H; obtain ⟨y533, Ny533, H⟩ := H) | (generalize hy_ : (x3_1.set (x10_1 : Int).toNat (((rd x3_1 x10_1) + 32) % 256) : List Int) = y533 at H; have Ny533 := aK hy_.symm; clear hy_)); (try dsimp only at H); have H' := aK H; clear H; have p531 : 0 ≤ (x10_1 : Int) := of_decide_eq_true q4_; have q531 : x10_1 < (x3_1.length : Int) := of_decide_eq_true q4_; obtain ⟨ad531, e531, hx531_0⟩ := Kd.at_int (Kd.R_reads' HO_3.1).2.2 x10_1 p531 q531; cases e531
        replace p531 := eq_true p531; replace q531 := eq_true q531; go_wp2_with (first | ((with_reducible refine gate_callee (f := 113) rfl ?_); refine goesL_ (some 16) rfl rfl Tryz.func113 (by kernel_rfl) rfl #[.int .u8 (rd x3_1 x10_1)] rfl q2_ ?_; (with_reducible refine (impl_isLarge.calls (rd x3_1 x10_1) true _ A8.1).mono ?_); rintro e w' ⟨rfl, ⟨nd, rfl⟩⟩; refine ⟨_, rfl, ?_⟩; (try (rw [drewN_self wr]; generalize hq_ : World.drewN wr _ = wr; replace HO_3 : Aside0 (Kd.R (Kd.int .u8) 5 wr w.heap.size (fun _ => True) (.slice (some ad531) x3_1.length co4) x3_1) := ⟨by rw [← hq_]; exact q51_⟩; replace HB : Aside0 (Below w.heap.size w wr) := ⟨by rw [← hq_]; exact q1_⟩; clear hq_)); have p10 : 0 ≤ (x10_1 : Int) := of_decide_eq_true q4_; have q10 : (x10_1 : Int) < ((x3_1.length : Int) : Int) := of_decide_eq_true q4_; obtain ⟨go10, co10, eo10, gb10, gl10, cl10, HG10⟩ := Kd.R_form HO_3.1 (by omega); (first | cases eo10 | (injection eo10 with ea_ en_ ec_; (first | subst ea_ | (injection ea_ with ea_; subst ea_)); subst ec_; clear en_)); have GB10 := aK gb10; have GG10 := aK HG10; clear gb10 gl10 HG10; (first | simp only [add_plain] at hx531_0 | skip); obtain ⟨hx10_0, hf10_0⟩ := Kd.R_celln 0 HO_3.1 (x10_1 : Int) p10 q10; replace p10 := eq_true p10; replace q10 := eq_true q10; obtain ⟨hy11_, hz11_⟩ := Kd.R_celln 0 HO_3.1 (x10_1 : Int) (of_decide_eq_true q4_) (of_decide_eq_true q4_); have HP11 := Kd.R_putg HO_3.1 (x10_1 : Int) (((rd x3_1 x10_1) + 32) % 256)) | ((with_reducible refine gate_store (t := 5) (p := 21) rfl ?_); refine store_event (t := 5) (p := 21) (v := ?vo_w12) (w1 := (wr.setCell ⟨go10, (x10_1 : Int).toNat, none⟩ (.int .u8 (((rd x3_1 x10_1) + 32) % 256)))) ?hg ?ho ?hn ?hr ?_; (case ho => rfl); (case hg => rfl); (case hn => rfl); (case hr => exact q28_); intro w12 hw; have hg : wr.grownBy w12 (some go10) := (by rw [hw]; exact HP11.2); have hp_ : Kd.R (Kd.int .u8) 5 w12 w.heap.size (fun _ => True) (.slice (some ⟨go10, 0, none⟩) x3_1.length co4) y533 := (by rw [hw, Ny533.1]; exact HP11.1); clear HP11; replace HO_3 := aK (hp_); replace HB := aK ((by rw [hw]; exact sB_ (HB.1) GB10.1 : Below w.heap.size w w12)); clear hg hw hp_))
        (try simp only [← hl3_1]); go_roundg k1
        case measure => have := HK1.1; omega
        case rel => exact ⟨(y533), (wrap64 (x10_1 + 1)), q3_, H', ⟨q82_⟩, ⟨q138_⟩, ⟨q1_⟩⟩
       ·replace c9 := Bool.eq_false_iff.mpr c9; subst c9; rw [if_neg (show ¬ (false = true) by decide)] at H; have H' := aK H; clear H; have p531 : 0 ≤ (x10_1 : Int) := of_decide_eq_true q4_; have q531 : x10_1 < (x3_1.length : Int) := of_decide_eq_true q4_; obtain ⟨ad531, e531, hx531_0⟩ := Kd.at_int (Kd.R_reads' HO_3.1).2.2 x10_1 p531 q531; cases e531
        replace p531 := eq_true p531; replace q531 := eq_true q531; go_wp2_with (first | ((with_reducible refine gate_callee (f := 113) rfl ?_); refine goesL_ (some 16) rfl rfl Tryz.func113 (by kernel_rfl) rfl #[.int .u8 (rd x3_1 x10_1)] rfl q2_ ?_; (with_reducible refine (impl_isLarge.calls (rd x3_1 x10_1) false _ A8.1).mono ?_); rintro e w' ⟨rfl, ⟨nd, rfl⟩⟩; refine ⟨_, rfl, ?_⟩))
        (try simp only [← hl3_1]); go_roundg k1
        case measure => have := HK1.1; omega
        case rel => exact ⟨(x3_1), (wrap64 (x10_1 + 1)), q3_, H', ⟨q82_⟩, ⟨q138_⟩, ⟨q1_⟩⟩
      ·rw [if_neg c7] at H; exact absurd H (by simp)
     ·rw [if_neg c6] at H; exact absurd H (by simp)
    ·rw [if_neg c5] at H; have c5b0 := decide_eq_false c5; (try simp only [hl3_1] at c5b0); clear c5; obtain rfl := Option.some.inj H; have hcv13 := own_string (P := Tryz.prog) Tryz.underlying22 Tryz.underlying5 Tryz.underlying9 (Kd.own_of_R HO_3.1); go_wp2
     go_ret
     exact ⟨q8_, q1_⟩
 ·rw [if_neg c2] at H; exact absurd H (by simp)


def strconv_Itoa.f (a0 : Int) : Option ByteArray := if -9223372036854775808 ≤ a0 ∧ a0 ≤ 9223372036854775807 then some ⟨(Go.Lib.itoa a0).toArray⟩ else none
theorem strconv_Itoa.calls (a0 : Int) (r : ByteArray) (w : World) (h : strconv_Itoa.f a0 = some r) (hG : GOK w) :
  Calls Tryz.prog 120 #[.int .i64 a0] w fun e w' => e = .returned (.string r) ∧ Below w.heap.size w w' := by
 unfold strconv_Itoa.f at h
 split at h
 ·rename_i hs
  obtain rfl := Option.some.inj h; exact (Go.Proofs.YtaajhdljdmbhhaaGreatDoor.Shelf.Tryz.strconv_Itoa a0 hs.1 hs.2 w hG.pow10).mono fun e w' ⟨he, k, os, hw⟩ => ⟨he, by subst hw; exact Go.Lib.below_grow _ w (Nat.le_refl _) k os⟩
 ·cases h

def impl_NumText.f (a0 : Int) : Option (ByteArray) := (strconv_Itoa.f (mx a0 0)).bind fun t534 => (some t534)
theorem impl_NumText.calls (a0 : Int) (r : ByteArray) (w : World) (h : impl_NumText.f a0 = some r) (hG : GOK w) :
  Calls Tryz.prog 96 #[.int .i64 a0] w fun e w' => e = .returned (.string r) ∧ Below w.heap.size w w' := by
 have HB := aK (Below.refl w.heap.size w); have H : ((strconv_Itoa.f (mx a0 0)).bind fun t534 => (some t534)) = some r := h; clear h; obtain ⟨ji2, hji2⟩ : ∃ j_ : Int, (mx a0 0) = j_ := ⟨_, rfl⟩; replace H : ((strconv_Itoa.f (ji2)).bind fun t534 => (some t534)) = some r := q164_; (try (have hji2l : 0 ≤ ji2 := by (rw [← hji2]; unfold mx; (repeat' split) <;> omega))); (try (have hji2m : 0 ≤ ji2 := by omega)); have hji2_ : (if a0 < 0 then 0 else a0) = ji2 := hji2; replace H := oB H; obtain ⟨t534, A3, H⟩ := H; (try dsimp only at H); obtain rfl := Option.some.inj H; go_enter Tryz.func96, Tryz.ntmps96
 go_wp2_with (first | ((with_reducible refine gate_callee (f := 120) rfl ?_); refine goesL_ (some 5) rfl rfl Tryz.func120 (by kernel_rfl) rfl #[.int .i64 ji2] rfl q97_ ?_; (with_reducible refine (strconv_Itoa.calls ji2 t534 _ A3.1 ?side99).mono ?_); (case side99 => exact q19_); rintro e w4 ⟨rfl, hb⟩; refine ⟨_, rfl, ?_⟩; replace HB := aK (below_step q1_ hb); clear hb))
 go_ret
 exact ⟨q95_, q1_⟩


/-- what strconv.Atoi hands back: a number and no error, or an error -/
theorem impl_ParseNum.atoi (s : ByteArray) (hs : s.size ≤ 281474976710656) (w : World) (hG : GOK w) :
  Calls Tryz.prog 177 #[.string s] w fun e w' => (∃ z x, e = .returned (.tuple #[.int .i64 z, x]) ∧ ((Go.Lib.atoiAll s.data.toList = .ok z ∧ x = .nilIface) ∨ ((∀ v, Go.Lib.atoiAll s.data.toList ≠ .ok v) ∧ ∃ N, x = .iface 185 (.pointer (some ⟨N, 0, none⟩))))) ∧ Below w.heap.size w w' := by
 cases hat : Go.Lib.atoiAll s.data.toList with
 | ok v =>
  refine (Go.Proofs.YtaajhdljdmbhhaaGreatDoor.Shelf.Tryz.strconv_Atoi_ok s (by omega) v hat w).mono ?_; rintro e w' ⟨rfl, hw⟩; refine ⟨⟨v, _, rfl, .inl ⟨rfl, rfl⟩⟩, ?_⟩; rcases hw with rfl | ⟨t, rfl⟩
  ·exact Below.refl _ _
  ·exact Go.Lib.bytesWorld_below _ _ _
 | range =>
  obtain ⟨tp, p, hv⟩ := hG.errr; refine (Go.Proofs.Any.strconv_Atoi_range_var Go.Proofs.YtaajhdljdmbhhaaGreatDoor.Shelf.Tryz.laysC172 s hs hat tp p w hv).mono ?_; rintro e w' ⟨N, rfl, _, _, hb⟩; exact ⟨⟨_, _, rfl, .inr ⟨fun v h => (by cases h), N, rfl⟩⟩, hb⟩
 | _ =>
  obtain ⟨tp, p, hv⟩ := hG.errs; refine (Go.Proofs.Any.strconv_Atoi_syntax_var Go.Proofs.YtaajhdljdmbhhaaGreatDoor.Shelf.Tryz.laysC172 s hs hat tp p w hv).mono ?_; rintro e w' ⟨N, rfl, _, _, hb⟩; exact ⟨⟨_, _, rfl, .inr ⟨fun v h => (by cases h), N, rfl⟩⟩, hb⟩
def impl_ParseNum.f (a0 : ByteArray) (a1 : Int) : Option (Int × Bool) :=
 if a0.size ≤ 281474976710656 then
  match Go.Lib.atoiAll a0.data.toList with
  | .ok v => if v < 0 then some (0, false) else if a1 < v then some (0, false) else if 7 < a0.size then some (0, false) else (impl_NumText.f v).bind fun t => if t.toList = a0.toList then some (v, true) else some (0, false)
  | _ => some (0, false)
 else none
theorem impl_ParseNum.calls (a0 : ByteArray) (a1 : Int) (r1 : Int) (r2 : Bool) (w : World) (h : impl_ParseNum.f a0 a1 = some (r1, r2)) (hG : GOK w) :
  Calls Tryz.prog 158 #[.string a0, .int .i64 a1] w fun e w' => e = .returned (.tuple #[.int .i64 r1, .bool r2]) ∧ Below w.heap.size w w' := by
 unfold impl_ParseNum.f at h
 split at h
 ·rename_i hs
  have hA := impl_ParseNum.atoi a0 hs w hG; go_enter Tryz.func158, Tryz.ntmps158
  go_wp2_with (go_at_call 177; refine hA.mono ?_)
  rintro e w1 ⟨⟨z, x, rfl, hx⟩, HB⟩; rcases hx with ⟨hat, rfl⟩ | ⟨hno, N, rfl⟩
  ·rw [hat] at h; simp only [] at h; clear hA hat; by_cases c1 : z < 0
   ·rw [if_pos c1] at h; have c1b := decide_eq_true c1; clear c1; obtain ⟨rfl, rfl⟩ := Prod.mk.inj (Option.some.inj h); go_wp2
    go_ret2
    exact ⟨rfl, HB⟩
   rw [if_neg c1] at h; have c1b := decide_eq_false c1; by_cases c2 : a1 < z
   ·rw [if_pos c2] at h; have c2b := decide_eq_true c2; clear c1 c2; obtain ⟨rfl, rfl⟩ := Prod.mk.inj (Option.some.inj h); go_wp2
    go_ret2
    exact ⟨rfl, HB⟩
   rw [if_neg c2] at h; have c2b := decide_eq_false c2; by_cases c3 : 7 < a0.size
   ·rw [if_pos c3] at h; have c3b : decide ((7 : Int) < (a0.size : Int)) = true := decide_eq_true (by omega); clear c1 c2 c3; obtain ⟨rfl, rfl⟩ := Prod.mk.inj (Option.some.inj h); go_wp2
    go_ret2
    exact ⟨rfl, HB⟩
   rw [if_neg c3] at h; have c3b : decide ((7 : Int) < (a0.size : Int)) = false := decide_eq_false (by omega); clear c1 c2 c3; obtain ⟨t, ht, h⟩ := Option.bind_eq_some_iff.1 h; have hN := fun W (hW : GOK W) => impl_NumText.calls z t W ht hW
   clear ht; by_cases c4 : t.toList = a0.toList
   ·rw [if_pos c4] at h; have c4b0 := beq_iff_eq.mpr c4; have c4b1 : (t.toList != a0.toList) = false := bne_eq_false_iff_eq.mpr c4; clear c4; obtain ⟨rfl, rfl⟩ := Prod.mk.inj (Option.some.inj h); go_wp2_with (go_at_call 96; refine (hN _ (GOK_below hG HB)).mono ?_; rintro e w2 ⟨rfl, hb⟩)
    go_ret2
    exact ⟨rfl, below_step HB hb⟩
   ·rw [if_neg c4] at h; have c4b0 := beq_eq_false_iff_ne.mpr c4; have c4b1 : (t.toList != a0.toList) = true := bne_iff_ne.mpr c4; clear c4; obtain ⟨rfl, rfl⟩ := Prod.mk.inj (Option.some.inj h); go_wp2_with (go_at_call 96; refine (hN _ (GOK_below hG HB)).mono ?_; rintro e w2 ⟨rfl, hb⟩)
    go_ret2
    exact ⟨rfl, below_step HB hb⟩
  ·have h2 : some ((0 : Int), false) = some (r1, r2) := by
    split at h
    ·rename_i v hv; exact absurd hv (hno v)
    ·exact h
   obtain ⟨rfl, rfl⟩ := Prod.mk.inj (Option.some.inj h2); clear h h2 hno hA; go_wp2
   go_ret2
   exact ⟨rfl, HB⟩
 ·cases h

end Go.Proofs.YtaajhdljdmbhhaaGreatDoor.GFnChunks
