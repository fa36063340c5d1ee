-- by gprint.py (this session's program over the kit's print.py) (a twelfth state) out of the translation. Not trusted: Lean checks it.
import Derived.Test.YtaajhdljdmbhhaaGreatDoorGFnPipesx0
import Derived.Test.YtaajhdljdmbhhaaGreatDoorGFnPipesx11
namespace Go.Proofs.YtaajhdljdmbhhaaGreatDoor.GFnPipes
open Go.RowKit Go.Proofs.YtaajhdljdmbhhaaGreatDoorW.PrintWords Go.Proofs.YtaajhdljdmbhhaaGreatDoorW.PrintLast Go.Proofs.YtaajhdljdmbhhaaGreatDoorW.PrintMore
attribute [local go_sem] max2_int min2_int max_two min_two max_three min_three max_four min_four   -- for this text's walks alone
set_option linter.unusedVariables false
set_option linter.unusedSimpArgs false
set_option maxRecDepth 100000
set_option maxHeartbeats 8000000

def impl_putReq.f (k : Nat) (a0_0 : ByteArray) (a0_1 : ByteArray) (l0_2 : List (S113)) (a0_3 : ByteArray) (a1 : ByteArray) (l2 : List Int) : Option (List Int) := if a0_0.size + 1 ≤ 9223372036854775807 then (if (a0_0 ++ (⟨#[32]⟩ : BA)).size + a0_1.size ≤ 9223372036854775807 then (if ((a0_0 ++ (⟨#[32]⟩ : BA)) ++ a0_1).size + 9 ≤ 9223372036854775807 then (if (((a0_0 ++ (⟨#[32]⟩ : BA)) ++ a0_1) ++ (⟨#[32, 72, 84, 84, 80, 47, 49, 46, 49]⟩ : BA)).size + 2 ≤ 9223372036854775807 then ((impl_headText.f k l0_2).bind fun t503 => (if ((((a0_0 ++ (⟨#[32]⟩ : BA)) ++ a0_1) ++ (⟨#[32, 72, 84, 84, 80, 47, 49, 46, 49]⟩ : BA)) ++ (⟨#[13, 10]⟩ : BA)).size + t503.size ≤ 9223372036854775807 then (if (((((a0_0 ++ (⟨#[32]⟩ : BA)) ++ a0_1) ++ (⟨#[32, 72, 84, 84, 80, 47, 49, 46, 49]⟩ : BA)) ++ (⟨#[13, 10]⟩ : BA)) ++ t503).size + a1.size ≤ 9223372036854775807 then (if ((((((a0_0 ++ (⟨#[32]⟩ : BA)) ++ a0_1) ++ (⟨#[32, 72, 84, 84, 80, 47, 49, 46, 49]⟩ : BA)) ++ (⟨#[13, 10]⟩ : BA)) ++ t503) ++ a1).size + 2 ≤ 9223372036854775807 then ((impl_ReqOk.f k a0_0 a0_1 l0_2 a0_3).bind fun t504 => (if t504 = true then (if ((((((((a0_0 ++ (⟨#[32]⟩ : BA)) ++ a0_1) ++ (⟨#[32, 72, 84, 84, 80, 47, 49, 46, 49]⟩ : BA)) ++ (⟨#[13, 10]⟩ : BA)) ++ t503) ++ a1) ++ (⟨#[13, 10]⟩ : BA)).size : Int) > 400 then (some ([] : List Int)) else (if (((((((a0_0 ++ (⟨#[32]⟩ : BA)) ++ a0_1) ++ (⟨#[32, 72, 84, 84, 80, 47, 49, 46, 49]⟩ : BA)) ++ (⟨#[13, 10]⟩ : BA)) ++ t503) ++ a1) ++ (⟨#[13, 10]⟩ : BA)).size < 140737488355328 then ((some (bytesOf (((((((a0_0 ++ (⟨#[32]⟩ : BA)) ++ a0_1) ++ (⟨#[32, 72, 84, 84, 80, 47, 49, 46, 49]⟩ : BA)) ++ (⟨#[13, 10]⟩ : BA)) ++ t503) ++ a1) ++ (⟨#[13, 10]⟩ : BA)) : List Int)).bind fun y505 => (if y505.length + l2.length < 140737488355328 then (some (y505 ++ l2)) else (none))) else (none))) else (some ([] : List Int)))) else (none)) else (none)) else (none))) else (none)) else (none)) else (none)) else (none)

def impl_putReq.T1 : Bool × List (List Nat × List Nat) := (true, [([], []), ([0], [0]), ([1], [1]), ([], []), ([3], [3]), ([2, 4], [2, 4]), ([5], [5]), ([6], [6]), ([], []), ([8], [8]), ([9], [9]), ([7, 10], [7, 10]), ([], []), ([11, 12], [11, 12]), ([13], [13]), ([14, 10, 0, 1, 2, 3, 4, 5, 6, 7, 8, 9, 10, 11, 12, 13, 14], [14])])
def impl_putReq.B1 : List Nat := [0, 1, 3, 0, 8, 31, 63, 127, 0, 256, 768, 2047, 0, 8191, 16383, 32767]
theorem impl_putReq.tab1 : rtab .any (opsOf Tryz.f71 1) = impl_putReq.T1 := by kernel_rfl
theorem impl_putReq.bits1 : waitsOk impl_putReq.T1.2 impl_putReq.B1 = true := by kernel_rfl
theorem impl_putReq.calls (k : Nat) (a0_0 : ByteArray) (a0_1 : ByteArray) (A0_2 : Option Addr) (c0_2 : Nat) (l0_2 : List (S113)) (a0_3 : ByteArray) (a1 : ByteArray) (A2 : Option Addr) (c2 : Nat) (l2 : List Int) (r : List Int) (w : World) (hr0_2 : Kd.C k113 w A0_2 l0_2.length l0_2) (hc0_2 : l0_2.length ≤ c0_2) (hr2 : Kd.C (Kd.int .u8) w A2 l2.length l2) (hc2 : l2.length ≤ c2) (h : impl_putReq.f k a0_0 a0_1 l0_2 a0_3 a1 l2 = some r) :
  Calls Tryz.prog 71 #[.agg #[.string a0_0, .string a0_1, .slice A0_2 l0_2.length c0_2, .string a0_3], .string a1, .slice A2 l2.length c2] w fun e w' => ∃ v0_ : Value, e = .returned (v0_) ∧ Kd.R (Kd.int .u8) 5 w' w.heap.size (fun _ => True) v0_ r ∧ Below w.heap.size w w' := by
 have hu53 := Tryz.underlying53; have HR0_2 := aK hr0_2; have HC0_2 := aK hc0_2; clear hr0_2 hc0_2; have HR2 := aK hr2; have HC2 := aK hc2; clear hr2 hc2; have HB := aK (Below.refl w.heap.size w); have H := h; clear h; unfold impl_putReq.f at H
 by_cases c4 : a0_0.size + 1 ≤ 9223372036854775807
 ·rw [if_pos c4] at H; have c4b0 := eq_true c4; have c4b1 := decide_eq_true c4; try have c4b2 : (9223372036854775807 < a0_0.size + 1) = False := eq_false (Nat.not_lt.2 c4)
  by_cases c5 : (a0_0 ++ (⟨#[32]⟩ : BA)).size + a0_1.size ≤ 9223372036854775807
  ·rw [if_pos c5] at H; have c5b0 := eq_true c5; have c5b1 := decide_eq_true c5; try have c5b2 : (9223372036854775807 < (a0_0 ++ (⟨#[32]⟩ : BA)).size + a0_1.size) = False := eq_false (Nat.not_lt.2 c5)
   have c5s : a0_0.size + 1 + a0_1.size ≤ 9223372036854775807 := q155_; have c5s0 := eq_true c5s; have c5s1 : decide (a0_0.size + 1 + a0_1.size ≤ 9223372036854775807) = true := decide_eq_true c5s; have c5s2 : (9223372036854775807 < a0_0.size + 1 + a0_1.size) = False := eq_false (Nat.not_lt.2 c5s); by_cases c6 : ((a0_0 ++ (⟨#[32]⟩ : BA)) ++ a0_1).size + 9 ≤ 9223372036854775807
   ·rw [if_pos c6] at H; have c6b0 := eq_true c6; have c6b1 := decide_eq_true c6; try have c6b2 : (9223372036854775807 < ((a0_0 ++ (⟨#[32]⟩ : BA)) ++ a0_1).size + 9) = False := eq_false (Nat.not_lt.2 c6)
    have c6s : a0_0.size + 1 + a0_1.size + 9 ≤ 9223372036854775807 := q132_; have c6s0 := eq_true c6s; have c6s1 : decide (a0_0.size + 1 + a0_1.size + 9 ≤ 9223372036854775807) = true := decide_eq_true c6s; have c6s2 : (9223372036854775807 < a0_0.size + 1 + a0_1.size + 9) = False := eq_false (Nat.not_lt.2 c6s); by_cases c7 : (((a0_0 ++ (⟨#[32]⟩ : BA)) ++ a0_1) ++ (⟨#[32, 72, 84, 84, 80, 47, 49, 46, 49]⟩ : BA)).size + 2 ≤ 9223372036854775807
    ·rw [if_pos c7] at H; have c7b0 := eq_true c7; have c7b1 := decide_eq_true c7; try have c7b2 : (9223372036854775807 < (((a0_0 ++ (⟨#[32]⟩ : BA)) ++ a0_1) ++ (⟨#[32, 72, 84, 84, 80, 47, 49, 46, 49]⟩ : BA)).size + 2) = False := eq_false (Nat.not_lt.2 c7)
     have c7s : a0_0.size + 1 + a0_1.size + 9 + 2 ≤ 9223372036854775807 := q154_; have c7s0 := eq_true c7s; have c7s1 : decide (a0_0.size + 1 + a0_1.size + 9 + 2 ≤ 9223372036854775807) = true := decide_eq_true c7s; have c7s2 : (9223372036854775807 < a0_0.size + 1 + a0_1.size + 9 + 2) = False := eq_false (Nat.not_lt.2 c7s); replace H := oB H; obtain ⟨t503, A8, H⟩ := H; (try dsimp only at H); by_cases c9 : ((((a0_0 ++ (⟨#[32]⟩ : BA)) ++ a0_1) ++ (⟨#[32, 72, 84, 84, 80, 47, 49, 46, 49]⟩ : BA)) ++ (⟨#[13, 10]⟩ : BA)).size + t503.size ≤ 9223372036854775807
     ·rw [if_pos c9] at H; have c9b0 := eq_true c9; have c9b1 := decide_eq_true c9; try have c9b2 : (9223372036854775807 < ((((a0_0 ++ (⟨#[32]⟩ : BA)) ++ a0_1) ++ (⟨#[32, 72, 84, 84, 80, 47, 49, 46, 49]⟩ : BA)) ++ (⟨#[13, 10]⟩ : BA)).size + t503.size) = False := eq_false (Nat.not_lt.2 c9)
      have c9s : a0_0.size + 1 + a0_1.size + 9 + 2 + t503.size ≤ 9223372036854775807 := by have h_ := c9; simp only [ByteArray.size_append] at h_; exact h_
      have c9s0 := eq_true c9s; have c9s1 : decide (a0_0.size + 1 + a0_1.size + 9 + 2 + t503.size ≤ 9223372036854775807) = true := decide_eq_true c9s; have c9s2 : (9223372036854775807 < a0_0.size + 1 + a0_1.size + 9 + 2 + t503.size) = False := eq_false (Nat.not_lt.2 c9s); by_cases c10 : (((((a0_0 ++ (⟨#[32]⟩ : BA)) ++ a0_1) ++ (⟨#[32, 72, 84, 84, 80, 47, 49, 46, 49]⟩ : BA)) ++ (⟨#[13, 10]⟩ : BA)) ++ t503).size + a1.size ≤ 9223372036854775807
      ·rw [if_pos c10] at H; have c10b0 := eq_true c10; have c10b1 := decide_eq_true c10; try have c10b2 : (9223372036854775807 < (((((a0_0 ++ (⟨#[32]⟩ : BA)) ++ a0_1) ++ (⟨#[32, 72, 84, 84, 80, 47, 49, 46, 49]⟩ : BA)) ++ (⟨#[13, 10]⟩ : BA)) ++ t503).size + a1.size) = False := eq_false (Nat.not_lt.2 c10)
       have c10s : a0_0.size + 1 + a0_1.size + 9 + 2 + t503.size + a1.size ≤ 9223372036854775807 := by have h_ := c10; simp only [ByteArray.size_append] at h_; exact h_
       have c10s0 := eq_true c10s; have c10s1 : decide (a0_0.size + 1 + a0_1.size + 9 + 2 + t503.size + a1.size ≤ 9223372036854775807) = true := decide_eq_true c10s; have c10s2 : (9223372036854775807 < a0_0.size + 1 + a0_1.size + 9 + 2 + t503.size + a1.size) = False := eq_false (Nat.not_lt.2 c10s); by_cases c11 : ((((((a0_0 ++ (⟨#[32]⟩ : BA)) ++ a0_1) ++ (⟨#[32, 72, 84, 84, 80, 47, 49, 46, 49]⟩ : BA)) ++ (⟨#[13, 10]⟩ : BA)) ++ t503) ++ a1).size + 2 ≤ 9223372036854775807
       ·rw [if_pos c11] at H; have c11b0 := eq_true c11; have c11b1 := decide_eq_true c11; try have c11b2 : (9223372036854775807 < ((((((a0_0 ++ (⟨#[32]⟩ : BA)) ++ a0_1) ++ (⟨#[32, 72, 84, 84, 80, 47, 49, 46, 49]⟩ : BA)) ++ (⟨#[13, 10]⟩ : BA)) ++ t503) ++ a1).size + 2) = False := eq_false (Nat.not_lt.2 c11)
        have c11s : a0_0.size + 1 + a0_1.size + 9 + 2 + t503.size + a1.size + 2 ≤ 9223372036854775807 := q176_; have c11s0 := eq_true c11s; have c11s1 : decide (a0_0.size + 1 + a0_1.size + 9 + 2 + t503.size + a1.size + 2 ≤ 9223372036854775807) = true := decide_eq_true c11s; have c11s2 : (9223372036854775807 < a0_0.size + 1 + a0_1.size + 9 + 2 + t503.size + a1.size + 2) = False := eq_false (Nat.not_lt.2 c11s); replace H := oB H; obtain ⟨t504, A12, H⟩ := H; (try dsimp only at H); by_cases c13 : t504 = true
        ·subst c13; rw [if_pos rfl] at H; have HC14 := aK H; clear H; go_enter Tryz.func71, Tryz.ntmps71
         try go_wp2_with (first | ((with_reducible refine gate_dst (N := 3) rfl ?_); (try (refine gate_guard (by rfl) ?_; dsimp only)); refine box_event ?hg (N := 3) ?hd (cs := #[.string a0_0, .string a0_1, .slice A0_2 l0_2.length c0_2, .string a0_3]) (t := 53) ?hr ?_; (case hd => rfl); (case hg => rfl); (case hr => exact q20_); intro gb502 hg w15 hbox hb; have BK502 := aK (hbox); have GW502 := aK ((q31_ : w.heap.size ≤ gb502)); have GE502 := aK ((q31_ : w.heap.size ≤ gb502)); replace HB := aK (below_step q1_ hb); clear hb hbox hg))
         replace BK502 := aK (bD_ BK502.1); replace HB := aK (dB_ HB.1); refine start_ (n := 16) (S := fun w' => w'.cell? ⟨gb502, 0, none⟩ = some (.string a0_0) ∧ w'.cell? ⟨gb502, 1, none⟩ = some (.string a0_1) ∧ w'.cell? ⟨gb502, 2, none⟩ = some (.slice A0_2 l0_2.length c0_2) ∧ w'.cell? ⟨gb502, 3, none⟩ = some (.string a0_3)) (ds := []) #[Z, Z, Z, Z, Z, Z, Z, Z, Z, Z, Z, Z, Z, Z, Z, Z] (by kernel_rfl) rfl rfl ⟨(bc_ BK502.1 0).trans rfl, (bc_ BK502.1 1).trans rfl, (bc_ BK502.1 2).trans rfl, (bc_ BK502.1 3).trans rfl⟩ (fun hHeld => ?_); refine with_tabW impl_putReq.tab1 impl_putReq.bits1 (fun HT_ HW_ => ?_); generalize w15.drew = w16 at BK502 HB hHeld ⊢; refine pz_ 0 (some 8) HT_.1 ?_; refine pz_ 3 (some 11) HT_.1 ?_; refine pz_ 8 (some 16) HT_.1 ?_; refine pz_ 12 (some 20) HT_.1 ?_; refine tz_ 1 (some 9) HT_.1 HW_.1 hHeld ?_; refine pz_ 2 (some 10) HT_.1 ?_; refine tz_ 4 (some 12) HT_.1 HW_.1 hHeld ?_; refine pz_ 5 (some 13) HT_.1 ?_; refine pz_ 6 (some 14) HT_.1 ?_; refine pz_ 7 (some 15) HT_.1 ?_; refine tz_ 9 (some 17) HT_.1 HW_.1 hHeld ?_; refine oz_ 10 (some 18) HT_.1 (fun K hK => ?_); refine goes_ Tryz.func97 (by kernel_rfl) rfl #[.slice A0_2 l0_2.length c0_2] (by rfl) rfl rfl q2_ ?_; with_reducible refine (impl_headText.calls k _ _ l0_2 t503 _ ?side1 ?side2 A8.1).mono ?_
         (case side1 => exact q22_); (case side2 => exact q128_); rintro e w17 ⟨rfl, hb⟩; refine ⟨_, rfl, ?_⟩; replace BK502 := aK (bbk_ BK502.1 hb); replace HB := aK (below_step q38_ hb); clear hb; refine hK.out _ _ ⟨(bc_ BK502.1 0).trans rfl, (bc_ BK502.1 1).trans rfl, (bc_ BK502.1 2).trans rfl, (bc_ BK502.1 3).trans rfl⟩ (fun hHeld => ?_); clear hK K; refine nz_ (some 18) ?_; refine pz_ 11 (some 19) HT_.1 ?_; refine pz_ 13 (some 21) HT_.1 ?_; refine pz_ 14 (some 22) HT_.1 ?_; refine pz_ 15 (some 7) HT_.1 ?_; refine done_ (done_of HT_.1 (by kernel_rfl)) ?_; have hcz18 := cel4 BK502.1; go_upto_if 30 with (first | ((with_reducible refine gate_callee (f := 53) rfl ?_); refine goesL_ (some 24) rfl rfl Tryz.func53 (by kernel_rfl) rfl #[.agg #[.string a0_0, .string a0_1, .slice A0_2 l0_2.length c0_2, .string a0_3]] rfl q2_ ?_; (with_reducible refine (impl_ReqOk.calls k a0_0 a0_1 _ _ l0_2 a0_3 true _ ?side1 ?side2 A12.1).mono ?_); (case side1 => exact q22_); (case side2 => exact q128_); rintro e w19 ⟨rfl, hb⟩; refine ⟨_, rfl, ?_⟩; replace BK502 := aK (bbk_ BK502.1 hb); replace HB := aK (below_step q38_ hb); clear hb))
         (try simp only [Act.put, sI, sZ, sS]); have H := HC14.1; clear HC14; by_cases c20 : ((((((((a0_0 ++ (⟨#[32]⟩ : BA)) ++ a0_1) ++ (⟨#[32, 72, 84, 84, 80, 47, 49, 46, 49]⟩ : BA)) ++ (⟨#[13, 10]⟩ : BA)) ++ t503) ++ a1) ++ (⟨#[13, 10]⟩ : BA)).size : Int) > 400
         ·rw [if_pos c20] at H; have c20b0 : decide (400 < ((((((((a0_0 ++ (⟨#[32]⟩ : BA)) ++ a0_1) ++ (⟨#[32, 72, 84, 84, 80, 47, 49, 46, 49]⟩ : BA)) ++ (⟨#[13, 10]⟩ : BA)) ++ t503) ++ a1) ++ (⟨#[13, 10]⟩ : BA)).size : Int)) = true := decide_eq_true c20; try have c20i0 : decide (400 < (a0_0.size : Int) + 1 + (a0_1.size : Int) + 9 + 2 + (t503.size : Int) + (a1.size : Int) + 2) = true := decide_eq_true (by have h_ := of_decide_eq_true c20b0; have e0_ : (((((((a0_0 ++ (⟨#[32]⟩ : BA)) ++ a0_1) ++ (⟨#[32, 72, 84, 84, 80, 47, 49, 46, 49]⟩ : BA)) ++ (⟨#[13, 10]⟩ : BA)) ++ t503) ++ a1) ++ (⟨#[13, 10]⟩ : BA)).size = a0_0.size + 1 + a0_1.size + 9 + 2 + t503.size + a1.size + 2 := q177_; omega)
          have c20b1 : decide (400 < (((((((a0_0 ++ (⟨#[32]⟩ : BA)) ++ a0_1) ++ (⟨#[32, 72, 84, 84, 80, 47, 49, 46, 49]⟩ : BA)) ++ (⟨#[13, 10]⟩ : BA)) ++ t503) ++ a1) ++ (⟨#[13, 10]⟩ : BA)).size) = true := decide_eq_true (by omega); clear c20; (first | rw [c20b0] | rw [c20i0] | rw [c20b1] | (simp only [i64_w, i32_w]; rw [c20b0]) | skip); obtain rfl := Option.some.inj H; go_wp2
          go_ret
          exact ⟨_, q9_, q66_, q38_⟩
         ·rw [if_neg c20] at H; have c20b0 : decide (400 < ((((((((a0_0 ++ (⟨#[32]⟩ : BA)) ++ a0_1) ++ (⟨#[32, 72, 84, 84, 80, 47, 49, 46, 49]⟩ : BA)) ++ (⟨#[13, 10]⟩ : BA)) ++ t503) ++ a1) ++ (⟨#[13, 10]⟩ : BA)).size : Int)) = false := decide_eq_false c20; try have c20i0 : decide (400 < (a0_0.size : Int) + 1 + (a0_1.size : Int) + 9 + 2 + (t503.size : Int) + (a1.size : Int) + 2) = false := decide_eq_false (by have h_ := of_decide_eq_false c20b0; have e0_ : (((((((a0_0 ++ (⟨#[32]⟩ : BA)) ++ a0_1) ++ (⟨#[32, 72, 84, 84, 80, 47, 49, 46, 49]⟩ : BA)) ++ (⟨#[13, 10]⟩ : BA)) ++ t503) ++ a1) ++ (⟨#[13, 10]⟩ : BA)).size = a0_0.size + 1 + a0_1.size + 9 + 2 + t503.size + a1.size + 2 := q177_; omega)
          have c20b1 : decide (400 < (((((((a0_0 ++ (⟨#[32]⟩ : BA)) ++ a0_1) ++ (⟨#[32, 72, 84, 84, 80, 47, 49, 46, 49]⟩ : BA)) ++ (⟨#[13, 10]⟩ : BA)) ++ t503) ++ a1) ++ (⟨#[13, 10]⟩ : BA)).size) = false := decide_eq_false (by omega); clear c20; (first | rw [c20b0] | rw [c20i0] | rw [c20b1] | (simp only [i64_w, i32_w]; rw [c20b0]) | skip); by_cases c21 : (((((((a0_0 ++ (⟨#[32]⟩ : BA)) ++ a0_1) ++ (⟨#[32, 72, 84, 84, 80, 47, 49, 46, 49]⟩ : BA)) ++ (⟨#[13, 10]⟩ : BA)) ++ t503) ++ a1) ++ (⟨#[13, 10]⟩ : BA)).size < 140737488355328
          ·rw [if_pos c21] at H; have LMc21 := aK c21; clear c21; (first | (with_reducible replace H := oS H; obtain ⟨y505, Ny505, H⟩ := H) | (generalize hy_ : (bytesOf (((((((a0_0 ++ (⟨#[32]⟩ : BA)) ++ a0_1) ++ (⟨#[32, 72, 84, 84, 80, 47, 49, 46, 49]⟩ : BA)) ++ (⟨#[13, 10]⟩ : BA)) ++ t503) ++ a1) ++ (⟨#[13, 10]⟩ : BA)) : List Int) = y505 at H; have Ny505 := aK hy_.symm; clear hy_)); (try dsimp only at H); by_cases c22 : y505.length + l2.length < 140737488355328
           ·rw [if_pos c22] at H; have LMc22 := aK c22; clear c22; (first | (with_reducible replace H := oS H; obtain ⟨y508, Ny508, H⟩ := H) | (generalize hy_ : (y505 ++ l2 : List Int) = y508 at H; have Ny508 := aK hy_.symm; clear hy_)); (try dsimp only at H); obtain rfl := Option.some.inj H; go_wp2_with (first | ((with_reducible refine gate_ (.convert 9 22 _) rfl ?_); refine Kd.R_conv_str (w0 := w) w.heap.size rfl 9 22 5 _ rfl Tryz.underlying9 Tryz.underlying22 Tryz.underlying5 (((((((a0_0 ++ (⟨#[32]⟩ : BA)) ++ a0_1) ++ (⟨#[32, 72, 84, 84, 80, 47, 49, 46, 49]⟩ : BA)) ++ (⟨#[13, 10]⟩ : BA)) ++ t503) ++ a1) ++ (⟨#[13, 10]⟩ : BA)) (fun _ => True) rfl ?aF ?aO ?aB ?aS ?aL ?_; (case aB => exact q38_); (case aF => exact q117_); (case aO => exact q118_); (case aS => exact (below_size q38_)); (case aL => have := LMc21.1; omega); intro v506 w23 ho hb hg hat; rw [← Ny505.1] at ho; replace BK502 := aK (blk_grown (g := gb502) (o := .cells #[.string a0_0, .string a0_1, .slice A0_2 l0_2.length c0_2, .string a0_3] 53 (0, 0)) q181_ hg (by simp [Value.ownBlock])); replace HB := aK (hb); have HO507 := aK (ho); clear ho hb hg hat) | ((with_reducible refine gate_builtin (b := .append) (xs := #[.tmp 32, .tmp 33]) rfl ?_); (try (refine gate_guard (by rfl) ?_; dsimp only)); at_builtin; refine Kd.R_append_rows (Kd.int .u8) (w0 := w) w.heap.size rfl (.tmp 32) (.tmp 33) 22 5 (.int .u8 0) 1 rfl Tryz.underlying22 info5 rfl (by decide) (by omega) v506 y505 l2 _ _ _ (fun _ => True) (fun _ => False) rfl rfl ?aO ?aR (fun _ _ h => h) (fun _ h => h.elim) ?aF ?aB ?aS ?aL ?_; (case aR => repeat (first | exact (Kd.C_below HR2.1 HB.1) | (with_reducible refine Kd.C_alloc ?_ _) | (with_reducible refine Kd.C_drewN ?_ _) | (with_reducible refine Kd.C_drew ?_))); (case aB => exact q38_); (case aF => exact q117_); (case aO => exact (by (with_reducible repeat (first | apply rA_ | apply rN_ | apply rD_)); exact HO507.1)); (case aS => exact (below_size q38_)); (case aL => have := LMc22.1; omega); intro v509 w24 ho hb hg hat; rw [← Ny508.1] at ho; replace BK502 := aK (blk_grown (g := gb502) (o := .cells #[.string a0_0, .string a0_1, .slice A0_2 l0_2.length c0_2, .string a0_3] 53 (0, 0)) q181_ hg (Kd.R_ne HO507.1 BK502.1 (by decide))); replace HB := aK (hb); have HO510 := aK (ho); clear HO507; clear ho hb hg hat))
            go_ret
            exact ⟨_, q9_, by (with_reducible repeat (first | apply rA_ | apply rN_ | apply rD_)); exact HO510.1, q38_⟩
           ·rw [if_neg c22] at H; exact absurd H (by simp)
          ·rw [if_neg c21] at H; exact absurd H (by simp)
        ·replace c13 := Bool.eq_false_iff.mpr c13; subst c13; rw [if_neg (show ¬ (false = true) by decide)] at H; obtain rfl := Option.some.inj H; go_enter Tryz.func71, Tryz.ntmps71
         try go_wp2_with (first | ((with_reducible refine gate_dst (N := 3) rfl ?_); (try (refine gate_guard (by rfl) ?_; dsimp only)); refine box_event ?hg (N := 3) ?hd (cs := #[.string a0_0, .string a0_1, .slice A0_2 l0_2.length c0_2, .string a0_3]) (t := 53) ?hr ?_; (case hd => rfl); (case hg => rfl); (case hr => exact q20_); intro gb502 hg w25 hbox hb; have BK502 := aK (hbox); have GW502 := aK ((q31_ : w.heap.size ≤ gb502)); have GE502 := aK ((q31_ : w.heap.size ≤ gb502)); replace HB := aK (below_step q1_ hb); clear hb hbox hg))
         replace BK502 := aK (bD_ BK502.1); replace HB := aK (dB_ HB.1); refine start_ (n := 16) (S := fun w' => w'.cell? ⟨gb502, 0, none⟩ = some (.string a0_0) ∧ w'.cell? ⟨gb502, 1, none⟩ = some (.string a0_1) ∧ w'.cell? ⟨gb502, 2, none⟩ = some (.slice A0_2 l0_2.length c0_2) ∧ w'.cell? ⟨gb502, 3, none⟩ = some (.string a0_3)) (ds := []) #[Z, Z, Z, Z, Z, Z, Z, Z, Z, Z, Z, Z, Z, Z, Z, Z] (by kernel_rfl) rfl rfl ⟨(bc_ BK502.1 0).trans rfl, (bc_ BK502.1 1).trans rfl, (bc_ BK502.1 2).trans rfl, (bc_ BK502.1 3).trans rfl⟩ (fun hHeld => ?_); refine with_tabW impl_putReq.tab1 impl_putReq.bits1 (fun HT_ HW_ => ?_); generalize w25.drew = w26 at BK502 HB hHeld ⊢; refine pz_ 0 (some 8) HT_.1 ?_; refine pz_ 3 (some 11) HT_.1 ?_; refine pz_ 8 (some 16) HT_.1 ?_; refine pz_ 12 (some 20) HT_.1 ?_; refine tz_ 1 (some 9) HT_.1 HW_.1 hHeld ?_; refine pz_ 2 (some 10) HT_.1 ?_; refine tz_ 4 (some 12) HT_.1 HW_.1 hHeld ?_; refine pz_ 5 (some 13) HT_.1 ?_; refine pz_ 6 (some 14) HT_.1 ?_; refine pz_ 7 (some 15) HT_.1 ?_; refine tz_ 9 (some 17) HT_.1 HW_.1 hHeld ?_; refine oz_ 10 (some 18) HT_.1 (fun K hK => ?_); refine goes_ Tryz.func97 (by kernel_rfl) rfl #[.slice A0_2 l0_2.length c0_2] (by rfl) rfl rfl q2_ ?_; with_reducible refine (impl_headText.calls k _ _ l0_2 t503 _ ?side1 ?side2 A8.1).mono ?_
         (case side1 => exact q22_); (case side2 => exact q128_); rintro e w27 ⟨rfl, hb⟩; refine ⟨_, rfl, ?_⟩; replace BK502 := aK (bbk_ BK502.1 hb); replace HB := aK (below_step q38_ hb); clear hb; refine hK.out _ _ ⟨(bc_ BK502.1 0).trans rfl, (bc_ BK502.1 1).trans rfl, (bc_ BK502.1 2).trans rfl, (bc_ BK502.1 3).trans rfl⟩ (fun hHeld => ?_); clear hK K; refine nz_ (some 18) ?_; refine pz_ 11 (some 19) HT_.1 ?_; refine pz_ 13 (some 21) HT_.1 ?_; refine pz_ 14 (some 22) HT_.1 ?_; refine pz_ 15 (some 7) HT_.1 ?_; refine done_ (done_of HT_.1 (by kernel_rfl)) ?_; have hcz28 := cel4 BK502.1; try go_wp2_with (first | ((with_reducible refine gate_callee (f := 53) rfl ?_); refine goesL_ (some 24) rfl rfl Tryz.func53 (by kernel_rfl) rfl #[.agg #[.string a0_0, .string a0_1, .slice A0_2 l0_2.length c0_2, .string a0_3]] rfl q2_ ?_; (with_reducible refine (impl_ReqOk.calls k a0_0 a0_1 _ _ l0_2 a0_3 false _ ?side1 ?side2 A12.1).mono ?_); (case side1 => exact q22_); (case side2 => exact q128_); rintro e w29 ⟨rfl, hb⟩; refine ⟨_, rfl, ?_⟩; replace BK502 := aK (bbk_ BK502.1 hb); replace HB := aK (below_step q38_ hb); clear hb))
         go_ret
         exact ⟨_, q9_, q66_, q38_⟩
       ·rw [if_neg c11] at H; exact absurd H (by simp)
      ·rw [if_neg c10] at H; exact absurd H (by simp)
     ·rw [if_neg c9] at H; exact absurd H (by simp)
    ·rw [if_neg c7] at H; exact absurd H (by simp)
   ·rw [if_neg c6] at H; exact absurd H (by simp)
  ·rw [if_neg c5] at H; exact absurd H (by simp)
 ·rw [if_neg c4] at H; exact absurd H (by simp)

def impl_PutReq.f (k : Nat) (a0_0 : ByteArray) (a0_1 : ByteArray) (l0_2 : List (S113)) (a0_3 : ByteArray) : Option (List Int) := if a0_3.toList = ([] : List UInt8) then (if a0_3.size < 140737488355328 then ((impl_putReq.f k a0_0 a0_1 l0_2 a0_3 (⟨#[]⟩ : BA) (bytesOf a0_3)).bind fun t515 => (some t515)) else (none)) else ((impl_lengthText.f a0_3).bind fun t518 => (if a0_3.size < 140737488355328 then ((impl_putReq.f k a0_0 a0_1 l0_2 a0_3 t518 (bytesOf a0_3)).bind fun t522 => (some t522)) else (none)))

theorem impl_PutReq.calls (k : Nat) (a0_0 : ByteArray) (a0_1 : ByteArray) (A0_2 : Option Addr) (c0_2 : Nat) (l0_2 : List (S113)) (a0_3 : ByteArray) (r : List Int) (w : World) (hr0_2 : Kd.C k113 w A0_2 l0_2.length l0_2) (hc0_2 : l0_2.length ≤ c0_2) (h : impl_PutReq.f k a0_0 a0_1 l0_2 a0_3 = some r) (hG : GOK w) :
  Calls Tryz.prog 37 #[.agg #[.string a0_0, .string a0_1, .slice A0_2 l0_2.length c0_2, .string a0_3]] w fun e w' => ∃ v0_ : Value, e = .returned (v0_) ∧ Kd.R (Kd.int .u8) 5 w' w.heap.size (fun _ => True) v0_ r ∧ Below w.heap.size w w' := by
 have hu53 := Tryz.underlying53; have HR0_2 := aK hr0_2; have HC0_2 := aK hc0_2; clear hr0_2 hc0_2; have HB := aK (Below.refl w.heap.size w); have H := h; clear h; unfold impl_PutReq.f at H
 have HC2 := aK H; clear H; go_enter Tryz.func37, Tryz.ntmps37
 go_upto_if 6 with (first | ((with_reducible refine gate_dst (N := 1) rfl ?_); refine box_event ?hg (N := 1) ?hd (cs := #[.string a0_0, .string a0_1, .slice A0_2 l0_2.length c0_2, .string a0_3]) (t := 53) ?hr ?_; (case hd => rfl); (case hg => rfl); (case hr => exact q20_); intro gb511 hg w3 hbox hb; have BK511 := aK (hbox); have GW511 := aK ((q31_ : w.heap.size ≤ gb511)); have GE511 := aK ((q31_ : w.heap.size ≤ gb511)); replace HB := aK (below_step q1_ hb); clear hb hbox hg; have hcz4 := cel4 BK511.1))
 (try simp only [Act.put, sI, sZ, sS]); have H := HC2.1; clear HC2; by_cases c5 : a0_3.toList = ([] : List UInt8)
 ·rw [if_pos c5] at H; have c5b0 := beq_iff_eq.mpr c5; have c5b1 : (a0_3.toList != ([] : List UInt8)) = false := bne_eq_false_iff_eq.mpr c5; clear c5; (first | rw [c5b0] | rw [c5i0] | rw [show a0_3.toList.isEmpty = true from (by simpa using c5b0)] | (simp only [i64_w, i32_w]; rw [c5b0]) | skip); by_cases c6 : a0_3.size < 140737488355328
  ·rw [if_pos c6] at H; have LMc6 := aK c6; clear c6; (first | (with_reducible replace H := oS H; obtain ⟨y512, Ny512, H⟩ := H) | (generalize hy_ : (bytesOf a0_3 : List Int) = y512 at H; have Ny512 := aK hy_.symm; clear hy_)); (try dsimp only at H); replace H := oB H; obtain ⟨t515, A7, H⟩ := H; (try dsimp only at H); obtain rfl := Option.some.inj H; have hcz8 := cel4 BK511.1; go_wp2_with (first | ((with_reducible refine gate_ (.convert 9 22 _) rfl ?_); refine Kd.R_conv_str (w0 := w) w.heap.size rfl 9 22 5 _ rfl Tryz.underlying9 Tryz.underlying22 Tryz.underlying5 a0_3 (fun _ => True) rfl ?aF ?aO ?aB ?aS ?aL ?_; (case aB => exact q37_); (case aF => exact q117_); (case aO => exact q118_); (case aS => exact (below_size q37_)); (case aL => have := LMc6.1; omega); intro v513 w9 ho hb hg hat; rw [← Ny512.1] at ho; replace BK511 := aK (blk_grown (g := gb511) (o := .cells #[.string a0_0, .string a0_1, .slice A0_2 l0_2.length c0_2, .string a0_3] 53 (0, 0)) q180_ hg (by simp [Value.ownBlock])); replace HB := aK (hb); have HO514 := aK (ho); clear ho hb hg hat; obtain ⟨Ao10, co10, eo10⟩ := Kd.R_slice HO514.1; subst eo10) | ((with_reducible refine gate_callee (f := 71) rfl ?_); refine goesL_ (some 15) rfl rfl Tryz.func71 (by kernel_rfl) rfl #[.agg #[.string a0_0, .string a0_1, .slice A0_2 l0_2.length c0_2, .string a0_3], .string (⟨#[]⟩ : BA), .slice Ao10 y512.length co10] rfl q2_ ?_; (with_reducible refine (impl_putReq.calls k a0_0 a0_1 _ _ l0_2 a0_3 (⟨#[]⟩ : BA) _ _ y512 t515 _ ?side1 ?side2 ?side3 ?side4 A7.1).mono ?_); (case side1 => exact q22_); (case side2 => exact q128_); (case side3 => repeat (first | exact (Kd.R_reads' HO514.1).2.2 | (with_reducible refine Kd.C_alloc ?_ _) | (with_reducible refine Kd.C_drewN ?_ _) | (with_reducible refine Kd.C_drew ?_))); (case side4 => exact (Kd.R_reads' HO514.1).2.1); rintro e w11 ⟨v516, rfl, ho0, hb⟩; refine ⟨_, rfl, ?_⟩; have HO517 := aK (Kd.R_lower (Kd.R_new' ho0 (Kd.R_lt (by (with_reducible repeat (first | apply rA_ | apply rN_ | apply rD_)); exact HO514.1))) (below_size q37_)); replace HO514 := aK (Kd.R_elder' (by (with_reducible repeat (first | apply rA_ | apply rN_ | apply rD_)); exact HO514.1) (Kd.R_base ho0) hb); replace BK511 := aK (bbk_ BK511.1 hb); replace HB := aK (below_step q37_ hb); clear hb ho0))
   go_ret
   exact ⟨_, q9_, by (with_reducible repeat (first | apply rA_ | apply rN_ | apply rD_)); exact Kd.R_mono HO517.1 (fun _ hk => trivial), q37_⟩
  ·rw [if_neg c6] at H; exact absurd H (by simp)
 ·rw [if_neg c5] at H; have c5b0 := beq_eq_false_iff_ne.mpr c5; have c5b1 : (a0_3.toList != ([] : List UInt8)) = true := bne_iff_ne.mpr c5; (first | rw [c5b0] | rw [c5i0] | rw [show a0_3.toList.isEmpty = false from (by simpa using c5b0)] | (simp only [i64_w, i32_w]; rw [c5b0]) | skip); replace H := oB H; obtain ⟨t518, A12, H⟩ := H; (try dsimp only at H); by_cases c13 : a0_3.size < 140737488355328
  ·rw [if_pos c13] at H; have LMc13 := aK c13; clear c13; (first | (with_reducible replace H := oS H; obtain ⟨y519, Ny519, H⟩ := H) | (generalize hy_ : (bytesOf a0_3 : List Int) = y519 at H; have Ny519 := aK hy_.symm; clear hy_)); (try dsimp only at H); replace H := oB H; obtain ⟨t522, A14, H⟩ := H; (try dsimp only at H); obtain rfl := Option.some.inj H; have hcz15 := cel4 BK511.1; go_wp2_with (first | ((with_reducible refine gate_callee (f := 70) rfl ?_); refine goesL_ (some 9) rfl rfl Tryz.func70 (by kernel_rfl) rfl #[.string a0_3] rfl q2_ ?_; (with_reducible refine (impl_lengthText.calls a0_3 t518 _ A12.1 ?side99).mono ?_); (case side99 => first | (with_reducible exact hG) | (refine GOK_below hG ?_; (repeat (first | (with_reducible first | exact HB.1 | apply aB_ | apply pN_ | apply dB_ | refine sB_ ?_ GE511.1) | exact HB.1)); done) | (refine GOK_drawn hG ?_; (repeat (first | exact Drawn0.refl _ | apply Drawn0.step)); done) | exact hG); rintro e w16 ⟨rfl, hb⟩; refine ⟨_, rfl, ?_⟩; replace BK511 := aK (bbk_ BK511.1 hb); replace HB := aK (below_step q37_ hb); clear hb; have hcz17 := cel4 BK511.1) | ((with_reducible refine gate_ (.convert 9 22 _) rfl ?_); refine Kd.R_conv_str (w0 := w) w.heap.size rfl 9 22 5 _ rfl Tryz.underlying9 Tryz.underlying22 Tryz.underlying5 a0_3 (fun _ => True) rfl ?aF ?aO ?aB ?aS ?aL ?_; (case aB => exact q37_); (case aF => exact q117_); (case aO => exact q118_); (case aS => exact (below_size q37_)); (case aL => have := LMc13.1; omega); intro v520 w18 ho hb hg hat; rw [← Ny519.1] at ho; replace BK511 := aK (blk_grown (g := gb511) (o := .cells #[.string a0_0, .string a0_1, .slice A0_2 l0_2.length c0_2, .string a0_3] 53 (0, 0)) q180_ hg (by simp [Value.ownBlock])); replace HB := aK (hb); have HO521 := aK (ho); clear ho hb hg hat; obtain ⟨Ao19, co19, eo19⟩ := Kd.R_slice HO521.1; subst eo19) | ((with_reducible refine gate_callee (f := 71) rfl ?_); refine goesL_ (some 15) rfl rfl Tryz.func71 (by kernel_rfl) rfl #[.agg #[.string a0_0, .string a0_1, .slice A0_2 l0_2.length c0_2, .string a0_3], .string t518, .slice Ao19 y519.length co19] rfl q2_ ?_; (with_reducible refine (impl_putReq.calls k a0_0 a0_1 _ _ l0_2 a0_3 t518 _ _ y519 t522 _ ?side1 ?side2 ?side3 ?side4 A14.1).mono ?_); (case side1 => exact q22_); (case side2 => exact q128_); (case side3 => repeat (first | exact (Kd.R_reads' HO521.1).2.2 | (with_reducible refine Kd.C_alloc ?_ _) | (with_reducible refine Kd.C_drewN ?_ _) | (with_reducible refine Kd.C_drew ?_))); (case side4 => exact (Kd.R_reads' HO521.1).2.1); rintro e w20 ⟨v523, rfl, ho0, hb⟩; refine ⟨_, rfl, ?_⟩; have HO524 := aK (Kd.R_lower (Kd.R_new' ho0 (Kd.R_lt (by (with_reducible repeat (first | apply rA_ | apply rN_ | apply rD_)); exact HO521.1))) (below_size q37_)); replace HO521 := aK (Kd.R_elder' (by (with_reducible repeat (first | apply rA_ | apply rN_ | apply rD_)); exact HO521.1) (Kd.R_base ho0) hb); replace BK511 := aK (bbk_ BK511.1 hb); replace HB := aK (below_step q37_ hb); clear hb ho0))
   go_ret
   exact ⟨_, q9_, by (with_reducible repeat (first | apply rA_ | apply rN_ | apply rD_)); exact Kd.R_mono HO524.1 (fun _ hk => trivial), q37_⟩
  ·rw [if_neg c13] at H; exact absurd H (by simp)

def impl_copyInts.f (l0 : List Int) : Option (List Int) := if ([] : List Int).length + l0.length < 17592186044416 then (some (([] : List Int) ++ l0)) else (none)
theorem impl_copyInts.calls (A0 : Option Addr) (c0 : Nat) (l0 : List Int) (r : List Int) (w : World) (hr0 : Kd.C (Kd.int .i64) w A0 l0.length l0) (hc0 : l0.length ≤ c0) (h : impl_copyInts.f l0 = some r) :
  Calls Tryz.prog 78 #[.slice A0 l0.length c0] w fun e w' => ∃ v0_ : Value, e = .returned (v0_) ∧ Kd.R (Kd.int .i64) 3 w' w.heap.size (fun _ => True) v0_ r ∧ Below w.heap.size w w' := by
 have HR0 := aK hr0; have HC0 := aK hc0; clear hr0 hc0; have HB := aK (Below.refl w.heap.size w); have H := h; clear h; unfold impl_copyInts.f at H
 by_cases c2 : ([] : List Int).length + l0.length < 17592186044416
 ·rw [if_pos c2] at H; have LMc2 := aK c2; clear c2; (first | (with_reducible replace H := oS H; obtain ⟨y525, Ny525, H⟩ := H) | (generalize hy_ : (([] : List Int) ++ l0 : List Int) = y525 at H; have Ny525 := aK hy_.symm; clear hy_)); (try dsimp only at H); obtain rfl := Option.some.inj H; go_enter Tryz.func78, Tryz.ntmps78
  go_wp2_with (first | ((with_reducible refine gate_builtin (b := .append) (xs := #[.const (.slice none 0 0), .tmp 3]) rfl ?_); at_builtin; refine Kd.R_append_rows (Kd.int .i64) (w0 := w) w.heap.size rfl (.const (.slice none 0 0)) (.tmp 3) 55 3 (.int .i64 0) 8 rfl Tryz.underlying55 info3 rfl (by decide) (by omega) (.slice none 0 0) ([] : List Int) l0 _ _ _ (fun _ => True) (fun _ => False) rfl rfl ?aO ?aR (fun _ _ h => h) (fun _ h => h.elim) ?aF ?aB ?aS ?aL ?_; (case aR => exact q86_); (case aB => exact q1_); (case aF => exact q117_); (case aO => exact q118_); (case aS => exact q184_); (case aL => have := LMc2.1; omega); intro v526 w3 ho hb hg hat; rw [← Ny525.1] at ho; replace HB := aK (hb); have HO527 := aK (ho); clear ho hb hg hat))
  go_ret
  exact ⟨_, q9_, by (with_reducible repeat (first | apply rA_ | apply rN_ | apply rD_)); exact HO527.1, q1_⟩
 ·rw [if_neg c2] at H; exact absurd H (by simp)


section
open Go.Sort Go.Lib
def hexb (d : Nat) : UInt8 := UInt8.ofNat (if d < 10 then 48 + d else 87 + d)
def hexB (u : Nat) : List UInt8 := if h : u < 16 then [hexb u] else hexB (u / 16) ++ [hexb (u % 16)]
termination_by u
decreasing_by omega
structure HexInv (u v i : Nat) (dk : Array UInt8) : Prop where
 size : dk.size = 65
 lo : 49 < i
 hi : i ≤ 65
 small : v < 16 ^ (i - 49)
 done : hexB u = hexB v ++ dk.toList.drop i
theorem HexInv.start (u : Nat) (h : u < 18446744073709551616) : HexInv u u 65 (Array.replicate 65 0) :=
 ⟨by simp, by omega, by omega, by simpa using h, by simp⟩
theorem drop_set_ (l : List UInt8) (i : Nat) (x : UInt8) (h : i < l.length) : (l.set i x).drop i = x :: l.drop (i + 1) := by
 rw [List.drop_eq_getElem_cons (by simpa using h)]; simp [List.drop_set]
theorem HexInv.step {u v i : Nat} {dk : Array UInt8} (h : HexInv u v i dk) (hv : 16 ≤ v) : HexInv u (v / 16) (i - 1) (dk.setIfInBounds (i - 1) (hexb (v % 16))) := by
 obtain ⟨h1, h2, h3, h4, h5⟩ := h; have h6 : 51 ≤ i := by
  rcases Nat.lt_or_ge 50 i with h | h
  ·exact h
  ·rw [show i - 49 = 1 by omega] at h4; omega
 have hl : dk.toList.length = 65 := by simpa using h1
 refine ⟨by simpa using h1, by omega, by omega, ?_, ?_⟩
 ·rw [show i - 49 = (i - 1 - 49) + 1 by omega, Nat.pow_succ] at h4; omega
 ·rw [h5, hexB, dif_neg (by omega), Array.toList_setIfInBounds, drop_set_ _ _ _ (by omega), show i - 1 + 1 = i by omega, List.append_assoc]; rfl
theorem HexInv.last {u v i : Nat} {dk : Array UInt8} (h : HexInv u v i dk) (hv : v < 16) : hexB u = (dk.setIfInBounds (i - 1) (hexb v)).toList.drop (i - 1) := by
 obtain ⟨h1, h2, h3, h4, h5⟩ := h; have hl : dk.toList.length = 65 := by simpa using h1
 rw [h5, hexB, dif_pos hv, Array.toList_setIfInBounds, drop_set_ _ _ _ (by omega), show i - 1 + 1 = i by omega]; rfl
theorem hex36 : ∀ j : Fin 16, Lib.digits36.data.toList.getD j.val 0 = hexb j.val := by decide +kernel
theorem idx_hex {P : Program} (t : TypeId) (ht : P.underlying t = some .string) (k : IntKind) (z : Int) (i : Nat) (hz : z = (i : Int)) (hi : i < 16) (w : World) :
  (Instr.index t (.string Lib.digits36) (.int k z)).run P w = .ok (.int .u8 ((hexb i).toNat : Int)) w := by
 subst hz; rw [run_index_string w t Lib.digits36 k _ ht, dif_pos ⟨by omega, by rw [Lib.digits36_size]; omega⟩]; have e : ((i : Int)).toNat = i := by omega
 simp only [e]; rw [Lib.getD_at, hex36 ⟨i, hi⟩]
theorem and15 (v : Nat) (h : v < 18446744073709551616) : bits .and .u64 (v : Int) 15 = ((v % 16 : Nat) : Int) := by
 have e := bits_and_u64_nat v 15 h (by decide); rw [show ((15 : Nat) : Int) = 15 from rfl] at e; rw [e, show (15 : Nat) = 2 ^ 4 - 1 from rfl, Nat.and_two_pow_sub_one_eq_mod]
def debTab : List Int := [0, 1, 56, 2, 57, 49, 28, 3, 61, 58, 42, 50, 38, 29, 17, 4, 62, 47, 59, 36, 45, 43, 51, 22, 53, 39, 33, 30, 24, 18, 12, 5, 63, 55, 48, 27, 60, 41, 37, 16, 46, 35, 44, 21, 52, 32, 23, 11, 54, 26, 40, 15, 34, 20, 31, 10, 25, 14, 19, 9, 13, 8, 7, 6]
theorem hx_pow (w : World) : Calls Tryz.prog 165 #[.int .i64 16] w fun e w' => e = .returned (.bool true) ∧ w' = w := by
 go_enter Tryz.func165, Tryz.ntmps165
 go_wp2
 go_ret
 exact ⟨rfl, rfl⟩
theorem hx_tz64 (w : World) (htab : Lib.TabIs Tryz.prog w "math/bits.deBruijn64tab" .u8 debTab) : Calls Tryz.prog 179 #[.int .u64 16] w fun e w' => e = .returned (.int .i64 4) ∧ w' = w := by
 have hg : Tryz.prog.globalNamed "math/bits.deBruijn64tab" = some 3 := by kernel_rfl
 have hcell : w.cell? ⟨3, 15, none⟩ = some (.int .u8 4) := by
  rw [htab.cell hg 15 (by decide)]; rfl
 have hb : bits BinOp.and IntKind.u64 16 (IntKind.u64.wrap (-16)) = 16 := by decide +kernel
 have hw1 : IntKind.u64.wrap (16 * 285870213051353865) / 288230376151711744 = 15 := by decide +kernel
 have hw2 : IntKind.u64.wrap 4573923408821661840 / 288230376151711744 = 15 := by decide +kernel
 go_enter Tryz.func179, Tryz.ntmps179
 go_wp2
 go_ret
 exact ⟨rfl, rfl⟩
theorem hx_tz (w : World) (htab : Lib.TabIs Tryz.prog w "math/bits.deBruijn64tab" .u8 debTab) : Calls Tryz.prog 166 #[.int .u64 16] w fun e w' => e = .returned (.int .i64 4) ∧ w' = w := by
 go_enter Tryz.func166, Tryz.ntmps166
 go_wp2_with (go_at_call 179; refine (hx_tz64 _ htab).mono ?_; rintro e w' ⟨rfl, rfl⟩)
 go_ret
 exact ⟨rfl, rfl⟩

def zeros65 : Array Value := #[Value.int .u8 0, Value.int .u8 0, Value.int .u8 0, Value.int .u8 0, Value.int .u8 0, Value.int .u8 0, Value.int .u8 0, Value.int .u8 0, Value.int .u8 0, Value.int .u8 0, Value.int .u8 0, Value.int .u8 0, Value.int .u8 0, Value.int .u8 0, Value.int .u8 0, Value.int .u8 0, Value.int .u8 0, Value.int .u8 0, Value.int .u8 0, Value.int .u8 0, Value.int .u8 0, Value.int .u8 0, Value.int .u8 0, Value.int .u8 0, Value.int .u8 0, Value.int .u8 0, Value.int .u8 0, Value.int .u8 0, Value.int .u8 0, Value.int .u8 0, Value.int .u8 0, Value.int .u8 0, Value.int .u8 0, Value.int .u8 0, Value.int .u8 0, Value.int .u8 0, Value.int .u8 0, Value.int .u8 0, Value.int .u8 0, Value.int .u8 0, Value.int .u8 0, Value.int .u8 0, Value.int .u8 0, Value.int .u8 0, Value.int .u8 0, Value.int .u8 0, Value.int .u8 0, Value.int .u8 0, Value.int .u8 0, Value.int .u8 0, Value.int .u8 0, Value.int .u8 0, Value.int .u8 0, Value.int .u8 0, Value.int .u8 0, Value.int .u8 0, Value.int .u8 0, Value.int .u8 0, Value.int .u8 0, Value.int .u8 0, Value.int .u8 0, Value.int .u8 0, Value.int .u8 0, Value.int .u8 0, Value.int .u8 0]
theorem zeros65_at (i : Nat) (h : i < 65) : zeros65[i]? = some (.int .u8 0) := by
 have e : zeros65 = Array.replicate 65 (.int .u8 0) := rfl; rw [e, Array.getElem?_replicate, if_pos h]
abbrev encB : UInt8 → Value := fun b => Value.int .u8 (b.toNat : Int)
theorem holds65 (w : World) (T : TypeId) : Holds encB (w.alloc (.cells zeros65 T)) w.heap.size 0 (Array.replicate 65 (0 : UInt8)) := fun j hj => by
 have hj' : j < 65 := by simpa using hj
 refine ⟨?_, World.frozen?_alloc_new _ _ _ _⟩; rw [World.cell?_alloc_new, zeros65_at _ (by omega), getElem!_pos _ j hj]; simp
set_option maxHeartbeats 12800000 in
theorem hx_bits (u : Nat) (hu : u < 18446744073709551616) (w : World) (htab : Lib.TabIs Tryz.prog w "math/bits.deBruijn64tab" .u8 debTab) :
  Calls Tryz.prog 153 #[.slice none 0 0, .int .u64 u, .int .i64 16, .bool false, .bool false] w fun e w' => e = .returned (.tuple #[.slice none 0 0, .string ⟨(hexB u).toArray⟩]) ∧ Below w.heap.size w w' := by
 have htab' := Lib.tabIs_alloc htab (.cells zeros65 155); go_enter Tryz.func153, Tryz.ntmps153
 go_name_bytes_deep 40 PM hPM
 clear hPM; go_name_bytes_deep 30 DG hDG
 have eDG : DG = Lib.digits36 := by rw [← hDG]; decide +kernel
 subst eDG; clear hDG; go_wp2_with (first | (go_at_call 165; refine (hx_pow _).mono ?_; rintro e w' ⟨rfl, rfl⟩) | (go_at_call 166; refine (hx_tz _ htab').mono ?_; rintro e w' ⟨rfl, rfl⟩))
 have hHx1 := Lib.hid (holds65 w 155); go_loopw [1, 13] (fun vu vi wr => ∃ (v i n : Nat) (dk : Array UInt8), vu = .int .u64 v ∧ vi = .int .i64 i ∧ wr = (putRow encB (w.alloc (.cells zeros65 155)) w.heap.size 0 dk).drewN n ∧ Hid (HexInv u v i dk)) (fun _ vi _ => (RowKit.intOf vi).toNat)
 case atStart => exact ⟨u, 65, 0, Array.replicate 65 0, rfl, rfl, (putRow_self _ _ _ _ _ hHx1.out).symm, Lib.hid (HexInv.start u hu)⟩
 case round =>
  obtain ⟨v, i, n, dk, rfl, rfl, hw0, hHx0⟩ := hrel; rename World => W0
  obtain ⟨m, rfl⟩ : ∃ m, i = m + 1 := ⟨i - 1, by have := hHx0.out.lo; omega⟩; have hv64 : v < 18446744073709551616 := by
   have h1 := hHx0.out.small; have h2 : 16 ^ (m + 1 - 49) ≤ 16 ^ 16 := Nat.pow_le_pow_right (by decide) (by have := hHx0.out.hi; omega); have h3 : (16 : Nat) ^ 16 = 18446744073709551616 := by decide
   omega
  have hm : m < 65 := by have := hHx0.out.hi; omega
  have hs0 := hHx0.out.size; have hH0 : Holds encB W0 w.heap.size 0 dk := by rw [hw0]; exact holds_putRow _ _ _ _ _ dk hHx1.out (by rw [hs0]; simp)
  obtain ⟨G0, hG0⟩ : ∃ G : Nat → Int, ∀ t, G t = (dk[t]!.toNat : Int) := ⟨_, fun _ => rfl⟩; have hc0 : ∀ t, t < 65 → W0.cell? ⟨w.heap.size, t, none⟩ = some (.int .u8 (G0 t)) := fun t ht => by rw [hG0]; have := (hH0 t (by omega)).1; rwa [Nat.zero_add] at this
  have hf0 : ∀ t, t < 65 → W0.frozen? ⟨w.heap.size, t, none⟩ = false := fun t ht => by have := (hH0 t (by omega)).2; rwa [Nat.zero_add] at this
  have AW0 := Lib.hid hw0; clear hw0 hG0 hH0; by_cases hv : 16 ≤ v
  ·have hand : bits .and .u64 (v : Int) 15 = (v : Int) % 16 := by rw [and15 v hv64]; omega
   have hidx : ∀ W, (Instr.index 9 (.string Lib.digits36) (.int .u64 ((v : Int) % 16))).run Tryz.prog W = .ok (.int .u8 ((hexb (v % 16)).toNat : Int)) W := idx_hex 9 Tryz.underlying9 .u64 _ _ (by omega) (Nat.mod_lt _ (by decide)); go_wp2
   refine ⟨⟨v / 16, m, n, dk.setIfInBounds m (hexb (v % 16)), by congr 1, rfl, ?_, Lib.hid (hHx0.out.step hv)⟩, by simp [RowKit.intOf]⟩; rw [AW0.out]; have h1 := store1_world (w.alloc (.cells zeros65 155)) w.heap.size 0 dk n m (hexb (v % 16)) (by omega); rwa [Nat.zero_add] at h1
  ·have hidx : ∀ W, (Instr.index 9 (.string Lib.digits36) (.int .u64 (v : Int))).run Tryz.prog W = .ok (.int .u8 ((hexb v).toNat : Int)) W := idx_hex 9 Tryz.underlying9 .u64 _ _ rfl (by omega); have hw1 : W0.setCell ⟨w.heap.size, m, none⟩ (.int .u8 ((hexb v).toNat : Int)) = (putRow encB (w.alloc (.cells zeros65 155)) w.heap.size 0 (dk.setIfInBounds m (hexb v))).drewN n := by
    rw [AW0.out]; have h1 := store1_world (w.alloc (.cells zeros65 155)) w.heap.size 0 dk n m (hexb v) (by omega); rwa [Nat.zero_add] at h1
   have HL : hexB u = (dk.setIfInBounds m (hexb v)).toList.drop m := hHx0.out.last (by omega); have hl : (hexB u).length = 65 - m := by rw [HL, List.length_drop, Array.length_toList, Array.size_setIfInBounds, hs0]
   have hcv : (convert 22 9 (.slice (some ⟨w.heap.size, m, none⟩) (65 - m) (65 - m))).run Tryz.prog (W0.setCell ⟨w.heap.size, m, none⟩ (.int .u8 ((hexb v).toNat : Int))) = .ok (.string ⟨(hexB u).toArray⟩) (W0.setCell ⟨w.heap.size, m, none⟩ (.int .u8 ((hexb v).toNat : Int))) := by
    have h := run_convert_bytes_back (P := Tryz.prog) (W0.setCell ⟨w.heap.size, m, none⟩ (.int .u8 ((hexb v).toNat : Int))) 22 9 5 ⟨w.heap.size, m, none⟩ (65 - m) (hexB u) Tryz.underlying22 Tryz.underlying5 Tryz.underlying9 (fun j hj => by
     have hj2 : m + j < 65 := by omega
     have h2 := cell?_putRow encB (w.alloc (.cells zeros65 155)) w.heap.size 0 _ (dk.setIfInBounds m (hexb v)) hHx1.out (by simp [hs0]) (m + j) (by simp [hs0]; omega); rw [Nat.zero_add] at h2; rw [Lib.add_plain, hw1, World.cell?_drewN, h2]; have h3 : (dk.setIfInBounds m (hexb v))[m + j]! = (hexB u)[j] := by
      rw [getElem!_pos _ _ (by simp [hs0]; omega)]; simp only [HL, List.getElem_drop, Array.getElem_toList]
     rw [← h3])
    rw [hl] at h; exact h
   rw [hw1] at hcv; have hal : Tryz.prog.arrayLen 155 = 65 := by kernel_rfl
   have hsl : ∀ W, (Instr.sliceAt 155 (.pointer (some ⟨w.heap.size, 0, none⟩)) (some (.int .i64 (m : Int))) none none).run Tryz.prog W = .ok (.slice (some ⟨w.heap.size, m, none⟩) (65 - m) (65 - m)) W := fun W => by
    rw [run_sliceAt_array_l W 155 ⟨w.heap.size, 0, none⟩ (by simp [Program.arrayLen, Program.elem, Tryz.underlying155]) .i64 (m : Int) (by omega) (by rw [hal]; omega)]; go_simp
    omega
   clear hal HL hl; go_wp2
   go_ret2
   refine ⟨rfl, ?_⟩; rw [alloc_eq_grow]; obtain ⟨os', _, e⟩ := putRow_grow_new encB w #[.cells zeros65 155] w.heap.size 0 (dk.setIfInBounds m (hexb v)) (Nat.le_refl _); rw [e]; exact Lib.below_grow _ w (Nat.le_refl _) n os'
theorem hx_format (u : Nat) (hu : u < 9223372036854775808) (w : World) (htab : Lib.TabIs Tryz.prog w "math/bits.deBruijn64tab" .u8 debTab) :
  Calls Tryz.prog 129 #[.int .i64 u, .int .i64 16] w fun e w' => e = .returned (.string ⟨(hexB u).toArray⟩) ∧ Below w.heap.size w w' := by
 have hwr : IntKind.u64.wrap (u : Int) = (u : Int) := by rw [IntKind.wrap_u64]; omega
 have hb := hx_bits u (by omega) w htab; go_enter Tryz.func129, Tryz.ntmps129
 go_wp2_with (go_at_call 153; refine hb.mono ?_; rintro e w' ⟨rfl, hB⟩)
 go_ret
 exact ⟨rfl, hB⟩
theorem hx_public (u : Nat) (hu : u < 9223372036854775808) (w : World) (htab : Lib.TabIs Tryz.prog w "math/bits.deBruijn64tab" .u8 debTab) :
  Calls Tryz.prog 102 #[.int .i64 u, .int .i64 16] w fun e w' => e = .returned (.string ⟨(hexB u).toArray⟩) ∧ Below w.heap.size w w' := by
 go_enter Tryz.func102, Tryz.ntmps102
 go_wp2_with (go_at_call 129; refine (hx_format u hu w htab).mono ?_; rintro e w' ⟨rfl, hB⟩)
 go_ret
 exact ⟨rfl, hB⟩
end
def strconv_FormatInt.f (a0 : Int) (a1 : Int) : Option ByteArray := if 0 ≤ a0 ∧ a0 ≤ 9223372036854775807 ∧ a1 = 16 then some ⟨(hexB a0.toNat).toArray⟩ else none
theorem strconv_FormatInt.calls (a0 : Int) (a1 : Int) (r : ByteArray) (w : World) (h : strconv_FormatInt.f a0 a1 = some r) (hG : GOK w) :
  Calls Tryz.prog 102 #[.int .i64 a0, .int .i64 a1] w fun e w' => e = .returned (.string r) ∧ Below w.heap.size w w' := by
 unfold strconv_FormatInt.f at h
 split at h
 ·rename_i hs
  obtain ⟨h0, h1, rfl⟩ := hs; obtain rfl := Option.some.inj h; have hp := hx_public a0.toNat (by omega) w hG.deb; rw [Int.toNat_of_nonneg h0] at hp; exact hp
 ·cases h

def impl_Hex.f (a0 : Int) : Option (ByteArray) := (strconv_FormatInt.f (mx a0 0) 16).bind fun t528 => (some t528)
theorem impl_Hex.calls (a0 : Int) (r : ByteArray) (w : World) (h : impl_Hex.f a0 = some r) (hG : GOK w) :
  Calls Tryz.prog 79 #[.int .i64 a0] w fun e w' => e = .returned (.string r) ∧ Below w.heap.size w w' := by
 have HB := aK (Below.refl w.heap.size w); have H : ((strconv_FormatInt.f (mx a0 0) 16).bind fun t528 => (some t528)) = some r := h; clear h; obtain ⟨ji2, hji2⟩ : ∃ j_ : Int, (mx a0 0) = j_ := ⟨_, rfl⟩; replace H : ((strconv_FormatInt.f (ji2) 16).bind fun t528 => (some t528)) = some r := q169_; (try (have hji2l : 0 ≤ ji2 := by (rw [← hji2]; unfold mx; (repeat' split) <;> omega))); (try (have hji2m : 0 ≤ ji2 := by omega)); have hji2_ : (if a0 < 0 then 0 else a0) = ji2 := hji2; replace H := oB H; obtain ⟨t528, A3, H⟩ := H; (try dsimp only at H); obtain rfl := Option.some.inj H; go_enter Tryz.func79, Tryz.ntmps79
 go_wp2_with (first | ((with_reducible refine gate_callee (f := 102) rfl ?_); refine goesL_ (some 5) rfl rfl Tryz.func102 (by kernel_rfl) rfl #[.int .i64 ji2, .int .i64 16] rfl q100_ ?_; (with_reducible refine (strconv_FormatInt.calls ji2 16 t528 _ A3.1 ?side99).mono ?_); (case side99 => exact q16_); rintro e w4 ⟨rfl, hb⟩; refine ⟨_, rfl, ?_⟩; replace HB := aK (below_step q1_ hb); clear hb))
 go_ret
 exact ⟨q98_, q1_⟩

end Go.Proofs.YtaajhdljdmbhhaaGreatDoor.GFnPipes
