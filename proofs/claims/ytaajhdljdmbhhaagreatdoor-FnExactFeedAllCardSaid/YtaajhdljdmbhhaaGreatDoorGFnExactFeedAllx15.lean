-- by gprint.py (this session's program over the kit's print.py) (a twelfth state) out of the translation. Not trusted: Lean checks it.
import Derived.Test.YtaajhdljdmbhhaaGreatDoorGFnExactFeedAllx0
import Derived.Test.YtaajhdljdmbhhaaGreatDoorGFnExactFeedAllx12
import Derived.Test.YtaajhdljdmbhhaaGreatDoorGFnExactFeedAllx13
import Derived.Test.YtaajhdljdmbhhaaGreatDoorGFnExactFeedAllx14
namespace Go.Proofs.YtaajhdljdmbhhaaGreatDoor.GFnExactFeedAll
open Go.RowKit Go.Proofs.YtaajhdljdmbhhaaGreatDoorW.PrintWords Go.Proofs.YtaajhdljdmbhhaaGreatDoorW.PrintLast Go.Proofs.YtaajhdljdmbhhaaGreatDoorW.PrintMore
attribute [local go_sem] max2_int min2_int max_two min_two max_three min_three max_four min_four   -- for this text's walks alone
set_option linter.unusedVariables false
set_option linter.unusedSimpArgs false
set_option maxRecDepth 100000
set_option maxHeartbeats 8000000

def impl_SmallName.l0 : Nat → ByteArray → Int → Option (Bool)
 | 0, _, _ => none
 | k + 1, x0, x3 => if x3 < (x0.size : Int) then (if 0 ≤ x3 then ((impl_isSmall.f (bt x0 x3)).bind fun t396 => (if t396 = true then (impl_SmallName.l0 k x0 (wrap64 (x3 + 1))) else (if x3 = 0 then (some false) else ((impl_isDigit.f (bt x0 x3)).bind fun t397 => (if t397 = true then (impl_SmallName.l0 k x0 (wrap64 (x3 + 1))) else (if (bt x0 x3) = 45 then (impl_SmallName.l0 k x0 (wrap64 (x3 + 1))) else (some false))))))) else (none)) else ((impl_in.f (x0.size : Int) 1 20).bind fun t395 => (some t395))
def impl_SmallName.f (k : Nat) (a0 : ByteArray) : Option (Bool) := impl_SmallName.l0 k a0 0

theorem impl_SmallName.calls (k : Nat) (a0 : ByteArray) (r : Bool) (w : World) (h : impl_SmallName.f k a0 = some r) :
  Calls Tryz.prog 116 #[.string a0] w fun e w' => e = .returned (.bool r) ∧ Drawn0 w w' := by
 have H : (impl_SmallName.l0 k a0 0) = some r := h; clear h; have H' := aK H; clear H; go_enter Tryz.func116, Tryz.ntmps116
 go_wp2
 go_loopg [3] k (fun kq v3 w' => ∃ (x3_1 : Int), v3 = .int .i64 x3_1 ∧ Aside0 (impl_SmallName.l0 kq a0 x3_1 = some r) ∧ Aside0 (kq ≤ k) ∧ Drawn0 w w')
 case atStart => exact ⟨(0), q2_, H', ⟨Nat.le_refl _⟩, q5_⟩
 case round =>
  clear H'; (try clear c1); obtain ⟨x3_1, rfl, HA, HK1, ⟨m1, rfl⟩⟩ := hrel; cases gk with
  | zero => exact absurd HA.1 (by simp [impl_SmallName.l0])
  | succ k1 =>
   have H := HA.1; clear HA; simp only [impl_SmallName.l0] at H; by_cases c2 : x3_1 < (a0.size : Int)
   ·rw [if_pos c2] at H; have c2b0 := decide_eq_true c2; clear c2; by_cases c3 : 0 ≤ x3_1
    ·rw [if_pos c3] at H; have c3b0 := decide_eq_true c3; clear c3; replace H := oB H; obtain ⟨t396, A5, H⟩ := H; (try dsimp only at H); by_cases c6 : t396 = true
     ·subst c6; rw [if_pos rfl] at H; have H' := aK H; clear H; have p4 : 0 ≤ (x3_1 : Int) := of_decide_eq_true q4_; have q4 : x3_1 < (a0.size : Int) := of_decide_eq_true q4_; have hx4 := bt_at a0 x3_1; replace p4 := eq_true p4; replace q4 := eq_true q4; go_wp2_with (first | ((with_reducible refine gate_callee (f := 143) rfl ?_); refine goesL_ (some 13) rfl rfl Tryz.func143 (by kernel_rfl) rfl #[.int .u8 (bt a0 x3_1)] rfl q3_ ?_; (with_reducible refine (impl_isSmall.calls (bt a0 x3_1) true _ A5.1).mono ?_); rintro e w' ⟨rfl, ⟨nd, rfl⟩⟩; refine ⟨_, rfl, ?_⟩))
      go_roundg k1
      case measure => have := HK1.1; omega
      case rel => exact ⟨(wrap64 (x3_1 + 1)), q2_, H', ⟨q64_⟩, q5_⟩
     ·replace c6 := Bool.eq_false_iff.mpr c6; subst c6; rw [if_neg (show ¬ (false = true) by decide)] at H; by_cases c7 : x3_1 = 0
      ·rw [if_pos c7] at H; have c7b0 := beq_iff_eq.mpr c7; have c7b1 : (x3_1 != 0) = false := bne_eq_false_iff_eq.mpr c7; clear c7; obtain rfl := Option.some.inj H; have p4 : 0 ≤ (x3_1 : Int) := of_decide_eq_true q4_; have q4 : x3_1 < (a0.size : Int) := of_decide_eq_true q4_; have hx4 := bt_at a0 x3_1; replace p4 := eq_true p4; replace q4 := eq_true q4; go_wp2_with (first | ((with_reducible refine gate_callee (f := 143) rfl ?_); refine goesL_ (some 13) rfl rfl Tryz.func143 (by kernel_rfl) rfl #[.int .u8 (bt a0 x3_1)] rfl q3_ ?_; (with_reducible refine (impl_isSmall.calls (bt a0 x3_1) false _ A5.1).mono ?_); rintro e w' ⟨rfl, ⟨nd, rfl⟩⟩; refine ⟨_, rfl, ?_⟩))
       go_ret
       exact ⟨q2_, q5_⟩
      ·rw [if_neg c7] at H; have c7b0 := beq_eq_false_iff_ne.mpr c7; have c7b1 : (x3_1 != 0) = true := bne_iff_ne.mpr c7; replace H := oB H; obtain ⟨t397, A9, H⟩ := H; (try dsimp only at H); by_cases c10 : t397 = true
       ·subst c10; rw [if_pos rfl] at H; have H' := aK H; clear H; have p4 : 0 ≤ (x3_1 : Int) := of_decide_eq_true q4_; have q4 : x3_1 < (a0.size : Int) := of_decide_eq_true q4_; have hx4 := bt_at a0 x3_1; replace p4 := eq_true p4; replace q4 := eq_true q4; go_wp2_with (first | ((with_reducible refine gate_callee (f := 143) rfl ?_); refine goesL_ (some 13) rfl rfl Tryz.func143 (by kernel_rfl) rfl #[.int .u8 (bt a0 x3_1)] rfl q3_ ?_; (with_reducible refine (impl_isSmall.calls (bt a0 x3_1) false _ A5.1).mono ?_); rintro e w' ⟨rfl, ⟨nd, rfl⟩⟩; refine ⟨_, rfl, ?_⟩; have p8 : 0 ≤ (x3_1 : Int) := of_decide_eq_true q4_; have q8 : x3_1 < (a0.size : Int) := of_decide_eq_true q4_; have hx8 := bt_at a0 x3_1; replace p8 := eq_true p8; replace q8 := eq_true q8) | (go_at_call 144; (with_reducible refine (impl_isDigit.calls (bt a0 x3_1) true _ A9.1).mono ?_); rintro e w' ⟨rfl, ⟨nd, rfl⟩⟩))
        go_roundg k1
        case measure => have := HK1.1; omega
        case rel => exact ⟨(wrap64 (x3_1 + 1)), q2_, H', ⟨q64_⟩, q5_⟩
       ·replace c10 := Bool.eq_false_iff.mpr c10; subst c10; rw [if_neg (show ¬ (false = true) by decide)] at H; have HC12 := aK H; clear H; have p4 : 0 ≤ (x3_1 : Int) := of_decide_eq_true q4_; have q4 : x3_1 < (a0.size : Int) := of_decide_eq_true q4_; have hx4 := bt_at a0 x3_1; replace p4 := eq_true p4; replace q4 := eq_true q4; go_upto_if 31 with (first | ((with_reducible refine gate_callee (f := 143) rfl ?_); refine goesL_ (some 13) rfl rfl Tryz.func143 (by kernel_rfl) rfl #[.int .u8 (bt a0 x3_1)] rfl q3_ ?_; (with_reducible refine (impl_isSmall.calls (bt a0 x3_1) false _ A5.1).mono ?_); rintro e w' ⟨rfl, ⟨nd, rfl⟩⟩; refine ⟨_, rfl, ?_⟩; have p8 : 0 ≤ (x3_1 : Int) := of_decide_eq_true q4_; have q8 : x3_1 < (a0.size : Int) := of_decide_eq_true q4_; have hx8 := bt_at a0 x3_1; replace p8 := eq_true p8; replace q8 := eq_true q8) | (go_at_call 144; (with_reducible refine (impl_isDigit.calls (bt a0 x3_1) false _ A9.1).mono ?_); rintro e w' ⟨rfl, ⟨nd, rfl⟩⟩; have p11 : 0 ≤ (x3_1 : Int) := of_decide_eq_true q4_; have q11 : x3_1 < (a0.size : Int) := of_decide_eq_true q4_; have hx11 := bt_at a0 x3_1; replace p11 := eq_true p11; replace q11 := eq_true q11))
        (try simp only [Act.put, sI, sZ, sS]); have H := HC12.1; clear HC12; by_cases c13 : (bt a0 x3_1) = 45
        ·rw [if_pos c13] at H; have c13b0 := beq_iff_eq.mpr c13; have c13b1 : ((bt a0 x3_1) != 45) = false := bne_eq_false_iff_eq.mpr c13; clear c13; (first | rw [c13b0] | rw [c13i0] | (simp only [i64_w, i32_w]; rw [c13b0]) | skip); have H' := aK H; clear H; go_wp2
         go_roundg k1
         case measure => have := HK1.1; omega
         case rel => exact ⟨(wrap64 (x3_1 + 1)), q2_, H', ⟨q64_⟩, q5_⟩
        ·rw [if_neg c13] at H; have c13b0 := beq_eq_false_iff_ne.mpr c13; have c13b1 : ((bt a0 x3_1) != 45) = true := bne_iff_ne.mpr c13; (first | rw [c13b0] | rw [c13i0] | (simp only [i64_w, i32_w]; rw [c13b0]) | skip); obtain rfl := Option.some.inj H; go_wp2
         go_ret
         exact ⟨q2_, q5_⟩
    ·rw [if_neg c3] at H; exact absurd H (by simp)
   ·rw [if_neg c2] at H; have c2b0 := decide_eq_false c2; clear c2; replace H := oB H; obtain ⟨t395, A14, H⟩ := H; (try dsimp only at H); obtain rfl := Option.some.inj H; go_wp2_with (first | ((with_reducible refine gate_callee (f := 80) rfl ?_); refine goesL_ (some 34) rfl rfl Tryz.func80 (by kernel_rfl) rfl #[.int .i64 (a0.size : Int), .int .i64 1, .int .i64 20] rfl q3_ ?_; (with_reducible refine (impl_in.calls (a0.size : Int) 1 20 t395 _ A14.1).mono ?_); rintro e w' ⟨rfl, ⟨nd, rfl⟩⟩; refine ⟨_, rfl, ?_⟩))
    go_ret
    exact ⟨q2_, q5_⟩


def strings_Trim.f (a0 : ByteArray) (a1 : ByteArray) : Option ByteArray := if a0.size ≤ 9223372036854775807 ∧ a1.data.toList.all (fun b => decide (b.toNat < 128)) = true ∧ a1.size < 4294967281 then some ⟨(Lib.trimS a0.data.toList a1.data.toList).toArray⟩ else none
theorem strings_Trim.calls (a0 : ByteArray) (a1 : ByteArray) (r : ByteArray) (w : World) (h : strings_Trim.f a0 a1 = some r) :
  Calls Tryz.prog 157 #[.string a0, .string a1] w fun e w' => e = .returned (.string r) ∧ Below w.heap.size w w' := by
 unfold strings_Trim.f at h
 split at h
 ·rename_i hs
  obtain rfl := Option.some.inj h; exact (Go.Proofs.YtaajhdljdmbhhaaGreatDoor.Shelf.Tryz.strings_Trim_laid a0 a1 w hs.1 hs.2.2 (fun j b hb => of_decide_eq_true (List.all_eq_true.1 hs.2.1 b (List.mem_of_getElem? hb)))).mono fun e w' ⟨he, hw⟩ => ⟨he, hw⟩
 ·cases h

def impl_Trim.f (a0 : ByteArray) : Option (ByteArray) := (strings_Trim.f a0 (⟨#[32, 9]⟩ : BA)).bind fun t398 => (some t398)
theorem impl_Trim.calls (a0 : ByteArray) (r : ByteArray) (w : World) (h : impl_Trim.f a0 = some r) :
  Calls Tryz.prog 134 #[.string a0] w fun e w' => e = .returned (.string r) ∧ Below w.heap.size w w' := by
 have HB := aK (Below.refl w.heap.size w); have H : ((strings_Trim.f a0 (⟨#[32, 9]⟩ : BA)).bind fun t398 => (some t398)) = some r := h; clear h; replace H := oB H; obtain ⟨t398, A2, H⟩ := H; (try dsimp only at H); obtain rfl := Option.some.inj H; go_enter Tryz.func134, Tryz.ntmps134
 go_wp2_with (first | ((with_reducible refine gate_callee (f := 157) rfl ?_); refine goesL_ (some 4) rfl rfl Tryz.func157 (by kernel_rfl) rfl #[.string a0, .string (⟨#[32, 9]⟩ : BA)] rfl q3_ ?_; (with_reducible refine (strings_Trim.calls a0 (⟨#[32, 9]⟩ : BA) t398 _ A2.1).mono ?_); rintro e w3 ⟨rfl, hb⟩; refine ⟨_, rfl, ?_⟩; replace HB := aK (below_step q1_ hb); clear hb))
 go_ret
 exact ⟨q7_, q1_⟩

def impl_valOk.f (k : Nat) (a0 : ByteArray) : Option (Bool) := if (a0.size : Int) ≤ 60 then ((impl_Plain.f k a0).bind fun t399 => (if t399 = true then ((impl_Trim.f a0).bind fun t400 => (some (t400.toList == a0.toList))) else (some false))) else (some false)

theorem impl_valOk.calls (k : Nat) (a0 : ByteArray) (r : Bool) (w : World) (h : impl_valOk.f k a0 = some r) :
  Calls Tryz.prog 117 #[.string a0] w fun e w' => e = .returned (.bool r) ∧ Below w.heap.size w w' := by
 have HB := aK (Below.refl w.heap.size w); have H := h; clear h; unfold impl_valOk.f at H
 by_cases c2 : (a0.size : Int) ≤ 60
 ·rw [if_pos c2] at H; have c2b0 := decide_eq_true c2; have c2b1 : decide (a0.size ≤ 60) = true := decide_eq_true (by omega); clear c2; replace H := oB H; obtain ⟨t399, A3, H⟩ := H; (try dsimp only at H); by_cases c4 : t399 = true
  ·subst c4; rw [if_pos rfl] at H; replace H := oB H; obtain ⟨t400, A5, H⟩ := H; (try dsimp only at H); obtain rfl := Option.some.inj H; go_enter Tryz.func117, Tryz.ntmps117
   go_wp2_with (first | (go_at_call 114; (with_reducible refine (impl_Plain.calls k a0 true _ A3.1).mono ?_); rintro e w' ⟨rfl, ⟨nd, rfl⟩⟩) | (go_at_call 134; (with_reducible refine (impl_Trim.calls a0 t400 _ A5.1).mono ?_); rintro e w6 ⟨rfl, hb⟩; replace HB := aK (below_step q1_ hb); clear hb))
   go_ret
   exact ⟨q7_, q1_⟩
  ·replace c4 := Bool.eq_false_iff.mpr c4; subst c4; rw [if_neg (show ¬ (false = true) by decide)] at H; obtain rfl := Option.some.inj H; go_enter Tryz.func117, Tryz.ntmps117
   go_wp2_with (first | (go_at_call 114; (with_reducible refine (impl_Plain.calls k a0 false _ A3.1).mono ?_); rintro e w' ⟨rfl, ⟨nd, rfl⟩⟩))
   go_ret
   exact ⟨q7_, q1_⟩
 ·rw [if_neg c2] at H; have c2b0 := decide_eq_false c2; have c2b1 : decide (a0.size ≤ 60) = false := decide_eq_false (by omega); clear c2; obtain rfl := Option.some.inj H; go_enter Tryz.func117, Tryz.ntmps117
  go_wp2
  go_ret
  exact ⟨q7_, q1_⟩


def strconv_Itoa.f (a0 : Int) : Option ByteArray := if -9223372036854775808 ≤ a0 ∧ a0 ≤ 9223372036854775807 then some ⟨(Go.Lib.itoa a0).toArray⟩ else none
theorem strconv_Itoa.calls (a0 : Int) (r : ByteArray) (w : World) (h : strconv_Itoa.f a0 = some r) (hG : GOK w) :
  Calls Tryz.prog 120 #[.int .i64 a0] w fun e w' => e = .returned (.string r) ∧ Below w.heap.size w w' := by
 unfold strconv_Itoa.f at h
 split at h
 ·rename_i hs
  obtain rfl := Option.some.inj h; exact (Go.Proofs.YtaajhdljdmbhhaaGreatDoor.Shelf.Tryz.strconv_Itoa a0 hs.1 hs.2 w hG.pow10).mono fun e w' ⟨he, k, os, hw⟩ => ⟨he, by subst hw; exact Go.Lib.below_grow _ w (Nat.le_refl _) k os⟩
 ·cases h

def impl_NumText.f (a0 : Int) : Option (ByteArray) := (strconv_Itoa.f (mx a0 0)).bind fun t401 => (some t401)
theorem impl_NumText.calls (a0 : Int) (r : ByteArray) (w : World) (h : impl_NumText.f a0 = some r) (hG : GOK w) :
  Calls Tryz.prog 96 #[.int .i64 a0] w fun e w' => e = .returned (.string r) ∧ Below w.heap.size w w' := by
 have HB := aK (Below.refl w.heap.size w); have H : ((strconv_Itoa.f (mx a0 0)).bind fun t401 => (some t401)) = some r := h; clear h; obtain ⟨ji2, hji2⟩ : ∃ j_ : Int, (mx a0 0) = j_ := ⟨_, rfl⟩; replace H : ((strconv_Itoa.f (ji2)).bind fun t401 => (some t401)) = some r := by first | (rw [hji2] at H; exact H) | (simp only [hji2] at H ⊢; exact H)
 (try (have hji2l : 0 ≤ ji2 := by (rw [← hji2]; unfold mx; (repeat' split) <;> omega))); (try (have hji2m : 0 ≤ ji2 := by omega)); have hji2_ : (if a0 < 0 then 0 else a0) = ji2 := hji2; replace H := oB H; obtain ⟨t401, A3, H⟩ := H; (try dsimp only at H); obtain rfl := Option.some.inj H; go_enter Tryz.func96, Tryz.ntmps96
 go_wp2_with (first | ((with_reducible refine gate_callee (f := 120) rfl ?_); refine goesL_ (some 5) rfl rfl Tryz.func120 (by kernel_rfl) rfl #[.int .i64 ji2] rfl q105_ ?_; (with_reducible refine (strconv_Itoa.calls ji2 t401 _ A3.1 ?side99).mono ?_); (case side99 => exact q18_); rintro e w4 ⟨rfl, hb⟩; refine ⟨_, rfl, ?_⟩; replace HB := aK (below_step q1_ hb); clear hb))
 go_ret
 exact ⟨q103_, q1_⟩


/-- what strconv.Atoi hands back: a number and no error, or an error -/
theorem impl_ParseNum.atoi (s : ByteArray) (hs : s.size ≤ 281474976710656) (w : World) (hG : GOK w) :
  Calls Tryz.prog 177 #[.string s] w fun e w' => (∃ z x, e = .returned (.tuple #[.int .i64 z, x]) ∧ ((Go.Lib.atoiAll s.data.toList = .ok z ∧ x = .nilIface) ∨ ((∀ v, Go.Lib.atoiAll s.data.toList ≠ .ok v) ∧ ∃ N, x = .iface 185 (.pointer (some ⟨N, 0, none⟩))))) ∧ Below w.heap.size w w' := by
 cases hat : Go.Lib.atoiAll s.data.toList with
 | ok v =>
  refine (Go.Proofs.YtaajhdljdmbhhaaGreatDoor.Shelf.Tryz.strconv_Atoi_ok s (by omega) v hat w).mono ?_; rintro e w' ⟨rfl, hw⟩; refine ⟨⟨v, _, rfl, .inl ⟨rfl, rfl⟩⟩, ?_⟩; rcases hw with rfl | ⟨t, rfl⟩
  ·exact Below.refl _ _
  ·exact Go.Lib.bytesWorld_below _ _ _
 | range =>
  obtain ⟨tp, p, hv⟩ := hG.errr; refine (Go.Proofs.Any.strconv_Atoi_range_var Go.Proofs.YtaajhdljdmbhhaaGreatDoor.Shelf.Tryz.laysC172 s hs hat tp p w hv).mono ?_; rintro e w' ⟨N, rfl, _, _, hb⟩; exact ⟨⟨_, _, rfl, .inr ⟨fun v h => (by cases h), N, rfl⟩⟩, hb⟩
 | _ =>
  obtain ⟨tp, p, hv⟩ := hG.errs; refine (Go.Proofs.Any.strconv_Atoi_syntax_var Go.Proofs.YtaajhdljdmbhhaaGreatDoor.Shelf.Tryz.laysC172 s hs hat tp p w hv).mono ?_; rintro e w' ⟨N, rfl, _, _, hb⟩; exact ⟨⟨_, _, rfl, .inr ⟨fun v h => (by cases h), N, rfl⟩⟩, hb⟩
def impl_ParseNum.f (a0 : ByteArray) (a1 : Int) : Option (Int × Bool) :=
 if a0.size ≤ 281474976710656 then
  match Go.Lib.atoiAll a0.data.toList with
  | .ok v => if v < 0 then some (0, false) else if a1 < v then some (0, false) else if 7 < a0.size then some (0, false) else (impl_NumText.f v).bind fun t => if t.toList = a0.toList then some (v, true) else some (0, false)
  | _ => some (0, false)
 else none
theorem impl_ParseNum.calls (a0 : ByteArray) (a1 : Int) (r1 : Int) (r2 : Bool) (w : World) (h : impl_ParseNum.f a0 a1 = some (r1, r2)) (hG : GOK w) :
  Calls Tryz.prog 158 #[.string a0, .int .i64 a1] w fun e w' => e = .returned (.tuple #[.int .i64 r1, .bool r2]) ∧ Below w.heap.size w w' := by
 unfold impl_ParseNum.f at h
 split at h
 ·rename_i hs
  have hA := impl_ParseNum.atoi a0 hs w hG; go_enter Tryz.func158, Tryz.ntmps158
  go_wp2_with (go_at_call 177; refine hA.mono ?_)
  rintro e w1 ⟨⟨z, x, rfl, hx⟩, HB⟩; rcases hx with ⟨hat, rfl⟩ | ⟨hno, N, rfl⟩
  ·rw [hat] at h; simp only [] at h; clear hA hat; by_cases c1 : z < 0
   ·rw [if_pos c1] at h; have c1b := decide_eq_true c1; clear c1; obtain ⟨rfl, rfl⟩ := Prod.mk.inj (Option.some.inj h); go_wp2
    go_ret2
    exact ⟨rfl, HB⟩
   rw [if_neg c1] at h; have c1b := decide_eq_false c1; by_cases c2 : a1 < z
   ·rw [if_pos c2] at h; have c2b := decide_eq_true c2; clear c1 c2; obtain ⟨rfl, rfl⟩ := Prod.mk.inj (Option.some.inj h); go_wp2
    go_ret2
    exact ⟨rfl, HB⟩
   rw [if_neg c2] at h; have c2b := decide_eq_false c2; by_cases c3 : 7 < a0.size
   ·rw [if_pos c3] at h; have c3b : decide ((7 : Int) < (a0.size : Int)) = true := decide_eq_true (by omega); clear c1 c2 c3; obtain ⟨rfl, rfl⟩ := Prod.mk.inj (Option.some.inj h); go_wp2
    go_ret2
    exact ⟨rfl, HB⟩
   rw [if_neg c3] at h; have c3b : decide ((7 : Int) < (a0.size : Int)) = false := decide_eq_false (by omega); clear c1 c2 c3; obtain ⟨t, ht, h⟩ := Option.bind_eq_some_iff.1 h; have hN := fun W (hW : GOK W) => impl_NumText.calls z t W ht hW
   clear ht; by_cases c4 : t.toList = a0.toList
   ·rw [if_pos c4] at h; have c4b0 := beq_iff_eq.mpr c4; have c4b1 : (t.toList != a0.toList) = false := bne_eq_false_iff_eq.mpr c4; clear c4; obtain ⟨rfl, rfl⟩ := Prod.mk.inj (Option.some.inj h); go_wp2_with (go_at_call 96; refine (hN _ (GOK_below hG HB)).mono ?_; rintro e w2 ⟨rfl, hb⟩)
    go_ret2
    exact ⟨rfl, below_step HB hb⟩
   ·rw [if_neg c4] at h; have c4b0 := beq_eq_false_iff_ne.mpr c4; have c4b1 : (t.toList != a0.toList) = true := bne_iff_ne.mpr c4; clear c4; obtain ⟨rfl, rfl⟩ := Prod.mk.inj (Option.some.inj h); go_wp2_with (go_at_call 96; refine (hN _ (GOK_below hG HB)).mono ?_; rintro e w2 ⟨rfl, hb⟩)
    go_ret2
    exact ⟨rfl, below_step HB hb⟩
  ·have h2 : some ((0 : Int), false) = some (r1, r2) := by
    split at h
    ·rename_i v hv; exact absurd hv (hno v)
    ·exact h
   obtain ⟨rfl, rfl⟩ := Prod.mk.inj (Option.some.inj h2); clear h h2 hno hA; go_wp2
   go_ret2
   exact ⟨rfl, HB⟩
 ·cases h

/-- A state of type 101 at block g of W; its slices are rows of its own. -/
def IsS101 (w0 W : World) (g : Nat) (f0 : ByteArray) (f1 : ByteArray) (f2 : List (S113)) (f3 : ByteArray) (f4 : ByteArray) (f5 : Bool) (f6 : Int) (f7 : Bool) (f8 : Bool) : Prop := ∃ A2 c2, W.heap[g]? = some (.cells #[.string f0, .string f1, .slice A2 f2.length c2, .string f3, .string f4, .bool f5, .int .i64 f6, .bool f7, .bool f8] 101 (0, 0)) ∧ w0.heap.size ≤ g ∧ Kd.R k113 113 W w0.heap.size (fun _ => True) (.slice A2 f2.length c2) f2
theorem IsS101.below {w0 W : World} {g : Nat} {f0 : ByteArray} {f1 : ByteArray} {f2 : List (S113)} {f3 : ByteArray} {f4 : ByteArray} {f5 : Bool} {f6 : Int} {f7 : Bool} {f8 : Bool} {W1 : World} (h : IsS101 w0 W g f0 f1 f2 f3 f4 f5 f6 f7 f8) (hw : Below W.heap.size W W1) : IsS101 w0 W1 g f0 f1 f2 f3 f4 f5 f6 f7 f8 := by
 obtain ⟨A2, c2, hb, hg, hr2⟩ := h; exact ⟨A2, c2, bB_ hb hw, hg, Kd.R_below hr2 hw⟩
theorem IsS101.alloc {w0 W : World} {g : Nat} {f0 : ByteArray} {f1 : ByteArray} {f2 : List (S113)} {f3 : ByteArray} {f4 : ByteArray} {f5 : Bool} {f6 : Int} {f7 : Bool} {f8 : Bool} (h : IsS101 w0 W g f0 f1 f2 f3 f4 f5 f6 f7 f8) (o : Obj) : IsS101 w0 (W.alloc o) g f0 f1 f2 f3 f4 f5 f6 f7 f8 := h.below (aB_ (Below.refl _ _) o)
theorem IsS101.drewN {w0 W : World} {g : Nat} {f0 : ByteArray} {f1 : ByteArray} {f2 : List (S113)} {f3 : ByteArray} {f4 : ByteArray} {f5 : Bool} {f6 : Int} {f7 : Bool} {f8 : Bool} (h : IsS101 w0 W g f0 f1 f2 f3 f4 f5 f6 f7 f8) (m : Nat) : IsS101 w0 (W.drewN m) g f0 f1 f2 f3 f4 f5 f6 f7 f8 := h.below (pN_ (Below.refl _ _) m)
theorem IsS101.drew {w0 W : World} {g : Nat} {f0 : ByteArray} {f1 : ByteArray} {f2 : List (S113)} {f3 : ByteArray} {f4 : ByteArray} {f5 : Bool} {f6 : Int} {f7 : Bool} {f8 : Bool} (h : IsS101 w0 W g f0 f1 f2 f3 f4 f5 f6 f7 f8) : IsS101 w0 W.drew g f0 f1 f2 f3 f4 f5 f6 f7 f8 := h.below (below_drew (Below.refl _ _))
theorem IsS101.ge {w0 W : World} {g : Nat} {f0 : ByteArray} {f1 : ByteArray} {f2 : List (S113)} {f3 : ByteArray} {f4 : ByteArray} {f5 : Bool} {f6 : Int} {f7 : Bool} {f8 : Bool} (h : IsS101 w0 W g f0 f1 f2 f3 f4 f5 f6 f7 f8) : w0.heap.size ≤ g := by
 obtain ⟨A2, c2, hb, hg, hr2⟩ := h; exact hg
theorem IsS101.apart {w0 W : World} {g : Nat} {f0 : ByteArray} {f1 : ByteArray} {f2 : List (S113)} {f3 : ByteArray} {f4 : ByteArray} {f5 : Bool} {f6 : Int} {f7 : Bool} {f8 : Bool} {α : Type} {d : Kd α} {e : Nat} {base : Nat} {ok : Nat → Prop} {v : Value} {xs : List α} (h : IsS101 w0 W g f0 f1 f2 f3 f4 f5 f6 f7 f8) (ho : d.R e W base ok v xs) (ht : ∀ q, q ∈ e :: d.E → q ≠ 101) : d.R e W base (fun k => ok k ∧ k ≠ g) v xs := by
 obtain ⟨A2, c2, hb, hg, hr2⟩ := h; exact Kd.R_types ho hb ht
theorem IsS101.own_ne {w0 W : World} {g : Nat} {f0 : ByteArray} {f1 : ByteArray} {f2 : List (S113)} {f3 : ByteArray} {f4 : ByteArray} {f5 : Bool} {f6 : Int} {f7 : Bool} {f8 : Bool} {α : Type} {d : Kd α} {e : Nat} {base : Nat} {ok : Nat → Prop} {v : Value} {xs : List α} (h : IsS101 w0 W g f0 f1 f2 f3 f4 f5 f6 f7 f8) (ho : d.R e W base ok v xs) (ht : e ≠ 101) : some g ≠ v.ownBlock := by
 obtain ⟨A2, c2, hb, hg, hr2⟩ := h; exact Kd.R_ne ho hb ht
theorem cellS101_0 {W : World} {g : Nat} {A2 : Option Addr} {c2 : Nat} {f0 : ByteArray} {f1 : ByteArray} {f2 : List (S113)} {f3 : ByteArray} {f4 : ByteArray} {f5 : Bool} {f6 : Int} {f7 : Bool} {f8 : Bool} (h : W.heap[g]? = some (.cells #[.string f0, .string f1, .slice A2 f2.length c2, .string f3, .string f4, .bool f5, .int .i64 f6, .bool f7, .bool f8] 101 (0, 0))) : W.cell? ⟨g, 0, none⟩ = some (.string f0) := (bc_ h 0).trans rfl
theorem IsS101.set_0 {w0 W : World} {g : Nat} {f0 : ByteArray} {f1 : ByteArray} {f2 : List (S113)} {f3 : ByteArray} {f4 : ByteArray} {f5 : Bool} {f6 : Int} {f7 : Bool} {f8 : Bool} (h : IsS101 w0 W g f0 f1 f2 f3 f4 f5 f6 f7 f8) (x : ByteArray) : IsS101 w0 (W.setCell ⟨g, 0, none⟩ (.string x)) g x f1 f2 f3 f4 f5 f6 f7 f8 := by
 obtain ⟨A2, c2, hb, hg, hr2⟩ := h; exact ⟨A2, c2, by simpa using blk_set hb 0 (.string x), hg, Kd.R_set hr2 hb (by decide) _ _⟩
theorem cellS101_1 {W : World} {g : Nat} {A2 : Option Addr} {c2 : Nat} {f0 : ByteArray} {f1 : ByteArray} {f2 : List (S113)} {f3 : ByteArray} {f4 : ByteArray} {f5 : Bool} {f6 : Int} {f7 : Bool} {f8 : Bool} (h : W.heap[g]? = some (.cells #[.string f0, .string f1, .slice A2 f2.length c2, .string f3, .string f4, .bool f5, .int .i64 f6, .bool f7, .bool f8] 101 (0, 0))) : W.cell? ⟨g, 1, none⟩ = some (.string f1) := (bc_ h 1).trans rfl
theorem IsS101.set_1 {w0 W : World} {g : Nat} {f0 : ByteArray} {f1 : ByteArray} {f2 : List (S113)} {f3 : ByteArray} {f4 : ByteArray} {f5 : Bool} {f6 : Int} {f7 : Bool} {f8 : Bool} (h : IsS101 w0 W g f0 f1 f2 f3 f4 f5 f6 f7 f8) (x : ByteArray) : IsS101 w0 (W.setCell ⟨g, 1, none⟩ (.string x)) g f0 x f2 f3 f4 f5 f6 f7 f8 := by
 obtain ⟨A2, c2, hb, hg, hr2⟩ := h; exact ⟨A2, c2, by simpa using blk_set hb 1 (.string x), hg, Kd.R_set hr2 hb (by decide) _ _⟩
def LimS101_2 (w0 W : World) (g : Nat) (f0 : ByteArray) (f1 : ByteArray) (f2 : List (S113)) (f3 : ByteArray) (f4 : ByteArray) (f5 : Bool) (f6 : Int) (f7 : Bool) (f8 : Bool) : Prop := ∃ A2 c2, W.heap[g]? = some (.cells #[.string f0, .string f1, .slice A2 f2.length c2, .string f3, .string f4, .bool f5, .int .i64 f6, .bool f7, .bool f8] 101 (0, 0)) ∧ w0.heap.size ≤ g ∧ True
theorem LimS101_2.ge {w0 W : World} {g : Nat} {f0 : ByteArray} {f1 : ByteArray} {f2 : List (S113)} {f3 : ByteArray} {f4 : ByteArray} {f5 : Bool} {f6 : Int} {f7 : Bool} {f8 : Bool} (h : LimS101_2 w0 W g f0 f1 f2 f3 f4 f5 f6 f7 f8) : w0.heap.size ≤ g := by
 obtain ⟨A2, c2, hb, hg, hr2⟩ := h; exact hg
theorem LimS101_2.drewN {w0 W : World} {g : Nat} {f0 : ByteArray} {f1 : ByteArray} {f2 : List (S113)} {f3 : ByteArray} {f4 : ByteArray} {f5 : Bool} {f6 : Int} {f7 : Bool} {f8 : Bool} (h : LimS101_2 w0 W g f0 f1 f2 f3 f4 f5 f6 f7 f8) (m : Nat) : LimS101_2 w0 (W.drewN m) g f0 f1 f2 f3 f4 f5 f6 f7 f8 := by
 obtain ⟨A2, c2, hb, hg, hr2⟩ := h; exact ⟨A2, c2, bN_ hb m, hg, trivial⟩
theorem IsS101.limb_2 {w0 W : World} {g : Nat} {f0 : ByteArray} {f1 : ByteArray} {f2 : List (S113)} {f3 : ByteArray} {f4 : ByteArray} {f5 : Bool} {f6 : Int} {f7 : Bool} {f8 : Bool} {W1 : World} {v : Value} (h : IsS101 w0 W g f0 f1 f2 f3 f4 f5 f6 f7 f8) (hw : W.grownBy W1 v.ownBlock) (hv : ∀ k, v.ownBlock = some k → ∃ cells, HasRow W k cells 113) : LimS101_2 w0 W1 g f0 f1 f2 f3 f4 f5 f6 f7 f8 := by
 obtain ⟨A2, c2, hb, hg, hr2⟩ := h; refine ⟨A2, c2, blk_grown hb hw (fun e => ?_), hg, trivial⟩; obtain ⟨cells, hc⟩ := hv g e.symm; exact absurd (hc.typ0 hb) (by decide)
theorem IsS101.put_2 {w0 W : World} {g : Nat} {f0 : ByteArray} {f1 : ByteArray} {f2 : List (S113)} {f3 : ByteArray} {f4 : ByteArray} {f5 : Bool} {f6 : Int} {f7 : Bool} {f8 : Bool} {v : Value} {x : List (S113)} {base : Nat} {ok : Nat → Prop} (h : LimS101_2 w0 W g f0 f1 f2 f3 f4 f5 f6 f7 f8) (hv : Kd.R k113 113 W base ok v x) (hle : w0.heap.size ≤ base) : IsS101 w0 (W.setCell ⟨g, 2, none⟩ v) g f0 f1 x f3 f4 f5 f6 f7 f8 := by
 obtain ⟨A2, c2, hb, hg, hr2⟩ := h; obtain ⟨A, c, rfl⟩ := Kd.R_slice hv; have hv2 := Kd.R_lower (Kd.R_mono (ok' := fun _ => True) hv (fun _ _ => trivial)) hle; exact ⟨A, c, by simpa using blk_set hb 2 (.slice A x.length c), hg, Kd.R_set hv2 hb (by decide) _ _⟩
theorem IsS101.set_3 {w0 W : World} {g : Nat} {f0 : ByteArray} {f1 : ByteArray} {f2 : List (S113)} {f3 : ByteArray} {f4 : ByteArray} {f5 : Bool} {f6 : Int} {f7 : Bool} {f8 : Bool} (h : IsS101 w0 W g f0 f1 f2 f3 f4 f5 f6 f7 f8) (x : ByteArray) : IsS101 w0 (W.setCell ⟨g, 3, none⟩ (.string x)) g f0 f1 f2 x f4 f5 f6 f7 f8 := by
 obtain ⟨A2, c2, hb, hg, hr2⟩ := h; exact ⟨A2, c2, by simpa using blk_set hb 3 (.string x), hg, Kd.R_set hr2 hb (by decide) _ _⟩
theorem IsS101.set_4 {w0 W : World} {g : Nat} {f0 : ByteArray} {f1 : ByteArray} {f2 : List (S113)} {f3 : ByteArray} {f4 : ByteArray} {f5 : Bool} {f6 : Int} {f7 : Bool} {f8 : Bool} (h : IsS101 w0 W g f0 f1 f2 f3 f4 f5 f6 f7 f8) (x : ByteArray) : IsS101 w0 (W.setCell ⟨g, 4, none⟩ (.string x)) g f0 f1 f2 f3 x f5 f6 f7 f8 := by
 obtain ⟨A2, c2, hb, hg, hr2⟩ := h; exact ⟨A2, c2, by simpa using blk_set hb 4 (.string x), hg, Kd.R_set hr2 hb (by decide) _ _⟩
theorem IsS101.set_5 {w0 W : World} {g : Nat} {f0 : ByteArray} {f1 : ByteArray} {f2 : List (S113)} {f3 : ByteArray} {f4 : ByteArray} {f5 : Bool} {f6 : Int} {f7 : Bool} {f8 : Bool} (h : IsS101 w0 W g f0 f1 f2 f3 f4 f5 f6 f7 f8) (x : Bool) : IsS101 w0 (W.setCell ⟨g, 5, none⟩ (.bool x)) g f0 f1 f2 f3 f4 x f6 f7 f8 := by
 obtain ⟨A2, c2, hb, hg, hr2⟩ := h; exact ⟨A2, c2, by simpa using blk_set hb 5 (.bool x), hg, Kd.R_set hr2 hb (by decide) _ _⟩
theorem IsS101.set_6 {w0 W : World} {g : Nat} {f0 : ByteArray} {f1 : ByteArray} {f2 : List (S113)} {f3 : ByteArray} {f4 : ByteArray} {f5 : Bool} {f6 : Int} {f7 : Bool} {f8 : Bool} (h : IsS101 w0 W g f0 f1 f2 f3 f4 f5 f6 f7 f8) (x : Int) : IsS101 w0 (W.setCell ⟨g, 6, none⟩ (.int .i64 x)) g f0 f1 f2 f3 f4 f5 x f7 f8 := by
 obtain ⟨A2, c2, hb, hg, hr2⟩ := h; exact ⟨A2, c2, by simpa using blk_set hb 6 (.int .i64 x), hg, Kd.R_set hr2 hb (by decide) _ _⟩
theorem IsS101.set_7 {w0 W : World} {g : Nat} {f0 : ByteArray} {f1 : ByteArray} {f2 : List (S113)} {f3 : ByteArray} {f4 : ByteArray} {f5 : Bool} {f6 : Int} {f7 : Bool} {f8 : Bool} (h : IsS101 w0 W g f0 f1 f2 f3 f4 f5 f6 f7 f8) (x : Bool) : IsS101 w0 (W.setCell ⟨g, 7, none⟩ (.bool x)) g f0 f1 f2 f3 f4 f5 f6 x f8 := by
 obtain ⟨A2, c2, hb, hg, hr2⟩ := h; exact ⟨A2, c2, by simpa using blk_set hb 7 (.bool x), hg, Kd.R_set hr2 hb (by decide) _ _⟩
theorem IsS101.set_8 {w0 W : World} {g : Nat} {f0 : ByteArray} {f1 : ByteArray} {f2 : List (S113)} {f3 : ByteArray} {f4 : ByteArray} {f5 : Bool} {f6 : Int} {f7 : Bool} {f8 : Bool} (h : IsS101 w0 W g f0 f1 f2 f3 f4 f5 f6 f7 f8) (x : Bool) : IsS101 w0 (W.setCell ⟨g, 8, none⟩ (.bool x)) g f0 f1 f2 f3 f4 f5 f6 f7 x := by
 obtain ⟨A2, c2, hb, hg, hr2⟩ := h; exact ⟨A2, c2, by simpa using blk_set hb 8 (.bool x), hg, Kd.R_set hr2 hb (by decide) _ _⟩

def impl_reqHead_special.j0 : Nat → ByteArray → ByteArray → Bool → ByteArray → ByteArray → List (S113) → ByteArray → ByteArray → Bool → Int → Bool → Bool → Option (ByteArray × ByteArray × (List (S113)) × ByteArray × ByteArray × Bool × Int × Bool × Bool)
 | 0, _, _, _, _, _, _, _, _, _, _, _, _ => none
 | k + 1, x1, x2, x17, x1000, x1001, x1002, x1003, x1004, x1005, x1006, x1007, x1008 => if x17 = true then (some (x1000, x1001, x1002, x1003, x1004, x1005, x1006, x1007, true)) else (if x1.toList = ([116, 114, 97, 110, 115, 102, 101, 114, 45, 101, 110, 99, 111, 100, 105, 110, 103] : List UInt8) then (some (x1000, x1001, x1002, x1003, x2, true, x1006, x1007, x1008)) else ((impl_ParseNum.f x2 9999999).bind fun bt402 => (if x1008 = true then (some (x1000, x1001, x1002, x1003, x1004, x1005, bt402.1, true, true)) else (some (x1000, x1001, x1002, x1003, x1004, x1005, bt402.1, true, !bt402.2)))))
def impl_reqHead_special.f (k : Nat) (s0_0 : ByteArray) (s0_1 : ByteArray) (s0_2 : List (S113)) (s0_3 : ByteArray) (s0_4 : ByteArray) (s0_5 : Bool) (s0_6 : Int) (s0_7 : Bool) (s0_8 : Bool) (a1 : ByteArray) (a2 : ByteArray) : Option (ByteArray × ByteArray × (List (S113)) × ByteArray × ByteArray × Bool × Int × Bool × Bool) := if s0_5 = true then (impl_reqHead_special.j0 k a1 a2 true s0_0 s0_1 s0_2 s0_3 s0_4 s0_5 s0_6 s0_7 s0_8) else (impl_reqHead_special.j0 k a1 a2 s0_7 s0_0 s0_1 s0_2 s0_3 s0_4 s0_5 s0_6 s0_7 s0_8)

theorem impl_reqHead_special.calls (k : Nat) (g : Nat) (s0_0 : ByteArray) (s0_1 : ByteArray) (s0_2 : List (S113)) (s0_3 : ByteArray) (s0_4 : ByteArray) (s0_5 : Bool) (s0_6 : Int) (s0_7 : Bool) (s0_8 : Bool) (a1 : ByteArray) (a2 : ByteArray) (r1 : ByteArray) (r2 : ByteArray) (r3 : List (S113)) (r4 : ByteArray) (r5 : ByteArray) (r6 : Bool) (r7 : Int) (r8 : Bool) (r9 : Bool) (w0 w : World) (hI : IsS101 w0 w g s0_0 s0_1 s0_2 s0_3 s0_4 s0_5 s0_6 s0_7 s0_8) (hB : Below w0.heap.size w0 w) (h : impl_reqHead_special.f k s0_0 s0_1 s0_2 s0_3 s0_4 s0_5 s0_6 s0_7 s0_8 a1 a2 = some (r1, r2, r3, r4, r5, r6, r7, r8, r9)) (hG : GOK w0) :
  Calls Tryz.prog 135 #[.pointer (some ⟨g, 0, none⟩), .string a1, .string a2] w fun e w' => e = .returned (.tuple #[]) ∧ IsS101 w0 w' g r1 r2 r3 r4 r5 r6 r7 r8 r9 ∧ Below w0.heap.size w0 w' ∧ KeepBut w w' g none := by
 have HI0 := aK hI; have HK := aK (KeepBut.refl w g none); have HL := aK hB.size; clear hI; have HW0 := aK hB.size; have HB := aK hB; clear hB; have H := h; clear h; unfold impl_reqHead_special.f at H
 have HC4 := aK H; clear H; go_enter Tryz.func135, Tryz.ntmps135
 go_upto_region 0 with (fail)
 go_cut [17] (fun v17 wc => ∃ (kq : Nat) (x17_3 : Bool), v17 = .bool x17_3 ∧ Aside0 (impl_reqHead_special.j0 kq a1 a2 x17_3 s0_0 s0_1 s0_2 s0_3 s0_4 s0_5 s0_6 s0_7 s0_8 = some (r1, r2, r3, r4, r5, r6, r7, r8, r9)) ∧ Aside0 (kq ≤ k) ∧ Aside0 (IsS101 w0 wc g s0_0 s0_1 s0_2 s0_3 s0_4 s0_5 s0_6 s0_7 s0_8) ∧ Aside0 (KeepBut w wc g none) ∧ Aside0 (Below w0.heap.size w0 wc))
 case first =>
  have H := HC4.1; clear HC4; by_cases c5 : s0_5 = true
  ·subst c5; rw [if_pos rfl] at H; have H' := aK H; clear H; obtain ⟨ASz6_2, cSz6_2, HGz6, hgz6, HSz6_2⟩ := HI0.1; have hcz6 := cel9 HGz6; clear HGz6 hgz6; go_wp2
   go_meet
   case rel => exact ⟨_, (true), q2_, H', ⟨q93_⟩, ⟨q10_⟩, ⟨q9_⟩, ⟨q17_⟩⟩
  ·replace c5 := Bool.eq_false_iff.mpr c5; subst c5; rw [if_neg (show ¬ (false = true) by decide)] at H; have H' := aK H; clear H; obtain ⟨ASz7_2, cSz7_2, HGz7, hgz7, HSz7_2⟩ := HI0.1; have hcz7 := cel9 HGz7; clear HGz7 hgz7; go_wp2
   go_meet
   case rel => exact ⟨_, (s0_7), q2_, H', ⟨q93_⟩, ⟨q10_⟩, ⟨q9_⟩, ⟨q17_⟩⟩
 case rest =>
  clear HC4; (try clear c1); (try clear p2); (try clear c5); (try clear hcz6); (try clear hcz7); (try clear hcz6); (try clear hcz7); obtain ⟨kq, x17_3, rfl, HA, HJ3, HI0, HK, HB⟩ := hcut; cases kq with
  | zero => exact absurd HA.1 (by simp [impl_reqHead_special.j0])
  | succ kj3 =>
   have H := HA.1; clear HA; simp only [impl_reqHead_special.j0] at H; by_cases c8 : x17_3 = true
   ·subst c8; rw [if_pos rfl] at H; simp only [Option.some.injEq, Prod.mk.injEq] at H; obtain ⟨rfl, rfl, rfl, rfl, rfl, rfl, rfl, rfl, rfl⟩ := H; obtain ⟨ASz9_2, cSz9_2, HGz9, hgz9, HSz9_2⟩ := HI0.1; have hcz9 := cel9 HGz9; clear HGz9 hgz9; go_wp2
    first | go_end0 | ((try simp only [Exit.inBlock, Exit.then]); refine bodyPost_ret (results_none rfl _ _ _) rfl ?_)
    exact ⟨q7_, q10_, q17_, q9_⟩
   ·replace c8 := Bool.eq_false_iff.mpr c8; subst c8; rw [if_neg (show ¬ (false = true) by decide)] at H; by_cases c10 : a1.toList = ([116, 114, 97, 110, 115, 102, 101, 114, 45, 101, 110, 99, 111, 100, 105, 110, 103] : List UInt8)
    ·rw [if_pos c10] at H; have c10b0 := beq_iff_eq.mpr c10; have c10b1 : (a1.toList != ([116, 114, 97, 110, 115, 102, 101, 114, 45, 101, 110, 99, 111, 100, 105, 110, 103] : List UInt8)) = false := bne_eq_false_iff_eq.mpr c10; clear c10; simp only [Option.some.injEq, Prod.mk.injEq] at H; obtain ⟨rfl, rfl, rfl, rfl, rfl, rfl, rfl, rfl, rfl⟩ := H; obtain ⟨ASz11_2, cSz11_2, HGz11, hgz11, HSz11_2⟩ := HI0.1; have hcz11 := cel9 HGz11; clear HGz11 hgz11; go_wp2
     first | go_end0 | ((try simp only [Exit.inBlock, Exit.then]); refine bodyPost_ret (results_none rfl _ _ _) rfl ?_)
     exact ⟨q7_, q10_, q17_, q9_⟩
    ·rw [if_neg c10] at H; have c10b0 := beq_eq_false_iff_ne.mpr c10; have c10b1 : (a1.toList != ([116, 114, 97, 110, 115, 102, 101, 114, 45, 101, 110, 99, 111, 100, 105, 110, 103] : List UInt8)) = true := bne_iff_ne.mpr c10; replace H := oB H; obtain ⟨⟨t402, t403⟩, A12, H⟩ := H; (try dsimp only at H); by_cases c13 : s0_8 = true
     ·subst c13; rw [if_pos rfl] at H; simp only [Option.some.injEq, Prod.mk.injEq] at H; obtain ⟨rfl, rfl, rfl, rfl, rfl, rfl, rfl, rfl, rfl⟩ := H; go_wp2_with (first | ((with_reducible refine gate_callee (f := 158) rfl ?_); refine goesL_ (some 32) rfl rfl Tryz.func158 (by kernel_rfl) rfl #[.string a2, .int .i64 9999999] rfl q3_ ?_; (with_reducible refine (impl_ParseNum.calls a2 9999999 t402 t403 _ A12.1 ?side99).mono ?_); (case side99 => exact q18_); rintro e w14 ⟨rfl, hb⟩; refine ⟨_, rfl, ?_⟩; replace HK := aK (KeepBut.trans q9_ (KeepBut.of_below hb g none) (.inl rfl)); replace HB := aK (below_step q17_ hb); replace HI0 := aK (IsS101.below q10_ hb); clear hb; obtain ⟨ASz15_2, cSz15_2, HGz15, hgz15, HSz15_2⟩ := HI0.1; have hcz15 := cel9 HGz15; clear HGz15 hgz15))
      first | go_end0 | ((try simp only [Exit.inBlock, Exit.then]); refine bodyPost_ret (results_none rfl _ _ _) rfl ?_)
      exact ⟨q7_, q10_, q17_, q9_⟩
     ·replace c13 := Bool.eq_false_iff.mpr c13; subst c13; rw [if_neg (show ¬ (false = true) by decide)] at H; simp only [Option.some.injEq, Prod.mk.injEq] at H; obtain ⟨rfl, rfl, rfl, rfl, rfl, rfl, rfl, rfl, rfl⟩ := H; go_wp2_with (first | ((with_reducible refine gate_callee (f := 158) rfl ?_); refine goesL_ (some 32) rfl rfl Tryz.func158 (by kernel_rfl) rfl #[.string a2, .int .i64 9999999] rfl q3_ ?_; (with_reducible refine (impl_ParseNum.calls a2 9999999 t402 t403 _ A12.1 ?side99).mono ?_); (case side99 => exact q18_); rintro e w16 ⟨rfl, hb⟩; refine ⟨_, rfl, ?_⟩; replace HK := aK (KeepBut.trans q9_ (KeepBut.of_below hb g none) (.inl rfl)); replace HB := aK (below_step q17_ hb); replace HI0 := aK (IsS101.below q10_ hb); clear hb; obtain ⟨ASz17_2, cSz17_2, HGz17, hgz17, HSz17_2⟩ := HI0.1; have hcz17 := cel9 HGz17; clear HGz17 hgz17))
      first | go_end0 | ((try simp only [Exit.inBlock, Exit.then]); refine bodyPost_ret (results_none rfl _ _ _) rfl ?_)
      exact ⟨q7_, q10_, q17_, q9_⟩

end Go.Proofs.YtaajhdljdmbhhaaGreatDoor.GFnExactFeedAll
