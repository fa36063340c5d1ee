-- by gprint.py (this session's program over the kit's print.py) (a twelfth state) out of the translation. Not trusted: Lean checks it.
import Derived.Test.YtfncjddolbghlaaGreatDoorGFnMorex0
import Derived.Test.YtfncjddolbghlaaGreatDoorGFnMorex2
import Derived.Test.YtfncjddolbghlaaGreatDoorGFnMorex7
import Derived.Test.YtfncjddolbghlaaGreatDoorGFnMorex11
namespace Go.Proofs.YtfncjddolbghlaaGreatDoor.GFnMore
open Go.RowKit Go.Proofs.YtfncjddolbghlaaGreatDoorW.PrintWords Go.Proofs.YtfncjddolbghlaaGreatDoorW.PrintLast Go.Proofs.YtfncjddolbghlaaGreatDoorW.PrintMore
attribute [local go_sem] max2_int min2_int max_two min_two max_three min_three max_four min_four   -- for this text's walks alone
set_option linter.unusedVariables false
set_option linter.unusedSimpArgs false
set_option maxRecDepth 100000
set_option maxHeartbeats 8000000

def laws_FnMore.j0 : Nat → Int → Int → Int → Int → Int → Bool → ByteArray → ByteArray → List (S88) → ByteArray → ByteArray → ByteArray → List (S88) → ByteArray → Option (Bool)
 | 0, _, _, _, _, _, _, _, _, _, _, _, _, _, _ => none
 | k + 1, x5, x6, x7, x9, x10, x55, x521000, x521001, x521002, x521003, x536000, x536001, x536002, x536003 => if x55 = true then (some false) else (if x10 = 0 then (if x6 = 0 then (if x5 = x9 then ((impl_SameReq.f k x536000 x536001 x536002 x536003 x521000 x521001 x521002 x521003).bind fun t543 => (some t543)) else (some false)) else (some false)) else (if x10 = 1 then (if x6 = 1 then (some true) else (if x6 = 0 then (some (decide (x5 > x7))) else (some true))) else (some (x6 == x10))))
def laws_FnMore.f (k : Nat) (l0 : List Int) : Option (Bool) := (laws_big.f l0).bind fun t508 => (if t508 = true then (some true) else ((spec_DrawGetReq.f k l0).bind fun t509 => ((impl_GetReq.f k t509).bind fun bt512 => ((laws_at.f l0 2).bind fun t521 => ((laws_at.f l0 3).bind fun t522 => (if (wrap64 ((t509.length : Int) + 1)) = 0 then (none) else (if 0 ≤ (Int.tmod (wrap64 ((wrap64 (t521 * 256)) + t522)) (wrap64 ((t509.length : Int) + 1))) then (if (Int.tmod (wrap64 ((wrap64 (t521 * 256)) + t522)) (wrap64 ((t509.length : Int) + 1))) ≤ (t509.length : Int) then ((impl_GetReq.f k (t509.take ((Int.tmod (wrap64 ((wrap64 (t521 * 256)) + t522)) (wrap64 ((t509.length : Int) + 1))) : Int).toNat)).bind fun bt527 => ((impl_HeadEnd.f t509).bind fun t536 => ((spec_DrawHeadEnd.f k l0).bind fun t537 => ((impl_HeadEnd.f t537).bind fun t540 => ((spec_HeadEnd.f k t537).bind fun t541 => (if t540 = t541 then ((spec_HeadEnd.f k t509).bind fun t542 => (laws_FnMore.j0 k bt512.2.2.2.2.1 bt512.2.2.2.2.2 (Int.tmod (wrap64 ((wrap64 (t521 * 256)) + t522)) (wrap64 ((t509.length : Int) + 1))) bt527.2.2.2.2.1 bt527.2.2.2.2.2 (t536 != t542) bt512.1 bt512.2.1 bt512.2.2.1 bt512.2.2.2.1 bt527.1 bt527.2.1 bt527.2.2.1 bt527.2.2.2.1)) else (laws_FnMore.j0 k bt512.2.2.2.2.1 bt512.2.2.2.2.2 (Int.tmod (wrap64 ((wrap64 (t521 * 256)) + t522)) (wrap64 ((t509.length : Int) + 1))) bt527.2.2.2.2.1 bt527.2.2.2.2.2 true bt512.1 bt512.2.1 bt512.2.2.1 bt512.2.2.2.1 bt527.1 bt527.2.1 bt527.2.2.1 bt527.2.2.2.1))))))) else (none)) else (none))))))))

theorem laws_FnMore.j0_true : ∀ k y0 y1 y2 y3 y4 y6 y7 y8 y9 y10 y11 y12 y13, ¬ (laws_FnMore.j0 k y0 y1 y2 y3 y4 true y6 y7 y8 y9 y10 y11 y12 y13 = some true) := by
 intro k y0 y1 y2 y3 y4 y6 y7 y8 y9 y10 y11 y12 y13
 cases k <;> simp [laws_FnMore.j0]
theorem laws_FnMore.calls (k : Nat) (A0 : Option Addr) (c0 : Nat) (l0 : List Int) (w : World) (hr0 : Kd.C (Kd.int .u8) w A0 l0.length l0) (hc0 : l0.length ≤ c0) (h : laws_FnMore.f k l0 = some true) (hG : GOK w) :
  Calls Tryz.prog 8 #[.slice A0 l0.length c0] w fun e w' => e = .returned (.bool true) ∧ Below w.heap.size w w' := by
 have hu64 := Tryz.underlying64
 have HR0 := Aside0.mk hr0
 have HC0 := Aside0.mk hc0
 clear hr0 hc0
 have HB := Aside0.mk (Below.refl w.heap.size w)
 have H : ((laws_big.f l0).bind fun t508 => (if t508 = true then (some true) else ((spec_DrawGetReq.f k l0).bind fun t509 => ((impl_GetReq.f k t509).bind fun bt512 => ((laws_at.f l0 2).bind fun t521 => ((laws_at.f l0 3).bind fun t522 => (if (wrap64 ((t509.length : Int) + 1)) = 0 then (none) else (if 0 ≤ (Int.tmod (wrap64 ((wrap64 (t521 * 256)) + t522)) (wrap64 ((t509.length : Int) + 1))) then (if (Int.tmod (wrap64 ((wrap64 (t521 * 256)) + t522)) (wrap64 ((t509.length : Int) + 1))) ≤ (t509.length : Int) then ((impl_GetReq.f k (t509.take ((Int.tmod (wrap64 ((wrap64 (t521 * 256)) + t522)) (wrap64 ((t509.length : Int) + 1))) : Int).toNat)).bind fun bt527 => ((impl_HeadEnd.f t509).bind fun t536 => ((spec_DrawHeadEnd.f k l0).bind fun t537 => ((impl_HeadEnd.f t537).bind fun t540 => ((spec_HeadEnd.f k t537).bind fun t541 => (if t540 = t541 then ((spec_HeadEnd.f k t509).bind fun t542 => (laws_FnMore.j0 k bt512.2.2.2.2.1 bt512.2.2.2.2.2 (Int.tmod (wrap64 ((wrap64 (t521 * 256)) + t522)) (wrap64 ((t509.length : Int) + 1))) bt527.2.2.2.2.1 bt527.2.2.2.2.2 (t536 != t542) bt512.1 bt512.2.1 bt512.2.2.1 bt512.2.2.2.1 bt527.1 bt527.2.1 bt527.2.2.1 bt527.2.2.2.1)) else (laws_FnMore.j0 k bt512.2.2.2.2.1 bt512.2.2.2.2.2 (Int.tmod (wrap64 ((wrap64 (t521 * 256)) + t522)) (wrap64 ((t509.length : Int) + 1))) bt527.2.2.2.2.1 bt527.2.2.2.2.2 true bt512.1 bt512.2.1 bt512.2.2.1 bt512.2.2.2.1 bt527.1 bt527.2.1 bt527.2.2.1 bt527.2.2.2.1))))))) else (none)) else (none))))))))) = some true := h
 clear h
 replace H := Option.bind_eq_some_iff.mp H
 obtain ⟨t508, A20, H⟩ := H
 replace H : (if t508 = true then (some true) else ((spec_DrawGetReq.f k l0).bind fun t509 => ((impl_GetReq.f k t509).bind fun bt512 => ((laws_at.f l0 2).bind fun t521 => ((laws_at.f l0 3).bind fun t522 => (if (wrap64 ((t509.length : Int) + 1)) = 0 then (none) else (if 0 ≤ (Int.tmod (wrap64 ((wrap64 (t521 * 256)) + t522)) (wrap64 ((t509.length : Int) + 1))) then (if (Int.tmod (wrap64 ((wrap64 (t521 * 256)) + t522)) (wrap64 ((t509.length : Int) + 1))) ≤ (t509.length : Int) then ((impl_GetReq.f k (t509.take ((Int.tmod (wrap64 ((wrap64 (t521 * 256)) + t522)) (wrap64 ((t509.length : Int) + 1))) : Int).toNat)).bind fun bt527 => ((impl_HeadEnd.f t509).bind fun t536 => ((spec_DrawHeadEnd.f k l0).bind fun t537 => ((impl_HeadEnd.f t537).bind fun t540 => ((spec_HeadEnd.f k t537).bind fun t541 => (if t540 = t541 then ((spec_HeadEnd.f k t509).bind fun t542 => (laws_FnMore.j0 k bt512.2.2.2.2.1 bt512.2.2.2.2.2 (Int.tmod (wrap64 ((wrap64 (t521 * 256)) + t522)) (wrap64 ((t509.length : Int) + 1))) bt527.2.2.2.2.1 bt527.2.2.2.2.2 (t536 != t542) bt512.1 bt512.2.1 bt512.2.2.1 bt512.2.2.2.1 bt527.1 bt527.2.1 bt527.2.2.1 bt527.2.2.2.1)) else (laws_FnMore.j0 k bt512.2.2.2.2.1 bt512.2.2.2.2.2 (Int.tmod (wrap64 ((wrap64 (t521 * 256)) + t522)) (wrap64 ((t509.length : Int) + 1))) bt527.2.2.2.2.1 bt527.2.2.2.2.2 true bt512.1 bt512.2.1 bt512.2.2.1 bt512.2.2.2.1 bt527.1 bt527.2.1 bt527.2.2.1 bt527.2.2.2.1))))))) else (none)) else (none)))))))) = some true := H
 have A2 := Aside0.mk A20
 clear A20
 by_cases c3 : t508 = true
 ·subst c3
  have H1 : (some true) = some true := rfl
  clear H
  have H := H1
  clear H1
  have hr_ := Aside0.mk (Option.some.inj H); clear H
  go_enter Tryz.func8, Tryz.ntmps8
  go_wp2_with (first | ((with_reducible refine gate_callee (f := 20) rfl ?_); refine goesL_ (some 14) rfl rfl Tryz.func20 (by kernel_rfl) rfl #[.slice A0 l0.length c0] rfl q2_ ?_; (with_reducible refine (laws_big.calls _ _ l0 true _ ?side1 ?side2 A2.1).mono ?_); (case side1 => exact q96_); (case side2 => exact q121_); rintro e w' ⟨rfl, ⟨nd, rfl⟩⟩; refine ⟨_, rfl, ?_⟩))
  go_ret
  exact ⟨by first | rfl | exact absurd hr_.1 (by decide) | (have h_ := hr_.1; first | (subst h_; rfl) | (rw [h_]; done) | (simp only [h_]; done) | (simp at h_ ⊢; exact h_) | (simp at h_ ⊢; omega)) | (simp [errW_none, errW_some] <;> rfl) | (simp [*, errW_none, errW_some] <;> rfl), q1_⟩
 ·replace c3 := Bool.eq_false_iff.mpr c3
  subst c3
  rw [if_neg (show ¬ (false = true) by decide)] at H
  replace H := Option.bind_eq_some_iff.mp H
  obtain ⟨t509, A40, H⟩ := H
  replace H : ((impl_GetReq.f k t509).bind fun bt512 => ((laws_at.f l0 2).bind fun t521 => ((laws_at.f l0 3).bind fun t522 => (if (wrap64 ((t509.length : Int) + 1)) = 0 then (none) else (if 0 ≤ (Int.tmod (wrap64 ((wrap64 (t521 * 256)) + t522)) (wrap64 ((t509.length : Int) + 1))) then (if (Int.tmod (wrap64 ((wrap64 (t521 * 256)) + t522)) (wrap64 ((t509.length : Int) + 1))) ≤ (t509.length : Int) then ((impl_GetReq.f k (t509.take ((Int.tmod (wrap64 ((wrap64 (t521 * 256)) + t522)) (wrap64 ((t509.length : Int) + 1))) : Int).toNat)).bind fun bt527 => ((impl_HeadEnd.f t509).bind fun t536 => ((spec_DrawHeadEnd.f k l0).bind fun t537 => ((impl_HeadEnd.f t537).bind fun t540 => ((spec_HeadEnd.f k t537).bind fun t541 => (if t540 = t541 then ((spec_HeadEnd.f k t509).bind fun t542 => (laws_FnMore.j0 k bt512.2.2.2.2.1 bt512.2.2.2.2.2 (Int.tmod (wrap64 ((wrap64 (t521 * 256)) + t522)) (wrap64 ((t509.length : Int) + 1))) bt527.2.2.2.2.1 bt527.2.2.2.2.2 (t536 != t542) bt512.1 bt512.2.1 bt512.2.2.1 bt512.2.2.2.1 bt527.1 bt527.2.1 bt527.2.2.1 bt527.2.2.2.1)) else (laws_FnMore.j0 k bt512.2.2.2.2.1 bt512.2.2.2.2.2 (Int.tmod (wrap64 ((wrap64 (t521 * 256)) + t522)) (wrap64 ((t509.length : Int) + 1))) bt527.2.2.2.2.1 bt527.2.2.2.2.2 true bt512.1 bt512.2.1 bt512.2.2.1 bt512.2.2.2.1 bt527.1 bt527.2.1 bt527.2.2.1 bt527.2.2.2.1))))))) else (none)) else (none)))))) = some true := H
  have A4 := Aside0.mk A40
  clear A40
  replace H := Option.bind_eq_some_iff.mp H
  obtain ⟨⟨t512, t513, t514, t517, t518, t519⟩, A50, H⟩ := H
  replace H : ((laws_at.f l0 2).bind fun t521 => ((laws_at.f l0 3).bind fun t522 => (if (wrap64 ((t509.length : Int) + 1)) = 0 then (none) else (if 0 ≤ (Int.tmod (wrap64 ((wrap64 (t521 * 256)) + t522)) (wrap64 ((t509.length : Int) + 1))) then (if (Int.tmod (wrap64 ((wrap64 (t521 * 256)) + t522)) (wrap64 ((t509.length : Int) + 1))) ≤ (t509.length : Int) then ((impl_GetReq.f k (t509.take ((Int.tmod (wrap64 ((wrap64 (t521 * 256)) + t522)) (wrap64 ((t509.length : Int) + 1))) : Int).toNat)).bind fun bt527 => ((impl_HeadEnd.f t509).bind fun t536 => ((spec_DrawHeadEnd.f k l0).bind fun t537 => ((impl_HeadEnd.f t537).bind fun t540 => ((spec_HeadEnd.f k t537).bind fun t541 => (if t540 = t541 then ((spec_HeadEnd.f k t509).bind fun t542 => (laws_FnMore.j0 k t518 t519 (Int.tmod (wrap64 ((wrap64 (t521 * 256)) + t522)) (wrap64 ((t509.length : Int) + 1))) bt527.2.2.2.2.1 bt527.2.2.2.2.2 (t536 != t542) t512 t513 t514 t517 bt527.1 bt527.2.1 bt527.2.2.1 bt527.2.2.2.1)) else (laws_FnMore.j0 k t518 t519 (Int.tmod (wrap64 ((wrap64 (t521 * 256)) + t522)) (wrap64 ((t509.length : Int) + 1))) bt527.2.2.2.2.1 bt527.2.2.2.2.2 true t512 t513 t514 t517 bt527.1 bt527.2.1 bt527.2.2.1 bt527.2.2.2.1))))))) else (none)) else (none))))) = some true := H
  have A5 := Aside0.mk A50
  clear A50
  replace H := Option.bind_eq_some_iff.mp H
  obtain ⟨t521, A60, H⟩ := H
  replace H : ((laws_at.f l0 3).bind fun t522 => (if (wrap64 ((t509.length : Int) + 1)) = 0 then (none) else (if 0 ≤ (Int.tmod (wrap64 ((wrap64 (t521 * 256)) + t522)) (wrap64 ((t509.length : Int) + 1))) then (if (Int.tmod (wrap64 ((wrap64 (t521 * 256)) + t522)) (wrap64 ((t509.length : Int) + 1))) ≤ (t509.length : Int) then ((impl_GetReq.f k (t509.take ((Int.tmod (wrap64 ((wrap64 (t521 * 256)) + t522)) (wrap64 ((t509.length : Int) + 1))) : Int).toNat)).bind fun bt527 => ((impl_HeadEnd.f t509).bind fun t536 => ((spec_DrawHeadEnd.f k l0).bind fun t537 => ((impl_HeadEnd.f t537).bind fun t540 => ((spec_HeadEnd.f k t537).bind fun t541 => (if t540 = t541 then ((spec_HeadEnd.f k t509).bind fun t542 => (laws_FnMore.j0 k t518 t519 (Int.tmod (wrap64 ((wrap64 (t521 * 256)) + t522)) (wrap64 ((t509.length : Int) + 1))) bt527.2.2.2.2.1 bt527.2.2.2.2.2 (t536 != t542) t512 t513 t514 t517 bt527.1 bt527.2.1 bt527.2.2.1 bt527.2.2.2.1)) else (laws_FnMore.j0 k t518 t519 (Int.tmod (wrap64 ((wrap64 (t521 * 256)) + t522)) (wrap64 ((t509.length : Int) + 1))) bt527.2.2.2.2.1 bt527.2.2.2.2.2 true t512 t513 t514 t517 bt527.1 bt527.2.1 bt527.2.2.1 bt527.2.2.2.1))))))) else (none)) else (none)))) = some true := H
  have A6 := Aside0.mk A60
  clear A60
  replace H := Option.bind_eq_some_iff.mp H
  obtain ⟨t522, A70, H⟩ := H
  replace H : (if (wrap64 ((t509.length : Int) + 1)) = 0 then (none) else (if 0 ≤ (Int.tmod (wrap64 ((wrap64 (t521 * 256)) + t522)) (wrap64 ((t509.length : Int) + 1))) then (if (Int.tmod (wrap64 ((wrap64 (t521 * 256)) + t522)) (wrap64 ((t509.length : Int) + 1))) ≤ (t509.length : Int) then ((impl_GetReq.f k (t509.take ((Int.tmod (wrap64 ((wrap64 (t521 * 256)) + t522)) (wrap64 ((t509.length : Int) + 1))) : Int).toNat)).bind fun bt527 => ((impl_HeadEnd.f t509).bind fun t536 => ((spec_DrawHeadEnd.f k l0).bind fun t537 => ((impl_HeadEnd.f t537).bind fun t540 => ((spec_HeadEnd.f k t537).bind fun t541 => (if t540 = t541 then ((spec_HeadEnd.f k t509).bind fun t542 => (laws_FnMore.j0 k t518 t519 (Int.tmod (wrap64 ((wrap64 (t521 * 256)) + t522)) (wrap64 ((t509.length : Int) + 1))) bt527.2.2.2.2.1 bt527.2.2.2.2.2 (t536 != t542) t512 t513 t514 t517 bt527.1 bt527.2.1 bt527.2.2.1 bt527.2.2.2.1)) else (laws_FnMore.j0 k t518 t519 (Int.tmod (wrap64 ((wrap64 (t521 * 256)) + t522)) (wrap64 ((t509.length : Int) + 1))) bt527.2.2.2.2.1 bt527.2.2.2.2.2 true t512 t513 t514 t517 bt527.1 bt527.2.1 bt527.2.2.1 bt527.2.2.2.1))))))) else (none)) else (none))) = some true := H
  have A7 := Aside0.mk A70
  clear A70
  by_cases c8 : (wrap64 ((t509.length : Int) + 1)) = 0
  ·rw [if_pos c8] at H
   exact absurd H (by simp)
  ·rw [if_neg c8] at H
   have c8b0 : ((wrap64 ((t509.length : Int) + 1)) == 0) = false := beq_eq_false_iff_ne.mpr c8
   have c8b1 : ((wrap64 ((t509.length : Int) + 1)) != 0) = true := bne_iff_ne.mpr c8
   obtain ⟨ji9, hji9⟩ : ∃ j_ : Int, (Int.tmod (wrap64 ((wrap64 (t521 * 256)) + t522)) (wrap64 ((t509.length : Int) + 1))) = j_ := ⟨_, rfl⟩
   replace H : (if 0 ≤ (ji9) then (if (ji9) ≤ (t509.length : Int) then ((impl_GetReq.f k (t509.take ((ji9) : Int).toNat)).bind fun bt527 => ((impl_HeadEnd.f t509).bind fun t536 => ((spec_DrawHeadEnd.f k l0).bind fun t537 => ((impl_HeadEnd.f t537).bind fun t540 => ((spec_HeadEnd.f k t537).bind fun t541 => (if t540 = t541 then ((spec_HeadEnd.f k t509).bind fun t542 => (laws_FnMore.j0 k t518 t519 ji9 bt527.2.2.2.2.1 bt527.2.2.2.2.2 (t536 != t542) t512 t513 t514 t517 bt527.1 bt527.2.1 bt527.2.2.1 bt527.2.2.2.1)) else (laws_FnMore.j0 k t518 t519 ji9 bt527.2.2.2.2.1 bt527.2.2.2.2.2 true t512 t513 t514 t517 bt527.1 bt527.2.1 bt527.2.2.1 bt527.2.2.2.1))))))) else (none)) else (none)) = some true := by first | (rw [hji9] at H; exact H) | (simp only [hji9] at H ⊢; exact H)
   (try rw [hji9] at A2)
   (try rw [hji9] at A4)
   (try rw [hji9] at A5)
   (try rw [hji9] at A6)
   (try rw [hji9] at A7)
   by_cases c10 : 0 ≤ (ji9)
   ·rw [if_pos c10] at H
    have c10b0 := eq_true c10
    have c10b1 : decide (0 ≤ (ji9)) = true := decide_eq_true c10
    clear c10
    by_cases c11 : (ji9) ≤ (t509.length : Int)
    ·rw [if_pos c11] at H
     have c11b0 := eq_true c11
     have c11b1 : decide ((ji9) ≤ (t509.length : Int)) = true := decide_eq_true c11
     clear c11
     obtain ⟨y523, hy523⟩ : ∃ y_ : List Int, y_ = (t509.take ((ji9) : Int).toNat) := ⟨_, rfl⟩
     replace H : ((impl_GetReq.f k y523).bind fun bt527 => ((impl_HeadEnd.f t509).bind fun t536 => ((spec_DrawHeadEnd.f k l0).bind fun t537 => ((impl_HeadEnd.f t537).bind fun t540 => ((spec_HeadEnd.f k t537).bind fun t541 => (if t540 = t541 then ((spec_HeadEnd.f k t509).bind fun t542 => (laws_FnMore.j0 k t518 t519 ji9 bt527.2.2.2.2.1 bt527.2.2.2.2.2 (t536 != t542) t512 t513 t514 t517 bt527.1 bt527.2.1 bt527.2.2.1 bt527.2.2.2.1)) else (laws_FnMore.j0 k t518 t519 ji9 bt527.2.2.2.2.1 bt527.2.2.2.2.2 true t512 t513 t514 t517 bt527.1 bt527.2.1 bt527.2.2.1 bt527.2.2.2.1))))))) = some true := by first | (rw [hy523]; with_reducible exact H) | (have H2_ := (Option.bind_some _ _).symm.trans H; rw [hy523]; with_reducible exact H2_) | (have H2_ := (Option.bind_some _ _).symm.trans H; with_reducible exact H2_) | with_reducible exact H | (rw [hy523]; exact H) | exact H
     have Ny523 := Aside0.mk hy523
     clear hy523
     replace H := Option.bind_eq_some_iff.mp H
     obtain ⟨⟨t527, t528, t529, t532, t533, t534⟩, A120, H⟩ := H
     replace H : ((impl_HeadEnd.f t509).bind fun t536 => ((spec_DrawHeadEnd.f k l0).bind fun t537 => ((impl_HeadEnd.f t537).bind fun t540 => ((spec_HeadEnd.f k t537).bind fun t541 => (if t540 = t541 then ((spec_HeadEnd.f k t509).bind fun t542 => (laws_FnMore.j0 k t518 t519 ji9 t533 t534 (t536 != t542) t512 t513 t514 t517 t527 t528 t529 t532)) else (laws_FnMore.j0 k t518 t519 ji9 t533 t534 true t512 t513 t514 t517 t527 t528 t529 t532)))))) = some true := H
     have A12 := Aside0.mk A120
     clear A120
     replace H := Option.bind_eq_some_iff.mp H
     obtain ⟨t536, A130, H⟩ := H
     replace H : ((spec_DrawHeadEnd.f k l0).bind fun t537 => ((impl_HeadEnd.f t537).bind fun t540 => ((spec_HeadEnd.f k t537).bind fun t541 => (if t540 = t541 then ((spec_HeadEnd.f k t509).bind fun t542 => (laws_FnMore.j0 k t518 t519 ji9 t533 t534 (t536 != t542) t512 t513 t514 t517 t527 t528 t529 t532)) else (laws_FnMore.j0 k t518 t519 ji9 t533 t534 true t512 t513 t514 t517 t527 t528 t529 t532))))) = some true := H
     have A13 := Aside0.mk A130
     clear A130
     replace H := Option.bind_eq_some_iff.mp H
     obtain ⟨t537, A140, H⟩ := H
     replace H : ((impl_HeadEnd.f t537).bind fun t540 => ((spec_HeadEnd.f k t537).bind fun t541 => (if t540 = t541 then ((spec_HeadEnd.f k t509).bind fun t542 => (laws_FnMore.j0 k t518 t519 ji9 t533 t534 (t536 != t542) t512 t513 t514 t517 t527 t528 t529 t532)) else (laws_FnMore.j0 k t518 t519 ji9 t533 t534 true t512 t513 t514 t517 t527 t528 t529 t532)))) = some true := H
     have A14 := Aside0.mk A140
     clear A140
     have HC15 := Aside0.mk H
     clear H
     go_enter Tryz.func8, Tryz.ntmps8
     go_upto_region 9 with (first | ((with_reducible refine gate_callee (f := 20) rfl ?_); refine goesL_ (some 14) rfl rfl Tryz.func20 (by kernel_rfl) rfl #[.slice A0 l0.length c0] rfl q2_ ?_; (with_reducible refine (laws_big.calls _ _ l0 false _ ?side1 ?side2 A2.1).mono ?_); (case side1 => exact q96_); (case side2 => exact q121_); rintro e w' ⟨rfl, ⟨nd, rfl⟩⟩; refine ⟨_, rfl, ?_⟩) | ((with_reducible refine gate_callee (f := 51) rfl ?_); refine goesL_ (some 16) rfl rfl Tryz.func51 (by kernel_rfl) rfl #[.slice A0 l0.length c0] rfl q2_ ?_; (with_reducible refine (spec_DrawGetReq.calls k _ _ l0 t509 _ ?side1 ?side2 A4.1).mono ?_); (case side1 => exact q96_); (case side2 => exact q121_); rintro e w16 ⟨v510, rfl, ho0, hb⟩; refine ⟨_, rfl, ?_⟩; have n0_ := Aside0.mk (Kd.R_lower ho0 (below_size q1_)); have n1_ := Aside0.mk (below_step q1_ hb); clear HB; have HO511 := n0_; have HB := n1_; clear n0_ n1_; (try clear hb); (try clear hb2); (try clear hk); (try clear hi); (try clear ho0); obtain ⟨Ao17, co17, eo17⟩ := Kd.R_slice HO511.1; subst eo17) | ((with_reducible refine gate_callee (f := 52) rfl ?_); refine goesL_ (some 19) rfl rfl Tryz.func52 (by kernel_rfl) rfl #[.slice Ao17 t509.length co17] rfl q2_ ?_; (with_reducible refine (impl_GetReq.calls k _ _ t509 t512 t513 t514 t517 t518 t519 _ ?side1 ?side2 A5.1 ?side99).mono ?_); (case side1 => exact q119_); (case side2 => exact (Kd.R_reads' HO511.1).2.1); (case side99 => exact q50_); rintro e w18 ⟨v515, rfl, ho0, hb⟩; refine ⟨_, rfl, ?_⟩; have n0_ := Aside0.mk (Kd.R_below q58_ hb); have n1_ := Aside0.mk (Kd.R_lower ho0 (below_size q1_)); have n2_ := Aside0.mk (below_step q1_ hb); clear HO511 HB; have HO511 := n0_; have HO516 := n1_; have HB := n2_; clear n0_ n1_ n2_; (try clear hb); (try clear hb2); (try clear hk); (try clear hi); (try clear ho0)) | ((with_reducible refine gate_dst (N := 4) rfl ?_); refine box_event ?hg (N := 4) ?hd (cs := #[.string (⟨#[]⟩ : ByteArray), .string (⟨#[]⟩ : ByteArray), .slice none 0 0, .string (⟨#[]⟩ : ByteArray)]) (t := 64) ?hr ?_; (case hd => rfl); (case hg => rfl); (case hr => exact q26_); intro gb520 hg w19 hbox hb; have n0_ := Aside0.mk (Kd.R_below q58_ hb); have n1_ := Aside0.mk (Kd.R_below q64_ hb); have n2_ := Aside0.mk (below_step q1_ hb); have n3_ := Aside0.mk (hbox); have n4_ := Aside0.mk ((q40_ : w.heap.size ≤ gb520)); have n5_ := Aside0.mk ((q40_ : w.heap.size ≤ gb520)); clear HO511 HO516 HB; have HO511 := n0_; have HO516 := n1_; have HB := n2_; have BK520 := n3_; have GW520 := n4_; have GE520 := n5_; clear n0_ n1_ n2_ n3_ n4_ n5_; clear hb hbox hg; have hcz20_0 : w19.cell? ⟨gb520, 0, none⟩ = some (.string (⟨#[]⟩ : ByteArray)) := (bc_ BK520.1 0).trans rfl; have hcz20_1 : w19.cell? ⟨gb520, 1, none⟩ = some (.string (⟨#[]⟩ : ByteArray)) := (bc_ BK520.1 1).trans rfl; have hcz20_2 : w19.cell? ⟨gb520, 2, none⟩ = some (.slice none 0 0) := (bc_ BK520.1 2).trans rfl; have hcz20_3 : w19.cell? ⟨gb520, 3, none⟩ = some (.string (⟨#[]⟩ : ByteArray)) := (bc_ BK520.1 3).trans rfl; have hfz20_0 := bF_ BK520.1 0; have hfz20_1 := bF_ BK520.1 1; have hfz20_2 := bF_ BK520.1 2; have hfz20_3 := bF_ BK520.1 3; obtain ⟨Ao21, co21, eo21⟩ := Kd.R_slice HO516.1; subst eo21) | ((with_reducible refine gate_store (t := 64) (p := 4) rfl ?_); refine store_event (t := 64) (p := 4) (v := ?vo_w22) (w1 := ((((w19.setCell ⟨gb520, 0, none⟩ (.string t512)).setCell ⟨gb520, 1, none⟩ (.string t513)).setCell ⟨gb520, 2, none⟩ (.slice Ao21 t514.length co21)).setCell ⟨gb520, 3, none⟩ (.string t517))) ?hg ?ho ?hn ?hr ?_; (case ho => rfl); (case hg => rfl); (case hn => rfl); (case hr => exact q26_); intro w22 hw; have n0_ : Aside0 (Kd.R (Kd.int .u8) 5 w22 w.heap.size (fun _ => True) (.slice Ao17 t509.length co17) t509) := ⟨(by rw [hw]; exact (by (with_reducible repeat (first | apply rA_ | apply rN_ | apply rD_)); exact Kd.R_mono (rF_ (p := ⟨gb520, 3, none⟩) (rF_ (p := ⟨gb520, 2, none⟩) (rF_ (p := ⟨gb520, 1, none⟩) (rF_ (p := ⟨gb520, 0, none⟩) (Kd.R_types HO511.1 BK520.1 (by decide)) (fun _ hk => hk.2) (.string t512)) (fun _ hk => hk.2) (.string t513)) (fun _ hk => hk.2) (.slice Ao21 t514.length co21)) (fun _ hk => hk.2) (.string t517)) (fun _ hk => trivial)))⟩; have n1_ : Aside0 (Kd.R k88 88 w22 w.heap.size (fun _ => True) (.slice Ao21 t514.length co21) t514) := ⟨(by rw [hw]; exact (by (with_reducible repeat (first | apply rA_ | apply rN_ | apply rD_)); exact Kd.R_mono (rF_ (p := ⟨gb520, 3, none⟩) (rF_ (p := ⟨gb520, 2, none⟩) (rF_ (p := ⟨gb520, 1, none⟩) (rF_ (p := ⟨gb520, 0, none⟩) (Kd.R_types HO516.1 BK520.1 (by decide)) (fun _ hk => hk.2) (.string t512)) (fun _ hk => hk.2) (.string t513)) (fun _ hk => hk.2) (.slice Ao21 t514.length co21)) (fun _ hk => hk.2) (.string t517)) (fun _ hk => trivial)))⟩; have n2_ : Aside0 (w22.heap[gb520]? = some (.cells #[.string t512, .string t513, .slice Ao21 t514.length co21, .string t517] 64 (0, 0))) := ⟨(by rw [hw]; exact (by (with_reducible repeat (first | refine bN_ ?_ _ | refine bD_ ?_ | refine bA_ ?_ _)); refine blk_put (cs := #[.string t512, .string t513, .slice Ao21 t514.length co21, .string (⟨#[]⟩ : ByteArray)]) ?_ 3 _ rfl; (with_reducible repeat (first | refine bN_ ?_ _ | refine bD_ ?_ | refine bA_ ?_ _)); refine blk_put (cs := #[.string t512, .string t513, .slice none 0 0, .string (⟨#[]⟩ : ByteArray)]) ?_ 2 _ rfl; (with_reducible repeat (first | refine bN_ ?_ _ | refine bD_ ?_ | refine bA_ ?_ _)); refine blk_put (cs := #[.string t512, .string (⟨#[]⟩ : ByteArray), .slice none 0 0, .string (⟨#[]⟩ : ByteArray)]) ?_ 1 _ rfl; (with_reducible repeat (first | refine bN_ ?_ _ | refine bD_ ?_ | refine bA_ ?_ _)); refine blk_put (cs := #[.string (⟨#[]⟩ : ByteArray), .string (⟨#[]⟩ : ByteArray), .slice none 0 0, .string (⟨#[]⟩ : ByteArray)]) ?_ 0 _ rfl; (with_reducible repeat (first | refine bN_ ?_ _ | refine bD_ ?_ | refine bA_ ?_ _)); exact BK520.1))⟩; have n3_ : Aside0 (Below w.heap.size w w22) := ⟨(by rw [hw]; exact q49_)⟩; clear hw HO511; clear HO516 BK520 HB; have HO511 := n0_; have HO516 := n1_; have BK520 := n2_; have HB := n3_; clear n0_ n1_ n2_ n3_) | ((with_reducible refine gate_callee (f := 53) rfl ?_); refine goesL_ (some 24) rfl rfl Tryz.func53 (by kernel_rfl) rfl #[.slice A0 l0.length c0, .int .i64 2] rfl q2_ ?_; (with_reducible refine (laws_at.calls _ _ l0 2 t521 _ ?side1 ?side2 A6.1).mono ?_); (case side1 => exact q42_); (case side2 => exact q121_); rintro e w' ⟨rfl, ⟨nd, rfl⟩⟩; refine ⟨_, rfl, ?_⟩; (try (rw [drewN_self w22]; generalize hq_ : World.drewN w22 _ = w22; have n0_ : Aside0 (Kd.R (Kd.int .u8) 5 w22 w.heap.size (fun _ => True) (.slice Ao17 t509.length co17) t509) := ⟨by rw [← hq_]; exact q58_⟩; have n1_ : Aside0 (Kd.R k88 88 w22 w.heap.size (fun _ => True) (.slice Ao21 t514.length co21) t514) := ⟨by rw [← hq_]; exact q64_⟩; have n2_ : Aside0 (w22.heap[gb520]? = some (.cells #[.string t512, .string t513, .slice Ao21 t514.length co21, .string t517] 64 (0, 0))) := ⟨by rw [← hq_]; exact q51_⟩; have n3_ : Aside0 (Below w.heap.size w w22) := ⟨by rw [← hq_]; exact q49_⟩; clear HO511 HO516 BK520 HB hq_; have HO511 := n0_; have HO516 := n1_; have BK520 := n2_; have HB := n3_; clear n0_ n1_ n2_ n3_))) | ((with_reducible refine gate_callee (f := 53) rfl ?_); refine goesL_ (some 27) rfl rfl Tryz.func53 (by kernel_rfl) rfl #[.slice A0 l0.length c0, .int .i64 3] rfl q2_ ?_; (with_reducible refine (laws_at.calls _ _ l0 3 t522 _ ?side1 ?side2 A7.1).mono ?_); (case side1 => exact q42_); (case side2 => exact q121_); rintro e w' ⟨rfl, ⟨nd, rfl⟩⟩; refine ⟨_, rfl, ?_⟩; (try (rw [drewN_self w22]; generalize hq_ : World.drewN w22 _ = w22; have n0_ : Aside0 (Kd.R (Kd.int .u8) 5 w22 w.heap.size (fun _ => True) (.slice Ao17 t509.length co17) t509) := ⟨by rw [← hq_]; exact q58_⟩; have n1_ : Aside0 (Kd.R k88 88 w22 w.heap.size (fun _ => True) (.slice Ao21 t514.length co21) t514) := ⟨by rw [← hq_]; exact q64_⟩; have n2_ : Aside0 (w22.heap[gb520]? = some (.cells #[.string t512, .string t513, .slice Ao21 t514.length co21, .string t517] 64 (0, 0))) := ⟨by rw [← hq_]; exact q51_⟩; have n3_ : Aside0 (Below w.heap.size w w22) := ⟨by rw [← hq_]; exact q49_⟩; clear HO511 HO516 BK520 HB hq_; have HO511 := n0_; have HO516 := n1_; have BK520 := n2_; have HB := n3_; clear n0_ n1_ n2_ n3_)); have q23 : ((ji9) : Int) ≤ ((t509.length : Int) : Int) := of_decide_eq_true q4_; obtain ⟨i023, hi023, _, hsz23, _⟩ := info_parts info5; have hroom23 : t509.length ≤ co17 := (Kd.R_reads' HO511.1).2.1; have hC23 : Kd.C (Kd.int .u8) _ Ao17 t509.length t509 := (Kd.R_reads' HO511.1).2.2; have hcut23 := cut_to (P := Tryz.prog) 22 5 .i64 Tryz.underlying22 hi023 Ao17 t509.length co17 (ji9) (of_decide_eq_true q4_) q23 hroom23; have hr23 := Kd.C_take (m := ((ji9) : Int).toNat) hC23 (by omega); have hy23 : y523.length = ((ji9) : Int).toNat := (by rw [Ny523.1, List.length_take]; omega); rw [← Ny523.1] at hr23; rw [← hy23] at hcut23; have HR526 := Aside0.mk hr23; have HC526 := Aside0.mk (show y523.length ≤ co17 from by omega); clear hr23 hC23 hroom23 hi023 hsz23; have KY23 := Aside0.mk hy23; clear hy23; have KL23 := Aside0.mk (show ((ji9) : Int).toNat ≤ t509.length from by omega); replace q23 := eq_true q23) | ((with_reducible refine gate_callee (f := 52) rfl ?_); refine goesL_ (some 37) rfl rfl Tryz.func52 (by kernel_rfl) rfl #[.slice Ao17 y523.length co17] rfl q2_ ?_; (with_reducible refine (impl_GetReq.calls k _ _ y523 t527 t528 t529 t532 t533 t534 _ ?side1 ?side2 A12.1 ?side99).mono ?_); (case side1 => repeat (first | exact q63_ | (with_reducible refine Kd.C_alloc ?_ _) | (with_reducible refine Kd.C_drewN ?_ _) | (with_reducible refine Kd.C_drew ?_))); (case side2 => exact HC526.1); (case side99 => exact q50_); rintro e w24 ⟨v530, rfl, ho0, hb⟩; refine ⟨_, rfl, ?_⟩; have n0_ := Aside0.mk (Kd.R_below q58_ hb); have n1_ := Aside0.mk (Kd.R_elder' q64_ (Kd.R_base ho0) hb); have n2_ := Aside0.mk (Kd.R_lower (Kd.R_new' ho0 (Kd.R_lt q64_)) (below_size q49_)); have n3_ := Aside0.mk (bB_ (g := gb520) (o := .cells #[.string t512, .string t513, .slice Ao21 t514.length co21, .string t517] 64 (0, 0)) q51_ hb); have n4_ := Aside0.mk (Kd.C_below q63_ hb); have n5_ := Aside0.mk (below_step q49_ hb); clear HO511 HO516; clear BK520 HR526 HB; have HO511 := n0_; have HO516 := n1_; have HO531 := n2_; have BK520 := n3_; have HR526 := n4_; have HB := n5_; clear n0_ n1_ n2_ n3_ n4_ n5_; (try clear hb); (try clear hb2); (try clear hk); (try clear hi); (try clear ho0)) | ((with_reducible refine gate_dst (N := 8) rfl ?_); refine box_event ?hg (N := 8) ?hd (cs := #[.string (⟨#[]⟩ : ByteArray), .string (⟨#[]⟩ : ByteArray), .slice none 0 0, .string (⟨#[]⟩ : ByteArray)]) (t := 64) ?hr ?_; (case hd => rfl); (case hg => rfl); (case hr => exact q26_); intro gb535 hg w25 hbox hb; have n0_ := Aside0.mk (Kd.R_below q58_ hb); have n1_ := Aside0.mk (Kd.R_below q64_ hb); have n2_ := Aside0.mk (Kd.R_below q109_ hb); have n3_ := Aside0.mk (bB_ (g := gb520) (o := .cells #[.string t512, .string t513, .slice Ao21 t514.length co21, .string t517] 64 (0, 0)) q51_ hb); have n4_ := Aside0.mk (Kd.C_below q63_ hb); have n5_ := Aside0.mk (below_step q49_ hb); have n6_ := Aside0.mk (hbox); have n7_ := Aside0.mk ((by rw [hg]; exact (below_size q49_) : w.heap.size ≤ gb535)); have n8_ := Aside0.mk ((by rw [hg]; exact (below_size q49_) : w.heap.size ≤ gb535)); have n9_ := Aside0.mk ((by rw [hg]; exact Nat.ne_of_lt (blk_lt (g := gb520) (o := .cells #[.string t512, .string t513, .slice Ao21 t514.length co21, .string t517] 64 (0, 0)) q51_) : gb520 ≠ gb535)); have n10_ := Aside0.mk ((by rw [hg]; exact Nat.ne_of_gt (blk_lt (g := gb520) (o := .cells #[.string t512, .string t513, .slice Ao21 t514.length co21, .string t517] 64 (0, 0)) q51_) : gb535 ≠ gb520)); clear HO511 HO516; clear HO531 BK520; clear HR526 HB; have HO511 := n0_; have HO516 := n1_; have HO531 := n2_; have BK520 := n3_; have HR526 := n4_; have HB := n5_; have BK535 := n6_; have GW535 := n7_; have GE535 := n8_; have NB520_535 := n9_; have NB535_520 := n10_; clear n0_ n1_ n2_ n3_ n4_ n5_ n6_ n7_ n8_ n9_ n10_; clear hb hbox hg; have hnb26 := NB535_520.1; have hnc26 := NB520_535.1; have hcz27_0 : w25.cell? ⟨gb535, 0, none⟩ = some (.string (⟨#[]⟩ : ByteArray)) := (bc_ BK535.1 0).trans rfl; have hcz27_1 : w25.cell? ⟨gb535, 1, none⟩ = some (.string (⟨#[]⟩ : ByteArray)) := (bc_ BK535.1 1).trans rfl; have hcz27_2 : w25.cell? ⟨gb535, 2, none⟩ = some (.slice none 0 0) := (bc_ BK535.1 2).trans rfl; have hcz27_3 : w25.cell? ⟨gb535, 3, none⟩ = some (.string (⟨#[]⟩ : ByteArray)) := (bc_ BK535.1 3).trans rfl; have hfz27_0 := bF_ BK535.1 0; have hfz27_1 := bF_ BK535.1 1; have hfz27_2 := bF_ BK535.1 2; have hfz27_3 := bF_ BK535.1 3; obtain ⟨Ao28, co28, eo28⟩ := Kd.R_slice HO531.1; subst eo28) | ((with_reducible refine gate_callee (f := 54) rfl ?_); refine goesL_ (some 42) rfl rfl Tryz.func54 (by kernel_rfl) rfl #[.slice Ao17 t509.length co17] rfl q2_ ?_; (with_reducible refine (impl_HeadEnd.calls _ _ t509 t536 _ ?side1 ?side2 A13.1 ?side99).mono ?_); (case side1 => refine (Kd.R_reads' (e := 5) (base := w.heap.size) (ok := fun k_ => True) (n := t509.length) (c := co17) ?_).2.2; exact q56_); (case side2 => exact (Kd.R_reads' HO511.1).2.1); (case side99 => exact q50_); rintro e w29 ⟨rfl, hb⟩; refine ⟨_, rfl, ?_⟩; have n0_ := Aside0.mk (Kd.R_below q56_ hb); have n1_ := Aside0.mk (Kd.R_below (by (with_reducible repeat (first | apply rA_ | apply rN_ | apply rD_)); exact (Kd.R_mono (rF_ (p := ⟨gb535, 3, none⟩) (rF_ (p := ⟨gb535, 2, none⟩) (rF_ (p := ⟨gb535, 1, none⟩) (rF_ (p := ⟨gb535, 0, none⟩) (Kd.R_types HO516.1 BK535.1 (by decide)) (fun _ hk => hk.2) (.string t527)) (fun _ hk => hk.2) (.string t528)) (fun _ hk => hk.2) (.slice Ao28 t529.length co28)) (fun _ hk => hk.2) (.string t532)) (fun _ h_ => h_.1))) hb); have n2_ := Aside0.mk (Kd.R_below (by (with_reducible repeat (first | apply rA_ | apply rN_ | apply rD_)); exact (Kd.R_mono (rF_ (p := ⟨gb535, 3, none⟩) (rF_ (p := ⟨gb535, 2, none⟩) (rF_ (p := ⟨gb535, 1, none⟩) (rF_ (p := ⟨gb535, 0, none⟩) (Kd.R_types HO531.1 BK535.1 (by decide)) (fun _ hk => hk.2) (.string t527)) (fun _ hk => hk.2) (.string t528)) (fun _ hk => hk.2) (.slice Ao28 t529.length co28)) (fun _ hk => hk.2) (.string t532)) (fun _ h_ => h_.1))) hb); have n3_ := Aside0.mk (bB_ (g := gb520) (o := .cells #[.string t512, .string t513, .slice Ao21 t514.length co21, .string t517] 64 (0, 0)) (by (with_reducible repeat (first | refine bN_ ?_ _ | refine bD_ ?_ | refine bA_ ?_ _)); refine blk_far ?_ NB520_535.1 _; (with_reducible repeat (first | refine bN_ ?_ _ | refine bD_ ?_ | refine bA_ ?_ _)); refine blk_far ?_ NB520_535.1 _; (with_reducible repeat (first | refine bN_ ?_ _ | refine bD_ ?_ | refine bA_ ?_ _)); refine blk_far ?_ NB520_535.1 _; (with_reducible repeat (first | refine bN_ ?_ _ | refine bD_ ?_ | refine bA_ ?_ _)); refine blk_far ?_ NB520_535.1 _; (with_reducible repeat (first | refine bN_ ?_ _ | refine bD_ ?_ | refine bA_ ?_ _)); exact BK520.1) hb); have n4_ := Aside0.mk (Kd.C_below (show Kd.C (Kd.int .u8) _ Ao17 y523.length y523 from (by rw [Ny523.1]; exact Kd.C_take (m := ((ji9) : Int).toNat) ((Kd.R_reads' q56_).2.2) KL23.1)) hb); have n5_ := Aside0.mk (bB_ (g := gb535) (o := .cells #[.string t527, .string t528, .slice Ao28 t529.length co28, .string t532] 64 (0, 0)) (by (with_reducible repeat (first | refine bN_ ?_ _ | refine bD_ ?_ | refine bA_ ?_ _)); refine blk_put (cs := #[.string t527, .string t528, .slice Ao28 t529.length co28, .string (⟨#[]⟩ : ByteArray)]) ?_ 3 _ rfl; (with_reducible repeat (first | refine bN_ ?_ _ | refine bD_ ?_ | refine bA_ ?_ _)); refine blk_put (cs := #[.string t527, .string t528, .slice none 0 0, .string (⟨#[]⟩ : ByteArray)]) ?_ 2 _ rfl; (with_reducible repeat (first | refine bN_ ?_ _ | refine bD_ ?_ | refine bA_ ?_ _)); refine blk_put (cs := #[.string t527, .string (⟨#[]⟩ : ByteArray), .slice none 0 0, .string (⟨#[]⟩ : ByteArray)]) ?_ 1 _ rfl; (with_reducible repeat (first | refine bN_ ?_ _ | refine bD_ ?_ | refine bA_ ?_ _)); refine blk_put (cs := #[.string (⟨#[]⟩ : ByteArray), .string (⟨#[]⟩ : ByteArray), .slice none 0 0, .string (⟨#[]⟩ : ByteArray)]) ?_ 0 _ rfl; (with_reducible repeat (first | refine bN_ ?_ _ | refine bD_ ?_ | refine bA_ ?_ _)); exact BK535.1) hb); have n6_ := Aside0.mk (below_step q27_ hb); clear HO511 HO516; clear HO531 BK520; clear HR526 BK535 HB; have HO511 := n0_; have HO516 := n1_; have HO531 := n2_; have BK520 := n3_; have HR526 := n4_; have BK535 := n5_; have HB := n6_; clear n0_ n1_ n2_ n3_ n4_ n5_ n6_; (try clear hb); (try clear hb2); (try clear hk); (try clear hi)) | ((with_reducible refine gate_callee (f := 55) rfl ?_); refine goesL_ (some 44) rfl rfl Tryz.func55 (by kernel_rfl) rfl #[.slice A0 l0.length c0] rfl q2_ ?_; (with_reducible refine (spec_DrawHeadEnd.calls k _ _ l0 t537 _ ?side1 ?side2 A14.1).mono ?_); (case side1 => exact q42_); (case side2 => exact q121_); rintro e w30 ⟨v538, rfl, ho0, hb⟩; refine ⟨_, rfl, ?_⟩; have n0_ := Aside0.mk (Kd.R_elder' q58_ (Kd.R_base ho0) hb); have n1_ := Aside0.mk (Kd.R_below q64_ hb); have n2_ := Aside0.mk (Kd.R_below q109_ hb); have n3_ := Aside0.mk (Kd.R_lower (Kd.R_new' ho0 (Kd.R_lt q58_)) (below_size q27_)); have n4_ := Aside0.mk (bB_ (g := gb520) (o := .cells #[.string t512, .string t513, .slice Ao21 t514.length co21, .string t517] 64 (0, 0)) q51_ hb); have n5_ := Aside0.mk (Kd.C_below q63_ hb); have n6_ := Aside0.mk (bB_ (g := gb535) (o := .cells #[.string t527, .string t528, .slice Ao28 t529.length co28, .string t532] 64 (0, 0)) q93_ hb); have n7_ := Aside0.mk (below_step q27_ hb); clear HO511 HO516; clear HO531 BK520; clear HR526 BK535 HB; have HO511 := n0_; have HO516 := n1_; have HO531 := n2_; have HO539 := n3_; have BK520 := n4_; have HR526 := n5_; have BK535 := n6_; have HB := n7_; clear n0_ n1_ n2_ n3_ n4_ n5_ n6_ n7_; (try clear hb); (try clear hb2); (try clear hk); (try clear hi); (try clear ho0)))
     (try simp only [Act.put, List.setIfInBounds_toArray, List.set_cons_zero, List.set_cons_succ])
     go_cut [55] (fun v55 wc => ∃ (kq : Nat) (x55_14 : Bool), v55 = .bool x55_14 ∧ Aside0 (laws_FnMore.j0 kq t518 t519 ji9 t533 t534 x55_14 t512 t513 t514 t517 t527 t528 t529 t532 = some true) ∧ Aside0 (kq ≤ k) ∧ Aside0 (Kd.R k88 88 wc w.heap.size (fun k_ => some k_ ≠ ((.slice Ao28 t529.length co28) : Value).ownBlock) (.slice Ao21 t514.length co21) t514) ∧ Aside0 (Kd.R k88 88 wc w.heap.size (fun k_ => some k_ ≠ ((.slice Ao21 t514.length co21) : Value).ownBlock) (.slice Ao28 t529.length co28) t529) ∧ Aside0 (wc.heap[gb520]? = some (.cells #[.string t512, .string t513, (.slice Ao21 t514.length co21), .string t517] 64 (0, 0))) ∧ Aside0 (wc.heap[gb535]? = some (.cells #[.string t527, .string t528, (.slice Ao28 t529.length co28), .string t532] 64 (0, 0))) ∧ Aside0 (Below w.heap.size w wc))
     case first =>
      have H := HC15.1
      clear HC15
      replace H := Option.bind_eq_some_iff.mp H
      obtain ⟨t540, A310, H⟩ := H
      replace H : ((spec_HeadEnd.f k t537).bind fun t541 => (if t540 = t541 then ((spec_HeadEnd.f k t509).bind fun t542 => (laws_FnMore.j0 k t518 t519 ji9 t533 t534 (t536 != t542) t512 t513 t514 t517 t527 t528 t529 t532)) else (laws_FnMore.j0 k t518 t519 ji9 t533 t534 true t512 t513 t514 t517 t527 t528 t529 t532))) = some true := H
      have A31 := Aside0.mk A310
      clear A310
      replace H := Option.bind_eq_some_iff.mp H
      obtain ⟨t541, A320, H⟩ := H
      replace H : (if t540 = t541 then ((spec_HeadEnd.f k t509).bind fun t542 => (laws_FnMore.j0 k t518 t519 ji9 t533 t534 (t536 != t542) t512 t513 t514 t517 t527 t528 t529 t532)) else (laws_FnMore.j0 k t518 t519 ji9 t533 t534 true t512 t513 t514 t517 t527 t528 t529 t532)) = some true := H
      have A32 := Aside0.mk A320
      clear A320
      by_cases c33 : t540 = t541
      ·rw [if_pos c33] at H
       have c33b0 : (t540 == t541) = true := beq_iff_eq.mpr c33
       have c33b1 : (t540 != t541) = false := bne_eq_false_iff_eq.mpr c33
       clear c33
       (first | rw [c33b0] | (simp only [i64_w, i32_w]; rw [c33b0]) | skip)
       replace H := Option.bind_eq_some_iff.mp H
       obtain ⟨t542, A340, H⟩ := H
       replace H : (laws_FnMore.j0 k t518 t519 ji9 t533 t534 (t536 != t542) t512 t513 t514 t517 t527 t528 t529 t532) = some true := H
       have A34 := Aside0.mk A340
       clear A340
       have H' := Aside0.mk H
       clear H
       obtain ⟨Ao35, co35, eo35⟩ := Kd.R_slice HO539.1
       subst eo35
       go_wp2_with (first | ((with_reducible refine gate_callee (f := 54) rfl ?_); refine goesL_ (some 46) rfl rfl Tryz.func54 (by kernel_rfl) rfl #[.slice Ao35 t537.length co35] rfl q2_ ?_; (with_reducible refine (impl_HeadEnd.calls _ _ t537 t540 _ ?side1 ?side2 A31.1 ?side99).mono ?_); (case side1 => exact q118_); (case side2 => exact (Kd.R_reads' HO539.1).2.1); (case side99 => exact q50_); rintro e w36 ⟨rfl, hb⟩; refine ⟨_, rfl, ?_⟩; have n0_ := Aside0.mk (Kd.R_below q58_ hb); have n1_ := Aside0.mk (Kd.R_below q64_ hb); have n2_ := Aside0.mk (Kd.R_below q109_ hb); have n3_ := Aside0.mk (Kd.R_below (by (with_reducible repeat (first | apply rA_ | apply rN_ | apply rD_)); exact HO539.1) hb); have n4_ := Aside0.mk (bB_ (g := gb520) (o := .cells #[.string t512, .string t513, .slice Ao21 t514.length co21, .string t517] 64 (0, 0)) q51_ hb); have n5_ := Aside0.mk (Kd.C_below q63_ hb); have n6_ := Aside0.mk (bB_ (g := gb535) (o := .cells #[.string t527, .string t528, .slice Ao28 t529.length co28, .string t532] 64 (0, 0)) q93_ hb); have n7_ := Aside0.mk (below_step q27_ hb); clear HO511 HO516; clear HO531 HO539; clear BK520 HR526; clear BK535 HB; have HO511 := n0_; have HO516 := n1_; have HO531 := n2_; have HO539 := n3_; have BK520 := n4_; have HR526 := n5_; have BK535 := n6_; have HB := n7_; clear n0_ n1_ n2_ n3_ n4_ n5_ n6_ n7_; (try clear hb); (try clear hb2); (try clear hk); (try clear hi)) | ((with_reducible refine gate_callee (f := 56) rfl ?_); refine goesL_ (some 48) rfl rfl Tryz.func56 (by kernel_rfl) rfl #[.slice Ao35 t537.length co35] rfl q2_ ?_; (with_reducible refine (spec_HeadEnd.calls k _ _ t537 t541 _ ?side1 ?side2 A32.1).mono ?_); (case side1 => exact q118_); (case side2 => exact (Kd.R_reads' HO539.1).2.1); rintro e w' ⟨rfl, ⟨nd, rfl⟩⟩; refine ⟨_, rfl, ?_⟩) | (go_at_call 56; (with_reducible refine (spec_HeadEnd.calls k _ _ t509 t542 _ ?side1 ?side2 A34.1).mono ?_); (case side1 => exact q119_); (case side2 => exact (Kd.R_reads' HO511.1).2.1); rintro e w' ⟨rfl, ⟨nd, rfl⟩⟩))
       go_meet
       case rel => exact ⟨_, ((t536 != t542)), q3_, H', ⟨q73_⟩, ⟨by (with_reducible repeat (first | apply rA_ | apply rN_ | apply rD_)); exact Kd.R_mono HO516.1 (fun _ hk => hk.2)⟩, ⟨by (with_reducible repeat (first | apply rA_ | apply rN_ | apply rD_)); exact Kd.R_mono HO531.1 (fun _ hk => hk.2)⟩, ⟨q51_⟩, ⟨q93_⟩, ⟨q27_⟩⟩
      ·rw [if_neg c33] at H
       have c33b0 : (t540 == t541) = false := beq_eq_false_iff_ne.mpr c33
       have c33b1 : (t540 != t541) = true := bne_iff_ne.mpr c33
       (first | rw [c33b0] | (simp only [i64_w, i32_w]; rw [c33b0]) | skip)
       exact absurd H (laws_FnMore.j0_true _ _ _ _ _ _ _ _ _ _ _ _ _ _)
     case rest =>
      clear HC15
      try clear c1
      try clear c2
      try clear p2
      try clear q2
      try clear c3
      try clear c5
      try clear p6
      try clear c8
      try clear c8b0
      try clear c8b1
      try clear c10
      try clear c10b0
      try clear c10b1
      try clear c11
      try clear c11b0
      try clear c11b1
      try clear c20
      try clear q23
      try clear c26
      try clear c33
      try clear c33b0
      try clear c33b1
      try clear hcz20_0
      try clear hcz20_1
      try clear hcz20_2
      try clear hcz20_3
      try clear hcz27_0
      try clear hcz27_1
      try clear hcz27_2
      try clear hcz27_3
      try clear hfz20_0
      try clear hfz20_1
      try clear hfz20_2
      try clear hfz20_3
      try clear hfz27_0
      try clear hfz27_1
      try clear hfz27_2
      try clear hfz27_3
      try clear q23
      obtain ⟨kq, x55_14, rfl, HA, HJ14, HO_521002, HO_536002, BK520, BK535, HB⟩ := hcut
      cases kq with
      | zero => exact absurd HA.1 (by simp [laws_FnMore.j0])
      | succ kj14 =>
       have H := HA.1
       clear HA
       simp only [laws_FnMore.j0] at H
       by_cases c39 : x55_14 = true
       ·subst c39
        rw [if_pos rfl] at H
        have hr_ := Aside0.mk (Option.some.inj H); clear H
        go_wp2
        go_ret
        exact ⟨q28_, q27_⟩
       ·replace c39 := Bool.eq_false_iff.mpr c39
        subst c39
        rw [if_neg (show ¬ (false = true) by decide)] at H
        by_cases c40 : t534 = 0
        ·rw [if_pos c40] at H
         have c40b0 : (t534 == 0) = true := beq_iff_eq.mpr c40
         have c40b1 : (t534 != 0) = false := bne_eq_false_iff_eq.mpr c40
         clear c40
         by_cases c41 : t519 = 0
         ·rw [if_pos c41] at H
          have c41b0 : (t519 == 0) = true := beq_iff_eq.mpr c41
          have c41b1 : (t519 != 0) = false := bne_eq_false_iff_eq.mpr c41
          clear c41
          by_cases c42 : t518 = t533
          ·rw [if_pos c42] at H
           have c42b0 : (t518 == t533) = true := beq_iff_eq.mpr c42
           have c42b1 : (t518 != t533) = false := bne_eq_false_iff_eq.mpr c42
           clear c42
           replace H := Option.bind_eq_some_iff.mp H
           obtain ⟨t543, A430, H⟩ := H
           replace H : (some t543) = some true := H
           have A43 := Aside0.mk A430
           clear A430
           have hr_ := Aside0.mk (Option.some.inj H); clear H
           have hnb44 := NB535_520.1
           have hnc44 := NB520_535.1
           have hcz45_0 : wc.cell? ⟨gb535, 0, none⟩ = some (.string t527) := (bc_ BK535.1 0).trans rfl
           have hcz45_1 : wc.cell? ⟨gb535, 1, none⟩ = some (.string t528) := (bc_ BK535.1 1).trans rfl
           have hcz45_2 : wc.cell? ⟨gb535, 2, none⟩ = some (.slice Ao28 t529.length co28) := (bc_ BK535.1 2).trans rfl
           have hcz45_3 : wc.cell? ⟨gb535, 3, none⟩ = some (.string t532) := (bc_ BK535.1 3).trans rfl
           have hfz45_0 := bF_ BK535.1 0
           have hfz45_1 := bF_ BK535.1 1
           have hfz45_2 := bF_ BK535.1 2
           have hfz45_3 := bF_ BK535.1 3
           have hcz46_0 : wc.cell? ⟨gb520, 0, none⟩ = some (.string t512) := (bc_ BK520.1 0).trans rfl
           have hcz46_1 : wc.cell? ⟨gb520, 1, none⟩ = some (.string t513) := (bc_ BK520.1 1).trans rfl
           have hcz46_2 : wc.cell? ⟨gb520, 2, none⟩ = some (.slice Ao21 t514.length co21) := (bc_ BK520.1 2).trans rfl
           have hcz46_3 : wc.cell? ⟨gb520, 3, none⟩ = some (.string t517) := (bc_ BK520.1 3).trans rfl
           have hfz46_0 := bF_ BK520.1 0
           have hfz46_1 := bF_ BK520.1 1
           have hfz46_2 := bF_ BK520.1 2
           have hfz46_3 := bF_ BK520.1 3
           go_wp2_with (first | (go_at_call 57; (with_reducible refine (impl_SameReq.calls kj14 t527 t528 _ _ t529 t532 t512 t513 _ _ t514 t517 t543 _ ?side1 ?side2 ?side3 ?side4 A43.1).mono ?_); (case side1 => repeat (first | exact (Kd.R_reads' HO_536002.1).2.2 | (with_reducible refine Kd.C_alloc ?_ _) | (with_reducible refine Kd.C_drewN ?_ _) | (with_reducible refine Kd.C_drew ?_))); (case side2 => exact (Kd.R_reads' HO_536002.1).2.1); (case side3 => repeat (first | exact (Kd.R_reads' HO_521002.1).2.2 | (with_reducible refine Kd.C_alloc ?_ _) | (with_reducible refine Kd.C_drewN ?_ _) | (with_reducible refine Kd.C_drew ?_))); (case side4 => exact (Kd.R_reads' HO_521002.1).2.1); rintro e w47 ⟨rfl, hb⟩; have n0_ := Aside0.mk (Kd.R_below (by (with_reducible repeat (first | apply rA_ | apply rN_ | apply rD_)); exact HO_521002.1) hb); have n1_ := Aside0.mk (Kd.R_below (by (with_reducible repeat (first | apply rA_ | apply rN_ | apply rD_)); exact HO_536002.1) hb); have n2_ := Aside0.mk (bB_ (g := gb520) (o := .cells #[.string t512, .string t513, .slice Ao21 t514.length co21, .string t517] 64 (0, 0)) q51_ hb); have n3_ := Aside0.mk (bB_ (g := gb535) (o := .cells #[.string t527, .string t528, .slice Ao28 t529.length co28, .string t532] 64 (0, 0)) q93_ hb); have n4_ := Aside0.mk (below_step q27_ hb); clear HO_521002 HO_536002; clear BK520 BK535 HB; have HO_521002 := n0_; have HO_536002 := n1_; have BK520 := n2_; have BK535 := n3_; have HB := n4_; clear n0_ n1_ n2_ n3_ n4_; (try clear hb); (try clear hb2); (try clear hk); (try clear hi)))
           go_ret
           exact ⟨q28_, q27_⟩
          ·rw [if_neg c42] at H
           have c42b0 : (t518 == t533) = false := beq_eq_false_iff_ne.mpr c42
           have c42b1 : (t518 != t533) = true := bne_iff_ne.mpr c42
           have hr_ := Aside0.mk (Option.some.inj H); clear H
           go_wp2
           go_ret
           exact ⟨q28_, q27_⟩
         ·rw [if_neg c41] at H
          have c41b0 : (t519 == 0) = false := beq_eq_false_iff_ne.mpr c41
          have c41b1 : (t519 != 0) = true := bne_iff_ne.mpr c41
          have hr_ := Aside0.mk (Option.some.inj H); clear H
          go_wp2
          go_ret
          exact ⟨q28_, q27_⟩
        ·rw [if_neg c40] at H
         have c40b0 : (t534 == 0) = false := beq_eq_false_iff_ne.mpr c40
         have c40b1 : (t534 != 0) = true := bne_iff_ne.mpr c40
         by_cases c48 : t534 = 1
         ·rw [if_pos c48] at H
          have c48b0 : (t534 == 1) = true := beq_iff_eq.mpr c48
          have c48b1 : (t534 != 1) = false := bne_eq_false_iff_eq.mpr c48
          clear c48
          by_cases c49 : t519 = 1
          ·rw [if_pos c49] at H
           have c49b0 : (t519 == 1) = true := beq_iff_eq.mpr c49
           have c49b1 : (t519 != 1) = false := bne_eq_false_iff_eq.mpr c49
           clear c49
           have hr_ := Aside0.mk (Option.some.inj H); clear H
           go_wp2
           go_ret
           exact ⟨q28_, q27_⟩
          ·rw [if_neg c49] at H
           have c49b0 : (t519 == 1) = false := beq_eq_false_iff_ne.mpr c49
           have c49b1 : (t519 != 1) = true := bne_iff_ne.mpr c49
           by_cases c50 : t519 = 0
           ·rw [if_pos c50] at H
            have c50b0 : (t519 == 0) = true := beq_iff_eq.mpr c50
            have c50b1 : (t519 != 0) = false := bne_eq_false_iff_eq.mpr c50
            clear c50
            have hr_ := Aside0.mk (Option.some.inj H); clear H
            go_wp2
            go_ret
            exact ⟨q28_, q27_⟩
           ·rw [if_neg c50] at H
            have c50b0 : (t519 == 0) = false := beq_eq_false_iff_ne.mpr c50
            have c50b1 : (t519 != 0) = true := bne_iff_ne.mpr c50
            have hr_ := Aside0.mk (Option.some.inj H); clear H
            go_wp2
            go_ret
            exact ⟨q28_, q27_⟩
         ·rw [if_neg c48] at H
          have c48b0 : (t534 == 1) = false := beq_eq_false_iff_ne.mpr c48
          have c48b1 : (t534 != 1) = true := bne_iff_ne.mpr c48
          have hr_ := Aside0.mk (Option.some.inj H); clear H
          go_wp2
          go_ret
          exact ⟨q28_, q27_⟩
    ·rw [if_neg c11] at H
     exact absurd H (by simp)
   ·rw [if_neg c10] at H
    exact absurd H (by simp)


/-- THE ONE PURE STATEMENT of laws_FnMore: yours. -/
def laws_FnMore.Pure : Prop := ∀ (l0 : List Int), (l0.length ≤ 9223372036854775807 ∧ ∀ x ∈ l0, (Lit.int .u8 x).wf = true) → l0.length ≤ 140737488351232 → ∃ k, laws_FnMore.f k l0 = some true
theorem laws_FnMore.walk (P : laws_FnMore.Pure) (A0 : Option Addr) (c0 : Nat) (l0 : List Int) (w : World) (hr0 : Kd.C (Kd.int .u8) w A0 l0.length l0) (hc0 : l0.length ≤ c0) (w0 : (l0.length ≤ 9223372036854775807 ∧ ∀ x ∈ l0, (Lit.int .u8 x).wf = true)) (w1 : l0.length ≤ 140737488351232) (hG : GOK w) :
  Calls Tryz.prog 8 #[.slice A0 l0.length c0] w fun e w' => e = .returned (.bool true) ∧ Below w.heap.size w w' := by
 obtain ⟨k, h⟩ := P l0 w0 w1
 refine (laws_FnMore.calls k _ _ l0 w hr0 hc0 h hG).mono ?_
 rintro e w' ⟨rfl, hd⟩
 exact ⟨rfl, hd⟩

end Go.Proofs.YtfncjddolbghlaaGreatDoor.GFnMore
