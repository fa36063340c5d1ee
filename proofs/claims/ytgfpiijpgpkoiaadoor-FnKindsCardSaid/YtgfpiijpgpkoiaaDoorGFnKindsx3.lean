-- by gprint.py (this session's program over the kit's print.py) (a twelfth state) out of the translation. Not trusted: Lean checks it.
import Derived.Test.YtgfpiijpgpkoiaaDoorGFnKindsx0
import Derived.Test.YtgfpiijpgpkoiaaDoorGFnKindsx1
import Derived.Test.YtgfpiijpgpkoiaaDoorGFnKindsx2
namespace Go.Proofs.YtgfpiijpgpkoiaaDoor.GFnKinds
open Go.RowKit Go.Proofs.YtgfpiijpgpkoiaaDoorW.PrintWords Go.Proofs.YtgfpiijpgpkoiaaDoorW.PrintLast Go.Proofs.YtgfpiijpgpkoiaaDoorW.PrintMore
attribute [local go_sem] max2_int min2_int max_two min_two max_three min_three max_four min_four   -- for this text's walks alone
set_option linter.unusedVariables false
set_option linter.unusedSimpArgs false

/-! ### spec_NumText: function 30 -/
mutual
def spec_NumText.j0 : Nat → Int → Option (ByteArray)
  | 0, _ => none
  | k + 1, x0 => spec_NumText.l0 k x0 (strOfNums (([(wrap64 (48 + (Int.tmod x0 10))) % 256] : List Int)))
def spec_NumText.l0 : Nat → Int → ByteArray → Option (ByteArray)
  | 0, _, _ => none
  | k + 1, x0, x3 => if x0 > 9 then ((some (([(wrap64 (48 + (Int.tmod (wrap64 (Int.tdiv x0 10)) 10))) % 256] : List Int) : List Int)).bind fun y197 => (if (strOfNums y197).size + x3.size ≤ 9223372036854775807 then (spec_NumText.l0 k (wrap64 (Int.tdiv x0 10)) ((strOfNums y197) ++ x3)) else (none))) else (some x3)
end
def spec_NumText.f (k : Nat) (a0 : Int) : Option (ByteArray) := if a0 < 0 then (spec_NumText.j0 k 0) else (spec_NumText.j0 k a0)

set_option maxHeartbeats 8000000 in
set_option maxRecDepth 100000 in
theorem spec_NumText.calls (k : Nat) (a0 : Int) (r : ByteArray) (w : World) (h : spec_NumText.f k a0 = some r) :
    Calls Tryd.prog 30 #[.int .i64 a0] w fun e w' => e = .returned (.string r) ∧ Below w.heap.size w w' := by
  have HB := Aside0.mk (Below.refl w.heap.size w)
  have H : (if a0 < 0 then (spec_NumText.j0 k 0) else (spec_NumText.j0 k a0)) = some r := h
  clear h
  have HC2 := Aside0.mk H
  clear H
  go_enter Tryd.func30, Tryd.ntmps30
  go_upto_if 5 with (fail)
  go_cut [0] (fun v0 wc => ∃ (kq : Nat) (x0_1 : Int), v0 = .int .i64 x0_1 ∧ Aside0 (spec_NumText.j0 kq x0_1 = some r) ∧ Aside0 (kq ≤ k) ∧ Aside0 (Below w.heap.size w wc))
  case first =>
    have H := HC2.out
    clear HC2
    by_cases c3 : a0 < 0
    · rw [if_pos c3] at H
      have c3b0 : decide (a0 < 0) = true := decide_eq_true c3
      clear c3
      (first | rw [c3b0] | (simp only [i64_w, i32_w]; rw [c3b0]) | skip)
      have H' := Aside0.mk H
      clear H
      go_wp2
      go_meet
      case rel => exact ⟨_, (0), (by first | rfl | (simp; done) | (simp [*]; done) | (simp [empty_ne, *]; done)), H', ⟨by first | omega | exact Nat.le_refl _⟩, ⟨by repeat (first | (with_reducible first | exact HB.out | apply below_alloc | apply pw_below_drewN | apply below_drew1) | exact HB.out)⟩⟩
    · rw [if_neg c3] at H
      have c3b0 : decide (a0 < 0) = false := decide_eq_false c3
      clear c3
      (first | rw [c3b0] | (simp only [i64_w, i32_w]; rw [c3b0]) | skip)
      have H' := Aside0.mk H
      clear H
      go_wp2
      go_meet
      case rel => exact ⟨_, (a0), (by first | rfl | (simp; done) | (simp [*]; done) | (simp [empty_ne, *]; done)), H', ⟨by first | omega | exact Nat.le_refl _⟩, ⟨by repeat (first | (with_reducible first | exact HB.out | apply below_alloc | apply pw_below_drewN | apply below_drew1) | exact HB.out)⟩⟩
  case rest =>
    clear HC2
    try clear p2
    try clear c3
    try clear c3b0
    obtain ⟨kq, x0_1, rfl, HA, HJ1, HB⟩ := hcut
    cases kq with
    | zero => exact absurd HA.out (by simp [spec_NumText.j0])
    | succ kj1 =>
      have H := HA.out
      clear HA
      simp only [spec_NumText.j0] at H
      obtain ⟨y194, hy194⟩ : ∃ y_ : List Int, y_ = (([(wrap64 (48 + (Int.tmod x0_1 10))) % 256] : List Int)) := ⟨_, rfl⟩
      replace H : (spec_NumText.l0 kj1 x0_1 (strOfNums y194)) = some r := by first | (rw [hy194]; with_reducible exact H) | (have H2_ := (Option.bind_some _ _).symm.trans H; rw [hy194]; with_reducible exact H2_) | (have H2_ := (Option.bind_some _ _).symm.trans H; with_reducible exact H2_) | with_reducible exact H | (rw [hy194]; exact H) | exact H
      have Ny194 := Aside0.mk hy194
      clear hy194
      have H' := Aside0.mk H
      clear H
      go_wp2_with (first | ((with_reducible refine gate_dst (N := 10) rfl ?_); refine Kd.R_lit (Kd.int .u8) _ 5 ?hg (N := 10) ?hd (xs := ([(wrap64 (48 + (Int.tmod x0_1 10))) % 256] : List Int)) (inner := [.int .u8 ((wrap64 (48 + (Int.tmod x0_1 10))) % 256)]) (ok := fun _ => True) (okp := fun _ => True) ?hr ?hp (fun _ hk => hk) trivial (Below.refl _ _) (Nat.le_refl _) (by simp) ?_; (case hd => rfl); (case hg => rfl); (case hr => first | (go_simp; done) | (go_simp; rfl)); (case hp => exact (Reps.one (show Kd.M (Kd.int .u8) _ _ _ ((wrap64 (48 + (Int.tmod x0_1 10))) % 256) [.int .u8 ((wrap64 (48 + (Int.tmod x0_1 10))) % 256)] from rfl) (Reps.none _ _))); intro v195 w4 ho5 hb hg_ hnew_; clear hg_ hnew_; (first | rw [← Ny194.out] at ho5 | (simp only [Int.reduceToNat] at ho5; rw [← Ny194.out] at ho5)); have n0_ := Aside0.mk (Kd.R_lower ho5 (below_size (by repeat (first | (with_reducible first | exact HB.out | apply below_alloc | apply pw_below_drewN | apply below_drew1) | exact HB.out)))); have n1_ := Aside0.mk (below_step (by repeat (first | (with_reducible first | exact HB.out | apply below_alloc | apply pw_below_drewN | apply below_drew1) | exact HB.out)) hb); clear HB; have HO196 := n0_; have HB := n1_; clear n0_ n1_; clear hb ho5; have hcv6 := own_string (P := Tryd.prog) Tryd.underlying27 Tryd.underlying5 Tryd.underlying9 (Kd.own_of_R HO196.out)))
      go_loopg [0, 3] kj1 (fun kq v0 v3 w' => ∃ (x0_2 : Int) (x3_2 : ByteArray), v0 = .int .i64 x0_2 ∧ v3 = .string x3_2 ∧ Aside0 (spec_NumText.l0 kq x0_2 x3_2 = some r) ∧ Aside0 (kq ≤ kj1) ∧ Aside0 (Below w.heap.size w w'))
      case atStart => exact ⟨(x0_1), (strOfNums y194), (by first | rfl | (simp; done) | (simp [*]; done) | (simp [empty_ne, *]; done)), (by first | rfl | (simp; done) | (simp [*]; done) | (simp [empty_ne, *]; done)), H', ⟨Nat.le_refl _⟩, ⟨by repeat (first | (with_reducible first | exact HB.out | apply below_alloc | apply pw_below_drewN | apply below_drew1) | exact HB.out)⟩⟩
      case round =>
        clear H'
        try clear p2
        try clear c3
        try clear c3b0
        try clear p6
        try clear hcv6
        try clear p2
        obtain ⟨x0_2, x3_2, rfl, rfl, HA, HK2, HB⟩ := hrel
        cases gk with
        | zero => exact absurd HA.out (by simp [spec_NumText.l0])
        | succ k2 =>
          have H := HA.out
          clear HA
          simp only [spec_NumText.l0] at H
          by_cases c7 : x0_2 > 9
          · rw [if_pos c7] at H
            have c7b0 : decide (9 < x0_2) = true := decide_eq_true c7
            clear c7
            obtain ⟨y197, hy197⟩ : ∃ y_ : List Int, y_ = (([(wrap64 (48 + (Int.tmod (wrap64 (Int.tdiv x0_2 10)) 10))) % 256] : List Int)) := ⟨_, rfl⟩
            replace H : (if (strOfNums y197).size + x3_2.size ≤ 9223372036854775807 then (spec_NumText.l0 k2 (wrap64 (Int.tdiv x0_2 10)) ((strOfNums y197) ++ x3_2)) else (none)) = some r := by first | (rw [hy197]; with_reducible exact H) | (have H2_ := (Option.bind_some _ _).symm.trans H; rw [hy197]; with_reducible exact H2_) | (have H2_ := (Option.bind_some _ _).symm.trans H; with_reducible exact H2_) | with_reducible exact H | (rw [hy197]; exact H) | exact H
            have Ny197 := Aside0.mk hy197
            clear hy197
            by_cases c8 : (strOfNums y197).size + x3_2.size ≤ 9223372036854775807
            · rw [if_pos c8] at H
              have c8b0 := eq_true c8
              have c8b1 : decide ((strOfNums y197).size + x3_2.size ≤ 9223372036854775807) = true := decide_eq_true c8
              try have c8b2 : (9223372036854775807 < (strOfNums y197).size + x3_2.size) = False := eq_false (Nat.not_lt.2 c8)
              have H' := Aside0.mk H
              clear H
              go_wp2_with (first | ((with_reducible refine gate_dst (N := 20) rfl ?_); refine Kd.R_lit (Kd.int .u8) _ 5 ?hg (N := 20) ?hd (xs := ([(wrap64 (48 + (Int.tmod (wrap64 (Int.tdiv x0_2 10)) 10))) % 256] : List Int)) (inner := [.int .u8 ((wrap64 (48 + (Int.tmod (wrap64 (Int.tdiv x0_2 10)) 10))) % 256)]) (ok := fun _ => True) (okp := fun _ => True) ?hr ?hp (fun _ hk => hk) trivial (Below.refl _ _) (Nat.le_refl _) (by simp) ?_; (case hd => rfl); (case hg => rfl); (case hr => first | (go_simp; done) | (go_simp; rfl)); (case hp => exact (Reps.one (show Kd.M (Kd.int .u8) _ _ _ ((wrap64 (48 + (Int.tmod (wrap64 (Int.tdiv x0_2 10)) 10))) % 256) [.int .u8 ((wrap64 (48 + (Int.tmod (wrap64 (Int.tdiv x0_2 10)) 10))) % 256)] from rfl) (Reps.none _ _))); intro v198 w9 ho10 hb hg_ hnew_; clear hg_ hnew_; (first | rw [← Ny197.out] at ho10 | (simp only [Int.reduceToNat] at ho10; rw [← Ny197.out] at ho10)); have n0_ := Aside0.mk (Kd.R_lower ho10 (below_size (by repeat (first | (with_reducible first | exact HB.out | apply below_alloc | apply pw_below_drewN | apply below_drew1) | exact HB.out)))); have n1_ := Aside0.mk (below_step (by repeat (first | (with_reducible first | exact HB.out | apply below_alloc | apply pw_below_drewN | apply below_drew1) | exact HB.out)) hb); clear HB; have HO199 := n0_; have HB := n1_; clear n0_ n1_; clear hb ho10; have hcv11 := own_string (P := Tryd.prog) Tryd.underlying27 Tryd.underlying5 Tryd.underlying9 (Kd.own_of_R HO199.out)))
              go_roundg k2
              case measure => have := HJ1.out; have := HK2.out; omega
              case rel => exact ⟨(wrap64 (Int.tdiv x0_2 10)), ((strOfNums y197) ++ x3_2), (by first | rfl | (simp; done) | (simp [*]; done) | (simp [empty_ne, *]; done)), (by first | rfl | (simp; done) | (simp [*]; done) | (simp [empty_ne, *]; done)), H', ⟨by have := HJ1.out; have := HK2.out; omega⟩, ⟨by repeat (first | (with_reducible first | exact HB.out | apply below_alloc | apply pw_below_drewN | apply below_drew1) | exact HB.out)⟩⟩
            · rw [if_neg c8] at H
              exact absurd H (by simp)
          · rw [if_neg c7] at H
            have c7b0 : decide (9 < x0_2) = false := decide_eq_false c7
            clear c7
            obtain rfl := Option.some.inj H
            go_wp2
            go_ret
            exact ⟨by first | rfl | (simp [errW_none, errW_some] <;> rfl) | (simp [*, errW_none, errW_some] <;> rfl), by repeat (first | (with_reducible first | exact HB.out | apply below_alloc | apply pw_below_drewN | apply below_drew1) | exact HB.out)⟩

/-! ### laws_FnKinds: function 6 -/
def laws_FnKinds.f (k : Nat) (l0 : List Int) : Option (Bool) := (laws_big.f l0).bind fun t200 => (if t200 = true then (some true) else ((spec_DrawPlain.f k l0).bind fun t201 => ((spec_DrawSmallName.f k l0).bind fun t202 => ((spec_DrawNumText.f k l0).bind fun t203 => ((spec_DrawHex.f k l0).bind fun t204 => ((impl_Plain.f k t201).bind fun t205 => ((spec_Plain.f k t201).bind fun t206 => (if (t205 == t206) = true then ((impl_SmallName.f k t202).bind fun t207 => ((spec_SmallName.f k t202).bind fun t208 => (if (t207 == t208) = true then ((impl_SmallName.f k t202).bind fun t209 => (if t209 = true then ((impl_Plain.f k t202).bind fun t210 => (if t210 = true then ((impl_Lower.f k t202).bind fun t211 => (if t211.toList = t202.toList then ((impl_NumText.f t203).bind fun t212 => ((spec_NumText.f k t203).bind fun t213 => (if t212.toList = t213.toList then ((impl_Hex.f t204).bind fun t214 => ((spec_Hex.f k t204).bind fun t215 => (some (t214.toList == t215.toList)))) else (some false)))) else (some false))) else (some false))) else ((impl_NumText.f t203).bind fun t216 => ((spec_NumText.f k t203).bind fun t217 => (if t216.toList = t217.toList then ((impl_Hex.f t204).bind fun t218 => ((spec_Hex.f k t204).bind fun t219 => (some (t218.toList == t219.toList)))) else (some false)))))) else (some false)))) else (some false)))))))))

set_option maxHeartbeats 8000000 in
set_option maxRecDepth 100000 in
theorem laws_FnKinds.calls (k : Nat) (A0 : Option Addr) (c0 : Nat) (l0 : List Int) (w : World) (hr0 : Kd.C (Kd.int .u8) w A0 l0.length l0) (hc0 : l0.length ≤ c0) (h : laws_FnKinds.f k l0 = some true) (hG : GOK w) :
    Calls Tryd.prog 6 #[.slice A0 l0.length c0] w fun e w' => e = .returned (.bool true) ∧ Below w.heap.size w w' := by
  have HR0 := Aside0.mk hr0
  have HC0 := Aside0.mk hc0
  clear hr0 hc0
  have HB := Aside0.mk (Below.refl w.heap.size w)
  have H : ((laws_big.f l0).bind fun t200 => (if t200 = true then (some true) else ((spec_DrawPlain.f k l0).bind fun t201 => ((spec_DrawSmallName.f k l0).bind fun t202 => ((spec_DrawNumText.f k l0).bind fun t203 => ((spec_DrawHex.f k l0).bind fun t204 => ((impl_Plain.f k t201).bind fun t205 => ((spec_Plain.f k t201).bind fun t206 => (if (t205 == t206) = true then ((impl_SmallName.f k t202).bind fun t207 => ((spec_SmallName.f k t202).bind fun t208 => (if (t207 == t208) = true then ((impl_SmallName.f k t202).bind fun t209 => (if t209 = true then ((impl_Plain.f k t202).bind fun t210 => (if t210 = true then ((impl_Lower.f k t202).bind fun t211 => (if t211.toList = t202.toList then ((impl_NumText.f t203).bind fun t212 => ((spec_NumText.f k t203).bind fun t213 => (if t212.toList = t213.toList then ((impl_Hex.f t204).bind fun t214 => ((spec_Hex.f k t204).bind fun t215 => (some (t214.toList == t215.toList)))) else (some false)))) else (some false))) else (some false))) else ((impl_NumText.f t203).bind fun t216 => ((spec_NumText.f k t203).bind fun t217 => (if t216.toList = t217.toList then ((impl_Hex.f t204).bind fun t218 => ((spec_Hex.f k t204).bind fun t219 => (some (t218.toList == t219.toList)))) else (some false)))))) else (some false)))) else (some false)))))))))) = some true := h
  clear h
  replace H := Option.bind_eq_some_iff.mp H
  obtain ⟨t200, A20, H⟩ := H
  replace H : (if t200 = true then (some true) else ((spec_DrawPlain.f k l0).bind fun t201 => ((spec_DrawSmallName.f k l0).bind fun t202 => ((spec_DrawNumText.f k l0).bind fun t203 => ((spec_DrawHex.f k l0).bind fun t204 => ((impl_Plain.f k t201).bind fun t205 => ((spec_Plain.f k t201).bind fun t206 => (if (t205 == t206) = true then ((impl_SmallName.f k t202).bind fun t207 => ((spec_SmallName.f k t202).bind fun t208 => (if (t207 == t208) = true then ((impl_SmallName.f k t202).bind fun t209 => (if t209 = true then ((impl_Plain.f k t202).bind fun t210 => (if t210 = true then ((impl_Lower.f k t202).bind fun t211 => (if t211.toList = t202.toList then ((impl_NumText.f t203).bind fun t212 => ((spec_NumText.f k t203).bind fun t213 => (if t212.toList = t213.toList then ((impl_Hex.f t204).bind fun t214 => ((spec_Hex.f k t204).bind fun t215 => (some (t214.toList == t215.toList)))) else (some false)))) else (some false))) else (some false))) else ((impl_NumText.f t203).bind fun t216 => ((spec_NumText.f k t203).bind fun t217 => (if t216.toList = t217.toList then ((impl_Hex.f t204).bind fun t218 => ((spec_Hex.f k t204).bind fun t219 => (some (t218.toList == t219.toList)))) else (some false)))))) else (some false)))) else (some false))))))))) = some true := H
  have A2 := Aside0.mk A20
  clear A20
  by_cases c3 : t200 = true
  · subst c3
    have H1 : (some true) = some true := rfl
    clear H
    have H := H1
    clear H1
    skip
    go_enter Tryd.func6, Tryd.ntmps6
    go_wp2_with (first | ((with_reducible refine gate_callee (f := 19) rfl ?_); refine goesL_ (some 8) rfl rfl Tryd.func19 (by kernel_rfl) rfl #[.slice A0 l0.length c0] rfl (by (try simp only [List.map_toArray, List.map_cons, List.map_nil]); first | done | rfl | (simp only [List.length_drop, List.length_take]; rfl) | (simp only [ByteArray.extract_zero_size]; rfl)) ?_; (with_reducible refine (laws_big.calls _ _ l0 true _ ?side1 ?side2 A2.out).mono ?_); (case side1 => repeat (first | exact HR0.out | (with_reducible refine Kd.C_alloc ?_ _) | (with_reducible refine Kd.C_drewN ?_ _) | (with_reducible refine Kd.C_drew ?_))); (case side2 => exact HC0.out); rintro e w' ⟨rfl, ⟨nd, rfl⟩⟩; refine ⟨_, rfl, ?_⟩))
    go_ret
    exact ⟨by first | rfl | (simp [errW_none, errW_some] <;> rfl) | (simp [*, errW_none, errW_some] <;> rfl), by repeat (first | (with_reducible first | exact HB.out | apply below_alloc | apply pw_below_drewN | apply below_drew1) | exact HB.out)⟩
  · replace c3 := Bool.eq_false_iff.mpr c3
    subst c3
    have H1 : ((spec_DrawPlain.f k l0).bind fun t201 => ((spec_DrawSmallName.f k l0).bind fun t202 => ((spec_DrawNumText.f k l0).bind fun t203 => ((spec_DrawHex.f k l0).bind fun t204 => ((impl_Plain.f k t201).bind fun t205 => ((spec_Plain.f k t201).bind fun t206 => (if (t205 == t206) = true then ((impl_SmallName.f k t202).bind fun t207 => ((spec_SmallName.f k t202).bind fun t208 => (if (t207 == t208) = true then ((impl_SmallName.f k t202).bind fun t209 => (if t209 = true then ((impl_Plain.f k t202).bind fun t210 => (if t210 = true then ((impl_Lower.f k t202).bind fun t211 => (if t211.toList = t202.toList then ((impl_NumText.f t203).bind fun t212 => ((spec_NumText.f k t203).bind fun t213 => (if t212.toList = t213.toList then ((impl_Hex.f t204).bind fun t214 => ((spec_Hex.f k t204).bind fun t215 => (some (t214.toList == t215.toList)))) else (some false)))) else (some false))) else (some false))) else ((impl_NumText.f t203).bind fun t216 => ((spec_NumText.f k t203).bind fun t217 => (if t216.toList = t217.toList then ((impl_Hex.f t204).bind fun t218 => ((spec_Hex.f k t204).bind fun t219 => (some (t218.toList == t219.toList)))) else (some false)))))) else (some false)))) else (some false)))))))) = some true := by rw [if_neg (show ¬ (false = true) by decide)] at H; exact H
    clear H
    have H := H1
    clear H1
    replace H := Option.bind_eq_some_iff.mp H
    obtain ⟨t201, A40, H⟩ := H
    replace H : ((spec_DrawSmallName.f k l0).bind fun t202 => ((spec_DrawNumText.f k l0).bind fun t203 => ((spec_DrawHex.f k l0).bind fun t204 => ((impl_Plain.f k t201).bind fun t205 => ((spec_Plain.f k t201).bind fun t206 => (if (t205 == t206) = true then ((impl_SmallName.f k t202).bind fun t207 => ((spec_SmallName.f k t202).bind fun t208 => (if (t207 == t208) = true then ((impl_SmallName.f k t202).bind fun t209 => (if t209 = true then ((impl_Plain.f k t202).bind fun t210 => (if t210 = true then ((impl_Lower.f k t202).bind fun t211 => (if t211.toList = t202.toList then ((impl_NumText.f t203).bind fun t212 => ((spec_NumText.f k t203).bind fun t213 => (if t212.toList = t213.toList then ((impl_Hex.f t204).bind fun t214 => ((spec_Hex.f k t204).bind fun t215 => (some (t214.toList == t215.toList)))) else (some false)))) else (some false))) else (some false))) else ((impl_NumText.f t203).bind fun t216 => ((spec_NumText.f k t203).bind fun t217 => (if t216.toList = t217.toList then ((impl_Hex.f t204).bind fun t218 => ((spec_Hex.f k t204).bind fun t219 => (some (t218.toList == t219.toList)))) else (some false)))))) else (some false)))) else (some false))))))) = some true := H
    have A4 := Aside0.mk A40
    clear A40
    replace H := Option.bind_eq_some_iff.mp H
    obtain ⟨t202, A50, H⟩ := H
    replace H : ((spec_DrawNumText.f k l0).bind fun t203 => ((spec_DrawHex.f k l0).bind fun t204 => ((impl_Plain.f k t201).bind fun t205 => ((spec_Plain.f k t201).bind fun t206 => (if (t205 == t206) = true then ((impl_SmallName.f k t202).bind fun t207 => ((spec_SmallName.f k t202).bind fun t208 => (if (t207 == t208) = true then ((impl_SmallName.f k t202).bind fun t209 => (if t209 = true then ((impl_Plain.f k t202).bind fun t210 => (if t210 = true then ((impl_Lower.f k t202).bind fun t211 => (if t211.toList = t202.toList then ((impl_NumText.f t203).bind fun t212 => ((spec_NumText.f k t203).bind fun t213 => (if t212.toList = t213.toList then ((impl_Hex.f t204).bind fun t214 => ((spec_Hex.f k t204).bind fun t215 => (some (t214.toList == t215.toList)))) else (some false)))) else (some false))) else (some false))) else ((impl_NumText.f t203).bind fun t216 => ((spec_NumText.f k t203).bind fun t217 => (if t216.toList = t217.toList then ((impl_Hex.f t204).bind fun t218 => ((spec_Hex.f k t204).bind fun t219 => (some (t218.toList == t219.toList)))) else (some false)))))) else (some false)))) else (some false)))))) = some true := H
    have A5 := Aside0.mk A50
    clear A50
    replace H := Option.bind_eq_some_iff.mp H
    obtain ⟨t203, A60, H⟩ := H
    replace H : ((spec_DrawHex.f k l0).bind fun t204 => ((impl_Plain.f k t201).bind fun t205 => ((spec_Plain.f k t201).bind fun t206 => (if (t205 == t206) = true then ((impl_SmallName.f k t202).bind fun t207 => ((spec_SmallName.f k t202).bind fun t208 => (if (t207 == t208) = true then ((impl_SmallName.f k t202).bind fun t209 => (if t209 = true then ((impl_Plain.f k t202).bind fun t210 => (if t210 = true then ((impl_Lower.f k t202).bind fun t211 => (if t211.toList = t202.toList then ((impl_NumText.f t203).bind fun t212 => ((spec_NumText.f k t203).bind fun t213 => (if t212.toList = t213.toList then ((impl_Hex.f t204).bind fun t214 => ((spec_Hex.f k t204).bind fun t215 => (some (t214.toList == t215.toList)))) else (some false)))) else (some false))) else (some false))) else ((impl_NumText.f t203).bind fun t216 => ((spec_NumText.f k t203).bind fun t217 => (if t216.toList = t217.toList then ((impl_Hex.f t204).bind fun t218 => ((spec_Hex.f k t204).bind fun t219 => (some (t218.toList == t219.toList)))) else (some false)))))) else (some false)))) else (some false))))) = some true := H
    have A6 := Aside0.mk A60
    clear A60
    replace H := Option.bind_eq_some_iff.mp H
    obtain ⟨t204, A70, H⟩ := H
    replace H : ((impl_Plain.f k t201).bind fun t205 => ((spec_Plain.f k t201).bind fun t206 => (if (t205 == t206) = true then ((impl_SmallName.f k t202).bind fun t207 => ((spec_SmallName.f k t202).bind fun t208 => (if (t207 == t208) = true then ((impl_SmallName.f k t202).bind fun t209 => (if t209 = true then ((impl_Plain.f k t202).bind fun t210 => (if t210 = true then ((impl_Lower.f k t202).bind fun t211 => (if t211.toList = t202.toList then ((impl_NumText.f t203).bind fun t212 => ((spec_NumText.f k t203).bind fun t213 => (if t212.toList = t213.toList then ((impl_Hex.f t204).bind fun t214 => ((spec_Hex.f k t204).bind fun t215 => (some (t214.toList == t215.toList)))) else (some false)))) else (some false))) else (some false))) else ((impl_NumText.f t203).bind fun t216 => ((spec_NumText.f k t203).bind fun t217 => (if t216.toList = t217.toList then ((impl_Hex.f t204).bind fun t218 => ((spec_Hex.f k t204).bind fun t219 => (some (t218.toList == t219.toList)))) else (some false)))))) else (some false)))) else (some false)))) = some true := H
    have A7 := Aside0.mk A70
    clear A70
    replace H := Option.bind_eq_some_iff.mp H
    obtain ⟨t205, A80, H⟩ := H
    replace H : ((spec_Plain.f k t201).bind fun t206 => (if (t205 == t206) = true then ((impl_SmallName.f k t202).bind fun t207 => ((spec_SmallName.f k t202).bind fun t208 => (if (t207 == t208) = true then ((impl_SmallName.f k t202).bind fun t209 => (if t209 = true then ((impl_Plain.f k t202).bind fun t210 => (if t210 = true then ((impl_Lower.f k t202).bind fun t211 => (if t211.toList = t202.toList then ((impl_NumText.f t203).bind fun t212 => ((spec_NumText.f k t203).bind fun t213 => (if t212.toList = t213.toList then ((impl_Hex.f t204).bind fun t214 => ((spec_Hex.f k t204).bind fun t215 => (some (t214.toList == t215.toList)))) else (some false)))) else (some false))) else (some false))) else ((impl_NumText.f t203).bind fun t216 => ((spec_NumText.f k t203).bind fun t217 => (if t216.toList = t217.toList then ((impl_Hex.f t204).bind fun t218 => ((spec_Hex.f k t204).bind fun t219 => (some (t218.toList == t219.toList)))) else (some false)))))) else (some false)))) else (some false))) = some true := H
    have A8 := Aside0.mk A80
    clear A80
    replace H := Option.bind_eq_some_iff.mp H
    obtain ⟨t206, A90, H⟩ := H
    replace H : (if (t205 == t206) = true then ((impl_SmallName.f k t202).bind fun t207 => ((spec_SmallName.f k t202).bind fun t208 => (if (t207 == t208) = true then ((impl_SmallName.f k t202).bind fun t209 => (if t209 = true then ((impl_Plain.f k t202).bind fun t210 => (if t210 = true then ((impl_Lower.f k t202).bind fun t211 => (if t211.toList = t202.toList then ((impl_NumText.f t203).bind fun t212 => ((spec_NumText.f k t203).bind fun t213 => (if t212.toList = t213.toList then ((impl_Hex.f t204).bind fun t214 => ((spec_Hex.f k t204).bind fun t215 => (some (t214.toList == t215.toList)))) else (some false)))) else (some false))) else (some false))) else ((impl_NumText.f t203).bind fun t216 => ((spec_NumText.f k t203).bind fun t217 => (if t216.toList = t217.toList then ((impl_Hex.f t204).bind fun t218 => ((spec_Hex.f k t204).bind fun t219 => (some (t218.toList == t219.toList)))) else (some false)))))) else (some false)))) else (some false)) = some true := H
    have A9 := Aside0.mk A90
    clear A90
    by_cases c10 : (t205 == t206) = true
    · rw [if_pos c10] at H
      have c10b0 : (t205 == t206) = true := c10
      (try (have c10b1 : decide (t205 = t206) = true := by simpa using c10))
      (try (have c10b2 : (t205 == t206) = true := by simpa using c10))
      clear c10
      replace H := Option.bind_eq_some_iff.mp H
      obtain ⟨t207, A110, H⟩ := H
      replace H : ((spec_SmallName.f k t202).bind fun t208 => (if (t207 == t208) = true then ((impl_SmallName.f k t202).bind fun t209 => (if t209 = true then ((impl_Plain.f k t202).bind fun t210 => (if t210 = true then ((impl_Lower.f k t202).bind fun t211 => (if t211.toList = t202.toList then ((impl_NumText.f t203).bind fun t212 => ((spec_NumText.f k t203).bind fun t213 => (if t212.toList = t213.toList then ((impl_Hex.f t204).bind fun t214 => ((spec_Hex.f k t204).bind fun t215 => (some (t214.toList == t215.toList)))) else (some false)))) else (some false))) else (some false))) else ((impl_NumText.f t203).bind fun t216 => ((spec_NumText.f k t203).bind fun t217 => (if t216.toList = t217.toList then ((impl_Hex.f t204).bind fun t218 => ((spec_Hex.f k t204).bind fun t219 => (some (t218.toList == t219.toList)))) else (some false)))))) else (some false))) = some true := H
      have A11 := Aside0.mk A110
      clear A110
      replace H := Option.bind_eq_some_iff.mp H
      obtain ⟨t208, A120, H⟩ := H
      replace H : (if (t207 == t208) = true then ((impl_SmallName.f k t202).bind fun t209 => (if t209 = true then ((impl_Plain.f k t202).bind fun t210 => (if t210 = true then ((impl_Lower.f k t202).bind fun t211 => (if t211.toList = t202.toList then ((impl_NumText.f t203).bind fun t212 => ((spec_NumText.f k t203).bind fun t213 => (if t212.toList = t213.toList then ((impl_Hex.f t204).bind fun t214 => ((spec_Hex.f k t204).bind fun t215 => (some (t214.toList == t215.toList)))) else (some false)))) else (some false))) else (some false))) else ((impl_NumText.f t203).bind fun t216 => ((spec_NumText.f k t203).bind fun t217 => (if t216.toList = t217.toList then ((impl_Hex.f t204).bind fun t218 => ((spec_Hex.f k t204).bind fun t219 => (some (t218.toList == t219.toList)))) else (some false)))))) else (some false)) = some true := H
      have A12 := Aside0.mk A120
      clear A120
      by_cases c13 : (t207 == t208) = true
      · rw [if_pos c13] at H
        have c13b0 : (t207 == t208) = true := c13
        (try (have c13b1 : decide (t207 = t208) = true := by simpa using c13))
        (try (have c13b2 : (t207 == t208) = true := by simpa using c13))
        clear c13
        replace H := Option.bind_eq_some_iff.mp H
        obtain ⟨t209, A140, H⟩ := H
        replace H : (if t209 = true then ((impl_Plain.f k t202).bind fun t210 => (if t210 = true then ((impl_Lower.f k t202).bind fun t211 => (if t211.toList = t202.toList then ((impl_NumText.f t203).bind fun t212 => ((spec_NumText.f k t203).bind fun t213 => (if t212.toList = t213.toList then ((impl_Hex.f t204).bind fun t214 => ((spec_Hex.f k t204).bind fun t215 => (some (t214.toList == t215.toList)))) else (some false)))) else (some false))) else (some false))) else ((impl_NumText.f t203).bind fun t216 => ((spec_NumText.f k t203).bind fun t217 => (if t216.toList = t217.toList then ((impl_Hex.f t204).bind fun t218 => ((spec_Hex.f k t204).bind fun t219 => (some (t218.toList == t219.toList)))) else (some false))))) = some true := H
        have A14 := Aside0.mk A140
        clear A140
        by_cases c15 : t209 = true
        · subst c15
          have ec15_ := Option.some.inj (A11.out.symm.trans A14.out)
          have ec15c13_ := (beq_iff_eq.1 c13b0).symm.trans ec15_
          have H1 : ((impl_Plain.f k t202).bind fun t210 => (if t210 = true then ((impl_Lower.f k t202).bind fun t211 => (if t211.toList = t202.toList then ((impl_NumText.f t203).bind fun t212 => ((spec_NumText.f k t203).bind fun t213 => (if t212.toList = t213.toList then ((impl_Hex.f t204).bind fun t214 => ((spec_Hex.f k t204).bind fun t215 => (some (t214.toList == t215.toList)))) else (some false)))) else (some false))) else (some false))) = some true := by rw [if_pos rfl] at H; exact H
          clear H
          have H := H1
          clear H1
          replace H := Option.bind_eq_some_iff.mp H
          obtain ⟨t210, A160, H⟩ := H
          replace H : (if t210 = true then ((impl_Lower.f k t202).bind fun t211 => (if t211.toList = t202.toList then ((impl_NumText.f t203).bind fun t212 => ((spec_NumText.f k t203).bind fun t213 => (if t212.toList = t213.toList then ((impl_Hex.f t204).bind fun t214 => ((spec_Hex.f k t204).bind fun t215 => (some (t214.toList == t215.toList)))) else (some false)))) else (some false))) else (some false)) = some true := H
          have A16 := Aside0.mk A160
          clear A160
          by_cases c17 : t210 = true
          · subst c17
            have H1 : ((impl_Lower.f k t202).bind fun t211 => (if t211.toList = t202.toList then ((impl_NumText.f t203).bind fun t212 => ((spec_NumText.f k t203).bind fun t213 => (if t212.toList = t213.toList then ((impl_Hex.f t204).bind fun t214 => ((spec_Hex.f k t204).bind fun t215 => (some (t214.toList == t215.toList)))) else (some false)))) else (some false))) = some true := by rw [if_pos rfl] at H; exact H
            clear H
            have H := H1
            clear H1
            replace H := Option.bind_eq_some_iff.mp H
            obtain ⟨t211, A180, H⟩ := H
            replace H : (if t211.toList = t202.toList then ((impl_NumText.f t203).bind fun t212 => ((spec_NumText.f k t203).bind fun t213 => (if t212.toList = t213.toList then ((impl_Hex.f t204).bind fun t214 => ((spec_Hex.f k t204).bind fun t215 => (some (t214.toList == t215.toList)))) else (some false)))) else (some false)) = some true := H
            have A18 := Aside0.mk A180
            clear A180
            by_cases c19 : t211.toList = t202.toList
            · rw [if_pos c19] at H
              have c19b0 : (t211.toList == t202.toList) = true := beq_iff_eq.mpr c19
              have c19b1 : (t211.toList != t202.toList) = false := bne_eq_false_iff_eq.mpr c19
              clear c19
              replace H := Option.bind_eq_some_iff.mp H
              obtain ⟨t212, A200, H⟩ := H
              replace H : ((spec_NumText.f k t203).bind fun t213 => (if t212.toList = t213.toList then ((impl_Hex.f t204).bind fun t214 => ((spec_Hex.f k t204).bind fun t215 => (some (t214.toList == t215.toList)))) else (some false))) = some true := H
              have A20 := Aside0.mk A200
              clear A200
              replace H := Option.bind_eq_some_iff.mp H
              obtain ⟨t213, A210, H⟩ := H
              replace H : (if t212.toList = t213.toList then ((impl_Hex.f t204).bind fun t214 => ((spec_Hex.f k t204).bind fun t215 => (some (t214.toList == t215.toList)))) else (some false)) = some true := H
              have A21 := Aside0.mk A210
              clear A210
              by_cases c22 : t212.toList = t213.toList
              · rw [if_pos c22] at H
                have c22b0 : (t212.toList == t213.toList) = true := beq_iff_eq.mpr c22
                have c22b1 : (t212.toList != t213.toList) = false := bne_eq_false_iff_eq.mpr c22
                clear c22
                replace H := Option.bind_eq_some_iff.mp H
                obtain ⟨t214, A230, H⟩ := H
                replace H : ((spec_Hex.f k t204).bind fun t215 => (some (t214.toList == t215.toList))) = some true := H
                have A23 := Aside0.mk A230
                clear A230
                replace H := Option.bind_eq_some_iff.mp H
                obtain ⟨t215, A240, H⟩ := H
                replace H : (some (t214.toList == t215.toList)) = some true := H
                have A24 := Aside0.mk A240
                clear A240
                have hr_ := Option.some.inj H
                go_enter Tryd.func6, Tryd.ntmps6
                go_wp2_with (first | ((with_reducible refine gate_callee (f := 19) rfl ?_); refine goesL_ (some 8) rfl rfl Tryd.func19 (by kernel_rfl) rfl #[.slice A0 l0.length c0] rfl (by (try simp only [List.map_toArray, List.map_cons, List.map_nil]); first | done | rfl | (simp only [List.length_drop, List.length_take]; rfl) | (simp only [ByteArray.extract_zero_size]; rfl)) ?_; (with_reducible refine (laws_big.calls _ _ l0 false _ ?side1 ?side2 A2.out).mono ?_); (case side1 => repeat (first | exact HR0.out | (with_reducible refine Kd.C_alloc ?_ _) | (with_reducible refine Kd.C_drewN ?_ _) | (with_reducible refine Kd.C_drew ?_))); (case side2 => exact HC0.out); rintro e w' ⟨rfl, ⟨nd, rfl⟩⟩; refine ⟨_, rfl, ?_⟩) | ((with_reducible refine gate_callee (f := 20) rfl ?_); refine goesL_ (some 10) rfl rfl Tryd.func20 (by kernel_rfl) rfl #[.slice A0 l0.length c0] rfl (by (try simp only [List.map_toArray, List.map_cons, List.map_nil]); first | done | rfl | (simp only [List.length_drop, List.length_take]; rfl) | (simp only [ByteArray.extract_zero_size]; rfl)) ?_; (with_reducible refine (spec_DrawPlain.calls k _ _ l0 t201 _ ?side1 ?side2 A4.out).mono ?_); (case side1 => repeat (first | exact HR0.out | (with_reducible refine Kd.C_alloc ?_ _) | (with_reducible refine Kd.C_drewN ?_ _) | (with_reducible refine Kd.C_drew ?_))); (case side2 => exact HC0.out); rintro e w25 ⟨rfl, hb⟩; refine ⟨_, rfl, ?_⟩; have n0_ := Aside0.mk (below_step (by repeat (first | (with_reducible first | exact HB.out | apply below_alloc | apply pw_below_drewN | apply below_drew1) | exact HB.out)) hb); clear HB; have HB := n0_; clear n0_; (try clear hb); (try clear hb2); (try clear hk); (try clear hi)) | ((with_reducible refine gate_callee (f := 21) rfl ?_); refine goesL_ (some 12) rfl rfl Tryd.func21 (by kernel_rfl) rfl #[.slice A0 l0.length c0] rfl (by (try simp only [List.map_toArray, List.map_cons, List.map_nil]); first | done | rfl | (simp only [List.length_drop, List.length_take]; rfl) | (simp only [ByteArray.extract_zero_size]; rfl)) ?_; (with_reducible refine (spec_DrawSmallName.calls k _ _ l0 t202 _ ?side1 ?side2 A5.out).mono ?_); (case side1 => repeat (first | exact (Kd.C_below HR0.out HB.out) | (with_reducible refine Kd.C_alloc ?_ _) | (with_reducible refine Kd.C_drewN ?_ _) | (with_reducible refine Kd.C_drew ?_))); (case side2 => exact HC0.out); rintro e w26 ⟨rfl, hb⟩; refine ⟨_, rfl, ?_⟩; have n0_ := Aside0.mk (below_step (by repeat (first | (with_reducible first | exact HB.out | apply below_alloc | apply pw_below_drewN | apply below_drew1) | exact HB.out)) hb); clear HB; have HB := n0_; clear n0_; (try clear hb); (try clear hb2); (try clear hk); (try clear hi)) | ((with_reducible refine gate_callee (f := 22) rfl ?_); refine goesL_ (some 14) rfl rfl Tryd.func22 (by kernel_rfl) rfl #[.slice A0 l0.length c0] rfl (by (try simp only [List.map_toArray, List.map_cons, List.map_nil]); first | done | rfl | (simp only [List.length_drop, List.length_take]; rfl) | (simp only [ByteArray.extract_zero_size]; rfl)) ?_; (with_reducible refine (spec_DrawNumText.calls k _ _ l0 t203 _ ?side1 ?side2 A6.out).mono ?_); (case side1 => repeat (first | exact (Kd.C_below HR0.out HB.out) | (with_reducible refine Kd.C_alloc ?_ _) | (with_reducible refine Kd.C_drewN ?_ _) | (with_reducible refine Kd.C_drew ?_))); (case side2 => exact HC0.out); rintro e w27 ⟨rfl, hb⟩; refine ⟨_, rfl, ?_⟩; have n0_ := Aside0.mk (below_step (by repeat (first | (with_reducible first | exact HB.out | apply below_alloc | apply pw_below_drewN | apply below_drew1) | exact HB.out)) hb); clear HB; have HB := n0_; clear n0_; (try clear hb); (try clear hb2); (try clear hk); (try clear hi)) | ((with_reducible refine gate_callee (f := 23) rfl ?_); refine goesL_ (some 16) rfl rfl Tryd.func23 (by kernel_rfl) rfl #[.slice A0 l0.length c0] rfl (by (try simp only [List.map_toArray, List.map_cons, List.map_nil]); first | done | rfl | (simp only [List.length_drop, List.length_take]; rfl) | (simp only [ByteArray.extract_zero_size]; rfl)) ?_; (with_reducible refine (spec_DrawHex.calls k _ _ l0 t204 _ ?side1 ?side2 A7.out).mono ?_); (case side1 => repeat (first | exact (Kd.C_below HR0.out HB.out) | (with_reducible refine Kd.C_alloc ?_ _) | (with_reducible refine Kd.C_drewN ?_ _) | (with_reducible refine Kd.C_drew ?_))); (case side2 => exact HC0.out); rintro e w28 ⟨rfl, hb⟩; refine ⟨_, rfl, ?_⟩; have n0_ := Aside0.mk (below_step (by repeat (first | (with_reducible first | exact HB.out | apply below_alloc | apply pw_below_drewN | apply below_drew1) | exact HB.out)) hb); clear HB; have HB := n0_; clear n0_; (try clear hb); (try clear hb2); (try clear hk); (try clear hi)) | ((with_reducible refine gate_callee (f := 24) rfl ?_); refine goesL_ (some 18) rfl rfl Tryd.func24 (by kernel_rfl) rfl #[.string t201] rfl (by (try simp only [List.map_toArray, List.map_cons, List.map_nil]); first | done | rfl | (simp only [List.length_drop, List.length_take]; rfl) | (simp only [ByteArray.extract_zero_size]; rfl)) ?_; (with_reducible refine (impl_Plain.calls k t201 t205 _ A8.out).mono ?_); rintro e w' ⟨rfl, ⟨nd, rfl⟩⟩; refine ⟨_, rfl, ?_⟩) | ((with_reducible refine gate_callee (f := 25) rfl ?_); refine goesL_ (some 20) rfl rfl Tryd.func25 (by kernel_rfl) rfl #[.string t201] rfl (by (try simp only [List.map_toArray, List.map_cons, List.map_nil]); first | done | rfl | (simp only [List.length_drop, List.length_take]; rfl) | (simp only [ByteArray.extract_zero_size]; rfl)) ?_; (with_reducible refine (spec_Plain.calls k t201 t206 _ A9.out).mono ?_); rintro e w' ⟨rfl, ⟨nd, rfl⟩⟩; refine ⟨_, rfl, ?_⟩) | (go_at_call 26; (with_reducible refine (impl_SmallName.calls k t202 t207 _ A11.out).mono ?_); rintro e w' ⟨rfl, ⟨nd, rfl⟩⟩) | (go_at_call 27; (with_reducible refine (spec_SmallName.calls k t202 t208 _ A12.out).mono ?_); rintro e w' ⟨rfl, ⟨nd, rfl⟩⟩) | (go_at_call 26; (with_reducible refine (impl_SmallName.calls k t202 true _ A14.out).mono ?_); rintro e w' ⟨rfl, ⟨nd, rfl⟩⟩) | (go_at_call 24; (with_reducible refine (impl_Plain.calls k t202 true _ A16.out).mono ?_); rintro e w' ⟨rfl, ⟨nd, rfl⟩⟩) | (go_at_call 28; (with_reducible refine (impl_Lower.calls k t202 t211 _ A18.out).mono ?_); rintro e w29 ⟨rfl, hb⟩; have n0_ := Aside0.mk (below_step (by repeat (first | (with_reducible first | exact HB.out | apply below_alloc | apply pw_below_drewN | apply below_drew1) | exact HB.out)) hb); clear HB; have HB := n0_; clear n0_; (try clear hb); (try clear hb2); (try clear hk); (try clear hi)) | (go_at_call 29; (with_reducible refine (impl_NumText.calls t203 t212 _ A20.out ?side99).mono ?_); (case side99 => first | exact hG | (refine GOK_below hG ?_; (repeat (first | (with_reducible first | exact HB.out | apply below_alloc | apply pw_below_drewN | apply below_drew1) | exact HB.out)); done) | (refine GOK_drawn hG ?_; (repeat (first | exact Drawn0.refl _ | apply Drawn0.step)); done)); rintro e w30 ⟨rfl, hb⟩; have n0_ := Aside0.mk (below_step (by repeat (first | (with_reducible first | exact HB.out | apply below_alloc | apply pw_below_drewN | apply below_drew1) | exact HB.out)) hb); clear HB; have HB := n0_; clear n0_; (try clear hb); (try clear hb2); (try clear hk); (try clear hi)) | (go_at_call 30; (with_reducible refine (spec_NumText.calls k t203 t213 _ A21.out).mono ?_); rintro e w31 ⟨rfl, hb⟩; have n0_ := Aside0.mk (below_step (by repeat (first | (with_reducible first | exact HB.out | apply below_alloc | apply pw_below_drewN | apply below_drew1) | exact HB.out)) hb); clear HB; have HB := n0_; clear n0_; (try clear hb); (try clear hb2); (try clear hk); (try clear hi)) | (go_at_call 8; (with_reducible refine (impl_Hex.calls t204 t214 _ A23.out ?side99).mono ?_); (case side99 => first | exact hG | (refine GOK_below hG ?_; (repeat (first | (with_reducible first | exact HB.out | apply below_alloc | apply pw_below_drewN | apply below_drew1) | exact HB.out)); done) | (refine GOK_drawn hG ?_; (repeat (first | exact Drawn0.refl _ | apply Drawn0.step)); done)); rintro e w32 ⟨rfl, hb⟩; have n0_ := Aside0.mk (below_step (by repeat (first | (with_reducible first | exact HB.out | apply below_alloc | apply pw_below_drewN | apply below_drew1) | exact HB.out)) hb); clear HB; have HB := n0_; clear n0_; (try clear hb); (try clear hb2); (try clear hk); (try clear hi)) | (go_at_call 7; (with_reducible refine (spec_Hex.calls k t204 t215 _ A24.out).mono ?_); rintro e w33 ⟨rfl, hb⟩; have n0_ := Aside0.mk (below_step (by repeat (first | (with_reducible first | exact HB.out | apply below_alloc | apply pw_below_drewN | apply below_drew1) | exact HB.out)) hb); clear HB; have HB := n0_; clear n0_; (try clear hb); (try clear hb2); (try clear hk); (try clear hi)))
                go_ret
                exact ⟨by first | rfl | (rw [hr_]) | (simp only [hr_]) | (simp [errW_none, errW_some] <;> rfl) | (simp [*, errW_none, errW_some] <;> rfl), by repeat (first | (with_reducible first | exact HB.out | apply below_alloc | apply pw_below_drewN | apply below_drew1) | exact HB.out)⟩
              · rw [if_neg c22] at H
                have c22b0 : (t212.toList == t213.toList) = false := beq_eq_false_iff_ne.mpr c22
                have c22b1 : (t212.toList != t213.toList) = true := bne_iff_ne.mpr c22
                cases H
            · rw [if_neg c19] at H
              have c19b0 : (t211.toList == t202.toList) = false := beq_eq_false_iff_ne.mpr c19
              have c19b1 : (t211.toList != t202.toList) = true := bne_iff_ne.mpr c19
              cases H
          · replace c17 := Bool.eq_false_iff.mpr c17
            subst c17
            have H1 : (some false) = some true := by rw [if_neg (show ¬ (false = true) by decide)] at H; exact H
            clear H
            have H := H1
            clear H1
            cases H
        · replace c15 := Bool.eq_false_iff.mpr c15
          subst c15
          have ec15_ := Option.some.inj (A11.out.symm.trans A14.out)
          have ec15c13_ := (beq_iff_eq.1 c13b0).symm.trans ec15_
          have H1 : ((impl_NumText.f t203).bind fun t216 => ((spec_NumText.f k t203).bind fun t217 => (if t216.toList = t217.toList then ((impl_Hex.f t204).bind fun t218 => ((spec_Hex.f k t204).bind fun t219 => (some (t218.toList == t219.toList)))) else (some false)))) = some true := by rw [if_neg (show ¬ (false = true) by decide)] at H; exact H
          clear H
          have H := H1
          clear H1
          replace H := Option.bind_eq_some_iff.mp H
          obtain ⟨t216, A500, H⟩ := H
          replace H : ((spec_NumText.f k t203).bind fun t217 => (if t216.toList = t217.toList then ((impl_Hex.f t204).bind fun t218 => ((spec_Hex.f k t204).bind fun t219 => (some (t218.toList == t219.toList)))) else (some false))) = some true := H
          have A50 := Aside0.mk A500
          clear A500
          replace H := Option.bind_eq_some_iff.mp H
          obtain ⟨t217, A510, H⟩ := H
          replace H : (if t216.toList = t217.toList then ((impl_Hex.f t204).bind fun t218 => ((spec_Hex.f k t204).bind fun t219 => (some (t218.toList == t219.toList)))) else (some false)) = some true := H
          have A51 := Aside0.mk A510
          clear A510
          by_cases c52 : t216.toList = t217.toList
          · rw [if_pos c52] at H
            have c52b0 : (t216.toList == t217.toList) = true := beq_iff_eq.mpr c52
            have c52b1 : (t216.toList != t217.toList) = false := bne_eq_false_iff_eq.mpr c52
            clear c52
            replace H := Option.bind_eq_some_iff.mp H
            obtain ⟨t218, A530, H⟩ := H
            replace H : ((spec_Hex.f k t204).bind fun t219 => (some (t218.toList == t219.toList))) = some true := H
            have A53 := Aside0.mk A530
            clear A530
            replace H := Option.bind_eq_some_iff.mp H
            obtain ⟨t219, A540, H⟩ := H
            replace H : (some (t218.toList == t219.toList)) = some true := H
            have A54 := Aside0.mk A540
            clear A540
            have hr_ := Option.some.inj H
            go_enter Tryd.func6, Tryd.ntmps6
            go_wp2_with (first | ((with_reducible refine gate_callee (f := 19) rfl ?_); refine goesL_ (some 8) rfl rfl Tryd.func19 (by kernel_rfl) rfl #[.slice A0 l0.length c0] rfl (by (try simp only [List.map_toArray, List.map_cons, List.map_nil]); first | done | rfl | (simp only [List.length_drop, List.length_take]; rfl) | (simp only [ByteArray.extract_zero_size]; rfl)) ?_; (with_reducible refine (laws_big.calls _ _ l0 false _ ?side1 ?side2 A2.out).mono ?_); (case side1 => repeat (first | exact HR0.out | (with_reducible refine Kd.C_alloc ?_ _) | (with_reducible refine Kd.C_drewN ?_ _) | (with_reducible refine Kd.C_drew ?_))); (case side2 => exact HC0.out); rintro e w' ⟨rfl, ⟨nd, rfl⟩⟩; refine ⟨_, rfl, ?_⟩) | ((with_reducible refine gate_callee (f := 20) rfl ?_); refine goesL_ (some 10) rfl rfl Tryd.func20 (by kernel_rfl) rfl #[.slice A0 l0.length c0] rfl (by (try simp only [List.map_toArray, List.map_cons, List.map_nil]); first | done | rfl | (simp only [List.length_drop, List.length_take]; rfl) | (simp only [ByteArray.extract_zero_size]; rfl)) ?_; (with_reducible refine (spec_DrawPlain.calls k _ _ l0 t201 _ ?side1 ?side2 A4.out).mono ?_); (case side1 => repeat (first | exact HR0.out | (with_reducible refine Kd.C_alloc ?_ _) | (with_reducible refine Kd.C_drewN ?_ _) | (with_reducible refine Kd.C_drew ?_))); (case side2 => exact HC0.out); rintro e w55 ⟨rfl, hb⟩; refine ⟨_, rfl, ?_⟩; have n0_ := Aside0.mk (below_step (by repeat (first | (with_reducible first | exact HB.out | apply below_alloc | apply pw_below_drewN | apply below_drew1) | exact HB.out)) hb); clear HB; have HB := n0_; clear n0_; (try clear hb); (try clear hb2); (try clear hk); (try clear hi)) | ((with_reducible refine gate_callee (f := 21) rfl ?_); refine goesL_ (some 12) rfl rfl Tryd.func21 (by kernel_rfl) rfl #[.slice A0 l0.length c0] rfl (by (try simp only [List.map_toArray, List.map_cons, List.map_nil]); first | done | rfl | (simp only [List.length_drop, List.length_take]; rfl) | (simp only [ByteArray.extract_zero_size]; rfl)) ?_; (with_reducible refine (spec_DrawSmallName.calls k _ _ l0 t202 _ ?side1 ?side2 A5.out).mono ?_); (case side1 => repeat (first | exact (Kd.C_below HR0.out HB.out) | (with_reducible refine Kd.C_alloc ?_ _) | (with_reducible refine Kd.C_drewN ?_ _) | (with_reducible refine Kd.C_drew ?_))); (case side2 => exact HC0.out); rintro e w56 ⟨rfl, hb⟩; refine ⟨_, rfl, ?_⟩; have n0_ := Aside0.mk (below_step (by repeat (first | (with_reducible first | exact HB.out | apply below_alloc | apply pw_below_drewN | apply below_drew1) | exact HB.out)) hb); clear HB; have HB := n0_; clear n0_; (try clear hb); (try clear hb2); (try clear hk); (try clear hi)) | ((with_reducible refine gate_callee (f := 22) rfl ?_); refine goesL_ (some 14) rfl rfl Tryd.func22 (by kernel_rfl) rfl #[.slice A0 l0.length c0] rfl (by (try simp only [List.map_toArray, List.map_cons, List.map_nil]); first | done | rfl | (simp only [List.length_drop, List.length_take]; rfl) | (simp only [ByteArray.extract_zero_size]; rfl)) ?_; (with_reducible refine (spec_DrawNumText.calls k _ _ l0 t203 _ ?side1 ?side2 A6.out).mono ?_); (case side1 => repeat (first | exact (Kd.C_below HR0.out HB.out) | (with_reducible refine Kd.C_alloc ?_ _) | (with_reducible refine Kd.C_drewN ?_ _) | (with_reducible refine Kd.C_drew ?_))); (case side2 => exact HC0.out); rintro e w57 ⟨rfl, hb⟩; refine ⟨_, rfl, ?_⟩; have n0_ := Aside0.mk (below_step (by repeat (first | (with_reducible first | exact HB.out | apply below_alloc | apply pw_below_drewN | apply below_drew1) | exact HB.out)) hb); clear HB; have HB := n0_; clear n0_; (try clear hb); (try clear hb2); (try clear hk); (try clear hi)) | ((with_reducible refine gate_callee (f := 23) rfl ?_); refine goesL_ (some 16) rfl rfl Tryd.func23 (by kernel_rfl) rfl #[.slice A0 l0.length c0] rfl (by (try simp only [List.map_toArray, List.map_cons, List.map_nil]); first | done | rfl | (simp only [List.length_drop, List.length_take]; rfl) | (simp only [ByteArray.extract_zero_size]; rfl)) ?_; (with_reducible refine (spec_DrawHex.calls k _ _ l0 t204 _ ?side1 ?side2 A7.out).mono ?_); (case side1 => repeat (first | exact (Kd.C_below HR0.out HB.out) | (with_reducible refine Kd.C_alloc ?_ _) | (with_reducible refine Kd.C_drewN ?_ _) | (with_reducible refine Kd.C_drew ?_))); (case side2 => exact HC0.out); rintro e w58 ⟨rfl, hb⟩; refine ⟨_, rfl, ?_⟩; have n0_ := Aside0.mk (below_step (by repeat (first | (with_reducible first | exact HB.out | apply below_alloc | apply pw_below_drewN | apply below_drew1) | exact HB.out)) hb); clear HB; have HB := n0_; clear n0_; (try clear hb); (try clear hb2); (try clear hk); (try clear hi)) | ((with_reducible refine gate_callee (f := 24) rfl ?_); refine goesL_ (some 18) rfl rfl Tryd.func24 (by kernel_rfl) rfl #[.string t201] rfl (by (try simp only [List.map_toArray, List.map_cons, List.map_nil]); first | done | rfl | (simp only [List.length_drop, List.length_take]; rfl) | (simp only [ByteArray.extract_zero_size]; rfl)) ?_; (with_reducible refine (impl_Plain.calls k t201 t205 _ A8.out).mono ?_); rintro e w' ⟨rfl, ⟨nd, rfl⟩⟩; refine ⟨_, rfl, ?_⟩) | ((with_reducible refine gate_callee (f := 25) rfl ?_); refine goesL_ (some 20) rfl rfl Tryd.func25 (by kernel_rfl) rfl #[.string t201] rfl (by (try simp only [List.map_toArray, List.map_cons, List.map_nil]); first | done | rfl | (simp only [List.length_drop, List.length_take]; rfl) | (simp only [ByteArray.extract_zero_size]; rfl)) ?_; (with_reducible refine (spec_Plain.calls k t201 t206 _ A9.out).mono ?_); rintro e w' ⟨rfl, ⟨nd, rfl⟩⟩; refine ⟨_, rfl, ?_⟩) | (go_at_call 26; (with_reducible refine (impl_SmallName.calls k t202 t207 _ A11.out).mono ?_); rintro e w' ⟨rfl, ⟨nd, rfl⟩⟩) | (go_at_call 27; (with_reducible refine (spec_SmallName.calls k t202 t208 _ A12.out).mono ?_); rintro e w' ⟨rfl, ⟨nd, rfl⟩⟩) | (go_at_call 26; (with_reducible refine (impl_SmallName.calls k t202 false _ A14.out).mono ?_); rintro e w' ⟨rfl, ⟨nd, rfl⟩⟩) | (go_at_call 29; (with_reducible refine (impl_NumText.calls t203 t216 _ A50.out ?side99).mono ?_); (case side99 => first | exact hG | (refine GOK_below hG ?_; (repeat (first | (with_reducible first | exact HB.out | apply below_alloc | apply pw_below_drewN | apply below_drew1) | exact HB.out)); done) | (refine GOK_drawn hG ?_; (repeat (first | exact Drawn0.refl _ | apply Drawn0.step)); done)); rintro e w59 ⟨rfl, hb⟩; have n0_ := Aside0.mk (below_step (by repeat (first | (with_reducible first | exact HB.out | apply below_alloc | apply pw_below_drewN | apply below_drew1) | exact HB.out)) hb); clear HB; have HB := n0_; clear n0_; (try clear hb); (try clear hb2); (try clear hk); (try clear hi)) | (go_at_call 30; (with_reducible refine (spec_NumText.calls k t203 t217 _ A51.out).mono ?_); rintro e w60 ⟨rfl, hb⟩; have n0_ := Aside0.mk (below_step (by repeat (first | (with_reducible first | exact HB.out | apply below_alloc | apply pw_below_drewN | apply below_drew1) | exact HB.out)) hb); clear HB; have HB := n0_; clear n0_; (try clear hb); (try clear hb2); (try clear hk); (try clear hi)) | (go_at_call 8; (with_reducible refine (impl_Hex.calls t204 t218 _ A53.out ?side99).mono ?_); (case side99 => first | exact hG | (refine GOK_below hG ?_; (repeat (first | (with_reducible first | exact HB.out | apply below_alloc | apply pw_below_drewN | apply below_drew1) | exact HB.out)); done) | (refine GOK_drawn hG ?_; (repeat (first | exact Drawn0.refl _ | apply Drawn0.step)); done)); rintro e w61 ⟨rfl, hb⟩; have n0_ := Aside0.mk (below_step (by repeat (first | (with_reducible first | exact HB.out | apply below_alloc | apply pw_below_drewN | apply below_drew1) | exact HB.out)) hb); clear HB; have HB := n0_; clear n0_; (try clear hb); (try clear hb2); (try clear hk); (try clear hi)) | (go_at_call 7; (with_reducible refine (spec_Hex.calls k t204 t219 _ A54.out).mono ?_); rintro e w62 ⟨rfl, hb⟩; have n0_ := Aside0.mk (below_step (by repeat (first | (with_reducible first | exact HB.out | apply below_alloc | apply pw_below_drewN | apply below_drew1) | exact HB.out)) hb); clear HB; have HB := n0_; clear n0_; (try clear hb); (try clear hb2); (try clear hk); (try clear hi)))
            go_ret
            exact ⟨by first | rfl | (rw [hr_]) | (simp only [hr_]) | (simp [errW_none, errW_some] <;> rfl) | (simp [*, errW_none, errW_some] <;> rfl), by repeat (first | (with_reducible first | exact HB.out | apply below_alloc | apply pw_below_drewN | apply below_drew1) | exact HB.out)⟩
          · rw [if_neg c52] at H
            have c52b0 : (t216.toList == t217.toList) = false := beq_eq_false_iff_ne.mpr c52
            have c52b1 : (t216.toList != t217.toList) = true := bne_iff_ne.mpr c52
            cases H
      · rw [if_neg c13] at H
        have c13b0 : (t207 == t208) = false := by simpa using c13
        (try (have c13b1 : decide (t207 = t208) = false := by simpa using c13))
        (try (have c13b2 : (t207 == t208) = false := by simpa using c13))
        (try (have c13b3 : ¬ (t207 = t208) := by simpa using c13))
        clear c13
        cases H
    · rw [if_neg c10] at H
      have c10b0 : (t205 == t206) = false := by simpa using c10
      (try (have c10b1 : decide (t205 = t206) = false := by simpa using c10))
      (try (have c10b2 : (t205 == t206) = false := by simpa using c10))
      (try (have c10b3 : ¬ (t205 = t206) := by simpa using c10))
      clear c10
      cases H


/-- THE ONE PURE STATEMENT of laws_FnKinds: yours. -/
def laws_FnKinds.Pure : Prop := ∀ (l0 : List Int), (l0.length ≤ 9223372036854775807 ∧ ∀ x ∈ l0, (Lit.int .u8 x).wf = true) → l0.length ≤ 140737488351232 → ∃ k, laws_FnKinds.f k l0 = some true
theorem laws_FnKinds.walk (P : laws_FnKinds.Pure) (A0 : Option Addr) (c0 : Nat) (l0 : List Int) (w : World) (hr0 : Kd.C (Kd.int .u8) w A0 l0.length l0) (hc0 : l0.length ≤ c0) (w0 : (l0.length ≤ 9223372036854775807 ∧ ∀ x ∈ l0, (Lit.int .u8 x).wf = true)) (w1 : l0.length ≤ 140737488351232) (hG : GOK w) :
    Calls Tryd.prog 6 #[.slice A0 l0.length c0] w fun e w' => e = .returned (.bool true) ∧ Below w.heap.size w w' := by
  obtain ⟨k, h⟩ := P l0 w0 w1
  refine (laws_FnKinds.calls k _ _ l0 w hr0 hc0 h hG).mono ?_
  rintro e w' ⟨rfl, hd⟩
  exact ⟨rfl, hd⟩

end Go.Proofs.YtgfpiijpgpkoiaaDoor.GFnKinds
