-- by gprint.py (this session's program over the kit's print.py) (a twelfth state) out of the translation. Not trusted: Lean checks it.
import Derived.Test.YtgfpiijpgpkoiabDoorGFnExactUnescapex0
import Derived.Test.YtgfpiijpgpkoiabDoorGFnExactUnescapex1
namespace Go.Proofs.YtgfpiijpgpkoiabDoor.GFnExactUnescape
open Go.RowKit Go.Proofs.YtgfpiijpgpkoiabDoorW.PrintWords Go.Proofs.YtgfpiijpgpkoiabDoorW.PrintLast Go.Proofs.YtgfpiijpgpkoiabDoorW.PrintMore
attribute [local go_sem] max2_int min2_int max_two min_two max_three min_three max_four min_four   -- for this text's walks alone
set_option linter.unusedVariables false
set_option linter.unusedSimpArgs false


/-! ### impl_ParseNum: function 26 -/
/-- what strconv.Atoi hands back: a number and no error, or an error -/
theorem impl_ParseNum.atoi (s : ByteArray) (hs : s.size ≤ 281474976710656) (w : World) (hG : GOK w) :
    Calls Tryd.prog 93 #[.string s] w fun e w' => (∃ z x, e = .returned (.tuple #[.int .i64 z, x]) ∧ ((Go.Lib.atoiAll s.data.toList = .ok z ∧ x = .nilIface) ∨ ((∀ v, Go.Lib.atoiAll s.data.toList ≠ .ok v) ∧ ∃ N, x = .iface 150 (.pointer (some ⟨N, 0, none⟩))))) ∧ Below w.heap.size w w' := by
  cases hat : Go.Lib.atoiAll s.data.toList with
  | ok v =>
    refine (Go.Proofs.YtgfpiijpgpkoiabDoor.Shelf.Tryd.strconv_Atoi_ok s (by omega) v hat w).mono ?_
    rintro e w' ⟨rfl, hw⟩
    refine ⟨⟨v, _, rfl, .inl ⟨rfl, rfl⟩⟩, ?_⟩
    rcases hw with rfl | ⟨t, rfl⟩
    · exact Below.refl _ _
    · exact Go.Lib.bytesWorld_below _ _ _
  | range =>
    obtain ⟨tp, p, hv⟩ := hG.errr
    refine (Go.Proofs.Any.strconv_Atoi_range_var Go.Proofs.YtgfpiijpgpkoiabDoor.Shelf.Tryd.laysC172 s hs hat tp p w hv).mono ?_
    rintro e w' ⟨N, rfl, _, _, hb⟩
    exact ⟨⟨_, _, rfl, .inr ⟨fun v h => (by cases h), N, rfl⟩⟩, hb⟩
  | _ =>
    obtain ⟨tp, p, hv⟩ := hG.errs
    refine (Go.Proofs.Any.strconv_Atoi_syntax_var Go.Proofs.YtgfpiijpgpkoiabDoor.Shelf.Tryd.laysC172 s hs hat tp p w hv).mono ?_
    rintro e w' ⟨N, rfl, _, _, hb⟩
    exact ⟨⟨_, _, rfl, .inr ⟨fun v h => (by cases h), N, rfl⟩⟩, hb⟩
def impl_ParseNum.f (a0 : ByteArray) (a1 : Int) : Option (Int × Bool) :=
  if a0.size ≤ 281474976710656 then
    match Go.Lib.atoiAll a0.data.toList with
    | .ok v => if v < 0 then some (0, false) else if a1 < v then some (0, false) else if 7 < a0.size then some (0, false) else (impl_NumText.f v).bind fun t => if t.toList = a0.toList then some (v, true) else some (0, false)
    | _ => some (0, false)
  else none
set_option maxHeartbeats 8000000 in
set_option maxRecDepth 100000 in
theorem impl_ParseNum.calls (a0 : ByteArray) (a1 : Int) (r1 : Int) (r2 : Bool) (w : World) (h : impl_ParseNum.f a0 a1 = some (r1, r2)) (hG : GOK w) :
    Calls Tryd.prog 26 #[.string a0, .int .i64 a1] w fun e w' => e = .returned (.tuple #[.int .i64 r1, .bool r2]) ∧ Below w.heap.size w w' := by
  unfold impl_ParseNum.f at h
  split at h
  · rename_i hs
    have hA := impl_ParseNum.atoi a0 hs w hG
    go_enter Tryd.func26, Tryd.ntmps26
    go_wp2_with (go_at_call 93; refine hA.mono ?_)
    rintro e w1 ⟨⟨z, x, rfl, hx⟩, HB⟩
    rcases hx with ⟨hat, rfl⟩ | ⟨hno, N, rfl⟩
    · rw [hat] at h
      simp only [] at h
      clear hA hat
      by_cases c1 : z < 0
      · rw [if_pos c1] at h
        have c1b := decide_eq_true c1
        clear c1
        obtain ⟨rfl, rfl⟩ := Prod.mk.inj (Option.some.inj h)
        go_wp2
        go_ret2
        exact ⟨rfl, HB⟩
      rw [if_neg c1] at h
      have c1b := decide_eq_false c1
      by_cases c2 : a1 < z
      · rw [if_pos c2] at h
        have c2b := decide_eq_true c2
        clear c1 c2
        obtain ⟨rfl, rfl⟩ := Prod.mk.inj (Option.some.inj h)
        go_wp2
        go_ret2
        exact ⟨rfl, HB⟩
      rw [if_neg c2] at h
      have c2b := decide_eq_false c2
      by_cases c3 : 7 < a0.size
      · rw [if_pos c3] at h
        have c3b : decide ((7 : Int) < (a0.size : Int)) = true := decide_eq_true (by omega)
        clear c1 c2 c3
        obtain ⟨rfl, rfl⟩ := Prod.mk.inj (Option.some.inj h)
        go_wp2
        go_ret2
        exact ⟨rfl, HB⟩
      rw [if_neg c3] at h
      have c3b : decide ((7 : Int) < (a0.size : Int)) = false := decide_eq_false (by omega)
      clear c1 c2 c3
      obtain ⟨t, ht, h⟩ := Option.bind_eq_some_iff.1 h
      have hN := fun W (hW : GOK W) => impl_NumText.calls z t W ht hW
      clear ht
      by_cases c4 : t.toList = a0.toList
      · rw [if_pos c4] at h
        have c4b0 : (t.toList == a0.toList) = true := beq_iff_eq.mpr c4
        have c4b1 : (t.toList != a0.toList) = false := bne_eq_false_iff_eq.mpr c4
        clear c4
        obtain ⟨rfl, rfl⟩ := Prod.mk.inj (Option.some.inj h)
        go_wp2_with (go_at_call 67; refine (hN _ (GOK_below hG HB)).mono ?_; rintro e w2 ⟨rfl, hb⟩)
        go_ret2
        exact ⟨rfl, below_step HB hb⟩
      · rw [if_neg c4] at h
        have c4b0 : (t.toList == a0.toList) = false := beq_eq_false_iff_ne.mpr c4
        have c4b1 : (t.toList != a0.toList) = true := bne_iff_ne.mpr c4
        clear c4
        obtain ⟨rfl, rfl⟩ := Prod.mk.inj (Option.some.inj h)
        go_wp2_with (go_at_call 67; refine (hN _ (GOK_below hG HB)).mono ?_; rintro e w2 ⟨rfl, hb⟩)
        go_ret2
        exact ⟨rfl, below_step HB hb⟩
    · have h2 : some ((0 : Int), false) = some (r1, r2) := by
        split at h
        · rename_i v hv; exact absurd hv (hno v)
        · exact h
      obtain ⟨rfl, rfl⟩ := Prod.mk.inj (Option.some.inj h2)
      clear h h2 hno hA
      go_wp2
      go_ret2
      exact ⟨rfl, HB⟩
  · cases h


/-! ### strings_CutPrefix: function 164 -/
def strings_CutPrefix.f (a0 : ByteArray) (a1 : ByteArray) : Option (ByteArray × Bool) := some (⟨(Lib.trimPrefix a0.data.toList a1.data.toList).toArray⟩, Lib.hasPrefix a0.data.toList a1.data.toList)
theorem strings_CutPrefix.calls (a0 : ByteArray) (a1 : ByteArray) (r1 : ByteArray) (r2 : Bool) (w : World) (h : strings_CutPrefix.f a0 a1 = some (r1, r2)) :
    Calls Tryd.prog 164 #[.string a0, .string a1] w fun e w' => e = .returned (.tuple #[.string r1, .bool r2]) ∧ Drawn0 w w' := by
  simp only [strings_CutPrefix.f, Option.some.injEq, Prod.mk.injEq] at h
  obtain ⟨rfl, rfl⟩ := h
  exact (Go.Proofs.YtgfpiijpgpkoiabDoor.Shelf.Tryd.strings_CutPrefix a0 a1 w).mono fun e w' ⟨he, hw⟩ => ⟨he, by subst hw; exact Drawn0.refl _⟩

/-! ### impl_named: function 115 -/
def impl_named.f (a0 : ByteArray) : Option (ByteArray × Bool) := if a0.toList = ([97, 109, 112] : List UInt8) then (some ((⟨#[38]⟩ : ByteArray), true)) else (if a0.toList = ([108, 116] : List UInt8) then (some ((⟨#[60]⟩ : ByteArray), true)) else (if a0.toList = ([103, 116] : List UInt8) then (some ((⟨#[62]⟩ : ByteArray), true)) else (if a0.toList = ([113, 117, 111, 116] : List UInt8) then (some ((⟨#[34]⟩ : ByteArray), true)) else (if a0.toList = ([97, 112, 111, 115] : List UInt8) then (some ((⟨#[39]⟩ : ByteArray), true)) else ((strings_CutPrefix.f a0 (⟨#[35]⟩ : ByteArray)).bind fun bt118 => ((impl_ParseNum.f bt118.1 126).bind fun bt120 => (if bt118.2 = true then (if bt120.2 = true then (if bt120.1 < 32 then (some ((⟨#[]⟩ : ByteArray), false)) else (some (strOfNums (([(bt120.1) % 256] : List Int)), true))) else (some ((⟨#[]⟩ : ByteArray), false))) else (some ((⟨#[]⟩ : ByteArray), false)))))))))
set_option maxHeartbeats 8000000 in
set_option maxRecDepth 100000 in
theorem impl_named.calls (a0 : ByteArray) (r1 : ByteArray) (r2 : Bool) (w : World) (h : impl_named.f a0 = some (r1, r2)) (hG : GOK w) :
    Calls Tryd.prog 115 #[.string a0] w fun e w' => e = .returned (.tuple #[.string r1, .bool r2]) ∧ Below w.heap.size w w' := by
  have HB := Aside0.mk (Below.refl w.heap.size w)
  have H : (if a0.toList = ([97, 109, 112] : List UInt8) then (some ((⟨#[38]⟩ : ByteArray), true)) else (if a0.toList = ([108, 116] : List UInt8) then (some ((⟨#[60]⟩ : ByteArray), true)) else (if a0.toList = ([103, 116] : List UInt8) then (some ((⟨#[62]⟩ : ByteArray), true)) else (if a0.toList = ([113, 117, 111, 116] : List UInt8) then (some ((⟨#[34]⟩ : ByteArray), true)) else (if a0.toList = ([97, 112, 111, 115] : List UInt8) then (some ((⟨#[39]⟩ : ByteArray), true)) else ((strings_CutPrefix.f a0 (⟨#[35]⟩ : ByteArray)).bind fun bt118 => ((impl_ParseNum.f bt118.1 126).bind fun bt120 => (if bt118.2 = true then (if bt120.2 = true then (if bt120.1 < 32 then (some ((⟨#[]⟩ : ByteArray), false)) else (some (strOfNums (([(bt120.1) % 256] : List Int)), true))) else (some ((⟨#[]⟩ : ByteArray), false))) else (some ((⟨#[]⟩ : ByteArray), false)))))))))) = some (r1, r2) := h
  clear h
  by_cases c2 : a0.toList = ([97, 109, 112] : List UInt8)
  · rw [if_pos c2] at H
    have c2b0 : (a0.toList == ([97, 109, 112] : List UInt8)) = true := beq_iff_eq.mpr c2
    have c2b1 : (a0.toList != ([97, 109, 112] : List UInt8)) = false := bne_eq_false_iff_eq.mpr c2
    clear c2
    simp only [Option.some.injEq, Prod.mk.injEq] at H
    obtain ⟨rfl, rfl⟩ := H
    go_enter Tryd.func115, Tryd.ntmps115
    go_wp2
    go_ret2
    exact ⟨by first | rfl | (simp [errW_none, errW_some] <;> rfl) | (simp [*, errW_none, errW_some] <;> rfl), by repeat (first | (with_reducible first | exact HB.out | apply below_alloc | apply pw_below_drewN | apply below_drew1) | exact HB.out)⟩
  · rw [if_neg c2] at H
    have c2b0 : (a0.toList == ([97, 109, 112] : List UInt8)) = false := beq_eq_false_iff_ne.mpr c2
    have c2b1 : (a0.toList != ([97, 109, 112] : List UInt8)) = true := bne_iff_ne.mpr c2
    by_cases c3 : a0.toList = ([108, 116] : List UInt8)
    · rw [if_pos c3] at H
      have c3b0 : (a0.toList == ([108, 116] : List UInt8)) = true := beq_iff_eq.mpr c3
      have c3b1 : (a0.toList != ([108, 116] : List UInt8)) = false := bne_eq_false_iff_eq.mpr c3
      clear c3
      simp only [Option.some.injEq, Prod.mk.injEq] at H
      obtain ⟨rfl, rfl⟩ := H
      go_enter Tryd.func115, Tryd.ntmps115
      go_wp2
      go_ret2
      exact ⟨by first | rfl | (simp [errW_none, errW_some] <;> rfl) | (simp [*, errW_none, errW_some] <;> rfl), by repeat (first | (with_reducible first | exact HB.out | apply below_alloc | apply pw_below_drewN | apply below_drew1) | exact HB.out)⟩
    · rw [if_neg c3] at H
      have c3b0 : (a0.toList == ([108, 116] : List UInt8)) = false := beq_eq_false_iff_ne.mpr c3
      have c3b1 : (a0.toList != ([108, 116] : List UInt8)) = true := bne_iff_ne.mpr c3
      by_cases c4 : a0.toList = ([103, 116] : List UInt8)
      · rw [if_pos c4] at H
        have c4b0 : (a0.toList == ([103, 116] : List UInt8)) = true := beq_iff_eq.mpr c4
        have c4b1 : (a0.toList != ([103, 116] : List UInt8)) = false := bne_eq_false_iff_eq.mpr c4
        clear c4
        simp only [Option.some.injEq, Prod.mk.injEq] at H
        obtain ⟨rfl, rfl⟩ := H
        go_enter Tryd.func115, Tryd.ntmps115
        go_wp2
        go_ret2
        exact ⟨by first | rfl | (simp [errW_none, errW_some] <;> rfl) | (simp [*, errW_none, errW_some] <;> rfl), by repeat (first | (with_reducible first | exact HB.out | apply below_alloc | apply pw_below_drewN | apply below_drew1) | exact HB.out)⟩
      · rw [if_neg c4] at H
        have c4b0 : (a0.toList == ([103, 116] : List UInt8)) = false := beq_eq_false_iff_ne.mpr c4
        have c4b1 : (a0.toList != ([103, 116] : List UInt8)) = true := bne_iff_ne.mpr c4
        by_cases c5 : a0.toList = ([113, 117, 111, 116] : List UInt8)
        · rw [if_pos c5] at H
          have c5b0 : (a0.toList == ([113, 117, 111, 116] : List UInt8)) = true := beq_iff_eq.mpr c5
          have c5b1 : (a0.toList != ([113, 117, 111, 116] : List UInt8)) = false := bne_eq_false_iff_eq.mpr c5
          clear c5
          simp only [Option.some.injEq, Prod.mk.injEq] at H
          obtain ⟨rfl, rfl⟩ := H
          go_enter Tryd.func115, Tryd.ntmps115
          go_wp2
          go_ret2
          exact ⟨by first | rfl | (simp [errW_none, errW_some] <;> rfl) | (simp [*, errW_none, errW_some] <;> rfl), by repeat (first | (with_reducible first | exact HB.out | apply below_alloc | apply pw_below_drewN | apply below_drew1) | exact HB.out)⟩
        · rw [if_neg c5] at H
          have c5b0 : (a0.toList == ([113, 117, 111, 116] : List UInt8)) = false := beq_eq_false_iff_ne.mpr c5
          have c5b1 : (a0.toList != ([113, 117, 111, 116] : List UInt8)) = true := bne_iff_ne.mpr c5
          by_cases c6 : a0.toList = ([97, 112, 111, 115] : List UInt8)
          · rw [if_pos c6] at H
            have c6b0 : (a0.toList == ([97, 112, 111, 115] : List UInt8)) = true := beq_iff_eq.mpr c6
            have c6b1 : (a0.toList != ([97, 112, 111, 115] : List UInt8)) = false := bne_eq_false_iff_eq.mpr c6
            clear c6
            simp only [Option.some.injEq, Prod.mk.injEq] at H
            obtain ⟨rfl, rfl⟩ := H
            go_enter Tryd.func115, Tryd.ntmps115
            go_wp2
            go_ret2
            exact ⟨by first | rfl | (simp [errW_none, errW_some] <;> rfl) | (simp [*, errW_none, errW_some] <;> rfl), by repeat (first | (with_reducible first | exact HB.out | apply below_alloc | apply pw_below_drewN | apply below_drew1) | exact HB.out)⟩
          · rw [if_neg c6] at H
            have c6b0 : (a0.toList == ([97, 112, 111, 115] : List UInt8)) = false := beq_eq_false_iff_ne.mpr c6
            have c6b1 : (a0.toList != ([97, 112, 111, 115] : List UInt8)) = true := bne_iff_ne.mpr c6
            replace H := Option.bind_eq_some_iff.mp H
            obtain ⟨⟨t118, t119⟩, A70, H⟩ := H
            replace H : ((impl_ParseNum.f t118 126).bind fun bt120 => (if t119 = true then (if bt120.2 = true then (if bt120.1 < 32 then (some ((⟨#[]⟩ : ByteArray), false)) else (some (strOfNums (([(bt120.1) % 256] : List Int)), true))) else (some ((⟨#[]⟩ : ByteArray), false))) else (some ((⟨#[]⟩ : ByteArray), false)))) = some (r1, r2) := H
            have A7 := Aside0.mk A70
            clear A70
            replace H := Option.bind_eq_some_iff.mp H
            obtain ⟨⟨t120, t121⟩, A80, H⟩ := H
            replace H : (if t119 = true then (if t121 = true then (if t120 < 32 then (some ((⟨#[]⟩ : ByteArray), false)) else (some (strOfNums (([(t120) % 256] : List Int)), true))) else (some ((⟨#[]⟩ : ByteArray), false))) else (some ((⟨#[]⟩ : ByteArray), false))) = some (r1, r2) := H
            have A8 := Aside0.mk A80
            clear A80
            by_cases c9 : t119 = true
            · subst c9
              have H1 : (if t121 = true then (if t120 < 32 then (some ((⟨#[]⟩ : ByteArray), false)) else (some (strOfNums (([(t120) % 256] : List Int)), true))) else (some ((⟨#[]⟩ : ByteArray), false))) = some (r1, r2) := by rw [if_pos rfl] at H; exact H
              clear H
              have H := H1
              clear H1
              by_cases c10 : t121 = true
              · subst c10
                have H1 : (if t120 < 32 then (some ((⟨#[]⟩ : ByteArray), false)) else (some (strOfNums (([(t120) % 256] : List Int)), true))) = some (r1, r2) := by rw [if_pos rfl] at H; exact H
                clear H
                have H := H1
                clear H1
                by_cases c11 : t120 < 32
                · rw [if_pos c11] at H
                  have c11b0 : decide (t120 < 32) = true := decide_eq_true c11
                  clear c11
                  simp only [Option.some.injEq, Prod.mk.injEq] at H
                  obtain ⟨rfl, rfl⟩ := H
                  go_enter Tryd.func115, Tryd.ntmps115
                  go_wp2_with (first | ((with_reducible refine gate_callee (f := 164) rfl ?_); refine goesL_ (some 21) rfl rfl Tryd.func164 (by kernel_rfl) rfl #[.string a0, .string (⟨#[35]⟩ : ByteArray)] rfl (by (try simp only [List.map_toArray, List.map_cons, List.map_nil]); first | done | rfl | (simp only [List.length_drop, List.length_take]; rfl) | (simp only [ByteArray.extract_zero_size]; rfl)) ?_; (with_reducible refine (strings_CutPrefix.calls a0 (⟨#[35]⟩ : ByteArray) t118 true _ A7.out).mono ?_); rintro e w' ⟨rfl, ⟨nd, rfl⟩⟩; refine ⟨_, rfl, ?_⟩) | ((with_reducible refine gate_callee (f := 26) rfl ?_); refine goesL_ (some 26) rfl rfl Tryd.func26 (by kernel_rfl) rfl #[.string t118, .int .i64 126] rfl (by (try simp only [List.map_toArray, List.map_cons, List.map_nil]); first | done | rfl | (simp only [List.length_drop, List.length_take]; rfl) | (simp only [ByteArray.extract_zero_size]; rfl)) ?_; (with_reducible refine (impl_ParseNum.calls t118 126 t120 true _ A8.out ?side99).mono ?_); (case side99 => first | exact hG | (refine GOK_below hG ?_; (repeat (first | (with_reducible first | exact HB.out | apply below_alloc | apply pw_below_drewN | apply below_drew1) | exact HB.out)); done) | (refine GOK_drawn hG ?_; (repeat (first | exact Drawn0.refl _ | apply Drawn0.step)); done)); rintro e w12 ⟨rfl, hb⟩; refine ⟨_, rfl, ?_⟩; have n0_ := Aside0.mk (below_step (by repeat (first | (with_reducible first | exact HB.out | apply below_alloc | apply pw_below_drewN | apply below_drew1) | exact HB.out)) hb); clear HB; have HB := n0_; clear n0_; (try clear hb); (try clear hb2); (try clear hk); (try clear hi)))
                  go_ret2
                  exact ⟨by first | rfl | (simp [errW_none, errW_some] <;> rfl) | (simp [*, errW_none, errW_some] <;> rfl), by repeat (first | (with_reducible first | exact HB.out | apply below_alloc | apply pw_below_drewN | apply below_drew1) | exact HB.out)⟩
                · rw [if_neg c11] at H
                  have c11b0 : decide (t120 < 32) = false := decide_eq_false c11
                  clear c11
                  obtain ⟨y122, hy122⟩ : ∃ y_ : List Int, y_ = (([(t120) % 256] : List Int)) := ⟨_, rfl⟩
                  replace H : (some (strOfNums y122, true)) = some (r1, r2) := by first | (rw [hy122]; with_reducible exact H) | (have H2_ := (Option.bind_some _ _).symm.trans H; rw [hy122]; with_reducible exact H2_) | (have H2_ := (Option.bind_some _ _).symm.trans H; with_reducible exact H2_) | with_reducible exact H | (rw [hy122]; exact H) | exact H
                  have Ny122 := Aside0.mk hy122
                  clear hy122
                  simp only [Option.some.injEq, Prod.mk.injEq] at H
                  obtain ⟨rfl, rfl⟩ := H
                  go_enter Tryd.func115, Tryd.ntmps115
                  go_wp2_with (first | ((with_reducible refine gate_callee (f := 164) rfl ?_); refine goesL_ (some 21) rfl rfl Tryd.func164 (by kernel_rfl) rfl #[.string a0, .string (⟨#[35]⟩ : ByteArray)] rfl (by (try simp only [List.map_toArray, List.map_cons, List.map_nil]); first | done | rfl | (simp only [List.length_drop, List.length_take]; rfl) | (simp only [ByteArray.extract_zero_size]; rfl)) ?_; (with_reducible refine (strings_CutPrefix.calls a0 (⟨#[35]⟩ : ByteArray) t118 true _ A7.out).mono ?_); rintro e w' ⟨rfl, ⟨nd, rfl⟩⟩; refine ⟨_, rfl, ?_⟩) | ((with_reducible refine gate_callee (f := 26) rfl ?_); refine goesL_ (some 26) rfl rfl Tryd.func26 (by kernel_rfl) rfl #[.string t118, .int .i64 126] rfl (by (try simp only [List.map_toArray, List.map_cons, List.map_nil]); first | done | rfl | (simp only [List.length_drop, List.length_take]; rfl) | (simp only [ByteArray.extract_zero_size]; rfl)) ?_; (with_reducible refine (impl_ParseNum.calls t118 126 t120 true _ A8.out ?side99).mono ?_); (case side99 => first | exact hG | (refine GOK_below hG ?_; (repeat (first | (with_reducible first | exact HB.out | apply below_alloc | apply pw_below_drewN | apply below_drew1) | exact HB.out)); done) | (refine GOK_drawn hG ?_; (repeat (first | exact Drawn0.refl _ | apply Drawn0.step)); done)); rintro e w13 ⟨rfl, hb⟩; refine ⟨_, rfl, ?_⟩; have n0_ := Aside0.mk (below_step (by repeat (first | (with_reducible first | exact HB.out | apply below_alloc | apply pw_below_drewN | apply below_drew1) | exact HB.out)) hb); clear HB; have HB := n0_; clear n0_; (try clear hb); (try clear hb2); (try clear hk); (try clear hi)) | ((with_reducible refine gate_dst (N := 41) rfl ?_); refine Kd.R_lit (Kd.int .u8) _ 5 ?hg (N := 41) ?hd (xs := ([(t120) % 256] : List Int)) (inner := [.int .u8 ((t120) % 256)]) (ok := fun _ => True) (okp := fun _ => True) ?hr ?hp (fun _ hk => hk) trivial (Below.refl _ _) (Nat.le_refl _) (by simp) ?_; (case hd => rfl); (case hg => rfl); (case hr => first | (go_simp; done) | (go_simp; rfl)); (case hp => exact (Reps.one (show Kd.M (Kd.int .u8) _ _ _ ((t120) % 256) [.int .u8 ((t120) % 256)] from rfl) (Reps.none _ _))); intro v123 w14 ho15 hb hg_ hnew_; clear hg_ hnew_; (first | rw [← Ny122.out] at ho15 | (simp only [Int.reduceToNat] at ho15; rw [← Ny122.out] at ho15)); have n0_ := Aside0.mk (Kd.R_lower ho15 (below_size (by repeat (first | (with_reducible first | exact HB.out | apply below_alloc | apply pw_below_drewN | apply below_drew1) | exact HB.out)))); have n1_ := Aside0.mk (below_step (by repeat (first | (with_reducible first | exact HB.out | apply below_alloc | apply pw_below_drewN | apply below_drew1) | exact HB.out)) hb); clear HB; have HO124 := n0_; have HB := n1_; clear n0_ n1_; clear hb ho15; have hcv16 := own_string (P := Tryd.prog) Tryd.underlying51 Tryd.underlying5 Tryd.underlying9 (Kd.own_of_R HO124.out)))
                  go_ret2
                  exact ⟨by first | rfl | (simp [errW_none, errW_some] <;> rfl) | (simp [*, errW_none, errW_some] <;> rfl), by repeat (first | (with_reducible first | exact HB.out | apply below_alloc | apply pw_below_drewN | apply below_drew1) | exact HB.out)⟩
              · replace c10 := Bool.eq_false_iff.mpr c10
                subst c10
                have H1 : (some ((⟨#[]⟩ : ByteArray), false)) = some (r1, r2) := by rw [if_neg (show ¬ (false = true) by decide)] at H; exact H
                clear H
                have H := H1
                clear H1
                simp only [Option.some.injEq, Prod.mk.injEq] at H
                obtain ⟨rfl, rfl⟩ := H
                go_enter Tryd.func115, Tryd.ntmps115
                go_wp2_with (first | ((with_reducible refine gate_callee (f := 164) rfl ?_); refine goesL_ (some 21) rfl rfl Tryd.func164 (by kernel_rfl) rfl #[.string a0, .string (⟨#[35]⟩ : ByteArray)] rfl (by (try simp only [List.map_toArray, List.map_cons, List.map_nil]); first | done | rfl | (simp only [List.length_drop, List.length_take]; rfl) | (simp only [ByteArray.extract_zero_size]; rfl)) ?_; (with_reducible refine (strings_CutPrefix.calls a0 (⟨#[35]⟩ : ByteArray) t118 true _ A7.out).mono ?_); rintro e w' ⟨rfl, ⟨nd, rfl⟩⟩; refine ⟨_, rfl, ?_⟩) | ((with_reducible refine gate_callee (f := 26) rfl ?_); refine goesL_ (some 26) rfl rfl Tryd.func26 (by kernel_rfl) rfl #[.string t118, .int .i64 126] rfl (by (try simp only [List.map_toArray, List.map_cons, List.map_nil]); first | done | rfl | (simp only [List.length_drop, List.length_take]; rfl) | (simp only [ByteArray.extract_zero_size]; rfl)) ?_; (with_reducible refine (impl_ParseNum.calls t118 126 t120 false _ A8.out ?side99).mono ?_); (case side99 => first | exact hG | (refine GOK_below hG ?_; (repeat (first | (with_reducible first | exact HB.out | apply below_alloc | apply pw_below_drewN | apply below_drew1) | exact HB.out)); done) | (refine GOK_drawn hG ?_; (repeat (first | exact Drawn0.refl _ | apply Drawn0.step)); done)); rintro e w17 ⟨rfl, hb⟩; refine ⟨_, rfl, ?_⟩; have n0_ := Aside0.mk (below_step (by repeat (first | (with_reducible first | exact HB.out | apply below_alloc | apply pw_below_drewN | apply below_drew1) | exact HB.out)) hb); clear HB; have HB := n0_; clear n0_; (try clear hb); (try clear hb2); (try clear hk); (try clear hi)))
                go_ret2
                exact ⟨by first | rfl | (simp [errW_none, errW_some] <;> rfl) | (simp [*, errW_none, errW_some] <;> rfl), by repeat (first | (with_reducible first | exact HB.out | apply below_alloc | apply pw_below_drewN | apply below_drew1) | exact HB.out)⟩
            · replace c9 := Bool.eq_false_iff.mpr c9
              subst c9
              have H1 : (some ((⟨#[]⟩ : ByteArray), false)) = some (r1, r2) := by rw [if_neg (show ¬ (false = true) by decide)] at H; exact H
              clear H
              have H := H1
              clear H1
              simp only [Option.some.injEq, Prod.mk.injEq] at H
              obtain ⟨rfl, rfl⟩ := H
              go_enter Tryd.func115, Tryd.ntmps115
              go_wp2_with (first | ((with_reducible refine gate_callee (f := 164) rfl ?_); refine goesL_ (some 21) rfl rfl Tryd.func164 (by kernel_rfl) rfl #[.string a0, .string (⟨#[35]⟩ : ByteArray)] rfl (by (try simp only [List.map_toArray, List.map_cons, List.map_nil]); first | done | rfl | (simp only [List.length_drop, List.length_take]; rfl) | (simp only [ByteArray.extract_zero_size]; rfl)) ?_; (with_reducible refine (strings_CutPrefix.calls a0 (⟨#[35]⟩ : ByteArray) t118 false _ A7.out).mono ?_); rintro e w' ⟨rfl, ⟨nd, rfl⟩⟩; refine ⟨_, rfl, ?_⟩) | ((with_reducible refine gate_callee (f := 26) rfl ?_); refine goesL_ (some 26) rfl rfl Tryd.func26 (by kernel_rfl) rfl #[.string t118, .int .i64 126] rfl (by (try simp only [List.map_toArray, List.map_cons, List.map_nil]); first | done | rfl | (simp only [List.length_drop, List.length_take]; rfl) | (simp only [ByteArray.extract_zero_size]; rfl)) ?_; (with_reducible refine (impl_ParseNum.calls t118 126 t120 t121 _ A8.out ?side99).mono ?_); (case side99 => first | exact hG | (refine GOK_below hG ?_; (repeat (first | (with_reducible first | exact HB.out | apply below_alloc | apply pw_below_drewN | apply below_drew1) | exact HB.out)); done) | (refine GOK_drawn hG ?_; (repeat (first | exact Drawn0.refl _ | apply Drawn0.step)); done)); rintro e w18 ⟨rfl, hb⟩; refine ⟨_, rfl, ?_⟩; have n0_ := Aside0.mk (below_step (by repeat (first | (with_reducible first | exact HB.out | apply below_alloc | apply pw_below_drewN | apply below_drew1) | exact HB.out)) hb); clear HB; have HB := n0_; clear n0_; (try clear hb); (try clear hb2); (try clear hk); (try clear hi)))
              go_ret2
              exact ⟨by first | rfl | (simp [errW_none, errW_some] <;> rfl) | (simp [*, errW_none, errW_some] <;> rfl), by repeat (first | (with_reducible first | exact HB.out | apply below_alloc | apply pw_below_drewN | apply below_drew1) | exact HB.out)⟩

/-! ### impl_Unescape: function 48 -/
def impl_Unescape.l0 : Nat → ByteArray → ByteArray → Option (ByteArray × Bool)
  | 0, _, _ => none
  | k + 1, x0, x4 => (strings_Cut.f x0 (⟨#[38]⟩ : ByteArray)).bind fun bt126 => (if x4.size + bt126.1.size ≤ 9223372036854775807 then (if bt126.2.2 = true then ((strings_Cut.f bt126.2.1 (⟨#[59]⟩ : ByteArray)).bind fun bt129 => ((impl_named.f bt129.1).bind fun bt132 => (if bt129.2.2 = true then (if bt132.2 = true then (if (x4 ++ bt126.1).size + bt132.1.size ≤ 9223372036854775807 then (impl_Unescape.l0 k bt129.2.1 ((x4 ++ bt126.1) ++ bt132.1)) else (none)) else (some ((⟨#[]⟩ : ByteArray), false))) else (some ((⟨#[]⟩ : ByteArray), false))))) else (some (x4 ++ bt126.1, true))) else (none))
def impl_Unescape.f (k : Nat) (a0 : ByteArray) : Option (ByteArray × Bool) := (strings_Contains.f a0 (⟨#[60]⟩ : ByteArray)).bind fun t125 => (if t125 = true then (some ((⟨#[]⟩ : ByteArray), false)) else (impl_Unescape.l0 k a0 (⟨#[]⟩ : ByteArray)))

set_option maxHeartbeats 8000000 in
set_option maxRecDepth 100000 in
theorem impl_Unescape.calls (k : Nat) (a0 : ByteArray) (r1 : ByteArray) (r2 : Bool) (w : World) (h : impl_Unescape.f k a0 = some (r1, r2)) (hG : GOK w) :
    Calls Tryd.prog 48 #[.string a0] w fun e w' => e = .returned (.tuple #[.string r1, .bool r2]) ∧ Below w.heap.size w w' := by
  have HB := Aside0.mk (Below.refl w.heap.size w)
  have H : ((strings_Contains.f a0 (⟨#[60]⟩ : ByteArray)).bind fun t125 => (if t125 = true then (some ((⟨#[]⟩ : ByteArray), false)) else (impl_Unescape.l0 k a0 (⟨#[]⟩ : ByteArray)))) = some (r1, r2) := h
  clear h
  replace H := Option.bind_eq_some_iff.mp H
  obtain ⟨t125, A20, H⟩ := H
  replace H : (if t125 = true then (some ((⟨#[]⟩ : ByteArray), false)) else (impl_Unescape.l0 k a0 (⟨#[]⟩ : ByteArray))) = some (r1, r2) := H
  have A2 := Aside0.mk A20
  clear A20
  by_cases c3 : t125 = true
  · subst c3
    have H1 : (some ((⟨#[]⟩ : ByteArray), false)) = some (r1, r2) := by rw [if_pos rfl] at H; exact H
    clear H
    have H := H1
    clear H1
    simp only [Option.some.injEq, Prod.mk.injEq] at H
    obtain ⟨rfl, rfl⟩ := H
    go_enter Tryd.func48, Tryd.ntmps48
    go_wp2_with (first | ((with_reducible refine gate_callee (f := 113) rfl ?_); refine goesL_ (some 14) rfl rfl Tryd.func113 (by kernel_rfl) rfl #[.string a0, .string (⟨#[60]⟩ : ByteArray)] rfl (by (try simp only [List.map_toArray, List.map_cons, List.map_nil]); first | done | rfl | (simp only [List.length_drop, List.length_take]; rfl) | (simp only [ByteArray.extract_zero_size]; rfl)) ?_; (with_reducible refine (strings_Contains.calls a0 (⟨#[60]⟩ : ByteArray) true _ A2.out).mono ?_); rintro e w' ⟨rfl, ⟨nd, rfl⟩⟩; refine ⟨_, rfl, ?_⟩))
    go_ret2
    exact ⟨by first | rfl | (simp [errW_none, errW_some] <;> rfl) | (simp [*, errW_none, errW_some] <;> rfl), by repeat (first | (with_reducible first | exact HB.out | apply below_alloc | apply pw_below_drewN | apply below_drew1) | exact HB.out)⟩
  · replace c3 := Bool.eq_false_iff.mpr c3
    subst c3
    have H1 : (impl_Unescape.l0 k a0 (⟨#[]⟩ : ByteArray)) = some (r1, r2) := by rw [if_neg (show ¬ (false = true) by decide)] at H; exact H
    clear H
    have H := H1
    clear H1
    have H' := Aside0.mk H
    clear H
    go_enter Tryd.func48, Tryd.ntmps48
    go_wp2_with (first | ((with_reducible refine gate_callee (f := 113) rfl ?_); refine goesL_ (some 14) rfl rfl Tryd.func113 (by kernel_rfl) rfl #[.string a0, .string (⟨#[60]⟩ : ByteArray)] rfl (by (try simp only [List.map_toArray, List.map_cons, List.map_nil]); first | done | rfl | (simp only [List.length_drop, List.length_take]; rfl) | (simp only [ByteArray.extract_zero_size]; rfl)) ?_; (with_reducible refine (strings_Contains.calls a0 (⟨#[60]⟩ : ByteArray) false _ A2.out).mono ?_); rintro e w' ⟨rfl, ⟨nd, rfl⟩⟩; refine ⟨_, rfl, ?_⟩))
    go_loopg [0, 4] k (fun kq v0 v4 w' => ∃ (x0_1 : ByteArray) (x4_1 : ByteArray), v0 = .string x0_1 ∧ v4 = .string x4_1 ∧ Aside0 (impl_Unescape.l0 kq x0_1 x4_1 = some (r1, r2)) ∧ Aside0 (kq ≤ k) ∧ Aside0 (Below w.heap.size w w'))
    case atStart => exact ⟨(a0), ((⟨#[]⟩ : ByteArray)), (by first | rfl | (simp; done) | (simp [*]; done) | (simp [empty_ne, *]; done)), (by first | rfl | (simp; done) | (simp [*]; done) | (simp [empty_ne, *]; done)), H', ⟨Nat.le_refl _⟩, ⟨by repeat (first | (with_reducible first | exact HB.out | apply below_alloc | apply pw_below_drewN | apply below_drew1) | exact HB.out)⟩⟩
    case round =>
      clear H'
      try clear c1
      try clear p2
      try clear c3
      obtain ⟨x0_1, x4_1, rfl, rfl, HA, HK1, HB⟩ := hrel
      cases gk with
      | zero => exact absurd HA.out (by simp [impl_Unescape.l0])
      | succ k1 =>
        have H := HA.out
        clear HA
        simp only [impl_Unescape.l0] at H
        replace H := Option.bind_eq_some_iff.mp H
        obtain ⟨⟨t126, t127, t128⟩, A40, H⟩ := H
        replace H : (if x4_1.size + t126.size ≤ 9223372036854775807 then (if t128 = true then ((strings_Cut.f t127 (⟨#[59]⟩ : ByteArray)).bind fun bt129 => ((impl_named.f bt129.1).bind fun bt132 => (if bt129.2.2 = true then (if bt132.2 = true then (if (x4_1 ++ t126).size + bt132.1.size ≤ 9223372036854775807 then (impl_Unescape.l0 k1 bt129.2.1 ((x4_1 ++ t126) ++ bt132.1)) else (none)) else (some ((⟨#[]⟩ : ByteArray), false))) else (some ((⟨#[]⟩ : ByteArray), false))))) else (some (x4_1 ++ t126, true))) else (none)) = some (r1, r2) := H
        have A4 := Aside0.mk A40
        clear A40
        by_cases c5 : x4_1.size + t126.size ≤ 9223372036854775807
        · rw [if_pos c5] at H
          have c5b0 := eq_true c5
          have c5b1 : decide (x4_1.size + t126.size ≤ 9223372036854775807) = true := decide_eq_true c5
          try have c5b2 : (9223372036854775807 < x4_1.size + t126.size) = False := eq_false (Nat.not_lt.2 c5)
          by_cases c6 : t128 = true
          · subst c6
            have H1 : ((strings_Cut.f t127 (⟨#[59]⟩ : ByteArray)).bind fun bt129 => ((impl_named.f bt129.1).bind fun bt132 => (if bt129.2.2 = true then (if bt132.2 = true then (if (x4_1 ++ t126).size + bt132.1.size ≤ 9223372036854775807 then (impl_Unescape.l0 k1 bt129.2.1 ((x4_1 ++ t126) ++ bt132.1)) else (none)) else (some ((⟨#[]⟩ : ByteArray), false))) else (some ((⟨#[]⟩ : ByteArray), false))))) = some (r1, r2) := by rw [if_pos rfl] at H; exact H
            clear H
            have H := H1
            clear H1
            replace H := Option.bind_eq_some_iff.mp H
            obtain ⟨⟨t129, t130, t131⟩, A70, H⟩ := H
            replace H : ((impl_named.f t129).bind fun bt132 => (if t131 = true then (if bt132.2 = true then (if (x4_1 ++ t126).size + bt132.1.size ≤ 9223372036854775807 then (impl_Unescape.l0 k1 t130 ((x4_1 ++ t126) ++ bt132.1)) else (none)) else (some ((⟨#[]⟩ : ByteArray), false))) else (some ((⟨#[]⟩ : ByteArray), false)))) = some (r1, r2) := H
            have A7 := Aside0.mk A70
            clear A70
            replace H := Option.bind_eq_some_iff.mp H
            obtain ⟨⟨t132, t133⟩, A80, H⟩ := H
            replace H : (if t131 = true then (if t133 = true then (if (x4_1 ++ t126).size + t132.size ≤ 9223372036854775807 then (impl_Unescape.l0 k1 t130 ((x4_1 ++ t126) ++ t132)) else (none)) else (some ((⟨#[]⟩ : ByteArray), false))) else (some ((⟨#[]⟩ : ByteArray), false))) = some (r1, r2) := H
            have A8 := Aside0.mk A80
            clear A80
            by_cases c9 : t131 = true
            · subst c9
              have H1 : (if t133 = true then (if (x4_1 ++ t126).size + t132.size ≤ 9223372036854775807 then (impl_Unescape.l0 k1 t130 ((x4_1 ++ t126) ++ t132)) else (none)) else (some ((⟨#[]⟩ : ByteArray), false))) = some (r1, r2) := by rw [if_pos rfl] at H; exact H
              clear H
              have H := H1
              clear H1
              by_cases c10 : t133 = true
              · subst c10
                have H1 : (if (x4_1 ++ t126).size + t132.size ≤ 9223372036854775807 then (impl_Unescape.l0 k1 t130 ((x4_1 ++ t126) ++ t132)) else (none)) = some (r1, r2) := by rw [if_pos rfl] at H; exact H
                clear H
                have H := H1
                clear H1
                by_cases c11 : (x4_1 ++ t126).size + t132.size ≤ 9223372036854775807
                · rw [if_pos c11] at H
                  have c11b0 := eq_true c11
                  have c11b1 : decide ((x4_1 ++ t126).size + t132.size ≤ 9223372036854775807) = true := decide_eq_true c11
                  try have c11b2 : (9223372036854775807 < (x4_1 ++ t126).size + t132.size) = False := eq_false (Nat.not_lt.2 c11)
                  have c11s : x4_1.size + t126.size + t132.size ≤ 9223372036854775807 := by have h_ := c11; simp only [ByteArray.size_append] at h_; exact h_
                  have c11s0 := eq_true c11s
                  have c11s1 : decide (x4_1.size + t126.size + t132.size ≤ 9223372036854775807) = true := decide_eq_true c11s
                  have c11s2 : (9223372036854775807 < x4_1.size + t126.size + t132.size) = False := eq_false (Nat.not_lt.2 c11s)
                  have H' := Aside0.mk H
                  clear H
                  go_wp2_with (first | ((with_reducible refine gate_callee (f := 114) rfl ?_); refine goesL_ (some 17) rfl rfl Tryd.func114 (by kernel_rfl) rfl #[.string x0_1, .string (⟨#[38]⟩ : ByteArray)] rfl (by (try simp only [List.map_toArray, List.map_cons, List.map_nil]); first | done | rfl | (simp only [List.length_drop, List.length_take]; rfl) | (simp only [ByteArray.extract_zero_size]; rfl)) ?_; (with_reducible refine (strings_Cut.calls x0_1 (⟨#[38]⟩ : ByteArray) t126 t127 true _ A4.out ?side99).mono ?_); (case side99 => first | exact hG | (refine GOK_below hG ?_; (repeat (first | (with_reducible first | exact HB.out | apply below_alloc | apply pw_below_drewN | apply below_drew1) | exact HB.out)); done) | (refine GOK_drawn hG ?_; (repeat (first | exact Drawn0.refl _ | apply Drawn0.step)); done)); rintro e w' ⟨rfl, ⟨nd, rfl⟩⟩; refine ⟨_, rfl, ?_⟩) | ((with_reducible refine gate_callee (f := 114) rfl ?_); refine goesL_ (some 29) rfl rfl Tryd.func114 (by kernel_rfl) rfl #[.string t127, .string (⟨#[59]⟩ : ByteArray)] rfl (by (try simp only [List.map_toArray, List.map_cons, List.map_nil]); first | done | rfl | (simp only [List.length_drop, List.length_take]; rfl) | (simp only [ByteArray.extract_zero_size]; rfl)) ?_; (with_reducible refine (strings_Cut.calls t127 (⟨#[59]⟩ : ByteArray) t129 t130 true _ A7.out ?side99).mono ?_); (case side99 => first | exact hG | (refine GOK_below hG ?_; (repeat (first | (with_reducible first | exact HB.out | apply below_alloc | apply pw_below_drewN | apply below_drew1) | exact HB.out)); done) | (refine GOK_drawn hG ?_; (repeat (first | exact Drawn0.refl _ | apply Drawn0.step)); done)); rintro e w' ⟨rfl, ⟨nd, rfl⟩⟩; refine ⟨_, rfl, ?_⟩) | ((with_reducible refine gate_callee (f := 115) rfl ?_); refine goesL_ (some 35) rfl rfl Tryd.func115 (by kernel_rfl) rfl #[.string t129] rfl (by (try simp only [List.map_toArray, List.map_cons, List.map_nil]); first | done | rfl | (simp only [List.length_drop, List.length_take]; rfl) | (simp only [ByteArray.extract_zero_size]; rfl)) ?_; (with_reducible refine (impl_named.calls t129 t132 true _ A8.out ?side99).mono ?_); (case side99 => first | exact hG | (refine GOK_below hG ?_; (repeat (first | (with_reducible first | exact HB.out | apply below_alloc | apply pw_below_drewN | apply below_drew1) | exact HB.out)); done) | (refine GOK_drawn hG ?_; (repeat (first | exact Drawn0.refl _ | apply Drawn0.step)); done)); rintro e w12 ⟨rfl, hb⟩; refine ⟨_, rfl, ?_⟩; have n0_ := Aside0.mk (below_step (by repeat (first | (with_reducible first | exact HB.out | apply below_alloc | apply pw_below_drewN | apply below_drew1) | exact HB.out)) hb); clear HB; have HB := n0_; clear n0_; (try clear hb); (try clear hb2); (try clear hk); (try clear hi)))
                  go_roundg k1
                  case measure => have := HK1.out; omega
                  case rel => exact ⟨(t130), ((x4_1 ++ t126) ++ t132), (by first | rfl | (simp; done) | (simp [*]; done) | (simp [empty_ne, *]; done)), (by first | rfl | (simp; done) | (simp [*]; done) | (simp [empty_ne, *]; done)), H', ⟨by have := HK1.out; omega⟩, ⟨by repeat (first | (with_reducible first | exact HB.out | apply below_alloc | apply pw_below_drewN | apply below_drew1) | exact HB.out)⟩⟩
                · rw [if_neg c11] at H
                  exact absurd H (by simp)
              · replace c10 := Bool.eq_false_iff.mpr c10
                subst c10
                have H1 : (some ((⟨#[]⟩ : ByteArray), false)) = some (r1, r2) := by rw [if_neg (show ¬ (false = true) by decide)] at H; exact H
                clear H
                have H := H1
                clear H1
                simp only [Option.some.injEq, Prod.mk.injEq] at H
                obtain ⟨rfl, rfl⟩ := H
                go_wp2_with (first | ((with_reducible refine gate_callee (f := 114) rfl ?_); refine goesL_ (some 17) rfl rfl Tryd.func114 (by kernel_rfl) rfl #[.string x0_1, .string (⟨#[38]⟩ : ByteArray)] rfl (by (try simp only [List.map_toArray, List.map_cons, List.map_nil]); first | done | rfl | (simp only [List.length_drop, List.length_take]; rfl) | (simp only [ByteArray.extract_zero_size]; rfl)) ?_; (with_reducible refine (strings_Cut.calls x0_1 (⟨#[38]⟩ : ByteArray) t126 t127 true _ A4.out ?side99).mono ?_); (case side99 => first | exact hG | (refine GOK_below hG ?_; (repeat (first | (with_reducible first | exact HB.out | apply below_alloc | apply pw_below_drewN | apply below_drew1) | exact HB.out)); done) | (refine GOK_drawn hG ?_; (repeat (first | exact Drawn0.refl _ | apply Drawn0.step)); done)); rintro e w' ⟨rfl, ⟨nd, rfl⟩⟩; refine ⟨_, rfl, ?_⟩) | ((with_reducible refine gate_callee (f := 114) rfl ?_); refine goesL_ (some 29) rfl rfl Tryd.func114 (by kernel_rfl) rfl #[.string t127, .string (⟨#[59]⟩ : ByteArray)] rfl (by (try simp only [List.map_toArray, List.map_cons, List.map_nil]); first | done | rfl | (simp only [List.length_drop, List.length_take]; rfl) | (simp only [ByteArray.extract_zero_size]; rfl)) ?_; (with_reducible refine (strings_Cut.calls t127 (⟨#[59]⟩ : ByteArray) t129 t130 true _ A7.out ?side99).mono ?_); (case side99 => first | exact hG | (refine GOK_below hG ?_; (repeat (first | (with_reducible first | exact HB.out | apply below_alloc | apply pw_below_drewN | apply below_drew1) | exact HB.out)); done) | (refine GOK_drawn hG ?_; (repeat (first | exact Drawn0.refl _ | apply Drawn0.step)); done)); rintro e w' ⟨rfl, ⟨nd, rfl⟩⟩; refine ⟨_, rfl, ?_⟩) | ((with_reducible refine gate_callee (f := 115) rfl ?_); refine goesL_ (some 35) rfl rfl Tryd.func115 (by kernel_rfl) rfl #[.string t129] rfl (by (try simp only [List.map_toArray, List.map_cons, List.map_nil]); first | done | rfl | (simp only [List.length_drop, List.length_take]; rfl) | (simp only [ByteArray.extract_zero_size]; rfl)) ?_; (with_reducible refine (impl_named.calls t129 t132 false _ A8.out ?side99).mono ?_); (case side99 => first | exact hG | (refine GOK_below hG ?_; (repeat (first | (with_reducible first | exact HB.out | apply below_alloc | apply pw_below_drewN | apply below_drew1) | exact HB.out)); done) | (refine GOK_drawn hG ?_; (repeat (first | exact Drawn0.refl _ | apply Drawn0.step)); done)); rintro e w13 ⟨rfl, hb⟩; refine ⟨_, rfl, ?_⟩; have n0_ := Aside0.mk (below_step (by repeat (first | (with_reducible first | exact HB.out | apply below_alloc | apply pw_below_drewN | apply below_drew1) | exact HB.out)) hb); clear HB; have HB := n0_; clear n0_; (try clear hb); (try clear hb2); (try clear hk); (try clear hi)))
                go_ret2
                exact ⟨by first | rfl | (simp [errW_none, errW_some] <;> rfl) | (simp [*, errW_none, errW_some] <;> rfl), by repeat (first | (with_reducible first | exact HB.out | apply below_alloc | apply pw_below_drewN | apply below_drew1) | exact HB.out)⟩
            · replace c9 := Bool.eq_false_iff.mpr c9
              subst c9
              have H1 : (some ((⟨#[]⟩ : ByteArray), false)) = some (r1, r2) := by rw [if_neg (show ¬ (false = true) by decide)] at H; exact H
              clear H
              have H := H1
              clear H1
              simp only [Option.some.injEq, Prod.mk.injEq] at H
              obtain ⟨rfl, rfl⟩ := H
              go_wp2_with (first | ((with_reducible refine gate_callee (f := 114) rfl ?_); refine goesL_ (some 17) rfl rfl Tryd.func114 (by kernel_rfl) rfl #[.string x0_1, .string (⟨#[38]⟩ : ByteArray)] rfl (by (try simp only [List.map_toArray, List.map_cons, List.map_nil]); first | done | rfl | (simp only [List.length_drop, List.length_take]; rfl) | (simp only [ByteArray.extract_zero_size]; rfl)) ?_; (with_reducible refine (strings_Cut.calls x0_1 (⟨#[38]⟩ : ByteArray) t126 t127 true _ A4.out ?side99).mono ?_); (case side99 => first | exact hG | (refine GOK_below hG ?_; (repeat (first | (with_reducible first | exact HB.out | apply below_alloc | apply pw_below_drewN | apply below_drew1) | exact HB.out)); done) | (refine GOK_drawn hG ?_; (repeat (first | exact Drawn0.refl _ | apply Drawn0.step)); done)); rintro e w' ⟨rfl, ⟨nd, rfl⟩⟩; refine ⟨_, rfl, ?_⟩) | ((with_reducible refine gate_callee (f := 114) rfl ?_); refine goesL_ (some 29) rfl rfl Tryd.func114 (by kernel_rfl) rfl #[.string t127, .string (⟨#[59]⟩ : ByteArray)] rfl (by (try simp only [List.map_toArray, List.map_cons, List.map_nil]); first | done | rfl | (simp only [List.length_drop, List.length_take]; rfl) | (simp only [ByteArray.extract_zero_size]; rfl)) ?_; (with_reducible refine (strings_Cut.calls t127 (⟨#[59]⟩ : ByteArray) t129 t130 false _ A7.out ?side99).mono ?_); (case side99 => first | exact hG | (refine GOK_below hG ?_; (repeat (first | (with_reducible first | exact HB.out | apply below_alloc | apply pw_below_drewN | apply below_drew1) | exact HB.out)); done) | (refine GOK_drawn hG ?_; (repeat (first | exact Drawn0.refl _ | apply Drawn0.step)); done)); rintro e w' ⟨rfl, ⟨nd, rfl⟩⟩; refine ⟨_, rfl, ?_⟩) | ((with_reducible refine gate_callee (f := 115) rfl ?_); refine goesL_ (some 35) rfl rfl Tryd.func115 (by kernel_rfl) rfl #[.string t129] rfl (by (try simp only [List.map_toArray, List.map_cons, List.map_nil]); first | done | rfl | (simp only [List.length_drop, List.length_take]; rfl) | (simp only [ByteArray.extract_zero_size]; rfl)) ?_; (with_reducible refine (impl_named.calls t129 t132 t133 _ A8.out ?side99).mono ?_); (case side99 => first | exact hG | (refine GOK_below hG ?_; (repeat (first | (with_reducible first | exact HB.out | apply below_alloc | apply pw_below_drewN | apply below_drew1) | exact HB.out)); done) | (refine GOK_drawn hG ?_; (repeat (first | exact Drawn0.refl _ | apply Drawn0.step)); done)); rintro e w14 ⟨rfl, hb⟩; refine ⟨_, rfl, ?_⟩; have n0_ := Aside0.mk (below_step (by repeat (first | (with_reducible first | exact HB.out | apply below_alloc | apply pw_below_drewN | apply below_drew1) | exact HB.out)) hb); clear HB; have HB := n0_; clear n0_; (try clear hb); (try clear hb2); (try clear hk); (try clear hi)))
              go_ret2
              exact ⟨by first | rfl | (simp [errW_none, errW_some] <;> rfl) | (simp [*, errW_none, errW_some] <;> rfl), by repeat (first | (with_reducible first | exact HB.out | apply below_alloc | apply pw_below_drewN | apply below_drew1) | exact HB.out)⟩
          · replace c6 := Bool.eq_false_iff.mpr c6
            subst c6
            have H1 : (some (x4_1 ++ t126, true)) = some (r1, r2) := by rw [if_neg (show ¬ (false = true) by decide)] at H; exact H
            clear H
            have H := H1
            clear H1
            simp only [Option.some.injEq, Prod.mk.injEq] at H
            obtain ⟨rfl, rfl⟩ := H
            go_wp2_with (first | ((with_reducible refine gate_callee (f := 114) rfl ?_); refine goesL_ (some 17) rfl rfl Tryd.func114 (by kernel_rfl) rfl #[.string x0_1, .string (⟨#[38]⟩ : ByteArray)] rfl (by (try simp only [List.map_toArray, List.map_cons, List.map_nil]); first | done | rfl | (simp only [List.length_drop, List.length_take]; rfl) | (simp only [ByteArray.extract_zero_size]; rfl)) ?_; (with_reducible refine (strings_Cut.calls x0_1 (⟨#[38]⟩ : ByteArray) t126 t127 false _ A4.out ?side99).mono ?_); (case side99 => first | exact hG | (refine GOK_below hG ?_; (repeat (first | (with_reducible first | exact HB.out | apply below_alloc | apply pw_below_drewN | apply below_drew1) | exact HB.out)); done) | (refine GOK_drawn hG ?_; (repeat (first | exact Drawn0.refl _ | apply Drawn0.step)); done)); rintro e w' ⟨rfl, ⟨nd, rfl⟩⟩; refine ⟨_, rfl, ?_⟩))
            go_ret2
            exact ⟨by first | rfl | (simp [errW_none, errW_some] <;> rfl) | (simp [*, errW_none, errW_some] <;> rfl), by repeat (first | (with_reducible first | exact HB.out | apply below_alloc | apply pw_below_drewN | apply below_drew1) | exact HB.out)⟩
        · rw [if_neg c5] at H
          exact absurd H (by simp)

/-! ### laws_FnExactUnescape: function 9 -/
def laws_FnExactUnescape.f (k : Nat) (a0 : ByteArray) : Option (Bool) := if (a0.size : Int) > 1048576 then (some true) else ((spec_Unescape.f k a0).bind fun bt134 => ((impl_Unescape.f k a0).bind fun bt136 => (if bt136.1.toList = bt134.1.toList then (if (bt136.2 != bt134.2) = true then (some false) else (some true)) else (some false))))

set_option maxHeartbeats 8000000 in
set_option maxRecDepth 100000 in
theorem laws_FnExactUnescape.calls (k : Nat) (a0 : ByteArray) (w : World) (h : laws_FnExactUnescape.f k a0 = some true) (hG : GOK w) :
    Calls Tryd.prog 9 #[.string a0] w fun e w' => e = .returned (.bool true) ∧ Below w.heap.size w w' := by
  have HB := Aside0.mk (Below.refl w.heap.size w)
  have H : (if (a0.size : Int) > 1048576 then (some true) else ((spec_Unescape.f k a0).bind fun bt134 => ((impl_Unescape.f k a0).bind fun bt136 => (if bt136.1.toList = bt134.1.toList then (if (bt136.2 != bt134.2) = true then (some false) else (some true)) else (some false))))) = some true := h
  clear h
  by_cases c2 : (a0.size : Int) > 1048576
  · rw [if_pos c2] at H
    have c2b0 : decide (1048576 < (a0.size : Int)) = true := decide_eq_true c2
    have c2b1 : decide (1048576 < a0.size) = true := decide_eq_true (by omega)
    clear c2
    skip
    go_enter Tryd.func9, Tryd.ntmps9
    go_wp2
    go_ret
    exact ⟨by first | rfl | (simp [errW_none, errW_some] <;> rfl) | (simp [*, errW_none, errW_some] <;> rfl), by repeat (first | (with_reducible first | exact HB.out | apply below_alloc | apply pw_below_drewN | apply below_drew1) | exact HB.out)⟩
  · rw [if_neg c2] at H
    have c2b0 : decide (1048576 < (a0.size : Int)) = false := decide_eq_false c2
    have c2b1 : decide (1048576 < a0.size) = false := decide_eq_false (by omega)
    clear c2
    replace H := Option.bind_eq_some_iff.mp H
    obtain ⟨⟨t134, t135⟩, A30, H⟩ := H
    replace H : ((impl_Unescape.f k a0).bind fun bt136 => (if bt136.1.toList = t134.toList then (if (bt136.2 != t135) = true then (some false) else (some true)) else (some false))) = some true := H
    have A3 := Aside0.mk A30
    clear A30
    replace H := Option.bind_eq_some_iff.mp H
    obtain ⟨⟨t136, t137⟩, A40, H⟩ := H
    replace H : (if t136.toList = t134.toList then (if (t137 != t135) = true then (some false) else (some true)) else (some false)) = some true := H
    have A4 := Aside0.mk A40
    clear A40
    by_cases c5 : t136.toList = t134.toList
    · rw [if_pos c5] at H
      have c5b0 : (t136.toList == t134.toList) = true := beq_iff_eq.mpr c5
      have c5b1 : (t136.toList != t134.toList) = false := bne_eq_false_iff_eq.mpr c5
      clear c5
      by_cases c6 : (t137 != t135) = true
      · rw [if_pos c6] at H
        have c6b0 : (t137 != t135) = true := c6
        (try (have c6b1 : decide (t137 = t135) = false := by simpa using c6))
        (try (have c6b2 : (t137 == t135) = false := by simpa using c6))
        (try (have c6b3 : ¬ (t137 = t135) := by simpa using c6))
        clear c6
        cases H
      · rw [if_neg c6] at H
        have c6b0 : (t137 != t135) = false := by simpa using c6
        (try (have c6b1 : decide (t137 = t135) = true := by simpa using c6))
        (try (have c6b2 : (t137 == t135) = true := by simpa using c6))
        clear c6
        skip
        go_enter Tryd.func9, Tryd.ntmps9
        go_wp2_with (first | ((with_reducible refine gate_callee (f := 47) rfl ?_); refine goesL_ (some 12) rfl rfl Tryd.func47 (by kernel_rfl) rfl #[.string a0] rfl (by (try simp only [List.map_toArray, List.map_cons, List.map_nil]); first | done | rfl | (simp only [List.length_drop, List.length_take]; rfl) | (simp only [ByteArray.extract_zero_size]; rfl)) ?_; (with_reducible refine (spec_Unescape.calls k a0 t134 t135 _ A3.out).mono ?_); rintro e w9 ⟨rfl, hb⟩; refine ⟨_, rfl, ?_⟩; have n0_ := Aside0.mk (below_step (by repeat (first | (with_reducible first | exact HB.out | apply below_alloc | apply pw_below_drewN | apply below_drew1) | exact HB.out)) hb); clear HB; have HB := n0_; clear n0_; (try clear hb); (try clear hb2); (try clear hk); (try clear hi)) | ((with_reducible refine gate_callee (f := 48) rfl ?_); refine goesL_ (some 17) rfl rfl Tryd.func48 (by kernel_rfl) rfl #[.string a0] rfl (by (try simp only [List.map_toArray, List.map_cons, List.map_nil]); first | done | rfl | (simp only [List.length_drop, List.length_take]; rfl) | (simp only [ByteArray.extract_zero_size]; rfl)) ?_; (with_reducible refine (impl_Unescape.calls k a0 t136 t137 _ A4.out ?side99).mono ?_); (case side99 => first | exact hG | (refine GOK_below hG ?_; (repeat (first | (with_reducible first | exact HB.out | apply below_alloc | apply pw_below_drewN | apply below_drew1) | exact HB.out)); done) | (refine GOK_drawn hG ?_; (repeat (first | exact Drawn0.refl _ | apply Drawn0.step)); done)); rintro e w10 ⟨rfl, hb⟩; refine ⟨_, rfl, ?_⟩; have n0_ := Aside0.mk (below_step (by repeat (first | (with_reducible first | exact HB.out | apply below_alloc | apply pw_below_drewN | apply below_drew1) | exact HB.out)) hb); clear HB; have HB := n0_; clear n0_; (try clear hb); (try clear hb2); (try clear hk); (try clear hi)))
        go_ret
        exact ⟨by first | rfl | (simp [errW_none, errW_some] <;> rfl) | (simp [*, errW_none, errW_some] <;> rfl), by repeat (first | (with_reducible first | exact HB.out | apply below_alloc | apply pw_below_drewN | apply below_drew1) | exact HB.out)⟩
    · rw [if_neg c5] at H
      have c5b0 : (t136.toList == t134.toList) = false := beq_eq_false_iff_ne.mpr c5
      have c5b1 : (t136.toList != t134.toList) = true := bne_iff_ne.mpr c5
      cases H


/-- THE ONE PURE STATEMENT of laws_FnExactUnescape: yours. -/
def laws_FnExactUnescape.Pure : Prop := ∀ (a0 : ByteArray), a0.size ≤ 140737488351232 → ∃ k, laws_FnExactUnescape.f k a0 = some true
theorem laws_FnExactUnescape.walk (P : laws_FnExactUnescape.Pure) (a0 : ByteArray) (w : World) (w0 : a0.size ≤ 140737488351232) (hG : GOK w) :
    Calls Tryd.prog 9 #[.string a0] w fun e w' => e = .returned (.bool true) ∧ Below w.heap.size w w' := by
  obtain ⟨k, h⟩ := P a0 w0
  refine (laws_FnExactUnescape.calls k a0 w h hG).mono ?_
  rintro e w' ⟨rfl, hd⟩
  exact ⟨rfl, hd⟩

end Go.Proofs.YtgfpiijpgpkoiabDoor.GFnExactUnescape
