-- by gprint.py (this session's program over the kit's print.py) (a twelfth state) out of the translation. Not trusted: Lean checks it.
import Derived.Test.YtaajhdljdmbhhaaGFnExactKidOfx0
import Derived.Test.YtaajhdljdmbhhaaGFnExactKidOfx1
import Derived.Test.YtaajhdljdmbhhaaGFnExactKidOfx2
import Derived.Test.YtaajhdljdmbhhaaGFnExactKidOfx3
namespace Go.Proofs.Ytaajhdljdmbhhaa.GFnExactKidOf
open Go.RowKit Go.Proofs.YtaajhdljdmbhhaaW.PrintWords Go.Proofs.YtaajhdljdmbhhaaW.PrintLast Go.Proofs.YtaajhdljdmbhhaaW.PrintMore
attribute [local go_sem] max2_int min2_int max_two min_two max_three min_three max_four min_four   -- for this text's walks alone
set_option linter.unusedVariables false
set_option linter.unusedSimpArgs false

/-! ### laws_FnExactKidOf: function 3 -/
mutual
def laws_FnExactKidOf.j0 : Nat → ByteArray → ByteArray → Bool → Bool → Bool → ByteArray → ByteArray → ByteArray → List (S24) → ByteArray → ByteArray → ByteArray → List (S28) → ByteArray → ByteArray → ByteArray → List (S28) → ByteArray → ByteArray → ByteArray → List (S28) → Option (Bool)
  | 0, _, _, _, _, _, _, _, _, _, _, _, _, _, _, _, _, _, _, _, _, _ => none
  | k + 1, x1, x2, x9, x12, x54, x193000, x193001, x193002, x193003, x208000, x208001, x208002, x208003, x215000, x215001, x215002, x215003, x223000, x223001, x223002, x223003 => if x54 = true then (some false) else ((laws_toNode.f k x193000 x193001 x193002 x193003).bind fun bt224 => ((laws_eqNode.f k x215000 x215001 x215002 x215003 bt224.1 bt224.2.1 bt224.2.2.1 bt224.2.2.2).bind fun t230 => (if t230 = true then ((laws_markNode.f k x215000 x215001 x215002 x215003 1).bind fun bt231 => (if bt231.1 < 0 then (laws_FnExactKidOf.j1 k x1 x2 x9 true x193000 x193001 x193002 x193003 x208000 x208001 x208002 x208003 x223000 x223001 x223002 x223003) else ((laws_eqNode.f k x223000 x223001 x223002 x223003 x208000 x208001 x208002 x208003).bind fun t233 => (if t233 = true then (laws_FnExactKidOf.j1 k x1 x2 x9 (x12 != x9) x193000 x193001 x193002 x193003 x208000 x208001 x208002 x208003 x223000 x223001 x223002 x223003) else (laws_FnExactKidOf.j1 k x1 x2 x9 true x193000 x193001 x193002 x193003 x208000 x208001 x208002 x208003 x223000 x223001 x223002 x223003))))) else (some false))))
def laws_FnExactKidOf.j1 : Nat → ByteArray → ByteArray → Bool → Bool → ByteArray → ByteArray → ByteArray → List (S24) → ByteArray → ByteArray → ByteArray → List (S28) → ByteArray → ByteArray → ByteArray → List (S28) → Option (Bool)
  | 0, _, _, _, _, _, _, _, _, _, _, _, _, _, _, _, _ => none
  | k + 1, x1, x2, x9, x75, x193000, x193001, x193002, x193003, x208000, x208001, x208002, x208003, x223000, x223001, x223002, x223003 => if x75 = true then (some false) else ((laws_markNode.f k x223000 x223001 x223002 x223003 1).bind fun bt234 => ((laws_heldNode.f k x223000 x223001 x223002 bt234.2 1).bind fun t236 => (if t236 < 0 then (some false) else (if t236 = bt234.1 then ((laws_toNode.f k x193000 x193001 x193002 x193003).bind fun bt237 => ((impl_KidOf.f k bt237.1 bt237.2.1 bt237.2.2.1 bt237.2.2.2 x1 x2).bind fun bt243 => ((laws_eqNode.f k bt243.1 bt243.2.1 bt243.2.2.1 bt243.2.2.2.1 x208000 x208001 x208002 x208003).bind fun t251 => (if t251 = true then (laws_FnExactKidOf.j2 k bt234.1 (bt243.2.2.2.2 != x9) x223000 x223001 x223002 bt234.2) else (laws_FnExactKidOf.j2 k bt234.1 true x223000 x223001 x223002 bt234.2))))) else (some false)))))
def laws_FnExactKidOf.j2 : Nat → Int → Bool → ByteArray → ByteArray → ByteArray → List (S28) → Option (Bool)
  | 0, _, _, _, _, _, _ => none
  | k + 1, x14, x103, x223000, x223001, x223002, x223003 => if x103 = true then (some false) else ((laws_heldNode.f k x223000 x223001 x223002 x223003 1).bind fun t252 => (if t252 < 0 then (some false) else (if t252 = x14 then (some true) else (some false))))
end
def laws_FnExactKidOf.f (k : Nat) (a0_0 : ByteArray) (a0_1 : ByteArray) (a0_2 : ByteArray) (l0_3 : List (S24)) (a1 : ByteArray) (a2 : ByteArray) : Option (Bool) := if (a1.size : Int) > 1048576 then (some true) else (if (a2.size : Int) > 1048576 then (some true) else ((laws_szNode.f k a0_0 a0_1 a0_2 l0_3 1048576).bind fun t193 => (if t193 < 0 then (some true) else ((laws_toNode.f k a0_0 a0_1 a0_2 l0_3).bind fun bt194 => ((spec_KidOf.f k bt194.1 bt194.2.1 bt194.2.2.1 bt194.2.2.2 a1 a2).bind fun bt200 => ((laws_toNode.f k a0_0 a0_1 a0_2 l0_3).bind fun bt208 => ((impl_KidOf.f k bt208.1 bt208.2.1 bt208.2.2.1 bt208.2.2.2 a1 a2).bind fun bt215 => ((laws_eqNode.f k bt215.1 bt215.2.1 bt215.2.2.1 bt215.2.2.2.1 bt200.1 bt200.2.1 bt200.2.2.1 bt200.2.2.2.1).bind fun t223 => (if t223 = true then (laws_FnExactKidOf.j0 k a1 a2 bt200.2.2.2.2 bt215.2.2.2.2 (bt215.2.2.2.2 != bt200.2.2.2.2) a0_0 a0_1 a0_2 l0_3 bt200.1 bt200.2.1 bt200.2.2.1 bt200.2.2.2.1 bt208.1 bt208.2.1 bt208.2.2.1 bt208.2.2.2 bt215.1 bt215.2.1 bt215.2.2.1 bt215.2.2.2.1) else (laws_FnExactKidOf.j0 k a1 a2 bt200.2.2.2.2 bt215.2.2.2.2 true a0_0 a0_1 a0_2 l0_3 bt200.1 bt200.2.1 bt200.2.2.1 bt200.2.2.2.1 bt208.1 bt208.2.1 bt208.2.2.1 bt208.2.2.2 bt215.1 bt215.2.1 bt215.2.2.1 bt215.2.2.2.1))))))))))

theorem laws_FnExactKidOf.j0_true : ∀ k y0 y1 y2 y3 y5 y6 y7 y8 y9 y10 y11 y12 y13 y14 y15 y16 y17 y18 y19 y20, ¬ (laws_FnExactKidOf.j0 k y0 y1 y2 y3 true y5 y6 y7 y8 y9 y10 y11 y12 y13 y14 y15 y16 y17 y18 y19 y20 = some true) := by
  intro k y0 y1 y2 y3 y5 y6 y7 y8 y9 y10 y11 y12 y13 y14 y15 y16 y17 y18 y19 y20
  cases k <;> simp [laws_FnExactKidOf.j0]
theorem laws_FnExactKidOf.j1_true : ∀ k y0 y1 y2 y4 y5 y6 y7 y8 y9 y10 y11 y12 y13 y14 y15, ¬ (laws_FnExactKidOf.j1 k y0 y1 y2 true y4 y5 y6 y7 y8 y9 y10 y11 y12 y13 y14 y15 = some true) := by
  intro k y0 y1 y2 y4 y5 y6 y7 y8 y9 y10 y11 y12 y13 y14 y15
  cases k <;> simp [laws_FnExactKidOf.j1]
theorem laws_FnExactKidOf.j2_true : ∀ k y0 y2 y3 y4 y5, ¬ (laws_FnExactKidOf.j2 k y0 true y2 y3 y4 y5 = some true) := by
  intro k y0 y2 y3 y4 y5
  cases k <;> simp [laws_FnExactKidOf.j2]
set_option maxHeartbeats 8000000 in
set_option maxRecDepth 100000 in
theorem laws_FnExactKidOf.calls (k : Nat) (a0_0 : ByteArray) (a0_1 : ByteArray) (a0_2 : ByteArray) (A0_3 : Option Addr) (c0_3 : Nat) (l0_3 : List (S24)) (a1 : ByteArray) (a2 : ByteArray) (w : World) (hr0_3 : Kd.C k24 w A0_3 l0_3.length l0_3) (hc0_3 : l0_3.length ≤ c0_3) (h : laws_FnExactKidOf.f k a0_0 a0_1 a0_2 l0_3 a1 a2 = some true) :
    Calls Try.prog 3 #[.agg #[.string a0_0, .string a0_1, .string a0_2, .slice A0_3 l0_3.length c0_3], .string a1, .string a2] w fun e w' => e = .returned (.bool true) ∧ Below w.heap.size w w' := by
  have hu24 := Try.underlying24
  have hu28 := Try.underlying28
  have HR0_3 := Aside0.mk hr0_3
  have HC0_3 := Aside0.mk hc0_3
  clear hr0_3 hc0_3
  have HB := Aside0.mk (Below.refl w.heap.size w)
  have H : (if (a1.size : Int) > 1048576 then (some true) else (if (a2.size : Int) > 1048576 then (some true) else ((laws_szNode.f k a0_0 a0_1 a0_2 l0_3 1048576).bind fun t193 => (if t193 < 0 then (some true) else ((laws_toNode.f k a0_0 a0_1 a0_2 l0_3).bind fun bt194 => ((spec_KidOf.f k bt194.1 bt194.2.1 bt194.2.2.1 bt194.2.2.2 a1 a2).bind fun bt200 => ((laws_toNode.f k a0_0 a0_1 a0_2 l0_3).bind fun bt208 => ((impl_KidOf.f k bt208.1 bt208.2.1 bt208.2.2.1 bt208.2.2.2 a1 a2).bind fun bt215 => ((laws_eqNode.f k bt215.1 bt215.2.1 bt215.2.2.1 bt215.2.2.2.1 bt200.1 bt200.2.1 bt200.2.2.1 bt200.2.2.2.1).bind fun t223 => (if t223 = true then (laws_FnExactKidOf.j0 k a1 a2 bt200.2.2.2.2 bt215.2.2.2.2 (bt215.2.2.2.2 != bt200.2.2.2.2) a0_0 a0_1 a0_2 l0_3 bt200.1 bt200.2.1 bt200.2.2.1 bt200.2.2.2.1 bt208.1 bt208.2.1 bt208.2.2.1 bt208.2.2.2 bt215.1 bt215.2.1 bt215.2.2.1 bt215.2.2.2.1) else (laws_FnExactKidOf.j0 k a1 a2 bt200.2.2.2.2 bt215.2.2.2.2 true a0_0 a0_1 a0_2 l0_3 bt200.1 bt200.2.1 bt200.2.2.1 bt200.2.2.2.1 bt208.1 bt208.2.1 bt208.2.2.1 bt208.2.2.2 bt215.1 bt215.2.1 bt215.2.2.1 bt215.2.2.2.1))))))))))) = some true := h
  clear h
  have HC4 := Aside0.mk H
  clear H
  go_enter Try.func3, Try.ntmps3
  go_upto_if 20 with (first | ((with_reducible refine gate_dst (N := 3) rfl ?_); refine box_event ?hg (N := 3) ?hd (cs := #[.string a0_0, .string a0_1, .string a0_2, .slice A0_3 l0_3.length c0_3]) (t := 24) ?hr ?_; (case hd => rfl); (case hg => rfl); (case hr => first | (go_simp; done) | (go_simp; rfl)); intro gb192 hg w5 hbox hb; have n0_ := Aside0.mk (below_step (by repeat (first | (with_reducible first | exact HB.out | apply below_alloc | apply pw_below_drewN | apply below_drew1) | exact HB.out)) hb); have n1_ := Aside0.mk (hbox); have n2_ := Aside0.mk ((by rw [hg]; exact (below_size (by repeat (first | (with_reducible first | exact HB.out | apply below_alloc | apply pw_below_drewN | apply below_drew1) | exact HB.out))) : w.heap.size ≤ gb192)); have n3_ := Aside0.mk ((by rw [hg]; exact (below_size (by repeat (first | (with_reducible first | exact HB.out | apply below_alloc | apply pw_below_drewN | apply below_drew1) | exact HB.out))) : w.heap.size ≤ gb192)); clear HB; have HB := n0_; have BK192 := n1_; have GW192 := n2_; have GE192 := n3_; clear n0_ n1_ n2_ n3_; clear hb hbox hg))
  (try simp only [Act.put, List.setIfInBounds_toArray, List.set_cons_zero, List.set_cons_succ])
  have H := HC4.out
  clear HC4
  by_cases c6 : (a1.size : Int) > 1048576
  · rw [if_pos c6] at H
    have c6b0 : decide (1048576 < (a1.size : Int)) = true := decide_eq_true c6
    have c6b1 : decide (1048576 < a1.size) = true := decide_eq_true (by omega)
    clear c6
    (first | rw [c6b0] | rw [c6i0] | rw [c6b1] | (simp only [i64_w, i32_w]; rw [c6b0]) | skip)
    have hr_ := Aside0.mk (Option.some.inj H); clear H
    go_wp2
    go_ret
    exact ⟨by first | rfl | exact absurd hr_.out (by decide) | (have h_ := hr_.out; first | (subst h_; rfl) | (rw [h_]; done) | (simp only [h_]; done) | (simp at h_ ⊢; exact h_) | (simp at h_ ⊢; omega)) | (simp [errW_none, errW_some] <;> rfl) | (simp [*, errW_none, errW_some] <;> rfl), by repeat (first | (with_reducible first | exact HB.out | apply below_alloc | apply pw_below_drewN | apply below_drew1 | refine below_set ?_ GE192.out) | exact HB.out)⟩
  · rw [if_neg c6] at H
    have c6b0 : decide (1048576 < (a1.size : Int)) = false := decide_eq_false c6
    have c6b1 : decide (1048576 < a1.size) = false := decide_eq_false (by omega)
    clear c6
    (first | rw [c6b0] | rw [c6i0] | rw [c6b1] | (simp only [i64_w, i32_w]; rw [c6b0]) | skip)
    by_cases c7 : (a2.size : Int) > 1048576
    · rw [if_pos c7] at H
      have c7b0 : decide (1048576 < (a2.size : Int)) = true := decide_eq_true c7
      have c7b1 : decide (1048576 < a2.size) = true := decide_eq_true (by omega)
      clear c7
      have hr_ := Aside0.mk (Option.some.inj H); clear H
      go_wp2
      go_ret
      exact ⟨by first | rfl | exact absurd hr_.out (by decide) | (have h_ := hr_.out; first | (subst h_; rfl) | (rw [h_]; done) | (simp only [h_]; done) | (simp at h_ ⊢; exact h_) | (simp at h_ ⊢; omega)) | (simp [errW_none, errW_some] <;> rfl) | (simp [*, errW_none, errW_some] <;> rfl), by repeat (first | (with_reducible first | exact HB.out | apply below_alloc | apply pw_below_drewN | apply below_drew1 | refine below_set ?_ GE192.out) | exact HB.out)⟩
    · rw [if_neg c7] at H
      have c7b0 : decide (1048576 < (a2.size : Int)) = false := decide_eq_false c7
      have c7b1 : decide (1048576 < a2.size) = false := decide_eq_false (by omega)
      clear c7
      replace H := Option.bind_eq_some_iff.mp H
      obtain ⟨t193, A80, H⟩ := H
      replace H : (if t193 < 0 then (some true) else ((laws_toNode.f k a0_0 a0_1 a0_2 l0_3).bind fun bt194 => ((spec_KidOf.f k bt194.1 bt194.2.1 bt194.2.2.1 bt194.2.2.2 a1 a2).bind fun bt200 => ((laws_toNode.f k a0_0 a0_1 a0_2 l0_3).bind fun bt208 => ((impl_KidOf.f k bt208.1 bt208.2.1 bt208.2.2.1 bt208.2.2.2 a1 a2).bind fun bt215 => ((laws_eqNode.f k bt215.1 bt215.2.1 bt215.2.2.1 bt215.2.2.2.1 bt200.1 bt200.2.1 bt200.2.2.1 bt200.2.2.2.1).bind fun t223 => (if t223 = true then (laws_FnExactKidOf.j0 k a1 a2 bt200.2.2.2.2 bt215.2.2.2.2 (bt215.2.2.2.2 != bt200.2.2.2.2) a0_0 a0_1 a0_2 l0_3 bt200.1 bt200.2.1 bt200.2.2.1 bt200.2.2.2.1 bt208.1 bt208.2.1 bt208.2.2.1 bt208.2.2.2 bt215.1 bt215.2.1 bt215.2.2.1 bt215.2.2.2.1) else (laws_FnExactKidOf.j0 k a1 a2 bt200.2.2.2.2 bt215.2.2.2.2 true a0_0 a0_1 a0_2 l0_3 bt200.1 bt200.2.1 bt200.2.2.1 bt200.2.2.2.1 bt208.1 bt208.2.1 bt208.2.2.1 bt208.2.2.2 bt215.1 bt215.2.1 bt215.2.2.1 bt215.2.2.2.1)))))))) = some true := H
      have A8 := Aside0.mk A80
      clear A80
      have HC9 := Aside0.mk H
      clear H
      have hcz10_0 : w5.cell? ⟨gb192, 0, none⟩ = some (.string a0_0) := (blk_cell BK192.out 0).trans rfl
      have hcz10_1 : w5.cell? ⟨gb192, 1, none⟩ = some (.string a0_1) := (blk_cell BK192.out 1).trans rfl
      have hcz10_2 : w5.cell? ⟨gb192, 2, none⟩ = some (.string a0_2) := (blk_cell BK192.out 2).trans rfl
      have hcz10_3 : w5.cell? ⟨gb192, 3, none⟩ = some (.slice A0_3 l0_3.length c0_3) := (blk_cell BK192.out 3).trans rfl
      have hfz10_0 := blk_frozen BK192.out 0
      have hfz10_1 := blk_frozen BK192.out 1
      have hfz10_2 := blk_frozen BK192.out 2
      have hfz10_3 := blk_frozen BK192.out 3
      go_upto_if 28 with (first | ((with_reducible refine gate_callee (f := 4) rfl ?_); refine goesL_ (some 26) rfl rfl Try.func4 (by kernel_rfl) rfl #[.agg #[.string a0_0, .string a0_1, .string a0_2, .slice A0_3 l0_3.length c0_3], .int .i64 1048576] rfl (by (try simp only [List.map_toArray, List.map_cons, List.map_nil]); first | done | rfl | (simp only [List.length_drop, List.length_take]; rfl)) ?_; (with_reducible refine (laws_szNode.calls k a0_0 a0_1 a0_2 _ _ l0_3 1048576 t193 _ ?side1 ?side2 A8.out).mono ?_); (case side1 => repeat (first | exact (Kd.C_below HR0_3.out HB.out) | (with_reducible refine Kd.C_alloc ?_ _) | (with_reducible refine Kd.C_drewN ?_ _) | (with_reducible refine Kd.C_drew ?_))); (case side2 => exact HC0_3.out); rintro e w11 ⟨rfl, hb⟩; refine ⟨_, rfl, ?_⟩; have n0_ := Aside0.mk (blk_below (g := gb192) (o := .cells #[.string a0_0, .string a0_1, .string a0_2, .slice A0_3 l0_3.length c0_3] 24 (0, 0)) (by (with_reducible repeat (first | refine blk_drewN ?_ _ | refine blk_drew ?_ | refine blk_alloc ?_ _)); exact BK192.out) hb); have n1_ := Aside0.mk (below_step (by repeat (first | (with_reducible first | exact HB.out | apply below_alloc | apply pw_below_drewN | apply below_drew1 | refine below_set ?_ GE192.out) | exact HB.out)) hb); clear BK192; clear HB; have BK192 := n0_; have HB := n1_; clear n0_ n1_; (try clear hb); (try clear hb2); (try clear hk); (try clear hi)))
      (try simp only [Act.put, List.setIfInBounds_toArray, List.set_cons_zero, List.set_cons_succ])
      have H := HC9.out
      clear HC9
      by_cases c12 : t193 < 0
      · rw [if_pos c12] at H
        have c12b0 : decide (t193 < 0) = true := decide_eq_true c12
        clear c12
        (first | rw [c12b0] | rw [c12i0] | (simp only [i64_w, i32_w]; rw [c12b0]) | skip)
        have hr_ := Aside0.mk (Option.some.inj H); clear H
        go_wp2
        go_ret
        exact ⟨by first | rfl | exact absurd hr_.out (by decide) | (have h_ := hr_.out; first | (subst h_; rfl) | (rw [h_]; done) | (simp only [h_]; done) | (simp at h_ ⊢; exact h_) | (simp at h_ ⊢; omega)) | (simp [errW_none, errW_some] <;> rfl) | (simp [*, errW_none, errW_some] <;> rfl), by repeat (first | (with_reducible first | exact HB.out | apply below_alloc | apply pw_below_drewN | apply below_drew1 | refine below_set ?_ GE192.out) | exact HB.out)⟩
      · rw [if_neg c12] at H
        have c12b0 : decide (t193 < 0) = false := decide_eq_false c12
        clear c12
        (first | rw [c12b0] | rw [c12i0] | (simp only [i64_w, i32_w]; rw [c12b0]) | skip)
        replace H := Option.bind_eq_some_iff.mp H
        obtain ⟨⟨t194, t195, t196, t197⟩, A130, H⟩ := H
        replace H : ((spec_KidOf.f k t194 t195 t196 t197 a1 a2).bind fun bt200 => ((laws_toNode.f k a0_0 a0_1 a0_2 l0_3).bind fun bt208 => ((impl_KidOf.f k bt208.1 bt208.2.1 bt208.2.2.1 bt208.2.2.2 a1 a2).bind fun bt215 => ((laws_eqNode.f k bt215.1 bt215.2.1 bt215.2.2.1 bt215.2.2.2.1 bt200.1 bt200.2.1 bt200.2.2.1 bt200.2.2.2.1).bind fun t223 => (if t223 = true then (laws_FnExactKidOf.j0 k a1 a2 bt200.2.2.2.2 bt215.2.2.2.2 (bt215.2.2.2.2 != bt200.2.2.2.2) a0_0 a0_1 a0_2 l0_3 bt200.1 bt200.2.1 bt200.2.2.1 bt200.2.2.2.1 bt208.1 bt208.2.1 bt208.2.2.1 bt208.2.2.2 bt215.1 bt215.2.1 bt215.2.2.1 bt215.2.2.2.1) else (laws_FnExactKidOf.j0 k a1 a2 bt200.2.2.2.2 bt215.2.2.2.2 true a0_0 a0_1 a0_2 l0_3 bt200.1 bt200.2.1 bt200.2.2.1 bt200.2.2.2.1 bt208.1 bt208.2.1 bt208.2.2.1 bt208.2.2.2 bt215.1 bt215.2.1 bt215.2.2.1 bt215.2.2.2.1)))))) = some true := H
        have A13 := Aside0.mk A130
        clear A130
        replace H := Option.bind_eq_some_iff.mp H
        obtain ⟨⟨t200, t201, t202, t203, t206⟩, A140, H⟩ := H
        replace H : ((laws_toNode.f k a0_0 a0_1 a0_2 l0_3).bind fun bt208 => ((impl_KidOf.f k bt208.1 bt208.2.1 bt208.2.2.1 bt208.2.2.2 a1 a2).bind fun bt215 => ((laws_eqNode.f k bt215.1 bt215.2.1 bt215.2.2.1 bt215.2.2.2.1 t200 t201 t202 t203).bind fun t223 => (if t223 = true then (laws_FnExactKidOf.j0 k a1 a2 t206 bt215.2.2.2.2 (bt215.2.2.2.2 != t206) a0_0 a0_1 a0_2 l0_3 t200 t201 t202 t203 bt208.1 bt208.2.1 bt208.2.2.1 bt208.2.2.2 bt215.1 bt215.2.1 bt215.2.2.1 bt215.2.2.2.1) else (laws_FnExactKidOf.j0 k a1 a2 t206 bt215.2.2.2.2 true a0_0 a0_1 a0_2 l0_3 t200 t201 t202 t203 bt208.1 bt208.2.1 bt208.2.2.1 bt208.2.2.2 bt215.1 bt215.2.1 bt215.2.2.1 bt215.2.2.2.1))))) = some true := H
        have A14 := Aside0.mk A140
        clear A140
        replace H := Option.bind_eq_some_iff.mp H
        obtain ⟨⟨t208, t209, t210, t211⟩, A150, H⟩ := H
        replace H : ((impl_KidOf.f k t208 t209 t210 t211 a1 a2).bind fun bt215 => ((laws_eqNode.f k bt215.1 bt215.2.1 bt215.2.2.1 bt215.2.2.2.1 t200 t201 t202 t203).bind fun t223 => (if t223 = true then (laws_FnExactKidOf.j0 k a1 a2 t206 bt215.2.2.2.2 (bt215.2.2.2.2 != t206) a0_0 a0_1 a0_2 l0_3 t200 t201 t202 t203 t208 t209 t210 t211 bt215.1 bt215.2.1 bt215.2.2.1 bt215.2.2.2.1) else (laws_FnExactKidOf.j0 k a1 a2 t206 bt215.2.2.2.2 true a0_0 a0_1 a0_2 l0_3 t200 t201 t202 t203 t208 t209 t210 t211 bt215.1 bt215.2.1 bt215.2.2.1 bt215.2.2.2.1)))) = some true := H
        have A15 := Aside0.mk A150
        clear A150
        replace H := Option.bind_eq_some_iff.mp H
        obtain ⟨⟨t215, t216, t217, t218, t221⟩, A160, H⟩ := H
        replace H : ((laws_eqNode.f k t215 t216 t217 t218 t200 t201 t202 t203).bind fun t223 => (if t223 = true then (laws_FnExactKidOf.j0 k a1 a2 t206 t221 (t221 != t206) a0_0 a0_1 a0_2 l0_3 t200 t201 t202 t203 t208 t209 t210 t211 t215 t216 t217 t218) else (laws_FnExactKidOf.j0 k a1 a2 t206 t221 true a0_0 a0_1 a0_2 l0_3 t200 t201 t202 t203 t208 t209 t210 t211 t215 t216 t217 t218))) = some true := H
        have A16 := Aside0.mk A160
        clear A160
        have HC17 := Aside0.mk H
        clear H
        have hcz18_0 : w11.cell? ⟨gb192, 0, none⟩ = some (.string a0_0) := (blk_cell BK192.out 0).trans rfl
        have hcz18_1 : w11.cell? ⟨gb192, 1, none⟩ = some (.string a0_1) := (blk_cell BK192.out 1).trans rfl
        have hcz18_2 : w11.cell? ⟨gb192, 2, none⟩ = some (.string a0_2) := (blk_cell BK192.out 2).trans rfl
        have hcz18_3 : w11.cell? ⟨gb192, 3, none⟩ = some (.slice A0_3 l0_3.length c0_3) := (blk_cell BK192.out 3).trans rfl
        have hfz18_0 := blk_frozen BK192.out 0
        have hfz18_1 := blk_frozen BK192.out 1
        have hfz18_2 := blk_frozen BK192.out 2
        have hfz18_3 := blk_frozen BK192.out 3
        go_upto_region 12 with (first | ((with_reducible refine gate_callee (f := 6) rfl ?_); refine goesL_ (some 31) rfl rfl Try.func6 (by kernel_rfl) rfl #[.agg #[.string a0_0, .string a0_1, .string a0_2, .slice A0_3 l0_3.length c0_3]] rfl (by (try simp only [List.map_toArray, List.map_cons, List.map_nil]); first | done | rfl | (simp only [List.length_drop, List.length_take]; rfl)) ?_; (with_reducible refine (laws_toNode.calls k a0_0 a0_1 a0_2 _ _ l0_3 t194 t195 t196 t197 _ ?side1 ?side2 A13.out).mono ?_); (case side1 => repeat (first | exact (Kd.C_below HR0_3.out HB.out) | (with_reducible refine Kd.C_alloc ?_ _) | (with_reducible refine Kd.C_drewN ?_ _) | (with_reducible refine Kd.C_drew ?_))); (case side2 => exact HC0_3.out); rintro e w19 ⟨v198, rfl, ho0, hb⟩; refine ⟨_, rfl, ?_⟩; have n0_ := Aside0.mk (Kd.S_lower ho0 (below_size (by repeat (first | (with_reducible first | exact HB.out | apply below_alloc | apply pw_below_drewN | apply below_drew1 | refine below_set ?_ GE192.out) | exact HB.out)))); have n1_ := Aside0.mk (blk_below (g := gb192) (o := .cells #[.string a0_0, .string a0_1, .string a0_2, .slice A0_3 l0_3.length c0_3] 24 (0, 0)) (by (with_reducible repeat (first | refine blk_drewN ?_ _ | refine blk_drew ?_ | refine blk_alloc ?_ _)); exact BK192.out) hb); have n2_ := Aside0.mk (below_step (by repeat (first | (with_reducible first | exact HB.out | apply below_alloc | apply pw_below_drewN | apply below_drew1 | refine below_set ?_ GE192.out) | exact HB.out)) hb); clear BK192; clear HB; have HO199 := n0_; have BK192 := n1_; have HB := n2_; clear n0_ n1_ n2_; (try clear hb); (try clear hb2); (try clear hk); (try clear hi); (try clear ho0); obtain ⟨Ao20, co20, eo20⟩ := Kd.S_slice HO199.out; subst eo20) | ((with_reducible refine gate_callee (f := 5) rfl ?_); refine goesL_ (some 34) rfl rfl Try.func5 (by kernel_rfl) rfl #[.agg #[.string t194, .string t195, .string t196, .slice Ao20 t197.length co20], .string a1, .string a2] rfl (by (try simp only [List.map_toArray, List.map_cons, List.map_nil]); first | done | rfl | (simp only [List.length_drop, List.length_take]; rfl)) ?_; (with_reducible refine (spec_KidOf.calls k t194 t195 t196 _ _ t197 a1 a2 t200 t201 t202 t203 t206 _ ?side1 ?side2 A14.out).mono ?_); (case side1 => repeat (first | exact (Kd.S_reads' HO199.out).2.2 | (with_reducible refine Kd.C_alloc ?_ _) | (with_reducible refine Kd.C_drewN ?_ _) | (with_reducible refine Kd.C_drew ?_))); (case side2 => exact (Kd.S_reads' HO199.out).2.1); rintro e w21 ⟨v204, rfl, ho0, hb⟩; refine ⟨_, rfl, ?_⟩; have n0_ := Aside0.mk (Kd.S_elder' (by (with_reducible repeat (first | apply Kd.S_alloc | apply Kd.S_drewN | apply Kd.S_drew)); exact HO199.out) (Kd.S_base ho0) hb); have n1_ := Aside0.mk (Kd.S_lower (Kd.S_new' ho0 (Kd.S_lt (by (with_reducible repeat (first | apply Kd.S_alloc | apply Kd.S_drewN | apply Kd.S_drew)); exact HO199.out))) (below_size (by repeat (first | (with_reducible first | exact HB.out | apply below_alloc | apply pw_below_drewN | apply below_drew1 | refine below_set ?_ GE192.out) | exact HB.out)))); have n2_ := Aside0.mk (blk_below (g := gb192) (o := .cells #[.string a0_0, .string a0_1, .string a0_2, .slice A0_3 l0_3.length c0_3] 24 (0, 0)) (by (with_reducible repeat (first | refine blk_drewN ?_ _ | refine blk_drew ?_ | refine blk_alloc ?_ _)); exact BK192.out) hb); have n3_ := Aside0.mk (below_step (by repeat (first | (with_reducible first | exact HB.out | apply below_alloc | apply pw_below_drewN | apply below_drew1 | refine below_set ?_ GE192.out) | exact HB.out)) hb); clear HO199; clear BK192; clear HB; have HO199 := n0_; have HO205 := n1_; have BK192 := n2_; have HB := n3_; clear n0_ n1_ n2_ n3_; (try clear hb); (try clear hb2); (try clear hk); (try clear hi); (try clear ho0)) | ((with_reducible refine gate_dst (N := 8) rfl ?_); refine box_event ?hg (N := 8) ?hd (cs := #[.string (⟨#[]⟩ : ByteArray), .string (⟨#[]⟩ : ByteArray), .string (⟨#[]⟩ : ByteArray), .slice none 0 0]) (t := 28) ?hr ?_; (case hd => rfl); (case hg => rfl); (case hr => first | (go_simp; done) | (go_simp; rfl)); intro gb207 hg w22 hbox hb; have n0_ := Aside0.mk (Kd.S_below (Kd.S_elderB (by (with_reducible repeat (first | apply Kd.S_alloc | apply Kd.S_drewN | apply Kd.S_drew)); exact HO199.out) gb207 (Nat.le_of_eq hg.symm)) hb); have n1_ := Aside0.mk (Kd.S_below (Kd.S_elderB (by (with_reducible repeat (first | apply Kd.S_alloc | apply Kd.S_drewN | apply Kd.S_drew)); exact HO205.out) gb207 (Nat.le_of_eq hg.symm)) hb); have n2_ := Aside0.mk (blk_below (g := gb192) (o := .cells #[.string a0_0, .string a0_1, .string a0_2, .slice A0_3 l0_3.length c0_3] 24 (0, 0)) (by (with_reducible repeat (first | refine blk_drewN ?_ _ | refine blk_drew ?_ | refine blk_alloc ?_ _)); exact BK192.out) hb); have n3_ := Aside0.mk (below_step (by repeat (first | (with_reducible first | exact HB.out | apply below_alloc | apply pw_below_drewN | apply below_drew1 | refine below_set ?_ GE192.out) | exact HB.out)) hb); have n4_ := Aside0.mk (hbox); have n5_ := Aside0.mk ((by rw [hg]; exact (below_size (by repeat (first | (with_reducible first | exact HB.out | apply below_alloc | apply pw_below_drewN | apply below_drew1 | refine below_set ?_ GE192.out) | exact HB.out))) : w.heap.size ≤ gb207)); have n6_ := Aside0.mk ((by rw [hg]; exact (below_size (by repeat (first | (with_reducible first | exact HB.out | apply below_alloc | apply pw_below_drewN | apply below_drew1 | refine below_set ?_ GE192.out) | exact HB.out))) : w.heap.size ≤ gb207)); have n7_ := Aside0.mk ((by rw [hg]; exact Nat.ne_of_lt (blk_lt (g := gb192) (o := .cells #[.string a0_0, .string a0_1, .string a0_2, .slice A0_3 l0_3.length c0_3] 24 (0, 0)) (by (with_reducible repeat (first | refine blk_drewN ?_ _ | refine blk_drew ?_ | refine blk_alloc ?_ _)); exact BK192.out)) : gb192 ≠ gb207)); have n8_ := Aside0.mk ((by rw [hg]; exact Nat.ne_of_gt (blk_lt (g := gb192) (o := .cells #[.string a0_0, .string a0_1, .string a0_2, .slice A0_3 l0_3.length c0_3] 24 (0, 0)) (by (with_reducible repeat (first | refine blk_drewN ?_ _ | refine blk_drew ?_ | refine blk_alloc ?_ _)); exact BK192.out)) : gb207 ≠ gb192)); clear HO199; clear HO205; clear BK192; clear HB; have HO199 := n0_; have HO205 := n1_; have BK192 := n2_; have HB := n3_; have BK207 := n4_; have GW207 := n5_; have GE207 := n6_; have NB192_207 := n7_; have NB207_192 := n8_; clear n0_ n1_ n2_ n3_ n4_ n5_ n6_ n7_ n8_; clear hb hbox hg; have hnb23 := NB207_192.out; have hnc23 := NB192_207.out; have hcz24_0 : w22.cell? ⟨gb207, 0, none⟩ = some (.string (⟨#[]⟩ : ByteArray)) := (blk_cell BK207.out 0).trans rfl; have hcz24_1 : w22.cell? ⟨gb207, 1, none⟩ = some (.string (⟨#[]⟩ : ByteArray)) := (blk_cell BK207.out 1).trans rfl; have hcz24_2 : w22.cell? ⟨gb207, 2, none⟩ = some (.string (⟨#[]⟩ : ByteArray)) := (blk_cell BK207.out 2).trans rfl; have hcz24_3 : w22.cell? ⟨gb207, 3, none⟩ = some (.slice none 0 0) := (blk_cell BK207.out 3).trans rfl; have hfz24_0 := blk_frozen BK207.out 0; have hfz24_1 := blk_frozen BK207.out 1; have hfz24_2 := blk_frozen BK207.out 2; have hfz24_3 := blk_frozen BK207.out 3; obtain ⟨Ao25, co25, eo25⟩ := Kd.S_slice HO205.out; subst eo25; have hcz26_0 : w22.cell? ⟨gb192, 0, none⟩ = some (.string a0_0) := (blk_cell BK192.out 0).trans rfl; have hcz26_1 : w22.cell? ⟨gb192, 1, none⟩ = some (.string a0_1) := (blk_cell BK192.out 1).trans rfl; have hcz26_2 : w22.cell? ⟨gb192, 2, none⟩ = some (.string a0_2) := (blk_cell BK192.out 2).trans rfl; have hcz26_3 : w22.cell? ⟨gb192, 3, none⟩ = some (.slice A0_3 l0_3.length c0_3) := (blk_cell BK192.out 3).trans rfl; have hfz26_0 := blk_frozen BK192.out 0; have hfz26_1 := blk_frozen BK192.out 1; have hfz26_2 := blk_frozen BK192.out 2; have hfz26_3 := blk_frozen BK192.out 3) | ((with_reducible refine gate_callee (f := 6) rfl ?_); refine goesL_ (some 38) rfl rfl Try.func6 (by kernel_rfl) rfl #[.agg #[.string a0_0, .string a0_1, .string a0_2, .slice A0_3 l0_3.length c0_3]] rfl (by (try simp only [List.map_toArray, List.map_cons, List.map_nil]); first | done | rfl | (simp only [List.length_drop, List.length_take]; rfl)) ?_; (with_reducible refine (laws_toNode.calls k a0_0 a0_1 a0_2 _ _ l0_3 t208 t209 t210 t211 _ ?side1 ?side2 A15.out).mono ?_); (case side1 => exact Kd.C_below HR0_3.out (by repeat (first | (with_reducible first | exact HB.out | apply below_alloc | apply pw_below_drewN | apply below_drew1 | refine below_set ?_ GE192.out | refine below_set ?_ GE207.out) | exact HB.out))); (case side2 => exact HC0_3.out); rintro e w27 ⟨v212, rfl, ho0, hb⟩; refine ⟨_, rfl, ?_⟩; obtain ⟨nb1_, hnb1_⟩ := Kd.nbOf hb; have HG192 := Aside0.mk (show gb192 < nb1_ by rw [hnb1_]; exact blk_lt (g := gb192) (o := .cells #[.string a0_0, .string a0_1, .string a0_2, .slice A0_3 l0_3.length c0_3] 24 (0, 0)) (by (with_reducible repeat (first | refine blk_drewN ?_ _ | refine blk_drew ?_ | refine blk_alloc ?_ _)); refine blk_far ?_ NB192_207.out _; (with_reducible repeat (first | refine blk_drewN ?_ _ | refine blk_drew ?_ | refine blk_alloc ?_ _)); refine blk_far ?_ NB192_207.out _; (with_reducible repeat (first | refine blk_drewN ?_ _ | refine blk_drew ?_ | refine blk_alloc ?_ _)); refine blk_far ?_ NB192_207.out _; (with_reducible repeat (first | refine blk_drewN ?_ _ | refine blk_drew ?_ | refine blk_alloc ?_ _)); refine blk_far ?_ NB192_207.out _; (with_reducible repeat (first | refine blk_drewN ?_ _ | refine blk_drew ?_ | refine blk_alloc ?_ _)); exact BK192.out)); have n0_ := Aside0.mk (Kd.S_elder' (by (with_reducible repeat (first | apply Kd.S_alloc | apply Kd.S_drewN | apply Kd.S_drew)); exact (Kd.S_mono (Kd.S_far (p := ⟨gb207, 3, none⟩) (Kd.S_far (p := ⟨gb207, 2, none⟩) (Kd.S_far (p := ⟨gb207, 1, none⟩) (Kd.S_far (p := ⟨gb207, 0, none⟩) (Kd.S_mono HO199.out (fun k_ hk => (⟨hk, hk.2⟩ : _ ∧ k_ ≠ gb207))) (fun _ hk => hk.2) (.string t200)) (fun _ hk => hk.2) (.string t201)) (fun _ hk => hk.2) (.string t202)) (fun _ hk => hk.2) (.slice Ao25 t203.length co25)) (fun _ h_ => h_.1))) (Kd.S_base ho0) hb); have n1_ := Aside0.mk (Kd.sOld (by (with_reducible repeat (first | apply Kd.S_alloc | apply Kd.S_drewN | apply Kd.S_drew)); exact (Kd.S_mono (Kd.S_far (p := ⟨gb207, 3, none⟩) (Kd.S_far (p := ⟨gb207, 2, none⟩) (Kd.S_far (p := ⟨gb207, 1, none⟩) (Kd.S_far (p := ⟨gb207, 0, none⟩) (Kd.S_mono HO205.out (fun k_ hk => (⟨hk, hk.2⟩ : _ ∧ k_ ≠ gb207))) (fun _ hk => hk.2) (.string t200)) (fun _ hk => hk.2) (.string t201)) (fun _ hk => hk.2) (.string t202)) (fun _ hk => hk.2) (.slice Ao25 t203.length co25)) (fun _ h_ => h_.1))) hb hnb1_); have n2_ := Aside0.mk (Kd.S_lower (Kd.S_newB (Kd.sNew (Kd.S_new' ho0 (Kd.S_lt (by (with_reducible repeat (first | apply Kd.S_alloc | apply Kd.S_drewN | apply Kd.S_drew)); exact (Kd.S_mono (Kd.S_far (p := ⟨gb207, 3, none⟩) (Kd.S_far (p := ⟨gb207, 2, none⟩) (Kd.S_far (p := ⟨gb207, 1, none⟩) (Kd.S_far (p := ⟨gb207, 0, none⟩) (Kd.S_mono HO199.out (fun k_ hk => (⟨hk, hk.2⟩ : _ ∧ k_ ≠ gb207))) (fun _ hk => hk.2) (.string t200)) (fun _ hk => hk.2) (.string t201)) (fun _ hk => hk.2) (.string t202)) (fun _ hk => hk.2) (.slice Ao25 t203.length co25)) (fun _ h_ => h_.1))))) hnb1_) (g := gb207) (o := .cells #[.string t200, .string t201, .string t202, .slice Ao25 t203.length co25] 28 (0, 0)) (by (with_reducible repeat (first | refine blk_drewN ?_ _ | refine blk_drew ?_ | refine blk_alloc ?_ _)); refine blk_put (cs := #[.string t200, .string t201, .string t202, .slice none 0 0]) ?_ 3 _ rfl; (with_reducible repeat (first | refine blk_drewN ?_ _ | refine blk_drew ?_ | refine blk_alloc ?_ _)); refine blk_put (cs := #[.string t200, .string t201, .string (⟨#[]⟩ : ByteArray), .slice none 0 0]) ?_ 2 _ rfl; (with_reducible repeat (first | refine blk_drewN ?_ _ | refine blk_drew ?_ | refine blk_alloc ?_ _)); refine blk_put (cs := #[.string t200, .string (⟨#[]⟩ : ByteArray), .string (⟨#[]⟩ : ByteArray), .slice none 0 0]) ?_ 1 _ rfl; (with_reducible repeat (first | refine blk_drewN ?_ _ | refine blk_drew ?_ | refine blk_alloc ?_ _)); refine blk_put (cs := #[.string (⟨#[]⟩ : ByteArray), .string (⟨#[]⟩ : ByteArray), .string (⟨#[]⟩ : ByteArray), .slice none 0 0]) ?_ 0 _ rfl; (with_reducible repeat (first | refine blk_drewN ?_ _ | refine blk_drew ?_ | refine blk_alloc ?_ _)); exact BK207.out)) (below_size (by repeat (first | (with_reducible first | exact HB.out | apply below_alloc | apply pw_below_drewN | apply below_drew1 | refine below_set ?_ GE192.out | refine below_set ?_ GE207.out) | exact HB.out)))); have n3_ := Aside0.mk (blk_below (g := gb192) (o := .cells #[.string a0_0, .string a0_1, .string a0_2, .slice A0_3 l0_3.length c0_3] 24 (0, 0)) (by (with_reducible repeat (first | refine blk_drewN ?_ _ | refine blk_drew ?_ | refine blk_alloc ?_ _)); refine blk_far ?_ NB192_207.out _; (with_reducible repeat (first | refine blk_drewN ?_ _ | refine blk_drew ?_ | refine blk_alloc ?_ _)); refine blk_far ?_ NB192_207.out _; (with_reducible repeat (first | refine blk_drewN ?_ _ | refine blk_drew ?_ | refine blk_alloc ?_ _)); refine blk_far ?_ NB192_207.out _; (with_reducible repeat (first | refine blk_drewN ?_ _ | refine blk_drew ?_ | refine blk_alloc ?_ _)); refine blk_far ?_ NB192_207.out _; (with_reducible repeat (first | refine blk_drewN ?_ _ | refine blk_drew ?_ | refine blk_alloc ?_ _)); exact BK192.out) hb); have n4_ := Aside0.mk (blk_below (g := gb207) (o := .cells #[.string t200, .string t201, .string t202, .slice Ao25 t203.length co25] 28 (0, 0)) (by (with_reducible repeat (first | refine blk_drewN ?_ _ | refine blk_drew ?_ | refine blk_alloc ?_ _)); refine blk_put (cs := #[.string t200, .string t201, .string t202, .slice none 0 0]) ?_ 3 _ rfl; (with_reducible repeat (first | refine blk_drewN ?_ _ | refine blk_drew ?_ | refine blk_alloc ?_ _)); refine blk_put (cs := #[.string t200, .string t201, .string (⟨#[]⟩ : ByteArray), .slice none 0 0]) ?_ 2 _ rfl; (with_reducible repeat (first | refine blk_drewN ?_ _ | refine blk_drew ?_ | refine blk_alloc ?_ _)); refine blk_put (cs := #[.string t200, .string (⟨#[]⟩ : ByteArray), .string (⟨#[]⟩ : ByteArray), .slice none 0 0]) ?_ 1 _ rfl; (with_reducible repeat (first | refine blk_drewN ?_ _ | refine blk_drew ?_ | refine blk_alloc ?_ _)); refine blk_put (cs := #[.string (⟨#[]⟩ : ByteArray), .string (⟨#[]⟩ : ByteArray), .string (⟨#[]⟩ : ByteArray), .slice none 0 0]) ?_ 0 _ rfl; (with_reducible repeat (first | refine blk_drewN ?_ _ | refine blk_drew ?_ | refine blk_alloc ?_ _)); exact BK207.out) hb); have n5_ := Aside0.mk (below_step (by repeat (first | (with_reducible first | exact HB.out | apply below_alloc | apply pw_below_drewN | apply below_drew1 | refine below_set ?_ GE192.out | refine below_set ?_ GE207.out) | exact HB.out)) hb); clear HO199; clear HO205; clear BK192; clear BK207; clear HB; have HO199 := n0_; have HO205 := n1_; have HO213 := n2_; have BK192 := n3_; have BK207 := n4_; have HB := n5_; clear n0_ n1_ n2_ n3_ n4_ n5_; (try clear hb); (try clear hb2); (try clear hk); (try clear hi); (try clear ho0)) | ((with_reducible refine gate_dst (N := 10) rfl ?_); refine box_event ?hg (N := 10) ?hd (cs := #[.string (⟨#[]⟩ : ByteArray), .string (⟨#[]⟩ : ByteArray), .string (⟨#[]⟩ : ByteArray), .slice none 0 0]) (t := 28) ?hr ?_; (case hd => rfl); (case hg => rfl); (case hr => first | (go_simp; done) | (go_simp; rfl)); intro gb214 hg w28 hbox hb; have n0_ := Aside0.mk (Kd.S_below (Kd.S_elderB (by (with_reducible repeat (first | apply Kd.S_alloc | apply Kd.S_drewN | apply Kd.S_drew)); exact HO199.out) gb214 (Nat.le_of_eq hg.symm)) hb); have n1_ := Aside0.mk (Kd.S_below (Kd.S_elderB (by (with_reducible repeat (first | apply Kd.S_alloc | apply Kd.S_drewN | apply Kd.S_drew)); exact HO205.out) gb214 (Nat.le_of_eq hg.symm)) hb); have n2_ := Aside0.mk (Kd.S_below (Kd.S_elderB (by (with_reducible repeat (first | apply Kd.S_alloc | apply Kd.S_drewN | apply Kd.S_drew)); exact HO213.out) gb214 (Nat.le_of_eq hg.symm)) hb); have n3_ := Aside0.mk (blk_below (g := gb192) (o := .cells #[.string a0_0, .string a0_1, .string a0_2, .slice A0_3 l0_3.length c0_3] 24 (0, 0)) (by (with_reducible repeat (first | refine blk_drewN ?_ _ | refine blk_drew ?_ | refine blk_alloc ?_ _)); exact BK192.out) hb); have n4_ := Aside0.mk (blk_below (g := gb207) (o := .cells #[.string t200, .string t201, .string t202, .slice Ao25 t203.length co25] 28 (0, 0)) (by (with_reducible repeat (first | refine blk_drewN ?_ _ | refine blk_drew ?_ | refine blk_alloc ?_ _)); exact BK207.out) hb); have n5_ := Aside0.mk (below_step (by repeat (first | (with_reducible first | exact HB.out | apply below_alloc | apply pw_below_drewN | apply below_drew1 | refine below_set ?_ GE192.out | refine below_set ?_ GE207.out) | exact HB.out)) hb); have n6_ := Aside0.mk (hbox); have n7_ := Aside0.mk ((by rw [hg]; exact (below_size (by repeat (first | (with_reducible first | exact HB.out | apply below_alloc | apply pw_below_drewN | apply below_drew1 | refine below_set ?_ GE192.out | refine below_set ?_ GE207.out) | exact HB.out))) : w.heap.size ≤ gb214)); have n8_ := Aside0.mk ((by rw [hg]; exact (below_size (by repeat (first | (with_reducible first | exact HB.out | apply below_alloc | apply pw_below_drewN | apply below_drew1 | refine below_set ?_ GE192.out | refine below_set ?_ GE207.out) | exact HB.out))) : w.heap.size ≤ gb214)); have n9_ := Aside0.mk ((by rw [hg]; exact Nat.ne_of_lt (blk_lt (g := gb192) (o := .cells #[.string a0_0, .string a0_1, .string a0_2, .slice A0_3 l0_3.length c0_3] 24 (0, 0)) (by (with_reducible repeat (first | refine blk_drewN ?_ _ | refine blk_drew ?_ | refine blk_alloc ?_ _)); exact BK192.out)) : gb192 ≠ gb214)); have n10_ := Aside0.mk ((by rw [hg]; exact Nat.ne_of_gt (blk_lt (g := gb192) (o := .cells #[.string a0_0, .string a0_1, .string a0_2, .slice A0_3 l0_3.length c0_3] 24 (0, 0)) (by (with_reducible repeat (first | refine blk_drewN ?_ _ | refine blk_drew ?_ | refine blk_alloc ?_ _)); exact BK192.out)) : gb214 ≠ gb192)); have n11_ := Aside0.mk ((by rw [hg]; exact Nat.ne_of_lt (blk_lt (g := gb207) (o := .cells #[.string t200, .string t201, .string t202, .slice Ao25 t203.length co25] 28 (0, 0)) (by (with_reducible repeat (first | refine blk_drewN ?_ _ | refine blk_drew ?_ | refine blk_alloc ?_ _)); exact BK207.out)) : gb207 ≠ gb214)); have n12_ := Aside0.mk ((by rw [hg]; exact Nat.ne_of_gt (blk_lt (g := gb207) (o := .cells #[.string t200, .string t201, .string t202, .slice Ao25 t203.length co25] 28 (0, 0)) (by (with_reducible repeat (first | refine blk_drewN ?_ _ | refine blk_drew ?_ | refine blk_alloc ?_ _)); exact BK207.out)) : gb214 ≠ gb207)); clear HO199; clear HO205; clear HO213; clear BK192; clear BK207; clear HB; have HO199 := n0_; have HO205 := n1_; have HO213 := n2_; have BK192 := n3_; have BK207 := n4_; have HB := n5_; have BK214 := n6_; have GW214 := n7_; have GE214 := n8_; have NB192_214 := n9_; have NB214_192 := n10_; have NB207_214 := n11_; have NB214_207 := n12_; clear n0_ n1_ n2_ n3_ n4_ n5_ n6_ n7_ n8_ n9_ n10_ n11_ n12_; clear hb hbox hg; have hnb29 := NB214_192.out; have hnc29 := NB192_214.out; have hnb30 := NB214_207.out; have hnc30 := NB207_214.out; have hcz31_0 : w28.cell? ⟨gb214, 0, none⟩ = some (.string (⟨#[]⟩ : ByteArray)) := (blk_cell BK214.out 0).trans rfl; have hcz31_1 : w28.cell? ⟨gb214, 1, none⟩ = some (.string (⟨#[]⟩ : ByteArray)) := (blk_cell BK214.out 1).trans rfl; have hcz31_2 : w28.cell? ⟨gb214, 2, none⟩ = some (.string (⟨#[]⟩ : ByteArray)) := (blk_cell BK214.out 2).trans rfl; have hcz31_3 : w28.cell? ⟨gb214, 3, none⟩ = some (.slice none 0 0) := (blk_cell BK214.out 3).trans rfl; have hfz31_0 := blk_frozen BK214.out 0; have hfz31_1 := blk_frozen BK214.out 1; have hfz31_2 := blk_frozen BK214.out 2; have hfz31_3 := blk_frozen BK214.out 3; obtain ⟨Ao32, co32, eo32⟩ := Kd.S_slice HO213.out; subst eo32) | ((with_reducible refine gate_callee (f := 7) rfl ?_); refine goesL_ (some 43) rfl rfl Try.func7 (by kernel_rfl) rfl #[.agg #[.string t208, .string t209, .string t210, .slice Ao32 t211.length co32], .string a1, .string a2] rfl (by (try simp only [List.map_toArray, List.map_cons, List.map_nil]); first | done | rfl | (simp only [List.length_drop, List.length_take]; rfl)) ?_; (with_reducible refine (impl_KidOf.calls k t208 t209 t210 _ _ t211 a1 a2 t215 t216 t217 t218 t221 _ ?side1 ?side2 A16.out).mono ?_); (case side1 => exact (Kd.S_reads' (e := 28) (base := w.heap.size) (n := t211.length) (c := co32) (by (with_reducible repeat (first | apply Kd.S_alloc | apply Kd.S_drewN | apply Kd.S_drew)); exact (Kd.S_mono (Kd.S_far (p := ⟨gb214, 3, none⟩) (Kd.S_far (p := ⟨gb214, 2, none⟩) (Kd.S_far (p := ⟨gb214, 1, none⟩) (Kd.S_far (p := ⟨gb214, 0, none⟩) (Kd.S_mono HO213.out (fun k_ hk => (⟨hk, hk.2⟩ : _ ∧ k_ ≠ gb214))) (fun _ hk => hk.2) (.string t208)) (fun _ hk => hk.2) (.string t209)) (fun _ hk => hk.2) (.string t210)) (fun _ hk => hk.2) (.slice Ao32 t211.length co32)) (fun _ h_ => h_.1)))).2.2); (case side2 => exact (Kd.S_reads' HO213.out).2.1); rintro e w33 ⟨v219, rfl, ho0, hb⟩; refine ⟨_, rfl, ?_⟩; obtain ⟨nb2_, hnb2_⟩ := Kd.nbOf hb; have HG192b := Aside0.mk (show gb192 < nb2_ by rw [hnb2_]; exact blk_lt (g := gb192) (o := .cells #[.string a0_0, .string a0_1, .string a0_2, .slice A0_3 l0_3.length c0_3] 24 (0, 0)) (by (with_reducible repeat (first | refine blk_drewN ?_ _ | refine blk_drew ?_ | refine blk_alloc ?_ _)); refine blk_far ?_ NB192_214.out _; (with_reducible repeat (first | refine blk_drewN ?_ _ | refine blk_drew ?_ | refine blk_alloc ?_ _)); refine blk_far ?_ NB192_214.out _; (with_reducible repeat (first | refine blk_drewN ?_ _ | refine blk_drew ?_ | refine blk_alloc ?_ _)); refine blk_far ?_ NB192_214.out _; (with_reducible repeat (first | refine blk_drewN ?_ _ | refine blk_drew ?_ | refine blk_alloc ?_ _)); refine blk_far ?_ NB192_214.out _; (with_reducible repeat (first | refine blk_drewN ?_ _ | refine blk_drew ?_ | refine blk_alloc ?_ _)); exact BK192.out)); have n0_ := Aside0.mk (Kd.S_elder' (by (with_reducible repeat (first | apply Kd.S_alloc | apply Kd.S_drewN | apply Kd.S_drew)); exact (Kd.S_mono (Kd.S_far (p := ⟨gb214, 3, none⟩) (Kd.S_far (p := ⟨gb214, 2, none⟩) (Kd.S_far (p := ⟨gb214, 1, none⟩) (Kd.S_far (p := ⟨gb214, 0, none⟩) (Kd.S_mono HO199.out (fun k_ hk => (⟨hk, hk.2⟩ : _ ∧ k_ ≠ gb214))) (fun _ hk => hk.2) (.string t208)) (fun _ hk => hk.2) (.string t209)) (fun _ hk => hk.2) (.string t210)) (fun _ hk => hk.2) (.slice Ao32 t211.length co32)) (fun _ h_ => h_.1))) (Kd.S_base ho0) hb); have n1_ := Aside0.mk (Kd.sOld (by (with_reducible repeat (first | apply Kd.S_alloc | apply Kd.S_drewN | apply Kd.S_drew)); exact (Kd.S_mono (Kd.S_far (p := ⟨gb214, 3, none⟩) (Kd.S_far (p := ⟨gb214, 2, none⟩) (Kd.S_far (p := ⟨gb214, 1, none⟩) (Kd.S_far (p := ⟨gb214, 0, none⟩) (Kd.S_mono HO205.out (fun k_ hk => (⟨hk, hk.2⟩ : _ ∧ k_ ≠ gb214))) (fun _ hk => hk.2) (.string t208)) (fun _ hk => hk.2) (.string t209)) (fun _ hk => hk.2) (.string t210)) (fun _ hk => hk.2) (.slice Ao32 t211.length co32)) (fun _ h_ => h_.1))) hb hnb2_); have n2_ := Aside0.mk (Kd.sOld (by (with_reducible repeat (first | apply Kd.S_alloc | apply Kd.S_drewN | apply Kd.S_drew)); exact (Kd.S_mono (Kd.S_far (p := ⟨gb214, 3, none⟩) (Kd.S_far (p := ⟨gb214, 2, none⟩) (Kd.S_far (p := ⟨gb214, 1, none⟩) (Kd.S_far (p := ⟨gb214, 0, none⟩) (Kd.S_mono HO213.out (fun k_ hk => (⟨hk, hk.2⟩ : _ ∧ k_ ≠ gb214))) (fun _ hk => hk.2) (.string t208)) (fun _ hk => hk.2) (.string t209)) (fun _ hk => hk.2) (.string t210)) (fun _ hk => hk.2) (.slice Ao32 t211.length co32)) (fun _ h_ => h_.1))) hb hnb2_); have n3_ := Aside0.mk (Kd.S_lower (Kd.S_newB (Kd.S_newB (Kd.sNew (Kd.sNew (Kd.S_new' ho0 (Kd.S_lt (by (with_reducible repeat (first | apply Kd.S_alloc | apply Kd.S_drewN | apply Kd.S_drew)); exact (Kd.S_mono (Kd.S_far (p := ⟨gb214, 3, none⟩) (Kd.S_far (p := ⟨gb214, 2, none⟩) (Kd.S_far (p := ⟨gb214, 1, none⟩) (Kd.S_far (p := ⟨gb214, 0, none⟩) (Kd.S_mono HO199.out (fun k_ hk => (⟨hk, hk.2⟩ : _ ∧ k_ ≠ gb214))) (fun _ hk => hk.2) (.string t208)) (fun _ hk => hk.2) (.string t209)) (fun _ hk => hk.2) (.string t210)) (fun _ hk => hk.2) (.slice Ao32 t211.length co32)) (fun _ h_ => h_.1))))) hnb2_) hnb2_) (g := gb207) (o := .cells #[.string t200, .string t201, .string t202, .slice Ao25 t203.length co25] 28 (0, 0)) (by (with_reducible repeat (first | refine blk_drewN ?_ _ | refine blk_drew ?_ | refine blk_alloc ?_ _)); refine blk_far ?_ NB207_214.out _; (with_reducible repeat (first | refine blk_drewN ?_ _ | refine blk_drew ?_ | refine blk_alloc ?_ _)); refine blk_far ?_ NB207_214.out _; (with_reducible repeat (first | refine blk_drewN ?_ _ | refine blk_drew ?_ | refine blk_alloc ?_ _)); refine blk_far ?_ NB207_214.out _; (with_reducible repeat (first | refine blk_drewN ?_ _ | refine blk_drew ?_ | refine blk_alloc ?_ _)); refine blk_far ?_ NB207_214.out _; (with_reducible repeat (first | refine blk_drewN ?_ _ | refine blk_drew ?_ | refine blk_alloc ?_ _)); exact BK207.out)) (g := gb214) (o := .cells #[.string t208, .string t209, .string t210, .slice Ao32 t211.length co32] 28 (0, 0)) (by (with_reducible repeat (first | refine blk_drewN ?_ _ | refine blk_drew ?_ | refine blk_alloc ?_ _)); refine blk_put (cs := #[.string t208, .string t209, .string t210, .slice none 0 0]) ?_ 3 _ rfl; (with_reducible repeat (first | refine blk_drewN ?_ _ | refine blk_drew ?_ | refine blk_alloc ?_ _)); refine blk_put (cs := #[.string t208, .string t209, .string (⟨#[]⟩ : ByteArray), .slice none 0 0]) ?_ 2 _ rfl; (with_reducible repeat (first | refine blk_drewN ?_ _ | refine blk_drew ?_ | refine blk_alloc ?_ _)); refine blk_put (cs := #[.string t208, .string (⟨#[]⟩ : ByteArray), .string (⟨#[]⟩ : ByteArray), .slice none 0 0]) ?_ 1 _ rfl; (with_reducible repeat (first | refine blk_drewN ?_ _ | refine blk_drew ?_ | refine blk_alloc ?_ _)); refine blk_put (cs := #[.string (⟨#[]⟩ : ByteArray), .string (⟨#[]⟩ : ByteArray), .string (⟨#[]⟩ : ByteArray), .slice none 0 0]) ?_ 0 _ rfl; (with_reducible repeat (first | refine blk_drewN ?_ _ | refine blk_drew ?_ | refine blk_alloc ?_ _)); exact BK214.out)) (below_size (by repeat (first | (with_reducible first | exact HB.out | apply below_alloc | apply pw_below_drewN | apply below_drew1 | refine below_set ?_ GE192.out | refine below_set ?_ GE207.out | refine below_set ?_ GE214.out) | exact HB.out)))); have n4_ := Aside0.mk (blk_below (g := gb192) (o := .cells #[.string a0_0, .string a0_1, .string a0_2, .slice A0_3 l0_3.length c0_3] 24 (0, 0)) (by (with_reducible repeat (first | refine blk_drewN ?_ _ | refine blk_drew ?_ | refine blk_alloc ?_ _)); refine blk_far ?_ NB192_214.out _; (with_reducible repeat (first | refine blk_drewN ?_ _ | refine blk_drew ?_ | refine blk_alloc ?_ _)); refine blk_far ?_ NB192_214.out _; (with_reducible repeat (first | refine blk_drewN ?_ _ | refine blk_drew ?_ | refine blk_alloc ?_ _)); refine blk_far ?_ NB192_214.out _; (with_reducible repeat (first | refine blk_drewN ?_ _ | refine blk_drew ?_ | refine blk_alloc ?_ _)); refine blk_far ?_ NB192_214.out _; (with_reducible repeat (first | refine blk_drewN ?_ _ | refine blk_drew ?_ | refine blk_alloc ?_ _)); exact BK192.out) hb); have n5_ := Aside0.mk (blk_below (g := gb207) (o := .cells #[.string t200, .string t201, .string t202, .slice Ao25 t203.length co25] 28 (0, 0)) (by (with_reducible repeat (first | refine blk_drewN ?_ _ | refine blk_drew ?_ | refine blk_alloc ?_ _)); refine blk_far ?_ NB207_214.out _; (with_reducible repeat (first | refine blk_drewN ?_ _ | refine blk_drew ?_ | refine blk_alloc ?_ _)); refine blk_far ?_ NB207_214.out _; (with_reducible repeat (first | refine blk_drewN ?_ _ | refine blk_drew ?_ | refine blk_alloc ?_ _)); refine blk_far ?_ NB207_214.out _; (with_reducible repeat (first | refine blk_drewN ?_ _ | refine blk_drew ?_ | refine blk_alloc ?_ _)); refine blk_far ?_ NB207_214.out _; (with_reducible repeat (first | refine blk_drewN ?_ _ | refine blk_drew ?_ | refine blk_alloc ?_ _)); exact BK207.out) hb); have n6_ := Aside0.mk (blk_below (g := gb214) (o := .cells #[.string t208, .string t209, .string t210, .slice Ao32 t211.length co32] 28 (0, 0)) (by (with_reducible repeat (first | refine blk_drewN ?_ _ | refine blk_drew ?_ | refine blk_alloc ?_ _)); refine blk_put (cs := #[.string t208, .string t209, .string t210, .slice none 0 0]) ?_ 3 _ rfl; (with_reducible repeat (first | refine blk_drewN ?_ _ | refine blk_drew ?_ | refine blk_alloc ?_ _)); refine blk_put (cs := #[.string t208, .string t209, .string (⟨#[]⟩ : ByteArray), .slice none 0 0]) ?_ 2 _ rfl; (with_reducible repeat (first | refine blk_drewN ?_ _ | refine blk_drew ?_ | refine blk_alloc ?_ _)); refine blk_put (cs := #[.string t208, .string (⟨#[]⟩ : ByteArray), .string (⟨#[]⟩ : ByteArray), .slice none 0 0]) ?_ 1 _ rfl; (with_reducible repeat (first | refine blk_drewN ?_ _ | refine blk_drew ?_ | refine blk_alloc ?_ _)); refine blk_put (cs := #[.string (⟨#[]⟩ : ByteArray), .string (⟨#[]⟩ : ByteArray), .string (⟨#[]⟩ : ByteArray), .slice none 0 0]) ?_ 0 _ rfl; (with_reducible repeat (first | refine blk_drewN ?_ _ | refine blk_drew ?_ | refine blk_alloc ?_ _)); exact BK214.out) hb); have n7_ := Aside0.mk (below_step (by repeat (first | (with_reducible first | exact HB.out | apply below_alloc | apply pw_below_drewN | apply below_drew1 | refine below_set ?_ GE192.out | refine below_set ?_ GE207.out | refine below_set ?_ GE214.out) | exact HB.out)) hb); clear HO199; clear HO205; clear HO213; clear BK192; clear BK207; clear BK214; clear HB; have HO199 := n0_; have HO205 := n1_; have HO213 := n2_; have HO220 := n3_; have BK192 := n4_; have BK207 := n5_; have BK214 := n6_; have HB := n7_; clear n0_ n1_ n2_ n3_ n4_ n5_ n6_ n7_; (try clear hb); (try clear hb2); (try clear hk); (try clear hi); (try clear ho0)) | ((with_reducible refine gate_dst (N := 11) rfl ?_); refine box_event ?hg (N := 11) ?hd (cs := #[.string (⟨#[]⟩ : ByteArray), .string (⟨#[]⟩ : ByteArray), .string (⟨#[]⟩ : ByteArray), .slice none 0 0]) (t := 28) ?hr ?_; (case hd => rfl); (case hg => rfl); (case hr => first | (go_simp; done) | (go_simp; rfl)); intro gb222 hg w34 hbox hb; have n0_ := Aside0.mk (Kd.S_below (Kd.S_elderB (by (with_reducible repeat (first | apply Kd.S_alloc | apply Kd.S_drewN | apply Kd.S_drew)); exact HO199.out) gb222 (Nat.le_of_eq hg.symm)) hb); have n1_ := Aside0.mk (Kd.S_below (Kd.S_elderB (by (with_reducible repeat (first | apply Kd.S_alloc | apply Kd.S_drewN | apply Kd.S_drew)); exact HO205.out) gb222 (Nat.le_of_eq hg.symm)) hb); have n2_ := Aside0.mk (Kd.S_below (Kd.S_elderB (by (with_reducible repeat (first | apply Kd.S_alloc | apply Kd.S_drewN | apply Kd.S_drew)); exact HO213.out) gb222 (Nat.le_of_eq hg.symm)) hb); have n3_ := Aside0.mk (Kd.S_below (Kd.S_elderB (by (with_reducible repeat (first | apply Kd.S_alloc | apply Kd.S_drewN | apply Kd.S_drew)); exact HO220.out) gb222 (Nat.le_of_eq hg.symm)) hb); have n4_ := Aside0.mk (blk_below (g := gb192) (o := .cells #[.string a0_0, .string a0_1, .string a0_2, .slice A0_3 l0_3.length c0_3] 24 (0, 0)) (by (with_reducible repeat (first | refine blk_drewN ?_ _ | refine blk_drew ?_ | refine blk_alloc ?_ _)); exact BK192.out) hb); have n5_ := Aside0.mk (blk_below (g := gb207) (o := .cells #[.string t200, .string t201, .string t202, .slice Ao25 t203.length co25] 28 (0, 0)) (by (with_reducible repeat (first | refine blk_drewN ?_ _ | refine blk_drew ?_ | refine blk_alloc ?_ _)); exact BK207.out) hb); have n6_ := Aside0.mk (blk_below (g := gb214) (o := .cells #[.string t208, .string t209, .string t210, .slice Ao32 t211.length co32] 28 (0, 0)) (by (with_reducible repeat (first | refine blk_drewN ?_ _ | refine blk_drew ?_ | refine blk_alloc ?_ _)); exact BK214.out) hb); have n7_ := Aside0.mk (below_step (by repeat (first | (with_reducible first | exact HB.out | apply below_alloc | apply pw_below_drewN | apply below_drew1 | refine below_set ?_ GE192.out | refine below_set ?_ GE207.out | refine below_set ?_ GE214.out) | exact HB.out)) hb); have n8_ := Aside0.mk (hbox); have n9_ := Aside0.mk ((by rw [hg]; exact (below_size (by repeat (first | (with_reducible first | exact HB.out | apply below_alloc | apply pw_below_drewN | apply below_drew1 | refine below_set ?_ GE192.out | refine below_set ?_ GE207.out | refine below_set ?_ GE214.out) | exact HB.out))) : w.heap.size ≤ gb222)); have n10_ := Aside0.mk ((by rw [hg]; exact (below_size (by repeat (first | (with_reducible first | exact HB.out | apply below_alloc | apply pw_below_drewN | apply below_drew1 | refine below_set ?_ GE192.out | refine below_set ?_ GE207.out | refine below_set ?_ GE214.out) | exact HB.out))) : w.heap.size ≤ gb222)); have n11_ := Aside0.mk ((by rw [hg]; exact Nat.ne_of_lt (blk_lt (g := gb192) (o := .cells #[.string a0_0, .string a0_1, .string a0_2, .slice A0_3 l0_3.length c0_3] 24 (0, 0)) (by (with_reducible repeat (first | refine blk_drewN ?_ _ | refine blk_drew ?_ | refine blk_alloc ?_ _)); exact BK192.out)) : gb192 ≠ gb222)); have n12_ := Aside0.mk ((by rw [hg]; exact Nat.ne_of_gt (blk_lt (g := gb192) (o := .cells #[.string a0_0, .string a0_1, .string a0_2, .slice A0_3 l0_3.length c0_3] 24 (0, 0)) (by (with_reducible repeat (first | refine blk_drewN ?_ _ | refine blk_drew ?_ | refine blk_alloc ?_ _)); exact BK192.out)) : gb222 ≠ gb192)); have n13_ := Aside0.mk ((by rw [hg]; exact Nat.ne_of_lt (blk_lt (g := gb207) (o := .cells #[.string t200, .string t201, .string t202, .slice Ao25 t203.length co25] 28 (0, 0)) (by (with_reducible repeat (first | refine blk_drewN ?_ _ | refine blk_drew ?_ | refine blk_alloc ?_ _)); exact BK207.out)) : gb207 ≠ gb222)); have n14_ := Aside0.mk ((by rw [hg]; exact Nat.ne_of_gt (blk_lt (g := gb207) (o := .cells #[.string t200, .string t201, .string t202, .slice Ao25 t203.length co25] 28 (0, 0)) (by (with_reducible repeat (first | refine blk_drewN ?_ _ | refine blk_drew ?_ | refine blk_alloc ?_ _)); exact BK207.out)) : gb222 ≠ gb207)); have n15_ := Aside0.mk ((by rw [hg]; exact Nat.ne_of_lt (blk_lt (g := gb214) (o := .cells #[.string t208, .string t209, .string t210, .slice Ao32 t211.length co32] 28 (0, 0)) (by (with_reducible repeat (first | refine blk_drewN ?_ _ | refine blk_drew ?_ | refine blk_alloc ?_ _)); exact BK214.out)) : gb214 ≠ gb222)); have n16_ := Aside0.mk ((by rw [hg]; exact Nat.ne_of_gt (blk_lt (g := gb214) (o := .cells #[.string t208, .string t209, .string t210, .slice Ao32 t211.length co32] 28 (0, 0)) (by (with_reducible repeat (first | refine blk_drewN ?_ _ | refine blk_drew ?_ | refine blk_alloc ?_ _)); exact BK214.out)) : gb222 ≠ gb214)); clear HO199; clear HO205; clear HO213; clear HO220; clear BK192; clear BK207; clear BK214; clear HB; have HO199 := n0_; have HO205 := n1_; have HO213 := n2_; have HO220 := n3_; have BK192 := n4_; have BK207 := n5_; have BK214 := n6_; have HB := n7_; have BK222 := n8_; have GW222 := n9_; have GE222 := n10_; have NB192_222 := n11_; have NB222_192 := n12_; have NB207_222 := n13_; have NB222_207 := n14_; have NB214_222 := n15_; have NB222_214 := n16_; clear n0_ n1_ n2_ n3_ n4_ n5_ n6_ n7_ n8_ n9_ n10_ n11_ n12_ n13_ n14_ n15_ n16_; clear hb hbox hg; have hnb35 := NB222_192.out; have hnc35 := NB192_222.out; have hnb36 := NB222_207.out; have hnc36 := NB207_222.out; have hnb37 := NB222_214.out; have hnc37 := NB214_222.out; have hcz38_0 : w34.cell? ⟨gb222, 0, none⟩ = some (.string (⟨#[]⟩ : ByteArray)) := (blk_cell BK222.out 0).trans rfl; have hcz38_1 : w34.cell? ⟨gb222, 1, none⟩ = some (.string (⟨#[]⟩ : ByteArray)) := (blk_cell BK222.out 1).trans rfl; have hcz38_2 : w34.cell? ⟨gb222, 2, none⟩ = some (.string (⟨#[]⟩ : ByteArray)) := (blk_cell BK222.out 2).trans rfl; have hcz38_3 : w34.cell? ⟨gb222, 3, none⟩ = some (.slice none 0 0) := (blk_cell BK222.out 3).trans rfl; have hfz38_0 := blk_frozen BK222.out 0; have hfz38_1 := blk_frozen BK222.out 1; have hfz38_2 := blk_frozen BK222.out 2; have hfz38_3 := blk_frozen BK222.out 3; obtain ⟨Ao39, co39, eo39⟩ := Kd.S_slice HO220.out; subst eo39))
        (try simp only [Act.put, List.setIfInBounds_toArray, List.set_cons_zero, List.set_cons_succ])
        go_cut [54] (fun v54 wc => ∃ (kq : Nat) (x54_16 : Bool), v54 = .bool x54_16 ∧ Aside0 (laws_FnExactKidOf.j0 kq a1 a2 t206 t221 x54_16 a0_0 a0_1 a0_2 l0_3 t200 t201 t202 t203 t208 t209 t210 t211 t215 t216 t217 t218 = some true) ∧ Aside0 (kq ≤ k) ∧ Aside0 (Kd.S k28 28 wc w.heap.size (fun k_ => k_ < nb1_ ∧ k_ < nb2_ ∧ k_ ≠ gb207 ∧ k_ ≠ gb214 ∧ k_ ≠ gb222) (.slice Ao25 t203.length co25) t203) ∧ Aside0 (Kd.S k28 28 wc w.heap.size (fun k_ => nb1_ ≤ k_ ∧ k_ < nb2_ ∧ k_ ≠ gb207 ∧ k_ ≠ gb214 ∧ k_ ≠ gb222) (.slice Ao32 t211.length co32) t211) ∧ Aside0 (Kd.S k28 28 wc w.heap.size (fun k_ => nb2_ ≤ k_ ∧ nb2_ ≤ k_ ∧ k_ ≠ gb207 ∧ k_ ≠ gb214 ∧ k_ ≠ gb222) (.slice Ao39 t218.length co39) t218) ∧ Aside0 (wc.heap[gb192]? = some (.cells #[.string a0_0, .string a0_1, .string a0_2, (.slice A0_3 l0_3.length c0_3)] 24 (0, 0))) ∧ Aside0 (wc.heap[gb207]? = some (.cells #[.string t200, .string t201, .string t202, (.slice Ao25 t203.length co25)] 28 (0, 0))) ∧ Aside0 (wc.heap[gb214]? = some (.cells #[.string t208, .string t209, .string t210, (.slice Ao32 t211.length co32)] 28 (0, 0))) ∧ Aside0 (wc.heap[gb222]? = some (.cells #[.string t215, .string t216, .string t217, (.slice Ao39 t218.length co39)] 28 (0, 0))) ∧ Aside0 (Below w.heap.size w wc))
        case first =>
          have H := HC17.out
          clear HC17
          replace H := Option.bind_eq_some_iff.mp H
          obtain ⟨t223, A400, H⟩ := H
          replace H : (if t223 = true then (laws_FnExactKidOf.j0 k a1 a2 t206 t221 (t221 != t206) a0_0 a0_1 a0_2 l0_3 t200 t201 t202 t203 t208 t209 t210 t211 t215 t216 t217 t218) else (laws_FnExactKidOf.j0 k a1 a2 t206 t221 true a0_0 a0_1 a0_2 l0_3 t200 t201 t202 t203 t208 t209 t210 t211 t215 t216 t217 t218)) = some true := H
          have A40 := Aside0.mk A400
          clear A400
          by_cases c41 : t223 = true
          · subst c41
            have H1 : (laws_FnExactKidOf.j0 k a1 a2 t206 t221 (t221 != t206) a0_0 a0_1 a0_2 l0_3 t200 t201 t202 t203 t208 t209 t210 t211 t215 t216 t217 t218) = some true := by rw [if_pos rfl] at H; exact H
            clear H
            have H := H1
            clear H1
            have H' := Aside0.mk H
            clear H
            have hnb42 := NB222_192.out
            have hnc42 := NB192_222.out
            have hnb43 := NB222_207.out
            have hnc43 := NB207_222.out
            have hnb44 := NB222_214.out
            have hnc44 := NB214_222.out
            have hcz45_0 : w34.cell? ⟨gb222, 0, none⟩ = some (.string (⟨#[]⟩ : ByteArray)) := (blk_cell BK222.out 0).trans rfl
            have hcz45_1 : w34.cell? ⟨gb222, 1, none⟩ = some (.string (⟨#[]⟩ : ByteArray)) := (blk_cell BK222.out 1).trans rfl
            have hcz45_2 : w34.cell? ⟨gb222, 2, none⟩ = some (.string (⟨#[]⟩ : ByteArray)) := (blk_cell BK222.out 2).trans rfl
            have hcz45_3 : w34.cell? ⟨gb222, 3, none⟩ = some (.slice none 0 0) := (blk_cell BK222.out 3).trans rfl
            have hfz45_0 := blk_frozen BK222.out 0
            have hfz45_1 := blk_frozen BK222.out 1
            have hfz45_2 := blk_frozen BK222.out 2
            have hfz45_3 := blk_frozen BK222.out 3
            have hnb46 := NB207_192.out
            have hnc46 := NB192_207.out
            have hnb47 := NB207_214.out
            have hnc47 := NB214_207.out
            have hcz48_0 : w34.cell? ⟨gb207, 0, none⟩ = some (.string t200) := (blk_cell BK207.out 0).trans rfl
            have hcz48_1 : w34.cell? ⟨gb207, 1, none⟩ = some (.string t201) := (blk_cell BK207.out 1).trans rfl
            have hcz48_2 : w34.cell? ⟨gb207, 2, none⟩ = some (.string t202) := (blk_cell BK207.out 2).trans rfl
            have hcz48_3 : w34.cell? ⟨gb207, 3, none⟩ = some (.slice Ao25 t203.length co25) := (blk_cell BK207.out 3).trans rfl
            have hfz48_0 := blk_frozen BK207.out 0
            have hfz48_1 := blk_frozen BK207.out 1
            have hfz48_2 := blk_frozen BK207.out 2
            have hfz48_3 := blk_frozen BK207.out 3
            go_wp2_with (first | ((with_reducible refine gate_callee (f := 8) rfl ?_); refine goesL_ (some 48) rfl rfl Try.func8 (by kernel_rfl) rfl #[.agg #[.string t215, .string t216, .string t217, .slice Ao39 t218.length co39], .agg #[.string t200, .string t201, .string t202, .slice Ao25 t203.length co25]] rfl (by (try simp only [List.map_toArray, List.map_cons, List.map_nil]); first | done | rfl | (simp only [List.length_drop, List.length_take]; rfl)) ?_; (with_reducible refine (laws_eqNode.calls k t215 t216 t217 _ _ t218 t200 t201 t202 _ _ t203 true _ ?side1 ?side2 ?side3 ?side4 A40.out).mono ?_); (case side1 => exact (Kd.S_reads' (e := 28) (base := w.heap.size) (n := t218.length) (c := co39) (by (with_reducible repeat (first | apply Kd.S_alloc | apply Kd.S_drewN | apply Kd.S_drew)); exact (Kd.S_mono (Kd.S_far (p := ⟨gb222, 3, none⟩) (Kd.S_far (p := ⟨gb222, 2, none⟩) (Kd.S_far (p := ⟨gb222, 1, none⟩) (Kd.S_far (p := ⟨gb222, 0, none⟩) (Kd.S_mono HO220.out (fun k_ hk => (⟨hk, hk.2⟩ : _ ∧ k_ ≠ gb222))) (fun _ hk => hk.2) (.string t215)) (fun _ hk => hk.2) (.string t216)) (fun _ hk => hk.2) (.string t217)) (fun _ hk => hk.2) (.slice Ao39 t218.length co39)) (fun _ h_ => h_.1)))).2.2); (case side2 => exact (Kd.S_reads' HO220.out).2.1); (case side3 => exact (Kd.S_reads' (e := 28) (base := w.heap.size) (n := t203.length) (c := co25) (by (with_reducible repeat (first | apply Kd.S_alloc | apply Kd.S_drewN | apply Kd.S_drew)); exact (Kd.S_mono (Kd.S_far (p := ⟨gb222, 3, none⟩) (Kd.S_far (p := ⟨gb222, 2, none⟩) (Kd.S_far (p := ⟨gb222, 1, none⟩) (Kd.S_far (p := ⟨gb222, 0, none⟩) (Kd.S_mono HO205.out (fun k_ hk => (⟨hk, hk.2⟩ : _ ∧ k_ ≠ gb222))) (fun _ hk => hk.2) (.string t215)) (fun _ hk => hk.2) (.string t216)) (fun _ hk => hk.2) (.string t217)) (fun _ hk => hk.2) (.slice Ao39 t218.length co39)) (fun _ h_ => h_.1)))).2.2); (case side4 => exact (Kd.S_reads' HO205.out).2.1); rintro e w49 ⟨rfl, hb⟩; refine ⟨_, rfl, ?_⟩; have n0_ := Aside0.mk (Kd.S_below (by (with_reducible repeat (first | apply Kd.S_alloc | apply Kd.S_drewN | apply Kd.S_drew)); exact (Kd.S_mono (Kd.S_far (p := ⟨gb222, 3, none⟩) (Kd.S_far (p := ⟨gb222, 2, none⟩) (Kd.S_far (p := ⟨gb222, 1, none⟩) (Kd.S_far (p := ⟨gb222, 0, none⟩) (Kd.S_mono HO199.out (fun k_ hk => (⟨hk, hk.2⟩ : _ ∧ k_ ≠ gb222))) (fun _ hk => hk.2) (.string t215)) (fun _ hk => hk.2) (.string t216)) (fun _ hk => hk.2) (.string t217)) (fun _ hk => hk.2) (.slice Ao39 t218.length co39)) (fun _ h_ => h_.1))) hb); have n1_ := Aside0.mk (Kd.S_below (by (with_reducible repeat (first | apply Kd.S_alloc | apply Kd.S_drewN | apply Kd.S_drew)); exact (Kd.S_mono (Kd.S_far (p := ⟨gb222, 3, none⟩) (Kd.S_far (p := ⟨gb222, 2, none⟩) (Kd.S_far (p := ⟨gb222, 1, none⟩) (Kd.S_far (p := ⟨gb222, 0, none⟩) (Kd.S_mono HO205.out (fun k_ hk => (⟨hk, hk.2⟩ : _ ∧ k_ ≠ gb222))) (fun _ hk => hk.2) (.string t215)) (fun _ hk => hk.2) (.string t216)) (fun _ hk => hk.2) (.string t217)) (fun _ hk => hk.2) (.slice Ao39 t218.length co39)) (fun _ h_ => h_.1))) hb); have n2_ := Aside0.mk (Kd.S_below (by (with_reducible repeat (first | apply Kd.S_alloc | apply Kd.S_drewN | apply Kd.S_drew)); exact (Kd.S_mono (Kd.S_far (p := ⟨gb222, 3, none⟩) (Kd.S_far (p := ⟨gb222, 2, none⟩) (Kd.S_far (p := ⟨gb222, 1, none⟩) (Kd.S_far (p := ⟨gb222, 0, none⟩) (Kd.S_mono HO213.out (fun k_ hk => (⟨hk, hk.2⟩ : _ ∧ k_ ≠ gb222))) (fun _ hk => hk.2) (.string t215)) (fun _ hk => hk.2) (.string t216)) (fun _ hk => hk.2) (.string t217)) (fun _ hk => hk.2) (.slice Ao39 t218.length co39)) (fun _ h_ => h_.1))) hb); have n3_ := Aside0.mk (Kd.S_below (by (with_reducible repeat (first | apply Kd.S_alloc | apply Kd.S_drewN | apply Kd.S_drew)); exact (Kd.S_mono (Kd.S_far (p := ⟨gb222, 3, none⟩) (Kd.S_far (p := ⟨gb222, 2, none⟩) (Kd.S_far (p := ⟨gb222, 1, none⟩) (Kd.S_far (p := ⟨gb222, 0, none⟩) (Kd.S_mono HO220.out (fun k_ hk => (⟨hk, hk.2⟩ : _ ∧ k_ ≠ gb222))) (fun _ hk => hk.2) (.string t215)) (fun _ hk => hk.2) (.string t216)) (fun _ hk => hk.2) (.string t217)) (fun _ hk => hk.2) (.slice Ao39 t218.length co39)) (fun _ h_ => h_.1))) hb); have n4_ := Aside0.mk (blk_below (g := gb192) (o := .cells #[.string a0_0, .string a0_1, .string a0_2, .slice A0_3 l0_3.length c0_3] 24 (0, 0)) (by (with_reducible repeat (first | refine blk_drewN ?_ _ | refine blk_drew ?_ | refine blk_alloc ?_ _)); refine blk_far ?_ NB192_222.out _; (with_reducible repeat (first | refine blk_drewN ?_ _ | refine blk_drew ?_ | refine blk_alloc ?_ _)); refine blk_far ?_ NB192_222.out _; (with_reducible repeat (first | refine blk_drewN ?_ _ | refine blk_drew ?_ | refine blk_alloc ?_ _)); refine blk_far ?_ NB192_222.out _; (with_reducible repeat (first | refine blk_drewN ?_ _ | refine blk_drew ?_ | refine blk_alloc ?_ _)); refine blk_far ?_ NB192_222.out _; (with_reducible repeat (first | refine blk_drewN ?_ _ | refine blk_drew ?_ | refine blk_alloc ?_ _)); exact BK192.out) hb); have n5_ := Aside0.mk (blk_below (g := gb207) (o := .cells #[.string t200, .string t201, .string t202, .slice Ao25 t203.length co25] 28 (0, 0)) (by (with_reducible repeat (first | refine blk_drewN ?_ _ | refine blk_drew ?_ | refine blk_alloc ?_ _)); refine blk_far ?_ NB207_222.out _; (with_reducible repeat (first | refine blk_drewN ?_ _ | refine blk_drew ?_ | refine blk_alloc ?_ _)); refine blk_far ?_ NB207_222.out _; (with_reducible repeat (first | refine blk_drewN ?_ _ | refine blk_drew ?_ | refine blk_alloc ?_ _)); refine blk_far ?_ NB207_222.out _; (with_reducible repeat (first | refine blk_drewN ?_ _ | refine blk_drew ?_ | refine blk_alloc ?_ _)); refine blk_far ?_ NB207_222.out _; (with_reducible repeat (first | refine blk_drewN ?_ _ | refine blk_drew ?_ | refine blk_alloc ?_ _)); exact BK207.out) hb); have n6_ := Aside0.mk (blk_below (g := gb214) (o := .cells #[.string t208, .string t209, .string t210, .slice Ao32 t211.length co32] 28 (0, 0)) (by (with_reducible repeat (first | refine blk_drewN ?_ _ | refine blk_drew ?_ | refine blk_alloc ?_ _)); refine blk_far ?_ NB214_222.out _; (with_reducible repeat (first | refine blk_drewN ?_ _ | refine blk_drew ?_ | refine blk_alloc ?_ _)); refine blk_far ?_ NB214_222.out _; (with_reducible repeat (first | refine blk_drewN ?_ _ | refine blk_drew ?_ | refine blk_alloc ?_ _)); refine blk_far ?_ NB214_222.out _; (with_reducible repeat (first | refine blk_drewN ?_ _ | refine blk_drew ?_ | refine blk_alloc ?_ _)); refine blk_far ?_ NB214_222.out _; (with_reducible repeat (first | refine blk_drewN ?_ _ | refine blk_drew ?_ | refine blk_alloc ?_ _)); exact BK214.out) hb); have n7_ := Aside0.mk (blk_below (g := gb222) (o := .cells #[.string t215, .string t216, .string t217, .slice Ao39 t218.length co39] 28 (0, 0)) (by (with_reducible repeat (first | refine blk_drewN ?_ _ | refine blk_drew ?_ | refine blk_alloc ?_ _)); refine blk_put (cs := #[.string t215, .string t216, .string t217, .slice none 0 0]) ?_ 3 _ rfl; (with_reducible repeat (first | refine blk_drewN ?_ _ | refine blk_drew ?_ | refine blk_alloc ?_ _)); refine blk_put (cs := #[.string t215, .string t216, .string (⟨#[]⟩ : ByteArray), .slice none 0 0]) ?_ 2 _ rfl; (with_reducible repeat (first | refine blk_drewN ?_ _ | refine blk_drew ?_ | refine blk_alloc ?_ _)); refine blk_put (cs := #[.string t215, .string (⟨#[]⟩ : ByteArray), .string (⟨#[]⟩ : ByteArray), .slice none 0 0]) ?_ 1 _ rfl; (with_reducible repeat (first | refine blk_drewN ?_ _ | refine blk_drew ?_ | refine blk_alloc ?_ _)); refine blk_put (cs := #[.string (⟨#[]⟩ : ByteArray), .string (⟨#[]⟩ : ByteArray), .string (⟨#[]⟩ : ByteArray), .slice none 0 0]) ?_ 0 _ rfl; (with_reducible repeat (first | refine blk_drewN ?_ _ | refine blk_drew ?_ | refine blk_alloc ?_ _)); exact BK222.out) hb); have n8_ := Aside0.mk (below_step (by repeat (first | (with_reducible first | exact HB.out | apply below_alloc | apply pw_below_drewN | apply below_drew1 | refine below_set ?_ GE192.out | refine below_set ?_ GE207.out | refine below_set ?_ GE214.out | refine below_set ?_ GE222.out) | exact HB.out)) hb); clear HO199; clear HO205; clear HO213; clear HO220; clear BK192; clear BK207; clear BK214; clear BK222; clear HB; have HO199 := n0_; have HO205 := n1_; have HO213 := n2_; have HO220 := n3_; have BK192 := n4_; have BK207 := n5_; have BK214 := n6_; have BK222 := n7_; have HB := n8_; clear n0_ n1_ n2_ n3_ n4_ n5_ n6_ n7_ n8_; (try clear hb); (try clear hb2); (try clear hk); (try clear hi)))
            go_meet
            case rel => exact ⟨_, ((t221 != t206)), (by first | rfl | (simp; done) | (simp [*]; done) | (simp [empty_ne, *]; done)), H', ⟨by first | omega | exact Nat.le_refl _⟩, ⟨by (with_reducible repeat (first | apply Kd.S_alloc | apply Kd.S_drewN | apply Kd.S_drew)); exact Kd.S_mono HO205.out (fun _ hk => ⟨hk.1.1.1.2, ⟨hk.1.2, ⟨hk.1.1.1.1.2, ⟨hk.1.1.2, hk.2⟩⟩⟩⟩)⟩, ⟨by (with_reducible repeat (first | apply Kd.S_alloc | apply Kd.S_drewN | apply Kd.S_drew)); exact Kd.S_mono HO213.out (fun _ hk => ⟨hk.1.1.1.1.2, ⟨hk.1.2, ⟨hk.1.1.1.2, ⟨hk.1.1.2, hk.2⟩⟩⟩⟩)⟩, ⟨by (with_reducible repeat (first | apply Kd.S_alloc | apply Kd.S_drewN | apply Kd.S_drew)); exact Kd.S_mono HO220.out (fun _ hk => ⟨hk.1.1.1.1.2, ⟨hk.1.1.1.2, ⟨hk.1.1.2, ⟨hk.1.2, hk.2⟩⟩⟩⟩)⟩, ⟨by (with_reducible repeat (first | refine blk_drewN ?_ _ | refine blk_drew ?_ | refine blk_alloc ?_ _)); exact BK192.out⟩, ⟨by (with_reducible repeat (first | refine blk_drewN ?_ _ | refine blk_drew ?_ | refine blk_alloc ?_ _)); exact BK207.out⟩, ⟨by (with_reducible repeat (first | refine blk_drewN ?_ _ | refine blk_drew ?_ | refine blk_alloc ?_ _)); exact BK214.out⟩, ⟨by (with_reducible repeat (first | refine blk_drewN ?_ _ | refine blk_drew ?_ | refine blk_alloc ?_ _)); exact BK222.out⟩, ⟨by repeat (first | (with_reducible first | exact HB.out | apply below_alloc | apply pw_below_drewN | apply below_drew1 | refine below_set ?_ GE192.out | refine below_set ?_ GE207.out | refine below_set ?_ GE214.out | refine below_set ?_ GE222.out) | exact HB.out)⟩⟩
          · replace c41 := Bool.eq_false_iff.mpr c41
            subst c41
            have H1 : (laws_FnExactKidOf.j0 k a1 a2 t206 t221 true a0_0 a0_1 a0_2 l0_3 t200 t201 t202 t203 t208 t209 t210 t211 t215 t216 t217 t218) = some true := by rw [if_neg (show ¬ (false = true) by decide)] at H; exact H
            clear H
            have H := H1
            clear H1
            exact absurd H (laws_FnExactKidOf.j0_true _ _ _ _ _ _ _ _ _ _ _ _ _ _ _ _ _ _ _ _ _)
        case rest =>
          clear HC17
          try clear c1
          try clear c2
          try clear p2
          try clear c3
          try clear c4
          try clear c5
          try clear c6
          try clear c6b0
          try clear c6b1
          try clear c7
          try clear c7b0
          try clear c7b1
          try clear c8
          try clear c12
          try clear c12b0
          try clear c23
          try clear c29
          try clear c30
          try clear c35
          try clear c36
          try clear c37
          try clear c41
          try clear c42
          try clear c43
          try clear c44
          try clear c46
          try clear c47
          try clear c50
          try clear c51
          try clear c52
          try clear c54
          try clear c55
          try clear hcz10_0
          try clear hcz10_1
          try clear hcz10_2
          try clear hcz10_3
          try clear hcz18_0
          try clear hcz18_1
          try clear hcz18_2
          try clear hcz18_3
          try clear hcz24_0
          try clear hcz24_1
          try clear hcz24_2
          try clear hcz24_3
          try clear hcz26_0
          try clear hcz26_1
          try clear hcz26_2
          try clear hcz26_3
          try clear hcz31_0
          try clear hcz31_1
          try clear hcz31_2
          try clear hcz31_3
          try clear hcz38_0
          try clear hcz38_1
          try clear hcz38_2
          try clear hcz38_3
          try clear hcz45_0
          try clear hcz45_1
          try clear hcz45_2
          try clear hcz45_3
          try clear hcz48_0
          try clear hcz48_1
          try clear hcz48_2
          try clear hcz48_3
          try clear hcz53_0
          try clear hcz53_1
          try clear hcz53_2
          try clear hcz53_3
          try clear hcz56_0
          try clear hcz56_1
          try clear hcz56_2
          try clear hcz56_3
          try clear hfz10_0
          try clear hfz10_1
          try clear hfz10_2
          try clear hfz10_3
          try clear hfz18_0
          try clear hfz18_1
          try clear hfz18_2
          try clear hfz18_3
          try clear hfz24_0
          try clear hfz24_1
          try clear hfz24_2
          try clear hfz24_3
          try clear hfz26_0
          try clear hfz26_1
          try clear hfz26_2
          try clear hfz26_3
          try clear hfz31_0
          try clear hfz31_1
          try clear hfz31_2
          try clear hfz31_3
          try clear hfz38_0
          try clear hfz38_1
          try clear hfz38_2
          try clear hfz38_3
          try clear hfz45_0
          try clear hfz45_1
          try clear hfz45_2
          try clear hfz45_3
          try clear hfz48_0
          try clear hfz48_1
          try clear hfz48_2
          try clear hfz48_3
          try clear hfz53_0
          try clear hfz53_1
          try clear hfz53_2
          try clear hfz53_3
          try clear hfz56_0
          try clear hfz56_1
          try clear hfz56_2
          try clear hfz56_3
          obtain ⟨kq, x54_16, rfl, HA, HJ16, HO_208003, HO_215003, HO_223003, BK192, BK207, BK214, BK222, HB⟩ := hcut
          cases kq with
          | zero => exact absurd HA.out (by simp [laws_FnExactKidOf.j0])
          | succ kj16 =>
            have H := HA.out
            clear HA
            simp only [laws_FnExactKidOf.j0] at H
            by_cases c58 : x54_16 = true
            · subst c58
              have H1 : (some false) = some true := by rw [if_pos rfl] at H; exact H
              clear H
              have H := H1
              clear H1
              have hr_ := Aside0.mk (Option.some.inj H); clear H
              go_wp2
              go_ret
              exact ⟨by first | rfl | exact absurd hr_.out (by decide) | (have h_ := hr_.out; first | (subst h_; rfl) | (rw [h_]; done) | (simp only [h_]; done) | (simp at h_ ⊢; exact h_) | (simp at h_ ⊢; omega)) | (simp [errW_none, errW_some] <;> rfl) | (simp [*, errW_none, errW_some] <;> rfl), by repeat (first | (with_reducible first | exact HB.out | apply below_alloc | apply pw_below_drewN | apply below_drew1 | refine below_set ?_ GE192.out | refine below_set ?_ GE207.out | refine below_set ?_ GE214.out | refine below_set ?_ GE222.out) | exact HB.out)⟩
            · replace c58 := Bool.eq_false_iff.mpr c58
              subst c58
              have H1 : ((laws_toNode.f kj16 a0_0 a0_1 a0_2 l0_3).bind fun bt224 => ((laws_eqNode.f kj16 t208 t209 t210 t211 bt224.1 bt224.2.1 bt224.2.2.1 bt224.2.2.2).bind fun t230 => (if t230 = true then ((laws_markNode.f kj16 t208 t209 t210 t211 1).bind fun bt231 => (if bt231.1 < 0 then (laws_FnExactKidOf.j1 kj16 a1 a2 t206 true a0_0 a0_1 a0_2 l0_3 t200 t201 t202 t203 t215 t216 t217 t218) else ((laws_eqNode.f kj16 t215 t216 t217 t218 t200 t201 t202 t203).bind fun t233 => (if t233 = true then (laws_FnExactKidOf.j1 kj16 a1 a2 t206 (t221 != t206) a0_0 a0_1 a0_2 l0_3 t200 t201 t202 t203 t215 t216 t217 t218) else (laws_FnExactKidOf.j1 kj16 a1 a2 t206 true a0_0 a0_1 a0_2 l0_3 t200 t201 t202 t203 t215 t216 t217 t218))))) else (some false)))) = some true := by rw [if_neg (show ¬ (false = true) by decide)] at H; exact H
              clear H
              have H := H1
              clear H1
              replace H := Option.bind_eq_some_iff.mp H
              obtain ⟨⟨t224, t225, t226, t227⟩, A590, H⟩ := H
              replace H : ((laws_eqNode.f kj16 t208 t209 t210 t211 t224 t225 t226 t227).bind fun t230 => (if t230 = true then ((laws_markNode.f kj16 t208 t209 t210 t211 1).bind fun bt231 => (if bt231.1 < 0 then (laws_FnExactKidOf.j1 kj16 a1 a2 t206 true a0_0 a0_1 a0_2 l0_3 t200 t201 t202 t203 t215 t216 t217 t218) else ((laws_eqNode.f kj16 t215 t216 t217 t218 t200 t201 t202 t203).bind fun t233 => (if t233 = true then (laws_FnExactKidOf.j1 kj16 a1 a2 t206 (t221 != t206) a0_0 a0_1 a0_2 l0_3 t200 t201 t202 t203 t215 t216 t217 t218) else (laws_FnExactKidOf.j1 kj16 a1 a2 t206 true a0_0 a0_1 a0_2 l0_3 t200 t201 t202 t203 t215 t216 t217 t218))))) else (some false))) = some true := H
              have A59 := Aside0.mk A590
              clear A590
              replace H := Option.bind_eq_some_iff.mp H
              obtain ⟨t230, A600, H⟩ := H
              replace H : (if t230 = true then ((laws_markNode.f kj16 t208 t209 t210 t211 1).bind fun bt231 => (if bt231.1 < 0 then (laws_FnExactKidOf.j1 kj16 a1 a2 t206 true a0_0 a0_1 a0_2 l0_3 t200 t201 t202 t203 t215 t216 t217 t218) else ((laws_eqNode.f kj16 t215 t216 t217 t218 t200 t201 t202 t203).bind fun t233 => (if t233 = true then (laws_FnExactKidOf.j1 kj16 a1 a2 t206 (t221 != t206) a0_0 a0_1 a0_2 l0_3 t200 t201 t202 t203 t215 t216 t217 t218) else (laws_FnExactKidOf.j1 kj16 a1 a2 t206 true a0_0 a0_1 a0_2 l0_3 t200 t201 t202 t203 t215 t216 t217 t218))))) else (some false)) = some true := H
              have A60 := Aside0.mk A600
              clear A600
              have HC61 := Aside0.mk H
              clear H
              try go_wp2
              have n0_ := Aside0.mk (Kd.S_drew HO_208003.out)
              have n1_ := Aside0.mk (Kd.S_drew HO_215003.out)
              have n2_ := Aside0.mk (Kd.S_drew HO_223003.out)
              have n3_ := Aside0.mk (blk_drew BK192.out)
              have n4_ := Aside0.mk (blk_drew BK207.out)
              have n5_ := Aside0.mk (blk_drew BK214.out)
              have n6_ := Aside0.mk (blk_drew BK222.out)
              have n7_ := Aside0.mk (below_drew1 HB.out)
              clear HO_208003
              clear HO_215003
              clear HO_223003
              clear BK192
              clear BK207
              clear BK214
              clear BK222
              clear HB
              have HO_208003 := n0_
              have HO_215003 := n1_
              have HO_223003 := n2_
              have BK192 := n3_
              have BK207 := n4_
              have BK214 := n5_
              have BK222 := n6_
              have HB := n7_
              clear n0_ n1_ n2_ n3_ n4_ n5_ n6_ n7_
              refine start_ (n := 5) (S := fun w' => w'.cell? ⟨gb214, 0, none⟩ = some (.string t208) ∧ w'.cell? ⟨gb214, 1, none⟩ = some (.string t209) ∧ w'.cell? ⟨gb214, 2, none⟩ = some (.string t210) ∧ w'.cell? ⟨gb214, 3, none⟩ = some (.slice Ao32 t211.length co32) ∧ w'.cell? ⟨gb192, 0, none⟩ = some (.string a0_0) ∧ w'.cell? ⟨gb192, 1, none⟩ = some (.string a0_1) ∧ w'.cell? ⟨gb192, 2, none⟩ = some (.string a0_2) ∧ w'.cell? ⟨gb192, 3, none⟩ = some (.slice A0_3 l0_3.length c0_3)) (ds := []) #[false, false, false, false, false] (by kernel_rfl) rfl rfl ⟨(blk_cell BK214.out 0).trans rfl, (blk_cell BK214.out 1).trans rfl, (blk_cell BK214.out 2).trans rfl, (blk_cell BK214.out 3).trans rfl, (blk_cell BK192.out 0).trans rfl, (blk_cell BK192.out 1).trans rfl, (blk_cell BK192.out 2).trans rfl, (blk_cell BK192.out 3).trans rfl⟩ (fun hHeld => ?_)
              generalize wc.drew = w62 at HO_208003 HO_215003 HO_223003 BK192 BK207 BK214 BK222 HB hHeld ⊢
              refine take_ (i := 0) (N := some 55) (v := ?_) (a' := ?_) #[true, false, false, false, false] rfl rfl (by kernel_rfl) (fun _ _ _ h => h) (Or.inl ⟨by rfl, ?_⟩) hHeld ?_ ?_
              rotate_left
              · rintro w' ⟨s0, s1, s2, s3, s4, s5, s6, s7⟩
                go_simp
                with_reducible rfl
              rotate_left
              · simp only [Act.put, List.setIfInBounds_toArray, List.set_cons_zero, List.set_cons_succ, i64_w, i32_w]
                rfl
              refine take_ (i := 1) (N := some 56) (v := ?_) (a' := ?_) #[true, true, false, false, false] rfl rfl (by kernel_rfl) (fun _ _ _ h => h) (Or.inl ⟨by rfl, ?_⟩) hHeld ?_ ?_
              rotate_left
              · rintro w' ⟨s0, s1, s2, s3, s4, s5, s6, s7⟩
                go_simp
                with_reducible rfl
              rotate_left
              · simp only [Act.put, List.setIfInBounds_toArray, List.set_cons_zero, List.set_cons_succ, i64_w, i32_w]
                rfl
              refine one_ (i := 2) (N := some 57) #[true, true, true, false, false] rfl rfl (by kernel_rfl) (by decide) (fun K hK => ?_)
              refine goes_ Try.func6 (by kernel_rfl) rfl #[.agg #[.string a0_0, .string a0_1, .string a0_2, .slice A0_3 l0_3.length c0_3]] (by rfl) rfl rfl (by (try simp only [List.map_toArray, List.map_cons, List.map_nil]); first | done | rfl | (simp only [List.length_drop, List.length_take]; rfl)) ?_
              with_reducible refine (laws_toNode.calls kj16 a0_0 a0_1 a0_2 _ _ l0_3 t224 t225 t226 t227 _ ?side1 ?side2 A59.out).mono ?_
              (case side1 => repeat (first | exact (Kd.C_below HR0_3.out HB.out) | (with_reducible refine Kd.C_alloc ?_ _) | (with_reducible refine Kd.C_drewN ?_ _) | (with_reducible refine Kd.C_drew ?_)))
              (case side2 => exact HC0_3.out)
              rintro e w63 ⟨v228, rfl, ho0, hb⟩
              refine ⟨_, rfl, ?_⟩
              have n0_ := Aside0.mk (Kd.S_elder' (by (with_reducible repeat (first | apply Kd.S_alloc | apply Kd.S_drewN | apply Kd.S_drew)); exact HO_208003.out) (Kd.S_base ho0) hb)
              have n1_ := Aside0.mk (Kd.S_elder' (by (with_reducible repeat (first | apply Kd.S_alloc | apply Kd.S_drewN | apply Kd.S_drew)); exact HO_215003.out) (Kd.S_base ho0) hb)
              have n2_ := Aside0.mk (Kd.S_elder' (by (with_reducible repeat (first | apply Kd.S_alloc | apply Kd.S_drewN | apply Kd.S_drew)); exact HO_223003.out) (Kd.S_base ho0) hb)
              have n3_ := Aside0.mk (Kd.S_lower (Kd.S_newB (Kd.S_newB (Kd.S_newB (Kd.S_new' (Kd.S_new' (Kd.S_new' ho0 (Kd.S_lt (by (with_reducible repeat (first | apply Kd.S_alloc | apply Kd.S_drewN | apply Kd.S_drew)); exact HO_208003.out))) (Kd.S_lt (by (with_reducible repeat (first | apply Kd.S_alloc | apply Kd.S_drewN | apply Kd.S_drew)); exact HO_215003.out))) (Kd.S_lt (by (with_reducible repeat (first | apply Kd.S_alloc | apply Kd.S_drewN | apply Kd.S_drew)); exact HO_223003.out))) (g := gb207) (o := .cells #[.string t200, .string t201, .string t202, .slice Ao25 t203.length co25] 28 (0, 0)) (by (with_reducible repeat (first | refine blk_drewN ?_ _ | refine blk_drew ?_ | refine blk_alloc ?_ _)); exact BK207.out)) (g := gb214) (o := .cells #[.string t208, .string t209, .string t210, .slice Ao32 t211.length co32] 28 (0, 0)) (by (with_reducible repeat (first | refine blk_drewN ?_ _ | refine blk_drew ?_ | refine blk_alloc ?_ _)); exact BK214.out)) (g := gb222) (o := .cells #[.string t215, .string t216, .string t217, .slice Ao39 t218.length co39] 28 (0, 0)) (by (with_reducible repeat (first | refine blk_drewN ?_ _ | refine blk_drew ?_ | refine blk_alloc ?_ _)); exact BK222.out)) (below_size (by repeat (first | (with_reducible first | exact HB.out | apply below_alloc | apply pw_below_drewN | apply below_drew1 | refine below_set ?_ GE192.out | refine below_set ?_ GE207.out | refine below_set ?_ GE214.out | refine below_set ?_ GE222.out) | exact HB.out))))
              have n4_ := Aside0.mk (blk_below (g := gb192) (o := .cells #[.string a0_0, .string a0_1, .string a0_2, .slice A0_3 l0_3.length c0_3] 24 (0, 0)) (by (with_reducible repeat (first | refine blk_drewN ?_ _ | refine blk_drew ?_ | refine blk_alloc ?_ _)); exact BK192.out) hb)
              have n5_ := Aside0.mk (blk_below (g := gb207) (o := .cells #[.string t200, .string t201, .string t202, .slice Ao25 t203.length co25] 28 (0, 0)) (by (with_reducible repeat (first | refine blk_drewN ?_ _ | refine blk_drew ?_ | refine blk_alloc ?_ _)); exact BK207.out) hb)
              have n6_ := Aside0.mk (blk_below (g := gb214) (o := .cells #[.string t208, .string t209, .string t210, .slice Ao32 t211.length co32] 28 (0, 0)) (by (with_reducible repeat (first | refine blk_drewN ?_ _ | refine blk_drew ?_ | refine blk_alloc ?_ _)); exact BK214.out) hb)
              have n7_ := Aside0.mk (blk_below (g := gb222) (o := .cells #[.string t215, .string t216, .string t217, .slice Ao39 t218.length co39] 28 (0, 0)) (by (with_reducible repeat (first | refine blk_drewN ?_ _ | refine blk_drew ?_ | refine blk_alloc ?_ _)); exact BK222.out) hb)
              have n8_ := Aside0.mk (below_step (by repeat (first | (with_reducible first | exact HB.out | apply below_alloc | apply pw_below_drewN | apply below_drew1 | refine below_set ?_ GE192.out | refine below_set ?_ GE207.out | refine below_set ?_ GE214.out | refine below_set ?_ GE222.out) | exact HB.out)) hb)
              clear HO_208003
              clear HO_215003
              clear HO_223003
              clear BK192
              clear BK207
              clear BK214
              clear BK222
              clear HB
              have HO_208003 := n0_
              have HO_215003 := n1_
              have HO_223003 := n2_
              have HO229 := n3_
              have BK192 := n4_
              have BK207 := n5_
              have BK214 := n6_
              have BK222 := n7_
              have HB := n8_
              clear n0_ n1_ n2_ n3_ n4_ n5_ n6_ n7_ n8_
              (try clear hb)
              (try clear hb2)
              (try clear hk)
              (try clear hi)
              (try clear ho0)
              obtain ⟨Ao64, co64, eo64⟩ := Kd.S_slice HO229.out
              (first | subst eo64 | (injection eo64 with f1_ f2_ f3_; have f4_ := f1_.symm; have f5_ := f3_.symm; clear f1_ f2_ f3_; subst f4_; subst f5_))
              refine hK.out _ _ ⟨(blk_cell BK214.out 0).trans rfl, (blk_cell BK214.out 1).trans rfl, (blk_cell BK214.out 2).trans rfl, (blk_cell BK214.out 3).trans rfl, (blk_cell BK192.out 0).trans rfl, (blk_cell BK192.out 1).trans rfl, (blk_cell BK192.out 2).trans rfl, (blk_cell BK192.out 3).trans rfl⟩ (fun hHeld => ?_)
              clear hK K
              refine norm_ (a' := ?_) ?_ ?_
              rotate_left
              · show Act.put _ (some 57) _ = _
                simp only [Act.put, List.setIfInBounds_toArray, List.set_cons_zero, List.set_cons_succ, i64_w, i32_w]
                rfl
              refine one_ (i := 3) (N := some 58) #[true, true, true, true, false] rfl rfl (by kernel_rfl) (by decide) (fun K hK => ?_)
              refine goes_ Try.func8 (by kernel_rfl) rfl #[.agg #[.string t208, .string t209, .string t210, .slice Ao32 t211.length co32], .agg #[.string t224, .string t225, .string t226, .slice Ao64 t227.length co64]] (by rfl) rfl rfl (by (try simp only [List.map_toArray, List.map_cons, List.map_nil]); first | done | rfl | (simp only [List.length_drop, List.length_take]; rfl)) ?_
              with_reducible refine (laws_eqNode.calls kj16 t208 t209 t210 _ _ t211 t224 t225 t226 _ _ t227 t230 _ ?side1 ?side2 ?side3 ?side4 A60.out).mono ?_
              (case side1 => repeat (first | exact (Kd.S_reads' HO_215003.out).2.2 | (with_reducible refine Kd.C_alloc ?_ _) | (with_reducible refine Kd.C_drewN ?_ _) | (with_reducible refine Kd.C_drew ?_)))
              (case side2 => exact (Kd.S_reads' HO_215003.out).2.1)
              (case side3 => repeat (first | exact (Kd.S_reads' HO229.out).2.2 | (with_reducible refine Kd.C_alloc ?_ _) | (with_reducible refine Kd.C_drewN ?_ _) | (with_reducible refine Kd.C_drew ?_)))
              (case side4 => exact (Kd.S_reads' HO229.out).2.1)
              rintro e w65 ⟨rfl, hb⟩
              refine ⟨_, rfl, ?_⟩
              have n0_ := Aside0.mk (Kd.S_below (by (with_reducible repeat (first | apply Kd.S_alloc | apply Kd.S_drewN | apply Kd.S_drew)); exact HO_208003.out) hb)
              have n1_ := Aside0.mk (Kd.S_below (by (with_reducible repeat (first | apply Kd.S_alloc | apply Kd.S_drewN | apply Kd.S_drew)); exact HO_215003.out) hb)
              have n2_ := Aside0.mk (Kd.S_below (by (with_reducible repeat (first | apply Kd.S_alloc | apply Kd.S_drewN | apply Kd.S_drew)); exact HO_223003.out) hb)
              have n3_ := Aside0.mk (Kd.S_below (by (with_reducible repeat (first | apply Kd.S_alloc | apply Kd.S_drewN | apply Kd.S_drew)); exact HO229.out) hb)
              have n4_ := Aside0.mk (blk_below (g := gb192) (o := .cells #[.string a0_0, .string a0_1, .string a0_2, .slice A0_3 l0_3.length c0_3] 24 (0, 0)) (by (with_reducible repeat (first | refine blk_drewN ?_ _ | refine blk_drew ?_ | refine blk_alloc ?_ _)); exact BK192.out) hb)
              have n5_ := Aside0.mk (blk_below (g := gb207) (o := .cells #[.string t200, .string t201, .string t202, .slice Ao25 t203.length co25] 28 (0, 0)) (by (with_reducible repeat (first | refine blk_drewN ?_ _ | refine blk_drew ?_ | refine blk_alloc ?_ _)); exact BK207.out) hb)
              have n6_ := Aside0.mk (blk_below (g := gb214) (o := .cells #[.string t208, .string t209, .string t210, .slice Ao32 t211.length co32] 28 (0, 0)) (by (with_reducible repeat (first | refine blk_drewN ?_ _ | refine blk_drew ?_ | refine blk_alloc ?_ _)); exact BK214.out) hb)
              have n7_ := Aside0.mk (blk_below (g := gb222) (o := .cells #[.string t215, .string t216, .string t217, .slice Ao39 t218.length co39] 28 (0, 0)) (by (with_reducible repeat (first | refine blk_drewN ?_ _ | refine blk_drew ?_ | refine blk_alloc ?_ _)); exact BK222.out) hb)
              have n8_ := Aside0.mk (below_step (by repeat (first | (with_reducible first | exact HB.out | apply below_alloc | apply pw_below_drewN | apply below_drew1 | refine below_set ?_ GE192.out | refine below_set ?_ GE207.out | refine below_set ?_ GE214.out | refine below_set ?_ GE222.out) | exact HB.out)) hb)
              clear HO_208003
              clear HO_215003
              clear HO_223003
              clear HO229
              clear BK192
              clear BK207
              clear BK214
              clear BK222
              clear HB
              have HO_208003 := n0_
              have HO_215003 := n1_
              have HO_223003 := n2_
              have HO229 := n3_
              have BK192 := n4_
              have BK207 := n5_
              have BK214 := n6_
              have BK222 := n7_
              have HB := n8_
              clear n0_ n1_ n2_ n3_ n4_ n5_ n6_ n7_ n8_
              (try clear hb)
              (try clear hb2)
              (try clear hk)
              (try clear hi)
              refine hK.out _ _ ⟨(blk_cell BK214.out 0).trans rfl, (blk_cell BK214.out 1).trans rfl, (blk_cell BK214.out 2).trans rfl, (blk_cell BK214.out 3).trans rfl, (blk_cell BK192.out 0).trans rfl, (blk_cell BK192.out 1).trans rfl, (blk_cell BK192.out 2).trans rfl, (blk_cell BK192.out 3).trans rfl⟩ (fun hHeld => ?_)
              clear hK K
              refine norm_ (a' := ?_) ?_ ?_
              rotate_left
              · show Act.put _ (some 58) _ = _
                simp only [Act.put, List.setIfInBounds_toArray, List.set_cons_zero, List.set_cons_succ, i64_w, i32_w]
                rfl
              refine pure_ (i := 4) (N := some 59) (v := ?_) (a' := ?_) #[true, true, true, true, true] rfl rfl (by kernel_rfl) (fun _ _ _ h => h) (Or.inl ⟨by rfl, ?_⟩) ?_ ?_
              rotate_left
              · intro w'
                go_simp
                with_reducible rfl
              rotate_left
              · simp only [Act.put, List.setIfInBounds_toArray, List.set_cons_zero, List.set_cons_succ, i64_w, i32_w]
                rfl
              refine done_ (by kernel_rfl) ?_
              go_upto_if 59 with (fail)
              have H := HC61.out
              clear HC61
              by_cases c66 : t230 = true
              · subst c66
                have H1 : ((laws_markNode.f kj16 t208 t209 t210 t211 1).bind fun bt231 => (if bt231.1 < 0 then (laws_FnExactKidOf.j1 kj16 a1 a2 t206 true a0_0 a0_1 a0_2 l0_3 t200 t201 t202 t203 t215 t216 t217 t218) else ((laws_eqNode.f kj16 t215 t216 t217 t218 t200 t201 t202 t203).bind fun t233 => (if t233 = true then (laws_FnExactKidOf.j1 kj16 a1 a2 t206 (t221 != t206) a0_0 a0_1 a0_2 l0_3 t200 t201 t202 t203 t215 t216 t217 t218) else (laws_FnExactKidOf.j1 kj16 a1 a2 t206 true a0_0 a0_1 a0_2 l0_3 t200 t201 t202 t203 t215 t216 t217 t218))))) = some true := by rw [if_pos rfl] at H; exact H
                clear H
                have H := H1
                clear H1
                replace H := Option.bind_eq_some_iff.mp H
                obtain ⟨⟨t231, t232⟩, A670, H⟩ := H
                replace H : (if t231 < 0 then (laws_FnExactKidOf.j1 kj16 a1 a2 t206 true a0_0 a0_1 a0_2 l0_3 t200 t201 t202 t203 t215 t216 t217 t218) else ((laws_eqNode.f kj16 t215 t216 t217 t218 t200 t201 t202 t203).bind fun t233 => (if t233 = true then (laws_FnExactKidOf.j1 kj16 a1 a2 t206 (t221 != t206) a0_0 a0_1 a0_2 l0_3 t200 t201 t202 t203 t215 t216 t217 t218) else (laws_FnExactKidOf.j1 kj16 a1 a2 t206 true a0_0 a0_1 a0_2 l0_3 t200 t201 t202 t203 t215 t216 t217 t218)))) = some true := H
                have A67 := Aside0.mk A670
                clear A670
                have HC68 := Aside0.mk H
                clear H
                have hnb69 := NB214_192.out
                have hnc69 := NB192_214.out
                have hnb70 := NB214_207.out
                have hnc70 := NB207_214.out
                have hnb71 := NB214_222.out
                have hnc71 := NB222_214.out
                have hcz72_0 : w65.cell? ⟨gb214, 0, none⟩ = some (.string t208) := (blk_cell BK214.out 0).trans rfl
                have hcz72_1 : w65.cell? ⟨gb214, 1, none⟩ = some (.string t209) := (blk_cell BK214.out 1).trans rfl
                have hcz72_2 : w65.cell? ⟨gb214, 2, none⟩ = some (.string t210) := (blk_cell BK214.out 2).trans rfl
                have hcz72_3 : w65.cell? ⟨gb214, 3, none⟩ = some (.slice Ao32 t211.length co32) := (blk_cell BK214.out 3).trans rfl
                have hfz72_0 := blk_frozen BK214.out 0
                have hfz72_1 := blk_frozen BK214.out 1
                have hfz72_2 := blk_frozen BK214.out 2
                have hfz72_3 := blk_frozen BK214.out 3
                go_upto_region 18 with (first | ((with_reducible refine gate_callee (f := 9) rfl ?_); refine goesL_ (some 62) rfl rfl Try.func9 (by kernel_rfl) rfl #[.agg #[.string t208, .string t209, .string t210, .slice Ao32 t211.length co32], .int .i64 1] rfl (by (try simp only [List.map_toArray, List.map_cons, List.map_nil]); first | done | rfl | (simp only [List.length_drop, List.length_take]; rfl)) ?_; (with_reducible refine (laws_markNode.calls kj16 t208 t209 t210 (fun k_ => nb1_ ≤ k_ ∧ k_ < nb2_ ∧ k_ ≠ gb207 ∧ k_ ≠ gb214 ∧ k_ ≠ gb222) (.slice Ao32 t211.length co32) t211 1 t231 t232 w _ ?side1 ?side2 A67.out).mono ?_); (case side1 => repeat (first | (with_reducible first | exact HB.out | apply below_alloc | apply pw_below_drewN | apply below_drew1 | refine below_set ?_ GE192.out | refine below_set ?_ GE207.out | refine below_set ?_ GE214.out | refine below_set ?_ GE222.out) | exact HB.out)); (case side2 => exact Kd.S_mono HO_215003.out (fun _ hk => hk.1)); rintro e w73 ⟨rfl, hy0, hb, hkp⟩; refine ⟨_, rfl, ?_⟩; obtain ⟨nb3_, hnb3_⟩ := Kd.nbOfK hkp; have n0_ := Aside0.mk (Kd.S_mono (ok' := fun k_ => k_ < nb1_ ∧ k_ < nb2_ ∧ some k_ ≠ (.slice Ao64 t227.length co64 : Value).ownBlock ∧ k_ ≠ gb207 ∧ k_ ≠ gb214 ∧ k_ ≠ gb222) (Kd.S_kept HO_208003.out hkp (fun k_ hk_ hs_ => absurd hs_.1 (Nat.not_le.2 hk_.1.1))) (fun k_ hk_ => ⟨hk_.1.1, hk_.1.2.1, hk_.2, hk_.1.2.2.1, hk_.1.2.2.2.1, hk_.1.2.2.2.2⟩)); have n1_ := Aside0.mk (Kd.S_mono (ok' := fun k_ => (True ∧ (k_ < nb2_ ∨ nb3_ ≤ k_) ∧ k_ ≠ gb207 ∧ k_ ≠ gb214 ∧ k_ ≠ gb222) ∧ True) hy0 (fun k_ hk => ⟨⟨trivial, hk.elim (fun h_ => .inl h_.2.1) (fun h_ => .inr (by rw [hnb3_]; exact h_)), hk.elim (fun h_ => h_.2.2.1) (fun h_ e_ => by subst e_; exact absurd (blk_lt BK207.out) (Nat.not_lt.2 h_)), hk.elim (fun h_ => h_.2.2.2.1) (fun h_ e_ => by subst e_; exact absurd (blk_lt BK214.out) (Nat.not_lt.2 h_)), hk.elim (fun h_ => h_.2.2.2.2) (fun h_ e_ => by subst e_; exact absurd (blk_lt BK222.out) (Nat.not_lt.2 h_))⟩, trivial⟩)); have n2_ := Aside0.mk (Kd.S_mono (ok' := fun k_ => nb2_ ≤ k_ ∧ k_ < nb3_ ∧ some k_ ≠ (.slice Ao64 t227.length co64 : Value).ownBlock ∧ k_ ≠ gb207 ∧ k_ ≠ gb214 ∧ k_ ≠ gb222) (Kd.S_kept (Kd.S_bound HO_223003.out) hkp (fun k_ hk_ hs_ => absurd hs_.2.1 (Nat.not_lt.2 hk_.1.1.1))) (fun k_ hk_ => ⟨hk_.1.1.1, by rw [hnb3_]; exact hk_.2.2.1, hk_.1.2, hk_.1.1.2.2.1, hk_.1.1.2.2.2.1, hk_.1.1.2.2.2.2⟩)); have n3_ := Aside0.mk (blk_kept BK192.out hkp (fun hs_ => absurd hs_.1 (Nat.not_le.2 HG192.out))); have n4_ := Aside0.mk (blk_kept BK207.out hkp (fun hs_ => hs_.2.2.1 rfl)); have n5_ := Aside0.mk (blk_kept BK214.out hkp (fun hs_ => hs_.2.2.2.1 rfl)); have n6_ := Aside0.mk (blk_kept BK222.out hkp (fun hs_ => hs_.2.2.2.2 rfl)); have n8_ := Aside0.mk (hb); clear HO_208003; clear HO_215003; clear HO_223003; clear BK192; clear BK207; clear BK214; clear BK222; clear HB; have HO_208003 := n0_; have HO_215003 := n1_; have HO_223003 := n2_; have BK192 := n3_; have BK207 := n4_; have BK214 := n5_; have BK222 := n6_; have HB := n8_; clear n0_ n1_ n2_ n3_ n4_ n5_ n6_ n8_; (try clear hb); (try clear hkp); (try clear hy0)))
                (try simp only [Act.put, List.setIfInBounds_toArray, List.set_cons_zero, List.set_cons_succ])
                go_cut [75] (fun v75 wc => ∃ (kq : Nat) (x75_67 : Bool), v75 = .bool x75_67 ∧ Aside0 (laws_FnExactKidOf.j1 kq a1 a2 t206 x75_67 a0_0 a0_1 a0_2 l0_3 t200 t201 t202 t203 t215 t216 t217 t218 = some true) ∧ Aside0 (kq ≤ kj16) ∧ Aside0 (Kd.S k28 28 wc w.heap.size (fun k_ => k_ < nb1_ ∧ k_ < nb2_ ∧ k_ ≠ gb207 ∧ k_ ≠ gb214 ∧ k_ ≠ gb222) (.slice Ao25 t203.length co25) t203) ∧ Aside0 (Kd.S k28 28 wc w.heap.size (fun k_ => True ∧ (k_ < nb2_ ∨ nb3_ ≤ k_) ∧ k_ ≠ gb207 ∧ k_ ≠ gb214 ∧ k_ ≠ gb222) (.slice Ao32 t211.length co32) t232) ∧ Aside0 (Kd.S k28 28 wc w.heap.size (fun k_ => nb2_ ≤ k_ ∧ k_ < nb3_ ∧ k_ ≠ gb207 ∧ k_ ≠ gb214 ∧ k_ ≠ gb222) (.slice Ao39 t218.length co39) t218) ∧ Aside0 (wc.heap[gb192]? = some (.cells #[.string a0_0, .string a0_1, .string a0_2, (.slice A0_3 l0_3.length c0_3)] 24 (0, 0))) ∧ Aside0 (wc.heap[gb207]? = some (.cells #[.string t200, .string t201, .string t202, (.slice Ao25 t203.length co25)] 28 (0, 0))) ∧ Aside0 (wc.heap[gb214]? = some (.cells #[.string t208, .string t209, .string t210, (.slice Ao32 t211.length co32)] 28 (0, 0))) ∧ Aside0 (wc.heap[gb222]? = some (.cells #[.string t215, .string t216, .string t217, (.slice Ao39 t218.length co39)] 28 (0, 0))) ∧ Aside0 (Below w.heap.size w wc))
                case first =>
                  have H := HC68.out
                  clear HC68
                  by_cases c74 : t231 < 0
                  · rw [if_pos c74] at H
                    have c74b0 : decide (t231 < 0) = true := decide_eq_true c74
                    clear c74
                    (first | rw [c74b0] | rw [c74i0] | (simp only [i64_w, i32_w]; rw [c74b0]) | skip)
                    exact absurd H (laws_FnExactKidOf.j1_true _ _ _ _ _ _ _ _ _ _ _ _ _ _ _ _)
                  · rw [if_neg c74] at H
                    have c74b0 : decide (t231 < 0) = false := decide_eq_false c74
                    clear c74
                    (first | rw [c74b0] | rw [c74i0] | (simp only [i64_w, i32_w]; rw [c74b0]) | skip)
                    replace H := Option.bind_eq_some_iff.mp H
                    obtain ⟨t233, A750, H⟩ := H
                    replace H : (if t233 = true then (laws_FnExactKidOf.j1 kj16 a1 a2 t206 (t221 != t206) a0_0 a0_1 a0_2 l0_3 t200 t201 t202 t203 t215 t216 t217 t218) else (laws_FnExactKidOf.j1 kj16 a1 a2 t206 true a0_0 a0_1 a0_2 l0_3 t200 t201 t202 t203 t215 t216 t217 t218)) = some true := H
                    have A75 := Aside0.mk A750
                    clear A750
                    by_cases c76 : t233 = true
                    · subst c76
                      have H1 : (laws_FnExactKidOf.j1 kj16 a1 a2 t206 (t221 != t206) a0_0 a0_1 a0_2 l0_3 t200 t201 t202 t203 t215 t216 t217 t218) = some true := by rw [if_pos rfl] at H; exact H
                      clear H
                      have H := H1
                      clear H1
                      have H' := Aside0.mk H
                      clear H
                      have hnb77 := NB222_192.out
                      have hnc77 := NB192_222.out
                      have hnb78 := NB222_207.out
                      have hnc78 := NB207_222.out
                      have hnb79 := NB222_214.out
                      have hnc79 := NB214_222.out
                      have hcz80_0 : w73.cell? ⟨gb222, 0, none⟩ = some (.string t215) := (blk_cell BK222.out 0).trans rfl
                      have hcz80_1 : w73.cell? ⟨gb222, 1, none⟩ = some (.string t216) := (blk_cell BK222.out 1).trans rfl
                      have hcz80_2 : w73.cell? ⟨gb222, 2, none⟩ = some (.string t217) := (blk_cell BK222.out 2).trans rfl
                      have hcz80_3 : w73.cell? ⟨gb222, 3, none⟩ = some (.slice Ao39 t218.length co39) := (blk_cell BK222.out 3).trans rfl
                      have hfz80_0 := blk_frozen BK222.out 0
                      have hfz80_1 := blk_frozen BK222.out 1
                      have hfz80_2 := blk_frozen BK222.out 2
                      have hfz80_3 := blk_frozen BK222.out 3
                      have hnb81 := NB207_192.out
                      have hnc81 := NB192_207.out
                      have hnb82 := NB207_214.out
                      have hnc82 := NB214_207.out
                      have hcz83_0 : w73.cell? ⟨gb207, 0, none⟩ = some (.string t200) := (blk_cell BK207.out 0).trans rfl
                      have hcz83_1 : w73.cell? ⟨gb207, 1, none⟩ = some (.string t201) := (blk_cell BK207.out 1).trans rfl
                      have hcz83_2 : w73.cell? ⟨gb207, 2, none⟩ = some (.string t202) := (blk_cell BK207.out 2).trans rfl
                      have hcz83_3 : w73.cell? ⟨gb207, 3, none⟩ = some (.slice Ao25 t203.length co25) := (blk_cell BK207.out 3).trans rfl
                      have hfz83_0 := blk_frozen BK207.out 0
                      have hfz83_1 := blk_frozen BK207.out 1
                      have hfz83_2 := blk_frozen BK207.out 2
                      have hfz83_3 := blk_frozen BK207.out 3
                      go_wp2_with (first | (go_at_call 8; (with_reducible refine (laws_eqNode.calls kj16 t215 t216 t217 _ _ t218 t200 t201 t202 _ _ t203 true _ ?side1 ?side2 ?side3 ?side4 A75.out).mono ?_); (case side1 => repeat (first | exact (Kd.S_reads' HO_223003.out).2.2 | (with_reducible refine Kd.C_alloc ?_ _) | (with_reducible refine Kd.C_drewN ?_ _) | (with_reducible refine Kd.C_drew ?_))); (case side2 => exact (Kd.S_reads' HO_223003.out).2.1); (case side3 => repeat (first | exact (Kd.S_reads' HO_208003.out).2.2 | (with_reducible refine Kd.C_alloc ?_ _) | (with_reducible refine Kd.C_drewN ?_ _) | (with_reducible refine Kd.C_drew ?_))); (case side4 => exact (Kd.S_reads' HO_208003.out).2.1); rintro e w84 ⟨rfl, hb⟩; have n0_ := Aside0.mk (Kd.S_below (by (with_reducible repeat (first | apply Kd.S_alloc | apply Kd.S_drewN | apply Kd.S_drew)); exact HO_208003.out) hb); have n1_ := Aside0.mk (Kd.S_below (by (with_reducible repeat (first | apply Kd.S_alloc | apply Kd.S_drewN | apply Kd.S_drew)); exact HO_215003.out) hb); have n2_ := Aside0.mk (Kd.S_below (by (with_reducible repeat (first | apply Kd.S_alloc | apply Kd.S_drewN | apply Kd.S_drew)); exact HO_223003.out) hb); have n4_ := Aside0.mk (blk_below (g := gb192) (o := .cells #[.string a0_0, .string a0_1, .string a0_2, .slice A0_3 l0_3.length c0_3] 24 (0, 0)) (by (with_reducible repeat (first | refine blk_drewN ?_ _ | refine blk_drew ?_ | refine blk_alloc ?_ _)); exact BK192.out) hb); have n5_ := Aside0.mk (blk_below (g := gb207) (o := .cells #[.string t200, .string t201, .string t202, .slice Ao25 t203.length co25] 28 (0, 0)) (by (with_reducible repeat (first | refine blk_drewN ?_ _ | refine blk_drew ?_ | refine blk_alloc ?_ _)); exact BK207.out) hb); have n6_ := Aside0.mk (blk_below (g := gb214) (o := .cells #[.string t208, .string t209, .string t210, .slice Ao32 t211.length co32] 28 (0, 0)) (by (with_reducible repeat (first | refine blk_drewN ?_ _ | refine blk_drew ?_ | refine blk_alloc ?_ _)); exact BK214.out) hb); have n7_ := Aside0.mk (blk_below (g := gb222) (o := .cells #[.string t215, .string t216, .string t217, .slice Ao39 t218.length co39] 28 (0, 0)) (by (with_reducible repeat (first | refine blk_drewN ?_ _ | refine blk_drew ?_ | refine blk_alloc ?_ _)); exact BK222.out) hb); have n8_ := Aside0.mk (below_step (by repeat (first | (with_reducible first | exact HB.out | apply below_alloc | apply pw_below_drewN | apply below_drew1 | refine below_set ?_ GE192.out | refine below_set ?_ GE207.out | refine below_set ?_ GE214.out | refine below_set ?_ GE222.out) | exact HB.out)) hb); clear HO_208003; clear HO_215003; clear HO_223003; clear BK192; clear BK207; clear BK214; clear BK222; clear HB; have HO_208003 := n0_; have HO_215003 := n1_; have HO_223003 := n2_; have BK192 := n4_; have BK207 := n5_; have BK214 := n6_; have BK222 := n7_; have HB := n8_; clear n0_ n1_ n2_ n4_ n5_ n6_ n7_ n8_; (try clear hb); (try clear hb2); (try clear hk); (try clear hi)))
                      go_meet
                      case rel => exact ⟨_, ((t221 != t206)), (by first | rfl | (simp; done) | (simp [*]; done) | (simp [empty_ne, *]; done)), H', ⟨by have := HJ16.out; first | omega | exact Nat.le_refl _⟩, ⟨by (with_reducible repeat (first | apply Kd.S_alloc | apply Kd.S_drewN | apply Kd.S_drew)); exact Kd.S_mono HO_208003.out (fun _ hk => ⟨hk.1, ⟨hk.2.1, ⟨hk.2.2.2.1, ⟨hk.2.2.2.2.1, hk.2.2.2.2.2⟩⟩⟩⟩)⟩, ⟨by (with_reducible repeat (first | apply Kd.S_alloc | apply Kd.S_drewN | apply Kd.S_drew)); exact Kd.S_mono HO_215003.out (fun _ hk => ⟨hk.1.1, ⟨hk.1.2.1, ⟨hk.1.2.2.1, ⟨hk.1.2.2.2.1, hk.1.2.2.2.2⟩⟩⟩⟩)⟩, ⟨by (with_reducible repeat (first | apply Kd.S_alloc | apply Kd.S_drewN | apply Kd.S_drew)); exact Kd.S_mono HO_223003.out (fun _ hk => ⟨hk.1, ⟨hk.2.1, ⟨hk.2.2.2.1, ⟨hk.2.2.2.2.1, hk.2.2.2.2.2⟩⟩⟩⟩)⟩, ⟨by (with_reducible repeat (first | refine blk_drewN ?_ _ | refine blk_drew ?_ | refine blk_alloc ?_ _)); exact BK192.out⟩, ⟨by (with_reducible repeat (first | refine blk_drewN ?_ _ | refine blk_drew ?_ | refine blk_alloc ?_ _)); exact BK207.out⟩, ⟨by (with_reducible repeat (first | refine blk_drewN ?_ _ | refine blk_drew ?_ | refine blk_alloc ?_ _)); exact BK214.out⟩, ⟨by (with_reducible repeat (first | refine blk_drewN ?_ _ | refine blk_drew ?_ | refine blk_alloc ?_ _)); exact BK222.out⟩, ⟨by repeat (first | (with_reducible first | exact HB.out | apply below_alloc | apply pw_below_drewN | apply below_drew1 | refine below_set ?_ GE192.out | refine below_set ?_ GE207.out | refine below_set ?_ GE214.out | refine below_set ?_ GE222.out) | exact HB.out)⟩⟩
                    · replace c76 := Bool.eq_false_iff.mpr c76
                      subst c76
                      have H1 : (laws_FnExactKidOf.j1 kj16 a1 a2 t206 true a0_0 a0_1 a0_2 l0_3 t200 t201 t202 t203 t215 t216 t217 t218) = some true := by rw [if_neg (show ¬ (false = true) by decide)] at H; exact H
                      clear H
                      have H := H1
                      clear H1
                      exact absurd H (laws_FnExactKidOf.j1_true _ _ _ _ _ _ _ _ _ _ _ _ _ _ _ _)
                case rest =>
                  clear HC68
                  try clear c1
                  try clear c2
                  try clear p2
                  try clear c3
                  try clear c4
                  try clear c5
                  try clear c6
                  try clear c6b0
                  try clear c6b1
                  try clear c7
                  try clear c7b0
                  try clear c7b1
                  try clear c8
                  try clear c9
                  try clear c12
                  try clear c12b0
                  try clear c23
                  try clear c29
                  try clear c30
                  try clear c35
                  try clear c36
                  try clear c37
                  try clear c41
                  try clear c42
                  try clear c43
                  try clear c44
                  try clear c46
                  try clear c47
                  try clear c50
                  try clear c51
                  try clear c52
                  try clear c54
                  try clear c55
                  try clear c58
                  try clear c66
                  try clear c69
                  try clear c70
                  try clear c71
                  try clear c74
                  try clear c74b0
                  try clear c76
                  try clear c77
                  try clear c78
                  try clear c79
                  try clear c81
                  try clear c82
                  try clear c85
                  try clear c86
                  try clear c87
                  try clear c89
                  try clear c90
                  try clear hcz10_0
                  try clear hcz10_1
                  try clear hcz10_2
                  try clear hcz10_3
                  try clear hcz18_0
                  try clear hcz18_1
                  try clear hcz18_2
                  try clear hcz18_3
                  try clear hcz24_0
                  try clear hcz24_1
                  try clear hcz24_2
                  try clear hcz24_3
                  try clear hcz26_0
                  try clear hcz26_1
                  try clear hcz26_2
                  try clear hcz26_3
                  try clear hcz31_0
                  try clear hcz31_1
                  try clear hcz31_2
                  try clear hcz31_3
                  try clear hcz38_0
                  try clear hcz38_1
                  try clear hcz38_2
                  try clear hcz38_3
                  try clear hcz45_0
                  try clear hcz45_1
                  try clear hcz45_2
                  try clear hcz45_3
                  try clear hcz48_0
                  try clear hcz48_1
                  try clear hcz48_2
                  try clear hcz48_3
                  try clear hcz53_0
                  try clear hcz53_1
                  try clear hcz53_2
                  try clear hcz53_3
                  try clear hcz56_0
                  try clear hcz56_1
                  try clear hcz56_2
                  try clear hcz56_3
                  try clear hcz72_0
                  try clear hcz72_1
                  try clear hcz72_2
                  try clear hcz72_3
                  try clear hcz80_0
                  try clear hcz80_1
                  try clear hcz80_2
                  try clear hcz80_3
                  try clear hcz83_0
                  try clear hcz83_1
                  try clear hcz83_2
                  try clear hcz83_3
                  try clear hcz88_0
                  try clear hcz88_1
                  try clear hcz88_2
                  try clear hcz88_3
                  try clear hcz91_0
                  try clear hcz91_1
                  try clear hcz91_2
                  try clear hcz91_3
                  try clear hfz10_0
                  try clear hfz10_1
                  try clear hfz10_2
                  try clear hfz10_3
                  try clear hfz18_0
                  try clear hfz18_1
                  try clear hfz18_2
                  try clear hfz18_3
                  try clear hfz24_0
                  try clear hfz24_1
                  try clear hfz24_2
                  try clear hfz24_3
                  try clear hfz26_0
                  try clear hfz26_1
                  try clear hfz26_2
                  try clear hfz26_3
                  try clear hfz31_0
                  try clear hfz31_1
                  try clear hfz31_2
                  try clear hfz31_3
                  try clear hfz38_0
                  try clear hfz38_1
                  try clear hfz38_2
                  try clear hfz38_3
                  try clear hfz45_0
                  try clear hfz45_1
                  try clear hfz45_2
                  try clear hfz45_3
                  try clear hfz48_0
                  try clear hfz48_1
                  try clear hfz48_2
                  try clear hfz48_3
                  try clear hfz53_0
                  try clear hfz53_1
                  try clear hfz53_2
                  try clear hfz53_3
                  try clear hfz56_0
                  try clear hfz56_1
                  try clear hfz56_2
                  try clear hfz56_3
                  try clear hfz72_0
                  try clear hfz72_1
                  try clear hfz72_2
                  try clear hfz72_3
                  try clear hfz80_0
                  try clear hfz80_1
                  try clear hfz80_2
                  try clear hfz80_3
                  try clear hfz83_0
                  try clear hfz83_1
                  try clear hfz83_2
                  try clear hfz83_3
                  try clear hfz88_0
                  try clear hfz88_1
                  try clear hfz88_2
                  try clear hfz88_3
                  try clear hfz91_0
                  try clear hfz91_1
                  try clear hfz91_2
                  try clear hfz91_3
                  try clear p2
                  obtain ⟨kq, x75_67, rfl, HA, HJ67, HO_208003, HO_215003, HO_223003, BK192, BK207, BK214, BK222, HB⟩ := hcut
                  have hl215003_67 := (Kd.S_reads' HO_215003.out).1
                  rw [hl215003_67] at HO_215003
                  (try simp only [hl215003_67])
                  (try simp only [hl215003_67] at BK192)
                  (try simp only [hl215003_67] at BK207)
                  (try simp only [hl215003_67] at BK214)
                  (try simp only [hl215003_67] at BK222)
                  (try simp only [hl215003_67] at HO_208003)
                  (try simp only [hl215003_67] at HO_223003)
                  cases kq with
                  | zero => exact absurd HA.out (by simp [laws_FnExactKidOf.j1])
                  | succ kj67 =>
                    have H := HA.out
                    clear HA
                    simp only [laws_FnExactKidOf.j1] at H
                    by_cases c93 : x75_67 = true
                    · subst c93
                      have H1 : (some false) = some true := by rw [if_pos rfl] at H; exact H
                      clear H
                      have H := H1
                      clear H1
                      have hr_ := Aside0.mk (Option.some.inj H); clear H
                      go_wp2
                      go_ret
                      exact ⟨by first | rfl | exact absurd hr_.out (by decide) | (have h_ := hr_.out; first | (subst h_; rfl) | (rw [h_]; done) | (simp only [h_]; done) | (simp at h_ ⊢; exact h_) | (simp at h_ ⊢; omega)) | (simp [errW_none, errW_some] <;> rfl) | (simp [*, errW_none, errW_some] <;> rfl), by repeat (first | (with_reducible first | exact HB.out | apply below_alloc | apply pw_below_drewN | apply below_drew1 | refine below_set ?_ GE192.out | refine below_set ?_ GE207.out | refine below_set ?_ GE214.out | refine below_set ?_ GE222.out) | exact HB.out)⟩
                    · replace c93 := Bool.eq_false_iff.mpr c93
                      subst c93
                      have H1 : ((laws_markNode.f kj67 t215 t216 t217 t218 1).bind fun bt234 => ((laws_heldNode.f kj67 t215 t216 t217 bt234.2 1).bind fun t236 => (if t236 < 0 then (some false) else (if t236 = bt234.1 then ((laws_toNode.f kj67 a0_0 a0_1 a0_2 l0_3).bind fun bt237 => ((impl_KidOf.f kj67 bt237.1 bt237.2.1 bt237.2.2.1 bt237.2.2.2 a1 a2).bind fun bt243 => ((laws_eqNode.f kj67 bt243.1 bt243.2.1 bt243.2.2.1 bt243.2.2.2.1 t200 t201 t202 t203).bind fun t251 => (if t251 = true then (laws_FnExactKidOf.j2 kj67 bt234.1 (bt243.2.2.2.2 != t206) t215 t216 t217 bt234.2) else (laws_FnExactKidOf.j2 kj67 bt234.1 true t215 t216 t217 bt234.2))))) else (some false))))) = some true := by rw [if_neg (show ¬ (false = true) by decide)] at H; exact H
                      clear H
                      have H := H1
                      clear H1
                      replace H := Option.bind_eq_some_iff.mp H
                      obtain ⟨⟨t234, t235⟩, A940, H⟩ := H
                      replace H : ((laws_heldNode.f kj67 t215 t216 t217 t235 1).bind fun t236 => (if t236 < 0 then (some false) else (if t236 = t234 then ((laws_toNode.f kj67 a0_0 a0_1 a0_2 l0_3).bind fun bt237 => ((impl_KidOf.f kj67 bt237.1 bt237.2.1 bt237.2.2.1 bt237.2.2.2 a1 a2).bind fun bt243 => ((laws_eqNode.f kj67 bt243.1 bt243.2.1 bt243.2.2.1 bt243.2.2.2.1 t200 t201 t202 t203).bind fun t251 => (if t251 = true then (laws_FnExactKidOf.j2 kj67 t234 (bt243.2.2.2.2 != t206) t215 t216 t217 t235) else (laws_FnExactKidOf.j2 kj67 t234 true t215 t216 t217 t235))))) else (some false)))) = some true := H
                      have A94 := Aside0.mk A940
                      clear A940
                      replace H := Option.bind_eq_some_iff.mp H
                      obtain ⟨t236, A950, H⟩ := H
                      replace H : (if t236 < 0 then (some false) else (if t236 = t234 then ((laws_toNode.f kj67 a0_0 a0_1 a0_2 l0_3).bind fun bt237 => ((impl_KidOf.f kj67 bt237.1 bt237.2.1 bt237.2.2.1 bt237.2.2.2 a1 a2).bind fun bt243 => ((laws_eqNode.f kj67 bt243.1 bt243.2.1 bt243.2.2.1 bt243.2.2.2.1 t200 t201 t202 t203).bind fun t251 => (if t251 = true then (laws_FnExactKidOf.j2 kj67 t234 (bt243.2.2.2.2 != t206) t215 t216 t217 t235) else (laws_FnExactKidOf.j2 kj67 t234 true t215 t216 t217 t235))))) else (some false))) = some true := H
                      have A95 := Aside0.mk A950
                      clear A950
                      have HC96 := Aside0.mk H
                      clear H
                      have hnb97 := NB222_192.out
                      have hnc97 := NB192_222.out
                      have hnb98 := NB222_207.out
                      have hnc98 := NB207_222.out
                      have hnb99 := NB222_214.out
                      have hnc99 := NB214_222.out
                      have hcz100_0 : wc.cell? ⟨gb222, 0, none⟩ = some (.string t215) := (blk_cell BK222.out 0).trans rfl
                      have hcz100_1 : wc.cell? ⟨gb222, 1, none⟩ = some (.string t216) := (blk_cell BK222.out 1).trans rfl
                      have hcz100_2 : wc.cell? ⟨gb222, 2, none⟩ = some (.string t217) := (blk_cell BK222.out 2).trans rfl
                      have hcz100_3 : wc.cell? ⟨gb222, 3, none⟩ = some (.slice Ao39 t218.length co39) := (blk_cell BK222.out 3).trans rfl
                      have hfz100_0 := blk_frozen BK222.out 0
                      have hfz100_1 := blk_frozen BK222.out 1
                      have hfz100_2 := blk_frozen BK222.out 2
                      have hfz100_3 := blk_frozen BK222.out 3
                      go_upto_if 83 with (first | ((with_reducible refine gate_callee (f := 9) rfl ?_); refine goesL_ (some 78) rfl rfl Try.func9 (by kernel_rfl) rfl #[.agg #[.string t215, .string t216, .string t217, .slice Ao39 t218.length co39], .int .i64 1] rfl (by (try simp only [List.map_toArray, List.map_cons, List.map_nil]); first | done | rfl | (simp only [List.length_drop, List.length_take]; rfl)) ?_; (with_reducible refine (laws_markNode.calls kj67 t215 t216 t217 (fun k_ => nb2_ ≤ k_ ∧ k_ < nb3_ ∧ k_ ≠ gb207 ∧ k_ ≠ gb214 ∧ k_ ≠ gb222) (.slice Ao39 t218.length co39) t218 1 t234 t235 w _ ?side1 ?side2 A94.out).mono ?_); (case side1 => repeat (first | (with_reducible first | exact HB.out | apply below_alloc | apply pw_below_drewN | apply below_drew1 | refine below_set ?_ GE192.out | refine below_set ?_ GE207.out | refine below_set ?_ GE214.out | refine below_set ?_ GE222.out) | exact HB.out)); (case side2 => exact HO_223003.out); rintro e w101 ⟨rfl, hy0, hb, hkp⟩; refine ⟨_, rfl, ?_⟩; have n0_ := Aside0.mk (Kd.S_kept HO_208003.out hkp (fun k_ hk_ hs_ => absurd hs_.1 (Nat.not_le.2 hk_.2.1))); have n1_ := Aside0.mk (Kd.S_kept HO_215003.out hkp (fun k_ hk_ hs_ => hk_.2.1.elim (fun h_ => absurd hs_.1 (Nat.not_le.2 h_)) (fun h_ => absurd hs_.2.1 (Nat.not_lt.2 h_)))); have n2_ := Aside0.mk (Kd.S_mono (ok' := fun k_ => True ∧ True ∧ k_ ≠ gb207 ∧ k_ ≠ gb214 ∧ k_ ≠ gb222) hy0 (fun k_ hk => ⟨trivial, trivial, hk.elim (fun h_ => h_.2.2.1) (fun h_ e_ => by subst e_; exact absurd (blk_lt BK207.out) (Nat.not_lt.2 h_)), hk.elim (fun h_ => h_.2.2.2.1) (fun h_ e_ => by subst e_; exact absurd (blk_lt BK214.out) (Nat.not_lt.2 h_)), hk.elim (fun h_ => h_.2.2.2.2) (fun h_ e_ => by subst e_; exact absurd (blk_lt BK222.out) (Nat.not_lt.2 h_))⟩)); have n3_ := Aside0.mk (blk_kept BK192.out hkp (fun hs_ => absurd hs_.1 (Nat.not_le.2 HG192b.out))); have n4_ := Aside0.mk (blk_kept BK207.out hkp (fun hs_ => hs_.2.2.1 rfl)); have n5_ := Aside0.mk (blk_kept BK214.out hkp (fun hs_ => hs_.2.2.2.1 rfl)); have n6_ := Aside0.mk (blk_kept BK222.out hkp (fun hs_ => hs_.2.2.2.2 rfl)); have n7_ := Aside0.mk (hb); clear HO_208003; clear HO_215003; clear HO_223003; clear BK192; clear BK207; clear BK214; clear BK222; clear HB; have HO_208003 := n0_; have HO_215003 := n1_; have HO_223003 := n2_; have BK192 := n3_; have BK207 := n4_; have BK214 := n5_; have BK222 := n6_; have HB := n7_; clear n0_ n1_ n2_ n3_ n4_ n5_ n6_ n7_; (try clear hb); (try clear hkp); (try clear hy0); have hcz102_0 : w101.cell? ⟨gb222, 0, none⟩ = some (.string t215) := (blk_cell BK222.out 0).trans rfl; have hcz102_1 : w101.cell? ⟨gb222, 1, none⟩ = some (.string t216) := (blk_cell BK222.out 1).trans rfl; have hcz102_2 : w101.cell? ⟨gb222, 2, none⟩ = some (.string t217) := (blk_cell BK222.out 2).trans rfl; have hcz102_3 : w101.cell? ⟨gb222, 3, none⟩ = some (.slice Ao39 t218.length co39) := (blk_cell BK222.out 3).trans rfl; have hfz102_0 := blk_frozen BK222.out 0; have hfz102_1 := blk_frozen BK222.out 1; have hfz102_2 := blk_frozen BK222.out 2; have hfz102_3 := blk_frozen BK222.out 3) | ((with_reducible refine gate_callee (f := 10) rfl ?_); refine goesL_ (some 81) rfl rfl Try.func10 (by kernel_rfl) rfl #[.agg #[.string t215, .string t216, .string t217, .slice Ao39 t235.length co39], .int .i64 1] rfl (by (try simp only [List.map_toArray, List.map_cons, List.map_nil]); first | done | (rw [show t235.length = t218.length from (Kd.S_reads' HO_223003.out).1.symm] <;> rfl) | rfl | (simp only [List.length_drop, List.length_take]; rfl)) ?_; (with_reducible refine (laws_heldNode.calls kj67 t215 t216 t217 _ _ t235 1 t236 _ ?side1 ?side2 A95.out).mono ?_); (case side1 => repeat (first | exact (Kd.S_reads' HO_223003.out).2.2 | (with_reducible refine Kd.C_alloc ?_ _) | (with_reducible refine Kd.C_drewN ?_ _) | (with_reducible refine Kd.C_drew ?_))); (case side2 => rw [show t235.length = t218.length from (Kd.S_reads' HO_223003.out).1.symm]; exact (Kd.S_reads' HO_223003.out).2.1); rintro e w103 ⟨rfl, hb⟩; refine ⟨_, rfl, ?_⟩; have n0_ := Aside0.mk (Kd.S_below (by (with_reducible repeat (first | apply Kd.S_alloc | apply Kd.S_drewN | apply Kd.S_drew)); exact HO_208003.out) hb); have n1_ := Aside0.mk (Kd.S_below (by (with_reducible repeat (first | apply Kd.S_alloc | apply Kd.S_drewN | apply Kd.S_drew)); exact HO_215003.out) hb); have n2_ := Aside0.mk (Kd.S_below (by (with_reducible repeat (first | apply Kd.S_alloc | apply Kd.S_drewN | apply Kd.S_drew)); exact HO_223003.out) hb); have n3_ := Aside0.mk (blk_below (g := gb192) (o := .cells #[.string a0_0, .string a0_1, .string a0_2, .slice A0_3 l0_3.length c0_3] 24 (0, 0)) (by (with_reducible repeat (first | refine blk_drewN ?_ _ | refine blk_drew ?_ | refine blk_alloc ?_ _)); exact BK192.out) hb); have n4_ := Aside0.mk (blk_below (g := gb207) (o := .cells #[.string t200, .string t201, .string t202, .slice Ao25 t203.length co25] 28 (0, 0)) (by (with_reducible repeat (first | refine blk_drewN ?_ _ | refine blk_drew ?_ | refine blk_alloc ?_ _)); exact BK207.out) hb); have n5_ := Aside0.mk (blk_below (g := gb214) (o := .cells #[.string t208, .string t209, .string t210, .slice Ao32 t232.length co32] 28 (0, 0)) (by (with_reducible repeat (first | refine blk_drewN ?_ _ | refine blk_drew ?_ | refine blk_alloc ?_ _)); exact BK214.out) hb); have n6_ := Aside0.mk (blk_below (g := gb222) (o := .cells #[.string t215, .string t216, .string t217, .slice Ao39 t218.length co39] 28 (0, 0)) (by (with_reducible repeat (first | refine blk_drewN ?_ _ | refine blk_drew ?_ | refine blk_alloc ?_ _)); exact BK222.out) hb); have n7_ := Aside0.mk (below_step (by repeat (first | (with_reducible first | exact HB.out | apply below_alloc | apply pw_below_drewN | apply below_drew1 | refine below_set ?_ GE192.out | refine below_set ?_ GE207.out | refine below_set ?_ GE214.out | refine below_set ?_ GE222.out) | exact HB.out)) hb); clear HO_208003; clear HO_215003; clear HO_223003; clear BK192; clear BK207; clear BK214; clear BK222; clear HB; have HO_208003 := n0_; have HO_215003 := n1_; have HO_223003 := n2_; have BK192 := n3_; have BK207 := n4_; have BK214 := n5_; have BK222 := n6_; have HB := n7_; clear n0_ n1_ n2_ n3_ n4_ n5_ n6_ n7_; (try clear hb); (try clear hb2); (try clear hk); (try clear hi)))
                      (try simp only [Act.put, List.setIfInBounds_toArray, List.set_cons_zero, List.set_cons_succ])
                      have H := HC96.out
                      clear HC96
                      by_cases c104 : t236 < 0
                      · rw [if_pos c104] at H
                        have c104b0 : decide (t236 < 0) = true := decide_eq_true c104
                        clear c104
                        (first | rw [c104b0] | rw [c104i0] | (simp only [i64_w, i32_w]; rw [c104b0]) | skip)
                        have hr_ := Aside0.mk (Option.some.inj H); clear H
                        go_wp2
                        go_ret
                        exact ⟨by first | rfl | exact absurd hr_.out (by decide) | (have h_ := hr_.out; first | (subst h_; rfl) | (rw [h_]; done) | (simp only [h_]; done) | (simp at h_ ⊢; exact h_) | (simp at h_ ⊢; omega)) | (simp [errW_none, errW_some] <;> rfl) | (simp [*, errW_none, errW_some] <;> rfl), by repeat (first | (with_reducible first | exact HB.out | apply below_alloc | apply pw_below_drewN | apply below_drew1 | refine below_set ?_ GE192.out | refine below_set ?_ GE207.out | refine below_set ?_ GE214.out | refine below_set ?_ GE222.out) | exact HB.out)⟩
                      · rw [if_neg c104] at H
                        have c104b0 : decide (t236 < 0) = false := decide_eq_false c104
                        clear c104
                        (first | rw [c104b0] | rw [c104i0] | (simp only [i64_w, i32_w]; rw [c104b0]) | skip)
                        by_cases c105 : t236 = t234
                        · rw [if_pos c105] at H
                          have c105b0 : (t236 == t234) = true := beq_iff_eq.mpr c105
                          have c105b1 : (t236 != t234) = false := bne_eq_false_iff_eq.mpr c105
                          clear c105
                          replace H := Option.bind_eq_some_iff.mp H
                          obtain ⟨⟨t237, t238, t239, t240⟩, A1060, H⟩ := H
                          replace H : ((impl_KidOf.f kj67 t237 t238 t239 t240 a1 a2).bind fun bt243 => ((laws_eqNode.f kj67 bt243.1 bt243.2.1 bt243.2.2.1 bt243.2.2.2.1 t200 t201 t202 t203).bind fun t251 => (if t251 = true then (laws_FnExactKidOf.j2 kj67 t234 (bt243.2.2.2.2 != t206) t215 t216 t217 t235) else (laws_FnExactKidOf.j2 kj67 t234 true t215 t216 t217 t235)))) = some true := H
                          have A106 := Aside0.mk A1060
                          clear A1060
                          replace H := Option.bind_eq_some_iff.mp H
                          obtain ⟨⟨t243, t244, t245, t246, t249⟩, A1070, H⟩ := H
                          replace H : ((laws_eqNode.f kj67 t243 t244 t245 t246 t200 t201 t202 t203).bind fun t251 => (if t251 = true then (laws_FnExactKidOf.j2 kj67 t234 (t249 != t206) t215 t216 t217 t235) else (laws_FnExactKidOf.j2 kj67 t234 true t215 t216 t217 t235))) = some true := H
                          have A107 := Aside0.mk A1070
                          clear A1070
                          have HC108 := Aside0.mk H
                          clear H
                          have hnb109 := NB192_207.out
                          have hnc109 := NB207_192.out
                          have hnb110 := NB192_214.out
                          have hnc110 := NB214_192.out
                          have hnb111 := NB192_222.out
                          have hnc111 := NB222_192.out
                          have hcz112_0 : w103.cell? ⟨gb192, 0, none⟩ = some (.string a0_0) := (blk_cell BK192.out 0).trans rfl
                          have hcz112_1 : w103.cell? ⟨gb192, 1, none⟩ = some (.string a0_1) := (blk_cell BK192.out 1).trans rfl
                          have hcz112_2 : w103.cell? ⟨gb192, 2, none⟩ = some (.string a0_2) := (blk_cell BK192.out 2).trans rfl
                          have hcz112_3 : w103.cell? ⟨gb192, 3, none⟩ = some (.slice A0_3 l0_3.length c0_3) := (blk_cell BK192.out 3).trans rfl
                          have hfz112_0 := blk_frozen BK192.out 0
                          have hfz112_1 := blk_frozen BK192.out 1
                          have hfz112_2 := blk_frozen BK192.out 2
                          have hfz112_3 := blk_frozen BK192.out 3
                          go_upto_region 29 with (first | ((with_reducible refine gate_callee (f := 6) rfl ?_); refine goesL_ (some 89) rfl rfl Try.func6 (by kernel_rfl) rfl #[.agg #[.string a0_0, .string a0_1, .string a0_2, .slice A0_3 l0_3.length c0_3]] rfl (by (try simp only [List.map_toArray, List.map_cons, List.map_nil]); first | done | rfl | (simp only [List.length_drop, List.length_take]; rfl)) ?_; (with_reducible refine (laws_toNode.calls kj67 a0_0 a0_1 a0_2 _ _ l0_3 t237 t238 t239 t240 _ ?side1 ?side2 A106.out).mono ?_); (case side1 => repeat (first | exact (Kd.C_below HR0_3.out HB.out) | (with_reducible refine Kd.C_alloc ?_ _) | (with_reducible refine Kd.C_drewN ?_ _) | (with_reducible refine Kd.C_drew ?_))); (case side2 => exact HC0_3.out); rintro e w113 ⟨v241, rfl, ho0, hb⟩; refine ⟨_, rfl, ?_⟩; have n0_ := Aside0.mk (Kd.S_elder' (by (with_reducible repeat (first | apply Kd.S_alloc | apply Kd.S_drewN | apply Kd.S_drew)); exact HO_208003.out) (Kd.S_base ho0) hb); have n1_ := Aside0.mk (Kd.S_elder' (by (with_reducible repeat (first | apply Kd.S_alloc | apply Kd.S_drewN | apply Kd.S_drew)); exact HO_215003.out) (Kd.S_base ho0) hb); have n2_ := Aside0.mk (Kd.S_elder' (by (with_reducible repeat (first | apply Kd.S_alloc | apply Kd.S_drewN | apply Kd.S_drew)); exact HO_223003.out) (Kd.S_base ho0) hb); have n3_ := Aside0.mk (Kd.S_lower (Kd.S_newB (Kd.S_newB (Kd.S_newB (Kd.S_new' (Kd.S_new' (Kd.S_new' ho0 (Kd.S_lt (by (with_reducible repeat (first | apply Kd.S_alloc | apply Kd.S_drewN | apply Kd.S_drew)); exact HO_208003.out))) (Kd.S_lt (by (with_reducible repeat (first | apply Kd.S_alloc | apply Kd.S_drewN | apply Kd.S_drew)); exact HO_215003.out))) (Kd.S_lt (by (with_reducible repeat (first | apply Kd.S_alloc | apply Kd.S_drewN | apply Kd.S_drew)); exact HO_223003.out))) (g := gb207) (o := .cells #[.string t200, .string t201, .string t202, .slice Ao25 t203.length co25] 28 (0, 0)) (by (with_reducible repeat (first | refine blk_drewN ?_ _ | refine blk_drew ?_ | refine blk_alloc ?_ _)); exact BK207.out)) (g := gb214) (o := .cells #[.string t208, .string t209, .string t210, .slice Ao32 t232.length co32] 28 (0, 0)) (by (with_reducible repeat (first | refine blk_drewN ?_ _ | refine blk_drew ?_ | refine blk_alloc ?_ _)); exact BK214.out)) (g := gb222) (o := .cells #[.string t215, .string t216, .string t217, .slice Ao39 t218.length co39] 28 (0, 0)) (by (with_reducible repeat (first | refine blk_drewN ?_ _ | refine blk_drew ?_ | refine blk_alloc ?_ _)); exact BK222.out)) (below_size (by repeat (first | (with_reducible first | exact HB.out | apply below_alloc | apply pw_below_drewN | apply below_drew1 | refine below_set ?_ GE192.out | refine below_set ?_ GE207.out | refine below_set ?_ GE214.out | refine below_set ?_ GE222.out) | exact HB.out)))); have n4_ := Aside0.mk (blk_below (g := gb192) (o := .cells #[.string a0_0, .string a0_1, .string a0_2, .slice A0_3 l0_3.length c0_3] 24 (0, 0)) (by (with_reducible repeat (first | refine blk_drewN ?_ _ | refine blk_drew ?_ | refine blk_alloc ?_ _)); exact BK192.out) hb); have n5_ := Aside0.mk (blk_below (g := gb207) (o := .cells #[.string t200, .string t201, .string t202, .slice Ao25 t203.length co25] 28 (0, 0)) (by (with_reducible repeat (first | refine blk_drewN ?_ _ | refine blk_drew ?_ | refine blk_alloc ?_ _)); exact BK207.out) hb); have n6_ := Aside0.mk (blk_below (g := gb214) (o := .cells #[.string t208, .string t209, .string t210, .slice Ao32 t232.length co32] 28 (0, 0)) (by (with_reducible repeat (first | refine blk_drewN ?_ _ | refine blk_drew ?_ | refine blk_alloc ?_ _)); exact BK214.out) hb); have n7_ := Aside0.mk (blk_below (g := gb222) (o := .cells #[.string t215, .string t216, .string t217, .slice Ao39 t218.length co39] 28 (0, 0)) (by (with_reducible repeat (first | refine blk_drewN ?_ _ | refine blk_drew ?_ | refine blk_alloc ?_ _)); exact BK222.out) hb); have n8_ := Aside0.mk (below_step (by repeat (first | (with_reducible first | exact HB.out | apply below_alloc | apply pw_below_drewN | apply below_drew1 | refine below_set ?_ GE192.out | refine below_set ?_ GE207.out | refine below_set ?_ GE214.out | refine below_set ?_ GE222.out) | exact HB.out)) hb); clear HO_208003; clear HO_215003; clear HO_223003; clear BK192; clear BK207; clear BK214; clear BK222; clear HB; have HO_208003 := n0_; have HO_215003 := n1_; have HO_223003 := n2_; have HO242 := n3_; have BK192 := n4_; have BK207 := n5_; have BK214 := n6_; have BK222 := n7_; have HB := n8_; clear n0_ n1_ n2_ n3_ n4_ n5_ n6_ n7_ n8_; (try clear hb); (try clear hb2); (try clear hk); (try clear hi); (try clear ho0); obtain ⟨Ao114, co114, eo114⟩ := Kd.S_slice HO242.out; subst eo114) | ((with_reducible refine gate_callee (f := 7) rfl ?_); refine goesL_ (some 92) rfl rfl Try.func7 (by kernel_rfl) rfl #[.agg #[.string t237, .string t238, .string t239, .slice Ao114 t240.length co114], .string a1, .string a2] rfl (by (try simp only [List.map_toArray, List.map_cons, List.map_nil]); first | done | rfl | (simp only [List.length_drop, List.length_take]; rfl)) ?_; (with_reducible refine (impl_KidOf.calls kj67 t237 t238 t239 _ _ t240 a1 a2 t243 t244 t245 t246 t249 _ ?side1 ?side2 A107.out).mono ?_); (case side1 => repeat (first | exact (Kd.S_reads' HO242.out).2.2 | (with_reducible refine Kd.C_alloc ?_ _) | (with_reducible refine Kd.C_drewN ?_ _) | (with_reducible refine Kd.C_drew ?_))); (case side2 => exact (Kd.S_reads' HO242.out).2.1); rintro e w115 ⟨v247, rfl, ho0, hb⟩; refine ⟨_, rfl, ?_⟩; have n0_ := Aside0.mk (Kd.S_elder' (by (with_reducible repeat (first | apply Kd.S_alloc | apply Kd.S_drewN | apply Kd.S_drew)); exact HO_208003.out) (Kd.S_base ho0) hb); have n1_ := Aside0.mk (Kd.S_elder' (by (with_reducible repeat (first | apply Kd.S_alloc | apply Kd.S_drewN | apply Kd.S_drew)); exact HO_215003.out) (Kd.S_base ho0) hb); have n2_ := Aside0.mk (Kd.S_elder' (by (with_reducible repeat (first | apply Kd.S_alloc | apply Kd.S_drewN | apply Kd.S_drew)); exact HO_223003.out) (Kd.S_base ho0) hb); have n3_ := Aside0.mk (Kd.S_elder' (by (with_reducible repeat (first | apply Kd.S_alloc | apply Kd.S_drewN | apply Kd.S_drew)); exact HO242.out) (Kd.S_base ho0) hb); have n4_ := Aside0.mk (Kd.S_lower (Kd.S_newB (Kd.S_newB (Kd.S_newB (Kd.S_new' (Kd.S_new' (Kd.S_new' (Kd.S_new' ho0 (Kd.S_lt (by (with_reducible repeat (first | apply Kd.S_alloc | apply Kd.S_drewN | apply Kd.S_drew)); exact HO_208003.out))) (Kd.S_lt (by (with_reducible repeat (first | apply Kd.S_alloc | apply Kd.S_drewN | apply Kd.S_drew)); exact HO_215003.out))) (Kd.S_lt (by (with_reducible repeat (first | apply Kd.S_alloc | apply Kd.S_drewN | apply Kd.S_drew)); exact HO_223003.out))) (Kd.S_lt (by (with_reducible repeat (first | apply Kd.S_alloc | apply Kd.S_drewN | apply Kd.S_drew)); exact HO242.out))) (g := gb207) (o := .cells #[.string t200, .string t201, .string t202, .slice Ao25 t203.length co25] 28 (0, 0)) (by (with_reducible repeat (first | refine blk_drewN ?_ _ | refine blk_drew ?_ | refine blk_alloc ?_ _)); exact BK207.out)) (g := gb214) (o := .cells #[.string t208, .string t209, .string t210, .slice Ao32 t232.length co32] 28 (0, 0)) (by (with_reducible repeat (first | refine blk_drewN ?_ _ | refine blk_drew ?_ | refine blk_alloc ?_ _)); exact BK214.out)) (g := gb222) (o := .cells #[.string t215, .string t216, .string t217, .slice Ao39 t218.length co39] 28 (0, 0)) (by (with_reducible repeat (first | refine blk_drewN ?_ _ | refine blk_drew ?_ | refine blk_alloc ?_ _)); exact BK222.out)) (below_size (by repeat (first | (with_reducible first | exact HB.out | apply below_alloc | apply pw_below_drewN | apply below_drew1 | refine below_set ?_ GE192.out | refine below_set ?_ GE207.out | refine below_set ?_ GE214.out | refine below_set ?_ GE222.out) | exact HB.out)))); have n5_ := Aside0.mk (blk_below (g := gb192) (o := .cells #[.string a0_0, .string a0_1, .string a0_2, .slice A0_3 l0_3.length c0_3] 24 (0, 0)) (by (with_reducible repeat (first | refine blk_drewN ?_ _ | refine blk_drew ?_ | refine blk_alloc ?_ _)); exact BK192.out) hb); have n6_ := Aside0.mk (blk_below (g := gb207) (o := .cells #[.string t200, .string t201, .string t202, .slice Ao25 t203.length co25] 28 (0, 0)) (by (with_reducible repeat (first | refine blk_drewN ?_ _ | refine blk_drew ?_ | refine blk_alloc ?_ _)); exact BK207.out) hb); have n7_ := Aside0.mk (blk_below (g := gb214) (o := .cells #[.string t208, .string t209, .string t210, .slice Ao32 t232.length co32] 28 (0, 0)) (by (with_reducible repeat (first | refine blk_drewN ?_ _ | refine blk_drew ?_ | refine blk_alloc ?_ _)); exact BK214.out) hb); have n8_ := Aside0.mk (blk_below (g := gb222) (o := .cells #[.string t215, .string t216, .string t217, .slice Ao39 t218.length co39] 28 (0, 0)) (by (with_reducible repeat (first | refine blk_drewN ?_ _ | refine blk_drew ?_ | refine blk_alloc ?_ _)); exact BK222.out) hb); have n9_ := Aside0.mk (below_step (by repeat (first | (with_reducible first | exact HB.out | apply below_alloc | apply pw_below_drewN | apply below_drew1 | refine below_set ?_ GE192.out | refine below_set ?_ GE207.out | refine below_set ?_ GE214.out | refine below_set ?_ GE222.out) | exact HB.out)) hb); clear HO_208003; clear HO_215003; clear HO_223003; clear HO242; clear BK192; clear BK207; clear BK214; clear BK222; clear HB; have HO_208003 := n0_; have HO_215003 := n1_; have HO_223003 := n2_; have HO242 := n3_; have HO248 := n4_; have BK192 := n5_; have BK207 := n6_; have BK214 := n7_; have BK222 := n8_; have HB := n9_; clear n0_ n1_ n2_ n3_ n4_ n5_ n6_ n7_ n8_ n9_; (try clear hb); (try clear hb2); (try clear hk); (try clear hi); (try clear ho0)) | ((with_reducible refine gate_dst (N := 16) rfl ?_); refine box_event ?hg (N := 16) ?hd (cs := #[.string (⟨#[]⟩ : ByteArray), .string (⟨#[]⟩ : ByteArray), .string (⟨#[]⟩ : ByteArray), .slice none 0 0]) (t := 28) ?hr ?_; (case hd => rfl); (case hg => rfl); (case hr => first | (go_simp; done) | (go_simp; rfl)); intro gb250 hg w116 hbox hb; have n0_ := Aside0.mk (Kd.S_below (Kd.S_elderB (by (with_reducible repeat (first | apply Kd.S_alloc | apply Kd.S_drewN | apply Kd.S_drew)); exact HO_208003.out) gb250 (Nat.le_of_eq hg.symm)) hb); have n1_ := Aside0.mk (Kd.S_below (Kd.S_elderB (by (with_reducible repeat (first | apply Kd.S_alloc | apply Kd.S_drewN | apply Kd.S_drew)); exact HO_215003.out) gb250 (Nat.le_of_eq hg.symm)) hb); have n2_ := Aside0.mk (Kd.S_below (Kd.S_elderB (by (with_reducible repeat (first | apply Kd.S_alloc | apply Kd.S_drewN | apply Kd.S_drew)); exact HO_223003.out) gb250 (Nat.le_of_eq hg.symm)) hb); have n3_ := Aside0.mk (Kd.S_below (Kd.S_elderB (by (with_reducible repeat (first | apply Kd.S_alloc | apply Kd.S_drewN | apply Kd.S_drew)); exact HO242.out) gb250 (Nat.le_of_eq hg.symm)) hb); have n4_ := Aside0.mk (Kd.S_below (Kd.S_elderB (by (with_reducible repeat (first | apply Kd.S_alloc | apply Kd.S_drewN | apply Kd.S_drew)); exact HO248.out) gb250 (Nat.le_of_eq hg.symm)) hb); have n5_ := Aside0.mk (blk_below (g := gb192) (o := .cells #[.string a0_0, .string a0_1, .string a0_2, .slice A0_3 l0_3.length c0_3] 24 (0, 0)) (by (with_reducible repeat (first | refine blk_drewN ?_ _ | refine blk_drew ?_ | refine blk_alloc ?_ _)); exact BK192.out) hb); have n6_ := Aside0.mk (blk_below (g := gb207) (o := .cells #[.string t200, .string t201, .string t202, .slice Ao25 t203.length co25] 28 (0, 0)) (by (with_reducible repeat (first | refine blk_drewN ?_ _ | refine blk_drew ?_ | refine blk_alloc ?_ _)); exact BK207.out) hb); have n7_ := Aside0.mk (blk_below (g := gb214) (o := .cells #[.string t208, .string t209, .string t210, .slice Ao32 t232.length co32] 28 (0, 0)) (by (with_reducible repeat (first | refine blk_drewN ?_ _ | refine blk_drew ?_ | refine blk_alloc ?_ _)); exact BK214.out) hb); have n8_ := Aside0.mk (blk_below (g := gb222) (o := .cells #[.string t215, .string t216, .string t217, .slice Ao39 t218.length co39] 28 (0, 0)) (by (with_reducible repeat (first | refine blk_drewN ?_ _ | refine blk_drew ?_ | refine blk_alloc ?_ _)); exact BK222.out) hb); have n9_ := Aside0.mk (below_step (by repeat (first | (with_reducible first | exact HB.out | apply below_alloc | apply pw_below_drewN | apply below_drew1 | refine below_set ?_ GE192.out | refine below_set ?_ GE207.out | refine below_set ?_ GE214.out | refine below_set ?_ GE222.out) | exact HB.out)) hb); have n10_ := Aside0.mk (hbox); have n11_ := Aside0.mk ((by rw [hg]; exact (below_size (by repeat (first | (with_reducible first | exact HB.out | apply below_alloc | apply pw_below_drewN | apply below_drew1 | refine below_set ?_ GE192.out | refine below_set ?_ GE207.out | refine below_set ?_ GE214.out | refine below_set ?_ GE222.out) | exact HB.out))) : w.heap.size ≤ gb250)); have n12_ := Aside0.mk ((by rw [hg]; exact (below_size (by repeat (first | (with_reducible first | exact HB.out | apply below_alloc | apply pw_below_drewN | apply below_drew1 | refine below_set ?_ GE192.out | refine below_set ?_ GE207.out | refine below_set ?_ GE214.out | refine below_set ?_ GE222.out) | exact HB.out))) : w.heap.size ≤ gb250)); have n13_ := Aside0.mk ((by rw [hg]; exact Nat.ne_of_lt (blk_lt (g := gb192) (o := .cells #[.string a0_0, .string a0_1, .string a0_2, .slice A0_3 l0_3.length c0_3] 24 (0, 0)) (by (with_reducible repeat (first | refine blk_drewN ?_ _ | refine blk_drew ?_ | refine blk_alloc ?_ _)); exact BK192.out)) : gb192 ≠ gb250)); have n14_ := Aside0.mk ((by rw [hg]; exact Nat.ne_of_gt (blk_lt (g := gb192) (o := .cells #[.string a0_0, .string a0_1, .string a0_2, .slice A0_3 l0_3.length c0_3] 24 (0, 0)) (by (with_reducible repeat (first | refine blk_drewN ?_ _ | refine blk_drew ?_ | refine blk_alloc ?_ _)); exact BK192.out)) : gb250 ≠ gb192)); have n15_ := Aside0.mk ((by rw [hg]; exact Nat.ne_of_lt (blk_lt (g := gb207) (o := .cells #[.string t200, .string t201, .string t202, .slice Ao25 t203.length co25] 28 (0, 0)) (by (with_reducible repeat (first | refine blk_drewN ?_ _ | refine blk_drew ?_ | refine blk_alloc ?_ _)); exact BK207.out)) : gb207 ≠ gb250)); have n16_ := Aside0.mk ((by rw [hg]; exact Nat.ne_of_gt (blk_lt (g := gb207) (o := .cells #[.string t200, .string t201, .string t202, .slice Ao25 t203.length co25] 28 (0, 0)) (by (with_reducible repeat (first | refine blk_drewN ?_ _ | refine blk_drew ?_ | refine blk_alloc ?_ _)); exact BK207.out)) : gb250 ≠ gb207)); have n17_ := Aside0.mk ((by rw [hg]; exact Nat.ne_of_lt (blk_lt (g := gb214) (o := .cells #[.string t208, .string t209, .string t210, .slice Ao32 t232.length co32] 28 (0, 0)) (by (with_reducible repeat (first | refine blk_drewN ?_ _ | refine blk_drew ?_ | refine blk_alloc ?_ _)); exact BK214.out)) : gb214 ≠ gb250)); have n18_ := Aside0.mk ((by rw [hg]; exact Nat.ne_of_gt (blk_lt (g := gb214) (o := .cells #[.string t208, .string t209, .string t210, .slice Ao32 t232.length co32] 28 (0, 0)) (by (with_reducible repeat (first | refine blk_drewN ?_ _ | refine blk_drew ?_ | refine blk_alloc ?_ _)); exact BK214.out)) : gb250 ≠ gb214)); have n19_ := Aside0.mk ((by rw [hg]; exact Nat.ne_of_lt (blk_lt (g := gb222) (o := .cells #[.string t215, .string t216, .string t217, .slice Ao39 t218.length co39] 28 (0, 0)) (by (with_reducible repeat (first | refine blk_drewN ?_ _ | refine blk_drew ?_ | refine blk_alloc ?_ _)); exact BK222.out)) : gb222 ≠ gb250)); have n20_ := Aside0.mk ((by rw [hg]; exact Nat.ne_of_gt (blk_lt (g := gb222) (o := .cells #[.string t215, .string t216, .string t217, .slice Ao39 t218.length co39] 28 (0, 0)) (by (with_reducible repeat (first | refine blk_drewN ?_ _ | refine blk_drew ?_ | refine blk_alloc ?_ _)); exact BK222.out)) : gb250 ≠ gb222)); clear HO_208003; clear HO_215003; clear HO_223003; clear HO242; clear HO248; clear BK192; clear BK207; clear BK214; clear BK222; clear HB; have HO_208003 := n0_; have HO_215003 := n1_; have HO_223003 := n2_; have HO242 := n3_; have HO248 := n4_; have BK192 := n5_; have BK207 := n6_; have BK214 := n7_; have BK222 := n8_; have HB := n9_; have BK250 := n10_; have GW250 := n11_; have GE250 := n12_; have NB192_250 := n13_; have NB250_192 := n14_; have NB207_250 := n15_; have NB250_207 := n16_; have NB214_250 := n17_; have NB250_214 := n18_; have NB222_250 := n19_; have NB250_222 := n20_; clear n0_ n1_ n2_ n3_ n4_ n5_ n6_ n7_ n8_ n9_ n10_ n11_ n12_ n13_ n14_ n15_ n16_ n17_ n18_ n19_ n20_; clear hb hbox hg; have hnb117 := NB250_192.out; have hnc117 := NB192_250.out; have hnb118 := NB250_207.out; have hnc118 := NB207_250.out; have hnb119 := NB250_214.out; have hnc119 := NB214_250.out; have hnb120 := NB250_222.out; have hnc120 := NB222_250.out; have hcz121_0 : w116.cell? ⟨gb250, 0, none⟩ = some (.string (⟨#[]⟩ : ByteArray)) := (blk_cell BK250.out 0).trans rfl; have hcz121_1 : w116.cell? ⟨gb250, 1, none⟩ = some (.string (⟨#[]⟩ : ByteArray)) := (blk_cell BK250.out 1).trans rfl; have hcz121_2 : w116.cell? ⟨gb250, 2, none⟩ = some (.string (⟨#[]⟩ : ByteArray)) := (blk_cell BK250.out 2).trans rfl; have hcz121_3 : w116.cell? ⟨gb250, 3, none⟩ = some (.slice none 0 0) := (blk_cell BK250.out 3).trans rfl; have hfz121_0 := blk_frozen BK250.out 0; have hfz121_1 := blk_frozen BK250.out 1; have hfz121_2 := blk_frozen BK250.out 2; have hfz121_3 := blk_frozen BK250.out 3; obtain ⟨Ao122, co122, eo122⟩ := Kd.S_slice HO248.out; subst eo122))
                          (try simp only [Act.put, List.setIfInBounds_toArray, List.set_cons_zero, List.set_cons_succ])
                          go_cut [103] (fun v103 wc => ∃ (kq : Nat) (x103_107 : Bool), v103 = .bool x103_107 ∧ Aside0 (laws_FnExactKidOf.j2 kq t234 x103_107 t215 t216 t217 t235 = some true) ∧ Aside0 (kq ≤ kj67) ∧ Aside0 (Kd.S k28 28 wc w.heap.size (fun k_ => k_ < nb1_ ∧ k_ < nb2_ ∧ some k_ ≠ ((.slice Ao122 t246.length co122) : Value).ownBlock ∧ k_ ≠ gb207 ∧ k_ ≠ gb214 ∧ k_ ≠ gb222 ∧ k_ ≠ gb250) (.slice Ao25 t203.length co25) t203) ∧ Aside0 (Kd.S k28 28 wc w.heap.size (fun k_ => True ∧ (k_ < nb2_ ∨ nb3_ ≤ k_) ∧ some k_ ≠ ((.slice Ao122 t246.length co122) : Value).ownBlock ∧ k_ ≠ gb207 ∧ k_ ≠ gb214 ∧ k_ ≠ gb222 ∧ k_ ≠ gb250) (.slice Ao32 t232.length co32) t232) ∧ Aside0 (Kd.S k28 28 wc w.heap.size (fun k_ => True ∧ True ∧ some k_ ≠ ((.slice Ao122 t246.length co122) : Value).ownBlock ∧ k_ ≠ gb207 ∧ k_ ≠ gb214 ∧ k_ ≠ gb222 ∧ k_ ≠ gb250) (.slice Ao39 t218.length co39) t235) ∧ Aside0 (Kd.S k28 28 wc w.heap.size (fun k_ => some k_ ≠ ((.slice Ao25 t203.length co25) : Value).ownBlock ∧ some k_ ≠ ((.slice Ao32 t232.length co32) : Value).ownBlock ∧ some k_ ≠ ((.slice Ao39 t218.length co39) : Value).ownBlock ∧ k_ ≠ gb207 ∧ k_ ≠ gb214 ∧ k_ ≠ gb222 ∧ k_ ≠ gb250) (.slice Ao122 t246.length co122) t246) ∧ Aside0 (wc.heap[gb192]? = some (.cells #[.string a0_0, .string a0_1, .string a0_2, (.slice A0_3 l0_3.length c0_3)] 24 (0, 0))) ∧ Aside0 (wc.heap[gb207]? = some (.cells #[.string t200, .string t201, .string t202, (.slice Ao25 t203.length co25)] 28 (0, 0))) ∧ Aside0 (wc.heap[gb214]? = some (.cells #[.string t208, .string t209, .string t210, (.slice Ao32 t232.length co32)] 28 (0, 0))) ∧ Aside0 (wc.heap[gb222]? = some (.cells #[.string t215, .string t216, .string t217, (.slice Ao39 t218.length co39)] 28 (0, 0))) ∧ Aside0 (wc.heap[gb250]? = some (.cells #[.string t243, .string t244, .string t245, (.slice Ao122 t246.length co122)] 28 (0, 0))) ∧ Aside0 (Below w.heap.size w wc))
                          case first =>
                            have H := HC108.out
                            clear HC108
                            replace H := Option.bind_eq_some_iff.mp H
                            obtain ⟨t251, A1230, H⟩ := H
                            replace H : (if t251 = true then (laws_FnExactKidOf.j2 kj67 t234 (t249 != t206) t215 t216 t217 t235) else (laws_FnExactKidOf.j2 kj67 t234 true t215 t216 t217 t235)) = some true := H
                            have A123 := Aside0.mk A1230
                            clear A1230
                            by_cases c124 : t251 = true
                            · subst c124
                              have H1 : (laws_FnExactKidOf.j2 kj67 t234 (t249 != t206) t215 t216 t217 t235) = some true := by rw [if_pos rfl] at H; exact H
                              clear H
                              have H := H1
                              clear H1
                              have H' := Aside0.mk H
                              clear H
                              have hnb125 := NB250_192.out
                              have hnc125 := NB192_250.out
                              have hnb126 := NB250_207.out
                              have hnc126 := NB207_250.out
                              have hnb127 := NB250_214.out
                              have hnc127 := NB214_250.out
                              have hnb128 := NB250_222.out
                              have hnc128 := NB222_250.out
                              have hcz129_0 : w116.cell? ⟨gb250, 0, none⟩ = some (.string (⟨#[]⟩ : ByteArray)) := (blk_cell BK250.out 0).trans rfl
                              have hcz129_1 : w116.cell? ⟨gb250, 1, none⟩ = some (.string (⟨#[]⟩ : ByteArray)) := (blk_cell BK250.out 1).trans rfl
                              have hcz129_2 : w116.cell? ⟨gb250, 2, none⟩ = some (.string (⟨#[]⟩ : ByteArray)) := (blk_cell BK250.out 2).trans rfl
                              have hcz129_3 : w116.cell? ⟨gb250, 3, none⟩ = some (.slice none 0 0) := (blk_cell BK250.out 3).trans rfl
                              have hfz129_0 := blk_frozen BK250.out 0
                              have hfz129_1 := blk_frozen BK250.out 1
                              have hfz129_2 := blk_frozen BK250.out 2
                              have hfz129_3 := blk_frozen BK250.out 3
                              have hnb130 := NB207_192.out
                              have hnc130 := NB192_207.out
                              have hnb131 := NB207_214.out
                              have hnc131 := NB214_207.out
                              have hnb132 := NB207_222.out
                              have hnc132 := NB222_207.out
                              have hcz133_0 : w116.cell? ⟨gb207, 0, none⟩ = some (.string t200) := (blk_cell BK207.out 0).trans rfl
                              have hcz133_1 : w116.cell? ⟨gb207, 1, none⟩ = some (.string t201) := (blk_cell BK207.out 1).trans rfl
                              have hcz133_2 : w116.cell? ⟨gb207, 2, none⟩ = some (.string t202) := (blk_cell BK207.out 2).trans rfl
                              have hcz133_3 : w116.cell? ⟨gb207, 3, none⟩ = some (.slice Ao25 t203.length co25) := (blk_cell BK207.out 3).trans rfl
                              have hfz133_0 := blk_frozen BK207.out 0
                              have hfz133_1 := blk_frozen BK207.out 1
                              have hfz133_2 := blk_frozen BK207.out 2
                              have hfz133_3 := blk_frozen BK207.out 3
                              go_wp2_with (first | ((with_reducible refine gate_callee (f := 8) rfl ?_); refine goesL_ (some 97) rfl rfl Try.func8 (by kernel_rfl) rfl #[.agg #[.string t243, .string t244, .string t245, .slice Ao122 t246.length co122], .agg #[.string t200, .string t201, .string t202, .slice Ao25 t203.length co25]] rfl (by (try simp only [List.map_toArray, List.map_cons, List.map_nil]); first | done | rfl | (simp only [List.length_drop, List.length_take]; rfl)) ?_; (with_reducible refine (laws_eqNode.calls kj67 t243 t244 t245 _ _ t246 t200 t201 t202 _ _ t203 true _ ?side1 ?side2 ?side3 ?side4 A123.out).mono ?_); (case side1 => exact (Kd.S_reads' (e := 28) (base := w.heap.size) (n := t246.length) (c := co122) (by (with_reducible repeat (first | apply Kd.S_alloc | apply Kd.S_drewN | apply Kd.S_drew)); exact (Kd.S_mono (Kd.S_far (p := ⟨gb250, 3, none⟩) (Kd.S_far (p := ⟨gb250, 2, none⟩) (Kd.S_far (p := ⟨gb250, 1, none⟩) (Kd.S_far (p := ⟨gb250, 0, none⟩) (Kd.S_mono HO248.out (fun k_ hk => (⟨hk, hk.2⟩ : _ ∧ k_ ≠ gb250))) (fun _ hk => hk.2) (.string t243)) (fun _ hk => hk.2) (.string t244)) (fun _ hk => hk.2) (.string t245)) (fun _ hk => hk.2) (.slice Ao122 t246.length co122)) (fun _ h_ => h_.1)))).2.2); (case side2 => exact (Kd.S_reads' HO248.out).2.1); (case side3 => exact (Kd.S_reads' (e := 28) (base := w.heap.size) (n := t203.length) (c := co25) (by (with_reducible repeat (first | apply Kd.S_alloc | apply Kd.S_drewN | apply Kd.S_drew)); exact (Kd.S_mono (Kd.S_far (p := ⟨gb250, 3, none⟩) (Kd.S_far (p := ⟨gb250, 2, none⟩) (Kd.S_far (p := ⟨gb250, 1, none⟩) (Kd.S_far (p := ⟨gb250, 0, none⟩) (Kd.S_mono HO_208003.out (fun k_ hk => (⟨hk, hk.2⟩ : _ ∧ k_ ≠ gb250))) (fun _ hk => hk.2) (.string t243)) (fun _ hk => hk.2) (.string t244)) (fun _ hk => hk.2) (.string t245)) (fun _ hk => hk.2) (.slice Ao122 t246.length co122)) (fun _ h_ => h_.1)))).2.2); (case side4 => exact (Kd.S_reads' HO_208003.out).2.1); rintro e w134 ⟨rfl, hb⟩; refine ⟨_, rfl, ?_⟩; have n0_ := Aside0.mk (Kd.S_below (by (with_reducible repeat (first | apply Kd.S_alloc | apply Kd.S_drewN | apply Kd.S_drew)); exact (Kd.S_mono (Kd.S_far (p := ⟨gb250, 3, none⟩) (Kd.S_far (p := ⟨gb250, 2, none⟩) (Kd.S_far (p := ⟨gb250, 1, none⟩) (Kd.S_far (p := ⟨gb250, 0, none⟩) (Kd.S_mono HO_208003.out (fun k_ hk => (⟨hk, hk.2⟩ : _ ∧ k_ ≠ gb250))) (fun _ hk => hk.2) (.string t243)) (fun _ hk => hk.2) (.string t244)) (fun _ hk => hk.2) (.string t245)) (fun _ hk => hk.2) (.slice Ao122 t246.length co122)) (fun _ h_ => h_.1))) hb); have n1_ := Aside0.mk (Kd.S_below (by (with_reducible repeat (first | apply Kd.S_alloc | apply Kd.S_drewN | apply Kd.S_drew)); exact (Kd.S_mono (Kd.S_far (p := ⟨gb250, 3, none⟩) (Kd.S_far (p := ⟨gb250, 2, none⟩) (Kd.S_far (p := ⟨gb250, 1, none⟩) (Kd.S_far (p := ⟨gb250, 0, none⟩) (Kd.S_mono HO_215003.out (fun k_ hk => (⟨hk, hk.2⟩ : _ ∧ k_ ≠ gb250))) (fun _ hk => hk.2) (.string t243)) (fun _ hk => hk.2) (.string t244)) (fun _ hk => hk.2) (.string t245)) (fun _ hk => hk.2) (.slice Ao122 t246.length co122)) (fun _ h_ => h_.1))) hb); have n2_ := Aside0.mk (Kd.S_below (by (with_reducible repeat (first | apply Kd.S_alloc | apply Kd.S_drewN | apply Kd.S_drew)); exact (Kd.S_mono (Kd.S_far (p := ⟨gb250, 3, none⟩) (Kd.S_far (p := ⟨gb250, 2, none⟩) (Kd.S_far (p := ⟨gb250, 1, none⟩) (Kd.S_far (p := ⟨gb250, 0, none⟩) (Kd.S_mono HO_223003.out (fun k_ hk => (⟨hk, hk.2⟩ : _ ∧ k_ ≠ gb250))) (fun _ hk => hk.2) (.string t243)) (fun _ hk => hk.2) (.string t244)) (fun _ hk => hk.2) (.string t245)) (fun _ hk => hk.2) (.slice Ao122 t246.length co122)) (fun _ h_ => h_.1))) hb); have n3_ := Aside0.mk (Kd.S_below (by (with_reducible repeat (first | apply Kd.S_alloc | apply Kd.S_drewN | apply Kd.S_drew)); exact (Kd.S_mono (Kd.S_far (p := ⟨gb250, 3, none⟩) (Kd.S_far (p := ⟨gb250, 2, none⟩) (Kd.S_far (p := ⟨gb250, 1, none⟩) (Kd.S_far (p := ⟨gb250, 0, none⟩) (Kd.S_mono HO242.out (fun k_ hk => (⟨hk, hk.2⟩ : _ ∧ k_ ≠ gb250))) (fun _ hk => hk.2) (.string t243)) (fun _ hk => hk.2) (.string t244)) (fun _ hk => hk.2) (.string t245)) (fun _ hk => hk.2) (.slice Ao122 t246.length co122)) (fun _ h_ => h_.1))) hb); have n4_ := Aside0.mk (Kd.S_below (by (with_reducible repeat (first | apply Kd.S_alloc | apply Kd.S_drewN | apply Kd.S_drew)); exact (Kd.S_mono (Kd.S_far (p := ⟨gb250, 3, none⟩) (Kd.S_far (p := ⟨gb250, 2, none⟩) (Kd.S_far (p := ⟨gb250, 1, none⟩) (Kd.S_far (p := ⟨gb250, 0, none⟩) (Kd.S_mono HO248.out (fun k_ hk => (⟨hk, hk.2⟩ : _ ∧ k_ ≠ gb250))) (fun _ hk => hk.2) (.string t243)) (fun _ hk => hk.2) (.string t244)) (fun _ hk => hk.2) (.string t245)) (fun _ hk => hk.2) (.slice Ao122 t246.length co122)) (fun _ h_ => h_.1))) hb); have n5_ := Aside0.mk (blk_below (g := gb192) (o := .cells #[.string a0_0, .string a0_1, .string a0_2, .slice A0_3 l0_3.length c0_3] 24 (0, 0)) (by (with_reducible repeat (first | refine blk_drewN ?_ _ | refine blk_drew ?_ | refine blk_alloc ?_ _)); refine blk_far ?_ NB192_250.out _; (with_reducible repeat (first | refine blk_drewN ?_ _ | refine blk_drew ?_ | refine blk_alloc ?_ _)); refine blk_far ?_ NB192_250.out _; (with_reducible repeat (first | refine blk_drewN ?_ _ | refine blk_drew ?_ | refine blk_alloc ?_ _)); refine blk_far ?_ NB192_250.out _; (with_reducible repeat (first | refine blk_drewN ?_ _ | refine blk_drew ?_ | refine blk_alloc ?_ _)); refine blk_far ?_ NB192_250.out _; (with_reducible repeat (first | refine blk_drewN ?_ _ | refine blk_drew ?_ | refine blk_alloc ?_ _)); exact BK192.out) hb); have n6_ := Aside0.mk (blk_below (g := gb207) (o := .cells #[.string t200, .string t201, .string t202, .slice Ao25 t203.length co25] 28 (0, 0)) (by (with_reducible repeat (first | refine blk_drewN ?_ _ | refine blk_drew ?_ | refine blk_alloc ?_ _)); refine blk_far ?_ NB207_250.out _; (with_reducible repeat (first | refine blk_drewN ?_ _ | refine blk_drew ?_ | refine blk_alloc ?_ _)); refine blk_far ?_ NB207_250.out _; (with_reducible repeat (first | refine blk_drewN ?_ _ | refine blk_drew ?_ | refine blk_alloc ?_ _)); refine blk_far ?_ NB207_250.out _; (with_reducible repeat (first | refine blk_drewN ?_ _ | refine blk_drew ?_ | refine blk_alloc ?_ _)); refine blk_far ?_ NB207_250.out _; (with_reducible repeat (first | refine blk_drewN ?_ _ | refine blk_drew ?_ | refine blk_alloc ?_ _)); exact BK207.out) hb); have n7_ := Aside0.mk (blk_below (g := gb214) (o := .cells #[.string t208, .string t209, .string t210, .slice Ao32 t232.length co32] 28 (0, 0)) (by (with_reducible repeat (first | refine blk_drewN ?_ _ | refine blk_drew ?_ | refine blk_alloc ?_ _)); refine blk_far ?_ NB214_250.out _; (with_reducible repeat (first | refine blk_drewN ?_ _ | refine blk_drew ?_ | refine blk_alloc ?_ _)); refine blk_far ?_ NB214_250.out _; (with_reducible repeat (first | refine blk_drewN ?_ _ | refine blk_drew ?_ | refine blk_alloc ?_ _)); refine blk_far ?_ NB214_250.out _; (with_reducible repeat (first | refine blk_drewN ?_ _ | refine blk_drew ?_ | refine blk_alloc ?_ _)); refine blk_far ?_ NB214_250.out _; (with_reducible repeat (first | refine blk_drewN ?_ _ | refine blk_drew ?_ | refine blk_alloc ?_ _)); exact BK214.out) hb); have n8_ := Aside0.mk (blk_below (g := gb222) (o := .cells #[.string t215, .string t216, .string t217, .slice Ao39 t218.length co39] 28 (0, 0)) (by (with_reducible repeat (first | refine blk_drewN ?_ _ | refine blk_drew ?_ | refine blk_alloc ?_ _)); refine blk_far ?_ NB222_250.out _; (with_reducible repeat (first | refine blk_drewN ?_ _ | refine blk_drew ?_ | refine blk_alloc ?_ _)); refine blk_far ?_ NB222_250.out _; (with_reducible repeat (first | refine blk_drewN ?_ _ | refine blk_drew ?_ | refine blk_alloc ?_ _)); refine blk_far ?_ NB222_250.out _; (with_reducible repeat (first | refine blk_drewN ?_ _ | refine blk_drew ?_ | refine blk_alloc ?_ _)); refine blk_far ?_ NB222_250.out _; (with_reducible repeat (first | refine blk_drewN ?_ _ | refine blk_drew ?_ | refine blk_alloc ?_ _)); exact BK222.out) hb); have n9_ := Aside0.mk (blk_below (g := gb250) (o := .cells #[.string t243, .string t244, .string t245, .slice Ao122 t246.length co122] 28 (0, 0)) (by (with_reducible repeat (first | refine blk_drewN ?_ _ | refine blk_drew ?_ | refine blk_alloc ?_ _)); refine blk_put (cs := #[.string t243, .string t244, .string t245, .slice none 0 0]) ?_ 3 _ rfl; (with_reducible repeat (first | refine blk_drewN ?_ _ | refine blk_drew ?_ | refine blk_alloc ?_ _)); refine blk_put (cs := #[.string t243, .string t244, .string (⟨#[]⟩ : ByteArray), .slice none 0 0]) ?_ 2 _ rfl; (with_reducible repeat (first | refine blk_drewN ?_ _ | refine blk_drew ?_ | refine blk_alloc ?_ _)); refine blk_put (cs := #[.string t243, .string (⟨#[]⟩ : ByteArray), .string (⟨#[]⟩ : ByteArray), .slice none 0 0]) ?_ 1 _ rfl; (with_reducible repeat (first | refine blk_drewN ?_ _ | refine blk_drew ?_ | refine blk_alloc ?_ _)); refine blk_put (cs := #[.string (⟨#[]⟩ : ByteArray), .string (⟨#[]⟩ : ByteArray), .string (⟨#[]⟩ : ByteArray), .slice none 0 0]) ?_ 0 _ rfl; (with_reducible repeat (first | refine blk_drewN ?_ _ | refine blk_drew ?_ | refine blk_alloc ?_ _)); exact BK250.out) hb); have n10_ := Aside0.mk (below_step (by repeat (first | (with_reducible first | exact HB.out | apply below_alloc | apply pw_below_drewN | apply below_drew1 | refine below_set ?_ GE192.out | refine below_set ?_ GE207.out | refine below_set ?_ GE214.out | refine below_set ?_ GE222.out | refine below_set ?_ GE250.out) | exact HB.out)) hb); clear HO_208003; clear HO_215003; clear HO_223003; clear HO242; clear HO248; clear BK192; clear BK207; clear BK214; clear BK222; clear BK250; clear HB; have HO_208003 := n0_; have HO_215003 := n1_; have HO_223003 := n2_; have HO242 := n3_; have HO248 := n4_; have BK192 := n5_; have BK207 := n6_; have BK214 := n7_; have BK222 := n8_; have BK250 := n9_; have HB := n10_; clear n0_ n1_ n2_ n3_ n4_ n5_ n6_ n7_ n8_ n9_ n10_; (try clear hb); (try clear hb2); (try clear hk); (try clear hi)))
                              go_meet
                              case rel => exact ⟨_, ((t249 != t206)), (by first | rfl | (simp; done) | (simp [*]; done) | (simp [empty_ne, *]; done)), H', ⟨by have := HJ16.out; have := HJ67.out; first | omega | exact Nat.le_refl _⟩, ⟨by (try simp only [hl215003_67]); (with_reducible repeat (first | apply Kd.S_alloc | apply Kd.S_drewN | apply Kd.S_drew)); exact Kd.S_mono HO_208003.out (fun _ hk => ⟨hk.1.1.1.1, ⟨hk.1.1.1.2.1, ⟨hk.1.2, ⟨hk.1.1.1.2.2.1, ⟨hk.1.1.1.2.2.2.1, ⟨hk.1.1.1.2.2.2.2, hk.2⟩⟩⟩⟩⟩⟩)⟩, ⟨by (try simp only [hl215003_67]); (with_reducible repeat (first | apply Kd.S_alloc | apply Kd.S_drewN | apply Kd.S_drew)); exact Kd.S_mono HO_215003.out (fun _ hk => ⟨hk.1.1.1.1, ⟨hk.1.1.1.2.1, ⟨hk.1.2, ⟨hk.1.1.1.2.2.1, ⟨hk.1.1.1.2.2.2.1, ⟨hk.1.1.1.2.2.2.2, hk.2⟩⟩⟩⟩⟩⟩)⟩, ⟨by (try simp only [hl215003_67]); (with_reducible repeat (first | apply Kd.S_alloc | apply Kd.S_drewN | apply Kd.S_drew)); exact Kd.S_mono HO_223003.out (fun _ hk => ⟨hk.1.1.1.1, ⟨hk.1.1.1.2.1, ⟨hk.1.2, ⟨hk.1.1.1.2.2.1, ⟨hk.1.1.1.2.2.2.1, ⟨hk.1.1.1.2.2.2.2, hk.2⟩⟩⟩⟩⟩⟩)⟩, ⟨by (try simp only [hl215003_67]); (with_reducible repeat (first | apply Kd.S_alloc | apply Kd.S_drewN | apply Kd.S_drew)); exact Kd.S_mono HO248.out (fun _ hk => ⟨hk.1.1.1.1.1.1.1.2, ⟨hk.1.1.1.1.1.1.2, ⟨hk.1.1.1.1.1.2, ⟨hk.1.1.1.2, ⟨hk.1.1.2, ⟨hk.1.2, hk.2⟩⟩⟩⟩⟩⟩)⟩, ⟨by (try simp only [hl215003_67]); (with_reducible repeat (first | refine blk_drewN ?_ _ | refine blk_drew ?_ | refine blk_alloc ?_ _)); exact BK192.out⟩, ⟨by (try simp only [hl215003_67]); (with_reducible repeat (first | refine blk_drewN ?_ _ | refine blk_drew ?_ | refine blk_alloc ?_ _)); exact BK207.out⟩, ⟨by (try simp only [hl215003_67]); (with_reducible repeat (first | refine blk_drewN ?_ _ | refine blk_drew ?_ | refine blk_alloc ?_ _)); exact BK214.out⟩, ⟨by (try simp only [hl215003_67]); (with_reducible repeat (first | refine blk_drewN ?_ _ | refine blk_drew ?_ | refine blk_alloc ?_ _)); exact BK222.out⟩, ⟨by (try simp only [hl215003_67]); (with_reducible repeat (first | refine blk_drewN ?_ _ | refine blk_drew ?_ | refine blk_alloc ?_ _)); exact BK250.out⟩, ⟨by repeat (first | (with_reducible first | exact HB.out | apply below_alloc | apply pw_below_drewN | apply below_drew1 | refine below_set ?_ GE192.out | refine below_set ?_ GE207.out | refine below_set ?_ GE214.out | refine below_set ?_ GE222.out | refine below_set ?_ GE250.out) | exact HB.out)⟩⟩
                            · replace c124 := Bool.eq_false_iff.mpr c124
                              subst c124
                              have H1 : (laws_FnExactKidOf.j2 kj67 t234 true t215 t216 t217 t235) = some true := by rw [if_neg (show ¬ (false = true) by decide)] at H; exact H
                              clear H
                              have H := H1
                              clear H1
                              exact absurd H (laws_FnExactKidOf.j2_true _ _ _ _ _ _)
                          case rest =>
                            clear HC108
                            try clear c1
                            try clear c2
                            try clear p2
                            try clear c3
                            try clear c4
                            try clear c5
                            try clear c6
                            try clear c6b0
                            try clear c6b1
                            try clear c7
                            try clear c7b0
                            try clear c7b1
                            try clear c8
                            try clear c9
                            try clear c10
                            try clear c11
                            try clear c12
                            try clear c12b0
                            try clear c13
                            try clear c14
                            try clear c23
                            try clear c29
                            try clear c30
                            try clear c35
                            try clear c36
                            try clear c37
                            try clear c41
                            try clear c42
                            try clear c43
                            try clear c44
                            try clear c46
                            try clear c47
                            try clear c50
                            try clear c51
                            try clear c52
                            try clear c54
                            try clear c55
                            try clear c58
                            try clear c66
                            try clear c69
                            try clear c70
                            try clear c71
                            try clear c74
                            try clear c74b0
                            try clear c76
                            try clear c77
                            try clear c78
                            try clear c79
                            try clear c81
                            try clear c82
                            try clear c85
                            try clear c86
                            try clear c87
                            try clear c89
                            try clear c90
                            try clear c93
                            try clear c97
                            try clear c98
                            try clear c99
                            try clear c104
                            try clear c104b0
                            try clear c105
                            try clear c105b0
                            try clear c105b1
                            try clear c109
                            try clear c110
                            try clear c111
                            try clear c117
                            try clear c118
                            try clear c119
                            try clear c120
                            try clear c124
                            try clear c125
                            try clear c126
                            try clear c127
                            try clear c128
                            try clear c130
                            try clear c131
                            try clear c132
                            try clear c135
                            try clear c136
                            try clear c137
                            try clear c138
                            try clear c140
                            try clear c141
                            try clear c142
                            try clear hcz100_0
                            try clear hcz100_1
                            try clear hcz100_2
                            try clear hcz100_3
                            try clear hcz102_0
                            try clear hcz102_1
                            try clear hcz102_2
                            try clear hcz102_3
                            try clear hcz10_0
                            try clear hcz10_1
                            try clear hcz10_2
                            try clear hcz10_3
                            try clear hcz112_0
                            try clear hcz112_1
                            try clear hcz112_2
                            try clear hcz112_3
                            try clear hcz121_0
                            try clear hcz121_1
                            try clear hcz121_2
                            try clear hcz121_3
                            try clear hcz129_0
                            try clear hcz129_1
                            try clear hcz129_2
                            try clear hcz129_3
                            try clear hcz133_0
                            try clear hcz133_1
                            try clear hcz133_2
                            try clear hcz133_3
                            try clear hcz139_0
                            try clear hcz139_1
                            try clear hcz139_2
                            try clear hcz139_3
                            try clear hcz143_0
                            try clear hcz143_1
                            try clear hcz143_2
                            try clear hcz143_3
                            try clear hcz18_0
                            try clear hcz18_1
                            try clear hcz18_2
                            try clear hcz18_3
                            try clear hcz24_0
                            try clear hcz24_1
                            try clear hcz24_2
                            try clear hcz24_3
                            try clear hcz26_0
                            try clear hcz26_1
                            try clear hcz26_2
                            try clear hcz26_3
                            try clear hcz31_0
                            try clear hcz31_1
                            try clear hcz31_2
                            try clear hcz31_3
                            try clear hcz38_0
                            try clear hcz38_1
                            try clear hcz38_2
                            try clear hcz38_3
                            try clear hcz45_0
                            try clear hcz45_1
                            try clear hcz45_2
                            try clear hcz45_3
                            try clear hcz48_0
                            try clear hcz48_1
                            try clear hcz48_2
                            try clear hcz48_3
                            try clear hcz53_0
                            try clear hcz53_1
                            try clear hcz53_2
                            try clear hcz53_3
                            try clear hcz56_0
                            try clear hcz56_1
                            try clear hcz56_2
                            try clear hcz56_3
                            try clear hcz72_0
                            try clear hcz72_1
                            try clear hcz72_2
                            try clear hcz72_3
                            try clear hcz80_0
                            try clear hcz80_1
                            try clear hcz80_2
                            try clear hcz80_3
                            try clear hcz83_0
                            try clear hcz83_1
                            try clear hcz83_2
                            try clear hcz83_3
                            try clear hcz88_0
                            try clear hcz88_1
                            try clear hcz88_2
                            try clear hcz88_3
                            try clear hcz91_0
                            try clear hcz91_1
                            try clear hcz91_2
                            try clear hcz91_3
                            try clear hfz100_0
                            try clear hfz100_1
                            try clear hfz100_2
                            try clear hfz100_3
                            try clear hfz102_0
                            try clear hfz102_1
                            try clear hfz102_2
                            try clear hfz102_3
                            try clear hfz10_0
                            try clear hfz10_1
                            try clear hfz10_2
                            try clear hfz10_3
                            try clear hfz112_0
                            try clear hfz112_1
                            try clear hfz112_2
                            try clear hfz112_3
                            try clear hfz121_0
                            try clear hfz121_1
                            try clear hfz121_2
                            try clear hfz121_3
                            try clear hfz129_0
                            try clear hfz129_1
                            try clear hfz129_2
                            try clear hfz129_3
                            try clear hfz133_0
                            try clear hfz133_1
                            try clear hfz133_2
                            try clear hfz133_3
                            try clear hfz139_0
                            try clear hfz139_1
                            try clear hfz139_2
                            try clear hfz139_3
                            try clear hfz143_0
                            try clear hfz143_1
                            try clear hfz143_2
                            try clear hfz143_3
                            try clear hfz18_0
                            try clear hfz18_1
                            try clear hfz18_2
                            try clear hfz18_3
                            try clear hfz24_0
                            try clear hfz24_1
                            try clear hfz24_2
                            try clear hfz24_3
                            try clear hfz26_0
                            try clear hfz26_1
                            try clear hfz26_2
                            try clear hfz26_3
                            try clear hfz31_0
                            try clear hfz31_1
                            try clear hfz31_2
                            try clear hfz31_3
                            try clear hfz38_0
                            try clear hfz38_1
                            try clear hfz38_2
                            try clear hfz38_3
                            try clear hfz45_0
                            try clear hfz45_1
                            try clear hfz45_2
                            try clear hfz45_3
                            try clear hfz48_0
                            try clear hfz48_1
                            try clear hfz48_2
                            try clear hfz48_3
                            try clear hfz53_0
                            try clear hfz53_1
                            try clear hfz53_2
                            try clear hfz53_3
                            try clear hfz56_0
                            try clear hfz56_1
                            try clear hfz56_2
                            try clear hfz56_3
                            try clear hfz72_0
                            try clear hfz72_1
                            try clear hfz72_2
                            try clear hfz72_3
                            try clear hfz80_0
                            try clear hfz80_1
                            try clear hfz80_2
                            try clear hfz80_3
                            try clear hfz83_0
                            try clear hfz83_1
                            try clear hfz83_2
                            try clear hfz83_3
                            try clear hfz88_0
                            try clear hfz88_1
                            try clear hfz88_2
                            try clear hfz88_3
                            try clear hfz91_0
                            try clear hfz91_1
                            try clear hfz91_2
                            try clear hfz91_3
                            try clear p2
                            obtain ⟨kq, x103_107, rfl, HA, HJ107, HO_208003, HO_215003, HO_223003, HO_251003, BK192, BK207, BK214, BK222, BK250, HB⟩ := hcut
                            have hl223003_107 := (Kd.S_reads' HO_223003.out).1
                            rw [hl223003_107] at HO_223003
                            (try simp only [hl223003_107])
                            (try simp only [hl223003_107] at BK192)
                            (try simp only [hl223003_107] at BK207)
                            (try simp only [hl223003_107] at BK214)
                            (try simp only [hl223003_107] at BK222)
                            (try simp only [hl223003_107] at BK250)
                            (try simp only [hl223003_107] at HO_208003)
                            (try simp only [hl223003_107] at HO_215003)
                            (try simp only [hl223003_107] at HO_251003)
                            cases kq with
                            | zero => exact absurd HA.out (by simp [laws_FnExactKidOf.j2])
                            | succ kj107 =>
                              have H := HA.out
                              clear HA
                              simp only [laws_FnExactKidOf.j2] at H
                              by_cases c145 : x103_107 = true
                              · subst c145
                                have H1 : (some false) = some true := by rw [if_pos rfl] at H; exact H
                                clear H
                                have H := H1
                                clear H1
                                have hr_ := Aside0.mk (Option.some.inj H); clear H
                                go_wp2
                                go_ret
                                exact ⟨by first | rfl | exact absurd hr_.out (by decide) | (have h_ := hr_.out; first | (subst h_; rfl) | (rw [h_]; done) | (simp only [h_]; done) | (simp at h_ ⊢; exact h_) | (simp at h_ ⊢; omega)) | (simp [errW_none, errW_some] <;> rfl) | (simp [*, errW_none, errW_some] <;> rfl), by repeat (first | (with_reducible first | exact HB.out | apply below_alloc | apply pw_below_drewN | apply below_drew1 | refine below_set ?_ GE192.out | refine below_set ?_ GE207.out | refine below_set ?_ GE214.out | refine below_set ?_ GE222.out | refine below_set ?_ GE250.out) | exact HB.out)⟩
                              · replace c145 := Bool.eq_false_iff.mpr c145
                                subst c145
                                have H1 : ((laws_heldNode.f kj107 t215 t216 t217 t235 1).bind fun t252 => (if t252 < 0 then (some false) else (if t252 = t234 then (some true) else (some false)))) = some true := by rw [if_neg (show ¬ (false = true) by decide)] at H; exact H
                                clear H
                                have H := H1
                                clear H1
                                replace H := Option.bind_eq_some_iff.mp H
                                obtain ⟨t252, A1460, H⟩ := H
                                replace H : (if t252 < 0 then (some false) else (if t252 = t234 then (some true) else (some false))) = some true := H
                                have A146 := Aside0.mk A1460
                                clear A1460
                                have HC147 := Aside0.mk H
                                clear H
                                have hnb148 := NB222_192.out
                                have hnc148 := NB192_222.out
                                have hnb149 := NB222_207.out
                                have hnc149 := NB207_222.out
                                have hnb150 := NB222_214.out
                                have hnc150 := NB214_222.out
                                have hnb151 := NB222_250.out
                                have hnc151 := NB250_222.out
                                have hcz152_0 : wc.cell? ⟨gb222, 0, none⟩ = some (.string t215) := (blk_cell BK222.out 0).trans rfl
                                have hcz152_1 : wc.cell? ⟨gb222, 1, none⟩ = some (.string t216) := (blk_cell BK222.out 1).trans rfl
                                have hcz152_2 : wc.cell? ⟨gb222, 2, none⟩ = some (.string t217) := (blk_cell BK222.out 2).trans rfl
                                have hcz152_3 : wc.cell? ⟨gb222, 3, none⟩ = some (.slice Ao39 t235.length co39) := (blk_cell BK222.out 3).trans rfl
                                have hfz152_0 := blk_frozen BK222.out 0
                                have hfz152_1 := blk_frozen BK222.out 1
                                have hfz152_2 := blk_frozen BK222.out 2
                                have hfz152_3 := blk_frozen BK222.out 3
                                go_upto_if 108 with (first | ((with_reducible refine gate_callee (f := 10) rfl ?_); refine goesL_ (some 106) rfl rfl Try.func10 (by kernel_rfl) rfl #[.agg #[.string t215, .string t216, .string t217, .slice Ao39 t235.length co39], .int .i64 1] rfl (by (try simp only [List.map_toArray, List.map_cons, List.map_nil]); first | done | rfl | (simp only [List.length_drop, List.length_take]; rfl)) ?_; (with_reducible refine (laws_heldNode.calls kj107 t215 t216 t217 _ _ t235 1 t252 _ ?side1 ?side2 A146.out).mono ?_); (case side1 => repeat (first | exact (Kd.S_reads' HO_223003.out).2.2 | (with_reducible refine Kd.C_alloc ?_ _) | (with_reducible refine Kd.C_drewN ?_ _) | (with_reducible refine Kd.C_drew ?_))); (case side2 => exact (Kd.S_reads' HO_223003.out).2.1); rintro e w153 ⟨rfl, hb⟩; refine ⟨_, rfl, ?_⟩; have n0_ := Aside0.mk (Kd.S_below (by (with_reducible repeat (first | apply Kd.S_alloc | apply Kd.S_drewN | apply Kd.S_drew)); exact HO_208003.out) hb); have n1_ := Aside0.mk (Kd.S_below (by (with_reducible repeat (first | apply Kd.S_alloc | apply Kd.S_drewN | apply Kd.S_drew)); exact HO_215003.out) hb); have n2_ := Aside0.mk (Kd.S_below (by (with_reducible repeat (first | apply Kd.S_alloc | apply Kd.S_drewN | apply Kd.S_drew)); exact HO_223003.out) hb); have n3_ := Aside0.mk (Kd.S_below (by (with_reducible repeat (first | apply Kd.S_alloc | apply Kd.S_drewN | apply Kd.S_drew)); exact HO_251003.out) hb); have n4_ := Aside0.mk (blk_below (g := gb192) (o := .cells #[.string a0_0, .string a0_1, .string a0_2, .slice A0_3 l0_3.length c0_3] 24 (0, 0)) (by (with_reducible repeat (first | refine blk_drewN ?_ _ | refine blk_drew ?_ | refine blk_alloc ?_ _)); exact BK192.out) hb); have n5_ := Aside0.mk (blk_below (g := gb207) (o := .cells #[.string t200, .string t201, .string t202, .slice Ao25 t203.length co25] 28 (0, 0)) (by (with_reducible repeat (first | refine blk_drewN ?_ _ | refine blk_drew ?_ | refine blk_alloc ?_ _)); exact BK207.out) hb); have n6_ := Aside0.mk (blk_below (g := gb214) (o := .cells #[.string t208, .string t209, .string t210, .slice Ao32 t232.length co32] 28 (0, 0)) (by (with_reducible repeat (first | refine blk_drewN ?_ _ | refine blk_drew ?_ | refine blk_alloc ?_ _)); exact BK214.out) hb); have n7_ := Aside0.mk (blk_below (g := gb222) (o := .cells #[.string t215, .string t216, .string t217, .slice Ao39 t235.length co39] 28 (0, 0)) (by (with_reducible repeat (first | refine blk_drewN ?_ _ | refine blk_drew ?_ | refine blk_alloc ?_ _)); exact BK222.out) hb); have n8_ := Aside0.mk (blk_below (g := gb250) (o := .cells #[.string t243, .string t244, .string t245, .slice Ao122 t246.length co122] 28 (0, 0)) (by (with_reducible repeat (first | refine blk_drewN ?_ _ | refine blk_drew ?_ | refine blk_alloc ?_ _)); exact BK250.out) hb); have n9_ := Aside0.mk (below_step (by repeat (first | (with_reducible first | exact HB.out | apply below_alloc | apply pw_below_drewN | apply below_drew1 | refine below_set ?_ GE192.out | refine below_set ?_ GE207.out | refine below_set ?_ GE214.out | refine below_set ?_ GE222.out | refine below_set ?_ GE250.out) | exact HB.out)) hb); clear HO_208003; clear HO_215003; clear HO_223003; clear HO_251003; clear BK192; clear BK207; clear BK214; clear BK222; clear BK250; clear HB; have HO_208003 := n0_; have HO_215003 := n1_; have HO_223003 := n2_; have HO_251003 := n3_; have BK192 := n4_; have BK207 := n5_; have BK214 := n6_; have BK222 := n7_; have BK250 := n8_; have HB := n9_; clear n0_ n1_ n2_ n3_ n4_ n5_ n6_ n7_ n8_ n9_; (try clear hb); (try clear hb2); (try clear hk); (try clear hi)))
                                (try simp only [Act.put, List.setIfInBounds_toArray, List.set_cons_zero, List.set_cons_succ])
                                have H := HC147.out
                                clear HC147
                                by_cases c154 : t252 < 0
                                · rw [if_pos c154] at H
                                  have c154b0 : decide (t252 < 0) = true := decide_eq_true c154
                                  clear c154
                                  (first | rw [c154b0] | rw [c154i0] | (simp only [i64_w, i32_w]; rw [c154b0]) | skip)
                                  have hr_ := Aside0.mk (Option.some.inj H); clear H
                                  go_wp2
                                  go_ret
                                  exact ⟨by first | rfl | exact absurd hr_.out (by decide) | (have h_ := hr_.out; first | (subst h_; rfl) | (rw [h_]; done) | (simp only [h_]; done) | (simp at h_ ⊢; exact h_) | (simp at h_ ⊢; omega)) | (simp [errW_none, errW_some] <;> rfl) | (simp [*, errW_none, errW_some] <;> rfl), by repeat (first | (with_reducible first | exact HB.out | apply below_alloc | apply pw_below_drewN | apply below_drew1 | refine below_set ?_ GE192.out | refine below_set ?_ GE207.out | refine below_set ?_ GE214.out | refine below_set ?_ GE222.out | refine below_set ?_ GE250.out) | exact HB.out)⟩
                                · rw [if_neg c154] at H
                                  have c154b0 : decide (t252 < 0) = false := decide_eq_false c154
                                  clear c154
                                  (first | rw [c154b0] | rw [c154i0] | (simp only [i64_w, i32_w]; rw [c154b0]) | skip)
                                  by_cases c155 : t252 = t234
                                  · rw [if_pos c155] at H
                                    have c155b0 : (t252 == t234) = true := beq_iff_eq.mpr c155
                                    have c155b1 : (t252 != t234) = false := bne_eq_false_iff_eq.mpr c155
                                    clear c155
                                    have hr_ := Aside0.mk (Option.some.inj H); clear H
                                    go_wp2
                                    go_ret
                                    exact ⟨by first | rfl | exact absurd hr_.out (by decide) | (have h_ := hr_.out; first | (subst h_; rfl) | (rw [h_]; done) | (simp only [h_]; done) | (simp at h_ ⊢; exact h_) | (simp at h_ ⊢; omega)) | (simp [errW_none, errW_some] <;> rfl) | (simp [*, errW_none, errW_some] <;> rfl), by repeat (first | (with_reducible first | exact HB.out | apply below_alloc | apply pw_below_drewN | apply below_drew1 | refine below_set ?_ GE192.out | refine below_set ?_ GE207.out | refine below_set ?_ GE214.out | refine below_set ?_ GE222.out | refine below_set ?_ GE250.out) | exact HB.out)⟩
                                  · rw [if_neg c155] at H
                                    have c155b0 : (t252 == t234) = false := beq_eq_false_iff_ne.mpr c155
                                    have c155b1 : (t252 != t234) = true := bne_iff_ne.mpr c155
                                    have hr_ := Aside0.mk (Option.some.inj H); clear H
                                    go_wp2
                                    go_ret
                                    exact ⟨by first | rfl | exact absurd hr_.out (by decide) | (have h_ := hr_.out; first | (subst h_; rfl) | (rw [h_]; done) | (simp only [h_]; done) | (simp at h_ ⊢; exact h_) | (simp at h_ ⊢; omega)) | (simp [errW_none, errW_some] <;> rfl) | (simp [*, errW_none, errW_some] <;> rfl), by repeat (first | (with_reducible first | exact HB.out | apply below_alloc | apply pw_below_drewN | apply below_drew1 | refine below_set ?_ GE192.out | refine below_set ?_ GE207.out | refine below_set ?_ GE214.out | refine below_set ?_ GE222.out | refine below_set ?_ GE250.out) | exact HB.out)⟩
                        · rw [if_neg c105] at H
                          have c105b0 : (t236 == t234) = false := beq_eq_false_iff_ne.mpr c105
                          have c105b1 : (t236 != t234) = true := bne_iff_ne.mpr c105
                          have hr_ := Aside0.mk (Option.some.inj H); clear H
                          go_wp2
                          go_ret
                          exact ⟨by first | rfl | exact absurd hr_.out (by decide) | (have h_ := hr_.out; first | (subst h_; rfl) | (rw [h_]; done) | (simp only [h_]; done) | (simp at h_ ⊢; exact h_) | (simp at h_ ⊢; omega)) | (simp [errW_none, errW_some] <;> rfl) | (simp [*, errW_none, errW_some] <;> rfl), by repeat (first | (with_reducible first | exact HB.out | apply below_alloc | apply pw_below_drewN | apply below_drew1 | refine below_set ?_ GE192.out | refine below_set ?_ GE207.out | refine below_set ?_ GE214.out | refine below_set ?_ GE222.out) | exact HB.out)⟩
              · replace c66 := Bool.eq_false_iff.mpr c66
                subst c66
                have H1 : (some false) = some true := by rw [if_neg (show ¬ (false = true) by decide)] at H; exact H
                clear H
                have H := H1
                clear H1
                have hr_ := Aside0.mk (Option.some.inj H); clear H
                go_wp2
                go_ret
                exact ⟨by first | rfl | exact absurd hr_.out (by decide) | (have h_ := hr_.out; first | (subst h_; rfl) | (rw [h_]; done) | (simp only [h_]; done) | (simp at h_ ⊢; exact h_) | (simp at h_ ⊢; omega)) | (simp [errW_none, errW_some] <;> rfl) | (simp [*, errW_none, errW_some] <;> rfl), by repeat (first | (with_reducible first | exact HB.out | apply below_alloc | apply pw_below_drewN | apply below_drew1 | refine below_set ?_ GE192.out | refine below_set ?_ GE207.out | refine below_set ?_ GE214.out | refine below_set ?_ GE222.out) | exact HB.out)⟩

def B24 : Nat → S24 → Prop
  | 0, _ => True
  | n_ + 1, x => (x.f0.size ≤ 9223372036854775807) ∧ (x.f1.size ≤ 9223372036854775807) ∧ (x.f2.size ≤ 9223372036854775807) ∧ (x.f3.length ≤ 9223372036854775807 ∧ ∀ y ∈ x.f3, B24 n_ y)

/-- THE ONE PURE STATEMENT of laws_FnExactKidOf: yours. -/
def laws_FnExactKidOf.Pure : Prop := ∀ (a0_0 : ByteArray) (a0_1 : ByteArray) (a0_2 : ByteArray) (l0_3 : List (S24)) (a1 : ByteArray) (a2 : ByteArray), (a0_0.size ≤ 9223372036854775807) → (a0_1.size ≤ 9223372036854775807) → (a0_2.size ≤ 9223372036854775807) → (l0_3.length ≤ 9223372036854775807 ∧ ∀ x ∈ l0_3, ∀ n_ : Nat, B24 n_ x) → a1.size ≤ 140737488351232 → a2.size ≤ 140737488351232 → ∃ k, laws_FnExactKidOf.f k a0_0 a0_1 a0_2 l0_3 a1 a2 = some true
theorem laws_FnExactKidOf.walk (P : laws_FnExactKidOf.Pure) (a0_0 : ByteArray) (a0_1 : ByteArray) (a0_2 : ByteArray) (A0_3 : Option Addr) (c0_3 : Nat) (l0_3 : List (S24)) (a1 : ByteArray) (a2 : ByteArray) (w : World) (hr0_3 : Kd.C k24 w A0_3 l0_3.length l0_3) (hc0_3 : l0_3.length ≤ c0_3) (w0 : (a0_0.size ≤ 9223372036854775807)) (w1 : (a0_1.size ≤ 9223372036854775807)) (w2 : (a0_2.size ≤ 9223372036854775807)) (w3 : (l0_3.length ≤ 9223372036854775807 ∧ ∀ x ∈ l0_3, ∀ n_ : Nat, B24 n_ x)) (w4 : a1.size ≤ 140737488351232) (w5 : a2.size ≤ 140737488351232) :
    Calls Try.prog 3 #[.agg #[.string a0_0, .string a0_1, .string a0_2, .slice A0_3 l0_3.length c0_3], .string a1, .string a2] w fun e w' => e = .returned (.bool true) ∧ Below w.heap.size w w' := by
  obtain ⟨k, h⟩ := P a0_0 a0_1 a0_2 l0_3 a1 a2 w0 w1 w2 w3 w4 w5
  refine (laws_FnExactKidOf.calls k a0_0 a0_1 a0_2 _ _ l0_3 a1 a2 w hr0_3 hc0_3 h).mono ?_
  rintro e w' ⟨rfl, hd⟩
  exact ⟨rfl, hd⟩

end Go.Proofs.Ytaajhdljdmbhhaa.GFnExactKidOf
