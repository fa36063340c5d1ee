-- by gprint.py (this session's program over the kit's print.py) (a twelfth state) out of the translation. Not trusted: Lean checks it.
import Derived.Test.YtfncjddolbghlaaGreatDoorGFnRespsx0
import Derived.Test.YtfncjddolbghlaaGreatDoorGFnRespsx2
namespace Go.Proofs.YtfncjddolbghlaaGreatDoor.GFnResps
open Go.RowKit Go.Proofs.YtfncjddolbghlaaGreatDoorW.PrintWords Go.Proofs.YtfncjddolbghlaaGreatDoorW.PrintLast Go.Proofs.YtfncjddolbghlaaGreatDoorW.PrintMore
attribute [local go_sem] max2_int min2_int max_two min_two max_three min_three max_four min_four   -- for this text's walks alone
set_option linter.unusedVariables false
set_option linter.unusedSimpArgs false
set_option maxRecDepth 100000
set_option maxHeartbeats 8000000

def spec_l5Head.l0 : Nat → ByteArray → Int → Option (ByteArray × ByteArray × Bool)
 | 0, _, _ => none
 | k + 1, x0, x4 => if (wrap64 (x4 + 1)) < (x0.size : Int) then (if 0 ≤ x4 then (if x4 < (x0.size : Int) then (if (bt x0 x4) = 58 then (if 0 ≤ (wrap64 (x4 + 1)) then (if (bt x0 (wrap64 (x4 + 1))) = 32 then (if (wrap64 (x4 + 1)) ≥ (x0.size : Int) then (some ((⟨#[]⟩ : ByteArray), (⟨#[]⟩ : ByteArray), false)) else (if x4 ≤ (x0.size : Int) then (if 0 ≤ (wrap64 (x4 + 2)) then (if (wrap64 (x4 + 2)) ≤ (x0.size : Int) then (some (x0.extract 0 (x4 : Int).toNat, x0.extract ((wrap64 (x4 + 2)) : Int).toNat x0.size, true)) else (none)) else (none)) else (none))) else (spec_l5Head.l0 k x0 (wrap64 (x4 + 1)))) else (none)) else (spec_l5Head.l0 k x0 (wrap64 (x4 + 1)))) else (none)) else (none)) else (if (wrap64 (x4 + 1)) ≥ (x0.size : Int) then (some ((⟨#[]⟩ : ByteArray), (⟨#[]⟩ : ByteArray), false)) else (if 0 ≤ x4 then (if x4 ≤ (x0.size : Int) then (if 0 ≤ (wrap64 (x4 + 2)) then (if (wrap64 (x4 + 2)) ≤ (x0.size : Int) then (some (x0.extract 0 (x4 : Int).toNat, x0.extract ((wrap64 (x4 + 2)) : Int).toNat x0.size, true)) else (none)) else (none)) else (none)) else (none)))
def spec_l5Head.f (k : Nat) (a0 : ByteArray) : Option (ByteArray × ByteArray × Bool) := spec_l5Head.l0 k a0 0

def spec_l5Head.T6 : Bool × List (List Nat × List Nat) := (true, [([], []), ([], []), ([0, 1], [0, 1]), ([], []), ([], []), ([4], [4]), ([3, 5], [3, 5]), ([2, 6], [2, 6]), ([7, 0, 1, 2, 3, 4, 5, 6, 7], [7]), ([8, 0, 1, 2, 3, 4, 5, 6, 7, 8], [])])
def spec_l5Head.B6 : List Nat := [0, 0, 3, 0, 0, 16, 56, 127, 255, 511]
theorem spec_l5Head.tab6 : rtab .any (opsOf Tryz.f74 6) = spec_l5Head.T6 := by kernel_rfl
theorem spec_l5Head.bits6 : waitsOk spec_l5Head.T6.2 spec_l5Head.B6 = true := by kernel_rfl
theorem spec_l5Head.calls (k : Nat) (a0 : ByteArray) (r1 : ByteArray) (r2 : ByteArray) (r3 : Bool) (w : World) (h : spec_l5Head.f k a0 = some (r1, r2, r3)) :
  Calls Tryz.prog 74 #[.string a0] w fun e w' => e = .returned (.tuple #[.agg #[.string r1, .string r2], .bool r3]) ∧ Below w.heap.size w w' := by
 have hu88 := Tryz.underlying88; have HB := aK (Below.refl w.heap.size w); have H : (spec_l5Head.l0 k a0 0) = some (r1, r2, r3) := h; clear h; have H' := aK H; clear H; go_enter Tryz.func74, Tryz.ntmps74
 go_wp2_with (first | ((with_reducible refine gate_dst (N := 2) rfl ?_); refine box_event ?hg (N := 2) ?hd (cs := #[.string (⟨#[]⟩ : ByteArray), .string (⟨#[]⟩ : ByteArray)]) (t := 88) ?hr ?_; (case hd => rfl); (case hg => rfl); (case hr => exact q26_); intro gb114 hg w2 hbox hb; have n0_ := aK (below_step q2_ hb); have n1_ := aK (hbox); have n2_ := aK ((q44_ : w.heap.size ≤ gb114)); have n3_ := aK ((q44_ : w.heap.size ≤ gb114)); clear HB; have HB := n0_; have BK114 := n1_; have GW114 := n2_; have GE114 := n3_; clear n0_ n1_ n2_ n3_; clear hb hbox hg))
 go_loopg [4] k (fun kq v4 w' => ∃ (x4_1 : Int), v4 = .int .i64 x4_1 ∧ Aside0 (spec_l5Head.l0 kq a0 x4_1 = some (r1, r2, r3)) ∧ Aside0 (kq ≤ k) ∧ Aside0 (w'.heap[gb114]? = some (.cells #[.string (⟨#[]⟩ : ByteArray), .string (⟨#[]⟩ : ByteArray)] 88 (0, 0))) ∧ Aside0 (Below w.heap.size w w'))
 case atStart => exact ⟨(0), q4_, H', ⟨Nat.le_refl _⟩, ⟨q204_⟩, ⟨q80_⟩⟩
 case round =>
  clear H'; (try clear p2); obtain ⟨x4_1, rfl, HA, HK1, BK114, HB⟩ := hrel; cases gk with
  | zero => exact absurd HA.1 (by simp [spec_l5Head.l0])
  | succ k1 =>
   have H := HA.1; clear HA; simp only [spec_l5Head.l0] at H; by_cases c3 : (wrap64 (x4_1 + 1)) < (a0.size : Int)
   ·rw [if_pos c3] at H; have c3b0 : decide ((wrap64 (x4_1 + 1)) < (a0.size : Int)) = true := decide_eq_true c3; clear c3; by_cases c4 : 0 ≤ x4_1
    ·rw [if_pos c4] at H; have c4b0 : decide (0 ≤ x4_1) = true := decide_eq_true c4; clear c4; by_cases c5 : x4_1 < (a0.size : Int)
     ·rw [if_pos c5] at H; have c5b0 : decide (x4_1 < (a0.size : Int)) = true := decide_eq_true c5; clear c5; by_cases c7 : (bt a0 x4_1) = 58
      ·rw [if_pos c7] at H; have c7b0 : ((bt a0 x4_1) == 58) = true := beq_iff_eq.mpr c7; have c7b1 : ((bt a0 x4_1) != 58) = false := bne_eq_false_iff_eq.mpr c7; clear c7; obtain ⟨ji8, hji8⟩ : ∃ j_ : Int, (wrap64 (x4_1 + 1)) = j_ := ⟨_, rfl⟩; replace H : (if 0 ≤ (ji8) then (if (bt a0 (ji8)) = 32 then (if (ji8) ≥ (a0.size : Int) then (some ((⟨#[]⟩ : ByteArray), (⟨#[]⟩ : ByteArray), false)) else (if x4_1 ≤ (a0.size : Int) then (if 0 ≤ (wrap64 (x4_1 + 2)) then (if (wrap64 (x4_1 + 2)) ≤ (a0.size : Int) then (some (a0.extract 0 (x4_1 : Int).toNat, a0.extract ((wrap64 (x4_1 + 2)) : Int).toNat a0.size, true)) else (none)) else (none)) else (none))) else (spec_l5Head.l0 k1 a0 ji8)) else (none)) = some (r1, r2, r3) := by first | (rw [hji8] at H; exact H) | (simp only [hji8] at H ⊢; exact H)
       (try rw [hji8] at c3b0); have hji8w : (IntKind.i64.wrap (x4_1 + 1)) = ji8 := (i64_w _).trans hji8; by_cases c9 : 0 ≤ (ji8)
       ·rw [if_pos c9] at H; have c9b0 : decide (0 ≤ (ji8)) = true := decide_eq_true c9; clear c9; by_cases c11 : (bt a0 (ji8)) = 32
        ·rw [if_pos c11] at H; have c11b0 : ((bt a0 (ji8)) == 32) = true := beq_iff_eq.mpr c11; have c11b1 : ((bt a0 (ji8)) != 32) = false := bne_eq_false_iff_eq.mpr c11; clear c11; by_cases c12 : (ji8) ≥ (a0.size : Int)
         ·rw [if_pos c12] at H; have c12b0 : decide ((a0.size : Int) ≤ (ji8)) = true := decide_eq_true c12; clear c12; simp only [Option.some.injEq, Prod.mk.injEq] at H; obtain ⟨rfl, rfl, rfl⟩ := H; have p6 : 0 ≤ (x4_1 : Int) := of_decide_eq_true q3_; have q6 : x4_1 < (a0.size : Int) := of_decide_eq_true q3_; have hx6 := bt_at a0 x4_1; replace p6 := eq_true p6; replace q6 := eq_true q6; have p10 : 0 ≤ ((ji8) : Int) := of_decide_eq_true q3_; have q10 : (ji8) < (a0.size : Int) := of_decide_eq_true q3_; have hx10 := bt_at a0 (ji8); replace p10 := eq_true p10; replace q10 := eq_true q10; have hcz13_0 : wr.cell? ⟨gb114, 0, none⟩ = some (.string (⟨#[]⟩ : ByteArray)) := (bc_ BK114.1 0).trans rfl; have hcz13_1 : wr.cell? ⟨gb114, 1, none⟩ = some (.string (⟨#[]⟩ : ByteArray)) := (bc_ BK114.1 1).trans rfl; have hfz13_0 := bF_ BK114.1 0; have hfz13_1 := bF_ BK114.1 1; go_wp2
          refine bodyPost_ret (results_ct rfl _ _ gb114 88 #[.string (⟨#[]⟩ : ByteArray), .string (⟨#[]⟩ : ByteArray)] (0, 0) _ rfl (by (with_reducible repeat (first | refine bN_ ?_ _ | refine bD_ ?_ | refine bA_ ?_ _)); refine blk_put (cs := #[.string (⟨#[]⟩ : ByteArray), .string (⟨#[]⟩ : ByteArray)]) ?_ 1 _ rfl; (with_reducible repeat (first | refine bN_ ?_ _ | refine bD_ ?_ | refine bA_ ?_ _)); refine blk_put (cs := #[.string (⟨#[]⟩ : ByteArray), .string (⟨#[]⟩ : ByteArray)]) ?_ 0 _ rfl; (with_reducible repeat (first | refine bN_ ?_ _ | refine bD_ ?_ | refine bA_ ?_ _)); exact BK114.1) Tryz.underlying88 rfl (by kernel_rfl)) rfl ?_; exact ⟨by first | rfl | (simp [errW_none, errW_some] <;> rfl) | (simp only [← hji8]; first | rfl | (simp [errW_none, errW_some] <;> rfl)) | (simp [*, errW_none, errW_some] <;> rfl), q80_⟩
         ·rw [if_neg c12] at H; have c12b0 : decide ((a0.size : Int) ≤ (ji8)) = false := decide_eq_false c12; clear c12; have c14b0 := eq_true (of_decide_eq_true q3_ : 0 ≤ x4_1); by_cases c15 : x4_1 ≤ (a0.size : Int)
          ·rw [if_pos c15] at H; have c15b0 := eq_true c15; have c15b1 : decide (x4_1 ≤ (a0.size : Int)) = true := decide_eq_true c15; clear c15; obtain ⟨ji16, hji16⟩ : ∃ j_ : Int, (wrap64 (x4_1 + 2)) = j_ := ⟨_, rfl⟩; replace H : (if 0 ≤ (ji16) then (if (ji16) ≤ (a0.size : Int) then (some (a0.extract 0 (x4_1 : Int).toNat, a0.extract ((ji16) : Int).toNat a0.size, true)) else (none)) else (none)) = some (r1, r2, r3) := by first | (rw [hji16] at H; exact H) | (simp only [hji16] at H ⊢; exact H)
           have hji16w : (IntKind.i64.wrap (x4_1 + 2)) = ji16 := (i64_w _).trans hji16; by_cases c17 : 0 ≤ (ji16)
           ·rw [if_pos c17] at H; have c17b0 := eq_true c17; have c17b1 : decide (0 ≤ (ji16)) = true := decide_eq_true c17; clear c17; by_cases c18 : (ji16) ≤ (a0.size : Int)
            ·rw [if_pos c18] at H; have c18b0 := eq_true c18; have c18b1 : decide ((ji16) ≤ (a0.size : Int)) = true := decide_eq_true c18; clear c18; simp only [Option.some.injEq, Prod.mk.injEq] at H; obtain ⟨rfl, rfl, rfl⟩ := H; have p6 : 0 ≤ (x4_1 : Int) := of_decide_eq_true q3_; have q6 : x4_1 < (a0.size : Int) := of_decide_eq_true q3_; have hx6 := bt_at a0 x4_1; replace p6 := eq_true p6; replace q6 := eq_true q6; have p10 : 0 ≤ ((ji8) : Int) := of_decide_eq_true q3_; have q10 : (ji8) < (a0.size : Int) := of_decide_eq_true q3_; have hx10 := bt_at a0 (ji8); replace p10 := eq_true p10; replace q10 := eq_true q10; try go_wp2
             have n0_ := aK (bD_ BK114.1); have n1_ := aK (dB_ HB.1); clear BK114 HB; have BK114 := n0_; have HB := n1_; clear n0_ n1_; refine start_ (n := 10) (S := fun w' => True) (ds := []) #[Z, Z, Z, Z, Z, Z, Z, Z, Z, Z] (by kernel_rfl) rfl rfl trivial (fun hHeld => ?_); refine with_tabW spec_l5Head.tab6 spec_l5Head.bits6 (fun HT_ HW_ => ?_); generalize wr.drew = w19 at BK114 HB hHeld ⊢; refine pure_ (i := 0) (N := some 31) (v := ?_) (a' := ?_) #[Y, Z, Z, Z, Z, Z, Z, Z, Z, Z] rfl rfl (any_of HT_.1 (by kernel_rfl)) (fun _ _ _ h => h) (Or.inl ⟨by rfl, ?_⟩) ?_ ?_; rotate_left
             ·intro w'; go_simp
              with_reducible rfl
             rotate_left
             ·simp only [Act.put, sI, sZ, sS, i64_w, i32_w]; rfl
             refine pure_ (i := 1) (N := some 32) (v := ?_) (a' := ?_) #[Y, Y, Z, Z, Z, Z, Z, Z, Z, Z] rfl rfl (any_of HT_.1 (by kernel_rfl)) (fun _ _ _ h => h) (Or.inl ⟨by rfl, ?_⟩) ?_ ?_; rotate_left
             ·intro w'; go_simp
              with_reducible rfl
             rotate_left
             ·simp only [Act.put, sI, sZ, sS, i64_w, i32_w]; rfl
             refine pure_ (i := 2) (N := some 33) (v := ?_) (a' := ?_) #[Y, Y, Y, Z, Z, Z, Z, Z, Z, Z] rfl rfl (any_of HT_.1 (by kernel_rfl)) (fun _ _ _ h => h) (Or.inl ⟨by rfl, ?_⟩) ?_ ?_; rotate_left
             ·intro w'; go_simp
              with_reducible rfl
             rotate_left
             ·simp only [Act.put, sI, sZ, sS, i64_w, i32_w]; rfl
             refine pure_ (i := 3) (N := some 34) (v := ?_) (a' := ?_) #[Y, Y, Y, Y, Z, Z, Z, Z, Z, Z] rfl rfl (any_of HT_.1 (by kernel_rfl)) (fun _ _ _ h => h) (Or.inl ⟨by rfl, ?_⟩) ?_ ?_; rotate_left
             ·intro w'; go_simp
              with_reducible rfl
             rotate_left
             ·simp only [Act.put, sI, sZ, sS, i64_w, i32_w]; rfl
             refine pure_ (i := 4) (N := some 35) (v := ?_) (a' := ?_) #[Y, Y, Y, Y, Y, Z, Z, Z, Z, Z] rfl rfl (any_of HT_.1 (by kernel_rfl)) (fun _ _ _ h => h) (Or.inl ⟨by rfl, ?_⟩) ?_ ?_; rotate_left
             ·intro w'; go_simp
              with_reducible rfl
             rotate_left
             ·simp only [Act.put, sI, sZ, sS, i64_w, i32_w]; rfl
             refine pure_ (i := 5) (N := some 36) (v := ?_) (a' := ?_) #[Y, Y, Y, Y, Y, Y, Z, Z, Z, Z] rfl rfl (any_of HT_.1 (by kernel_rfl)) (fun _ _ _ h => h) (Or.inl ⟨by rfl, ?_⟩) ?_ ?_; rotate_left
             ·intro w'; go_simp
              with_reducible rfl
             rotate_left
             ·simp only [Act.put, sI, sZ, sS, i64_w, i32_w]; rfl
             refine pure_ (i := 6) (N := some 37) (v := ?_) (a' := ?_) #[Y, Y, Y, Y, Y, Y, Y, Z, Z, Z] rfl rfl (any_of HT_.1 (by kernel_rfl)) (fun _ _ _ h => h) (Or.inl ⟨by rfl, ?_⟩) ?_ ?_; rotate_left
             ·intro w'; go_simp
              with_reducible rfl
             rotate_left
             ·simp only [Act.put, sI, sZ, sS, i64_w, i32_w]; rfl
             refine pure_ (i := 7) (N := some 38) (v := ?_) (a' := ?_) #[Y, Y, Y, Y, Y, Y, Y, Y, Z, Z] rfl rfl (any_of HT_.1 (by kernel_rfl)) (fun _ _ _ h => h) (Or.inl ⟨by rfl, ?_⟩) ?_ ?_; rotate_left
             ·intro w'; go_simp
              with_reducible rfl
             rotate_left
             ·simp only [Act.put, sI, sZ, sS, i64_w, i32_w]; rfl
             refine one_ (i := 8) (N := none) #[Y, Y, Y, Y, Y, Y, Y, Y, Y, Z] rfl rfl (one_of HT_.1 (by kernel_rfl)) (by decide) (fun K hK => ?_); have hs20 : w19.cell? ⟨gb114, 0, none⟩ = some (.string (⟨#[]⟩ : ByteArray)) := (bc_ BK114.1 0).trans rfl; have hfs20 := bF_ BK114.1 0; have hs21 : w19.cell? ⟨gb114, 1, none⟩ = some (.string (⟨#[]⟩ : ByteArray)) := (bc_ BK114.1 1).trans rfl; have hfs21 := bF_ BK114.1 1; refine skip_ (w1 := ?_) (by rfl) rfl ?_ ?_; rotate_left
             ·go_simp
              rfl
             refine hK.out _ _ trivial (fun hHeld => ?_); clear hK K; refine pure_ (i := 9) (N := some 3) (v := ?_) (a' := ?_) #[Y, Y, Y, Y, Y, Y, Y, Y, Y, Y] rfl rfl (any_of HT_.1 (by kernel_rfl)) (fun _ _ _ h => h) (Or.inl ⟨by rfl, ?_⟩) ?_ ?_; rotate_left
             ·intro w'; go_simp
              with_reducible rfl
             rotate_left
             ·simp only [Act.put, sI, sZ, sS, i64_w, i32_w]; rfl
             refine done_ (done_of HT_.1 (by kernel_rfl)) ?_; try go_wp2
             refine bodyPost_ret (results_ct rfl _ _ gb114 88 #[.string (a0.extract 0 (x4_1 : Int).toNat), .string (a0.extract ((ji16) : Int).toNat a0.size)] (0, 0) _ rfl (by (with_reducible repeat (first | refine bN_ ?_ _ | refine bD_ ?_ | refine bA_ ?_ _)); refine blk_put (cs := #[.string (a0.extract 0 (x4_1 : Int).toNat), .string (⟨#[]⟩ : ByteArray)]) ?_ 1 _ rfl; (with_reducible repeat (first | refine bN_ ?_ _ | refine bD_ ?_ | refine bA_ ?_ _)); refine blk_put (cs := #[.string (⟨#[]⟩ : ByteArray), .string (⟨#[]⟩ : ByteArray)]) ?_ 0 _ rfl; (with_reducible repeat (first | refine bN_ ?_ _ | refine bD_ ?_ | refine bA_ ?_ _)); exact BK114.1) Tryz.underlying88 rfl (by kernel_rfl)) rfl ?_; exact ⟨by first | rfl | (simp [errW_none, errW_some] <;> rfl) | (simp only [← hji8, ← hji16]; first | rfl | (simp [errW_none, errW_some] <;> rfl)) | (simp [*, errW_none, errW_some] <;> rfl), q80_⟩
            ·rw [if_neg c18] at H; exact absurd H (by simp)
           ·rw [if_neg c17] at H; exact absurd H (by simp)
          ·rw [if_neg c15] at H; exact absurd H (by simp)
        ·rw [if_neg c11] at H; have c11b0 : ((bt a0 (ji8)) == 32) = false := beq_eq_false_iff_ne.mpr c11; have c11b1 : ((bt a0 (ji8)) != 32) = true := bne_iff_ne.mpr c11; have H' := aK H; clear H; have p6 : 0 ≤ (x4_1 : Int) := of_decide_eq_true q3_; have q6 : x4_1 < (a0.size : Int) := of_decide_eq_true q3_; have hx6 := bt_at a0 x4_1; replace p6 := eq_true p6; replace q6 := eq_true q6; have p10 : 0 ≤ ((ji8) : Int) := of_decide_eq_true q3_; have q10 : (ji8) < (a0.size : Int) := of_decide_eq_true q3_; have hx10 := bt_at a0 (ji8); replace p10 := eq_true p10; replace q10 := eq_true q10; go_wp2
         go_roundg k1
         case measure => have := HK1.1; omega
         case rel => exact ⟨(ji8), (by first | rfl | (simp; done) | (simp only [← hji8] <;> (first | rfl | simp)) | (simp [*]; done) | (simp [empty_ne, *]; done)), H', ⟨q144_⟩, ⟨q204_⟩, ⟨q80_⟩⟩
       ·rw [if_neg c9] at H; exact absurd H (by simp)
      ·rw [if_neg c7] at H; have c7b0 : ((bt a0 x4_1) == 58) = false := beq_eq_false_iff_ne.mpr c7; have c7b1 : ((bt a0 x4_1) != 58) = true := bne_iff_ne.mpr c7; have H' := aK H; clear H; have p6 : 0 ≤ (x4_1 : Int) := of_decide_eq_true q3_; have q6 : x4_1 < (a0.size : Int) := of_decide_eq_true q3_; have hx6 := bt_at a0 x4_1; replace p6 := eq_true p6; replace q6 := eq_true q6; go_wp2
       go_roundg k1
       case measure => have := HK1.1; omega
       case rel => exact ⟨(wrap64 (x4_1 + 1)), q4_, H', ⟨q144_⟩, ⟨q204_⟩, ⟨q80_⟩⟩
     ·rw [if_neg c5] at H; exact absurd H (by simp)
    ·rw [if_neg c4] at H; exact absurd H (by simp)
   ·rw [if_neg c3] at H; have c3b0 : decide ((wrap64 (x4_1 + 1)) < (a0.size : Int)) = false := decide_eq_false c3; clear c3; by_cases c22 : (wrap64 (x4_1 + 1)) ≥ (a0.size : Int)
    ·rw [if_pos c22] at H; have c22b0 : decide ((a0.size : Int) ≤ (wrap64 (x4_1 + 1))) = true := decide_eq_true c22; clear c22; simp only [Option.some.injEq, Prod.mk.injEq] at H; obtain ⟨rfl, rfl, rfl⟩ := H; have hcz23_0 : wr.cell? ⟨gb114, 0, none⟩ = some (.string (⟨#[]⟩ : ByteArray)) := (bc_ BK114.1 0).trans rfl; have hcz23_1 : wr.cell? ⟨gb114, 1, none⟩ = some (.string (⟨#[]⟩ : ByteArray)) := (bc_ BK114.1 1).trans rfl; have hfz23_0 := bF_ BK114.1 0; have hfz23_1 := bF_ BK114.1 1; go_wp2
     refine bodyPost_ret (results_ct rfl _ _ gb114 88 #[.string (⟨#[]⟩ : ByteArray), .string (⟨#[]⟩ : ByteArray)] (0, 0) _ rfl (by (with_reducible repeat (first | refine bN_ ?_ _ | refine bD_ ?_ | refine bA_ ?_ _)); refine blk_put (cs := #[.string (⟨#[]⟩ : ByteArray), .string (⟨#[]⟩ : ByteArray)]) ?_ 1 _ rfl; (with_reducible repeat (first | refine bN_ ?_ _ | refine bD_ ?_ | refine bA_ ?_ _)); refine blk_put (cs := #[.string (⟨#[]⟩ : ByteArray), .string (⟨#[]⟩ : ByteArray)]) ?_ 0 _ rfl; (with_reducible repeat (first | refine bN_ ?_ _ | refine bD_ ?_ | refine bA_ ?_ _)); exact BK114.1) Tryz.underlying88 rfl (by kernel_rfl)) rfl ?_; exact ⟨q15_, q80_⟩
    ·rw [if_neg c22] at H; have c22b0 : decide ((a0.size : Int) ≤ (wrap64 (x4_1 + 1))) = false := decide_eq_false c22; clear c22; by_cases c24 : 0 ≤ x4_1
     ·rw [if_pos c24] at H; have c24b0 := eq_true c24; have c24b1 : decide (0 ≤ x4_1) = true := decide_eq_true c24; clear c24; by_cases c25 : x4_1 ≤ (a0.size : Int)
      ·rw [if_pos c25] at H; have c25b0 := eq_true c25; have c25b1 : decide (x4_1 ≤ (a0.size : Int)) = true := decide_eq_true c25; clear c25; obtain ⟨ji26, hji26⟩ : ∃ j_ : Int, (wrap64 (x4_1 + 2)) = j_ := ⟨_, rfl⟩; replace H : (if 0 ≤ (ji26) then (if (ji26) ≤ (a0.size : Int) then (some (a0.extract 0 (x4_1 : Int).toNat, a0.extract ((ji26) : Int).toNat a0.size, true)) else (none)) else (none)) = some (r1, r2, r3) := by first | (rw [hji26] at H; exact H) | (simp only [hji26] at H ⊢; exact H)
       have hji26w : (IntKind.i64.wrap (x4_1 + 2)) = ji26 := (i64_w _).trans hji26; by_cases c27 : 0 ≤ (ji26)
       ·rw [if_pos c27] at H; have c27b0 := eq_true c27; have c27b1 : decide (0 ≤ (ji26)) = true := decide_eq_true c27; clear c27; by_cases c28 : (ji26) ≤ (a0.size : Int)
        ·rw [if_pos c28] at H; have c28b0 := eq_true c28; have c28b1 : decide ((ji26) ≤ (a0.size : Int)) = true := decide_eq_true c28; clear c28; simp only [Option.some.injEq, Prod.mk.injEq] at H; obtain ⟨rfl, rfl, rfl⟩ := H; try go_wp2
         have n0_ := aK (bD_ BK114.1); have n1_ := aK (dB_ HB.1); clear BK114 HB; have BK114 := n0_; have HB := n1_; clear n0_ n1_; refine start_ (n := 10) (S := fun w' => True) (ds := []) #[Z, Z, Z, Z, Z, Z, Z, Z, Z, Z] (by kernel_rfl) rfl rfl trivial (fun hHeld => ?_); refine with_tabW spec_l5Head.tab6 spec_l5Head.bits6 (fun HT_ HW_ => ?_); generalize wr.drew = w29 at BK114 HB hHeld ⊢; refine pure_ (i := 0) (N := some 31) (v := ?_) (a' := ?_) #[Y, Z, Z, Z, Z, Z, Z, Z, Z, Z] rfl rfl (any_of HT_.1 (by kernel_rfl)) (fun _ _ _ h => h) (Or.inl ⟨by rfl, ?_⟩) ?_ ?_; rotate_left
         ·intro w'; go_simp
          with_reducible rfl
         rotate_left
         ·simp only [Act.put, sI, sZ, sS, i64_w, i32_w]; rfl
         refine pure_ (i := 1) (N := some 32) (v := ?_) (a' := ?_) #[Y, Y, Z, Z, Z, Z, Z, Z, Z, Z] rfl rfl (any_of HT_.1 (by kernel_rfl)) (fun _ _ _ h => h) (Or.inl ⟨by rfl, ?_⟩) ?_ ?_; rotate_left
         ·intro w'; go_simp
          with_reducible rfl
         rotate_left
         ·simp only [Act.put, sI, sZ, sS, i64_w, i32_w]; rfl
         refine pure_ (i := 2) (N := some 33) (v := ?_) (a' := ?_) #[Y, Y, Y, Z, Z, Z, Z, Z, Z, Z] rfl rfl (any_of HT_.1 (by kernel_rfl)) (fun _ _ _ h => h) (Or.inl ⟨by rfl, ?_⟩) ?_ ?_; rotate_left
         ·intro w'; go_simp
          with_reducible rfl
         rotate_left
         ·simp only [Act.put, sI, sZ, sS, i64_w, i32_w]; rfl
         refine pure_ (i := 3) (N := some 34) (v := ?_) (a' := ?_) #[Y, Y, Y, Y, Z, Z, Z, Z, Z, Z] rfl rfl (any_of HT_.1 (by kernel_rfl)) (fun _ _ _ h => h) (Or.inl ⟨by rfl, ?_⟩) ?_ ?_; rotate_left
         ·intro w'; go_simp
          with_reducible rfl
         rotate_left
         ·simp only [Act.put, sI, sZ, sS, i64_w, i32_w]; rfl
         refine pure_ (i := 4) (N := some 35) (v := ?_) (a' := ?_) #[Y, Y, Y, Y, Y, Z, Z, Z, Z, Z] rfl rfl (any_of HT_.1 (by kernel_rfl)) (fun _ _ _ h => h) (Or.inl ⟨by rfl, ?_⟩) ?_ ?_; rotate_left
         ·intro w'; go_simp
          with_reducible rfl
         rotate_left
         ·simp only [Act.put, sI, sZ, sS, i64_w, i32_w]; rfl
         refine pure_ (i := 5) (N := some 36) (v := ?_) (a' := ?_) #[Y, Y, Y, Y, Y, Y, Z, Z, Z, Z] rfl rfl (any_of HT_.1 (by kernel_rfl)) (fun _ _ _ h => h) (Or.inl ⟨by rfl, ?_⟩) ?_ ?_; rotate_left
         ·intro w'; go_simp
          with_reducible rfl
         rotate_left
         ·simp only [Act.put, sI, sZ, sS, i64_w, i32_w]; rfl
         refine pure_ (i := 6) (N := some 37) (v := ?_) (a' := ?_) #[Y, Y, Y, Y, Y, Y, Y, Z, Z, Z] rfl rfl (any_of HT_.1 (by kernel_rfl)) (fun _ _ _ h => h) (Or.inl ⟨by rfl, ?_⟩) ?_ ?_; rotate_left
         ·intro w'; go_simp
          with_reducible rfl
         rotate_left
         ·simp only [Act.put, sI, sZ, sS, i64_w, i32_w]; rfl
         refine pure_ (i := 7) (N := some 38) (v := ?_) (a' := ?_) #[Y, Y, Y, Y, Y, Y, Y, Y, Z, Z] rfl rfl (any_of HT_.1 (by kernel_rfl)) (fun _ _ _ h => h) (Or.inl ⟨by rfl, ?_⟩) ?_ ?_; rotate_left
         ·intro w'; go_simp
          with_reducible rfl
         rotate_left
         ·simp only [Act.put, sI, sZ, sS, i64_w, i32_w]; rfl
         refine one_ (i := 8) (N := none) #[Y, Y, Y, Y, Y, Y, Y, Y, Y, Z] rfl rfl (one_of HT_.1 (by kernel_rfl)) (by decide) (fun K hK => ?_); have hs30 : w29.cell? ⟨gb114, 0, none⟩ = some (.string (⟨#[]⟩ : ByteArray)) := (bc_ BK114.1 0).trans rfl; have hfs30 := bF_ BK114.1 0; have hs31 : w29.cell? ⟨gb114, 1, none⟩ = some (.string (⟨#[]⟩ : ByteArray)) := (bc_ BK114.1 1).trans rfl; have hfs31 := bF_ BK114.1 1; refine skip_ (w1 := ?_) (by rfl) rfl ?_ ?_; rotate_left
         ·go_simp
          rfl
         refine hK.out _ _ trivial (fun hHeld => ?_); clear hK K; refine pure_ (i := 9) (N := some 3) (v := ?_) (a' := ?_) #[Y, Y, Y, Y, Y, Y, Y, Y, Y, Y] rfl rfl (any_of HT_.1 (by kernel_rfl)) (fun _ _ _ h => h) (Or.inl ⟨by rfl, ?_⟩) ?_ ?_; rotate_left
         ·intro w'; go_simp
          with_reducible rfl
         rotate_left
         ·simp only [Act.put, sI, sZ, sS, i64_w, i32_w]; rfl
         refine done_ (done_of HT_.1 (by kernel_rfl)) ?_; try go_wp2
         refine bodyPost_ret (results_ct rfl _ _ gb114 88 #[.string (a0.extract 0 (x4_1 : Int).toNat), .string (a0.extract ((ji26) : Int).toNat a0.size)] (0, 0) _ rfl (by (with_reducible repeat (first | refine bN_ ?_ _ | refine bD_ ?_ | refine bA_ ?_ _)); refine blk_put (cs := #[.string (a0.extract 0 (x4_1 : Int).toNat), .string (⟨#[]⟩ : ByteArray)]) ?_ 1 _ rfl; (with_reducible repeat (first | refine bN_ ?_ _ | refine bD_ ?_ | refine bA_ ?_ _)); refine blk_put (cs := #[.string (⟨#[]⟩ : ByteArray), .string (⟨#[]⟩ : ByteArray)]) ?_ 0 _ rfl; (with_reducible repeat (first | refine bN_ ?_ _ | refine bD_ ?_ | refine bA_ ?_ _)); exact BK114.1) Tryz.underlying88 rfl (by kernel_rfl)) rfl ?_; exact ⟨by first | rfl | (simp [errW_none, errW_some] <;> rfl) | (simp only [← hji26]; first | rfl | (simp [errW_none, errW_some] <;> rfl)) | (simp [*, errW_none, errW_some] <;> rfl), q80_⟩
        ·rw [if_neg c28] at H; exact absurd H (by simp)
       ·rw [if_neg c27] at H; exact absurd H (by simp)
      ·rw [if_neg c25] at H; exact absurd H (by simp)
     ·rw [if_neg c24] at H; exact absurd H (by simp)

def spec_l1Small.f (a0 : Int) : Option (Bool) := (spec_l1In.f (wrap64 (a0)) 97 122).bind fun t115 => (some t115)
theorem spec_l1Small.calls (a0 : Int) (r : Bool) (w : World) (h : spec_l1Small.f a0 = some r) :
  Calls Tryz.prog 165 #[.int .u8 a0] w fun e w' => e = .returned (.bool r) ∧ Drawn0 w w' := by
 have H : ((spec_l1In.f (wrap64 (a0)) 97 122).bind fun t115 => (some t115)) = some r := h; clear h; replace H := Option.bind_eq_some_iff.mp H; obtain ⟨t115, A20, H⟩ := H; (try dsimp only at H); have A2 := aK A20; clear A20; obtain rfl := Option.some.inj H; go_enter Tryz.func165, Tryz.ntmps165
 go_wp2_with (first | ((with_reducible refine gate_callee (f := 97) rfl ?_); refine goesL_ (some 5) rfl rfl Tryz.func97 (by kernel_rfl) rfl #[.int .i64 (wrap64 (a0)), .int .i64 97, .int .i64 122] rfl q1_ ?_; (with_reducible refine (spec_l1In.calls (wrap64 (a0)) 97 122 t115 _ A2.1).mono ?_); rintro e w' ⟨rfl, ⟨nd, rfl⟩⟩; refine ⟨_, rfl, ?_⟩))
 go_ret
 exact ⟨q4_, q17_⟩

def spec_SmallName.l0 : Nat → ByteArray → Int → Option (Bool)
 | 0, _, _ => none
 | k + 1, x0, x3 => if x3 < (x0.size : Int) then (if 0 ≤ x3 then ((spec_l1Small.f (bt x0 x3)).bind fun t117 => (if t117 = true then (spec_SmallName.l0 k x0 (wrap64 (x3 + 1))) else (if x3 = 0 then (some false) else ((spec_l1Digit.f (bt x0 x3)).bind fun t118 => (if t118 = true then (spec_SmallName.l0 k x0 (wrap64 (x3 + 1))) else (if (bt x0 x3) = 45 then (spec_SmallName.l0 k x0 (wrap64 (x3 + 1))) else (some false))))))) else (none)) else ((spec_l1In.f (x0.size : Int) 1 20).bind fun t116 => (some t116))
def spec_SmallName.f (k : Nat) (a0 : ByteArray) : Option (Bool) := spec_SmallName.l0 k a0 0

theorem spec_SmallName.calls (k : Nat) (a0 : ByteArray) (r : Bool) (w : World) (h : spec_SmallName.f k a0 = some r) :
  Calls Tryz.prog 140 #[.string a0] w fun e w' => e = .returned (.bool r) ∧ Drawn0 w w' := by
 have H : (spec_SmallName.l0 k a0 0) = some r := h; clear h; have H' := aK H; clear H; go_enter Tryz.func140, Tryz.ntmps140
 go_wp2
 go_loopg [3] k (fun kq v3 w' => ∃ (x3_1 : Int), v3 = .int .i64 x3_1 ∧ Aside0 (spec_SmallName.l0 kq a0 x3_1 = some r) ∧ Aside0 (kq ≤ k) ∧ Drawn0 w w')
 case atStart => exact ⟨(0), q4_, H', ⟨Nat.le_refl _⟩, q17_⟩
 case round =>
  clear H'; (try clear c1); obtain ⟨x3_1, rfl, HA, HK1, ⟨m1, rfl⟩⟩ := hrel; cases gk with
  | zero => exact absurd HA.1 (by simp [spec_SmallName.l0])
  | succ k1 =>
   have H := HA.1; clear HA; simp only [spec_SmallName.l0] at H; by_cases c2 : x3_1 < (a0.size : Int)
   ·rw [if_pos c2] at H; have c2b0 : decide (x3_1 < (a0.size : Int)) = true := decide_eq_true c2; clear c2; by_cases c3 : 0 ≤ x3_1
    ·rw [if_pos c3] at H; have c3b0 : decide (0 ≤ x3_1) = true := decide_eq_true c3; clear c3; replace H := Option.bind_eq_some_iff.mp H; obtain ⟨t117, A50, H⟩ := H; (try dsimp only at H); have A5 := aK A50; clear A50; by_cases c6 : t117 = true
     ·subst c6; rw [if_pos rfl] at H; have H' := aK H; clear H; have p4 : 0 ≤ (x3_1 : Int) := of_decide_eq_true q3_; have q4 : x3_1 < (a0.size : Int) := of_decide_eq_true q3_; have hx4 := bt_at a0 x3_1; replace p4 := eq_true p4; replace q4 := eq_true q4; go_wp2_with (first | ((with_reducible refine gate_callee (f := 165) rfl ?_); refine goesL_ (some 13) rfl rfl Tryz.func165 (by kernel_rfl) rfl #[.int .u8 (bt a0 x3_1)] rfl q1_ ?_; (with_reducible refine (spec_l1Small.calls (bt a0 x3_1) true _ A5.1).mono ?_); rintro e w' ⟨rfl, ⟨nd, rfl⟩⟩; refine ⟨_, rfl, ?_⟩))
      go_roundg k1
      case measure => have := HK1.1; omega
      case rel => exact ⟨(wrap64 (x3_1 + 1)), q4_, H', ⟨q144_⟩, q17_⟩
     ·replace c6 := Bool.eq_false_iff.mpr c6; subst c6; rw [if_neg (show ¬ (false = true) by decide)] at H; by_cases c7 : x3_1 = 0
      ·rw [if_pos c7] at H; have c7b0 : (x3_1 == 0) = true := beq_iff_eq.mpr c7; have c7b1 : (x3_1 != 0) = false := bne_eq_false_iff_eq.mpr c7; clear c7; obtain rfl := Option.some.inj H; have p4 : 0 ≤ (x3_1 : Int) := of_decide_eq_true q3_; have q4 : x3_1 < (a0.size : Int) := of_decide_eq_true q3_; have hx4 := bt_at a0 x3_1; replace p4 := eq_true p4; replace q4 := eq_true q4; go_wp2_with (first | ((with_reducible refine gate_callee (f := 165) rfl ?_); refine goesL_ (some 13) rfl rfl Tryz.func165 (by kernel_rfl) rfl #[.int .u8 (bt a0 x3_1)] rfl q1_ ?_; (with_reducible refine (spec_l1Small.calls (bt a0 x3_1) false _ A5.1).mono ?_); rintro e w' ⟨rfl, ⟨nd, rfl⟩⟩; refine ⟨_, rfl, ?_⟩))
       go_ret
       exact ⟨q4_, q17_⟩
      ·rw [if_neg c7] at H; have c7b0 : (x3_1 == 0) = false := beq_eq_false_iff_ne.mpr c7; have c7b1 : (x3_1 != 0) = true := bne_iff_ne.mpr c7; replace H := Option.bind_eq_some_iff.mp H; obtain ⟨t118, A90, H⟩ := H; (try dsimp only at H); have A9 := aK A90; clear A90; by_cases c10 : t118 = true
       ·subst c10; rw [if_pos rfl] at H; have H' := aK H; clear H; have p4 : 0 ≤ (x3_1 : Int) := of_decide_eq_true q3_; have q4 : x3_1 < (a0.size : Int) := of_decide_eq_true q3_; have hx4 := bt_at a0 x3_1; replace p4 := eq_true p4; replace q4 := eq_true q4; go_wp2_with (first | ((with_reducible refine gate_callee (f := 165) rfl ?_); refine goesL_ (some 13) rfl rfl Tryz.func165 (by kernel_rfl) rfl #[.int .u8 (bt a0 x3_1)] rfl q1_ ?_; (with_reducible refine (spec_l1Small.calls (bt a0 x3_1) false _ A5.1).mono ?_); rintro e w' ⟨rfl, ⟨nd, rfl⟩⟩; refine ⟨_, rfl, ?_⟩; have p8 : 0 ≤ (x3_1 : Int) := of_decide_eq_true q3_; have q8 : x3_1 < (a0.size : Int) := of_decide_eq_true q3_; have hx8 := bt_at a0 x3_1; replace p8 := eq_true p8; replace q8 := eq_true q8) | (go_at_call 127; (with_reducible refine (spec_l1Digit.calls (bt a0 x3_1) true _ A9.1).mono ?_); rintro e w' ⟨rfl, ⟨nd, rfl⟩⟩))
        go_roundg k1
        case measure => have := HK1.1; omega
        case rel => exact ⟨(wrap64 (x3_1 + 1)), q4_, H', ⟨q144_⟩, q17_⟩
       ·replace c10 := Bool.eq_false_iff.mpr c10; subst c10; rw [if_neg (show ¬ (false = true) by decide)] at H; by_cases c12 : (bt a0 x3_1) = 45
        ·rw [if_pos c12] at H; have c12b0 : ((bt a0 x3_1) == 45) = true := beq_iff_eq.mpr c12; have c12b1 : ((bt a0 x3_1) != 45) = false := bne_eq_false_iff_eq.mpr c12; clear c12; have H' := aK H; clear H; have p4 : 0 ≤ (x3_1 : Int) := of_decide_eq_true q3_; have q4 : x3_1 < (a0.size : Int) := of_decide_eq_true q3_; have hx4 := bt_at a0 x3_1; replace p4 := eq_true p4; replace q4 := eq_true q4; go_wp2_with (first | ((with_reducible refine gate_callee (f := 165) rfl ?_); refine goesL_ (some 13) rfl rfl Tryz.func165 (by kernel_rfl) rfl #[.int .u8 (bt a0 x3_1)] rfl q1_ ?_; (with_reducible refine (spec_l1Small.calls (bt a0 x3_1) false _ A5.1).mono ?_); rintro e w' ⟨rfl, ⟨nd, rfl⟩⟩; refine ⟨_, rfl, ?_⟩; have p8 : 0 ≤ (x3_1 : Int) := of_decide_eq_true q3_; have q8 : x3_1 < (a0.size : Int) := of_decide_eq_true q3_; have hx8 := bt_at a0 x3_1; replace p8 := eq_true p8; replace q8 := eq_true q8) | (go_at_call 127; (with_reducible refine (spec_l1Digit.calls (bt a0 x3_1) false _ A9.1).mono ?_); rintro e w' ⟨rfl, ⟨nd, rfl⟩⟩; have p11 : 0 ≤ (x3_1 : Int) := of_decide_eq_true q3_; have q11 : x3_1 < (a0.size : Int) := of_decide_eq_true q3_; have hx11 := bt_at a0 x3_1; replace p11 := eq_true p11; replace q11 := eq_true q11))
         go_roundg k1
         case measure => have := HK1.1; omega
         case rel => exact ⟨(wrap64 (x3_1 + 1)), q4_, H', ⟨q144_⟩, q17_⟩
        ·rw [if_neg c12] at H; have c12b0 : ((bt a0 x3_1) == 45) = false := beq_eq_false_iff_ne.mpr c12; have c12b1 : ((bt a0 x3_1) != 45) = true := bne_iff_ne.mpr c12; obtain rfl := Option.some.inj H; have p4 : 0 ≤ (x3_1 : Int) := of_decide_eq_true q3_; have q4 : x3_1 < (a0.size : Int) := of_decide_eq_true q3_; have hx4 := bt_at a0 x3_1; replace p4 := eq_true p4; replace q4 := eq_true q4; go_wp2_with (first | ((with_reducible refine gate_callee (f := 165) rfl ?_); refine goesL_ (some 13) rfl rfl Tryz.func165 (by kernel_rfl) rfl #[.int .u8 (bt a0 x3_1)] rfl q1_ ?_; (with_reducible refine (spec_l1Small.calls (bt a0 x3_1) false _ A5.1).mono ?_); rintro e w' ⟨rfl, ⟨nd, rfl⟩⟩; refine ⟨_, rfl, ?_⟩; have p8 : 0 ≤ (x3_1 : Int) := of_decide_eq_true q3_; have q8 : x3_1 < (a0.size : Int) := of_decide_eq_true q3_; have hx8 := bt_at a0 x3_1; replace p8 := eq_true p8; replace q8 := eq_true q8) | (go_at_call 127; (with_reducible refine (spec_l1Digit.calls (bt a0 x3_1) false _ A9.1).mono ?_); rintro e w' ⟨rfl, ⟨nd, rfl⟩⟩; have p11 : 0 ≤ (x3_1 : Int) := of_decide_eq_true q3_; have q11 : x3_1 < (a0.size : Int) := of_decide_eq_true q3_; have hx11 := bt_at a0 x3_1; replace p11 := eq_true p11; replace q11 := eq_true q11))
         go_ret
         exact ⟨q4_, q17_⟩
    ·rw [if_neg c3] at H; exact absurd H (by simp)
   ·rw [if_neg c2] at H; have c2b0 : decide (x3_1 < (a0.size : Int)) = false := decide_eq_false c2; clear c2; replace H := Option.bind_eq_some_iff.mp H; obtain ⟨t116, A130, H⟩ := H; (try dsimp only at H); have A13 := aK A130; clear A130; obtain rfl := Option.some.inj H; go_wp2_with (first | ((with_reducible refine gate_callee (f := 97) rfl ?_); refine goesL_ (some 34) rfl rfl Tryz.func97 (by kernel_rfl) rfl #[.int .i64 (a0.size : Int), .int .i64 1, .int .i64 20] rfl q1_ ?_; (with_reducible refine (spec_l1In.calls (a0.size : Int) 1 20 t116 _ A13.1).mono ?_); rintro e w' ⟨rfl, ⟨nd, rfl⟩⟩; refine ⟨_, rfl, ?_⟩))
    go_ret
    exact ⟨q4_, q17_⟩

def spec_Plain.l0 : Nat → ByteArray → Int → Option (Bool)
 | 0, _, _ => none
 | k + 1, x0, x3 => if x3 < (x0.size : Int) then (if 0 ≤ x3 then ((spec_l1In.f (wrap64 (bt x0 x3)) 32 126).bind fun t119 => (if t119 = true then (spec_Plain.l0 k x0 (wrap64 (x3 + 1))) else (some false))) else (none)) else (some true)
def spec_Plain.f (k : Nat) (a0 : ByteArray) : Option (Bool) := spec_Plain.l0 k a0 0

theorem spec_Plain.calls (k : Nat) (a0 : ByteArray) (r : Bool) (w : World) (h : spec_Plain.f k a0 = some r) :
  Calls Tryz.prog 166 #[.string a0] w fun e w' => e = .returned (.bool r) ∧ Drawn0 w w' := by
 have H : (spec_Plain.l0 k a0 0) = some r := h; clear h; have H' := aK H; clear H; go_enter Tryz.func166, Tryz.ntmps166
 go_wp2
 go_loopg [3] k (fun kq v3 w' => ∃ (x3_1 : Int), v3 = .int .i64 x3_1 ∧ Aside0 (spec_Plain.l0 kq a0 x3_1 = some r) ∧ Aside0 (kq ≤ k) ∧ Drawn0 w w')
 case atStart => exact ⟨(0), q4_, H', ⟨Nat.le_refl _⟩, q17_⟩
 case round =>
  clear H'; (try clear c1); obtain ⟨x3_1, rfl, HA, HK1, ⟨m1, rfl⟩⟩ := hrel; cases gk with
  | zero => exact absurd HA.1 (by simp [spec_Plain.l0])
  | succ k1 =>
   have H := HA.1; clear HA; simp only [spec_Plain.l0] at H; by_cases c2 : x3_1 < (a0.size : Int)
   ·rw [if_pos c2] at H; have c2b0 : decide (x3_1 < (a0.size : Int)) = true := decide_eq_true c2; clear c2; by_cases c3 : 0 ≤ x3_1
    ·rw [if_pos c3] at H; have c3b0 : decide (0 ≤ x3_1) = true := decide_eq_true c3; clear c3; replace H := Option.bind_eq_some_iff.mp H; obtain ⟨t119, A50, H⟩ := H; (try dsimp only at H); have A5 := aK A50; clear A50; by_cases c6 : t119 = true
     ·subst c6; rw [if_pos rfl] at H; have H' := aK H; clear H; have p4 : 0 ≤ (x3_1 : Int) := of_decide_eq_true q3_; have q4 : x3_1 < (a0.size : Int) := of_decide_eq_true q3_; have hx4 := bt_at a0 x3_1; replace p4 := eq_true p4; replace q4 := eq_true q4; go_wp2_with (first | ((with_reducible refine gate_callee (f := 97) rfl ?_); refine goesL_ (some 14) rfl rfl Tryz.func97 (by kernel_rfl) rfl #[.int .i64 (wrap64 (bt a0 x3_1)), .int .i64 32, .int .i64 126] rfl q1_ ?_; (with_reducible refine (spec_l1In.calls (wrap64 (bt a0 x3_1)) 32 126 true _ A5.1).mono ?_); rintro e w' ⟨rfl, ⟨nd, rfl⟩⟩; refine ⟨_, rfl, ?_⟩))
      go_roundg k1
      case measure => have := HK1.1; omega
      case rel => exact ⟨(wrap64 (x3_1 + 1)), q4_, H', ⟨q144_⟩, q17_⟩
     ·replace c6 := Bool.eq_false_iff.mpr c6; subst c6; rw [if_neg (show ¬ (false = true) by decide)] at H; obtain rfl := Option.some.inj H; have p4 : 0 ≤ (x3_1 : Int) := of_decide_eq_true q3_; have q4 : x3_1 < (a0.size : Int) := of_decide_eq_true q3_; have hx4 := bt_at a0 x3_1; replace p4 := eq_true p4; replace q4 := eq_true q4; go_wp2_with (first | ((with_reducible refine gate_callee (f := 97) rfl ?_); refine goesL_ (some 14) rfl rfl Tryz.func97 (by kernel_rfl) rfl #[.int .i64 (wrap64 (bt a0 x3_1)), .int .i64 32, .int .i64 126] rfl q1_ ?_; (with_reducible refine (spec_l1In.calls (wrap64 (bt a0 x3_1)) 32 126 false _ A5.1).mono ?_); rintro e w' ⟨rfl, ⟨nd, rfl⟩⟩; refine ⟨_, rfl, ?_⟩))
      go_ret
      exact ⟨q4_, q17_⟩
    ·rw [if_neg c3] at H; exact absurd H (by simp)
   ·rw [if_neg c2] at H; have c2b0 : decide (x3_1 < (a0.size : Int)) = false := decide_eq_false c2; clear c2; obtain rfl := Option.some.inj H; go_wp2
    go_ret
    exact ⟨q4_, q17_⟩

def spec_l1Blank.f (a0 : Int) : Option (Bool) := if a0 = 32 then (some true) else (some (a0 == 9))
theorem spec_l1Blank.calls (a0 : Int) (r : Bool) (w : World) (h : spec_l1Blank.f a0 = some r) :
  Calls Tryz.prog 191 #[.int .u8 a0] w fun e w' => e = .returned (.bool r) ∧ Drawn0 w w' := by
 have H : (if a0 = 32 then (some true) else (some (a0 == 9))) = some r := h; clear h; by_cases c2 : a0 = 32
 ·rw [if_pos c2] at H; have c2b0 : (a0 == 32) = true := beq_iff_eq.mpr c2; have c2b1 : (a0 != 32) = false := bne_eq_false_iff_eq.mpr c2; clear c2; obtain rfl := Option.some.inj H; go_enter Tryz.func191, Tryz.ntmps191
  go_wp2
  go_ret
  exact ⟨q4_, q17_⟩
 ·rw [if_neg c2] at H; have c2b0 : (a0 == 32) = false := beq_eq_false_iff_ne.mpr c2; have c2b1 : (a0 != 32) = true := bne_iff_ne.mpr c2; obtain rfl := Option.some.inj H; go_enter Tryz.func191, Tryz.ntmps191
  go_wp2
  go_ret
  exact ⟨q4_, q17_⟩

end Go.Proofs.YtfncjddolbghlaaGreatDoor.GFnResps
