-- by gprint.py (this session's program over the kit's print.py) (a twelfth state) out of the translation. Not trusted: Lean checks it.
import Derived.Test.YtfncjddolbghlaaGreatDoorGFnMorex0
import Derived.Test.YtfncjddolbghlaaGreatDoorGFnMorex7
namespace Go.Proofs.YtfncjddolbghlaaGreatDoor.GFnMore
open Go.RowKit Go.Proofs.YtfncjddolbghlaaGreatDoorW.PrintWords Go.Proofs.YtfncjddolbghlaaGreatDoorW.PrintLast Go.Proofs.YtfncjddolbghlaaGreatDoorW.PrintMore
attribute [local go_sem] max2_int min2_int max_two min_two max_three min_three max_four min_four   -- for this text's walks alone
set_option linter.unusedVariables false
set_option linter.unusedSimpArgs false
set_option maxRecDepth 100000
set_option maxHeartbeats 8000000

mutual
def impl_GetChunks.l0 : Nat → List Int → ByteArray → ByteArray → Int → Option (ByteArray × Int × Int)
 | 0, _, _, _, _ => none
 | k + 1, x0, x8, x361000, x361001 => (impl_chunks_size.f k x361000 x361001).bind fun bt361 => (if bt361.2.2 = 0 then (if (wrap64 ((x8.size : Int) + bt361.1)) > 200 then (impl_GetChunks.j1 k x0 x8 bt361.1 bt361.2.1 413) else (if bt361.1 > (bt361.2.1.size : Int) then (impl_GetChunks.j1 k x0 x8 bt361.1 bt361.2.1 1) else (if 0 ≤ bt361.1 then (if bt361.1 ≤ (bt361.2.1.size : Int) then (if x8.size + (bt361.2.1.extract 0 (bt361.1 : Int).toNat).size ≤ 9223372036854775807 then ((impl_chunks_end.f k (bt361.2.1.extract (bt361.1 : Int).toNat bt361.2.1.size) bt361.2.2).bind fun bt364 => (impl_GetChunks.j1 k x0 (x8 ++ (bt361.2.1.extract 0 (bt361.1 : Int).toNat)) bt361.1 bt364.1 bt364.2)) else (none)) else (none)) else (none)))) else (impl_GetChunks.j1 k x0 x8 bt361.1 bt361.2.1 bt361.2.2))
def impl_GetChunks.j1 : Nat → List Int → ByteArray → Int → ByteArray → Int → Option (ByteArray × Int × Int)
 | 0, _, _, _, _, _ => none
 | k + 1, x0, x8, x9, x361000, x361001 => if x361001 = 0 then (if x9 = 0 then (some (x8, wrap64 ((x0.length : Int) - (x361000.size : Int)), 0)) else (impl_GetChunks.l0 k x0 x8 x361000 x361001)) else (some ((⟨#[]⟩ : ByteArray), 0, x361001))
end
def impl_GetChunks.f (k : Nat) (l0 : List Int) (a1 : Int) : Option (ByteArray × Int × Int) := (impl_in.f a1 0 (l0.length : Int)).bind fun t358 => (if t358 = true then (if 0 ≤ a1 then (if a1 ≤ (l0.length : Int) then (impl_GetChunks.l0 k l0 (⟨#[]⟩ : ByteArray) (strOfNums (l0.drop (a1 : Int).toNat)) 0) else (none)) else (none)) else (some ((⟨#[]⟩ : ByteArray), 0, 400)))

theorem impl_GetChunks.calls (k : Nat) (A0 : Option Addr) (c0 : Nat) (l0 : List Int) (a1 : Int) (r1 : ByteArray) (r2 : Int) (r3 : Int) (w : World) (hr0 : Kd.C (Kd.int .u8) w A0 l0.length l0) (hc0 : l0.length ≤ c0) (h : impl_GetChunks.f k l0 a1 = some (r1, r2, r3)) (hG : GOK w) :
  Calls Tryz.prog 66 #[.slice A0 l0.length c0, .int .i64 a1] w fun e w' => e = .returned (.tuple #[.string r1, .int .i64 r2, .int .i64 r3]) ∧ Below w.heap.size w w' := by
 have hu127 := Tryz.underlying127
 have HR0 := Aside0.mk hr0
 have HC0 := Aside0.mk hc0
 clear hr0 hc0
 have HB := Aside0.mk (Below.refl w.heap.size w)
 have H : ((impl_in.f a1 0 (l0.length : Int)).bind fun t358 => (if t358 = true then (if 0 ≤ a1 then (if a1 ≤ (l0.length : Int) then (impl_GetChunks.l0 k l0 (⟨#[]⟩ : ByteArray) (strOfNums (l0.drop (a1 : Int).toNat)) 0) else (none)) else (none)) else (some ((⟨#[]⟩ : ByteArray), 0, 400)))) = some (r1, r2, r3) := h
 clear h
 replace H := Option.bind_eq_some_iff.mp H
 obtain ⟨t358, A30, H⟩ := H
 replace H : (if t358 = true then (if 0 ≤ a1 then (if a1 ≤ (l0.length : Int) then (impl_GetChunks.l0 k l0 (⟨#[]⟩ : ByteArray) (strOfNums (l0.drop (a1 : Int).toNat)) 0) else (none)) else (none)) else (some ((⟨#[]⟩ : ByteArray), 0, 400))) = some (r1, r2, r3) := H
 have A3 := Aside0.mk A30
 clear A30
 by_cases c4 : t358 = true
 ·subst c4
  rw [if_pos rfl] at H
  by_cases c5 : 0 ≤ a1
  ·rw [if_pos c5] at H
   have c5b0 := eq_true c5
   have c5b1 : decide (0 ≤ a1) = true := decide_eq_true c5
   clear c5
   by_cases c6 : a1 ≤ (l0.length : Int)
   ·rw [if_pos c6] at H
    have c6b0 := eq_true c6
    have c6b1 : decide (a1 ≤ (l0.length : Int)) = true := decide_eq_true c6
    clear c6
    have H' := Aside0.mk H
    clear H
    go_enter Tryz.func66, Tryz.ntmps66
    go_wp2_with (first | (go_at_call 95; (with_reducible refine (impl_in.calls a1 0 (l0.length : Int) true _ A3.1).mono ?_); rintro e w' ⟨rfl, ⟨nd, rfl⟩⟩; (try first | exact ⟨rfl, _, World.drewN_drewN _ _ _⟩ | exact ⟨rfl, _, Eq.trans (World.drewN_drewN _ _ _) (congrArg (World.drewN _) (Nat.add_assoc _ _ _))⟩); obtain ⟨i07, hi07, _, hsz7, _⟩ := info_parts info5; obtain ⟨A7, hcut7, hA7, hC7⟩ := print_drop_of (P := Tryz.prog) (Value.int .u8) 0 22 5 .i64 Tryz.underlying22 hi07 hsz7 A0 c0 l0 a1 (of_decide_eq_true q4_) (of_decide_eq_true q4_) HC0.1; have HR359 := Aside0.mk (Kd.C_of_reads (h1 := fun _ => rfl) (hA7 _ (Kd.reads_of_C HR0.1))); have HC359 := Aside0.mk hC7; clear hA7 hC7 hi07 hsz7; have hq_ := HR359.1; rw [show (l0.drop (a1 : Int).toNat).length = (l0.length - a1.toNat) from List.length_drop] at hq_; have hcv8 := Kd.C_string (P := Tryz.prog) (A := A7) (c := (c0 - a1.toNat)) Tryz.underlying22 Tryz.underlying5 Tryz.underlying9 hq_; have hcv9 := fun nq_ : Nat => Kd.C_string (P := Tryz.prog) (A := A7) (c := (c0 - a1.toNat)) Tryz.underlying22 Tryz.underlying5 Tryz.underlying9 (Kd.C_drewN hq_ nq_); clear hq_) | ((with_reducible refine gate_dst (N := 20) rfl ?_); refine box_event ?hg (N := 20) ?hd (cs := #[.string (strOfNums (l0.drop (a1 : Int).toNat)), .int .i64 0]) (t := 127) ?hr ?_; (case hd => rfl); (case hg => rfl); (case hr => exact q26_); intro gb360 hg w10 hbox hb; have n0_ := Aside0.mk (below_step q1_ hb); have n1_ := Aside0.mk ((show IsS127 w w10 gb360 (strOfNums (l0.drop (a1 : Int).toNat)) 0 from ⟨hbox, (q40_ : w.heap.size ≤ gb360)⟩)); clear HB; have HB := n0_; have HI360 := n1_; clear n0_ n1_; clear hb hbox hg))
    repeat (go_quiet (first | (go_at_call 95; (with_reducible refine (impl_in.calls a1 0 (l0.length : Int) true _ A3.1).mono ?_); rintro e w' ⟨rfl, ⟨nd, rfl⟩⟩; (try first | exact ⟨rfl, _, World.drewN_drewN _ _ _⟩ | exact ⟨rfl, _, Eq.trans (World.drewN_drewN _ _ _) (congrArg (World.drewN _) (Nat.add_assoc _ _ _))⟩); obtain ⟨i07, hi07, _, hsz7, _⟩ := info_parts info5; obtain ⟨A7, hcut7, hA7, hC7⟩ := print_drop_of (P := Tryz.prog) (Value.int .u8) 0 22 5 .i64 Tryz.underlying22 hi07 hsz7 A0 c0 l0 a1 (of_decide_eq_true q4_) (of_decide_eq_true q4_) HC0.1; have HR359 := Aside0.mk (Kd.C_of_reads (h1 := fun _ => rfl) (hA7 _ (Kd.reads_of_C HR0.1))); have HC359 := Aside0.mk hC7; clear hA7 hC7 hi07 hsz7; have hq_ := HR359.1; rw [show (l0.drop (a1 : Int).toNat).length = (l0.length - a1.toNat) from List.length_drop] at hq_; have hcv8 := Kd.C_string (P := Tryz.prog) (A := A7) (c := (c0 - a1.toNat)) Tryz.underlying22 Tryz.underlying5 Tryz.underlying9 hq_; have hcv9 := fun nq_ : Nat => Kd.C_string (P := Tryz.prog) (A := A7) (c := (c0 - a1.toNat)) Tryz.underlying22 Tryz.underlying5 Tryz.underlying9 (Kd.C_drewN hq_ nq_); clear hq_) | ((with_reducible refine gate_dst (N := 20) rfl ?_); refine box_event ?hg (N := 20) ?hd (cs := #[.string (strOfNums (l0.drop (a1 : Int).toNat)), .int .i64 0]) (t := 127) ?hr ?_; (case hd => rfl); (case hg => rfl); (case hr => exact q26_); intro gb360 hg w10 hbox hb; have n0_ := Aside0.mk (below_step q1_ hb); have n1_ := Aside0.mk ((show IsS127 w w10 gb360 (strOfNums (l0.drop (a1 : Int).toNat)) 0 from ⟨hbox, (q40_ : w.heap.size ≤ gb360)⟩)); clear HB; have HB := n0_; have HI360 := n1_; clear n0_ n1_; clear hb hbox hg)); try go_wp2_with (first | (go_at_call 95; (with_reducible refine (impl_in.calls a1 0 (l0.length : Int) true _ A3.1).mono ?_); rintro e w' ⟨rfl, ⟨nd, rfl⟩⟩; (try first | exact ⟨rfl, _, World.drewN_drewN _ _ _⟩ | exact ⟨rfl, _, Eq.trans (World.drewN_drewN _ _ _) (congrArg (World.drewN _) (Nat.add_assoc _ _ _))⟩); obtain ⟨i07, hi07, _, hsz7, _⟩ := info_parts info5; obtain ⟨A7, hcut7, hA7, hC7⟩ := print_drop_of (P := Tryz.prog) (Value.int .u8) 0 22 5 .i64 Tryz.underlying22 hi07 hsz7 A0 c0 l0 a1 (of_decide_eq_true q4_) (of_decide_eq_true q4_) HC0.1; have HR359 := Aside0.mk (Kd.C_of_reads (h1 := fun _ => rfl) (hA7 _ (Kd.reads_of_C HR0.1))); have HC359 := Aside0.mk hC7; clear hA7 hC7 hi07 hsz7; have hq_ := HR359.1; rw [show (l0.drop (a1 : Int).toNat).length = (l0.length - a1.toNat) from List.length_drop] at hq_; have hcv8 := Kd.C_string (P := Tryz.prog) (A := A7) (c := (c0 - a1.toNat)) Tryz.underlying22 Tryz.underlying5 Tryz.underlying9 hq_; have hcv9 := fun nq_ : Nat => Kd.C_string (P := Tryz.prog) (A := A7) (c := (c0 - a1.toNat)) Tryz.underlying22 Tryz.underlying5 Tryz.underlying9 (Kd.C_drewN hq_ nq_); clear hq_) | ((with_reducible refine gate_dst (N := 20) rfl ?_); refine box_event ?hg (N := 20) ?hd (cs := #[.string (strOfNums (l0.drop (a1 : Int).toNat)), .int .i64 0]) (t := 127) ?hr ?_; (case hd => rfl); (case hg => rfl); (case hr => exact q26_); intro gb360 hg w10 hbox hb; have n0_ := Aside0.mk (below_step q1_ hb); have n1_ := Aside0.mk ((show IsS127 w w10 gb360 (strOfNums (l0.drop (a1 : Int).toNat)) 0 from ⟨hbox, (q40_ : w.heap.size ≤ gb360)⟩)); clear HB; have HB := n0_; have HI360 := n1_; clear n0_ n1_; clear hb hbox hg)))
    go_loopg [8] k (fun kq v8 w' => ∃ (x8_1 : ByteArray) (x361000_1 : ByteArray) (x361001_1 : Int), v8 = .string x8_1 ∧ Aside0 (impl_GetChunks.l0 kq l0 x8_1 x361000_1 x361001_1 = some (r1, r2, r3)) ∧ Aside0 (kq ≤ k) ∧ Aside0 (IsS127 w w' gb360 x361000_1 x361001_1) ∧ Aside0 (Below w.heap.size w w'))
    case atStart => exact ⟨((⟨#[]⟩ : ByteArray)), (strOfNums (l0.drop (a1 : Int).toNat)), (0), q3_, H', ⟨Nat.le_refl _⟩, ⟨q35_⟩, ⟨q30_⟩⟩
    case round =>
     clear H'
     try clear p2
     try clear c4
     try clear c5
     try clear c5b0
     try clear c5b1
     try clear c6
     try clear c6b0
     try clear c6b1
     try clear hcv8
     try clear hcv9
     obtain ⟨x8_1, x361000_1, x361001_1, rfl, HA, HK1, HI360, HB⟩ := hrel
     cases gk with
     | zero => exact absurd HA.1 (by simp [impl_GetChunks.l0])
     | succ k1 =>
      have H := HA.1
      clear HA
      simp only [impl_GetChunks.l0] at H
      replace H := Option.bind_eq_some_iff.mp H
      obtain ⟨⟨t361, t362, t363⟩, A110, H⟩ := H
      replace H : (if t363 = 0 then (if (wrap64 ((x8_1.size : Int) + t361)) > 200 then (impl_GetChunks.j1 k1 l0 x8_1 t361 t362 413) else (if t361 > (t362.size : Int) then (impl_GetChunks.j1 k1 l0 x8_1 t361 t362 1) else (if 0 ≤ t361 then (if t361 ≤ (t362.size : Int) then (if x8_1.size + (t362.extract 0 (t361 : Int).toNat).size ≤ 9223372036854775807 then ((impl_chunks_end.f k1 (t362.extract (t361 : Int).toNat t362.size) t363).bind fun bt364 => (impl_GetChunks.j1 k1 l0 (x8_1 ++ (t362.extract 0 (t361 : Int).toNat)) t361 bt364.1 bt364.2)) else (none)) else (none)) else (none)))) else (impl_GetChunks.j1 k1 l0 x8_1 t361 t362 t363)) = some (r1, r2, r3) := H
      have A11 := Aside0.mk A110
      clear A110
      have HC12 := Aside0.mk H
      clear H
      go_upto_block 2 with (first | (go_at_call 120; (with_reducible refine (impl_chunks_size.calls k1 gb360 x361000_1 x361001_1 t361 t362 t363 w _ ?side1 ?side2 A11.1 ?side99).mono ?_); (case side1 => exact q35_); (case side2 => exact q30_); (case side99 => exact q20_); rintro e w13 ⟨rfl, hi, hb, hk⟩; have n0_ := Aside0.mk (hb); have n1_ := Aside0.mk (hi); clear HB HI360; have HB := n0_; have HI360 := n1_; clear n0_ n1_; (try clear hb); (try clear hb2); (try clear hk); (try clear hi)))
      repeat (go_quiet (first | (go_at_call 120; (with_reducible refine (impl_chunks_size.calls k1 gb360 x361000_1 x361001_1 t361 t362 t363 w _ ?side1 ?side2 A11.1 ?side99).mono ?_); (case side1 => exact q35_); (case side2 => exact q30_); (case side99 => exact q20_); rintro e w13 ⟨rfl, hi, hb, hk⟩; have n0_ := Aside0.mk (hb); have n1_ := Aside0.mk (hi); clear HB HI360; have HB := n0_; have HI360 := n1_; clear n0_ n1_; (try clear hb); (try clear hb2); (try clear hk); (try clear hi))); go_upto_block 2 with (first | (go_at_call 120; (with_reducible refine (impl_chunks_size.calls k1 gb360 x361000_1 x361001_1 t361 t362 t363 w _ ?side1 ?side2 A11.1 ?side99).mono ?_); (case side1 => exact q35_); (case side2 => exact q30_); (case side99 => exact q20_); rintro e w13 ⟨rfl, hi, hb, hk⟩; have n0_ := Aside0.mk (hb); have n1_ := Aside0.mk (hi); clear HB HI360; have HB := n0_; have HI360 := n1_; clear n0_ n1_; (try clear hb); (try clear hb2); (try clear hk); (try clear hi))))
      (try simp only [Act.put, List.setIfInBounds_toArray, List.set_cons_zero, List.set_cons_succ])
      go_cut [8] (fun v8 wc => ∃ (kq : Nat) (x8_11 : ByteArray) (x361000_11 : ByteArray) (x361001_11 : Int), v8 = .string x8_11 ∧ Aside0 (impl_GetChunks.j1 kq l0 x8_11 t361 x361000_11 x361001_11 = some (r1, r2, r3)) ∧ Aside0 (kq ≤ k1) ∧ Aside0 (IsS127 w wc gb360 x361000_11 x361001_11) ∧ Aside0 (Below w.heap.size w wc))
      case first =>
       have H := HC12.1
       clear HC12
       by_cases c14 : t363 = 0
       ·rw [if_pos c14] at H
        have c14b0 : (t363 == 0) = true := beq_iff_eq.mpr c14
        have c14b1 : (t363 != 0) = false := bne_eq_false_iff_eq.mpr c14
        clear c14
        (first | rw [c14b0] | (simp only [i64_w, i32_w]; rw [c14b0]) | skip)
        by_cases c15 : (wrap64 ((x8_1.size : Int) + t361)) > 200
        ·rw [if_pos c15] at H
         have c15b0 : decide (200 < (wrap64 ((x8_1.size : Int) + t361))) = true := decide_eq_true c15
         clear c15
         have H' := Aside0.mk H
         clear H
         obtain ⟨HGz16, hgz16⟩ := HI360.1
         have hcz16_0 := cellS127_0 HGz16
         have hcz16_1 := cellS127_1 HGz16
         have hfz16_0 := bF_ HGz16 0
         have hfz16_1 := bF_ HGz16 1
         clear HGz16 hgz16
         go_wp2
         repeat (go_quiet (fail); try go_wp2)
         go_meet
         case rel => exact ⟨_, (x8_1), (t362), (413), q3_, H', ⟨q84_⟩, ⟨q35_⟩, ⟨q30_⟩⟩
        ·rw [if_neg c15] at H
         have c15b0 : decide (200 < (wrap64 ((x8_1.size : Int) + t361))) = false := decide_eq_false c15
         clear c15
         by_cases c17 : t361 > (t362.size : Int)
         ·rw [if_pos c17] at H
          have c17b0 : decide ((t362.size : Int) < t361) = true := decide_eq_true c17
          clear c17
          have H' := Aside0.mk H
          clear H
          obtain ⟨HGz18, hgz18⟩ := HI360.1
          have hcz18_0 := cellS127_0 HGz18
          have hcz18_1 := cellS127_1 HGz18
          have hfz18_0 := bF_ HGz18 0
          have hfz18_1 := bF_ HGz18 1
          clear HGz18 hgz18
          go_wp2
          repeat (go_quiet (fail); try go_wp2)
          go_meet
          case rel => exact ⟨_, (x8_1), (t362), (1), q3_, H', ⟨q84_⟩, ⟨q35_⟩, ⟨q30_⟩⟩
         ·rw [if_neg c17] at H
          have c17b0 : decide ((t362.size : Int) < t361) = false := decide_eq_false c17
          clear c17
          by_cases c19 : 0 ≤ t361
          ·rw [if_pos c19] at H
           have c19b0 := eq_true c19
           have c19b1 : decide (0 ≤ t361) = true := decide_eq_true c19
           clear c19
           by_cases c20 : t361 ≤ (t362.size : Int)
           ·rw [if_pos c20] at H
            have c20b0 := eq_true c20
            have c20b1 : decide (t361 ≤ (t362.size : Int)) = true := decide_eq_true c20
            clear c20
            by_cases c21 : x8_1.size + (t362.extract 0 (t361 : Int).toNat).size ≤ 9223372036854775807
            ·rw [if_pos c21] at H
             have c21b0 := eq_true c21
             have c21b1 : decide (x8_1.size + (t362.extract 0 (t361 : Int).toNat).size ≤ 9223372036854775807) = true := decide_eq_true c21
             try have c21b2 : (9223372036854775807 < x8_1.size + (t362.extract 0 (t361 : Int).toNat).size) = False := eq_false (Nat.not_lt.2 c21)
             have c22b0 := eq_true (of_decide_eq_true q4_ : 0 ≤ t361)
             have c23b0 := eq_true (of_decide_eq_true q4_ : t361 ≤ (t362.size : Int))
             replace H := Option.bind_eq_some_iff.mp H
             obtain ⟨⟨t364, t365⟩, A240, H⟩ := H
             replace H : (impl_GetChunks.j1 k1 l0 (x8_1 ++ (t362.extract 0 (t361 : Int).toNat)) t361 t364 t365) = some (r1, r2, r3) := H
             have A24 := Aside0.mk A240
             clear A240
             have H' := Aside0.mk H
             clear H
             obtain ⟨HGz25, hgz25⟩ := HI360.1
             have hcz25_0 := cellS127_0 HGz25
             have hcz25_1 := cellS127_1 HGz25
             have hfz25_0 := bF_ HGz25 0
             have hfz25_1 := bF_ HGz25 1
             clear HGz25 hgz25
             go_wp2_with (first | (go_at_call 121; (with_reducible refine (impl_chunks_end.calls k1 gb360 (t362.extract (t361 : Int).toNat t362.size) t363 t364 t365 w _ ?side1 ?side2 A24.1).mono ?_); (case side1 => exact q35_); (case side2 => exact q30_); rintro e w26 ⟨rfl, hi, hb, hk⟩; have n0_ := Aside0.mk (hb); have n1_ := Aside0.mk (hi); clear HB HI360; have HB := n0_; have HI360 := n1_; clear n0_ n1_; (try clear hb); (try clear hb2); (try clear hk); (try clear hi)))
             repeat (go_quiet (first | (go_at_call 121; (with_reducible refine (impl_chunks_end.calls k1 gb360 (t362.extract (t361 : Int).toNat t362.size) t363 t364 t365 w _ ?side1 ?side2 A24.1).mono ?_); (case side1 => exact q35_); (case side2 => exact q30_); rintro e w26 ⟨rfl, hi, hb, hk⟩; have n0_ := Aside0.mk (hb); have n1_ := Aside0.mk (hi); clear HB HI360; have HB := n0_; have HI360 := n1_; clear n0_ n1_; (try clear hb); (try clear hb2); (try clear hk); (try clear hi))); try go_wp2_with (first | (go_at_call 121; (with_reducible refine (impl_chunks_end.calls k1 gb360 (t362.extract (t361 : Int).toNat t362.size) t363 t364 t365 w _ ?side1 ?side2 A24.1).mono ?_); (case side1 => exact q35_); (case side2 => exact q30_); rintro e w26 ⟨rfl, hi, hb, hk⟩; have n0_ := Aside0.mk (hb); have n1_ := Aside0.mk (hi); clear HB HI360; have HB := n0_; have HI360 := n1_; clear n0_ n1_; (try clear hb); (try clear hb2); (try clear hk); (try clear hi))))
             go_meet
             case rel => exact ⟨_, (x8_1 ++ (t362.extract 0 (t361 : Int).toNat)), (t364), (t365), q3_, H', ⟨q84_⟩, ⟨q35_⟩, ⟨q30_⟩⟩
            ·rw [if_neg c21] at H
             exact absurd H (by simp)
           ·rw [if_neg c20] at H
            exact absurd H (by simp)
          ·rw [if_neg c19] at H
           exact absurd H (by simp)
       ·rw [if_neg c14] at H
        have c14b0 : (t363 == 0) = false := beq_eq_false_iff_ne.mpr c14
        have c14b1 : (t363 != 0) = true := bne_iff_ne.mpr c14
        (first | rw [c14b0] | (simp only [i64_w, i32_w]; rw [c14b0]) | skip)
        have H' := Aside0.mk H
        clear H
        obtain ⟨HGz27, hgz27⟩ := HI360.1
        have hcz27_0 := cellS127_0 HGz27
        have hcz27_1 := cellS127_1 HGz27
        have hfz27_0 := bF_ HGz27 0
        have hfz27_1 := bF_ HGz27 1
        clear HGz27 hgz27
        go_wp2
        repeat (go_quiet (fail); try go_wp2)
        go_meet
        case rel => exact ⟨_, (x8_1), (t362), (t363), q3_, H', ⟨q84_⟩, ⟨q35_⟩, ⟨q30_⟩⟩
      case rest =>
       clear HC12
       try clear c1
       try clear c2
       try clear p2
       try clear c4
       try clear c5
       try clear c5b0
       try clear c5b1
       try clear c6
       try clear c6b0
       try clear c6b1
       try clear p6
       try clear hcv8
       try clear hcv9
       try clear c14
       try clear c14b0
       try clear c14b1
       try clear c15
       try clear c15b0
       try clear c17
       try clear c17b0
       try clear c19
       try clear c19b0
       try clear c19b1
       try clear c20
       try clear c20b0
       try clear c20b1
       try clear c21
       try clear c21b0
       try clear c21b1
       try clear c21b2
       try clear c22
       try clear c22b0
       try clear c23
       try clear c23b0
       try clear hcz16_0
       try clear hcz16_1
       try clear hcz18_0
       try clear hcz18_1
       try clear hcz25_0
       try clear hcz25_1
       try clear hcz27_0
       try clear hcz27_1
       try clear hfz16_0
       try clear hfz16_1
       try clear hfz18_0
       try clear hfz18_1
       try clear hfz25_0
       try clear hfz25_1
       try clear hfz27_0
       try clear hfz27_1
       try clear p2
       obtain ⟨kq, x8_11, x361000_11, x361001_11, rfl, HA, HJ11, HI360, HB⟩ := hcut
       cases kq with
       | zero => exact absurd HA.1 (by simp [impl_GetChunks.j1])
       | succ kj11 =>
        have H := HA.1
        clear HA
        simp only [impl_GetChunks.j1] at H
        by_cases c28 : x361001_11 = 0
        ·rw [if_pos c28] at H
         have c28b0 : (x361001_11 == 0) = true := beq_iff_eq.mpr c28
         have c28b1 : (x361001_11 != 0) = false := bne_eq_false_iff_eq.mpr c28
         clear c28
         by_cases c29 : t361 = 0
         ·rw [if_pos c29] at H
          have c29b0 : (t361 == 0) = true := beq_iff_eq.mpr c29
          have c29b1 : (t361 != 0) = false := bne_eq_false_iff_eq.mpr c29
          clear c29
          simp only [Option.some.injEq, Prod.mk.injEq] at H
          obtain ⟨rfl, rfl, rfl⟩ := H
          obtain ⟨HGz30, hgz30⟩ := HI360.1
          have hcz30_0 := cellS127_0 HGz30
          have hcz30_1 := cellS127_1 HGz30
          have hfz30_0 := bF_ HGz30 0
          have hfz30_1 := bF_ HGz30 1
          clear HGz30 hgz30
          go_wp2
          repeat (go_quiet (fail); try go_wp2)
          go_ret3
          exact ⟨q10_, q30_⟩
         ·rw [if_neg c29] at H
          have c29b0 : (t361 == 0) = false := beq_eq_false_iff_ne.mpr c29
          have c29b1 : (t361 != 0) = true := bne_iff_ne.mpr c29
          have H' := Aside0.mk H
          clear H
          obtain ⟨HGz31, hgz31⟩ := HI360.1
          have hcz31_0 := cellS127_0 HGz31
          have hcz31_1 := cellS127_1 HGz31
          have hfz31_0 := bF_ HGz31 0
          have hfz31_1 := bF_ HGz31 1
          clear HGz31 hgz31
          go_wp2
          repeat (go_quiet (fail); try go_wp2)
          go_roundg kj11
          case measure => have := HK1.1; have := HJ11.1; omega
          case rel => exact ⟨(x8_11), (x361000_11), (x361001_11), q3_, H', ⟨by have := HK1.1; have := HJ11.1; omega⟩, ⟨q35_⟩, ⟨q30_⟩⟩
        ·rw [if_neg c28] at H
         have c28b0 : (x361001_11 == 0) = false := beq_eq_false_iff_ne.mpr c28
         have c28b1 : (x361001_11 != 0) = true := bne_iff_ne.mpr c28
         simp only [Option.some.injEq, Prod.mk.injEq] at H
         obtain ⟨rfl, rfl, rfl⟩ := H
         obtain ⟨HGz32, hgz32⟩ := HI360.1
         have hcz32_0 := cellS127_0 HGz32
         have hcz32_1 := cellS127_1 HGz32
         have hfz32_0 := bF_ HGz32 0
         have hfz32_1 := bF_ HGz32 1
         clear HGz32 hgz32
         go_wp2
         repeat (go_quiet (fail); try go_wp2)
         go_ret3
         exact ⟨q10_, q30_⟩
   ·rw [if_neg c6] at H
    exact absurd H (by simp)
  ·rw [if_neg c5] at H
   exact absurd H (by simp)
 ·replace c4 := Bool.eq_false_iff.mpr c4
  subst c4
  rw [if_neg (show ¬ (false = true) by decide)] at H
  simp only [Option.some.injEq, Prod.mk.injEq] at H
  obtain ⟨rfl, rfl, rfl⟩ := H
  go_enter Tryz.func66, Tryz.ntmps66
  go_wp2_with (first | (go_at_call 95; (with_reducible refine (impl_in.calls a1 0 (l0.length : Int) false _ A3.1).mono ?_); rintro e w' ⟨rfl, ⟨nd, rfl⟩⟩; (try first | exact ⟨rfl, _, World.drewN_drewN _ _ _⟩ | exact ⟨rfl, _, Eq.trans (World.drewN_drewN _ _ _) (congrArg (World.drewN _) (Nat.add_assoc _ _ _))⟩)))
  repeat (go_quiet (first | (go_at_call 95; (with_reducible refine (impl_in.calls a1 0 (l0.length : Int) false _ A3.1).mono ?_); rintro e w' ⟨rfl, ⟨nd, rfl⟩⟩; (try first | exact ⟨rfl, _, World.drewN_drewN _ _ _⟩ | exact ⟨rfl, _, Eq.trans (World.drewN_drewN _ _ _) (congrArg (World.drewN _) (Nat.add_assoc _ _ _))⟩))); try go_wp2_with (first | (go_at_call 95; (with_reducible refine (impl_in.calls a1 0 (l0.length : Int) false _ A3.1).mono ?_); rintro e w' ⟨rfl, ⟨nd, rfl⟩⟩; (try first | exact ⟨rfl, _, World.drewN_drewN _ _ _⟩ | exact ⟨rfl, _, Eq.trans (World.drewN_drewN _ _ _) (congrArg (World.drewN _) (Nat.add_assoc _ _ _))⟩))))
  go_ret3
  exact ⟨q10_, q1_⟩


def strings_Split.f (a0 : ByteArray) (a1 : ByteArray) : Option (List ByteArray) := if a0.size < 4294967281 ∧ 1 ≤ a1.size then some (Go.Lib.splitB a1 0 (Go.Lib.countB a0 a1) a0) else none
theorem strings_Split.calls (a0 : ByteArray) (a1 : ByteArray) (r : List ByteArray) (w : World) (h : strings_Split.f a0 a1 = some r) (hG : GOK w) :
  Calls Tryz.prog 77 #[.string a0, .string a1] w fun e w' => ∃ v0_ : Value, e = .returned (v0_) ∧ Kd.R Kd.string 9 w' w.heap.size (fun _ => True) v0_ r ∧ Below w.heap.size w w' := by
 unfold strings_Split.f at h
 split at h
 ·rename_i hs
  obtain rfl := Option.some.inj h
  obtain ⟨m, hm⟩ := hG.maxlen
  have hl := Go.Lib.splitB_all a1 hs.2 0 _ a0 rfl
  have hc := Go.Lib.countB_le a1 hs.2 a0.size a0 (Nat.le_refl _)
  refine (Go.Proofs.YtfncjddolbghlaaGreatDoor.Shelf.Tryz.strings_Split a0 a1 m w hs.1 hm hs.2).mono fun e w' ⟨he, hw⟩ => ⟨_, he, ?_, by subst hw; exact aB_ (Below.refl _ _) _⟩
  subst hw
  refine Kd.R_of_own (enc := Value.string) (h1 := fun _ => rfl) ?_ (fun _ _ => trivial)
  refine ⟨by simp [encs], .inr ⟨w.heap.size, _, _, by rw [hl], Nat.le_refl _, (by first | exact blk_new w _ | exact HasRow.of (blk_new w _)), by rw [hl]; exact Nat.le_refl _, by unfold maxLen; omega, by simp [hl], ?_⟩⟩
  rw [Nat.mul_one, List.take_of_length_le (by simp)]
  simp [encs]
 ·cases h

def impl_isLarge.f (a0 : Int) : Option (Bool) := if a0 ≥ 65 then (some (decide (a0 ≤ 90))) else (some false)
theorem impl_isLarge.calls (a0 : Int) (r : Bool) (w : World) (h : impl_isLarge.f a0 = some r) :
  Calls Tryz.prog 154 #[.int .u8 a0] w fun e w' => e = .returned (.bool r) ∧ Drawn0 w w' := by
 have H : (if a0 ≥ 65 then (some (decide (a0 ≤ 90))) else (some false)) = some r := h
 clear h
 by_cases c2 : a0 ≥ 65
 ·rw [if_pos c2] at H
  have c2b0 : decide (65 ≤ a0) = true := decide_eq_true c2
  clear c2
  obtain rfl := Option.some.inj H
  go_enter Tryz.func154, Tryz.ntmps154
  go_wp2
  go_ret
  exact ⟨q3_, q13_⟩
 ·rw [if_neg c2] at H
  have c2b0 : decide (65 ≤ a0) = false := decide_eq_false c2
  clear c2
  obtain rfl := Option.some.inj H
  go_enter Tryz.func154, Tryz.ntmps154
  go_wp2
  go_ret
  exact ⟨q3_, q13_⟩

def impl_isPlain.f (a0 : Int) : Option (Bool) := if a0 ≥ 32 then (some (decide (a0 ≤ 126))) else (some false)
theorem impl_isPlain.calls (a0 : Int) (r : Bool) (w : World) (h : impl_isPlain.f a0 = some r) :
  Calls Tryz.prog 181 #[.int .u8 a0] w fun e w' => e = .returned (.bool r) ∧ Drawn0 w w' := by
 have H : (if a0 ≥ 32 then (some (decide (a0 ≤ 126))) else (some false)) = some r := h
 clear h
 by_cases c2 : a0 ≥ 32
 ·rw [if_pos c2] at H
  have c2b0 : decide (32 ≤ a0) = true := decide_eq_true c2
  clear c2
  obtain rfl := Option.some.inj H
  go_enter Tryz.func181, Tryz.ntmps181
  go_wp2
  go_ret
  exact ⟨q3_, q13_⟩
 ·rw [if_neg c2] at H
  have c2b0 : decide (32 ≤ a0) = false := decide_eq_false c2
  clear c2
  obtain rfl := Option.some.inj H
  go_enter Tryz.func181, Tryz.ntmps181
  go_wp2
  go_ret
  exact ⟨q3_, q13_⟩

def impl_Plain.l0 : Nat → ByteArray → Int → Option (Bool)
 | 0, _, _ => none
 | k + 1, x0, x3 => if x3 < (x0.size : Int) then (if 0 ≤ x3 then ((impl_isPlain.f (bt x0 x3)).bind fun t366 => (if t366 = true then (impl_Plain.l0 k x0 (wrap64 (x3 + 1))) else (some false))) else (none)) else (some true)
def impl_Plain.f (k : Nat) (a0 : ByteArray) : Option (Bool) := impl_Plain.l0 k a0 0

theorem impl_Plain.calls (k : Nat) (a0 : ByteArray) (r : Bool) (w : World) (h : impl_Plain.f k a0 = some r) :
  Calls Tryz.prog 155 #[.string a0] w fun e w' => e = .returned (.bool r) ∧ Drawn0 w w' := by
 have H : (impl_Plain.l0 k a0 0) = some r := h
 clear h
 have H' := Aside0.mk H
 clear H
 go_enter Tryz.func155, Tryz.ntmps155
 go_wp2
 go_loopg [3] k (fun kq v3 w' => ∃ (x3_1 : Int), v3 = .int .i64 x3_1 ∧ Aside0 (impl_Plain.l0 kq a0 x3_1 = some r) ∧ Aside0 (kq ≤ k) ∧ Drawn0 w w')
 case atStart => exact ⟨(0), q3_, H', ⟨Nat.le_refl _⟩, q13_⟩
 case round =>
  clear H'
  try clear c1
  obtain ⟨x3_1, rfl, HA, HK1, ⟨m1, rfl⟩⟩ := hrel
  cases gk with
  | zero => exact absurd HA.1 (by simp [impl_Plain.l0])
  | succ k1 =>
   have H := HA.1
   clear HA
   simp only [impl_Plain.l0] at H
   by_cases c2 : x3_1 < (a0.size : Int)
   ·rw [if_pos c2] at H
    have c2b0 : decide (x3_1 < (a0.size : Int)) = true := decide_eq_true c2
    clear c2
    by_cases c3 : 0 ≤ x3_1
    ·rw [if_pos c3] at H
     have c3b0 : decide (0 ≤ x3_1) = true := decide_eq_true c3
     clear c3
     replace H := Option.bind_eq_some_iff.mp H
     obtain ⟨t366, A50, H⟩ := H
     replace H : (if t366 = true then (impl_Plain.l0 k1 a0 (wrap64 (x3_1 + 1))) else (some false)) = some r := H
     have A5 := Aside0.mk A50
     clear A50
     by_cases c6 : t366 = true
     ·subst c6
      rw [if_pos rfl] at H
      have H' := Aside0.mk H
      clear H
      have p4 : 0 ≤ (x3_1 : Int) := of_decide_eq_true q4_
      have q4 : x3_1 < (a0.size : Int) := of_decide_eq_true q4_
      have hx4 := bt_at a0 x3_1
      replace p4 := eq_true p4
      replace q4 := eq_true q4
      go_wp2_with (first | ((with_reducible refine gate_callee (f := 181) rfl ?_); refine goesL_ (some 13) rfl rfl Tryz.func181 (by kernel_rfl) rfl #[.int .u8 (bt a0 x3_1)] rfl q2_ ?_; (with_reducible refine (impl_isPlain.calls (bt a0 x3_1) true _ A5.1).mono ?_); rintro e w' ⟨rfl, ⟨nd, rfl⟩⟩; refine ⟨_, rfl, ?_⟩))
      go_roundg k1
      case measure => have := HK1.1; omega
      case rel => exact ⟨(wrap64 (x3_1 + 1)), q3_, H', ⟨q85_⟩, q13_⟩
     ·replace c6 := Bool.eq_false_iff.mpr c6
      subst c6
      rw [if_neg (show ¬ (false = true) by decide)] at H
      obtain rfl := Option.some.inj H
      have p4 : 0 ≤ (x3_1 : Int) := of_decide_eq_true q4_
      have q4 : x3_1 < (a0.size : Int) := of_decide_eq_true q4_
      have hx4 := bt_at a0 x3_1
      replace p4 := eq_true p4
      replace q4 := eq_true q4
      go_wp2_with (first | ((with_reducible refine gate_callee (f := 181) rfl ?_); refine goesL_ (some 13) rfl rfl Tryz.func181 (by kernel_rfl) rfl #[.int .u8 (bt a0 x3_1)] rfl q2_ ?_; (with_reducible refine (impl_isPlain.calls (bt a0 x3_1) false _ A5.1).mono ?_); rintro e w' ⟨rfl, ⟨nd, rfl⟩⟩; refine ⟨_, rfl, ?_⟩))
      go_ret
      exact ⟨q3_, q13_⟩
    ·rw [if_neg c3] at H
     exact absurd H (by simp)
   ·rw [if_neg c2] at H
    have c2b0 : decide (x3_1 < (a0.size : Int)) = false := decide_eq_false c2
    clear c2
    obtain rfl := Option.some.inj H
    go_wp2
    go_ret
    exact ⟨q3_, q13_⟩


def strings_Contains.f (a0 : ByteArray) (a1 : ByteArray) : Option Bool := match a1.data.toList with | [c] => some (decide (0 ≤ Lib.indexByte a0.data.toList c)) | _ => none
theorem strings_Contains.calls (a0 : ByteArray) (a1 : ByteArray) (r : Bool) (w : World) (h : strings_Contains.f a0 a1 = some r) :
  Calls Tryz.prog 156 #[.string a0, .string a1] w fun e w' => e = .returned (.bool r) ∧ Drawn0 w w' := by
 unfold strings_Contains.f at h
 split at h
 ·rename_i c hc
  obtain rfl := Option.some.inj h
  obtain rfl : a1 = ⟨#[c]⟩ := by cases a1; simp only [ByteArray.mk.injEq]; exact Array.toList_inj.mp hc
  exact (Go.Proofs.YtfncjddolbghlaaGreatDoor.Shelf.Tryz.strings_Contains_one a0 c w).mono fun e w' ⟨he, hw⟩ => ⟨he, by subst hw; exact Drawn0.refl _⟩
 ·cases h

def impl_lineOk.l0 : Nat → ByteArray → ByteArray → Int → Option (Bool)
 | 0, _, _, _ => none
 | k + 1, x0, x1, x5 => if x5 < (x0.size : Int) then (if 0 ≤ x5 then ((impl_isLarge.f (bt x0 x5)).bind fun t367 => (if t367 = true then (impl_lineOk.l0 k x0 x1 (wrap64 (x5 + 1))) else (some false))) else (none)) else ((impl_in.f (x0.size : Int) 1 9).bind fun t368 => (if t368 = true then ((impl_in.f (x1.size : Int) 1 80).bind fun t369 => (if t369 = true then ((impl_Plain.f k x1).bind fun t370 => (if t370 = true then ((strings_Contains.f x1 (⟨#[32]⟩ : ByteArray)).bind fun t371 => (some (!t371))) else (some false))) else (some false))) else (some false)))
def impl_lineOk.f (k : Nat) (a0 : ByteArray) (a1 : ByteArray) : Option (Bool) := impl_lineOk.l0 k a0 a1 0

theorem impl_lineOk.calls (k : Nat) (a0 : ByteArray) (a1 : ByteArray) (r : Bool) (w : World) (h : impl_lineOk.f k a0 a1 = some r) :
  Calls Tryz.prog 126 #[.string a0, .string a1] w fun e w' => e = .returned (.bool r) ∧ Drawn0 w w' := by
 have H : (impl_lineOk.l0 k a0 a1 0) = some r := h
 clear h
 have H' := Aside0.mk H
 clear H
 go_enter Tryz.func126, Tryz.ntmps126
 go_wp2
 go_loopg [5] k (fun kq v5 w' => ∃ (x5_1 : Int), v5 = .int .i64 x5_1 ∧ Aside0 (impl_lineOk.l0 kq a0 a1 x5_1 = some r) ∧ Aside0 (kq ≤ k) ∧ Drawn0 w w')
 case atStart => exact ⟨(0), q3_, H', ⟨Nat.le_refl _⟩, q13_⟩
 case round =>
  clear H'
  try clear c1
  try clear p2
  obtain ⟨x5_1, rfl, HA, HK1, ⟨m1, rfl⟩⟩ := hrel
  cases gk with
  | zero => exact absurd HA.1 (by simp [impl_lineOk.l0])
  | succ k1 =>
   have H := HA.1
   clear HA
   simp only [impl_lineOk.l0] at H
   by_cases c3 : x5_1 < (a0.size : Int)
   ·rw [if_pos c3] at H
    have c3b0 : decide (x5_1 < (a0.size : Int)) = true := decide_eq_true c3
    clear c3
    by_cases c4 : 0 ≤ x5_1
    ·rw [if_pos c4] at H
     have c4b0 : decide (0 ≤ x5_1) = true := decide_eq_true c4
     clear c4
     replace H := Option.bind_eq_some_iff.mp H
     obtain ⟨t367, A60, H⟩ := H
     replace H : (if t367 = true then (impl_lineOk.l0 k1 a0 a1 (wrap64 (x5_1 + 1))) else (some false)) = some r := H
     have A6 := Aside0.mk A60
     clear A60
     by_cases c7 : t367 = true
     ·subst c7
      rw [if_pos rfl] at H
      have H' := Aside0.mk H
      clear H
      have p5 : 0 ≤ (x5_1 : Int) := of_decide_eq_true q4_
      have q5 : x5_1 < (a0.size : Int) := of_decide_eq_true q4_
      have hx5 := bt_at a0 x5_1
      replace p5 := eq_true p5
      replace q5 := eq_true q5
      go_wp2_with (first | ((with_reducible refine gate_callee (f := 154) rfl ?_); refine goesL_ (some 15) rfl rfl Tryz.func154 (by kernel_rfl) rfl #[.int .u8 (bt a0 x5_1)] rfl q2_ ?_; (with_reducible refine (impl_isLarge.calls (bt a0 x5_1) true _ A6.1).mono ?_); rintro e w' ⟨rfl, ⟨nd, rfl⟩⟩; refine ⟨_, rfl, ?_⟩))
      go_roundg k1
      case measure => have := HK1.1; omega
      case rel => exact ⟨(wrap64 (x5_1 + 1)), q3_, H', ⟨q85_⟩, q13_⟩
     ·replace c7 := Bool.eq_false_iff.mpr c7
      subst c7
      rw [if_neg (show ¬ (false = true) by decide)] at H
      obtain rfl := Option.some.inj H
      have p5 : 0 ≤ (x5_1 : Int) := of_decide_eq_true q4_
      have q5 : x5_1 < (a0.size : Int) := of_decide_eq_true q4_
      have hx5 := bt_at a0 x5_1
      replace p5 := eq_true p5
      replace q5 := eq_true q5
      go_wp2_with (first | ((with_reducible refine gate_callee (f := 154) rfl ?_); refine goesL_ (some 15) rfl rfl Tryz.func154 (by kernel_rfl) rfl #[.int .u8 (bt a0 x5_1)] rfl q2_ ?_; (with_reducible refine (impl_isLarge.calls (bt a0 x5_1) false _ A6.1).mono ?_); rintro e w' ⟨rfl, ⟨nd, rfl⟩⟩; refine ⟨_, rfl, ?_⟩))
      go_ret
      exact ⟨q3_, q13_⟩
    ·rw [if_neg c4] at H
     exact absurd H (by simp)
   ·rw [if_neg c3] at H
    have c3b0 : decide (x5_1 < (a0.size : Int)) = false := decide_eq_false c3
    clear c3
    replace H := Option.bind_eq_some_iff.mp H
    obtain ⟨t368, A80, H⟩ := H
    replace H : (if t368 = true then ((impl_in.f (a1.size : Int) 1 80).bind fun t369 => (if t369 = true then ((impl_Plain.f k1 a1).bind fun t370 => (if t370 = true then ((strings_Contains.f a1 (⟨#[32]⟩ : ByteArray)).bind fun t371 => (some (!t371))) else (some false))) else (some false))) else (some false)) = some r := H
    have A8 := Aside0.mk A80
    clear A80
    by_cases c9 : t368 = true
    ·subst c9
     rw [if_pos rfl] at H
     replace H := Option.bind_eq_some_iff.mp H
     obtain ⟨t369, A100, H⟩ := H
     replace H : (if t369 = true then ((impl_Plain.f k1 a1).bind fun t370 => (if t370 = true then ((strings_Contains.f a1 (⟨#[32]⟩ : ByteArray)).bind fun t371 => (some (!t371))) else (some false))) else (some false)) = some r := H
     have A10 := Aside0.mk A100
     clear A100
     by_cases c11 : t369 = true
     ·subst c11
      rw [if_pos rfl] at H
      replace H := Option.bind_eq_some_iff.mp H
      obtain ⟨t370, A120, H⟩ := H
      replace H : (if t370 = true then ((strings_Contains.f a1 (⟨#[32]⟩ : ByteArray)).bind fun t371 => (some (!t371))) else (some false)) = some r := H
      have A12 := Aside0.mk A120
      clear A120
      by_cases c13 : t370 = true
      ·subst c13
       rw [if_pos rfl] at H
       replace H := Option.bind_eq_some_iff.mp H
       obtain ⟨t371, A140, H⟩ := H
       replace H : (some (!t371)) = some r := H
       have A14 := Aside0.mk A140
       clear A140
       obtain rfl := Option.some.inj H
       go_wp2_with (first | ((with_reducible refine gate_callee (f := 95) rfl ?_); refine goesL_ (some 19) rfl rfl Tryz.func95 (by kernel_rfl) rfl #[.int .i64 (a0.size : Int), .int .i64 1, .int .i64 9] rfl q2_ ?_; (with_reducible refine (impl_in.calls (a0.size : Int) 1 9 true _ A8.1).mono ?_); rintro e w' ⟨rfl, ⟨nd, rfl⟩⟩; refine ⟨_, rfl, ?_⟩) | (go_at_call 95; (with_reducible refine (impl_in.calls (a1.size : Int) 1 80 true _ A10.1).mono ?_); rintro e w' ⟨rfl, ⟨nd, rfl⟩⟩) | (go_at_call 155; (with_reducible refine (impl_Plain.calls k1 a1 true _ A12.1).mono ?_); rintro e w' ⟨rfl, ⟨nd, rfl⟩⟩) | (go_at_call 156; (with_reducible refine (strings_Contains.calls a1 (⟨#[32]⟩ : ByteArray) t371 _ A14.1).mono ?_); rintro e w' ⟨rfl, ⟨nd, rfl⟩⟩))
       go_ret
       exact ⟨q3_, q13_⟩
      ·replace c13 := Bool.eq_false_iff.mpr c13
       subst c13
       rw [if_neg (show ¬ (false = true) by decide)] at H
       obtain rfl := Option.some.inj H
       go_wp2_with (first | ((with_reducible refine gate_callee (f := 95) rfl ?_); refine goesL_ (some 19) rfl rfl Tryz.func95 (by kernel_rfl) rfl #[.int .i64 (a0.size : Int), .int .i64 1, .int .i64 9] rfl q2_ ?_; (with_reducible refine (impl_in.calls (a0.size : Int) 1 9 true _ A8.1).mono ?_); rintro e w' ⟨rfl, ⟨nd, rfl⟩⟩; refine ⟨_, rfl, ?_⟩) | (go_at_call 95; (with_reducible refine (impl_in.calls (a1.size : Int) 1 80 true _ A10.1).mono ?_); rintro e w' ⟨rfl, ⟨nd, rfl⟩⟩) | (go_at_call 155; (with_reducible refine (impl_Plain.calls k1 a1 false _ A12.1).mono ?_); rintro e w' ⟨rfl, ⟨nd, rfl⟩⟩))
       go_ret
       exact ⟨q3_, q13_⟩
     ·replace c11 := Bool.eq_false_iff.mpr c11
      subst c11
      rw [if_neg (show ¬ (false = true) by decide)] at H
      obtain rfl := Option.some.inj H
      go_wp2_with (first | ((with_reducible refine gate_callee (f := 95) rfl ?_); refine goesL_ (some 19) rfl rfl Tryz.func95 (by kernel_rfl) rfl #[.int .i64 (a0.size : Int), .int .i64 1, .int .i64 9] rfl q2_ ?_; (with_reducible refine (impl_in.calls (a0.size : Int) 1 9 true _ A8.1).mono ?_); rintro e w' ⟨rfl, ⟨nd, rfl⟩⟩; refine ⟨_, rfl, ?_⟩) | (go_at_call 95; (with_reducible refine (impl_in.calls (a1.size : Int) 1 80 false _ A10.1).mono ?_); rintro e w' ⟨rfl, ⟨nd, rfl⟩⟩))
      go_ret
      exact ⟨q3_, q13_⟩
    ·replace c9 := Bool.eq_false_iff.mpr c9
     subst c9
     rw [if_neg (show ¬ (false = true) by decide)] at H
     obtain rfl := Option.some.inj H
     go_wp2_with (first | ((with_reducible refine gate_callee (f := 95) rfl ?_); refine goesL_ (some 19) rfl rfl Tryz.func95 (by kernel_rfl) rfl #[.int .i64 (a0.size : Int), .int .i64 1, .int .i64 9] rfl q2_ ?_; (with_reducible refine (impl_in.calls (a0.size : Int) 1 9 false _ A8.1).mono ?_); rintro e w' ⟨rfl, ⟨nd, rfl⟩⟩; refine ⟨_, rfl, ?_⟩))
     go_ret
     exact ⟨q3_, q13_⟩

def impl_isSmall.f (a0 : Int) : Option (Bool) := if a0 ≥ 97 then (some (decide (a0 ≤ 122))) else (some false)
theorem impl_isSmall.calls (a0 : Int) (r : Bool) (w : World) (h : impl_isSmall.f a0 = some r) :
  Calls Tryz.prog 162 #[.int .u8 a0] w fun e w' => e = .returned (.bool r) ∧ Drawn0 w w' := by
 have H : (if a0 ≥ 97 then (some (decide (a0 ≤ 122))) else (some false)) = some r := h
 clear h
 by_cases c2 : a0 ≥ 97
 ·rw [if_pos c2] at H
  have c2b0 : decide (97 ≤ a0) = true := decide_eq_true c2
  clear c2
  obtain rfl := Option.some.inj H
  go_enter Tryz.func162, Tryz.ntmps162
  go_wp2
  go_ret
  exact ⟨q3_, q13_⟩
 ·rw [if_neg c2] at H
  have c2b0 : decide (97 ≤ a0) = false := decide_eq_false c2
  clear c2
  obtain rfl := Option.some.inj H
  go_enter Tryz.func162, Tryz.ntmps162
  go_wp2
  go_ret
  exact ⟨q3_, q13_⟩

def impl_SmallName.l0 : Nat → ByteArray → Int → Option (Bool)
 | 0, _, _ => none
 | k + 1, x0, x3 => if x3 < (x0.size : Int) then (if 0 ≤ x3 then ((impl_isSmall.f (bt x0 x3)).bind fun t373 => (if t373 = true then (impl_SmallName.l0 k x0 (wrap64 (x3 + 1))) else (if x3 = 0 then (some false) else ((impl_isDigit.f (bt x0 x3)).bind fun t374 => (if t374 = true then (impl_SmallName.l0 k x0 (wrap64 (x3 + 1))) else (if (bt x0 x3) = 45 then (impl_SmallName.l0 k x0 (wrap64 (x3 + 1))) else (some false))))))) else (none)) else ((impl_in.f (x0.size : Int) 1 20).bind fun t372 => (some t372))
def impl_SmallName.f (k : Nat) (a0 : ByteArray) : Option (Bool) := impl_SmallName.l0 k a0 0

theorem impl_SmallName.calls (k : Nat) (a0 : ByteArray) (r : Bool) (w : World) (h : impl_SmallName.f k a0 = some r) :
  Calls Tryz.prog 138 #[.string a0] w fun e w' => e = .returned (.bool r) ∧ Drawn0 w w' := by
 have H : (impl_SmallName.l0 k a0 0) = some r := h
 clear h
 have H' := Aside0.mk H
 clear H
 go_enter Tryz.func138, Tryz.ntmps138
 go_wp2
 go_loopg [3] k (fun kq v3 w' => ∃ (x3_1 : Int), v3 = .int .i64 x3_1 ∧ Aside0 (impl_SmallName.l0 kq a0 x3_1 = some r) ∧ Aside0 (kq ≤ k) ∧ Drawn0 w w')
 case atStart => exact ⟨(0), q3_, H', ⟨Nat.le_refl _⟩, q13_⟩
 case round =>
  clear H'
  try clear c1
  obtain ⟨x3_1, rfl, HA, HK1, ⟨m1, rfl⟩⟩ := hrel
  cases gk with
  | zero => exact absurd HA.1 (by simp [impl_SmallName.l0])
  | succ k1 =>
   have H := HA.1
   clear HA
   simp only [impl_SmallName.l0] at H
   by_cases c2 : x3_1 < (a0.size : Int)
   ·rw [if_pos c2] at H
    have c2b0 : decide (x3_1 < (a0.size : Int)) = true := decide_eq_true c2
    clear c2
    by_cases c3 : 0 ≤ x3_1
    ·rw [if_pos c3] at H
     have c3b0 : decide (0 ≤ x3_1) = true := decide_eq_true c3
     clear c3
     replace H := Option.bind_eq_some_iff.mp H
     obtain ⟨t373, A50, H⟩ := H
     replace H : (if t373 = true then (impl_SmallName.l0 k1 a0 (wrap64 (x3_1 + 1))) else (if x3_1 = 0 then (some false) else ((impl_isDigit.f (bt a0 x3_1)).bind fun t374 => (if t374 = true then (impl_SmallName.l0 k1 a0 (wrap64 (x3_1 + 1))) else (if (bt a0 x3_1) = 45 then (impl_SmallName.l0 k1 a0 (wrap64 (x3_1 + 1))) else (some false)))))) = some r := H
     have A5 := Aside0.mk A50
     clear A50
     by_cases c6 : t373 = true
     ·subst c6
      rw [if_pos rfl] at H
      have H' := Aside0.mk H
      clear H
      have p4 : 0 ≤ (x3_1 : Int) := of_decide_eq_true q4_
      have q4 : x3_1 < (a0.size : Int) := of_decide_eq_true q4_
      have hx4 := bt_at a0 x3_1
      replace p4 := eq_true p4
      replace q4 := eq_true q4
      go_wp2_with (first | ((with_reducible refine gate_callee (f := 162) rfl ?_); refine goesL_ (some 13) rfl rfl Tryz.func162 (by kernel_rfl) rfl #[.int .u8 (bt a0 x3_1)] rfl q2_ ?_; (with_reducible refine (impl_isSmall.calls (bt a0 x3_1) true _ A5.1).mono ?_); rintro e w' ⟨rfl, ⟨nd, rfl⟩⟩; refine ⟨_, rfl, ?_⟩))
      go_roundg k1
      case measure => have := HK1.1; omega
      case rel => exact ⟨(wrap64 (x3_1 + 1)), q3_, H', ⟨q85_⟩, q13_⟩
     ·replace c6 := Bool.eq_false_iff.mpr c6
      subst c6
      rw [if_neg (show ¬ (false = true) by decide)] at H
      by_cases c7 : x3_1 = 0
      ·rw [if_pos c7] at H
       have c7b0 : (x3_1 == 0) = true := beq_iff_eq.mpr c7
       have c7b1 : (x3_1 != 0) = false := bne_eq_false_iff_eq.mpr c7
       clear c7
       obtain rfl := Option.some.inj H
       have p4 : 0 ≤ (x3_1 : Int) := of_decide_eq_true q4_
       have q4 : x3_1 < (a0.size : Int) := of_decide_eq_true q4_
       have hx4 := bt_at a0 x3_1
       replace p4 := eq_true p4
       replace q4 := eq_true q4
       go_wp2_with (first | ((with_reducible refine gate_callee (f := 162) rfl ?_); refine goesL_ (some 13) rfl rfl Tryz.func162 (by kernel_rfl) rfl #[.int .u8 (bt a0 x3_1)] rfl q2_ ?_; (with_reducible refine (impl_isSmall.calls (bt a0 x3_1) false _ A5.1).mono ?_); rintro e w' ⟨rfl, ⟨nd, rfl⟩⟩; refine ⟨_, rfl, ?_⟩))
       go_ret
       exact ⟨q3_, q13_⟩
      ·rw [if_neg c7] at H
       have c7b0 : (x3_1 == 0) = false := beq_eq_false_iff_ne.mpr c7
       have c7b1 : (x3_1 != 0) = true := bne_iff_ne.mpr c7
       replace H := Option.bind_eq_some_iff.mp H
       obtain ⟨t374, A90, H⟩ := H
       replace H : (if t374 = true then (impl_SmallName.l0 k1 a0 (wrap64 (x3_1 + 1))) else (if (bt a0 x3_1) = 45 then (impl_SmallName.l0 k1 a0 (wrap64 (x3_1 + 1))) else (some false))) = some r := H
       have A9 := Aside0.mk A90
       clear A90
       by_cases c10 : t374 = true
       ·subst c10
        rw [if_pos rfl] at H
        have H' := Aside0.mk H
        clear H
        have p4 : 0 ≤ (x3_1 : Int) := of_decide_eq_true q4_
        have q4 : x3_1 < (a0.size : Int) := of_decide_eq_true q4_
        have hx4 := bt_at a0 x3_1
        replace p4 := eq_true p4
        replace q4 := eq_true q4
        go_wp2_with (first | ((with_reducible refine gate_callee (f := 162) rfl ?_); refine goesL_ (some 13) rfl rfl Tryz.func162 (by kernel_rfl) rfl #[.int .u8 (bt a0 x3_1)] rfl q2_ ?_; (with_reducible refine (impl_isSmall.calls (bt a0 x3_1) false _ A5.1).mono ?_); rintro e w' ⟨rfl, ⟨nd, rfl⟩⟩; refine ⟨_, rfl, ?_⟩; have p8 : 0 ≤ (x3_1 : Int) := of_decide_eq_true q4_; have q8 : x3_1 < (a0.size : Int) := of_decide_eq_true q4_; have hx8 := bt_at a0 x3_1; replace p8 := eq_true p8; replace q8 := eq_true q8) | (go_at_call 163; (with_reducible refine (impl_isDigit.calls (bt a0 x3_1) true _ A9.1).mono ?_); rintro e w' ⟨rfl, ⟨nd, rfl⟩⟩))
        go_roundg k1
        case measure => have := HK1.1; omega
        case rel => exact ⟨(wrap64 (x3_1 + 1)), q3_, H', ⟨q85_⟩, q13_⟩
       ·replace c10 := Bool.eq_false_iff.mpr c10
        subst c10
        rw [if_neg (show ¬ (false = true) by decide)] at H
        by_cases c12 : (bt a0 x3_1) = 45
        ·rw [if_pos c12] at H
         have c12b0 : ((bt a0 x3_1) == 45) = true := beq_iff_eq.mpr c12
         have c12b1 : ((bt a0 x3_1) != 45) = false := bne_eq_false_iff_eq.mpr c12
         clear c12
         have H' := Aside0.mk H
         clear H
         have p4 : 0 ≤ (x3_1 : Int) := of_decide_eq_true q4_
         have q4 : x3_1 < (a0.size : Int) := of_decide_eq_true q4_
         have hx4 := bt_at a0 x3_1
         replace p4 := eq_true p4
         replace q4 := eq_true q4
         go_wp2_with (first | ((with_reducible refine gate_callee (f := 162) rfl ?_); refine goesL_ (some 13) rfl rfl Tryz.func162 (by kernel_rfl) rfl #[.int .u8 (bt a0 x3_1)] rfl q2_ ?_; (with_reducible refine (impl_isSmall.calls (bt a0 x3_1) false _ A5.1).mono ?_); rintro e w' ⟨rfl, ⟨nd, rfl⟩⟩; refine ⟨_, rfl, ?_⟩; have p8 : 0 ≤ (x3_1 : Int) := of_decide_eq_true q4_; have q8 : x3_1 < (a0.size : Int) := of_decide_eq_true q4_; have hx8 := bt_at a0 x3_1; replace p8 := eq_true p8; replace q8 := eq_true q8) | (go_at_call 163; (with_reducible refine (impl_isDigit.calls (bt a0 x3_1) false _ A9.1).mono ?_); rintro e w' ⟨rfl, ⟨nd, rfl⟩⟩; have p11 : 0 ≤ (x3_1 : Int) := of_decide_eq_true q4_; have q11 : x3_1 < (a0.size : Int) := of_decide_eq_true q4_; have hx11 := bt_at a0 x3_1; replace p11 := eq_true p11; replace q11 := eq_true q11))
         go_roundg k1
         case measure => have := HK1.1; omega
         case rel => exact ⟨(wrap64 (x3_1 + 1)), q3_, H', ⟨q85_⟩, q13_⟩
        ·rw [if_neg c12] at H
         have c12b0 : ((bt a0 x3_1) == 45) = false := beq_eq_false_iff_ne.mpr c12
         have c12b1 : ((bt a0 x3_1) != 45) = true := bne_iff_ne.mpr c12
         obtain rfl := Option.some.inj H
         have p4 : 0 ≤ (x3_1 : Int) := of_decide_eq_true q4_
         have q4 : x3_1 < (a0.size : Int) := of_decide_eq_true q4_
         have hx4 := bt_at a0 x3_1
         replace p4 := eq_true p4
         replace q4 := eq_true q4
         go_wp2_with (first | ((with_reducible refine gate_callee (f := 162) rfl ?_); refine goesL_ (some 13) rfl rfl Tryz.func162 (by kernel_rfl) rfl #[.int .u8 (bt a0 x3_1)] rfl q2_ ?_; (with_reducible refine (impl_isSmall.calls (bt a0 x3_1) false _ A5.1).mono ?_); rintro e w' ⟨rfl, ⟨nd, rfl⟩⟩; refine ⟨_, rfl, ?_⟩; have p8 : 0 ≤ (x3_1 : Int) := of_decide_eq_true q4_; have q8 : x3_1 < (a0.size : Int) := of_decide_eq_true q4_; have hx8 := bt_at a0 x3_1; replace p8 := eq_true p8; replace q8 := eq_true q8) | (go_at_call 163; (with_reducible refine (impl_isDigit.calls (bt a0 x3_1) false _ A9.1).mono ?_); rintro e w' ⟨rfl, ⟨nd, rfl⟩⟩; have p11 : 0 ≤ (x3_1 : Int) := of_decide_eq_true q4_; have q11 : x3_1 < (a0.size : Int) := of_decide_eq_true q4_; have hx11 := bt_at a0 x3_1; replace p11 := eq_true p11; replace q11 := eq_true q11))
         go_ret
         exact ⟨q3_, q13_⟩
    ·rw [if_neg c3] at H
     exact absurd H (by simp)
   ·rw [if_neg c2] at H
    have c2b0 : decide (x3_1 < (a0.size : Int)) = false := decide_eq_false c2
    clear c2
    replace H := Option.bind_eq_some_iff.mp H
    obtain ⟨t372, A130, H⟩ := H
    replace H : (some t372) = some r := H
    have A13 := Aside0.mk A130
    clear A130
    obtain rfl := Option.some.inj H
    go_wp2_with (first | ((with_reducible refine gate_callee (f := 95) rfl ?_); refine goesL_ (some 34) rfl rfl Tryz.func95 (by kernel_rfl) rfl #[.int .i64 (a0.size : Int), .int .i64 1, .int .i64 20] rfl q2_ ?_; (with_reducible refine (impl_in.calls (a0.size : Int) 1 20 t372 _ A13.1).mono ?_); rintro e w' ⟨rfl, ⟨nd, rfl⟩⟩; refine ⟨_, rfl, ?_⟩))
    go_ret
    exact ⟨q3_, q13_⟩


def strings_Trim.f (a0 : ByteArray) (a1 : ByteArray) : Option ByteArray := if a0.size ≤ 9223372036854775807 ∧ a1.data.toList.all (fun b => decide (b.toNat < 128)) = true ∧ a1.size < 4294967281 then some ⟨(Lib.trimS a0.data.toList a1.data.toList).toArray⟩ else none
theorem strings_Trim.calls (a0 : ByteArray) (a1 : ByteArray) (r : ByteArray) (w : World) (h : strings_Trim.f a0 a1 = some r) :
  Calls Tryz.prog 190 #[.string a0, .string a1] w fun e w' => e = .returned (.string r) ∧ Below w.heap.size w w' := by
 unfold strings_Trim.f at h
 split at h
 ·rename_i hs
  obtain rfl := Option.some.inj h
  exact (Go.Proofs.YtfncjddolbghlaaGreatDoor.Shelf.Tryz.strings_Trim_laid a0 a1 w hs.1 hs.2.2 (fun j b hb => of_decide_eq_true (List.all_eq_true.1 hs.2.1 b (List.mem_of_getElem? hb)))).mono fun e w' ⟨he, hw⟩ => ⟨he, hw⟩
 ·cases h

def impl_Trim.f (a0 : ByteArray) : Option (ByteArray) := (strings_Trim.f a0 (⟨#[32, 9]⟩ : ByteArray)).bind fun t375 => (some t375)
theorem impl_Trim.calls (a0 : ByteArray) (r : ByteArray) (w : World) (h : impl_Trim.f a0 = some r) :
  Calls Tryz.prog 164 #[.string a0] w fun e w' => e = .returned (.string r) ∧ Below w.heap.size w w' := by
 have HB := Aside0.mk (Below.refl w.heap.size w)
 have H : ((strings_Trim.f a0 (⟨#[32, 9]⟩ : ByteArray)).bind fun t375 => (some t375)) = some r := h
 clear h
 replace H := Option.bind_eq_some_iff.mp H
 obtain ⟨t375, A20, H⟩ := H
 replace H : (some t375) = some r := H
 have A2 := Aside0.mk A20
 clear A20
 obtain rfl := Option.some.inj H
 go_enter Tryz.func164, Tryz.ntmps164
 go_wp2_with (first | ((with_reducible refine gate_callee (f := 190) rfl ?_); refine goesL_ (some 4) rfl rfl Tryz.func190 (by kernel_rfl) rfl #[.string a0, .string (⟨#[32, 9]⟩ : ByteArray)] rfl q2_ ?_; (with_reducible refine (strings_Trim.calls a0 (⟨#[32, 9]⟩ : ByteArray) t375 _ A2.1).mono ?_); rintro e w3 ⟨rfl, hb⟩; refine ⟨_, rfl, ?_⟩; have n0_ := Aside0.mk (below_step q1_ hb); clear HB; have HB := n0_; clear n0_; (try clear hb); (try clear hb2); (try clear hk); (try clear hi)))
 go_ret
 exact ⟨q10_, q1_⟩

def impl_valOk.f (k : Nat) (a0 : ByteArray) : Option (Bool) := if (a0.size : Int) ≤ 60 then ((impl_Plain.f k a0).bind fun t376 => (if t376 = true then ((impl_Trim.f a0).bind fun t377 => (some (t377.toList == a0.toList))) else (some false))) else (some false)

theorem impl_valOk.calls (k : Nat) (a0 : ByteArray) (r : Bool) (w : World) (h : impl_valOk.f k a0 = some r) :
  Calls Tryz.prog 139 #[.string a0] w fun e w' => e = .returned (.bool r) ∧ Below w.heap.size w w' := by
 have HB := Aside0.mk (Below.refl w.heap.size w)
 have H : (if (a0.size : Int) ≤ 60 then ((impl_Plain.f k a0).bind fun t376 => (if t376 = true then ((impl_Trim.f a0).bind fun t377 => (some (t377.toList == a0.toList))) else (some false))) else (some false)) = some r := h
 clear h
 by_cases c2 : (a0.size : Int) ≤ 60
 ·rw [if_pos c2] at H
  have c2b0 : decide ((a0.size : Int) ≤ 60) = true := decide_eq_true c2
  have c2b1 : decide (a0.size ≤ 60) = true := decide_eq_true (by omega)
  clear c2
  replace H := Option.bind_eq_some_iff.mp H
  obtain ⟨t376, A30, H⟩ := H
  replace H : (if t376 = true then ((impl_Trim.f a0).bind fun t377 => (some (t377.toList == a0.toList))) else (some false)) = some r := H
  have A3 := Aside0.mk A30
  clear A30
  by_cases c4 : t376 = true
  ·subst c4
   rw [if_pos rfl] at H
   replace H := Option.bind_eq_some_iff.mp H
   obtain ⟨t377, A50, H⟩ := H
   replace H : (some (t377.toList == a0.toList)) = some r := H
   have A5 := Aside0.mk A50
   clear A50
   obtain rfl := Option.some.inj H
   go_enter Tryz.func139, Tryz.ntmps139
   go_wp2_with (first | (go_at_call 155; (with_reducible refine (impl_Plain.calls k a0 true _ A3.1).mono ?_); rintro e w' ⟨rfl, ⟨nd, rfl⟩⟩) | (go_at_call 164; (with_reducible refine (impl_Trim.calls a0 t377 _ A5.1).mono ?_); rintro e w6 ⟨rfl, hb⟩; have n0_ := Aside0.mk (below_step q1_ hb); clear HB; have HB := n0_; clear n0_; (try clear hb); (try clear hb2); (try clear hk); (try clear hi)))
   go_ret
   exact ⟨q10_, q1_⟩
  ·replace c4 := Bool.eq_false_iff.mpr c4
   subst c4
   rw [if_neg (show ¬ (false = true) by decide)] at H
   obtain rfl := Option.some.inj H
   go_enter Tryz.func139, Tryz.ntmps139
   go_wp2_with (first | (go_at_call 155; (with_reducible refine (impl_Plain.calls k a0 false _ A3.1).mono ?_); rintro e w' ⟨rfl, ⟨nd, rfl⟩⟩))
   go_ret
   exact ⟨q10_, q1_⟩
 ·rw [if_neg c2] at H
  have c2b0 : decide ((a0.size : Int) ≤ 60) = false := decide_eq_false c2
  have c2b1 : decide (a0.size ≤ 60) = false := decide_eq_false (by omega)
  clear c2
  obtain rfl := Option.some.inj H
  go_enter Tryz.func139, Tryz.ntmps139
  go_wp2
  go_ret
  exact ⟨q10_, q1_⟩

end Go.Proofs.YtfncjddolbghlaaGreatDoor.GFnMore
