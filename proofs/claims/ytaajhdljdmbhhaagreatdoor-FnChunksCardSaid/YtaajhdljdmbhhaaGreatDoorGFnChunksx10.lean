-- by gprint.py (this session's program over the kit's print.py) (a twelfth state) out of the translation. Not trusted: Lean checks it.
import Derived.Test.YtaajhdljdmbhhaaGreatDoorGFnChunksx0
import Derived.Test.YtaajhdljdmbhhaaGreatDoorGFnChunksx4
import Derived.Test.YtaajhdljdmbhhaaGreatDoorGFnChunksx8
import Derived.Test.YtaajhdljdmbhhaaGreatDoorGFnChunksx9
namespace Go.Proofs.YtaajhdljdmbhhaaGreatDoor.GFnChunks
open Go.RowKit Go.Proofs.YtaajhdljdmbhhaaGreatDoorW.PrintWords Go.Proofs.YtaajhdljdmbhhaaGreatDoorW.PrintLast Go.Proofs.YtaajhdljdmbhhaaGreatDoorW.PrintMore
attribute [local go_sem] max2_int min2_int max_two min_two max_three min_three max_four min_four   -- for this text's walks alone
set_option linter.unusedVariables false
set_option linter.unusedSimpArgs false
set_option maxRecDepth 100000
set_option maxHeartbeats 8000000

mutual
def impl_GetChunks.l0 : Nat → List Int → ByteArray → ByteArray → Int → Option (ByteArray × Int × Int)
 | 0, _, _, _, _ => none
 | k + 1, x0, x8, x403000, x403001 => (impl_chunks_size.f k x403000 x403001).bind fun bt403 => (if bt403.2.2 = 0 then (if (wrap64 ((x8.size : Int) + bt403.1)) > 200 then (impl_GetChunks.j1 k x0 x8 bt403.1 bt403.2.1 413) else (if bt403.1 > (bt403.2.1.size : Int) then (impl_GetChunks.j1 k x0 x8 bt403.1 bt403.2.1 1) else (if 0 ≤ bt403.1 then (if bt403.1 ≤ (bt403.2.1.size : Int) then (if x8.size + (bt403.2.1.extract 0 (bt403.1 : Int).toNat).size ≤ 9223372036854775807 then ((impl_chunks_end.f k (bt403.2.1.extract (bt403.1 : Int).toNat bt403.2.1.size) bt403.2.2).bind fun bt406 => (impl_GetChunks.j1 k x0 (x8 ++ (bt403.2.1.extract 0 (bt403.1 : Int).toNat)) bt403.1 bt406.1 bt406.2)) else (none)) else (none)) else (none)))) else (impl_GetChunks.j1 k x0 x8 bt403.1 bt403.2.1 bt403.2.2))
def impl_GetChunks.j1 : Nat → List Int → ByteArray → Int → ByteArray → Int → Option (ByteArray × Int × Int)
 | 0, _, _, _, _, _ => none
 | k + 1, x0, x8, x9, x403000, x403001 => if x403001 = 0 then (if x9 = 0 then (some (x8, wrap64 ((x0.length : Int) - (x403000.size : Int)), 0)) else (impl_GetChunks.l0 k x0 x8 x403000 x403001)) else (some ((⟨#[]⟩ : BA), 0, x403001))
end
def impl_GetChunks.f (k : Nat) (l0 : List Int) (a1 : Int) : Option (ByteArray × Int × Int) := (impl_in.f a1 0 (l0.length : Int)).bind fun t400 => (if t400 = true then (if 0 ≤ a1 then (if a1 ≤ (l0.length : Int) then (impl_GetChunks.l0 k l0 (⟨#[]⟩ : BA) (strOfNums (l0.drop (a1 : Int).toNat)) 0) else (none)) else (none)) else (some ((⟨#[]⟩ : BA), 0, 400)))

theorem impl_GetChunks.calls (k : Nat) (A0 : Option Addr) (c0 : Nat) (l0 : List Int) (a1 : Int) (r1 : ByteArray) (r2 : Int) (r3 : Int) (w : World) (hr0 : Kd.C (Kd.int .u8) w A0 l0.length l0) (hc0 : l0.length ≤ c0) (h : impl_GetChunks.f k l0 a1 = some (r1, r2, r3)) (hG : GOK w) :
  Calls Tryz.prog 45 #[.slice A0 l0.length c0, .int .i64 a1] w fun e w' => e = .returned (.tuple #[.string r1, .int .i64 r2, .int .i64 r3]) ∧ Below w.heap.size w w' := by
 have hu96 := Tryz.underlying96; have HR0 := aK hr0; have HC0 := aK hc0; clear hr0 hc0; have HB := aK (Below.refl w.heap.size w); have H := h; clear h; unfold impl_GetChunks.f at H
 replace H := oB H; obtain ⟨t400, A3, H⟩ := H; (try dsimp only at H); by_cases c4 : t400 = true
 ·subst c4; rw [if_pos rfl] at H; by_cases c5 : 0 ≤ a1
  ·rw [if_pos c5] at H; have c5b0 := eq_true c5; have c5b1 := decide_eq_true c5; clear c5; by_cases c6 : a1 ≤ (l0.length : Int)
   ·rw [if_pos c6] at H; have c6b0 := eq_true c6; have c6b1 := decide_eq_true c6; clear c6; have H' := aK H; clear H; go_enter Tryz.func45, Tryz.ntmps45
    go_wp2_with (first | (go_at_call 80; (with_reducible refine (impl_in.calls a1 0 (l0.length : Int) true _ A3.1).mono ?_); rintro e w' ⟨rfl, ⟨nd, rfl⟩⟩; (try first | exact ⟨rfl, _, World.drewN_drewN _ _ _⟩ | exact ⟨rfl, _, Eq.trans (World.drewN_drewN _ _ _) (congrArg (World.drewN _) (Nat.add_assoc _ _ _))⟩); obtain ⟨i07, hi07, _, hsz7, _⟩ := info_parts info5; obtain ⟨A7, hcut7, hA7, hC7⟩ := print_drop_of (P := Tryz.prog) (Value.int .u8) 0 22 5 .i64 Tryz.underlying22 hi07 hsz7 A0 c0 l0 a1 (of_decide_eq_true q4_) (of_decide_eq_true q4_) HC0.1; have HR401 := aK (Kd.C_of_reads (h1 := fun _ => rfl) (hA7 _ (Kd.reads_of_C HR0.1))); have HC401 := aK hC7; clear hA7 hC7 hi07 hsz7; have hq_ := HR401.1; rw [show (l0.drop (a1 : Int).toNat).length = (l0.length - a1.toNat) from List.length_drop] at hq_; have hcv8 := Kd.C_string (P := Tryz.prog) (A := A7) (c := (c0 - a1.toNat)) Tryz.underlying22 Tryz.underlying5 Tryz.underlying9 hq_; have hcv9 := fun nq_ : Nat => Kd.C_string (P := Tryz.prog) (A := A7) (c := (c0 - a1.toNat)) Tryz.underlying22 Tryz.underlying5 Tryz.underlying9 (Kd.C_drewN hq_ nq_); clear hq_) | ((with_reducible refine gate_dst (N := 20) rfl ?_); refine box_event ?hg (N := 20) ?hd (cs := #[.string (strOfNums (l0.drop (a1 : Int).toNat)), .int .i64 0]) (t := 96) ?hr ?_; (case hd => rfl); (case hg => rfl); (case hr => exact q28_); intro gb402 hg w10 hbox hb; have HI402 := aK ((show IsS96 w w10 gb402 (strOfNums (l0.drop (a1 : Int).toNat)) 0 from ⟨hbox, (q39_ : w.heap.size ≤ gb402)⟩)); replace HB := aK (below_step q1_ hb); clear hb hbox hg))
    repeat (go_quiet (first | (go_at_call 80; (with_reducible refine (impl_in.calls a1 0 (l0.length : Int) true _ A3.1).mono ?_); rintro e w' ⟨rfl, ⟨nd, rfl⟩⟩; (try first | exact ⟨rfl, _, World.drewN_drewN _ _ _⟩ | exact ⟨rfl, _, Eq.trans (World.drewN_drewN _ _ _) (congrArg (World.drewN _) (Nat.add_assoc _ _ _))⟩); obtain ⟨i07, hi07, _, hsz7, _⟩ := info_parts info5; obtain ⟨A7, hcut7, hA7, hC7⟩ := print_drop_of (P := Tryz.prog) (Value.int .u8) 0 22 5 .i64 Tryz.underlying22 hi07 hsz7 A0 c0 l0 a1 (of_decide_eq_true q4_) (of_decide_eq_true q4_) HC0.1; have HR401 := aK (Kd.C_of_reads (h1 := fun _ => rfl) (hA7 _ (Kd.reads_of_C HR0.1))); have HC401 := aK hC7; clear hA7 hC7 hi07 hsz7; have hq_ := HR401.1; rw [show (l0.drop (a1 : Int).toNat).length = (l0.length - a1.toNat) from List.length_drop] at hq_; have hcv8 := Kd.C_string (P := Tryz.prog) (A := A7) (c := (c0 - a1.toNat)) Tryz.underlying22 Tryz.underlying5 Tryz.underlying9 hq_; have hcv9 := fun nq_ : Nat => Kd.C_string (P := Tryz.prog) (A := A7) (c := (c0 - a1.toNat)) Tryz.underlying22 Tryz.underlying5 Tryz.underlying9 (Kd.C_drewN hq_ nq_); clear hq_) | ((with_reducible refine gate_dst (N := 20) rfl ?_); refine box_event ?hg (N := 20) ?hd (cs := #[.string (strOfNums (l0.drop (a1 : Int).toNat)), .int .i64 0]) (t := 96) ?hr ?_; (case hd => rfl); (case hg => rfl); (case hr => exact q28_); intro gb402 hg w10 hbox hb; have HI402 := aK ((show IsS96 w w10 gb402 (strOfNums (l0.drop (a1 : Int).toNat)) 0 from ⟨hbox, (q39_ : w.heap.size ≤ gb402)⟩)); replace HB := aK (below_step q1_ hb); clear hb hbox hg)); try go_wp2_with (first | (go_at_call 80; (with_reducible refine (impl_in.calls a1 0 (l0.length : Int) true _ A3.1).mono ?_); rintro e w' ⟨rfl, ⟨nd, rfl⟩⟩; (try first | exact ⟨rfl, _, World.drewN_drewN _ _ _⟩ | exact ⟨rfl, _, Eq.trans (World.drewN_drewN _ _ _) (congrArg (World.drewN _) (Nat.add_assoc _ _ _))⟩); obtain ⟨i07, hi07, _, hsz7, _⟩ := info_parts info5; obtain ⟨A7, hcut7, hA7, hC7⟩ := print_drop_of (P := Tryz.prog) (Value.int .u8) 0 22 5 .i64 Tryz.underlying22 hi07 hsz7 A0 c0 l0 a1 (of_decide_eq_true q4_) (of_decide_eq_true q4_) HC0.1; have HR401 := aK (Kd.C_of_reads (h1 := fun _ => rfl) (hA7 _ (Kd.reads_of_C HR0.1))); have HC401 := aK hC7; clear hA7 hC7 hi07 hsz7; have hq_ := HR401.1; rw [show (l0.drop (a1 : Int).toNat).length = (l0.length - a1.toNat) from List.length_drop] at hq_; have hcv8 := Kd.C_string (P := Tryz.prog) (A := A7) (c := (c0 - a1.toNat)) Tryz.underlying22 Tryz.underlying5 Tryz.underlying9 hq_; have hcv9 := fun nq_ : Nat => Kd.C_string (P := Tryz.prog) (A := A7) (c := (c0 - a1.toNat)) Tryz.underlying22 Tryz.underlying5 Tryz.underlying9 (Kd.C_drewN hq_ nq_); clear hq_) | ((with_reducible refine gate_dst (N := 20) rfl ?_); refine box_event ?hg (N := 20) ?hd (cs := #[.string (strOfNums (l0.drop (a1 : Int).toNat)), .int .i64 0]) (t := 96) ?hr ?_; (case hd => rfl); (case hg => rfl); (case hr => exact q28_); intro gb402 hg w10 hbox hb; have HI402 := aK ((show IsS96 w w10 gb402 (strOfNums (l0.drop (a1 : Int).toNat)) 0 from ⟨hbox, (q39_ : w.heap.size ≤ gb402)⟩)); replace HB := aK (below_step q1_ hb); clear hb hbox hg)))
    go_loopg [8] k (fun kq v8 w' => ∃ (x8_1 : ByteArray) (x403000_1 : ByteArray) (x403001_1 : Int), v8 = .string x8_1 ∧ Aside0 (impl_GetChunks.l0 kq l0 x8_1 x403000_1 x403001_1 = some (r1, r2, r3)) ∧ Aside0 (kq ≤ k) ∧ Aside0 (IsS96 w w' gb402 x403000_1 x403001_1) ∧ Aside0 (Below w.heap.size w w'))
    case atStart => exact ⟨((⟨#[]⟩ : BA)), (strOfNums (l0.drop (a1 : Int).toNat)), (0), q3_, H', ⟨Nat.le_refl _⟩, ⟨q38_⟩, ⟨q31_⟩⟩
    case round =>
     clear H'; (try clear p2); (try clear c4); (try clear c5); (try clear c5b0); (try clear c5b1); (try clear c6); (try clear c6b0); (try clear c6b1); (try clear hcv8); (try clear hcv9); obtain ⟨x8_1, x403000_1, x403001_1, rfl, HA, HK1, HI402, HB⟩ := hrel; cases gk with
     | zero => exact absurd HA.1 (by simp [impl_GetChunks.l0])
     | succ k1 =>
      have H := HA.1; clear HA; simp only [impl_GetChunks.l0] at H; replace H := oB H; obtain ⟨⟨t403, t404, t405⟩, A11, H⟩ := H; (try dsimp only at H); have HC12 := aK H; clear H; go_upto_block 2 with (first | (go_at_call 81; (with_reducible refine (impl_chunks_size.calls k1 gb402 x403000_1 x403001_1 t403 t404 t405 w _ ?side1 ?side2 A11.1 ?side99).mono ?_); (case side1 => exact q38_); (case side2 => exact q31_); (case side99 => exact q19_); rintro e w13 ⟨rfl, hi, hb, hk⟩; replace HB := aK (hb); replace HI402 := aK (hi); clear hb hk hi))
      repeat (go_quiet (first | (go_at_call 81; (with_reducible refine (impl_chunks_size.calls k1 gb402 x403000_1 x403001_1 t403 t404 t405 w _ ?side1 ?side2 A11.1 ?side99).mono ?_); (case side1 => exact q38_); (case side2 => exact q31_); (case side99 => exact q19_); rintro e w13 ⟨rfl, hi, hb, hk⟩; replace HB := aK (hb); replace HI402 := aK (hi); clear hb hk hi)); go_upto_block 2 with (first | (go_at_call 81; (with_reducible refine (impl_chunks_size.calls k1 gb402 x403000_1 x403001_1 t403 t404 t405 w _ ?side1 ?side2 A11.1 ?side99).mono ?_); (case side1 => exact q38_); (case side2 => exact q31_); (case side99 => exact q19_); rintro e w13 ⟨rfl, hi, hb, hk⟩; replace HB := aK (hb); replace HI402 := aK (hi); clear hb hk hi)))
      (try simp only [Act.put, sI, sZ, sS]); go_cut [8] (fun v8 wc => ∃ (kq : Nat) (x8_11 : ByteArray) (x403000_11 : ByteArray) (x403001_11 : Int), v8 = .string x8_11 ∧ Aside0 (impl_GetChunks.j1 kq l0 x8_11 t403 x403000_11 x403001_11 = some (r1, r2, r3)) ∧ Aside0 (kq ≤ k1) ∧ Aside0 (IsS96 w wc gb402 x403000_11 x403001_11) ∧ Aside0 (Below w.heap.size w wc))
      case first =>
       have H := HC12.1; clear HC12; by_cases c14 : t405 = 0
       ·rw [if_pos c14] at H; have c14b0 := beq_iff_eq.mpr c14; have c14b1 : (t405 != 0) = false := bne_eq_false_iff_eq.mpr c14; clear c14; (first | rw [c14b0] | rw [c14i0] | (simp only [i64_w, i32_w]; rw [c14b0]) | skip); by_cases c15 : (wrap64 ((x8_1.size : Int) + t403)) > 200
        ·rw [if_pos c15] at H; have c15b0 : decide (200 < (wrap64 ((x8_1.size : Int) + t403))) = true := decide_eq_true c15; clear c15; have H' := aK H; clear H; obtain ⟨HGz16, hgz16⟩ := HI402.1; have hcz16_0 := cellS96_0 HGz16; have hcz16_1 := cellS96_1 HGz16; have hfz16_0 := bF_ HGz16 0; have hfz16_1 := bF_ HGz16 1; clear HGz16 hgz16; go_wp2
         repeat (go_quiet (fail); try go_wp2)
         go_meet
         case rel => exact ⟨_, (x8_1), (t404), (413), q3_, H', ⟨q85_⟩, ⟨q38_⟩, ⟨q31_⟩⟩
        ·rw [if_neg c15] at H; have c15b0 : decide (200 < (wrap64 ((x8_1.size : Int) + t403))) = false := decide_eq_false c15; clear c15; by_cases c17 : t403 > (t404.size : Int)
         ·rw [if_pos c17] at H; have c17b0 : decide ((t404.size : Int) < t403) = true := decide_eq_true c17; clear c17; have H' := aK H; clear H; obtain ⟨HGz18, hgz18⟩ := HI402.1; have hcz18_0 := cellS96_0 HGz18; have hcz18_1 := cellS96_1 HGz18; have hfz18_0 := bF_ HGz18 0; have hfz18_1 := bF_ HGz18 1; clear HGz18 hgz18; go_wp2
          repeat (go_quiet (fail); try go_wp2)
          go_meet
          case rel => exact ⟨_, (x8_1), (t404), (1), q3_, H', ⟨q85_⟩, ⟨q38_⟩, ⟨q31_⟩⟩
         ·rw [if_neg c17] at H; have c17b0 : decide ((t404.size : Int) < t403) = false := decide_eq_false c17; clear c17; by_cases c19 : 0 ≤ t403
          ·rw [if_pos c19] at H; have c19b0 := eq_true c19; have c19b1 := decide_eq_true c19; clear c19; by_cases c20 : t403 ≤ (t404.size : Int)
           ·rw [if_pos c20] at H; have c20b0 := eq_true c20; have c20b1 := decide_eq_true c20; clear c20; by_cases c21 : x8_1.size + (t404.extract 0 (t403 : Int).toNat).size ≤ 9223372036854775807
            ·rw [if_pos c21] at H; have c21b0 := eq_true c21; have c21b1 := decide_eq_true c21; try have c21b2 : (9223372036854775807 < x8_1.size + (t404.extract 0 (t403 : Int).toNat).size) = False := eq_false (Nat.not_lt.2 c21)
             have c22b0 := eq_true (of_decide_eq_true q4_ : 0 ≤ t403); have c23b0 := eq_true (of_decide_eq_true q4_ : t403 ≤ (t404.size : Int)); replace H := oB H; obtain ⟨⟨t406, t407⟩, A24, H⟩ := H; (try dsimp only at H); have H' := aK H; clear H; obtain ⟨HGz25, hgz25⟩ := HI402.1; have hcz25_0 := cellS96_0 HGz25; have hcz25_1 := cellS96_1 HGz25; have hfz25_0 := bF_ HGz25 0; have hfz25_1 := bF_ HGz25 1; clear HGz25 hgz25; go_wp2_with (first | (go_at_call 82; (with_reducible refine (impl_chunks_end.calls k1 gb402 (t404.extract (t403 : Int).toNat t404.size) t405 t406 t407 w _ ?side1 ?side2 A24.1).mono ?_); (case side1 => exact q38_); (case side2 => exact q31_); rintro e w26 ⟨rfl, hi, hb, hk⟩; replace HB := aK (hb); replace HI402 := aK (hi); clear hb hk hi))
             repeat (go_quiet (first | (go_at_call 82; (with_reducible refine (impl_chunks_end.calls k1 gb402 (t404.extract (t403 : Int).toNat t404.size) t405 t406 t407 w _ ?side1 ?side2 A24.1).mono ?_); (case side1 => exact q38_); (case side2 => exact q31_); rintro e w26 ⟨rfl, hi, hb, hk⟩; replace HB := aK (hb); replace HI402 := aK (hi); clear hb hk hi)); try go_wp2_with (first | (go_at_call 82; (with_reducible refine (impl_chunks_end.calls k1 gb402 (t404.extract (t403 : Int).toNat t404.size) t405 t406 t407 w _ ?side1 ?side2 A24.1).mono ?_); (case side1 => exact q38_); (case side2 => exact q31_); rintro e w26 ⟨rfl, hi, hb, hk⟩; replace HB := aK (hb); replace HI402 := aK (hi); clear hb hk hi)))
             go_meet
             case rel => exact ⟨_, (x8_1 ++ (t404.extract 0 (t403 : Int).toNat)), (t406), (t407), q3_, H', ⟨q85_⟩, ⟨q38_⟩, ⟨q31_⟩⟩
            ·rw [if_neg c21] at H; exact absurd H (by simp)
           ·rw [if_neg c20] at H; exact absurd H (by simp)
          ·rw [if_neg c19] at H; exact absurd H (by simp)
       ·rw [if_neg c14] at H; have c14b0 := beq_eq_false_iff_ne.mpr c14; have c14b1 : (t405 != 0) = true := bne_iff_ne.mpr c14; (first | rw [c14b0] | rw [c14i0] | (simp only [i64_w, i32_w]; rw [c14b0]) | skip); have H' := aK H; clear H; obtain ⟨HGz27, hgz27⟩ := HI402.1; have hcz27_0 := cellS96_0 HGz27; have hcz27_1 := cellS96_1 HGz27; have hfz27_0 := bF_ HGz27 0; have hfz27_1 := bF_ HGz27 1; clear HGz27 hgz27; go_wp2
        repeat (go_quiet (fail); try go_wp2)
        go_meet
        case rel => exact ⟨_, (x8_1), (t404), (t405), q3_, H', ⟨q85_⟩, ⟨q38_⟩, ⟨q31_⟩⟩
      case rest =>
       clear HC12; (try clear c1); (try clear c2); (try clear p2); (try clear c4); (try clear c5); (try clear c5b0); (try clear c5b1); (try clear c6); (try clear c6b0); (try clear c6b1); (try clear p6); (try clear hcv8); (try clear hcv9); (try clear c14); (try clear c14b0); (try clear c14b1); (try clear c15); (try clear c15b0); (try clear c17); (try clear c17b0); (try clear c19); (try clear c19b0); (try clear c19b1); (try clear c20); (try clear c20b0); (try clear c20b1); (try clear c21); (try clear c21b0); (try clear c21b1); (try clear c21b2); (try clear c22); (try clear c22b0); (try clear c23); (try clear c23b0); (try clear hcz16_0); (try clear hcz16_1); (try clear hcz18_0); (try clear hcz18_1); (try clear hcz25_0); (try clear hcz25_1); (try clear hcz27_0); (try clear hcz27_1); (try clear hfz16_0); (try clear hfz16_1); (try clear hfz18_0); (try clear hfz18_1); (try clear hfz25_0); (try clear hfz25_1); (try clear hfz27_0); (try clear hfz27_1); (try clear p2); obtain ⟨kq, x8_11, x403000_11, x403001_11, rfl, HA, HJ11, HI402, HB⟩ := hcut; cases kq with
       | zero => exact absurd HA.1 (by simp [impl_GetChunks.j1])
       | succ kj11 =>
        have H := HA.1; clear HA; simp only [impl_GetChunks.j1] at H; by_cases c28 : x403001_11 = 0
        ·rw [if_pos c28] at H; have c28b0 := beq_iff_eq.mpr c28; have c28b1 : (x403001_11 != 0) = false := bne_eq_false_iff_eq.mpr c28; clear c28; by_cases c29 : t403 = 0
         ·rw [if_pos c29] at H; have c29b0 := beq_iff_eq.mpr c29; have c29b1 : (t403 != 0) = false := bne_eq_false_iff_eq.mpr c29; clear c29; simp only [Option.some.injEq, Prod.mk.injEq] at H; obtain ⟨rfl, rfl, rfl⟩ := H; obtain ⟨HGz30, hgz30⟩ := HI402.1; have hcz30_0 := cellS96_0 HGz30; have hcz30_1 := cellS96_1 HGz30; have hfz30_0 := bF_ HGz30 0; have hfz30_1 := bF_ HGz30 1; clear HGz30 hgz30; go_wp2
          repeat (go_quiet (fail); try go_wp2)
          go_ret3
          exact ⟨q8_, q31_⟩
         ·rw [if_neg c29] at H; have c29b0 := beq_eq_false_iff_ne.mpr c29; have c29b1 : (t403 != 0) = true := bne_iff_ne.mpr c29; have H' := aK H; clear H; obtain ⟨HGz31, hgz31⟩ := HI402.1; have hcz31_0 := cellS96_0 HGz31; have hcz31_1 := cellS96_1 HGz31; have hfz31_0 := bF_ HGz31 0; have hfz31_1 := bF_ HGz31 1; clear HGz31 hgz31; go_wp2
          repeat (go_quiet (fail); try go_wp2)
          go_roundg kj11
          case measure => have := HK1.1; have := HJ11.1; omega
          case rel => exact ⟨(x8_11), (x403000_11), (x403001_11), q3_, H', ⟨by have := HK1.1; have := HJ11.1; omega⟩, ⟨q38_⟩, ⟨q31_⟩⟩
        ·rw [if_neg c28] at H; have c28b0 := beq_eq_false_iff_ne.mpr c28; have c28b1 : (x403001_11 != 0) = true := bne_iff_ne.mpr c28; simp only [Option.some.injEq, Prod.mk.injEq] at H; obtain ⟨rfl, rfl, rfl⟩ := H; obtain ⟨HGz32, hgz32⟩ := HI402.1; have hcz32_0 := cellS96_0 HGz32; have hcz32_1 := cellS96_1 HGz32; have hfz32_0 := bF_ HGz32 0; have hfz32_1 := bF_ HGz32 1; clear HGz32 hgz32; go_wp2
         repeat (go_quiet (fail); try go_wp2)
         go_ret3
         exact ⟨q8_, q31_⟩
   ·rw [if_neg c6] at H; exact absurd H (by simp)
  ·rw [if_neg c5] at H; exact absurd H (by simp)
 ·replace c4 := Bool.eq_false_iff.mpr c4; subst c4; rw [if_neg (show ¬ (false = true) by decide)] at H; simp only [Option.some.injEq, Prod.mk.injEq] at H; obtain ⟨rfl, rfl, rfl⟩ := H; go_enter Tryz.func45, Tryz.ntmps45
  go_wp2_with (first | (go_at_call 80; (with_reducible refine (impl_in.calls a1 0 (l0.length : Int) false _ A3.1).mono ?_); rintro e w' ⟨rfl, ⟨nd, rfl⟩⟩; (try first | exact ⟨rfl, _, World.drewN_drewN _ _ _⟩ | exact ⟨rfl, _, Eq.trans (World.drewN_drewN _ _ _) (congrArg (World.drewN _) (Nat.add_assoc _ _ _))⟩)))
  repeat (go_quiet (first | (go_at_call 80; (with_reducible refine (impl_in.calls a1 0 (l0.length : Int) false _ A3.1).mono ?_); rintro e w' ⟨rfl, ⟨nd, rfl⟩⟩; (try first | exact ⟨rfl, _, World.drewN_drewN _ _ _⟩ | exact ⟨rfl, _, Eq.trans (World.drewN_drewN _ _ _) (congrArg (World.drewN _) (Nat.add_assoc _ _ _))⟩))); try go_wp2_with (first | (go_at_call 80; (with_reducible refine (impl_in.calls a1 0 (l0.length : Int) false _ A3.1).mono ?_); rintro e w' ⟨rfl, ⟨nd, rfl⟩⟩; (try first | exact ⟨rfl, _, World.drewN_drewN _ _ _⟩ | exact ⟨rfl, _, Eq.trans (World.drewN_drewN _ _ _) (congrArg (World.drewN _) (Nat.add_assoc _ _ _))⟩))))
  go_ret3
  exact ⟨q8_, q1_⟩

def laws_at.f (l0 : List Int) (a1 : Int) : Option (Int) := if a1 < (l0.length : Int) then (if 0 ≤ a1 then (some (wrap64 (rd l0 a1))) else (none)) else (some (Int.tmod (wrap64 ((wrap64 (a1 * 31)) + (wrap64 ((l0.length : Int) * 7)))) 256))
theorem laws_at.calls (A0 : Option Addr) (c0 : Nat) (l0 : List Int) (a1 : Int) (r : Int) (w : World) (hr0 : Kd.C (Kd.int .u8) w A0 l0.length l0) (hc0 : l0.length ≤ c0) (h : laws_at.f l0 a1 = some r) :
  Calls Tryz.prog 46 #[.slice A0 l0.length c0, .int .i64 a1] w fun e w' => e = .returned (.int .i64 r) ∧ Drawn0 w w' := by
 have HR0 := aK hr0; have HC0 := aK hc0; clear hr0 hc0; have H := h; clear h; unfold laws_at.f at H
 by_cases c3 : a1 < (l0.length : Int)
 ·rw [if_pos c3] at H; have c3b0 := decide_eq_true c3; clear c3; by_cases c4 : 0 ≤ a1
  ·rw [if_pos c4] at H; have c4b0 := decide_eq_true c4; clear c4; obtain rfl := Option.some.inj H; have p408 : 0 ≤ (a1 : Int) := of_decide_eq_true q4_; have q408 : a1 < (l0.length : Int) := of_decide_eq_true q4_; obtain ⟨ad408, e408, hx408_0⟩ := Kd.at_int HR0.1 a1 p408 q408; cases e408
   replace p408 := eq_true p408; replace q408 := eq_true q408; go_enter Tryz.func46, Tryz.ntmps46
   go_wp2
   go_ret
   exact ⟨q3_, q10_⟩
  ·rw [if_neg c4] at H; exact absurd H (by simp)
 ·rw [if_neg c3] at H; have c3b0 := decide_eq_false c3; clear c3; obtain rfl := Option.some.inj H; go_enter Tryz.func46, Tryz.ntmps46
  go_wp2
  go_ret
  exact ⟨q3_, q10_⟩

def spec_PutChunks.f (k : Nat) (a0 : ByteArray) (l1 : List Int) : Option (List Int) := (spec_l4Text.f k a0 l1).bind fun t409 => (if t409.size < 140737488355328 then (some (bytesOf t409)) else (none))

theorem spec_PutChunks.calls (k : Nat) (a0 : ByteArray) (A1 : Option Addr) (c1 : Nat) (l1 : List Int) (r : List Int) (w : World) (hr1 : Kd.C (Kd.int .i64) w A1 l1.length l1) (hc1 : l1.length ≤ c1) (h : spec_PutChunks.f k a0 l1 = some r) :
  Calls Tryz.prog 83 #[.string a0, .slice A1 l1.length c1] w fun e w' => ∃ v0_ : Value, e = .returned (v0_) ∧ Kd.R (Kd.int .u8) 5 w' w.heap.size (fun _ => True) v0_ r ∧ Below w.heap.size w w' := by
 have HR1 := aK hr1; have HC1 := aK hc1; clear hr1 hc1; have HB := aK (Below.refl w.heap.size w); have H := h; clear h; unfold spec_PutChunks.f at H
 replace H := oB H; obtain ⟨t409, A3, H⟩ := H; (try dsimp only at H); by_cases c4 : t409.size < 140737488355328
 ·rw [if_pos c4] at H; have LMc4 := aK c4; clear c4; (first | (with_reducible replace H := oS H; obtain ⟨y410, Ny410, H⟩ := H) | (generalize hy_ : (bytesOf t409 : List Int) = y410 at H; have Ny410 := aK hy_.symm; clear hy_)); (try dsimp only at H); obtain rfl := Option.some.inj H; go_enter Tryz.func83, Tryz.ntmps83
  go_wp2_with (first | ((with_reducible refine gate_callee (f := 74) rfl ?_); refine goesL_ (some 7) rfl rfl Tryz.func74 (by kernel_rfl) rfl #[.string a0, .slice A1 l1.length c1] rfl q2_ ?_; (with_reducible refine (spec_l4Text.calls k a0 _ _ l1 t409 _ ?side1 ?side2 A3.1).mono ?_); (case side1 => exact q161_); (case side2 => exact HC1.1); rintro e w5 ⟨rfl, hb⟩; refine ⟨_, rfl, ?_⟩; replace HB := aK (below_step q1_ hb); clear hb) | ((with_reducible refine gate_ (.convert 9 22 _) rfl ?_); refine Kd.R_conv_str (w0 := w) w.heap.size rfl 9 22 5 _ rfl Tryz.underlying9 Tryz.underlying22 Tryz.underlying5 t409 (fun _ => True) rfl ?aF ?aO ?aB ?aS ?aL ?_; (case aB => exact q1_); (case aF => exact q120_); (case aO => exact q133_); (case aS => exact (below_size q1_)); (case aL => have := LMc4.1; omega); intro v411 w6 ho hb hg hat; rw [← Ny410.1] at ho; replace HB := aK (hb); have HO412 := aK (ho); clear ho hb hg hat))
  go_ret
  exact ⟨_, q8_, by (with_reducible repeat (first | apply rA_ | apply rN_ | apply rD_)); exact HO412.1, q1_⟩
 ·rw [if_neg c4] at H; exact absurd H (by simp)

end Go.Proofs.YtaajhdljdmbhhaaGreatDoor.GFnChunks
