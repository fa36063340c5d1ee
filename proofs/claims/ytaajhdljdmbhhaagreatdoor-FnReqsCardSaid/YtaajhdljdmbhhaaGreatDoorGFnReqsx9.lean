-- by gprint.py (this session's program over the kit's print.py) (a twelfth state) out of the translation. Not trusted: Lean checks it.
import Derived.Test.YtaajhdljdmbhhaaGreatDoorGFnReqsx0
import Derived.Test.YtaajhdljdmbhhaaGreatDoorGFnReqsx4
import Derived.Test.YtaajhdljdmbhhaaGreatDoorGFnReqsx8
namespace Go.Proofs.YtaajhdljdmbhhaaGreatDoor.GFnReqs
open Go.RowKit Go.Proofs.YtaajhdljdmbhhaaGreatDoorW.PrintWords Go.Proofs.YtaajhdljdmbhhaaGreatDoorW.PrintLast Go.Proofs.YtaajhdljdmbhhaaGreatDoorW.PrintMore
attribute [local go_sem] max2_int min2_int max_two min_two   -- for this text's walks alone
set_option linter.unusedVariables false
set_option linter.unusedSimpArgs false
set_option maxRecDepth 100000
set_option maxHeartbeats 8000000

mutual
def impl_GetChunks.l0 : Nat → List Int → ByteArray → ByteArray → Int → Option (ByteArray × Int × Int)
 | 0, _, _, _, _ => none
 | k + 1, x0, x8, x357000, x357001 => (impl_chunks_size.f k x357000 x357001).bind fun bt357 => (if bt357.2.2 = 0 then (if (wrap64 ((x8.size : Int) + bt357.1)) > 200 then (impl_GetChunks.j1 k x0 x8 bt357.1 bt357.2.1 413) else (if bt357.1 > (bt357.2.1.size : Int) then (impl_GetChunks.j1 k x0 x8 bt357.1 bt357.2.1 1) else (if 0 ≤ bt357.1 then (if bt357.1 ≤ (bt357.2.1.size : Int) then (if x8.size + (bt357.2.1.extract 0 (bt357.1 : Int).toNat).size ≤ 9223372036854775807 then ((impl_chunks_end.f k (bt357.2.1.extract (bt357.1 : Int).toNat bt357.2.1.size) bt357.2.2).bind fun bt360 => (impl_GetChunks.j1 k x0 (x8 ++ (bt357.2.1.extract 0 (bt357.1 : Int).toNat)) bt357.1 bt360.1 bt360.2)) else (none)) else (none)) else (none)))) else (impl_GetChunks.j1 k x0 x8 bt357.1 bt357.2.1 bt357.2.2))
def impl_GetChunks.j1 : Nat → List Int → ByteArray → Int → ByteArray → Int → Option (ByteArray × Int × Int)
 | 0, _, _, _, _, _ => none
 | k + 1, x0, x8, x9, x357000, x357001 => if x357001 = 0 then (if x9 = 0 then (some (x8, wrap64 ((x0.length : Int) - (x357000.size : Int)), 0)) else (impl_GetChunks.l0 k x0 x8 x357000 x357001)) else (some ((⟨#[]⟩ : BA), 0, x357001))
end
def impl_GetChunks.f (k : Nat) (l0 : List Int) (a1 : Int) : Option (ByteArray × Int × Int) := (impl_in.f a1 0 (l0.length : Int)).bind fun t354 => (if t354 = true then (if 0 ≤ a1 then (if a1 ≤ (l0.length : Int) then (impl_GetChunks.l0 k l0 (⟨#[]⟩ : BA) (strOfNums (l0.drop (a1 : Int).toNat)) 0) else (none)) else (none)) else (some ((⟨#[]⟩ : BA), 0, 400)))

theorem impl_GetChunks.calls (k : Nat) (A0 : Option Addr) (c0 : Nat) (l0 : List Int) (a1 : Int) (r1 : ByteArray) (r2 : Int) (r3 : Int) (w : World) (hr0 : Kd.C (Kd.int .u8) w A0 l0.length l0) (hc0 : l0.length ≤ c0) (h : impl_GetChunks.f k l0 a1 = some (r1, r2, r3)) (hG : GOK w) :
  Calls Tryz.prog 45 #[.slice A0 l0.length c0, .int .i64 a1] w fun e w' => e = .returned (.tuple #[.string r1, .int .i64 r2, .int .i64 r3]) ∧ Below w.heap.size w w' := by
 have hu96 := Tryz.underlying96; have HR0 := aK hr0; have HC0 := aK hc0; clear hr0 hc0; have HB := aK (Below.refl w.heap.size w); have H := h; clear h; unfold impl_GetChunks.f at H
 replace H := oB H; obtain ⟨t354, A3, H⟩ := H; (try dsimp only at H); by_cases c4 : t354 = true
 ·subst c4; rw [if_pos rfl] at H; by_cases c5 : 0 ≤ a1
  ·rw [if_pos c5] at H; have c5b0 := eq_true c5; have c5b1 := decide_eq_true c5; clear c5; by_cases c6 : a1 ≤ (l0.length : Int)
   ·rw [if_pos c6] at H; have c6b0 := eq_true c6; have c6b1 := decide_eq_true c6; clear c6; have H' := aK H; clear H; go_enter Tryz.func45, Tryz.ntmps45
    go_wp2_with (first | (go_at_call 80; (with_reducible refine (impl_in.calls a1 0 (l0.length : Int) true _ A3.1).mono ?_); rintro e w' ⟨rfl, ⟨nd, rfl⟩⟩; (try first | exact ⟨rfl, _, World.drewN_drewN _ _ _⟩ | exact ⟨rfl, _, Eq.trans (World.drewN_drewN _ _ _) (congrArg (World.drewN _) (Nat.add_assoc _ _ _))⟩); obtain ⟨i07, hi07, _, hsz7, _⟩ := info_parts info5; obtain ⟨A7, hcut7, hA7, hC7⟩ := print_drop_of (P := Tryz.prog) (Value.int .u8) 0 22 5 .i64 Tryz.underlying22 hi07 hsz7 A0 c0 l0 a1 (of_decide_eq_true q4_) (of_decide_eq_true q4_) HC0.1; have HR355 := aK (Kd.C_of_reads (h1 := fun _ => rfl) (hA7 _ (Kd.reads_of_C HR0.1))); have HC355 := aK hC7; clear hA7 hC7 hi07 hsz7; have hq_ := HR355.1; rw [show (l0.drop (a1 : Int).toNat).length = (l0.length - a1.toNat) from List.length_drop] at hq_; have hcv8 := Kd.C_string (P := Tryz.prog) (A := A7) (c := (c0 - a1.toNat)) Tryz.underlying22 Tryz.underlying5 Tryz.underlying9 hq_; have hcv9 := fun nq_ : Nat => Kd.C_string (P := Tryz.prog) (A := A7) (c := (c0 - a1.toNat)) Tryz.underlying22 Tryz.underlying5 Tryz.underlying9 (Kd.C_drewN hq_ nq_); clear hq_) | ((with_reducible refine gate_dst (N := 20) rfl ?_); refine box_event ?hg (N := 20) ?hd (cs := #[.string (strOfNums (l0.drop (a1 : Int).toNat)), .int .i64 0]) (t := 96) ?hr ?_; (case hd => rfl); (case hg => rfl); (case hr => exact q28_); intro gb356 hg w10 hbox hb; have HI356 := aK ((show IsS96 w w10 gb356 (strOfNums (l0.drop (a1 : Int).toNat)) 0 from ⟨hbox, (q39_ : w.heap.size ≤ gb356)⟩)); replace HB := aK (below_step q1_ hb); clear hb hbox hg))
    repeat (go_quiet (first | (go_at_call 80; (with_reducible refine (impl_in.calls a1 0 (l0.length : Int) true _ A3.1).mono ?_); rintro e w' ⟨rfl, ⟨nd, rfl⟩⟩; (try first | exact ⟨rfl, _, World.drewN_drewN _ _ _⟩ | exact ⟨rfl, _, Eq.trans (World.drewN_drewN _ _ _) (congrArg (World.drewN _) (Nat.add_assoc _ _ _))⟩); obtain ⟨i07, hi07, _, hsz7, _⟩ := info_parts info5; obtain ⟨A7, hcut7, hA7, hC7⟩ := print_drop_of (P := Tryz.prog) (Value.int .u8) 0 22 5 .i64 Tryz.underlying22 hi07 hsz7 A0 c0 l0 a1 (of_decide_eq_true q4_) (of_decide_eq_true q4_) HC0.1; have HR355 := aK (Kd.C_of_reads (h1 := fun _ => rfl) (hA7 _ (Kd.reads_of_C HR0.1))); have HC355 := aK hC7; clear hA7 hC7 hi07 hsz7; have hq_ := HR355.1; rw [show (l0.drop (a1 : Int).toNat).length = (l0.length - a1.toNat) from List.length_drop] at hq_; have hcv8 := Kd.C_string (P := Tryz.prog) (A := A7) (c := (c0 - a1.toNat)) Tryz.underlying22 Tryz.underlying5 Tryz.underlying9 hq_; have hcv9 := fun nq_ : Nat => Kd.C_string (P := Tryz.prog) (A := A7) (c := (c0 - a1.toNat)) Tryz.underlying22 Tryz.underlying5 Tryz.underlying9 (Kd.C_drewN hq_ nq_); clear hq_) | ((with_reducible refine gate_dst (N := 20) rfl ?_); refine box_event ?hg (N := 20) ?hd (cs := #[.string (strOfNums (l0.drop (a1 : Int).toNat)), .int .i64 0]) (t := 96) ?hr ?_; (case hd => rfl); (case hg => rfl); (case hr => exact q28_); intro gb356 hg w10 hbox hb; have HI356 := aK ((show IsS96 w w10 gb356 (strOfNums (l0.drop (a1 : Int).toNat)) 0 from ⟨hbox, (q39_ : w.heap.size ≤ gb356)⟩)); replace HB := aK (below_step q1_ hb); clear hb hbox hg)); try go_wp2_with (first | (go_at_call 80; (with_reducible refine (impl_in.calls a1 0 (l0.length : Int) true _ A3.1).mono ?_); rintro e w' ⟨rfl, ⟨nd, rfl⟩⟩; (try first | exact ⟨rfl, _, World.drewN_drewN _ _ _⟩ | exact ⟨rfl, _, Eq.trans (World.drewN_drewN _ _ _) (congrArg (World.drewN _) (Nat.add_assoc _ _ _))⟩); obtain ⟨i07, hi07, _, hsz7, _⟩ := info_parts info5; obtain ⟨A7, hcut7, hA7, hC7⟩ := print_drop_of (P := Tryz.prog) (Value.int .u8) 0 22 5 .i64 Tryz.underlying22 hi07 hsz7 A0 c0 l0 a1 (of_decide_eq_true q4_) (of_decide_eq_true q4_) HC0.1; have HR355 := aK (Kd.C_of_reads (h1 := fun _ => rfl) (hA7 _ (Kd.reads_of_C HR0.1))); have HC355 := aK hC7; clear hA7 hC7 hi07 hsz7; have hq_ := HR355.1; rw [show (l0.drop (a1 : Int).toNat).length = (l0.length - a1.toNat) from List.length_drop] at hq_; have hcv8 := Kd.C_string (P := Tryz.prog) (A := A7) (c := (c0 - a1.toNat)) Tryz.underlying22 Tryz.underlying5 Tryz.underlying9 hq_; have hcv9 := fun nq_ : Nat => Kd.C_string (P := Tryz.prog) (A := A7) (c := (c0 - a1.toNat)) Tryz.underlying22 Tryz.underlying5 Tryz.underlying9 (Kd.C_drewN hq_ nq_); clear hq_) | ((with_reducible refine gate_dst (N := 20) rfl ?_); refine box_event ?hg (N := 20) ?hd (cs := #[.string (strOfNums (l0.drop (a1 : Int).toNat)), .int .i64 0]) (t := 96) ?hr ?_; (case hd => rfl); (case hg => rfl); (case hr => exact q28_); intro gb356 hg w10 hbox hb; have HI356 := aK ((show IsS96 w w10 gb356 (strOfNums (l0.drop (a1 : Int).toNat)) 0 from ⟨hbox, (q39_ : w.heap.size ≤ gb356)⟩)); replace HB := aK (below_step q1_ hb); clear hb hbox hg)))
    go_loopg [8] k (fun kq v8 w' => ∃ (x8_1 : ByteArray) (x357000_1 : ByteArray) (x357001_1 : Int), v8 = .string x8_1 ∧ Aside0 (impl_GetChunks.l0 kq l0 x8_1 x357000_1 x357001_1 = some (r1, r2, r3)) ∧ Aside0 (kq ≤ k) ∧ Aside0 (IsS96 w w' gb356 x357000_1 x357001_1) ∧ Aside0 (Below w.heap.size w w'))
    case atStart => exact ⟨((⟨#[]⟩ : BA)), (strOfNums (l0.drop (a1 : Int).toNat)), (0), q3_, H', ⟨Nat.le_refl _⟩, ⟨q40_⟩, ⟨q35_⟩⟩
    case round =>
     clear H'; (try clear p2); (try clear c4); (try clear c5); (try clear c5b0); (try clear c5b1); (try clear c6); (try clear c6b0); (try clear c6b1); (try clear hcv8); (try clear hcv9); obtain ⟨x8_1, x357000_1, x357001_1, rfl, HA, HK1, HI356, HB⟩ := hrel; cases gk with
     | zero => exact absurd HA.1 (by simp [impl_GetChunks.l0])
     | succ k1 =>
      have H := HA.1; clear HA; simp only [impl_GetChunks.l0] at H; replace H := oB H; obtain ⟨⟨t357, t358, t359⟩, A11, H⟩ := H; (try dsimp only at H); have HC12 := aK H; clear H; go_upto_block 2 with (first | (go_at_call 81; (with_reducible refine (impl_chunks_size.calls k1 gb356 x357000_1 x357001_1 t357 t358 t359 w _ ?side1 ?side2 A11.1 ?side99).mono ?_); (case side1 => exact q40_); (case side2 => exact q35_); (case side99 => exact q26_); rintro e w13 ⟨rfl, hi, hb, hk⟩; replace HB := aK (hb); replace HI356 := aK (hi); clear hb hk hi))
      repeat (go_quiet (first | (go_at_call 81; (with_reducible refine (impl_chunks_size.calls k1 gb356 x357000_1 x357001_1 t357 t358 t359 w _ ?side1 ?side2 A11.1 ?side99).mono ?_); (case side1 => exact q40_); (case side2 => exact q35_); (case side99 => exact q26_); rintro e w13 ⟨rfl, hi, hb, hk⟩; replace HB := aK (hb); replace HI356 := aK (hi); clear hb hk hi)); go_upto_block 2 with (first | (go_at_call 81; (with_reducible refine (impl_chunks_size.calls k1 gb356 x357000_1 x357001_1 t357 t358 t359 w _ ?side1 ?side2 A11.1 ?side99).mono ?_); (case side1 => exact q40_); (case side2 => exact q35_); (case side99 => exact q26_); rintro e w13 ⟨rfl, hi, hb, hk⟩; replace HB := aK (hb); replace HI356 := aK (hi); clear hb hk hi)))
      (try simp only [Act.put, sI, sZ, sS]); go_cut [8] (fun v8 wc => ∃ (kq : Nat) (x8_11 : ByteArray) (x357000_11 : ByteArray) (x357001_11 : Int), v8 = .string x8_11 ∧ Aside0 (impl_GetChunks.j1 kq l0 x8_11 t357 x357000_11 x357001_11 = some (r1, r2, r3)) ∧ Aside0 (kq ≤ k1) ∧ Aside0 (IsS96 w wc gb356 x357000_11 x357001_11) ∧ Aside0 (Below w.heap.size w wc))
      case first =>
       have H := HC12.1; clear HC12; by_cases c14 : t359 = 0
       ·rw [if_pos c14] at H; have c14b0 := beq_iff_eq.mpr c14; have c14b1 : (t359 != 0) = false := bne_eq_false_iff_eq.mpr c14; clear c14; (first | rw [c14b0] | rw [c14i0] | (simp only [i64_w, i32_w]; rw [c14b0]) | skip); by_cases c15 : (wrap64 ((x8_1.size : Int) + t357)) > 200
        ·rw [if_pos c15] at H; have c15b0 : decide (200 < (wrap64 ((x8_1.size : Int) + t357))) = true := decide_eq_true c15; clear c15; have H' := aK H; clear H; obtain ⟨HGz16, hgz16⟩ := HI356.1; have hcz16 := cel2 HGz16; clear HGz16 hgz16; go_wp2
         repeat (go_quiet (fail); try go_wp2)
         go_meet
         case rel => exact ⟨_, (x8_1), (t358), (413), q3_, H', ⟨q66_⟩, ⟨q40_⟩, ⟨q35_⟩⟩
        ·rw [if_neg c15] at H; have c15b0 : decide (200 < (wrap64 ((x8_1.size : Int) + t357))) = false := decide_eq_false c15; clear c15; by_cases c17 : t357 > (t358.size : Int)
         ·rw [if_pos c17] at H; have c17b0 : decide ((t358.size : Int) < t357) = true := decide_eq_true c17; clear c17; have H' := aK H; clear H; obtain ⟨HGz18, hgz18⟩ := HI356.1; have hcz18 := cel2 HGz18; clear HGz18 hgz18; go_wp2
          repeat (go_quiet (fail); try go_wp2)
          go_meet
          case rel => exact ⟨_, (x8_1), (t358), (1), q3_, H', ⟨q66_⟩, ⟨q40_⟩, ⟨q35_⟩⟩
         ·rw [if_neg c17] at H; have c17b0 : decide ((t358.size : Int) < t357) = false := decide_eq_false c17; clear c17; by_cases c19 : 0 ≤ t357
          ·rw [if_pos c19] at H; have c19b0 := eq_true c19; have c19b1 := decide_eq_true c19; clear c19; by_cases c20 : t357 ≤ (t358.size : Int)
           ·rw [if_pos c20] at H; have c20b0 := eq_true c20; have c20b1 := decide_eq_true c20; clear c20; by_cases c21 : x8_1.size + (t358.extract 0 (t357 : Int).toNat).size ≤ 9223372036854775807
            ·rw [if_pos c21] at H; have c21b0 := eq_true c21; have c21b1 := decide_eq_true c21; try have c21b2 : (9223372036854775807 < x8_1.size + (t358.extract 0 (t357 : Int).toNat).size) = False := eq_false (Nat.not_lt.2 c21)
             have c22b0 := eq_true (of_decide_eq_true q4_ : 0 ≤ t357); have c23b0 := eq_true (of_decide_eq_true q4_ : t357 ≤ (t358.size : Int)); replace H := oB H; obtain ⟨⟨t360, t361⟩, A24, H⟩ := H; (try dsimp only at H); have H' := aK H; clear H; obtain ⟨HGz25, hgz25⟩ := HI356.1; have hcz25 := cel2 HGz25; clear HGz25 hgz25; go_wp2_with (first | (go_at_call 82; (with_reducible refine (impl_chunks_end.calls k1 gb356 (t358.extract (t357 : Int).toNat t358.size) t359 t360 t361 w _ ?side1 ?side2 A24.1).mono ?_); (case side1 => exact q40_); (case side2 => exact q35_); rintro e w26 ⟨rfl, hi, hb, hk⟩; replace HB := aK (hb); replace HI356 := aK (hi); clear hb hk hi))
             repeat (go_quiet (first | (go_at_call 82; (with_reducible refine (impl_chunks_end.calls k1 gb356 (t358.extract (t357 : Int).toNat t358.size) t359 t360 t361 w _ ?side1 ?side2 A24.1).mono ?_); (case side1 => exact q40_); (case side2 => exact q35_); rintro e w26 ⟨rfl, hi, hb, hk⟩; replace HB := aK (hb); replace HI356 := aK (hi); clear hb hk hi)); try go_wp2_with (first | (go_at_call 82; (with_reducible refine (impl_chunks_end.calls k1 gb356 (t358.extract (t357 : Int).toNat t358.size) t359 t360 t361 w _ ?side1 ?side2 A24.1).mono ?_); (case side1 => exact q40_); (case side2 => exact q35_); rintro e w26 ⟨rfl, hi, hb, hk⟩; replace HB := aK (hb); replace HI356 := aK (hi); clear hb hk hi)))
             go_meet
             case rel => exact ⟨_, (x8_1 ++ (t358.extract 0 (t357 : Int).toNat)), (t360), (t361), q3_, H', ⟨q66_⟩, ⟨q40_⟩, ⟨q35_⟩⟩
            ·rw [if_neg c21] at H; exact absurd H (by simp)
           ·rw [if_neg c20] at H; exact absurd H (by simp)
          ·rw [if_neg c19] at H; exact absurd H (by simp)
       ·rw [if_neg c14] at H; have c14b0 := beq_eq_false_iff_ne.mpr c14; have c14b1 : (t359 != 0) = true := bne_iff_ne.mpr c14; (first | rw [c14b0] | rw [c14i0] | (simp only [i64_w, i32_w]; rw [c14b0]) | skip); have H' := aK H; clear H; obtain ⟨HGz27, hgz27⟩ := HI356.1; have hcz27 := cel2 HGz27; clear HGz27 hgz27; go_wp2
        repeat (go_quiet (fail); try go_wp2)
        go_meet
        case rel => exact ⟨_, (x8_1), (t358), (t359), q3_, H', ⟨q66_⟩, ⟨q40_⟩, ⟨q35_⟩⟩
      case rest =>
       clear HC12; (try clear c1); (try clear c2); (try clear p2); (try clear c4); (try clear c5); (try clear c5b0); (try clear c5b1); (try clear c6); (try clear c6b0); (try clear c6b1); (try clear p6); (try clear hcv8); (try clear hcv9); (try clear c14); (try clear c14b0); (try clear c14b1); (try clear c15); (try clear c15b0); (try clear c17); (try clear c17b0); (try clear c19); (try clear c19b0); (try clear c19b1); (try clear c20); (try clear c20b0); (try clear c20b1); (try clear c21); (try clear c21b0); (try clear c21b1); (try clear c21b2); (try clear c22); (try clear c22b0); (try clear c23); (try clear c23b0); (try clear hcz16); (try clear hcz18); (try clear hcz25); (try clear hcz27); (try clear hcz16); (try clear hcz18); (try clear hcz25); (try clear hcz27); (try clear p2); obtain ⟨kq, x8_11, x357000_11, x357001_11, rfl, HA, HJ11, HI356, HB⟩ := hcut; cases kq with
       | zero => exact absurd HA.1 (by simp [impl_GetChunks.j1])
       | succ kj11 =>
        have H := HA.1; clear HA; simp only [impl_GetChunks.j1] at H; by_cases c28 : x357001_11 = 0
        ·rw [if_pos c28] at H; have c28b0 := beq_iff_eq.mpr c28; have c28b1 : (x357001_11 != 0) = false := bne_eq_false_iff_eq.mpr c28; clear c28; by_cases c29 : t357 = 0
         ·rw [if_pos c29] at H; have c29b0 := beq_iff_eq.mpr c29; have c29b1 : (t357 != 0) = false := bne_eq_false_iff_eq.mpr c29; clear c29; simp only [Option.some.injEq, Prod.mk.injEq] at H; obtain ⟨rfl, rfl, rfl⟩ := H; obtain ⟨HGz30, hgz30⟩ := HI356.1; have hcz30 := cel2 HGz30; clear HGz30 hgz30; go_wp2
          repeat (go_quiet (fail); try go_wp2)
          go_ret3
          exact ⟨q8_, q35_⟩
         ·rw [if_neg c29] at H; have c29b0 := beq_eq_false_iff_ne.mpr c29; have c29b1 : (t357 != 0) = true := bne_iff_ne.mpr c29; have H' := aK H; clear H; obtain ⟨HGz31, hgz31⟩ := HI356.1; have hcz31 := cel2 HGz31; clear HGz31 hgz31; go_wp2
          repeat (go_quiet (fail); try go_wp2)
          go_roundg kj11
          case measure => have := HK1.1; have := HJ11.1; omega
          case rel => exact ⟨(x8_11), (x357000_11), (x357001_11), q3_, H', ⟨by have := HK1.1; have := HJ11.1; omega⟩, ⟨q40_⟩, ⟨q35_⟩⟩
        ·rw [if_neg c28] at H; have c28b0 := beq_eq_false_iff_ne.mpr c28; have c28b1 : (x357001_11 != 0) = true := bne_iff_ne.mpr c28; simp only [Option.some.injEq, Prod.mk.injEq] at H; obtain ⟨rfl, rfl, rfl⟩ := H; obtain ⟨HGz32, hgz32⟩ := HI356.1; have hcz32 := cel2 HGz32; clear HGz32 hgz32; go_wp2
         repeat (go_quiet (fail); try go_wp2)
         go_ret3
         exact ⟨q8_, q35_⟩
   ·rw [if_neg c6] at H; exact absurd H (by simp)
  ·rw [if_neg c5] at H; exact absurd H (by simp)
 ·replace c4 := Bool.eq_false_iff.mpr c4; subst c4; rw [if_neg (show ¬ (false = true) by decide)] at H; simp only [Option.some.injEq, Prod.mk.injEq] at H; obtain ⟨rfl, rfl, rfl⟩ := H; go_enter Tryz.func45, Tryz.ntmps45
  go_wp2_with (first | (go_at_call 80; (with_reducible refine (impl_in.calls a1 0 (l0.length : Int) false _ A3.1).mono ?_); rintro e w' ⟨rfl, ⟨nd, rfl⟩⟩; (try first | exact ⟨rfl, _, World.drewN_drewN _ _ _⟩ | exact ⟨rfl, _, Eq.trans (World.drewN_drewN _ _ _) (congrArg (World.drewN _) (Nat.add_assoc _ _ _))⟩)))
  repeat (go_quiet (first | (go_at_call 80; (with_reducible refine (impl_in.calls a1 0 (l0.length : Int) false _ A3.1).mono ?_); rintro e w' ⟨rfl, ⟨nd, rfl⟩⟩; (try first | exact ⟨rfl, _, World.drewN_drewN _ _ _⟩ | exact ⟨rfl, _, Eq.trans (World.drewN_drewN _ _ _) (congrArg (World.drewN _) (Nat.add_assoc _ _ _))⟩))); try go_wp2_with (first | (go_at_call 80; (with_reducible refine (impl_in.calls a1 0 (l0.length : Int) false _ A3.1).mono ?_); rintro e w' ⟨rfl, ⟨nd, rfl⟩⟩; (try first | exact ⟨rfl, _, World.drewN_drewN _ _ _⟩ | exact ⟨rfl, _, Eq.trans (World.drewN_drewN _ _ _) (congrArg (World.drewN _) (Nat.add_assoc _ _ _))⟩))))
  go_ret3
  exact ⟨q8_, q1_⟩


def strings_Split.f (a0 : ByteArray) (a1 : ByteArray) : Option (List ByteArray) := if a0.size < 4294967281 ∧ 1 ≤ a1.size then some (Go.Lib.splitB a1 0 (Go.Lib.countB a0 a1) a0) else none
theorem strings_Split.calls (a0 : ByteArray) (a1 : ByteArray) (r : List ByteArray) (w : World) (h : strings_Split.f a0 a1 = some r) (hG : GOK w) :
  Calls Tryz.prog 106 #[.string a0, .string a1] w fun e w' => ∃ v0_ : Value, e = .returned (v0_) ∧ Kd.R Kd.string 9 w' w.heap.size (fun _ => True) v0_ r ∧ Below w.heap.size w w' := by
 unfold strings_Split.f at h
 split at h
 ·rename_i hs
  obtain rfl := Option.some.inj h; obtain ⟨m, hm⟩ := hG.maxlen; have hl := Go.Lib.splitB_all a1 hs.2 0 _ a0 rfl; have hc := Go.Lib.countB_le a1 hs.2 a0.size a0 (Nat.le_refl _); refine (Go.Proofs.YtaajhdljdmbhhaaGreatDoor.Shelf.Tryz.strings_Split a0 a1 m w hs.1 hm hs.2).mono fun e w' ⟨he, hw⟩ => ⟨_, he, ?_, by subst hw; exact aB_ (Below.refl _ _) _⟩
  subst hw; refine Kd.R_of_own (enc := Value.string) (h1 := fun _ => rfl) ?_ (fun _ _ => trivial); refine ⟨by simp [encs], .inr ⟨w.heap.size, _, _, by rw [hl], Nat.le_refl _, (by first | exact blk_new w _ | exact HasRow.of (blk_new w _)), by rw [hl]; exact Nat.le_refl _, by unfold maxLen; omega, by simp [hl], ?_⟩⟩; rw [Nat.mul_one, List.take_of_length_le (by simp)]; simp [encs]
 ·cases h

def impl_Lower.l0 : Nat → List Int → Int → Int → Option (ByteArray)
 | 0, _, _, _ => none
 | k + 1, x3, x9, x10 => if x10 < x9 then (if 0 ≤ x10 then (if x10 < (x3.length : Int) then ((impl_isLarge.f (rd x3 x10)).bind fun t366 => (if t366 = true then (impl_Lower.l0 k (x3.set (x10 : Int).toNat (((rd x3 x10) + 32) % 256)) x9 (wrap64 (x10 + 1))) else (impl_Lower.l0 k x3 x9 (wrap64 (x10 + 1))))) else (none)) else (none)) else (some (strOfNums x3))
def impl_Lower.f (k : Nat) (a0 : ByteArray) : Option (ByteArray) := if a0.size < 140737488355328 then ((some (bytesOf a0 : List Int)).bind fun y362 => (impl_Lower.l0 k y362 (y362.length : Int) 0)) else (none)

theorem impl_Lower.calls (k : Nat) (a0 : ByteArray) (r : ByteArray) (w : World) (h : impl_Lower.f k a0 = some r) :
  Calls Tryz.prog 108 #[.string a0] w fun e w' => e = .returned (.string r) ∧ Below w.heap.size w w' := by
 have HB := aK (Below.refl w.heap.size w); have H := h; clear h; unfold impl_Lower.f at H
 by_cases c2 : a0.size < 140737488355328
 ·rw [if_pos c2] at H; have LMc2 := aK c2; clear c2; (first | (with_reducible replace H := oS H; obtain ⟨y362, Ny362, H⟩ := H) | (generalize hy_ : (bytesOf a0 : List Int) = y362 at H; have Ny362 := aK hy_.symm; clear hy_)); (try dsimp only at H); have H' := aK H; clear H; go_enter Tryz.func108, Tryz.ntmps108
  go_wp2_with (first | ((with_reducible refine gate_ (.convert 9 22 _) rfl ?_); refine Kd.R_conv_str (w0 := w) w.heap.size rfl 9 22 5 _ rfl Tryz.underlying9 Tryz.underlying22 Tryz.underlying5 a0 (fun _ => True) rfl ?aF ?aO ?aB ?aS ?aL ?_; (case aB => exact q1_); (case aF => exact q114_); (case aO => exact q148_); (case aS => exact (below_size q1_)); (case aL => have := LMc2.1; omega); intro v363 w3 ho hb hg hat; rw [← Ny362.1] at ho; replace HB := aK (hb); have HO364 := aK (ho); clear ho hb hg hat; obtain ⟨Ao4, co4, eo4⟩ := Kd.R_slice HO364.1; subst eo4))
  go_loopg [10] k (fun kq v10 w' => ∃ (x3_1 : List Int) (x10_1 : Int), v10 = .int .i64 x10_1 ∧ Aside0 (impl_Lower.l0 kq x3_1 (y362.length : Int) x10_1 = some r) ∧ Aside0 (kq ≤ k) ∧ Aside0 (Kd.R (Kd.int .u8) 5 w' w.heap.size (fun _ => True) (.slice Ao4 y362.length co4) x3_1) ∧ Aside0 (Below w.heap.size w w'))
  case atStart => exact ⟨(y362), (0), q3_, H', ⟨Nat.le_refl _⟩, ⟨by (with_reducible repeat (first | apply rA_ | apply rN_ | apply rD_)); first | exact HO364.1 | exact Kd.R_mono HO364.1 (fun k_ h_ e_ => h_ (e_.trans (ob_len _ _ _ _ _)))⟩, ⟨q1_⟩⟩
  case round =>
   clear H'; (try clear c1); (try clear c2); (try clear p2); obtain ⟨x3_1, x10_1, rfl, HA, HK1, HO_3, HB⟩ := hrel; have hl3_1 := (Kd.R_reads' HO_3.1).1; rw [hl3_1] at HO_3; (try simp only [hl3_1]); cases gk with
   | zero => exact absurd HA.1 (by simp [impl_Lower.l0])
   | succ k1 =>
    have H := HA.1; clear HA; simp only [impl_Lower.l0] at H; by_cases c5 : x10_1 < (y362.length : Int)
    ·rw [if_pos c5] at H; have c5b0 := decide_eq_true c5; (try simp only [hl3_1] at c5b0); clear c5; by_cases c6 : 0 ≤ x10_1
     ·rw [if_pos c6] at H; have c6b0 := decide_eq_true c6; clear c6; by_cases c7 : x10_1 < (x3_1.length : Int)
      ·rw [if_pos c7] at H; have c7b0 := decide_eq_true c7; (try simp only [hl3_1] at c7b0); clear c7; replace H := oB H; obtain ⟨t366, A8, H⟩ := H; (try dsimp only at H); by_cases c9 : t366 = true
       ·subst c9; rw [if_pos rfl] at H; (first | (with_reducible replace H := oS H; obtain ⟨y367, Ny367, H⟩ := H) | (generalize hy_ : (x3_1.set (x10_1 : Int).toNat (((rd x3_1 x10_1) + 32) % 256) : List Int) = y367 at H; have Ny367 := aK hy_.symm; clear hy_)); (try dsimp only at H); have H' := aK H; clear H; have p365 : 0 ≤ (x10_1 : Int) := of_decide_eq_true q4_; have q365 : x10_1 < (x3_1.length : Int) := of_decide_eq_true q4_; obtain ⟨ad365, e365, hx365_0⟩ := Kd.at_int (Kd.R_reads' HO_3.1).2.2 x10_1 p365 q365; cases e365
        replace p365 := eq_true p365; replace q365 := eq_true q365; go_wp2_with (first | ((with_reducible refine gate_callee (f := 113) rfl ?_); refine goesL_ (some 16) rfl rfl Tryz.func113 (by kernel_rfl) rfl #[.int .u8 (rd x3_1 x10_1)] rfl q2_ ?_; (with_reducible refine (impl_isLarge.calls (rd x3_1 x10_1) true _ A8.1).mono ?_); rintro e w' ⟨rfl, ⟨nd, rfl⟩⟩; refine ⟨_, rfl, ?_⟩; (try (rw [drewN_self wr]; generalize hq_ : World.drewN wr _ = wr; replace HO_3 : Aside0 (Kd.R (Kd.int .u8) 5 wr w.heap.size (fun _ => True) (.slice (some ad365) x3_1.length co4) x3_1) := ⟨by rw [← hq_]; exact q48_⟩; replace HB : Aside0 (Below w.heap.size w wr) := ⟨by rw [← hq_]; exact q1_⟩; clear hq_)); have p10 : 0 ≤ (x10_1 : Int) := of_decide_eq_true q4_; have q10 : (x10_1 : Int) < ((x3_1.length : Int) : Int) := of_decide_eq_true q4_; obtain ⟨go10, co10, eo10, gb10, gl10, cl10, HG10⟩ := Kd.R_form HO_3.1 (by omega); (first | cases eo10 | (injection eo10 with ea_ en_ ec_; (first | subst ea_ | (injection ea_ with ea_; subst ea_)); subst ec_; clear en_)); have GB10 := aK gb10; have GG10 := aK HG10; clear gb10 gl10 HG10; (first | simp only [add_plain] at hx365_0 | skip); obtain ⟨hx10_0, hf10_0⟩ := Kd.R_celln 0 HO_3.1 (x10_1 : Int) p10 q10; replace p10 := eq_true p10; replace q10 := eq_true q10; obtain ⟨hy11_, hz11_⟩ := Kd.R_celln 0 HO_3.1 (x10_1 : Int) (of_decide_eq_true q4_) (of_decide_eq_true q4_); have HP11 := Kd.R_putg HO_3.1 (x10_1 : Int) (((rd x3_1 x10_1) + 32) % 256)) | ((with_reducible refine gate_store (t := 5) (p := 21) rfl ?_); refine store_event (t := 5) (p := 21) (v := ?vo_w12) (w1 := (wr.setCell ⟨go10, (x10_1 : Int).toNat, none⟩ (.int .u8 (((rd x3_1 x10_1) + 32) % 256)))) ?hg ?ho ?hn ?hr ?_; (case ho => rfl); (case hg => rfl); (case hn => rfl); (case hr => exact q28_); intro w12 hw; have hg : wr.grownBy w12 (some go10) := (by rw [hw]; exact HP11.2); have hp_ : Kd.R (Kd.int .u8) 5 w12 w.heap.size (fun _ => True) (.slice (some ⟨go10, 0, none⟩) x3_1.length co4) y367 := (by rw [hw, Ny367.1]; exact HP11.1); clear HP11; replace HO_3 := aK (hp_); replace HB := aK ((by rw [hw]; exact sB_ (HB.1) GB10.1 : Below w.heap.size w w12)); clear hg hw hp_))
        (try simp only [← hl3_1]); go_roundg k1
        case measure => have := HK1.1; omega
        case rel => exact ⟨(y367), (wrap64 (x10_1 + 1)), q3_, H', ⟨q83_⟩, ⟨q149_⟩, ⟨q1_⟩⟩
       ·replace c9 := Bool.eq_false_iff.mpr c9; subst c9; rw [if_neg (show ¬ (false = true) by decide)] at H; have H' := aK H; clear H; have p365 : 0 ≤ (x10_1 : Int) := of_decide_eq_true q4_; have q365 : x10_1 < (x3_1.length : Int) := of_decide_eq_true q4_; obtain ⟨ad365, e365, hx365_0⟩ := Kd.at_int (Kd.R_reads' HO_3.1).2.2 x10_1 p365 q365; cases e365
        replace p365 := eq_true p365; replace q365 := eq_true q365; go_wp2_with (first | ((with_reducible refine gate_callee (f := 113) rfl ?_); refine goesL_ (some 16) rfl rfl Tryz.func113 (by kernel_rfl) rfl #[.int .u8 (rd x3_1 x10_1)] rfl q2_ ?_; (with_reducible refine (impl_isLarge.calls (rd x3_1 x10_1) false _ A8.1).mono ?_); rintro e w' ⟨rfl, ⟨nd, rfl⟩⟩; refine ⟨_, rfl, ?_⟩))
        (try simp only [← hl3_1]); go_roundg k1
        case measure => have := HK1.1; omega
        case rel => exact ⟨(x3_1), (wrap64 (x10_1 + 1)), q3_, H', ⟨q83_⟩, ⟨q149_⟩, ⟨q1_⟩⟩
      ·rw [if_neg c7] at H; exact absurd H (by simp)
     ·rw [if_neg c6] at H; exact absurd H (by simp)
    ·rw [if_neg c5] at H; have c5b0 := decide_eq_false c5; (try simp only [hl3_1] at c5b0); clear c5; obtain rfl := Option.some.inj H; have hcv13 := own_string (P := Tryz.prog) Tryz.underlying22 Tryz.underlying5 Tryz.underlying9 (Kd.own_of_R HO_3.1); go_wp2
     go_ret
     exact ⟨q8_, q1_⟩
 ·rw [if_neg c2] at H; exact absurd H (by simp)


/-- what strconv.Atoi hands back: a number and no error, or an error -/
theorem impl_ParseNum.atoi (s : ByteArray) (hs : s.size ≤ 281474976710656) (w : World) (hG : GOK w) :
  Calls Tryz.prog 177 #[.string s] w fun e w' => (∃ z x, e = .returned (.tuple #[.int .i64 z, x]) ∧ ((Go.Lib.atoiAll s.data.toList = .ok z ∧ x = .nilIface) ∨ ((∀ v, Go.Lib.atoiAll s.data.toList ≠ .ok v) ∧ ∃ N, x = .iface 185 (.pointer (some ⟨N, 0, none⟩))))) ∧ Below w.heap.size w w' := by
 cases hat : Go.Lib.atoiAll s.data.toList with
 | ok v =>
  refine (Go.Proofs.YtaajhdljdmbhhaaGreatDoor.Shelf.Tryz.strconv_Atoi_ok s (by omega) v hat w).mono ?_; rintro e w' ⟨rfl, hw⟩; refine ⟨⟨v, _, rfl, .inl ⟨rfl, rfl⟩⟩, ?_⟩; rcases hw with rfl | ⟨t, rfl⟩
  ·exact Below.refl _ _
  ·exact Go.Lib.bytesWorld_below _ _ _
 | range =>
  obtain ⟨tp, p, hv⟩ := hG.errr; refine (Go.Proofs.Any.strconv_Atoi_range_var Go.Proofs.YtaajhdljdmbhhaaGreatDoor.Shelf.Tryz.laysC172 s hs hat tp p w hv).mono ?_; rintro e w' ⟨N, rfl, _, _, hb⟩; exact ⟨⟨_, _, rfl, .inr ⟨fun v h => (by cases h), N, rfl⟩⟩, hb⟩
 | _ =>
  obtain ⟨tp, p, hv⟩ := hG.errs; refine (Go.Proofs.Any.strconv_Atoi_syntax_var Go.Proofs.YtaajhdljdmbhhaaGreatDoor.Shelf.Tryz.laysC172 s hs hat tp p w hv).mono ?_; rintro e w' ⟨N, rfl, _, _, hb⟩; exact ⟨⟨_, _, rfl, .inr ⟨fun v h => (by cases h), N, rfl⟩⟩, hb⟩
def impl_ParseNum.f (a0 : ByteArray) (a1 : Int) : Option (Int × Bool) :=
 if a0.size ≤ 281474976710656 then
  match Go.Lib.atoiAll a0.data.toList with
  | .ok v => if v < 0 then some (0, false) else if a1 < v then some (0, false) else if 7 < a0.size then some (0, false) else (impl_NumText.f v).bind fun t => if t.toList = a0.toList then some (v, true) else some (0, false)
  | _ => some (0, false)
 else none
theorem impl_ParseNum.calls (a0 : ByteArray) (a1 : Int) (r1 : Int) (r2 : Bool) (w : World) (h : impl_ParseNum.f a0 a1 = some (r1, r2)) (hG : GOK w) :
  Calls Tryz.prog 158 #[.string a0, .int .i64 a1] w fun e w' => e = .returned (.tuple #[.int .i64 r1, .bool r2]) ∧ Below w.heap.size w w' := by
 unfold impl_ParseNum.f at h
 split at h
 ·rename_i hs
  have hA := impl_ParseNum.atoi a0 hs w hG; go_enter Tryz.func158, Tryz.ntmps158
  go_wp2_with (go_at_call 177; refine hA.mono ?_)
  rintro e w1 ⟨⟨z, x, rfl, hx⟩, HB⟩; rcases hx with ⟨hat, rfl⟩ | ⟨hno, N, rfl⟩
  ·rw [hat] at h; simp only [] at h; clear hA hat; by_cases c1 : z < 0
   ·rw [if_pos c1] at h; have c1b := decide_eq_true c1; clear c1; obtain ⟨rfl, rfl⟩ := Prod.mk.inj (Option.some.inj h); go_wp2
    go_ret2
    exact ⟨rfl, HB⟩
   rw [if_neg c1] at h; have c1b := decide_eq_false c1; by_cases c2 : a1 < z
   ·rw [if_pos c2] at h; have c2b := decide_eq_true c2; clear c1 c2; obtain ⟨rfl, rfl⟩ := Prod.mk.inj (Option.some.inj h); go_wp2
    go_ret2
    exact ⟨rfl, HB⟩
   rw [if_neg c2] at h; have c2b := decide_eq_false c2; by_cases c3 : 7 < a0.size
   ·rw [if_pos c3] at h; have c3b : decide ((7 : Int) < (a0.size : Int)) = true := decide_eq_true (by omega); clear c1 c2 c3; obtain ⟨rfl, rfl⟩ := Prod.mk.inj (Option.some.inj h); go_wp2
    go_ret2
    exact ⟨rfl, HB⟩
   rw [if_neg c3] at h; have c3b : decide ((7 : Int) < (a0.size : Int)) = false := decide_eq_false (by omega); clear c1 c2 c3; obtain ⟨t, ht, h⟩ := Option.bind_eq_some_iff.1 h; have hN := fun W (hW : GOK W) => impl_NumText.calls z t W ht hW
   clear ht; by_cases c4 : t.toList = a0.toList
   ·rw [if_pos c4] at h; have c4b0 := beq_iff_eq.mpr c4; have c4b1 : (t.toList != a0.toList) = false := bne_eq_false_iff_eq.mpr c4; clear c4; obtain ⟨rfl, rfl⟩ := Prod.mk.inj (Option.some.inj h); go_wp2_with (go_at_call 96; refine (hN _ (GOK_below hG HB)).mono ?_; rintro e w2 ⟨rfl, hb⟩)
    go_ret2
    exact ⟨rfl, below_step HB hb⟩
   ·rw [if_neg c4] at h; have c4b0 := beq_eq_false_iff_ne.mpr c4; have c4b1 : (t.toList != a0.toList) = true := bne_iff_ne.mpr c4; clear c4; obtain ⟨rfl, rfl⟩ := Prod.mk.inj (Option.some.inj h); go_wp2_with (go_at_call 96; refine (hN _ (GOK_below hG HB)).mono ?_; rintro e w2 ⟨rfl, hb⟩)
    go_ret2
    exact ⟨rfl, below_step HB hb⟩
  ·have h2 : some ((0 : Int), false) = some (r1, r2) := by
    split at h
    ·rename_i v hv; exact absurd hv (hno v)
    ·exact h
   obtain ⟨rfl, rfl⟩ := Prod.mk.inj (Option.some.inj h2); clear h h2 hno hA; go_wp2
   go_ret2
   exact ⟨rfl, HB⟩
 ·cases h

end Go.Proofs.YtaajhdljdmbhhaaGreatDoor.GFnReqs
