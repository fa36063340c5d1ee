-- by gprint.py (this session's program over the kit's print.py) (a twelfth state) out of the translation. Not trusted: Lean checks it.
import Derived.Test.YtaajhdljdmbhhaaGreatDoorGFnExactFeedAllx0
import Derived.Test.YtaajhdljdmbhhaaGreatDoorGFnExactFeedAllx12
import Derived.Test.YtaajhdljdmbhhaaGreatDoorGFnExactFeedAllx13
namespace Go.Proofs.YtaajhdljdmbhhaaGreatDoor.GFnExactFeedAll
open Go.RowKit Go.Proofs.YtaajhdljdmbhhaaGreatDoorW.PrintWords Go.Proofs.YtaajhdljdmbhhaaGreatDoorW.PrintLast Go.Proofs.YtaajhdljdmbhhaaGreatDoorW.PrintMore
attribute [local go_sem] max2_int min2_int max_two min_two max_three min_three max_four min_four   -- for this text's walks alone
set_option linter.unusedVariables false
set_option linter.unusedSimpArgs false
set_option maxRecDepth 100000
set_option maxHeartbeats 8000000

mutual
def impl_GetChunks.l0 : Nat → List Int → ByteArray → ByteArray → Int → Option (ByteArray × Int × Int)
 | 0, _, _, _, _ => none
 | k + 1, x0, x8, x378000, x378001 => (impl_chunks_size.f k x378000 x378001).bind fun bt378 => (if bt378.2.2 = 0 then (if (wrap64 ((x8.size : Int) + bt378.1)) > 200 then (impl_GetChunks.j1 k x0 x8 bt378.1 bt378.2.1 413) else (if bt378.1 > (bt378.2.1.size : Int) then (impl_GetChunks.j1 k x0 x8 bt378.1 bt378.2.1 1) else (if 0 ≤ bt378.1 then (if bt378.1 ≤ (bt378.2.1.size : Int) then (if x8.size + (bt378.2.1.extract 0 (bt378.1 : Int).toNat).size ≤ 9223372036854775807 then ((impl_chunks_end.f k (bt378.2.1.extract (bt378.1 : Int).toNat bt378.2.1.size) bt378.2.2).bind fun bt381 => (impl_GetChunks.j1 k x0 (x8 ++ (bt378.2.1.extract 0 (bt378.1 : Int).toNat)) bt378.1 bt381.1 bt381.2)) else (none)) else (none)) else (none)))) else (impl_GetChunks.j1 k x0 x8 bt378.1 bt378.2.1 bt378.2.2))
def impl_GetChunks.j1 : Nat → List Int → ByteArray → Int → ByteArray → Int → Option (ByteArray × Int × Int)
 | 0, _, _, _, _, _ => none
 | k + 1, x0, x8, x9, x378000, x378001 => if x378001 = 0 then (if x9 = 0 then (some (x8, wrap64 ((x0.length : Int) - (x378000.size : Int)), 0)) else (impl_GetChunks.l0 k x0 x8 x378000 x378001)) else (some ((⟨#[]⟩ : BA), 0, x378001))
end
def impl_GetChunks.f (k : Nat) (l0 : List Int) (a1 : Int) : Option (ByteArray × Int × Int) := (impl_in.f a1 0 (l0.length : Int)).bind fun t375 => (if t375 = true then (if 0 ≤ a1 then (if a1 ≤ (l0.length : Int) then (impl_GetChunks.l0 k l0 (⟨#[]⟩ : BA) (strOfNums (l0.drop (a1 : Int).toNat)) 0) else (none)) else (none)) else (some ((⟨#[]⟩ : BA), 0, 400)))

theorem impl_GetChunks.calls (k : Nat) (A0 : Option Addr) (c0 : Nat) (l0 : List Int) (a1 : Int) (r1 : ByteArray) (r2 : Int) (r3 : Int) (w : World) (hr0 : Kd.C (Kd.int .u8) w A0 l0.length l0) (hc0 : l0.length ≤ c0) (h : impl_GetChunks.f k l0 a1 = some (r1, r2, r3)) (hG : GOK w) :
  Calls Tryz.prog 45 #[.slice A0 l0.length c0, .int .i64 a1] w fun e w' => e = .returned (.tuple #[.string r1, .int .i64 r2, .int .i64 r3]) ∧ Below w.heap.size w w' := by
 have hu96 := Tryz.underlying96; have HR0 := aK hr0; have HC0 := aK hc0; clear hr0 hc0; have HB := aK (Below.refl w.heap.size w); have H := h; clear h; unfold impl_GetChunks.f at H
 replace H := oB H; obtain ⟨t375, A3, H⟩ := H; (try dsimp only at H); by_cases c4 : t375 = true
 ·subst c4; rw [if_pos rfl] at H; by_cases c5 : 0 ≤ a1
  ·rw [if_pos c5] at H; have c5b0 := eq_true c5; have c5b1 := decide_eq_true c5; clear c5; by_cases c6 : a1 ≤ (l0.length : Int)
   ·rw [if_pos c6] at H; have c6b0 := eq_true c6; have c6b1 := decide_eq_true c6; clear c6; have H' := aK H; clear H; go_enter Tryz.func45, Tryz.ntmps45
    go_wp2_with (first | (go_at_call 80; (with_reducible refine (impl_in.calls a1 0 (l0.length : Int) true _ A3.1).mono ?_); rintro e w' ⟨rfl, ⟨nd, rfl⟩⟩; (try first | exact ⟨rfl, _, World.drewN_drewN _ _ _⟩ | exact ⟨rfl, _, Eq.trans (World.drewN_drewN _ _ _) (congrArg (World.drewN _) (Nat.add_assoc _ _ _))⟩); obtain ⟨i07, hi07, _, hsz7, _⟩ := info_parts info5; obtain ⟨A7, hcut7, hA7, hC7⟩ := print_drop_of (P := Tryz.prog) (Value.int .u8) 0 22 5 .i64 Tryz.underlying22 hi07 hsz7 A0 c0 l0 a1 (of_decide_eq_true q4_) (of_decide_eq_true q4_) HC0.1; have HR376 := aK (Kd.C_of_reads (h1 := fun _ => rfl) (hA7 _ (Kd.reads_of_C HR0.1))); have HC376 := aK hC7; clear hA7 hC7 hi07 hsz7; have hq_ := HR376.1; rw [show (l0.drop (a1 : Int).toNat).length = (l0.length - a1.toNat) from List.length_drop] at hq_; have hcv8 := Kd.C_string (P := Tryz.prog) (A := A7) (c := (c0 - a1.toNat)) Tryz.underlying22 Tryz.underlying5 Tryz.underlying9 hq_; have hcv9 := fun nq_ : Nat => Kd.C_string (P := Tryz.prog) (A := A7) (c := (c0 - a1.toNat)) Tryz.underlying22 Tryz.underlying5 Tryz.underlying9 (Kd.C_drewN hq_ nq_); clear hq_) | ((with_reducible refine gate_dst (N := 20) rfl ?_); refine box_event ?hg (N := 20) ?hd (cs := #[.string (strOfNums (l0.drop (a1 : Int).toNat)), .int .i64 0]) (t := 96) ?hr ?_; (case hd => rfl); (case hg => rfl); (case hr => exact q28_); intro gb377 hg w10 hbox hb; have HI377 := aK ((show IsS96 w w10 gb377 (strOfNums (l0.drop (a1 : Int).toNat)) 0 from ⟨hbox, (q60_ : w.heap.size ≤ gb377)⟩)); replace HB := aK (below_step q1_ hb); clear hb hbox hg))
    repeat (go_quiet (first | (go_at_call 80; (with_reducible refine (impl_in.calls a1 0 (l0.length : Int) true _ A3.1).mono ?_); rintro e w' ⟨rfl, ⟨nd, rfl⟩⟩; (try first | exact ⟨rfl, _, World.drewN_drewN _ _ _⟩ | exact ⟨rfl, _, Eq.trans (World.drewN_drewN _ _ _) (congrArg (World.drewN _) (Nat.add_assoc _ _ _))⟩); obtain ⟨i07, hi07, _, hsz7, _⟩ := info_parts info5; obtain ⟨A7, hcut7, hA7, hC7⟩ := print_drop_of (P := Tryz.prog) (Value.int .u8) 0 22 5 .i64 Tryz.underlying22 hi07 hsz7 A0 c0 l0 a1 (of_decide_eq_true q4_) (of_decide_eq_true q4_) HC0.1; have HR376 := aK (Kd.C_of_reads (h1 := fun _ => rfl) (hA7 _ (Kd.reads_of_C HR0.1))); have HC376 := aK hC7; clear hA7 hC7 hi07 hsz7; have hq_ := HR376.1; rw [show (l0.drop (a1 : Int).toNat).length = (l0.length - a1.toNat) from List.length_drop] at hq_; have hcv8 := Kd.C_string (P := Tryz.prog) (A := A7) (c := (c0 - a1.toNat)) Tryz.underlying22 Tryz.underlying5 Tryz.underlying9 hq_; have hcv9 := fun nq_ : Nat => Kd.C_string (P := Tryz.prog) (A := A7) (c := (c0 - a1.toNat)) Tryz.underlying22 Tryz.underlying5 Tryz.underlying9 (Kd.C_drewN hq_ nq_); clear hq_) | ((with_reducible refine gate_dst (N := 20) rfl ?_); refine box_event ?hg (N := 20) ?hd (cs := #[.string (strOfNums (l0.drop (a1 : Int).toNat)), .int .i64 0]) (t := 96) ?hr ?_; (case hd => rfl); (case hg => rfl); (case hr => exact q28_); intro gb377 hg w10 hbox hb; have HI377 := aK ((show IsS96 w w10 gb377 (strOfNums (l0.drop (a1 : Int).toNat)) 0 from ⟨hbox, (q60_ : w.heap.size ≤ gb377)⟩)); replace HB := aK (below_step q1_ hb); clear hb hbox hg)); try go_wp2_with (first | (go_at_call 80; (with_reducible refine (impl_in.calls a1 0 (l0.length : Int) true _ A3.1).mono ?_); rintro e w' ⟨rfl, ⟨nd, rfl⟩⟩; (try first | exact ⟨rfl, _, World.drewN_drewN _ _ _⟩ | exact ⟨rfl, _, Eq.trans (World.drewN_drewN _ _ _) (congrArg (World.drewN _) (Nat.add_assoc _ _ _))⟩); obtain ⟨i07, hi07, _, hsz7, _⟩ := info_parts info5; obtain ⟨A7, hcut7, hA7, hC7⟩ := print_drop_of (P := Tryz.prog) (Value.int .u8) 0 22 5 .i64 Tryz.underlying22 hi07 hsz7 A0 c0 l0 a1 (of_decide_eq_true q4_) (of_decide_eq_true q4_) HC0.1; have HR376 := aK (Kd.C_of_reads (h1 := fun _ => rfl) (hA7 _ (Kd.reads_of_C HR0.1))); have HC376 := aK hC7; clear hA7 hC7 hi07 hsz7; have hq_ := HR376.1; rw [show (l0.drop (a1 : Int).toNat).length = (l0.length - a1.toNat) from List.length_drop] at hq_; have hcv8 := Kd.C_string (P := Tryz.prog) (A := A7) (c := (c0 - a1.toNat)) Tryz.underlying22 Tryz.underlying5 Tryz.underlying9 hq_; have hcv9 := fun nq_ : Nat => Kd.C_string (P := Tryz.prog) (A := A7) (c := (c0 - a1.toNat)) Tryz.underlying22 Tryz.underlying5 Tryz.underlying9 (Kd.C_drewN hq_ nq_); clear hq_) | ((with_reducible refine gate_dst (N := 20) rfl ?_); refine box_event ?hg (N := 20) ?hd (cs := #[.string (strOfNums (l0.drop (a1 : Int).toNat)), .int .i64 0]) (t := 96) ?hr ?_; (case hd => rfl); (case hg => rfl); (case hr => exact q28_); intro gb377 hg w10 hbox hb; have HI377 := aK ((show IsS96 w w10 gb377 (strOfNums (l0.drop (a1 : Int).toNat)) 0 from ⟨hbox, (q60_ : w.heap.size ≤ gb377)⟩)); replace HB := aK (below_step q1_ hb); clear hb hbox hg)))
    go_loopg [8] k (fun kq v8 w' => ∃ (x8_1 : ByteArray) (x378000_1 : ByteArray) (x378001_1 : Int), v8 = .string x8_1 ∧ Aside0 (impl_GetChunks.l0 kq l0 x8_1 x378000_1 x378001_1 = some (r1, r2, r3)) ∧ Aside0 (kq ≤ k) ∧ Aside0 (IsS96 w w' gb377 x378000_1 x378001_1) ∧ Aside0 (Below w.heap.size w w'))
    case atStart => exact ⟨((⟨#[]⟩ : BA)), (strOfNums (l0.drop (a1 : Int).toNat)), (0), q2_, H', ⟨Nat.le_refl _⟩, ⟨q34_⟩, ⟨q29_⟩⟩
    case round =>
     clear H'; (try clear p2); (try clear c4); (try clear c5); (try clear c5b0); (try clear c5b1); (try clear c6); (try clear c6b0); (try clear c6b1); (try clear hcv8); (try clear hcv9); obtain ⟨x8_1, x378000_1, x378001_1, rfl, HA, HK1, HI377, HB⟩ := hrel; cases gk with
     | zero => exact absurd HA.1 (by simp [impl_GetChunks.l0])
     | succ k1 =>
      have H := HA.1; clear HA; simp only [impl_GetChunks.l0] at H; replace H := oB H; obtain ⟨⟨t378, t379, t380⟩, A11, H⟩ := H; (try dsimp only at H); have HC12 := aK H; clear H; go_upto_block 2 with (first | (go_at_call 81; (with_reducible refine (impl_chunks_size.calls k1 gb377 x378000_1 x378001_1 t378 t379 t380 w _ ?side1 ?side2 A11.1 ?side99).mono ?_); (case side1 => exact q34_); (case side2 => exact q29_); (case side99 => exact q18_); rintro e w13 ⟨rfl, hi, hb, hk⟩; replace HB := aK (hb); replace HI377 := aK (hi); clear hb hk hi))
      repeat (go_quiet (first | (go_at_call 81; (with_reducible refine (impl_chunks_size.calls k1 gb377 x378000_1 x378001_1 t378 t379 t380 w _ ?side1 ?side2 A11.1 ?side99).mono ?_); (case side1 => exact q34_); (case side2 => exact q29_); (case side99 => exact q18_); rintro e w13 ⟨rfl, hi, hb, hk⟩; replace HB := aK (hb); replace HI377 := aK (hi); clear hb hk hi)); go_upto_block 2 with (first | (go_at_call 81; (with_reducible refine (impl_chunks_size.calls k1 gb377 x378000_1 x378001_1 t378 t379 t380 w _ ?side1 ?side2 A11.1 ?side99).mono ?_); (case side1 => exact q34_); (case side2 => exact q29_); (case side99 => exact q18_); rintro e w13 ⟨rfl, hi, hb, hk⟩; replace HB := aK (hb); replace HI377 := aK (hi); clear hb hk hi)))
      (try simp only [Act.put, sI, sZ, sS]); go_cut [8] (fun v8 wc => ∃ (kq : Nat) (x8_11 : ByteArray) (x378000_11 : ByteArray) (x378001_11 : Int), v8 = .string x8_11 ∧ Aside0 (impl_GetChunks.j1 kq l0 x8_11 t378 x378000_11 x378001_11 = some (r1, r2, r3)) ∧ Aside0 (kq ≤ k1) ∧ Aside0 (IsS96 w wc gb377 x378000_11 x378001_11) ∧ Aside0 (Below w.heap.size w wc))
      case first =>
       have H := HC12.1; clear HC12; by_cases c14 : t380 = 0
       ·rw [if_pos c14] at H; have c14b0 := beq_iff_eq.mpr c14; have c14b1 : (t380 != 0) = false := bne_eq_false_iff_eq.mpr c14; clear c14; (first | rw [c14b0] | rw [c14i0] | (simp only [i64_w, i32_w]; rw [c14b0]) | skip); by_cases c15 : (wrap64 ((x8_1.size : Int) + t378)) > 200
        ·rw [if_pos c15] at H; have c15b0 : decide (200 < (wrap64 ((x8_1.size : Int) + t378))) = true := decide_eq_true c15; clear c15; have H' := aK H; clear H; obtain ⟨HGz16, hgz16⟩ := HI377.1; have hcz16 := cel2 HGz16; clear HGz16 hgz16; go_wp2
         repeat (go_quiet (fail); try go_wp2)
         go_meet
         case rel => exact ⟨_, (x8_1), (t379), (413), q2_, H', ⟨q65_⟩, ⟨q34_⟩, ⟨q29_⟩⟩
        ·rw [if_neg c15] at H; have c15b0 : decide (200 < (wrap64 ((x8_1.size : Int) + t378))) = false := decide_eq_false c15; clear c15; by_cases c17 : t378 > (t379.size : Int)
         ·rw [if_pos c17] at H; have c17b0 : decide ((t379.size : Int) < t378) = true := decide_eq_true c17; clear c17; have H' := aK H; clear H; obtain ⟨HGz18, hgz18⟩ := HI377.1; have hcz18 := cel2 HGz18; clear HGz18 hgz18; go_wp2
          repeat (go_quiet (fail); try go_wp2)
          go_meet
          case rel => exact ⟨_, (x8_1), (t379), (1), q2_, H', ⟨q65_⟩, ⟨q34_⟩, ⟨q29_⟩⟩
         ·rw [if_neg c17] at H; have c17b0 : decide ((t379.size : Int) < t378) = false := decide_eq_false c17; clear c17; by_cases c19 : 0 ≤ t378
          ·rw [if_pos c19] at H; have c19b0 := eq_true c19; have c19b1 := decide_eq_true c19; clear c19; by_cases c20 : t378 ≤ (t379.size : Int)
           ·rw [if_pos c20] at H; have c20b0 := eq_true c20; have c20b1 := decide_eq_true c20; clear c20; by_cases c21 : x8_1.size + (t379.extract 0 (t378 : Int).toNat).size ≤ 9223372036854775807
            ·rw [if_pos c21] at H; have c21b0 := eq_true c21; have c21b1 := decide_eq_true c21; try have c21b2 : (9223372036854775807 < x8_1.size + (t379.extract 0 (t378 : Int).toNat).size) = False := eq_false (Nat.not_lt.2 c21)
             have c22b0 := eq_true (of_decide_eq_true q4_ : 0 ≤ t378); have c23b0 := eq_true (of_decide_eq_true q4_ : t378 ≤ (t379.size : Int)); replace H := oB H; obtain ⟨⟨t381, t382⟩, A24, H⟩ := H; (try dsimp only at H); have H' := aK H; clear H; obtain ⟨HGz25, hgz25⟩ := HI377.1; have hcz25 := cel2 HGz25; clear HGz25 hgz25; go_wp2_with (first | (go_at_call 82; (with_reducible refine (impl_chunks_end.calls k1 gb377 (t379.extract (t378 : Int).toNat t379.size) t380 t381 t382 w _ ?side1 ?side2 A24.1).mono ?_); (case side1 => exact q34_); (case side2 => exact q29_); rintro e w26 ⟨rfl, hi, hb, hk⟩; replace HB := aK (hb); replace HI377 := aK (hi); clear hb hk hi))
             repeat (go_quiet (first | (go_at_call 82; (with_reducible refine (impl_chunks_end.calls k1 gb377 (t379.extract (t378 : Int).toNat t379.size) t380 t381 t382 w _ ?side1 ?side2 A24.1).mono ?_); (case side1 => exact q34_); (case side2 => exact q29_); rintro e w26 ⟨rfl, hi, hb, hk⟩; replace HB := aK (hb); replace HI377 := aK (hi); clear hb hk hi)); try go_wp2_with (first | (go_at_call 82; (with_reducible refine (impl_chunks_end.calls k1 gb377 (t379.extract (t378 : Int).toNat t379.size) t380 t381 t382 w _ ?side1 ?side2 A24.1).mono ?_); (case side1 => exact q34_); (case side2 => exact q29_); rintro e w26 ⟨rfl, hi, hb, hk⟩; replace HB := aK (hb); replace HI377 := aK (hi); clear hb hk hi)))
             go_meet
             case rel => exact ⟨_, (x8_1 ++ (t379.extract 0 (t378 : Int).toNat)), (t381), (t382), q2_, H', ⟨q65_⟩, ⟨q34_⟩, ⟨q29_⟩⟩
            ·rw [if_neg c21] at H; exact absurd H (by simp)
           ·rw [if_neg c20] at H; exact absurd H (by simp)
          ·rw [if_neg c19] at H; exact absurd H (by simp)
       ·rw [if_neg c14] at H; have c14b0 := beq_eq_false_iff_ne.mpr c14; have c14b1 : (t380 != 0) = true := bne_iff_ne.mpr c14; (first | rw [c14b0] | rw [c14i0] | (simp only [i64_w, i32_w]; rw [c14b0]) | skip); have H' := aK H; clear H; obtain ⟨HGz27, hgz27⟩ := HI377.1; have hcz27 := cel2 HGz27; clear HGz27 hgz27; go_wp2
        repeat (go_quiet (fail); try go_wp2)
        go_meet
        case rel => exact ⟨_, (x8_1), (t379), (t380), q2_, H', ⟨q65_⟩, ⟨q34_⟩, ⟨q29_⟩⟩
      case rest =>
       clear HC12; (try clear c1); (try clear c2); (try clear p2); (try clear c4); (try clear c5); (try clear c5b0); (try clear c5b1); (try clear c6); (try clear c6b0); (try clear c6b1); (try clear p6); (try clear hcv8); (try clear hcv9); (try clear c14); (try clear c14b0); (try clear c14b1); (try clear c15); (try clear c15b0); (try clear c17); (try clear c17b0); (try clear c19); (try clear c19b0); (try clear c19b1); (try clear c20); (try clear c20b0); (try clear c20b1); (try clear c21); (try clear c21b0); (try clear c21b1); (try clear c21b2); (try clear c22); (try clear c22b0); (try clear c23); (try clear c23b0); (try clear hcz16); (try clear hcz18); (try clear hcz25); (try clear hcz27); (try clear hcz16); (try clear hcz18); (try clear hcz25); (try clear hcz27); (try clear p2); obtain ⟨kq, x8_11, x378000_11, x378001_11, rfl, HA, HJ11, HI377, HB⟩ := hcut; cases kq with
       | zero => exact absurd HA.1 (by simp [impl_GetChunks.j1])
       | succ kj11 =>
        have H := HA.1; clear HA; simp only [impl_GetChunks.j1] at H; by_cases c28 : x378001_11 = 0
        ·rw [if_pos c28] at H; have c28b0 := beq_iff_eq.mpr c28; have c28b1 : (x378001_11 != 0) = false := bne_eq_false_iff_eq.mpr c28; clear c28; by_cases c29 : t378 = 0
         ·rw [if_pos c29] at H; have c29b0 := beq_iff_eq.mpr c29; have c29b1 : (t378 != 0) = false := bne_eq_false_iff_eq.mpr c29; clear c29; simp only [Option.some.injEq, Prod.mk.injEq] at H; obtain ⟨rfl, rfl, rfl⟩ := H; obtain ⟨HGz30, hgz30⟩ := HI377.1; have hcz30 := cel2 HGz30; clear HGz30 hgz30; go_wp2
          repeat (go_quiet (fail); try go_wp2)
          go_ret3
          exact ⟨q7_, q29_⟩
         ·rw [if_neg c29] at H; have c29b0 := beq_eq_false_iff_ne.mpr c29; have c29b1 : (t378 != 0) = true := bne_iff_ne.mpr c29; have H' := aK H; clear H; obtain ⟨HGz31, hgz31⟩ := HI377.1; have hcz31 := cel2 HGz31; clear HGz31 hgz31; go_wp2
          repeat (go_quiet (fail); try go_wp2)
          go_roundg kj11
          case measure => have := HK1.1; have := HJ11.1; omega
          case rel => exact ⟨(x8_11), (x378000_11), (x378001_11), q2_, H', ⟨by have := HK1.1; have := HJ11.1; omega⟩, ⟨q34_⟩, ⟨q29_⟩⟩
        ·rw [if_neg c28] at H; have c28b0 := beq_eq_false_iff_ne.mpr c28; have c28b1 : (x378001_11 != 0) = true := bne_iff_ne.mpr c28; simp only [Option.some.injEq, Prod.mk.injEq] at H; obtain ⟨rfl, rfl, rfl⟩ := H; obtain ⟨HGz32, hgz32⟩ := HI377.1; have hcz32 := cel2 HGz32; clear HGz32 hgz32; go_wp2
         repeat (go_quiet (fail); try go_wp2)
         go_ret3
         exact ⟨q7_, q29_⟩
   ·rw [if_neg c6] at H; exact absurd H (by simp)
  ·rw [if_neg c5] at H; exact absurd H (by simp)
 ·replace c4 := Bool.eq_false_iff.mpr c4; subst c4; rw [if_neg (show ¬ (false = true) by decide)] at H; simp only [Option.some.injEq, Prod.mk.injEq] at H; obtain ⟨rfl, rfl, rfl⟩ := H; go_enter Tryz.func45, Tryz.ntmps45
  go_wp2_with (first | (go_at_call 80; (with_reducible refine (impl_in.calls a1 0 (l0.length : Int) false _ A3.1).mono ?_); rintro e w' ⟨rfl, ⟨nd, rfl⟩⟩; (try first | exact ⟨rfl, _, World.drewN_drewN _ _ _⟩ | exact ⟨rfl, _, Eq.trans (World.drewN_drewN _ _ _) (congrArg (World.drewN _) (Nat.add_assoc _ _ _))⟩)))
  repeat (go_quiet (first | (go_at_call 80; (with_reducible refine (impl_in.calls a1 0 (l0.length : Int) false _ A3.1).mono ?_); rintro e w' ⟨rfl, ⟨nd, rfl⟩⟩; (try first | exact ⟨rfl, _, World.drewN_drewN _ _ _⟩ | exact ⟨rfl, _, Eq.trans (World.drewN_drewN _ _ _) (congrArg (World.drewN _) (Nat.add_assoc _ _ _))⟩))); try go_wp2_with (first | (go_at_call 80; (with_reducible refine (impl_in.calls a1 0 (l0.length : Int) false _ A3.1).mono ?_); rintro e w' ⟨rfl, ⟨nd, rfl⟩⟩; (try first | exact ⟨rfl, _, World.drewN_drewN _ _ _⟩ | exact ⟨rfl, _, Eq.trans (World.drewN_drewN _ _ _) (congrArg (World.drewN _) (Nat.add_assoc _ _ _))⟩))))
  go_ret3
  exact ⟨q7_, q1_⟩

def impl_isLarge.f (a0 : Int) : Option (Bool) := if a0 ≥ 65 then (some (decide (a0 ≤ 90))) else (some false)
theorem impl_isLarge.calls (a0 : Int) (r : Bool) (w : World) (h : impl_isLarge.f a0 = some r) :
  Calls Tryz.prog 113 #[.int .u8 a0] w fun e w' => e = .returned (.bool r) ∧ Drawn0 w w' := by
 have H : (if a0 ≥ 65 then (some (decide (a0 ≤ 90))) else (some false)) = some r := h; clear h; by_cases c2 : a0 ≥ 65
 ·rw [if_pos c2] at H; have c2b0 : decide (65 ≤ a0) = true := decide_eq_true c2; clear c2; obtain rfl := Option.some.inj H; go_enter Tryz.func113, Tryz.ntmps113
  go_wp2
  go_ret
  exact ⟨q2_, q5_⟩
 ·rw [if_neg c2] at H; have c2b0 : decide (65 ≤ a0) = false := decide_eq_false c2; clear c2; obtain rfl := Option.some.inj H; go_enter Tryz.func113, Tryz.ntmps113
  go_wp2
  go_ret
  exact ⟨q2_, q5_⟩

def impl_isPlain.f (a0 : Int) : Option (Bool) := if a0 ≥ 32 then (some (decide (a0 ≤ 126))) else (some false)
theorem impl_isPlain.calls (a0 : Int) (r : Bool) (w : World) (h : impl_isPlain.f a0 = some r) :
  Calls Tryz.prog 142 #[.int .u8 a0] w fun e w' => e = .returned (.bool r) ∧ Drawn0 w w' := by
 have H : (if a0 ≥ 32 then (some (decide (a0 ≤ 126))) else (some false)) = some r := h; clear h; by_cases c2 : a0 ≥ 32
 ·rw [if_pos c2] at H; have c2b0 : decide (32 ≤ a0) = true := decide_eq_true c2; clear c2; obtain rfl := Option.some.inj H; go_enter Tryz.func142, Tryz.ntmps142
  go_wp2
  go_ret
  exact ⟨q2_, q5_⟩
 ·rw [if_neg c2] at H; have c2b0 : decide (32 ≤ a0) = false := decide_eq_false c2; clear c2; obtain rfl := Option.some.inj H; go_enter Tryz.func142, Tryz.ntmps142
  go_wp2
  go_ret
  exact ⟨q2_, q5_⟩

def impl_Plain.l0 : Nat → ByteArray → Int → Option (Bool)
 | 0, _, _ => none
 | k + 1, x0, x3 => if x3 < (x0.size : Int) then (if 0 ≤ x3 then ((impl_isPlain.f (bt x0 x3)).bind fun t383 => (if t383 = true then (impl_Plain.l0 k x0 (wrap64 (x3 + 1))) else (some false))) else (none)) else (some true)
def impl_Plain.f (k : Nat) (a0 : ByteArray) : Option (Bool) := impl_Plain.l0 k a0 0

theorem impl_Plain.calls (k : Nat) (a0 : ByteArray) (r : Bool) (w : World) (h : impl_Plain.f k a0 = some r) :
  Calls Tryz.prog 114 #[.string a0] w fun e w' => e = .returned (.bool r) ∧ Drawn0 w w' := by
 have H : (impl_Plain.l0 k a0 0) = some r := h; clear h; have H' := aK H; clear H; go_enter Tryz.func114, Tryz.ntmps114
 go_wp2
 go_loopg [3] k (fun kq v3 w' => ∃ (x3_1 : Int), v3 = .int .i64 x3_1 ∧ Aside0 (impl_Plain.l0 kq a0 x3_1 = some r) ∧ Aside0 (kq ≤ k) ∧ Drawn0 w w')
 case atStart => exact ⟨(0), q2_, H', ⟨Nat.le_refl _⟩, q5_⟩
 case round =>
  clear H'; (try clear c1); obtain ⟨x3_1, rfl, HA, HK1, ⟨m1, rfl⟩⟩ := hrel; cases gk with
  | zero => exact absurd HA.1 (by simp [impl_Plain.l0])
  | succ k1 =>
   have H := HA.1; clear HA; simp only [impl_Plain.l0] at H; by_cases c2 : x3_1 < (a0.size : Int)
   ·rw [if_pos c2] at H; have c2b0 := decide_eq_true c2; clear c2; by_cases c3 : 0 ≤ x3_1
    ·rw [if_pos c3] at H; have c3b0 := decide_eq_true c3; clear c3; replace H := oB H; obtain ⟨t383, A5, H⟩ := H; (try dsimp only at H); have HC6 := aK H; clear H; have p4 : 0 ≤ (x3_1 : Int) := of_decide_eq_true q4_; have q4 : x3_1 < (a0.size : Int) := of_decide_eq_true q4_; have hx4 := bt_at a0 x3_1; replace p4 := eq_true p4; replace q4 := eq_true q4; go_upto_if 14 with (first | ((with_reducible refine gate_callee (f := 142) rfl ?_); refine goesL_ (some 13) rfl rfl Tryz.func142 (by kernel_rfl) rfl #[.int .u8 (bt a0 x3_1)] rfl q3_ ?_; (with_reducible refine (impl_isPlain.calls (bt a0 x3_1) t383 _ A5.1).mono ?_); rintro e w' ⟨rfl, ⟨nd, rfl⟩⟩; refine ⟨_, rfl, ?_⟩))
     (try simp only [Act.put, sI, sZ, sS]); have H := HC6.1; clear HC6; by_cases c7 : t383 = true
     ·subst c7; rw [if_pos rfl] at H; have H' := aK H; clear H; go_wp2
      go_roundg k1
      case measure => have := HK1.1; omega
      case rel => exact ⟨(wrap64 (x3_1 + 1)), q2_, H', ⟨q64_⟩, q5_⟩
     ·replace c7 := Bool.eq_false_iff.mpr c7; subst c7; rw [if_neg (show ¬ (false = true) by decide)] at H; obtain rfl := Option.some.inj H; go_wp2
      go_ret
      exact ⟨q2_, q5_⟩
    ·rw [if_neg c3] at H; exact absurd H (by simp)
   ·rw [if_neg c2] at H; have c2b0 := decide_eq_false c2; clear c2; obtain rfl := Option.some.inj H; go_wp2
    go_ret
    exact ⟨q2_, q5_⟩


def strings_Contains.f (a0 : ByteArray) (a1 : ByteArray) : Option Bool := match a1.data.toList with | [c] => some (decide (0 ≤ Lib.indexByte a0.data.toList c)) | _ => none
theorem strings_Contains.calls (a0 : ByteArray) (a1 : ByteArray) (r : Bool) (w : World) (h : strings_Contains.f a0 a1 = some r) :
  Calls Tryz.prog 115 #[.string a0, .string a1] w fun e w' => e = .returned (.bool r) ∧ Drawn0 w w' := by
 unfold strings_Contains.f at h
 split at h
 ·rename_i c hc
  obtain rfl := Option.some.inj h; obtain rfl : a1 = ⟨#[c]⟩ := by cases a1; simp only [ByteArray.mk.injEq]; exact Array.toList_inj.mp hc
  exact (Go.Proofs.YtaajhdljdmbhhaaGreatDoor.Shelf.Tryz.strings_Contains_one a0 c w).mono fun e w' ⟨he, hw⟩ => ⟨he, by subst hw; exact Drawn0.refl _⟩
 ·cases h

def impl_lineOk.l0 : Nat → ByteArray → ByteArray → Int → Option (Bool)
 | 0, _, _, _ => none
 | k + 1, x0, x1, x5 => if x5 < (x0.size : Int) then (if 0 ≤ x5 then ((impl_isLarge.f (bt x0 x5)).bind fun t384 => (if t384 = true then (impl_lineOk.l0 k x0 x1 (wrap64 (x5 + 1))) else (some false))) else (none)) else ((impl_in.f (x0.size : Int) 1 9).bind fun t385 => (if t385 = true then ((impl_in.f (x1.size : Int) 1 80).bind fun t386 => (if t386 = true then ((impl_Plain.f k x1).bind fun t387 => (if t387 = true then ((strings_Contains.f x1 (⟨#[32]⟩ : BA)).bind fun t388 => (some (!t388))) else (some false))) else (some false))) else (some false)))
def impl_lineOk.f (k : Nat) (a0 : ByteArray) (a1 : ByteArray) : Option (Bool) := impl_lineOk.l0 k a0 a1 0

theorem impl_lineOk.calls (k : Nat) (a0 : ByteArray) (a1 : ByteArray) (r : Bool) (w : World) (h : impl_lineOk.f k a0 a1 = some r) :
  Calls Tryz.prog 91 #[.string a0, .string a1] w fun e w' => e = .returned (.bool r) ∧ Drawn0 w w' := by
 have H : (impl_lineOk.l0 k a0 a1 0) = some r := h; clear h; have H' := aK H; clear H; go_enter Tryz.func91, Tryz.ntmps91
 go_wp2
 go_loopg [5] k (fun kq v5 w' => ∃ (x5_1 : Int), v5 = .int .i64 x5_1 ∧ Aside0 (impl_lineOk.l0 kq a0 a1 x5_1 = some r) ∧ Aside0 (kq ≤ k) ∧ Drawn0 w w')
 case atStart => exact ⟨(0), q2_, H', ⟨Nat.le_refl _⟩, q5_⟩
 case round =>
  clear H'; (try clear p2); obtain ⟨x5_1, rfl, HA, HK1, ⟨m1, rfl⟩⟩ := hrel; cases gk with
  | zero => exact absurd HA.1 (by simp [impl_lineOk.l0])
  | succ k1 =>
   have H := HA.1; clear HA; simp only [impl_lineOk.l0] at H; by_cases c3 : x5_1 < (a0.size : Int)
   ·rw [if_pos c3] at H; have c3b0 := decide_eq_true c3; clear c3; by_cases c4 : 0 ≤ x5_1
    ·rw [if_pos c4] at H; have c4b0 := decide_eq_true c4; clear c4; replace H := oB H; obtain ⟨t384, A6, H⟩ := H; (try dsimp only at H); have HC7 := aK H; clear H; have p5 : 0 ≤ (x5_1 : Int) := of_decide_eq_true q4_; have q5 : x5_1 < (a0.size : Int) := of_decide_eq_true q4_; have hx5 := bt_at a0 x5_1; replace p5 := eq_true p5; replace q5 := eq_true q5; go_upto_if 16 with (first | ((with_reducible refine gate_callee (f := 113) rfl ?_); refine goesL_ (some 15) rfl rfl Tryz.func113 (by kernel_rfl) rfl #[.int .u8 (bt a0 x5_1)] rfl q3_ ?_; (with_reducible refine (impl_isLarge.calls (bt a0 x5_1) t384 _ A6.1).mono ?_); rintro e w' ⟨rfl, ⟨nd, rfl⟩⟩; refine ⟨_, rfl, ?_⟩))
     (try simp only [Act.put, sI, sZ, sS]); have H := HC7.1; clear HC7; by_cases c8 : t384 = true
     ·subst c8; rw [if_pos rfl] at H; have H' := aK H; clear H; go_wp2
      go_roundg k1
      case measure => have := HK1.1; omega
      case rel => exact ⟨(wrap64 (x5_1 + 1)), q2_, H', ⟨q64_⟩, q5_⟩
     ·replace c8 := Bool.eq_false_iff.mpr c8; subst c8; rw [if_neg (show ¬ (false = true) by decide)] at H; obtain rfl := Option.some.inj H; go_wp2
      go_ret
      exact ⟨q2_, q5_⟩
    ·rw [if_neg c4] at H; exact absurd H (by simp)
   ·rw [if_neg c3] at H; have c3b0 := decide_eq_false c3; clear c3; replace H := oB H; obtain ⟨t385, A9, H⟩ := H; (try dsimp only at H); by_cases c10 : t385 = true
    ·subst c10; rw [if_pos rfl] at H; replace H := oB H; obtain ⟨t386, A11, H⟩ := H; (try dsimp only at H); by_cases c12 : t386 = true
     ·subst c12; rw [if_pos rfl] at H; replace H := oB H; obtain ⟨t387, A13, H⟩ := H; (try dsimp only at H); by_cases c14 : t387 = true
      ·subst c14; rw [if_pos rfl] at H; replace H := oB H; obtain ⟨t388, A15, H⟩ := H; (try dsimp only at H); obtain rfl := Option.some.inj H; go_wp2_with (first | ((with_reducible refine gate_callee (f := 80) rfl ?_); refine goesL_ (some 19) rfl rfl Tryz.func80 (by kernel_rfl) rfl #[.int .i64 (a0.size : Int), .int .i64 1, .int .i64 9] rfl q3_ ?_; (with_reducible refine (impl_in.calls (a0.size : Int) 1 9 true _ A9.1).mono ?_); rintro e w' ⟨rfl, ⟨nd, rfl⟩⟩; refine ⟨_, rfl, ?_⟩) | (go_at_call 80; (with_reducible refine (impl_in.calls (a1.size : Int) 1 80 true _ A11.1).mono ?_); rintro e w' ⟨rfl, ⟨nd, rfl⟩⟩) | (go_at_call 114; (with_reducible refine (impl_Plain.calls k1 a1 true _ A13.1).mono ?_); rintro e w' ⟨rfl, ⟨nd, rfl⟩⟩) | (go_at_call 115; (with_reducible refine (strings_Contains.calls a1 (⟨#[32]⟩ : BA) t388 _ A15.1).mono ?_); rintro e w' ⟨rfl, ⟨nd, rfl⟩⟩))
       go_ret
       exact ⟨q2_, q5_⟩
      ·replace c14 := Bool.eq_false_iff.mpr c14; subst c14; rw [if_neg (show ¬ (false = true) by decide)] at H; obtain rfl := Option.some.inj H; go_wp2_with (first | ((with_reducible refine gate_callee (f := 80) rfl ?_); refine goesL_ (some 19) rfl rfl Tryz.func80 (by kernel_rfl) rfl #[.int .i64 (a0.size : Int), .int .i64 1, .int .i64 9] rfl q3_ ?_; (with_reducible refine (impl_in.calls (a0.size : Int) 1 9 true _ A9.1).mono ?_); rintro e w' ⟨rfl, ⟨nd, rfl⟩⟩; refine ⟨_, rfl, ?_⟩) | (go_at_call 80; (with_reducible refine (impl_in.calls (a1.size : Int) 1 80 true _ A11.1).mono ?_); rintro e w' ⟨rfl, ⟨nd, rfl⟩⟩) | (go_at_call 114; (with_reducible refine (impl_Plain.calls k1 a1 false _ A13.1).mono ?_); rintro e w' ⟨rfl, ⟨nd, rfl⟩⟩))
       go_ret
       exact ⟨q2_, q5_⟩
     ·replace c12 := Bool.eq_false_iff.mpr c12; subst c12; rw [if_neg (show ¬ (false = true) by decide)] at H; obtain rfl := Option.some.inj H; go_wp2_with (first | ((with_reducible refine gate_callee (f := 80) rfl ?_); refine goesL_ (some 19) rfl rfl Tryz.func80 (by kernel_rfl) rfl #[.int .i64 (a0.size : Int), .int .i64 1, .int .i64 9] rfl q3_ ?_; (with_reducible refine (impl_in.calls (a0.size : Int) 1 9 true _ A9.1).mono ?_); rintro e w' ⟨rfl, ⟨nd, rfl⟩⟩; refine ⟨_, rfl, ?_⟩) | (go_at_call 80; (with_reducible refine (impl_in.calls (a1.size : Int) 1 80 false _ A11.1).mono ?_); rintro e w' ⟨rfl, ⟨nd, rfl⟩⟩))
      go_ret
      exact ⟨q2_, q5_⟩
    ·replace c10 := Bool.eq_false_iff.mpr c10; subst c10; rw [if_neg (show ¬ (false = true) by decide)] at H; obtain rfl := Option.some.inj H; go_wp2_with (first | ((with_reducible refine gate_callee (f := 80) rfl ?_); refine goesL_ (some 19) rfl rfl Tryz.func80 (by kernel_rfl) rfl #[.int .i64 (a0.size : Int), .int .i64 1, .int .i64 9] rfl q3_ ?_; (with_reducible refine (impl_in.calls (a0.size : Int) 1 9 false _ A9.1).mono ?_); rintro e w' ⟨rfl, ⟨nd, rfl⟩⟩; refine ⟨_, rfl, ?_⟩))
     go_ret
     exact ⟨q2_, q5_⟩


def strings_Split.f (a0 : ByteArray) (a1 : ByteArray) : Option (List ByteArray) := if a0.size < 4294967281 ∧ 1 ≤ a1.size then some (Go.Lib.splitB a1 0 (Go.Lib.countB a0 a1) a0) else none
theorem strings_Split.calls (a0 : ByteArray) (a1 : ByteArray) (r : List ByteArray) (w : World) (h : strings_Split.f a0 a1 = some r) (hG : GOK w) :
  Calls Tryz.prog 106 #[.string a0, .string a1] w fun e w' => ∃ v0_ : Value, e = .returned (v0_) ∧ Kd.R Kd.string 9 w' w.heap.size (fun _ => True) v0_ r ∧ Below w.heap.size w w' := by
 unfold strings_Split.f at h
 split at h
 ·rename_i hs
  obtain rfl := Option.some.inj h; obtain ⟨m, hm⟩ := hG.maxlen; have hl := Go.Lib.splitB_all a1 hs.2 0 _ a0 rfl; have hc := Go.Lib.countB_le a1 hs.2 a0.size a0 (Nat.le_refl _); refine (Go.Proofs.YtaajhdljdmbhhaaGreatDoor.Shelf.Tryz.strings_Split a0 a1 m w hs.1 hm hs.2).mono fun e w' ⟨he, hw⟩ => ⟨_, he, ?_, by subst hw; exact aB_ (Below.refl _ _) _⟩
  subst hw; refine Kd.R_of_own (enc := Value.string) (h1 := fun _ => rfl) ?_ (fun _ _ => trivial); refine ⟨by simp [encs], .inr ⟨w.heap.size, _, _, by rw [hl], Nat.le_refl _, (by first | exact blk_new w _ | exact HasRow.of (blk_new w _)), by rw [hl]; exact Nat.le_refl _, by unfold maxLen; omega, by simp [hl], ?_⟩⟩; rw [Nat.mul_one, List.take_of_length_le (by simp)]; simp [encs]
 ·cases h

def impl_Lower.l0 : Nat → List Int → Int → Int → Option (ByteArray)
 | 0, _, _, _ => none
 | k + 1, x3, x9, x10 => if x10 < x9 then (if 0 ≤ x10 then (if x10 < (x3.length : Int) then ((impl_isLarge.f (rd x3 x10)).bind fun t393 => (if t393 = true then (impl_Lower.l0 k (x3.set (x10 : Int).toNat (((rd x3 x10) + 32) % 256)) x9 (wrap64 (x10 + 1))) else (impl_Lower.l0 k x3 x9 (wrap64 (x10 + 1))))) else (none)) else (none)) else (some (strOfNums x3))
def impl_Lower.f (k : Nat) (a0 : ByteArray) : Option (ByteArray) := if a0.size < 140737488355328 then ((some (bytesOf a0 : List Int)).bind fun y389 => (impl_Lower.l0 k y389 (y389.length : Int) 0)) else (none)

theorem impl_Lower.calls (k : Nat) (a0 : ByteArray) (r : ByteArray) (w : World) (h : impl_Lower.f k a0 = some r) :
  Calls Tryz.prog 108 #[.string a0] w fun e w' => e = .returned (.string r) ∧ Below w.heap.size w w' := by
 have HB := aK (Below.refl w.heap.size w); have H := h; clear h; unfold impl_Lower.f at H
 by_cases c2 : a0.size < 140737488355328
 ·rw [if_pos c2] at H; have LMc2 := aK c2; clear c2; (first | (with_reducible replace H := oS H; obtain ⟨y389, Ny389, H⟩ := H) | (generalize hy_ : (bytesOf a0 : List Int) = y389 at H; have Ny389 := aK hy_.symm; clear hy_)); (try dsimp only at H); have H' := aK H; clear H; go_enter Tryz.func108, Tryz.ntmps108
  go_wp2_with (first | ((with_reducible refine gate_ (.convert 9 22 _) rfl ?_); refine Kd.R_conv_str (w0 := w) w.heap.size rfl 9 22 5 _ rfl Tryz.underlying9 Tryz.underlying22 Tryz.underlying5 a0 (fun _ => True) rfl ?aF ?aO ?aB ?aS ?aL ?_; (case aB => exact q1_); (case aF => exact q100_); (case aO => exact ((Kd.R_nil _ _ _ _ (fun _ => True)))); (case aS => exact q198_); (case aL => have := LMc2.1; omega); intro v390 w3 ho hb hg hat; rw [← Ny389.1] at ho; replace HB := aK (hb); have HO391 := aK (ho); clear ho hb hg hat; obtain ⟨Ao4, co4, eo4⟩ := Kd.R_slice HO391.1; subst eo4))
  go_loopg [10] k (fun kq v10 w' => ∃ (x3_1 : List Int) (x10_1 : Int), v10 = .int .i64 x10_1 ∧ Aside0 (impl_Lower.l0 kq x3_1 (y389.length : Int) x10_1 = some r) ∧ Aside0 (kq ≤ k) ∧ Aside0 (Kd.R (Kd.int .u8) 5 w' w.heap.size (fun _ => True) (.slice Ao4 y389.length co4) x3_1) ∧ Aside0 (Below w.heap.size w w'))
  case atStart => exact ⟨(y389), (0), q2_, H', ⟨Nat.le_refl _⟩, ⟨by (with_reducible repeat (first | apply rA_ | apply rN_ | apply rD_)); first | exact HO391.1 | exact Kd.R_mono HO391.1 (fun k_ h_ e_ => h_ (e_.trans (ob_len _ _ _ _ _)))⟩, ⟨q1_⟩⟩
  case round =>
   clear H'; (try clear c1); (try clear c2); (try clear p2); obtain ⟨x3_1, x10_1, rfl, HA, HK1, HO_3, HB⟩ := hrel; have hl3_1 := (Kd.R_reads' HO_3.1).1; rw [hl3_1] at HO_3; (try simp only [hl3_1]); cases gk with
   | zero => exact absurd HA.1 (by simp [impl_Lower.l0])
   | succ k1 =>
    have H := HA.1; clear HA; simp only [impl_Lower.l0] at H; by_cases c5 : x10_1 < (y389.length : Int)
    ·rw [if_pos c5] at H; have c5b0 := decide_eq_true c5; (try simp only [hl3_1] at c5b0); clear c5; by_cases c6 : 0 ≤ x10_1
     ·rw [if_pos c6] at H; have c6b0 := decide_eq_true c6; clear c6; by_cases c7 : x10_1 < (x3_1.length : Int)
      ·rw [if_pos c7] at H; have c7b0 := decide_eq_true c7; (try simp only [hl3_1] at c7b0); clear c7; replace H := oB H; obtain ⟨t393, A8, H⟩ := H; (try dsimp only at H); by_cases c9 : t393 = true
       ·subst c9; rw [if_pos rfl] at H; (first | (with_reducible replace H := oS H; obtain ⟨y394, Ny394, H⟩ := H) | (generalize hy_ : (x3_1.set (x10_1 : Int).toNat (((rd x3_1 x10_1) + 32) % 256) : List Int) = y394 at H; have Ny394 := aK hy_.symm; clear hy_)); (try dsimp only at H); have H' := aK H; clear H; have p392 : 0 ≤ (x10_1 : Int) := of_decide_eq_true q4_; have q392 : x10_1 < (x3_1.length : Int) := of_decide_eq_true q4_; obtain ⟨ad392, e392, hx392_0⟩ := Kd.at_int (Kd.R_reads' HO_3.1).2.2 x10_1 p392 q392; cases e392
        replace p392 := eq_true p392; replace q392 := eq_true q392; go_wp2_with (first | ((with_reducible refine gate_callee (f := 113) rfl ?_); refine goesL_ (some 16) rfl rfl Tryz.func113 (by kernel_rfl) rfl #[.int .u8 (rd x3_1 x10_1)] rfl q3_ ?_; (with_reducible refine (impl_isLarge.calls (rd x3_1 x10_1) true _ A8.1).mono ?_); rintro e w' ⟨rfl, ⟨nd, rfl⟩⟩; refine ⟨_, rfl, ?_⟩; (try (rw [drewN_self wr]; generalize hq_ : World.drewN wr _ = wr; replace HO_3 : Aside0 (Kd.R (Kd.int .u8) 5 wr w.heap.size (fun _ => True) (.slice (some ad392) x3_1.length co4) x3_1) := ⟨by rw [← hq_]; exact q81_⟩; replace HB : Aside0 (Below w.heap.size w wr) := ⟨by rw [← hq_]; exact q1_⟩; clear hq_)); have p10 : 0 ≤ (x10_1 : Int) := of_decide_eq_true q4_; have q10 : (x10_1 : Int) < ((x3_1.length : Int) : Int) := of_decide_eq_true q4_; obtain ⟨go10, co10, eo10, gb10, gl10, cl10, HG10⟩ := Kd.R_form HO_3.1 (by omega); (first | cases eo10 | (injection eo10 with ea_ en_ ec_; (first | subst ea_ | (injection ea_ with ea_; subst ea_)); subst ec_; clear en_)); have GB10 := aK gb10; have GG10 := aK HG10; clear gb10 gl10 HG10; (first | simp only [add_plain] at hx392_0 | skip); obtain ⟨hx10_0, hf10_0⟩ := Kd.R_celln 0 HO_3.1 (x10_1 : Int) p10 q10; replace p10 := eq_true p10; replace q10 := eq_true q10; obtain ⟨hy11_, hz11_⟩ := Kd.R_celln 0 HO_3.1 (x10_1 : Int) (of_decide_eq_true q4_) (of_decide_eq_true q4_); have HP11 := Kd.R_putg HO_3.1 (x10_1 : Int) (((rd x3_1 x10_1) + 32) % 256)) | ((with_reducible refine gate_store (t := 5) (p := 21) rfl ?_); refine store_event (t := 5) (p := 21) (v := ?vo_w12) (w1 := (wr.setCell ⟨go10, (x10_1 : Int).toNat, none⟩ (.int .u8 (((rd x3_1 x10_1) + 32) % 256)))) ?hg ?ho ?hn ?hr ?_; (case ho => rfl); (case hg => rfl); (case hn => rfl); (case hr => exact q28_); intro w12 hw; have hg : wr.grownBy w12 (some go10) := (by rw [hw]; exact HP11.2); have hp_ : Kd.R (Kd.int .u8) 5 w12 w.heap.size (fun _ => True) (.slice (some ⟨go10, 0, none⟩) x3_1.length co4) y394 := (by rw [hw, Ny394.1]; exact HP11.1); clear HP11; replace HO_3 := aK (hp_); replace HB := aK ((by rw [hw]; exact sB_ (HB.1) GB10.1 : Below w.heap.size w w12)); clear hg hw hp_))
        (try simp only [← hl3_1]); go_roundg k1
        case measure => have := HK1.1; omega
        case rel => exact ⟨(y394), (wrap64 (x10_1 + 1)), q2_, H', ⟨q64_⟩, ⟨q137_⟩, ⟨q1_⟩⟩
       ·replace c9 := Bool.eq_false_iff.mpr c9; subst c9; rw [if_neg (show ¬ (false = true) by decide)] at H; have H' := aK H; clear H; have p392 : 0 ≤ (x10_1 : Int) := of_decide_eq_true q4_; have q392 : x10_1 < (x3_1.length : Int) := of_decide_eq_true q4_; obtain ⟨ad392, e392, hx392_0⟩ := Kd.at_int (Kd.R_reads' HO_3.1).2.2 x10_1 p392 q392; cases e392
        replace p392 := eq_true p392; replace q392 := eq_true q392; go_wp2_with (first | ((with_reducible refine gate_callee (f := 113) rfl ?_); refine goesL_ (some 16) rfl rfl Tryz.func113 (by kernel_rfl) rfl #[.int .u8 (rd x3_1 x10_1)] rfl q3_ ?_; (with_reducible refine (impl_isLarge.calls (rd x3_1 x10_1) false _ A8.1).mono ?_); rintro e w' ⟨rfl, ⟨nd, rfl⟩⟩; refine ⟨_, rfl, ?_⟩))
        (try simp only [← hl3_1]); go_roundg k1
        case measure => have := HK1.1; omega
        case rel => exact ⟨(x3_1), (wrap64 (x10_1 + 1)), q2_, H', ⟨q64_⟩, ⟨q137_⟩, ⟨q1_⟩⟩
      ·rw [if_neg c7] at H; exact absurd H (by simp)
     ·rw [if_neg c6] at H; exact absurd H (by simp)
    ·rw [if_neg c5] at H; have c5b0 := decide_eq_false c5; (try simp only [hl3_1] at c5b0); clear c5; obtain rfl := Option.some.inj H; have hcv13 := own_string (P := Tryz.prog) Tryz.underlying22 Tryz.underlying5 Tryz.underlying9 (Kd.own_of_R HO_3.1); go_wp2
     go_ret
     exact ⟨q7_, q1_⟩
 ·rw [if_neg c2] at H; exact absurd H (by simp)

def impl_isSmall.f (a0 : Int) : Option (Bool) := if a0 ≥ 97 then (some (decide (a0 ≤ 122))) else (some false)
theorem impl_isSmall.calls (a0 : Int) (r : Bool) (w : World) (h : impl_isSmall.f a0 = some r) :
  Calls Tryz.prog 143 #[.int .u8 a0] w fun e w' => e = .returned (.bool r) ∧ Drawn0 w w' := by
 have H : (if a0 ≥ 97 then (some (decide (a0 ≤ 122))) else (some false)) = some r := h; clear h; by_cases c2 : a0 ≥ 97
 ·rw [if_pos c2] at H; have c2b0 : decide (97 ≤ a0) = true := decide_eq_true c2; clear c2; obtain rfl := Option.some.inj H; go_enter Tryz.func143, Tryz.ntmps143
  go_wp2
  go_ret
  exact ⟨q2_, q5_⟩
 ·rw [if_neg c2] at H; have c2b0 : decide (97 ≤ a0) = false := decide_eq_false c2; clear c2; obtain rfl := Option.some.inj H; go_enter Tryz.func143, Tryz.ntmps143
  go_wp2
  go_ret
  exact ⟨q2_, q5_⟩

end Go.Proofs.YtaajhdljdmbhhaaGreatDoor.GFnExactFeedAll
