-- by gprint.py (this session's program over the kit's print.py) (a twelfth state) out of the translation. Not trusted: Lean checks it.
import Derived.Test.YtaajhdljdmbhhaaGreatDoorGFnExactFeedAllx0
namespace Go.Proofs.YtaajhdljdmbhhaaGreatDoor.GFnExactFeedAll
open Go.RowKit Go.Proofs.YtaajhdljdmbhhaaGreatDoorW.PrintWords Go.Proofs.YtaajhdljdmbhhaaGreatDoorW.PrintLast Go.Proofs.YtaajhdljdmbhhaaGreatDoorW.PrintMore
attribute [local go_sem] max2_int min2_int max_two min_two max_three min_three max_four min_four   -- for this text's walks alone
set_option linter.unusedVariables false
set_option linter.unusedSimpArgs false
set_option maxRecDepth 100000
set_option maxHeartbeats 8000000

def laws_eqByteS.l0 : Nat → List Int → List Int → Int → Option (Bool)
 | 0, _, _, _ => none
 | k + 1, x0, x1, x5 => if x5 < (x0.length : Int) then (if 0 ≤ x5 then (if x5 < (x1.length : Int) then (if (rd x0 x5) = (rd x1 x5) then (laws_eqByteS.l0 k x0 x1 (wrap64 (x5 + 1))) else (some false)) else (none)) else (none)) else (some true)
def laws_eqByteS.f (k : Nat) (l0 : List Int) (l1 : List Int) : Option (Bool) := if (l0.length : Int) = (l1.length : Int) then (laws_eqByteS.l0 k l0 l1 0) else (some false)

theorem laws_eqByteS.calls (k : Nat) (A0 : Option Addr) (c0 : Nat) (l0 : List Int) (A1 : Option Addr) (c1 : Nat) (l1 : List Int) (r : Bool) (w : World) (hr0 : Kd.C (Kd.int .u8) w A0 l0.length l0) (hc0 : l0.length ≤ c0) (hr1 : Kd.C (Kd.int .u8) w A1 l1.length l1) (hc1 : l1.length ≤ c1) (h : laws_eqByteS.f k l0 l1 = some r) :
  Calls Tryz.prog 16 #[.slice A0 l0.length c0, .slice A1 l1.length c1] w fun e w' => e = .returned (.bool r) ∧ Drawn0 w w' := by
 have HR0 := aK hr0; have HC0 := aK hc0; clear hr0 hc0; have HR1 := aK hr1; have HC1 := aK hc1; clear hr1 hc1; have H : (if (l0.length : Int) = (l1.length : Int) then (laws_eqByteS.l0 k l0 l1 0) else (some false)) = some r := h; clear h; by_cases c3 : (l0.length : Int) = (l1.length : Int)
 ·rw [if_pos c3] at H; have c3b0 := beq_iff_eq.mpr c3; have c3b1 : ((l0.length : Int) != (l1.length : Int)) = false := bne_eq_false_iff_eq.mpr c3; have c3b2 : (l0.length == l1.length) = true := q117_; clear c3; have H' := aK H; clear H; go_enter Tryz.func16, Tryz.ntmps16
  go_wp2
  repeat (go_quiet (fail); try go_wp2)
  go_loopg [5] k (fun kq v5 w' => ∃ (x5_1 : Int), v5 = .int .i64 x5_1 ∧ Aside0 (laws_eqByteS.l0 kq l0 l1 x5_1 = some r) ∧ Aside0 (kq ≤ k) ∧ Drawn0 w w')
  case atStart => exact ⟨(0), q2_, H', ⟨Nat.le_refl _⟩, q5_⟩
  case round =>
   clear H'; (try clear c1); (try clear p2); (try clear c3); (try clear c3b0); (try clear c3b1); (try clear c3b2); obtain ⟨x5_1, rfl, HA, HK1, ⟨m1, rfl⟩⟩ := hrel; cases gk with
   | zero => exact absurd HA.1 (by simp [laws_eqByteS.l0])
   | succ k1 =>
    have H := HA.1; clear HA; simp only [laws_eqByteS.l0] at H; by_cases c4 : x5_1 < (l0.length : Int)
    ·rw [if_pos c4] at H; have c4b0 := decide_eq_true c4; clear c4; by_cases c5 : 0 ≤ x5_1
     ·rw [if_pos c5] at H; have c5b0 := decide_eq_true c5; clear c5; by_cases c6 : x5_1 < (l1.length : Int)
      ·rw [if_pos c6] at H; have c6b0 := decide_eq_true c6; clear c6; by_cases c7 : (rd l0 x5_1) = (rd l1 x5_1)
       ·rw [if_pos c7] at H; have c7b0 := beq_iff_eq.mpr c7; have c7b1 : ((rd l0 x5_1) != (rd l1 x5_1)) = false := bne_eq_false_iff_eq.mpr c7; clear c7; have H' := aK H; clear H; have p101 : 0 ≤ (x5_1 : Int) := of_decide_eq_true q4_; have q101 : x5_1 < (l0.length : Int) := of_decide_eq_true q4_; obtain ⟨ad101, e101, hx101_0⟩ := Kd.at_int HR0.1 x5_1 p101 q101; cases e101
        replace p101 := eq_true p101; replace q101 := eq_true q101; have p102 : 0 ≤ (x5_1 : Int) := of_decide_eq_true q4_; have q102 : x5_1 < (l1.length : Int) := of_decide_eq_true q4_; obtain ⟨ad102, e102, hx102_0⟩ := Kd.at_int HR1.1 x5_1 p102 q102; cases e102
        replace p102 := eq_true p102; replace q102 := eq_true q102; go_wp2
        repeat (go_quiet (fail); try go_wp2)
        go_roundg k1
        case measure => have := HK1.1; omega
        case rel => exact ⟨(wrap64 (x5_1 + 1)), q2_, H', ⟨q64_⟩, q5_⟩
       ·rw [if_neg c7] at H; have c7b0 := beq_eq_false_iff_ne.mpr c7; have c7b1 : ((rd l0 x5_1) != (rd l1 x5_1)) = true := bne_iff_ne.mpr c7; obtain rfl := Option.some.inj H; have p101 : 0 ≤ (x5_1 : Int) := of_decide_eq_true q4_; have q101 : x5_1 < (l0.length : Int) := of_decide_eq_true q4_; obtain ⟨ad101, e101, hx101_0⟩ := Kd.at_int HR0.1 x5_1 p101 q101; cases e101
        replace p101 := eq_true p101; replace q101 := eq_true q101; have p102 : 0 ≤ (x5_1 : Int) := of_decide_eq_true q4_; have q102 : x5_1 < (l1.length : Int) := of_decide_eq_true q4_; obtain ⟨ad102, e102, hx102_0⟩ := Kd.at_int HR1.1 x5_1 p102 q102; cases e102
        replace p102 := eq_true p102; replace q102 := eq_true q102; go_wp2
        repeat (go_quiet (fail); try go_wp2)
        go_ret
        exact ⟨q2_, q5_⟩
      ·rw [if_neg c6] at H; exact absurd H (by simp)
     ·rw [if_neg c5] at H; exact absurd H (by simp)
    ·rw [if_neg c4] at H; have c4b0 := decide_eq_false c4; clear c4; obtain rfl := Option.some.inj H; go_wp2
     repeat (go_quiet (fail); try go_wp2)
     go_ret
     exact ⟨q2_, q5_⟩
 ·rw [if_neg c3] at H; have c3b0 := beq_eq_false_iff_ne.mpr c3; have c3b1 : ((l0.length : Int) != (l1.length : Int)) = true := bne_iff_ne.mpr c3; have c3b2 : (l0.length == l1.length) = false := q117_; obtain rfl := Option.some.inj H; go_enter Tryz.func16, Tryz.ntmps16
  go_wp2
  repeat (go_quiet (fail); try go_wp2)
  go_ret
  exact ⟨q2_, q5_⟩

def laws_eqWire.f (k : Nat) (l0_0 : List Int) (a0_1 : Int) (l1_0 : List Int) (a1_1 : Int) : Option (Bool) := (laws_eqByteS.f k l0_0 l1_0).bind fun t105 => (if t105 = true then (if a0_1 = a1_1 then (some true) else (some false)) else (some false))

theorem laws_eqWire.calls (k : Nat) (A0_0 : Option Addr) (c0_0 : Nat) (l0_0 : List Int) (a0_1 : Int) (A1_0 : Option Addr) (c1_0 : Nat) (l1_0 : List Int) (a1_1 : Int) (r : Bool) (w : World) (hr0_0 : Kd.C (Kd.int .u8) w A0_0 l0_0.length l0_0) (hc0_0 : l0_0.length ≤ c0_0) (hr1_0 : Kd.C (Kd.int .u8) w A1_0 l1_0.length l1_0) (hc1_0 : l1_0.length ≤ c1_0) (h : laws_eqWire.f k l0_0 a0_1 l1_0 a1_1 = some r) :
  Calls Tryz.prog 14 #[.agg #[.slice A0_0 l0_0.length c0_0, .int .i64 a0_1], .agg #[.slice A1_0 l1_0.length c1_0, .int .i64 a1_1]] w fun e w' => e = .returned (.bool r) ∧ Below w.heap.size w w' := by
 have hu26 := Tryz.underlying26; have HR0_0 := aK hr0_0; have HC0_0 := aK hc0_0; clear hr0_0 hc0_0; have HR1_0 := aK hr1_0; have HC1_0 := aK hc1_0; clear hr1_0 hc1_0; have HB := aK (Below.refl w.heap.size w); have H := h; clear h; unfold laws_eqWire.f at H
 replace H := oB H; obtain ⟨t105, A3, H⟩ := H; (try dsimp only at H); by_cases c4 : t105 = true
 ·subst c4; rw [if_pos rfl] at H; by_cases c5 : a0_1 = a1_1
  ·rw [if_pos c5] at H; have c5b0 := beq_iff_eq.mpr c5; have c5b1 : (a0_1 != a1_1) = false := bne_eq_false_iff_eq.mpr c5; clear c5; obtain rfl := Option.some.inj H; go_enter Tryz.func14, Tryz.ntmps14
   go_wp2_with (first | ((with_reducible refine gate_dst (N := 2) rfl ?_); refine box_event ?hg (N := 2) ?hd (cs := #[.slice A0_0 l0_0.length c0_0, .int .i64 a0_1]) (t := 26) ?hr ?_; (case hd => rfl); (case hg => rfl); (case hr => exact q28_); intro gb103 hg w6 hbox hb; have BK103 := aK (hbox); have GW103 := aK ((q60_ : w.heap.size ≤ gb103)); have GE103 := aK ((q60_ : w.heap.size ≤ gb103)); replace HB := aK (below_step q1_ hb); clear hb hbox hg) | ((with_reducible refine gate_dst (N := 3) rfl ?_); refine box_event ?hg (N := 3) ?hd (cs := #[.slice A1_0 l1_0.length c1_0, .int .i64 a1_1]) (t := 26) ?hr ?_; (case hd => rfl); (case hg => rfl); (case hr => exact q28_); intro gb104 hg w7 hbox hb; have BK104 := aK (hbox); have GW104 := aK ((q171_ : w.heap.size ≤ gb104)); have GE104 := aK ((q171_ : w.heap.size ≤ gb104)); replace HB := aK (below_step q46_ hb); have NB103_104 := aK ((q129_ : gb103 ≠ gb104)); have NB104_103 := aK ((q130_ : gb104 ≠ gb103)); replace BK103 := aK (bbk_ BK103.1 hb); clear hb hbox hg; have hnb8 := NB103_104.1; have hnc8 := NB104_103.1; have hcz9 := cel2 BK103.1; have hcz10 := cel2 BK104.1) | ((with_reducible refine gate_callee (f := 16) rfl ?_); refine goesL_ (some 9) rfl rfl Tryz.func16 (by kernel_rfl) rfl #[.slice A0_0 l0_0.length c0_0, .slice A1_0 l1_0.length c1_0] rfl q3_ ?_; (with_reducible refine (laws_eqByteS.calls k _ _ l0_0 _ _ l1_0 true _ ?side1 ?side2 ?side3 ?side4 A3.1).mono ?_); (case side1 => exact q50_); (case side2 => exact HC0_0.1); (case side3 => exact q102_); (case side4 => exact HC1_0.1); rintro e w' ⟨rfl, ⟨nd, rfl⟩⟩; refine ⟨_, rfl, ?_⟩))
   go_ret
   exact ⟨q7_, q99_⟩
  ·rw [if_neg c5] at H; have c5b0 := beq_eq_false_iff_ne.mpr c5; have c5b1 : (a0_1 != a1_1) = true := bne_iff_ne.mpr c5; obtain rfl := Option.some.inj H; go_enter Tryz.func14, Tryz.ntmps14
   go_wp2_with (first | ((with_reducible refine gate_dst (N := 2) rfl ?_); refine box_event ?hg (N := 2) ?hd (cs := #[.slice A0_0 l0_0.length c0_0, .int .i64 a0_1]) (t := 26) ?hr ?_; (case hd => rfl); (case hg => rfl); (case hr => exact q28_); intro gb103 hg w11 hbox hb; have BK103 := aK (hbox); have GW103 := aK ((q60_ : w.heap.size ≤ gb103)); have GE103 := aK ((q60_ : w.heap.size ≤ gb103)); replace HB := aK (below_step q1_ hb); clear hb hbox hg) | ((with_reducible refine gate_dst (N := 3) rfl ?_); refine box_event ?hg (N := 3) ?hd (cs := #[.slice A1_0 l1_0.length c1_0, .int .i64 a1_1]) (t := 26) ?hr ?_; (case hd => rfl); (case hg => rfl); (case hr => exact q28_); intro gb104 hg w12 hbox hb; have BK104 := aK (hbox); have GW104 := aK ((q171_ : w.heap.size ≤ gb104)); have GE104 := aK ((q171_ : w.heap.size ≤ gb104)); replace HB := aK (below_step q46_ hb); have NB103_104 := aK ((q129_ : gb103 ≠ gb104)); have NB104_103 := aK ((q130_ : gb104 ≠ gb103)); replace BK103 := aK (bbk_ BK103.1 hb); clear hb hbox hg; have hnb13 := NB103_104.1; have hnc13 := NB104_103.1; have hcz14 := cel2 BK103.1; have hcz15 := cel2 BK104.1) | ((with_reducible refine gate_callee (f := 16) rfl ?_); refine goesL_ (some 9) rfl rfl Tryz.func16 (by kernel_rfl) rfl #[.slice A0_0 l0_0.length c0_0, .slice A1_0 l1_0.length c1_0] rfl q3_ ?_; (with_reducible refine (laws_eqByteS.calls k _ _ l0_0 _ _ l1_0 true _ ?side1 ?side2 ?side3 ?side4 A3.1).mono ?_); (case side1 => exact q50_); (case side2 => exact HC0_0.1); (case side3 => exact q102_); (case side4 => exact HC1_0.1); rintro e w' ⟨rfl, ⟨nd, rfl⟩⟩; refine ⟨_, rfl, ?_⟩))
   go_ret
   exact ⟨q7_, q99_⟩
 ·replace c4 := Bool.eq_false_iff.mpr c4; subst c4; rw [if_neg (show ¬ (false = true) by decide)] at H; obtain rfl := Option.some.inj H; go_enter Tryz.func14, Tryz.ntmps14
  go_wp2_with (first | ((with_reducible refine gate_dst (N := 2) rfl ?_); refine box_event ?hg (N := 2) ?hd (cs := #[.slice A0_0 l0_0.length c0_0, .int .i64 a0_1]) (t := 26) ?hr ?_; (case hd => rfl); (case hg => rfl); (case hr => exact q28_); intro gb103 hg w16 hbox hb; have BK103 := aK (hbox); have GW103 := aK ((q60_ : w.heap.size ≤ gb103)); have GE103 := aK ((q60_ : w.heap.size ≤ gb103)); replace HB := aK (below_step q1_ hb); clear hb hbox hg) | ((with_reducible refine gate_dst (N := 3) rfl ?_); refine box_event ?hg (N := 3) ?hd (cs := #[.slice A1_0 l1_0.length c1_0, .int .i64 a1_1]) (t := 26) ?hr ?_; (case hd => rfl); (case hg => rfl); (case hr => exact q28_); intro gb104 hg w17 hbox hb; have BK104 := aK (hbox); have GW104 := aK ((q171_ : w.heap.size ≤ gb104)); have GE104 := aK ((q171_ : w.heap.size ≤ gb104)); replace HB := aK (below_step q46_ hb); have NB103_104 := aK ((q129_ : gb103 ≠ gb104)); have NB104_103 := aK ((q130_ : gb104 ≠ gb103)); replace BK103 := aK (bbk_ BK103.1 hb); clear hb hbox hg; have hnb18 := NB103_104.1; have hnc18 := NB104_103.1; have hcz19 := cel2 BK103.1; have hcz20 := cel2 BK104.1) | ((with_reducible refine gate_callee (f := 16) rfl ?_); refine goesL_ (some 9) rfl rfl Tryz.func16 (by kernel_rfl) rfl #[.slice A0_0 l0_0.length c0_0, .slice A1_0 l1_0.length c1_0] rfl q3_ ?_; (with_reducible refine (laws_eqByteS.calls k _ _ l0_0 _ _ l1_0 false _ ?side1 ?side2 ?side3 ?side4 A3.1).mono ?_); (case side1 => exact q50_); (case side2 => exact HC0_0.1); (case side3 => exact q102_); (case side4 => exact HC1_0.1); rintro e w' ⟨rfl, ⟨nd, rfl⟩⟩; refine ⟨_, rfl, ?_⟩))
  go_ret
  exact ⟨q7_, q99_⟩

def laws_eqHead.f (a0_0 : ByteArray) (a0_1 : ByteArray) (a1_0 : ByteArray) (a1_1 : ByteArray) : Option (Bool) := if a0_0.toList = a1_0.toList then (if a0_1.toList = a1_1.toList then (some true) else (some false)) else (some false)
theorem laws_eqHead.calls (a0_0 : ByteArray) (a0_1 : ByteArray) (a1_0 : ByteArray) (a1_1 : ByteArray) (r : Bool) (w : World) (h : laws_eqHead.f a0_0 a0_1 a1_0 a1_1 = some r) :
  Calls Tryz.prog 118 #[.agg #[.string a0_0, .string a0_1], .agg #[.string a1_0, .string a1_1]] w fun e w' => e = .returned (.bool r) ∧ Below w.heap.size w w' := by
 have hu113 := Tryz.underlying113; have HB := aK (Below.refl w.heap.size w); have H := h; clear h; unfold laws_eqHead.f at H
 have HC3 := aK H; clear H; go_enter Tryz.func118, Tryz.ntmps118
 go_upto_if 9 with (first | ((with_reducible refine gate_dst (N := 2) rfl ?_); refine box_event ?hg (N := 2) ?hd (cs := #[.string a0_0, .string a0_1]) (t := 113) ?hr ?_; (case hd => rfl); (case hg => rfl); (case hr => exact q28_); intro gb106 hg w4 hbox hb; have BK106 := aK (hbox); have GW106 := aK ((q60_ : w.heap.size ≤ gb106)); have GE106 := aK ((q60_ : w.heap.size ≤ gb106)); replace HB := aK (below_step q1_ hb); clear hb hbox hg) | ((with_reducible refine gate_dst (N := 3) rfl ?_); refine box_event ?hg (N := 3) ?hd (cs := #[.string a1_0, .string a1_1]) (t := 113) ?hr ?_; (case hd => rfl); (case hg => rfl); (case hr => exact q28_); intro gb107 hg w5 hbox hb; have BK107 := aK (hbox); have GW107 := aK ((by rw [hg]; exact (below_size q110_) : w.heap.size ≤ gb107)); have GE107 := aK ((by rw [hg]; exact (below_size q110_) : w.heap.size ≤ gb107)); replace HB := aK (below_step q110_ hb); have NB106_107 := aK ((by rw [hg]; exact Nat.ne_of_lt (blk_lt (g := gb106) (o := .cells #[.string a0_0, .string a0_1] 113 (0, 0)) q195_) : gb106 ≠ gb107)); have NB107_106 := aK ((by rw [hg]; exact Nat.ne_of_gt (blk_lt (g := gb106) (o := .cells #[.string a0_0, .string a0_1] 113 (0, 0)) q195_) : gb107 ≠ gb106)); replace BK106 := aK (bbk_ BK106.1 hb); clear hb hbox hg; have hnb6 := NB106_107.1; have hnc6 := NB107_106.1; have hcz7 := cel2 BK106.1; have hcz8 := cel2 BK107.1))
 (try simp only [Act.put, sI, sZ, sS]); have H := HC3.1; clear HC3; by_cases c9 : a0_0.toList = a1_0.toList
 ·rw [if_pos c9] at H; have c9b0 := beq_iff_eq.mpr c9; have c9b1 : (a0_0.toList != a1_0.toList) = false := bne_eq_false_iff_eq.mpr c9; clear c9; (first | rw [c9b0] | rw [c9i0] | (simp only [i64_w, i32_w]; rw [c9b0]) | skip); by_cases c10 : a0_1.toList = a1_1.toList
  ·rw [if_pos c10] at H; have c10b0 := beq_iff_eq.mpr c10; have c10b1 : (a0_1.toList != a1_1.toList) = false := bne_eq_false_iff_eq.mpr c10; clear c10; obtain rfl := Option.some.inj H; have hnb11 := NB106_107.1; have hnc11 := NB107_106.1; have hcz12 := cel2 BK106.1; have hcz13 := cel2 BK107.1; go_wp2
   go_ret
   exact ⟨q7_, q98_⟩
  ·rw [if_neg c10] at H; have c10b0 := beq_eq_false_iff_ne.mpr c10; have c10b1 : (a0_1.toList != a1_1.toList) = true := bne_iff_ne.mpr c10; obtain rfl := Option.some.inj H; have hnb14 := NB106_107.1; have hnc14 := NB107_106.1; have hcz15 := cel2 BK106.1; have hcz16 := cel2 BK107.1; go_wp2
   go_ret
   exact ⟨q7_, q98_⟩
 ·rw [if_neg c9] at H; have c9b0 := beq_eq_false_iff_ne.mpr c9; have c9b1 : (a0_0.toList != a1_0.toList) = true := bne_iff_ne.mpr c9; (first | rw [c9b0] | rw [c9i0] | (simp only [i64_w, i32_w]; rw [c9b0]) | skip); obtain rfl := Option.some.inj H; go_wp2
  go_ret
  exact ⟨q7_, q98_⟩

def laws_eqHeadS.l0 : Nat → List (S113) → List (S113) → Int → Option (Bool)
 | 0, _, _, _ => none
 | k + 1, x0, x1, x5 => if x5 < (x0.length : Int) then (if 0 ≤ x5 then (if x5 < (x1.length : Int) then ((laws_eqHead.f ((rd_T113 x0 x5).f0) ((rd_T113 x0 x5).f1) ((rd_T113 x1 x5).f0) ((rd_T113 x1 x5).f1)).bind fun t110 => (if t110 = true then (laws_eqHeadS.l0 k x0 x1 (wrap64 (x5 + 1))) else (some false))) else (none)) else (none)) else (some true)
def laws_eqHeadS.f (k : Nat) (l0 : List (S113)) (l1 : List (S113)) : Option (Bool) := if (l0.length : Int) = (l1.length : Int) then (laws_eqHeadS.l0 k l0 l1 0) else (some false)

def laws_eqHeadS.T6 : Bool × List (List Nat × List Nat) := (true, [([], []), ([], []), ([0, 1], [0, 1]), ([2], [2]), ([], []), ([], []), ([4, 5], [4, 5]), ([6], [6]), ([3, 7], [3, 7]), ([8], [8])])
def laws_eqHeadS.B6 : List Nat := [0, 0, 3, 7, 0, 0, 48, 112, 255, 511]
theorem laws_eqHeadS.tab6 : rtab .any (opsOf Tryz.f93 6) = laws_eqHeadS.T6 := by kernel_rfl
theorem laws_eqHeadS.bits6 : waitsOk laws_eqHeadS.T6.2 laws_eqHeadS.B6 = true := by kernel_rfl
theorem laws_eqHeadS.calls (k : Nat) (A0 : Option Addr) (c0 : Nat) (l0 : List (S113)) (A1 : Option Addr) (c1 : Nat) (l1 : List (S113)) (r : Bool) (w : World) (hr0 : Kd.C k113 w A0 l0.length l0) (hc0 : l0.length ≤ c0) (hr1 : Kd.C k113 w A1 l1.length l1) (hc1 : l1.length ≤ c1) (h : laws_eqHeadS.f k l0 l1 = some r) :
  Calls Tryz.prog 93 #[.slice A0 l0.length c0, .slice A1 l1.length c1] w fun e w' => e = .returned (.bool r) ∧ Below w.heap.size w w' := by
 have hu113 := Tryz.underlying113; have HR0 := aK hr0; have HC0 := aK hc0; clear hr0 hc0; have HR1 := aK hr1; have HC1 := aK hc1; clear hr1 hc1; have HB := aK (Below.refl w.heap.size w); have H : (if (l0.length : Int) = (l1.length : Int) then (laws_eqHeadS.l0 k l0 l1 0) else (some false)) = some r := h; clear h; by_cases c3 : (l0.length : Int) = (l1.length : Int)
 ·rw [if_pos c3] at H; have c3b0 := beq_iff_eq.mpr c3; have c3b1 : ((l0.length : Int) != (l1.length : Int)) = false := bne_eq_false_iff_eq.mpr c3; have c3b2 : (l0.length == l1.length) = true := q117_; clear c3; have H' := aK H; clear H; go_enter Tryz.func93, Tryz.ntmps93
  go_wp2
  go_loopg [5] k (fun kq v5 w' => ∃ (x5_1 : Int), v5 = .int .i64 x5_1 ∧ Aside0 (laws_eqHeadS.l0 kq l0 l1 x5_1 = some r) ∧ Aside0 (kq ≤ k) ∧ Aside0 (Below w.heap.size w w'))
  case atStart => exact ⟨(0), q2_, H', ⟨Nat.le_refl _⟩, ⟨q1_⟩⟩
  case round =>
   clear H'; (try clear c1); (try clear p2); (try clear c3); (try clear c3b0); (try clear c3b1); (try clear c3b2); obtain ⟨x5_1, rfl, HA, HK1, HB⟩ := hrel; cases gk with
   | zero => exact absurd HA.1 (by simp [laws_eqHeadS.l0])
   | succ k1 =>
    have H := HA.1; clear HA; simp only [laws_eqHeadS.l0] at H; by_cases c4 : x5_1 < (l0.length : Int)
    ·rw [if_pos c4] at H; have c4b0 := decide_eq_true c4; clear c4; by_cases c5 : 0 ≤ x5_1
     ·rw [if_pos c5] at H; have c5b0 := decide_eq_true c5; clear c5; by_cases c6 : x5_1 < (l1.length : Int)
      ·rw [if_pos c6] at H; have c6b0 := decide_eq_true c6; clear c6; replace H := oB H; obtain ⟨t110, A7, H⟩ := H; (try dsimp only at H); have HC8 := aK H; clear H; try go_wp2
       replace HB := aK (dB_ HB.1); have p108 : 0 ≤ (x5_1 : Int) := of_decide_eq_true q4_; have q108 : x5_1 < (l0.length : Int) := of_decide_eq_true q4_; obtain ⟨ad108, e108, hx108_0, hx108_1⟩ := at_T113 HR0.1 x5_1 p108 q108; have hw108_1 := hx108_1; have hw108_0 := hx108_0; cases e108
       replace hx108_0 := (HB.1.cell (World.block_lt_of_cell? w _ hx108_0)).trans hx108_0; replace hx108_1 := (HB.1.cell (World.block_lt_of_cell? w _ hx108_1)).trans hx108_1; replace p108 := eq_true p108; replace q108 := eq_true q108; have p109 : 0 ≤ (x5_1 : Int) := of_decide_eq_true q4_; have q109 : x5_1 < (l1.length : Int) := of_decide_eq_true q4_; obtain ⟨ad109, e109, hx109_0, hx109_1⟩ := at_T113 HR1.1 x5_1 p109 q109; have hw109_1 := hx109_1; have hw109_0 := hx109_0; cases e109
       replace hx109_0 := (HB.1.cell (World.block_lt_of_cell? w _ hx109_0)).trans hx109_0; replace hx109_1 := (HB.1.cell (World.block_lt_of_cell? w _ hx109_1)).trans hx109_1; replace p109 := eq_true p109; replace q109 := eq_true q109; refine start_ (n := 10) (S := fun w' => w'.cell? (ad108.add ((x5_1).toNat * 2)) = some (.string ((rd_T113 l0 x5_1).f0)) ∧ w'.cell? ⟨(ad108.add ((x5_1).toNat * 2)).block, (ad108.add ((x5_1).toNat * 2)).off + 1, none⟩ = some (.string ((rd_T113 l0 x5_1).f1)) ∧ w'.cell? (ad109.add ((x5_1).toNat * 2)) = some (.string ((rd_T113 l1 x5_1).f0)) ∧ w'.cell? ⟨(ad109.add ((x5_1).toNat * 2)).block, (ad109.add ((x5_1).toNat * 2)).off + 1, none⟩ = some (.string ((rd_T113 l1 x5_1).f1))) (ds := []) #[Z, Z, Z, Z, Z, Z, Z, Z, Z, Z] (by kernel_rfl) rfl rfl ⟨((HB.1.cell (World.block_lt_of_cell? w _ hw108_0)).trans hw108_0), ((HB.1.cell (World.block_lt_of_cell? w _ hw108_1)).trans hw108_1), ((HB.1.cell (World.block_lt_of_cell? w _ hw109_0)).trans hw109_0), ((HB.1.cell (World.block_lt_of_cell? w _ hw109_1)).trans hw109_1)⟩ (fun hHeld => ?_); refine with_tabW laws_eqHeadS.tab6 laws_eqHeadS.bits6 (fun HT_ HW_ => ?_); generalize wr.drew = w9 at HB hx108_0 hx108_1 hx109_0 hx109_1 hHeld ⊢; refine pz_ 0 (some 17) HT_.1 ?_; refine pz_ 1 (some 18) HT_.1 ?_; refine pz_ 2 (some 19) HT_.1 ?_; refine pz_ 4 (some 21) HT_.1 ?_; refine pz_ 5 (some 22) HT_.1 ?_; refine pz_ 6 (some 23) HT_.1 ?_; refine tz_ 3 (some 20) HT_.1 HW_.1 hHeld ?_; refine tz_ 7 (some 24) HT_.1 HW_.1 hHeld ?_; refine oz_ 8 (some 25) HT_.1 (fun K hK => ?_); refine goes_ Tryz.func118 (by kernel_rfl) rfl #[.agg #[.string ((rd_T113 l0 x5_1).f0), .string ((rd_T113 l0 x5_1).f1)], .agg #[.string ((rd_T113 l1 x5_1).f0), .string ((rd_T113 l1 x5_1).f1)]] (by rfl) rfl rfl q3_ ?_; with_reducible refine (laws_eqHead.calls ((rd_T113 l0 x5_1).f0) ((rd_T113 l0 x5_1).f1) ((rd_T113 l1 x5_1).f0) ((rd_T113 l1 x5_1).f1) t110 _ A7.1).mono ?_
       rintro e w10 ⟨rfl, hb⟩; refine ⟨_, rfl, ?_⟩; replace HB := aK (below_step q1_ hb); clear hb; refine hK.out _ _ ⟨((HB.1.cell (World.block_lt_of_cell? w _ hw108_0)).trans hw108_0), ((HB.1.cell (World.block_lt_of_cell? w _ hw108_1)).trans hw108_1), ((HB.1.cell (World.block_lt_of_cell? w _ hw109_0)).trans hw109_0), ((HB.1.cell (World.block_lt_of_cell? w _ hw109_1)).trans hw109_1)⟩ (fun hHeld => ?_); clear hK K; refine nz_ (some 25) ?_; refine pz_ 9 (some 26) HT_.1 ?_; refine done_ (done_of HT_.1 (by kernel_rfl)) ?_; go_upto_if 26 with (fail)
       have H := HC8.1; clear HC8; by_cases c11 : t110 = true
       ·subst c11; rw [if_pos rfl] at H; have H' := aK H; clear H; go_wp2
        go_roundg k1
        case measure => have := HK1.1; omega
        case rel => exact ⟨(wrap64 (x5_1 + 1)), q2_, H', ⟨q64_⟩, ⟨q1_⟩⟩
       ·replace c11 := Bool.eq_false_iff.mpr c11; subst c11; rw [if_neg (show ¬ (false = true) by decide)] at H; obtain rfl := Option.some.inj H; go_wp2
        go_ret
        exact ⟨q7_, q1_⟩
      ·rw [if_neg c6] at H; exact absurd H (by simp)
     ·rw [if_neg c5] at H; exact absurd H (by simp)
    ·rw [if_neg c4] at H; have c4b0 := decide_eq_false c4; clear c4; obtain rfl := Option.some.inj H; go_wp2
     go_ret
     exact ⟨q7_, q1_⟩
 ·rw [if_neg c3] at H; have c3b0 := beq_eq_false_iff_ne.mpr c3; have c3b1 : ((l0.length : Int) != (l1.length : Int)) = true := bne_iff_ne.mpr c3; have c3b2 : (l0.length == l1.length) = false := q117_; obtain rfl := Option.some.inj H; go_enter Tryz.func93, Tryz.ntmps93
  go_wp2
  go_ret
  exact ⟨q7_, q1_⟩

def laws_eqReq.f (k : Nat) (a0_0 : ByteArray) (a0_1 : ByteArray) (l0_2 : List (S113)) (a0_3 : ByteArray) (a1_0 : ByteArray) (a1_1 : ByteArray) (l1_2 : List (S113)) (a1_3 : ByteArray) : Option (Bool) := if a0_0.toList = a1_0.toList then (if a0_1.toList = a1_1.toList then ((laws_eqHeadS.f k l0_2 l1_2).bind fun t113 => (if t113 = true then (if a0_3.toList = a1_3.toList then (some true) else (some false)) else (some false))) else (some false)) else (some false)

theorem laws_eqReq.calls (k : Nat) (a0_0 : ByteArray) (a0_1 : ByteArray) (A0_2 : Option Addr) (c0_2 : Nat) (l0_2 : List (S113)) (a0_3 : ByteArray) (a1_0 : ByteArray) (a1_1 : ByteArray) (A1_2 : Option Addr) (c1_2 : Nat) (l1_2 : List (S113)) (a1_3 : ByteArray) (r : Bool) (w : World) (hr0_2 : Kd.C k113 w A0_2 l0_2.length l0_2) (hc0_2 : l0_2.length ≤ c0_2) (hr1_2 : Kd.C k113 w A1_2 l1_2.length l1_2) (hc1_2 : l1_2.length ≤ c1_2) (h : laws_eqReq.f k a0_0 a0_1 l0_2 a0_3 a1_0 a1_1 l1_2 a1_3 = some r) :
  Calls Tryz.prog 57 #[.agg #[.string a0_0, .string a0_1, .slice A0_2 l0_2.length c0_2, .string a0_3], .agg #[.string a1_0, .string a1_1, .slice A1_2 l1_2.length c1_2, .string a1_3]] w fun e w' => e = .returned (.bool r) ∧ Below w.heap.size w w' := by
 have hu53 := Tryz.underlying53; have HR0_2 := aK hr0_2; have HC0_2 := aK hc0_2; clear hr0_2 hc0_2; have HR1_2 := aK hr1_2; have HC1_2 := aK hc1_2; clear hr1_2 hc1_2; have HB := aK (Below.refl w.heap.size w); have H := h; clear h; unfold laws_eqReq.f at H
 have HC3 := aK H; clear H; go_enter Tryz.func57, Tryz.ntmps57
 go_upto_if 9 with (first | ((with_reducible refine gate_dst (N := 2) rfl ?_); refine box_event ?hg (N := 2) ?hd (cs := #[.string a0_0, .string a0_1, .slice A0_2 l0_2.length c0_2, .string a0_3]) (t := 53) ?hr ?_; (case hd => rfl); (case hg => rfl); (case hr => exact q28_); intro gb111 hg w4 hbox hb; have BK111 := aK (hbox); have GW111 := aK ((q60_ : w.heap.size ≤ gb111)); have GE111 := aK ((q60_ : w.heap.size ≤ gb111)); replace HB := aK (below_step q1_ hb); clear hb hbox hg) | ((with_reducible refine gate_dst (N := 3) rfl ?_); refine box_event ?hg (N := 3) ?hd (cs := #[.string a1_0, .string a1_1, .slice A1_2 l1_2.length c1_2, .string a1_3]) (t := 53) ?hr ?_; (case hd => rfl); (case hg => rfl); (case hr => exact q28_); intro gb112 hg w5 hbox hb; have BK112 := aK (hbox); have GW112 := aK ((by rw [hg]; exact (below_size q109_) : w.heap.size ≤ gb112)); have GE112 := aK ((by rw [hg]; exact (below_size q109_) : w.heap.size ≤ gb112)); replace HB := aK (below_step q109_ hb); have NB111_112 := aK ((by rw [hg]; exact Nat.ne_of_lt (blk_lt (g := gb111) (o := .cells #[.string a0_0, .string a0_1, .slice A0_2 l0_2.length c0_2, .string a0_3] 53 (0, 0)) q194_) : gb111 ≠ gb112)); have NB112_111 := aK ((by rw [hg]; exact Nat.ne_of_gt (blk_lt (g := gb111) (o := .cells #[.string a0_0, .string a0_1, .slice A0_2 l0_2.length c0_2, .string a0_3] 53 (0, 0)) q194_) : gb112 ≠ gb111)); replace BK111 := aK (bbk_ BK111.1 hb); clear hb hbox hg; have hnb6 := NB111_112.1; have hnc6 := NB112_111.1; have hcz7 := cel4 BK111.1; have hcz8 := cel4 BK112.1))
 (try simp only [Act.put, sI, sZ, sS]); have H := HC3.1; clear HC3; by_cases c9 : a0_0.toList = a1_0.toList
 ·rw [if_pos c9] at H; have c9b0 := beq_iff_eq.mpr c9; have c9b1 : (a0_0.toList != a1_0.toList) = false := bne_eq_false_iff_eq.mpr c9; clear c9; (first | rw [c9b0] | rw [c9i0] | (simp only [i64_w, i32_w]; rw [c9b0]) | skip); by_cases c10 : a0_1.toList = a1_1.toList
  ·rw [if_pos c10] at H; have c10b0 := beq_iff_eq.mpr c10; have c10b1 : (a0_1.toList != a1_1.toList) = false := bne_eq_false_iff_eq.mpr c10; clear c10; replace H := oB H; obtain ⟨t113, A11, H⟩ := H; (try dsimp only at H); have HC12 := aK H; clear H; have hnb13 := NB111_112.1; have hnc13 := NB112_111.1; have hcz14 := cel4 BK111.1; have hcz15 := cel4 BK112.1; go_upto_if 20 with (first | ((with_reducible refine gate_callee (f := 93) rfl ?_); refine goesL_ (some 19) rfl rfl Tryz.func93 (by kernel_rfl) rfl #[.slice A0_2 l0_2.length c0_2, .slice A1_2 l1_2.length c1_2] rfl q3_ ?_; (with_reducible refine (laws_eqHeadS.calls k _ _ l0_2 _ _ l1_2 t113 _ ?side1 ?side2 ?side3 ?side4 A11.1).mono ?_); (case side1 => repeat (first | exact (Kd.C_below HR0_2.1 HB.1) | (with_reducible refine Kd.C_alloc ?_ _) | (with_reducible refine Kd.C_drewN ?_ _) | (with_reducible refine Kd.C_drew ?_))); (case side2 => exact HC0_2.1); (case side3 => repeat (first | exact (Kd.C_below HR1_2.1 HB.1) | (with_reducible refine Kd.C_alloc ?_ _) | (with_reducible refine Kd.C_drewN ?_ _) | (with_reducible refine Kd.C_drew ?_))); (case side4 => exact HC1_2.1); rintro e w16 ⟨rfl, hb⟩; refine ⟨_, rfl, ?_⟩; replace BK111 := aK (bbk_ BK111.1 hb); replace BK112 := aK (bbk_ BK112.1 hb); replace HB := aK (below_step q62_ hb); clear hb))
   (try simp only [Act.put, sI, sZ, sS]); have H := HC12.1; clear HC12; by_cases c17 : t113 = true
   ·subst c17; rw [if_pos rfl] at H; by_cases c18 : a0_3.toList = a1_3.toList
    ·rw [if_pos c18] at H; have c18b0 := beq_iff_eq.mpr c18; have c18b1 : (a0_3.toList != a1_3.toList) = false := bne_eq_false_iff_eq.mpr c18; clear c18; (first | rw [c18b0] | rw [c18i0] | (simp only [i64_w, i32_w]; rw [c18b0]) | skip); obtain rfl := Option.some.inj H; have hnb19 := NB111_112.1; have hnc19 := NB112_111.1; have hcz20 := cel4 BK111.1; have hcz21 := cel4 BK112.1; go_wp2
     go_ret
     exact ⟨q7_, q62_⟩
    ·rw [if_neg c18] at H; have c18b0 := beq_eq_false_iff_ne.mpr c18; have c18b1 : (a0_3.toList != a1_3.toList) = true := bne_iff_ne.mpr c18; (first | rw [c18b0] | rw [c18i0] | (simp only [i64_w, i32_w]; rw [c18b0]) | skip); obtain rfl := Option.some.inj H; have hnb22 := NB111_112.1; have hnc22 := NB112_111.1; have hcz23 := cel4 BK111.1; have hcz24 := cel4 BK112.1; go_wp2
     go_ret
     exact ⟨q7_, q62_⟩
   ·replace c17 := Bool.eq_false_iff.mpr c17; subst c17; rw [if_neg (show ¬ (false = true) by decide)] at H; obtain rfl := Option.some.inj H; go_wp2
    go_ret
    exact ⟨q7_, q62_⟩
  ·rw [if_neg c10] at H; have c10b0 := beq_eq_false_iff_ne.mpr c10; have c10b1 : (a0_1.toList != a1_1.toList) = true := bne_iff_ne.mpr c10; obtain rfl := Option.some.inj H; have hnb25 := NB111_112.1; have hnc25 := NB112_111.1; have hcz26 := cel4 BK111.1; have hcz27 := cel4 BK112.1; go_wp2
   go_ret
   exact ⟨q7_, q62_⟩
 ·rw [if_neg c9] at H; have c9b0 := beq_eq_false_iff_ne.mpr c9; have c9b1 : (a0_0.toList != a1_0.toList) = true := bne_iff_ne.mpr c9; (first | rw [c9b0] | rw [c9i0] | (simp only [i64_w, i32_w]; rw [c9b0]) | skip); obtain rfl := Option.some.inj H; go_wp2
  go_ret
  exact ⟨q7_, q62_⟩

end Go.Proofs.YtaajhdljdmbhhaaGreatDoor.GFnExactFeedAll
