-- by gprint.py (this session's program over the kit's print.py) (a twelfth state) out of the translation. Not trusted: Lean checks it.
import Derived.Test.YtaajhdljdmbhhaaGreatDoorGFnExactFeedAllx0
import Derived.Test.YtaajhdljdmbhhaaGreatDoorGFnExactFeedAllx2
namespace Go.Proofs.YtaajhdljdmbhhaaGreatDoor.GFnExactFeedAll
open Go.RowKit Go.Proofs.YtaajhdljdmbhhaaGreatDoorW.PrintWords Go.Proofs.YtaajhdljdmbhhaaGreatDoorW.PrintLast Go.Proofs.YtaajhdljdmbhhaaGreatDoorW.PrintMore
attribute [local go_sem] max2_int min2_int max_two min_two max_three min_three max_four min_four   -- for this text's walks alone
set_option linter.unusedVariables false
set_option linter.unusedSimpArgs false
set_option maxRecDepth 100000
set_option maxHeartbeats 8000000

def laws_heldHeadS.l0 : Nat → List (S113) → Int → Int → Option (Int)
 | 0, _, _, _ => none
 | k + 1, x0, x1, x5 => if x5 < (x0.length : Int) then (if 0 ≤ x5 then ((laws_markText.f k x1).bind fun t132 => (if ((rd_T113 x0 x5).f0).toList = t132.toList then ((laws_markText.f k (wrap64 (x1 + 1))).bind fun t134 => (if ((rd_T113 x0 x5).f1).toList = t134.toList then (laws_heldHeadS.l0 k x0 (wrap64 ((wrap64 (x1 + 1)) + 1)) (wrap64 (x5 + 1))) else (some (-1)))) else (some (-1)))) else (none)) else (some x1)
def laws_heldHeadS.f (k : Nat) (l0 : List (S113)) (a1 : Int) : Option (Int) := laws_heldHeadS.l0 k l0 a1 0

def laws_heldHeadS.T4 : Bool × List (List Nat × List Nat) := (true, [([], []), ([], []), ([0, 1], [0, 1]), ([2], [2]), ([3], [3]), ([], []), ([5], [5]), ([4, 6], [4, 6])])
def laws_heldHeadS.B4 : List Nat := [0, 0, 3, 7, 15, 0, 32, 127]
theorem laws_heldHeadS.tab4 : rtab .any (opsOf Tryz.f61 4) = laws_heldHeadS.T4 := by kernel_rfl
theorem laws_heldHeadS.bits4 : waitsOk laws_heldHeadS.T4.2 laws_heldHeadS.B4 = true := by kernel_rfl
def laws_heldHeadS.T7 : Bool × List (List Nat × List Nat) := (true, [([], []), ([], []), ([0, 1], [0, 1]), ([2], [2]), ([3], [3]), ([], []), ([5], [5]), ([4, 6], [4, 6])])
def laws_heldHeadS.B7 : List Nat := [0, 0, 3, 7, 15, 0, 32, 127]
theorem laws_heldHeadS.tab7 : rtab .any (opsOf Tryz.f61 7) = laws_heldHeadS.T7 := by kernel_rfl
theorem laws_heldHeadS.bits7 : waitsOk laws_heldHeadS.T7.2 laws_heldHeadS.B7 = true := by kernel_rfl
theorem laws_heldHeadS.calls (k : Nat) (A0 : Option Addr) (c0 : Nat) (l0 : List (S113)) (a1 : Int) (r : Int) (w : World) (hr0 : Kd.C k113 w A0 l0.length l0) (hc0 : l0.length ≤ c0) (h : laws_heldHeadS.f k l0 a1 = some r) :
  Calls Tryz.prog 61 #[.slice A0 l0.length c0, .int .i64 a1] w fun e w' => e = .returned (.int .i64 r) ∧ Below w.heap.size w w' := by
 have HR0 := aK hr0; have HC0 := aK hc0; clear hr0 hc0; have HB := aK (Below.refl w.heap.size w); have H : (laws_heldHeadS.l0 k l0 a1 0) = some r := h; clear h; have H' := aK H; clear H; go_enter Tryz.func61, Tryz.ntmps61
 go_wp2
 go_loopg [1, 5] k (fun kq v1 v5 w' => ∃ (x1_1 : Int) (x5_1 : Int), v1 = .int .i64 x1_1 ∧ v5 = .int .i64 x5_1 ∧ Aside0 (laws_heldHeadS.l0 kq l0 x1_1 x5_1 = some r) ∧ Aside0 (kq ≤ k) ∧ Aside0 (Below w.heap.size w w'))
 case atStart => exact ⟨(a1), (0), q2_, q2_, H', ⟨Nat.le_refl _⟩, ⟨q1_⟩⟩
 case round =>
  clear H'; (try clear p2); obtain ⟨x1_1, x5_1, rfl, rfl, HA, HK1, HB⟩ := hrel; cases gk with
  | zero => exact absurd HA.1 (by simp [laws_heldHeadS.l0])
  | succ k1 =>
   have H := HA.1; clear HA; simp only [laws_heldHeadS.l0] at H; by_cases c3 : x5_1 < (l0.length : Int)
   ·rw [if_pos c3] at H; have c3b0 := decide_eq_true c3; clear c3; by_cases c4 : 0 ≤ x5_1
    ·rw [if_pos c4] at H; have c4b0 := decide_eq_true c4; clear c4; replace H := oB H; obtain ⟨t132, A5, H⟩ := H; (try dsimp only at H); have HC6 := aK H; clear H; try go_wp2
     replace HB := aK (dB_ HB.1); have p131 : 0 ≤ (x5_1 : Int) := of_decide_eq_true q4_; have q131 : x5_1 < (l0.length : Int) := of_decide_eq_true q4_; obtain ⟨ad131, e131, hx131_0, hx131_1⟩ := at_T113 HR0.1 x5_1 p131 q131; have hw131_1 := hx131_1; have hw131_0 := hx131_0; cases e131
     replace hx131_0 := (HB.1.cell (World.block_lt_of_cell? w _ hx131_0)).trans hx131_0; replace hx131_1 := (HB.1.cell (World.block_lt_of_cell? w _ hx131_1)).trans hx131_1; replace p131 := eq_true p131; replace q131 := eq_true q131; refine start_ (n := 8) (S := fun w' => w'.cell? (ad131.add ((x5_1).toNat * 2)) = some (.string ((rd_T113 l0 x5_1).f0)) ∧ w'.cell? ⟨(ad131.add ((x5_1).toNat * 2)).block, (ad131.add ((x5_1).toNat * 2)).off + 1, none⟩ = some (.string ((rd_T113 l0 x5_1).f1))) (ds := []) #[Z, Z, Z, Z, Z, Z, Z, Z] (by kernel_rfl) rfl rfl ⟨((HB.1.cell (World.block_lt_of_cell? w _ hw131_0)).trans hw131_0), ((HB.1.cell (World.block_lt_of_cell? w _ hw131_1)).trans hw131_1)⟩ (fun hHeld => ?_); refine with_tabW laws_heldHeadS.tab4 laws_heldHeadS.bits4 (fun HT_ HW_ => ?_); generalize wr.drew = w7 at HB hx131_0 hx131_1 hHeld ⊢; refine pz_ 0 (some 12) HT_.1 ?_; refine pz_ 1 (some 13) HT_.1 ?_; refine pz_ 2 (some 14) HT_.1 ?_; refine pz_ 3 (some 15) HT_.1 ?_; refine pz_ 5 (some 17) HT_.1 ?_; refine tz_ 4 (some 16) HT_.1 HW_.1 hHeld ?_; refine oz_ 6 (some 18) HT_.1 (fun K hK => ?_); refine goes_ Tryz.func58 (by kernel_rfl) rfl #[.int .i64 x1_1] (by rfl) rfl rfl q3_ ?_; with_reducible refine (laws_markText.calls k1 x1_1 t132 _ A5.1).mono ?_
     rintro e w8 ⟨rfl, hb⟩; refine ⟨_, rfl, ?_⟩; replace HB := aK (below_step q1_ hb); clear hb; refine hK.out _ _ ⟨((HB.1.cell (World.block_lt_of_cell? w _ hw131_0)).trans hw131_0), ((HB.1.cell (World.block_lt_of_cell? w _ hw131_1)).trans hw131_1)⟩ (fun hHeld => ?_); clear hK K; refine nz_ (some 18) ?_; refine pz_ 7 (some 19) HT_.1 ?_; refine done_ (done_of HT_.1 (by kernel_rfl)) ?_; go_upto_if 19 with (fail)
     have H := HC6.1; clear HC6; by_cases c9 : ((rd_T113 l0 x5_1).f0).toList = t132.toList
     ·rw [if_pos c9] at H; have c9b0 := beq_iff_eq.mpr c9; have c9b1 : (((rd_T113 l0 x5_1).f0).toList != t132.toList) = false := bne_eq_false_iff_eq.mpr c9; clear c9; (first | rw [c9b0] | rw [c9i0] | (simp only [i64_w, i32_w]; rw [c9b0]) | skip); replace H := oB H; obtain ⟨t134, A10, H⟩ := H; (try dsimp only at H); have HC11 := aK H; clear H; try go_wp2
      replace HB := aK (dB_ HB.1); have p133 : 0 ≤ (x5_1 : Int) := of_decide_eq_true q4_; have q133 : x5_1 < (l0.length : Int) := of_decide_eq_true q4_; obtain ⟨ad133, e133, hx133_0, hx133_1⟩ := at_T113 HR0.1 x5_1 p133 q133; have hw133_1 := hx133_1; have hw133_0 := hx133_0; obtain rfl : ad131 = ad133 := (by injection e133); replace hx133_0 := (HB.1.cell (World.block_lt_of_cell? w _ hx133_0)).trans hx133_0; replace hx133_1 := (HB.1.cell (World.block_lt_of_cell? w _ hx133_1)).trans hx133_1; replace p133 := eq_true p133; replace q133 := eq_true q133; refine start_ (n := 8) (S := fun w' => w'.cell? (ad131.add ((x5_1).toNat * 2)) = some (.string ((rd_T113 l0 x5_1).f0)) ∧ w'.cell? ⟨(ad131.add ((x5_1).toNat * 2)).block, (ad131.add ((x5_1).toNat * 2)).off + 1, none⟩ = some (.string ((rd_T113 l0 x5_1).f1))) (ds := []) #[Z, Z, Z, Z, Z, Z, Z, Z] (by kernel_rfl) rfl rfl ⟨((HB.1.cell (World.block_lt_of_cell? w _ hw133_0)).trans hw133_0), ((HB.1.cell (World.block_lt_of_cell? w _ hw133_1)).trans hw133_1)⟩ (fun hHeld => ?_); refine with_tabW laws_heldHeadS.tab7 laws_heldHeadS.bits7 (fun HT_ HW_ => ?_); generalize w8.drew = w12 at HB hx133_0 hx133_1 hHeld ⊢; refine pz_ 0 (some 22) HT_.1 ?_; refine pz_ 1 (some 23) HT_.1 ?_; refine pz_ 2 (some 24) HT_.1 ?_; refine pz_ 3 (some 25) HT_.1 ?_; refine pz_ 5 (some 27) HT_.1 ?_; refine tz_ 4 (some 26) HT_.1 HW_.1 hHeld ?_; refine oz_ 6 (some 28) HT_.1 (fun K hK => ?_); refine goes_ Tryz.func58 (by kernel_rfl) rfl #[.int .i64 (wrap64 (x1_1 + 1))] (by rfl) rfl rfl q3_ ?_; with_reducible refine (laws_markText.calls k1 (wrap64 (x1_1 + 1)) t134 _ A10.1).mono ?_
      rintro e w13 ⟨rfl, hb⟩; refine ⟨_, rfl, ?_⟩; replace HB := aK (below_step q1_ hb); clear hb; refine hK.out _ _ ⟨((HB.1.cell (World.block_lt_of_cell? w _ hw133_0)).trans hw133_0), ((HB.1.cell (World.block_lt_of_cell? w _ hw133_1)).trans hw133_1)⟩ (fun hHeld => ?_); clear hK K; refine nz_ (some 28) ?_; refine pz_ 7 (some 29) HT_.1 ?_; refine done_ (done_of HT_.1 (by kernel_rfl)) ?_; go_upto_if 29 with (fail)
      have H := HC11.1; clear HC11; by_cases c14 : ((rd_T113 l0 x5_1).f1).toList = t134.toList
      ·rw [if_pos c14] at H; have c14b0 := beq_iff_eq.mpr c14; have c14b1 : (((rd_T113 l0 x5_1).f1).toList != t134.toList) = false := bne_eq_false_iff_eq.mpr c14; clear c14; (first | rw [c14b0] | rw [c14i0] | (simp only [i64_w, i32_w]; rw [c14b0]) | skip); have H' := aK H; clear H; go_wp2
       go_roundg k1
       case measure => have := HK1.1; omega
       case rel => exact ⟨(wrap64 ((wrap64 (x1_1 + 1)) + 1)), (wrap64 (x5_1 + 1)), q2_, q2_, H', ⟨q64_⟩, ⟨q1_⟩⟩
      ·rw [if_neg c14] at H; have c14b0 := beq_eq_false_iff_ne.mpr c14; have c14b1 : (((rd_T113 l0 x5_1).f1).toList != t134.toList) = true := bne_iff_ne.mpr c14; (first | rw [c14b0] | rw [c14i0] | (simp only [i64_w, i32_w]; rw [c14b0]) | skip); obtain rfl := Option.some.inj H; go_wp2
       go_ret
       exact ⟨q7_, q1_⟩
     ·rw [if_neg c9] at H; have c9b0 := beq_eq_false_iff_ne.mpr c9; have c9b1 : (((rd_T113 l0 x5_1).f0).toList != t132.toList) = true := bne_iff_ne.mpr c9; (first | rw [c9b0] | rw [c9i0] | (simp only [i64_w, i32_w]; rw [c9b0]) | skip); obtain rfl := Option.some.inj H; go_wp2
      go_ret
      exact ⟨q7_, q1_⟩
    ·rw [if_neg c4] at H; exact absurd H (by simp)
   ·rw [if_neg c3] at H; have c3b0 := decide_eq_false c3; clear c3; obtain rfl := Option.some.inj H; go_wp2
    go_ret
    exact ⟨q7_, q1_⟩

def laws_heldReqS.l0 : Nat → List (S53) → Int → Int → Option (Int)
 | 0, _, _, _ => none
 | k + 1, x0, x1, x5 => if x5 < (x0.length : Int) then (if 0 ≤ x5 then ((laws_markText.f k x1).bind fun t136 => (if ((rd_T53 x0 x5).f0).toList = t136.toList then ((laws_markText.f k (wrap64 (x1 + 1))).bind fun t138 => (if ((rd_T53 x0 x5).f1).toList = t138.toList then ((laws_heldHeadS.f k ((rd_T53 x0 x5).f2) (wrap64 ((wrap64 (x1 + 1)) + 1))).bind fun t140 => (if t140 < 0 then (some (-1)) else ((laws_markText.f k t140).bind fun t142 => (if ((rd_T53 x0 x5).f3).toList = t142.toList then (laws_heldReqS.l0 k x0 (wrap64 (t140 + 1)) (wrap64 (x5 + 1))) else (some (-1)))))) else (some (-1)))) else (some (-1)))) else (none)) else (some x1)
def laws_heldReqS.f (k : Nat) (l0 : List (S53)) (a1 : Int) : Option (Int) := laws_heldReqS.l0 k l0 a1 0

def laws_heldReqS.T4 : Bool × List (List Nat × List Nat) := (true, [([], []), ([], []), ([0, 1], [0, 1]), ([2], [2]), ([3], [3]), ([], []), ([5], [5]), ([4, 6], [4, 6])])
def laws_heldReqS.B4 : List Nat := [0, 0, 3, 7, 15, 0, 32, 127]
theorem laws_heldReqS.tab4 : rtab .any (opsOf Tryz.f21 4) = laws_heldReqS.T4 := by kernel_rfl
theorem laws_heldReqS.bits4 : waitsOk laws_heldReqS.T4.2 laws_heldReqS.B4 = true := by kernel_rfl
def laws_heldReqS.T7 : Bool × List (List Nat × List Nat) := (true, [([], []), ([], []), ([0, 1], [0, 1]), ([2], [2]), ([3], [3]), ([], []), ([5], [5]), ([4, 6], [4, 6])])
def laws_heldReqS.B7 : List Nat := [0, 0, 3, 7, 15, 0, 32, 127]
theorem laws_heldReqS.tab7 : rtab .any (opsOf Tryz.f21 7) = laws_heldReqS.T7 := by kernel_rfl
theorem laws_heldReqS.bits7 : waitsOk laws_heldReqS.T7.2 laws_heldReqS.B7 = true := by kernel_rfl
def laws_heldReqS.T13 : Bool × List (List Nat × List Nat) := (true, [([], []), ([], []), ([0, 1], [0, 1]), ([2], [2]), ([3], [3]), ([], []), ([5], [5]), ([4, 6], [4, 6])])
def laws_heldReqS.B13 : List Nat := [0, 0, 3, 7, 15, 0, 32, 127]
theorem laws_heldReqS.tab13 : rtab .any (opsOf Tryz.f21 13) = laws_heldReqS.T13 := by kernel_rfl
theorem laws_heldReqS.bits13 : waitsOk laws_heldReqS.T13.2 laws_heldReqS.B13 = true := by kernel_rfl
theorem laws_heldReqS.calls (k : Nat) (A0 : Option Addr) (c0 : Nat) (l0 : List (S53)) (a1 : Int) (r : Int) (w : World) (hr0 : Kd.C k53 w A0 l0.length l0) (hc0 : l0.length ≤ c0) (h : laws_heldReqS.f k l0 a1 = some r) :
  Calls Tryz.prog 21 #[.slice A0 l0.length c0, .int .i64 a1] w fun e w' => e = .returned (.int .i64 r) ∧ Below w.heap.size w w' := by
 have HR0 := aK hr0; have HC0 := aK hc0; clear hr0 hc0; have HB := aK (Below.refl w.heap.size w); have H : (laws_heldReqS.l0 k l0 a1 0) = some r := h; clear h; have H' := aK H; clear H; go_enter Tryz.func21, Tryz.ntmps21
 go_wp2
 go_loopg [1, 5] k (fun kq v1 v5 w' => ∃ (x1_1 : Int) (x5_1 : Int), v1 = .int .i64 x1_1 ∧ v5 = .int .i64 x5_1 ∧ Aside0 (laws_heldReqS.l0 kq l0 x1_1 x5_1 = some r) ∧ Aside0 (kq ≤ k) ∧ Aside0 (Below w.heap.size w w'))
 case atStart => exact ⟨(a1), (0), q2_, q2_, H', ⟨Nat.le_refl _⟩, ⟨q1_⟩⟩
 case round =>
  clear H'; (try clear c2); (try clear p2); obtain ⟨x1_1, x5_1, rfl, rfl, HA, HK1, HB⟩ := hrel; cases gk with
  | zero => exact absurd HA.1 (by simp [laws_heldReqS.l0])
  | succ k1 =>
   have H := HA.1; clear HA; simp only [laws_heldReqS.l0] at H; by_cases c3 : x5_1 < (l0.length : Int)
   ·rw [if_pos c3] at H; have c3b0 := decide_eq_true c3; clear c3; by_cases c4 : 0 ≤ x5_1
    ·rw [if_pos c4] at H; have c4b0 := decide_eq_true c4; clear c4; replace H := oB H; obtain ⟨t136, A5, H⟩ := H; (try dsimp only at H); have HC6 := aK H; clear H; try go_wp2
     replace HB := aK (dB_ HB.1); have p135 : 0 ≤ (x5_1 : Int) := of_decide_eq_true q4_; have q135 : x5_1 < (l0.length : Int) := of_decide_eq_true q4_; obtain ⟨ad135, A135_2, c135_2, e135, hx135_0, hx135_1, hx135_2, hx135_3, hl135_2, hi135_2⟩ := at_T53 HR0.1 x5_1 p135 q135; have hw135_3 := hx135_3; have hw135_2 := hx135_2; have hw135_1 := hx135_1; have hw135_0 := hx135_0; cases e135
     replace hx135_0 := (HB.1.cell (World.block_lt_of_cell? w _ hx135_0)).trans hx135_0; replace hx135_1 := (HB.1.cell (World.block_lt_of_cell? w _ hx135_1)).trans hx135_1; replace hx135_2 := (HB.1.cell (World.block_lt_of_cell? w _ hx135_2)).trans hx135_2; replace hx135_3 := (HB.1.cell (World.block_lt_of_cell? w _ hx135_3)).trans hx135_3; have HR135_2 := aK hi135_2; have HC135_2 := aK hl135_2; clear hi135_2 hl135_2; replace p135 := eq_true p135; replace q135 := eq_true q135; refine start_ (n := 8) (S := fun w' => w'.cell? (ad135.add ((x5_1).toNat * 4)) = some (.string ((rd_T53 l0 x5_1).f0)) ∧ w'.cell? ⟨(ad135.add ((x5_1).toNat * 4)).block, (ad135.add ((x5_1).toNat * 4)).off + 1, none⟩ = some (.string ((rd_T53 l0 x5_1).f1)) ∧ w'.cell? ⟨(ad135.add ((x5_1).toNat * 4)).block, (ad135.add ((x5_1).toNat * 4)).off + 2, none⟩ = some (.slice A135_2 ((rd_T53 l0 x5_1).f2).length c135_2) ∧ w'.cell? ⟨(ad135.add ((x5_1).toNat * 4)).block, (ad135.add ((x5_1).toNat * 4)).off + 3, none⟩ = some (.string ((rd_T53 l0 x5_1).f3))) (ds := []) #[Z, Z, Z, Z, Z, Z, Z, Z] (by kernel_rfl) rfl rfl ⟨((HB.1.cell (World.block_lt_of_cell? w _ hw135_0)).trans hw135_0), ((HB.1.cell (World.block_lt_of_cell? w _ hw135_1)).trans hw135_1), ((HB.1.cell (World.block_lt_of_cell? w _ hw135_2)).trans hw135_2), ((HB.1.cell (World.block_lt_of_cell? w _ hw135_3)).trans hw135_3)⟩ (fun hHeld => ?_); refine with_tabW laws_heldReqS.tab4 laws_heldReqS.bits4 (fun HT_ HW_ => ?_); generalize wr.drew = w7 at HB HR135_2 hx135_0 hx135_1 hx135_2 hx135_3 hHeld ⊢; refine pz_ 0 (some 12) HT_.1 ?_; refine pz_ 1 (some 13) HT_.1 ?_; refine pz_ 2 (some 14) HT_.1 ?_; refine pz_ 3 (some 15) HT_.1 ?_; refine pz_ 5 (some 17) HT_.1 ?_; refine tz_ 4 (some 16) HT_.1 HW_.1 hHeld ?_; refine oz_ 6 (some 18) HT_.1 (fun K hK => ?_); refine goes_ Tryz.func58 (by kernel_rfl) rfl #[.int .i64 x1_1] (by rfl) rfl rfl q3_ ?_; with_reducible refine (laws_markText.calls k1 x1_1 t136 _ A5.1).mono ?_
     rintro e w8 ⟨rfl, hb⟩; refine ⟨_, rfl, ?_⟩; replace HB := aK (below_step q1_ hb); clear hb; refine hK.out _ _ ⟨((HB.1.cell (World.block_lt_of_cell? w _ hw135_0)).trans hw135_0), ((HB.1.cell (World.block_lt_of_cell? w _ hw135_1)).trans hw135_1), ((HB.1.cell (World.block_lt_of_cell? w _ hw135_2)).trans hw135_2), ((HB.1.cell (World.block_lt_of_cell? w _ hw135_3)).trans hw135_3)⟩ (fun hHeld => ?_); clear hK K; refine nz_ (some 18) ?_; refine pz_ 7 (some 19) HT_.1 ?_; refine done_ (done_of HT_.1 (by kernel_rfl)) ?_; go_upto_if 19 with (fail)
     have H := HC6.1; clear HC6; by_cases c9 : ((rd_T53 l0 x5_1).f0).toList = t136.toList
     ·rw [if_pos c9] at H; have c9b0 := beq_iff_eq.mpr c9; have c9b1 : (((rd_T53 l0 x5_1).f0).toList != t136.toList) = false := bne_eq_false_iff_eq.mpr c9; clear c9; (first | rw [c9b0] | rw [c9i0] | (simp only [i64_w, i32_w]; rw [c9b0]) | skip); replace H := oB H; obtain ⟨t138, A10, H⟩ := H; (try dsimp only at H); have HC11 := aK H; clear H; try go_wp2
      replace HB := aK (dB_ HB.1); have p137 : 0 ≤ (x5_1 : Int) := of_decide_eq_true q4_; have q137 : x5_1 < (l0.length : Int) := of_decide_eq_true q4_; obtain ⟨ad137, A137_2, c137_2, e137, hx137_0, hx137_1, hx137_2, hx137_3, hl137_2, hi137_2⟩ := at_T53 HR0.1 x5_1 p137 q137; have hw137_3 := hx137_3; have hw137_2 := hx137_2; have hw137_1 := hx137_1; have hw137_0 := hx137_0; obtain rfl : ad135 = ad137 := (by injection e137); replace hx137_0 := (HB.1.cell (World.block_lt_of_cell? w _ hx137_0)).trans hx137_0; replace hx137_1 := (HB.1.cell (World.block_lt_of_cell? w _ hx137_1)).trans hx137_1; replace hx137_2 := (HB.1.cell (World.block_lt_of_cell? w _ hx137_2)).trans hx137_2; replace hx137_3 := (HB.1.cell (World.block_lt_of_cell? w _ hx137_3)).trans hx137_3; have HR137_2 := aK hi137_2; have HC137_2 := aK hl137_2; clear hi137_2 hl137_2; replace p137 := eq_true p137; replace q137 := eq_true q137; refine start_ (n := 8) (S := fun w' => w'.cell? (ad135.add ((x5_1).toNat * 4)) = some (.string ((rd_T53 l0 x5_1).f0)) ∧ w'.cell? ⟨(ad135.add ((x5_1).toNat * 4)).block, (ad135.add ((x5_1).toNat * 4)).off + 1, none⟩ = some (.string ((rd_T53 l0 x5_1).f1)) ∧ w'.cell? ⟨(ad135.add ((x5_1).toNat * 4)).block, (ad135.add ((x5_1).toNat * 4)).off + 2, none⟩ = some (.slice A137_2 ((rd_T53 l0 x5_1).f2).length c137_2) ∧ w'.cell? ⟨(ad135.add ((x5_1).toNat * 4)).block, (ad135.add ((x5_1).toNat * 4)).off + 3, none⟩ = some (.string ((rd_T53 l0 x5_1).f3))) (ds := []) #[Z, Z, Z, Z, Z, Z, Z, Z] (by kernel_rfl) rfl rfl ⟨((HB.1.cell (World.block_lt_of_cell? w _ hw137_0)).trans hw137_0), ((HB.1.cell (World.block_lt_of_cell? w _ hw137_1)).trans hw137_1), ((HB.1.cell (World.block_lt_of_cell? w _ hw137_2)).trans hw137_2), ((HB.1.cell (World.block_lt_of_cell? w _ hw137_3)).trans hw137_3)⟩ (fun hHeld => ?_); refine with_tabW laws_heldReqS.tab7 laws_heldReqS.bits7 (fun HT_ HW_ => ?_); generalize w8.drew = w12 at HB HR137_2 hx137_0 hx137_1 hx137_2 hx137_3 hHeld ⊢; refine pz_ 0 (some 22) HT_.1 ?_; refine pz_ 1 (some 23) HT_.1 ?_; refine pz_ 2 (some 24) HT_.1 ?_; refine pz_ 3 (some 25) HT_.1 ?_; refine pz_ 5 (some 27) HT_.1 ?_; refine tz_ 4 (some 26) HT_.1 HW_.1 hHeld ?_; refine oz_ 6 (some 28) HT_.1 (fun K hK => ?_); refine goes_ Tryz.func58 (by kernel_rfl) rfl #[.int .i64 (wrap64 (x1_1 + 1))] (by rfl) rfl rfl q3_ ?_; with_reducible refine (laws_markText.calls k1 (wrap64 (x1_1 + 1)) t138 _ A10.1).mono ?_
      rintro e w13 ⟨rfl, hb⟩; refine ⟨_, rfl, ?_⟩; replace HB := aK (below_step q1_ hb); clear hb; refine hK.out _ _ ⟨((HB.1.cell (World.block_lt_of_cell? w _ hw137_0)).trans hw137_0), ((HB.1.cell (World.block_lt_of_cell? w _ hw137_1)).trans hw137_1), ((HB.1.cell (World.block_lt_of_cell? w _ hw137_2)).trans hw137_2), ((HB.1.cell (World.block_lt_of_cell? w _ hw137_3)).trans hw137_3)⟩ (fun hHeld => ?_); clear hK K; refine nz_ (some 28) ?_; refine pz_ 7 (some 29) HT_.1 ?_; refine done_ (done_of HT_.1 (by kernel_rfl)) ?_; go_upto_if 29 with (fail)
      have H := HC11.1; clear HC11; by_cases c14 : ((rd_T53 l0 x5_1).f1).toList = t138.toList
      ·rw [if_pos c14] at H; have c14b0 := beq_iff_eq.mpr c14; have c14b1 : (((rd_T53 l0 x5_1).f1).toList != t138.toList) = false := bne_eq_false_iff_eq.mpr c14; clear c14; (first | rw [c14b0] | rw [c14i0] | (simp only [i64_w, i32_w]; rw [c14b0]) | skip); replace H := oB H; obtain ⟨t140, A15, H⟩ := H; (try dsimp only at H); have HC16 := aK H; clear H; have p139 : 0 ≤ (x5_1 : Int) := of_decide_eq_true q4_; have q139 : x5_1 < (l0.length : Int) := of_decide_eq_true q4_; clear hHeld; obtain ⟨ad139, A139_2, c139_2, e139, hx139_0, hx139_1, hx139_2, hx139_3, hl139_2, hi139_2⟩ := at_T53 HR0.1 x5_1 p139 q139; obtain rfl : ad135 = ad139 := (by injection e139); replace hx139_0 := (HB.1.cell (World.block_lt_of_cell? w _ hx139_0)).trans hx139_0; replace hx139_1 := (HB.1.cell (World.block_lt_of_cell? w _ hx139_1)).trans hx139_1; replace hx139_2 := (HB.1.cell (World.block_lt_of_cell? w _ hx139_2)).trans hx139_2; replace hx139_3 := (HB.1.cell (World.block_lt_of_cell? w _ hx139_3)).trans hx139_3; have HR139_2 := aK hi139_2; have HC139_2 := aK hl139_2; clear hi139_2 hl139_2; replace p139 := eq_true p139; replace q139 := eq_true q139; go_upto_if 40 with (first | ((with_reducible refine gate_callee (f := 61) rfl ?_); refine goesL_ (some 38) rfl rfl Tryz.func61 (by kernel_rfl) rfl #[.slice A139_2 ((rd_T53 l0 x5_1).f2).length c139_2, .int .i64 (wrap64 ((wrap64 (x1_1 + 1)) + 1))] rfl q3_ ?_; (with_reducible refine (laws_heldHeadS.calls k1 _ _ ((rd_T53 l0 x5_1).f2) (wrap64 ((wrap64 (x1_1 + 1)) + 1)) t140 _ ?side1 ?side2 A15.1).mono ?_); (case side1 => repeat (first | exact (Kd.C_below HR139_2.1 HB.1) | (with_reducible refine Kd.C_alloc ?_ _) | (with_reducible refine Kd.C_drewN ?_ _) | (with_reducible refine Kd.C_drew ?_))); (case side2 => exact HC139_2.1); rintro e w17 ⟨rfl, hb⟩; refine ⟨_, rfl, ?_⟩; replace HB := aK (below_step q1_ hb); clear hb))
       (try simp only [Act.put, sI, sZ, sS]); have H := HC16.1; clear HC16; by_cases c18 : t140 < 0
       ·rw [if_pos c18] at H; have c18b0 := decide_eq_true c18; clear c18; (first | rw [c18b0] | rw [c18i0] | (simp only [i64_w, i32_w]; rw [c18b0]) | skip); obtain rfl := Option.some.inj H; go_wp2
        go_ret
        exact ⟨q7_, q1_⟩
       ·rw [if_neg c18] at H; have c18b0 := decide_eq_false c18; clear c18; (first | rw [c18b0] | rw [c18i0] | (simp only [i64_w, i32_w]; rw [c18b0]) | skip); replace H := oB H; obtain ⟨t142, A19, H⟩ := H; (try dsimp only at H); have HC20 := aK H; clear H; try go_wp2
        replace HB := aK (dB_ HB.1); have p141 : 0 ≤ (x5_1 : Int) := of_decide_eq_true q4_; have q141 : x5_1 < (l0.length : Int) := of_decide_eq_true q4_; obtain ⟨ad141, A141_2, c141_2, e141, hx141_0, hx141_1, hx141_2, hx141_3, hl141_2, hi141_2⟩ := at_T53 HR0.1 x5_1 p141 q141; have hw141_3 := hx141_3; have hw141_2 := hx141_2; have hw141_1 := hx141_1; have hw141_0 := hx141_0; obtain rfl : ad135 = ad141 := (by injection e141); replace hx141_0 := (HB.1.cell (World.block_lt_of_cell? w _ hx141_0)).trans hx141_0; replace hx141_1 := (HB.1.cell (World.block_lt_of_cell? w _ hx141_1)).trans hx141_1; replace hx141_2 := (HB.1.cell (World.block_lt_of_cell? w _ hx141_2)).trans hx141_2; replace hx141_3 := (HB.1.cell (World.block_lt_of_cell? w _ hx141_3)).trans hx141_3; have HR141_2 := aK hi141_2; have HC141_2 := aK hl141_2; clear hi141_2 hl141_2; replace p141 := eq_true p141; replace q141 := eq_true q141; refine start_ (n := 8) (S := fun w' => w'.cell? (ad135.add ((x5_1).toNat * 4)) = some (.string ((rd_T53 l0 x5_1).f0)) ∧ w'.cell? ⟨(ad135.add ((x5_1).toNat * 4)).block, (ad135.add ((x5_1).toNat * 4)).off + 1, none⟩ = some (.string ((rd_T53 l0 x5_1).f1)) ∧ w'.cell? ⟨(ad135.add ((x5_1).toNat * 4)).block, (ad135.add ((x5_1).toNat * 4)).off + 2, none⟩ = some (.slice A141_2 ((rd_T53 l0 x5_1).f2).length c141_2) ∧ w'.cell? ⟨(ad135.add ((x5_1).toNat * 4)).block, (ad135.add ((x5_1).toNat * 4)).off + 3, none⟩ = some (.string ((rd_T53 l0 x5_1).f3))) (ds := []) #[Z, Z, Z, Z, Z, Z, Z, Z] (by kernel_rfl) rfl rfl ⟨((HB.1.cell (World.block_lt_of_cell? w _ hw141_0)).trans hw141_0), ((HB.1.cell (World.block_lt_of_cell? w _ hw141_1)).trans hw141_1), ((HB.1.cell (World.block_lt_of_cell? w _ hw141_2)).trans hw141_2), ((HB.1.cell (World.block_lt_of_cell? w _ hw141_3)).trans hw141_3)⟩ (fun hHeld => ?_); refine with_tabW laws_heldReqS.tab13 laws_heldReqS.bits13 (fun HT_ HW_ => ?_); generalize w17.drew = w21 at HB HR141_2 hx141_0 hx141_1 hx141_2 hx141_3 hHeld ⊢; refine pz_ 0 (some 41) HT_.1 ?_; refine pz_ 1 (some 42) HT_.1 ?_; refine pz_ 2 (some 43) HT_.1 ?_; refine pz_ 3 (some 44) HT_.1 ?_; refine pz_ 5 (some 46) HT_.1 ?_; refine tz_ 4 (some 45) HT_.1 HW_.1 hHeld ?_; refine oz_ 6 (some 47) HT_.1 (fun K hK => ?_); refine goes_ Tryz.func58 (by kernel_rfl) rfl #[.int .i64 t140] (by rfl) rfl rfl q3_ ?_; with_reducible refine (laws_markText.calls k1 t140 t142 _ A19.1).mono ?_
        rintro e w22 ⟨rfl, hb⟩; refine ⟨_, rfl, ?_⟩; replace HB := aK (below_step q1_ hb); clear hb; refine hK.out _ _ ⟨((HB.1.cell (World.block_lt_of_cell? w _ hw141_0)).trans hw141_0), ((HB.1.cell (World.block_lt_of_cell? w _ hw141_1)).trans hw141_1), ((HB.1.cell (World.block_lt_of_cell? w _ hw141_2)).trans hw141_2), ((HB.1.cell (World.block_lt_of_cell? w _ hw141_3)).trans hw141_3)⟩ (fun hHeld => ?_); clear hK K; refine nz_ (some 47) ?_; refine pz_ 7 (some 48) HT_.1 ?_; refine done_ (done_of HT_.1 (by kernel_rfl)) ?_; go_upto_if 48 with (fail)
        have H := HC20.1; clear HC20; by_cases c23 : ((rd_T53 l0 x5_1).f3).toList = t142.toList
        ·rw [if_pos c23] at H; have c23b0 := beq_iff_eq.mpr c23; have c23b1 : (((rd_T53 l0 x5_1).f3).toList != t142.toList) = false := bne_eq_false_iff_eq.mpr c23; clear c23; (first | rw [c23b0] | rw [c23i0] | (simp only [i64_w, i32_w]; rw [c23b0]) | skip); have H' := aK H; clear H; go_wp2
         go_roundg k1
         case measure => have := HK1.1; omega
         case rel => exact ⟨(wrap64 (t140 + 1)), (wrap64 (x5_1 + 1)), q2_, q2_, H', ⟨q64_⟩, ⟨q1_⟩⟩
        ·rw [if_neg c23] at H; have c23b0 := beq_eq_false_iff_ne.mpr c23; have c23b1 : (((rd_T53 l0 x5_1).f3).toList != t142.toList) = true := bne_iff_ne.mpr c23; (first | rw [c23b0] | rw [c23i0] | (simp only [i64_w, i32_w]; rw [c23b0]) | skip); obtain rfl := Option.some.inj H; go_wp2
         go_ret
         exact ⟨q7_, q1_⟩
      ·rw [if_neg c14] at H; have c14b0 := beq_eq_false_iff_ne.mpr c14; have c14b1 : (((rd_T53 l0 x5_1).f1).toList != t138.toList) = true := bne_iff_ne.mpr c14; (first | rw [c14b0] | rw [c14i0] | (simp only [i64_w, i32_w]; rw [c14b0]) | skip); obtain rfl := Option.some.inj H; go_wp2
       go_ret
       exact ⟨q7_, q1_⟩
     ·rw [if_neg c9] at H; have c9b0 := beq_eq_false_iff_ne.mpr c9; have c9b1 : (((rd_T53 l0 x5_1).f0).toList != t136.toList) = true := bne_iff_ne.mpr c9; (first | rw [c9b0] | rw [c9i0] | (simp only [i64_w, i32_w]; rw [c9b0]) | skip); obtain rfl := Option.some.inj H; go_wp2
      go_ret
      exact ⟨q7_, q1_⟩
    ·rw [if_neg c4] at H; exact absurd H (by simp)
   ·rw [if_neg c3] at H; have c3b0 := decide_eq_false c3; clear c3; obtain rfl := Option.some.inj H; go_wp2
    go_ret
    exact ⟨q7_, q1_⟩

def laws_szByteS.f (l0 : List Int) (a1 : Int) : Option (Int) := if (wrap64 (a1 - (l0.length : Int))) < 0 then (some (-1)) else (some (wrap64 (a1 - (l0.length : Int))))
theorem laws_szByteS.calls (A0 : Option Addr) (c0 : Nat) (l0 : List Int) (a1 : Int) (r : Int) (w : World) (hr0 : Kd.C (Kd.int .u8) w A0 l0.length l0) (hc0 : l0.length ≤ c0) (h : laws_szByteS.f l0 a1 = some r) :
  Calls Tryz.prog 54 #[.slice A0 l0.length c0, .int .i64 a1] w fun e w' => e = .returned (.int .i64 r) ∧ Drawn0 w w' := by
 have HR0 := aK hr0; have HC0 := aK hc0; clear hr0 hc0; have H := h; clear h; unfold laws_szByteS.f at H
 by_cases c3 : (wrap64 (a1 - (l0.length : Int))) < 0
 ·rw [if_pos c3] at H; have c3b0 := decide_eq_true c3; clear c3; obtain rfl := Option.some.inj H; go_enter Tryz.func54, Tryz.ntmps54
  go_wp2
  go_ret
  exact ⟨q2_, q5_⟩
 ·rw [if_neg c3] at H; have c3b0 := decide_eq_false c3; clear c3; obtain rfl := Option.some.inj H; go_enter Tryz.func54, Tryz.ntmps54
  go_wp2
  go_ret
  exact ⟨q2_, q5_⟩

end Go.Proofs.YtaajhdljdmbhhaaGreatDoor.GFnExactFeedAll
