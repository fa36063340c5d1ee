-- by gprint.py (this session's program over the kit's print.py) (a twelfth state) out of the translation. Not trusted: Lean checks it.
import Derived.Test.YtaajhdljdmbhhaaGreatDoorGFnExactFeedAllx0
import Derived.Test.YtaajhdljdmbhhaaGreatDoorGFnExactFeedAllx4
namespace Go.Proofs.YtaajhdljdmbhhaaGreatDoor.GFnExactFeedAll
open Go.RowKit Go.Proofs.YtaajhdljdmbhhaaGreatDoorW.PrintWords Go.Proofs.YtaajhdljdmbhhaaGreatDoorW.PrintLast Go.Proofs.YtaajhdljdmbhhaaGreatDoorW.PrintMore
attribute [local go_sem] max2_int min2_int max_two min_two max_three min_three max_four min_four   -- for this text's walks alone
set_option linter.unusedVariables false
set_option linter.unusedSimpArgs false
set_option maxRecDepth 100000
set_option maxHeartbeats 8000000

def spec_l3Lines.l0 : Nat → ByteArray → List ByteArray → Int → Int → Option (List ByteArray)
 | 0, _, _, _, _ => none
 | k + 1, x0, x3, x4, x5 => if x5 ≤ (x0.size : Int) then (if x5 = (x0.size : Int) then (if 0 ≤ x4 then (if x4 ≤ (x0.size : Int) then (if x3.length < 8796093022208 then (spec_l3Lines.l0 k x0 (x3 ++ [x0.extract (x4 : Int).toNat x0.size]) x4 (wrap64 (x5 + 1))) else (none)) else (none)) else (none)) else (if (wrap64 (x5 + 1)) < (x0.size : Int) then (if 0 ≤ x5 then (if x5 < (x0.size : Int) then (if (bt x0 x5) = 13 then (if 0 ≤ (wrap64 (x5 + 1)) then (if (bt x0 (wrap64 (x5 + 1))) = 10 then (if 0 ≤ x4 then (if x4 ≤ x5 then (if x3.length < 8796093022208 then (spec_l3Lines.l0 k x0 (x3 ++ [x0.extract (x4 : Int).toNat (x5 : Int).toNat]) (wrap64 (x5 + 2)) (wrap64 ((wrap64 (x5 + 1)) + 1))) else (none)) else (none)) else (none)) else (spec_l3Lines.l0 k x0 x3 x4 (wrap64 (x5 + 1)))) else (none)) else (spec_l3Lines.l0 k x0 x3 x4 (wrap64 (x5 + 1)))) else (none)) else (none)) else (spec_l3Lines.l0 k x0 x3 x4 (wrap64 (x5 + 1))))) else (some x3)
def spec_l3Lines.f (k : Nat) (a0 : ByteArray) : Option (List ByteArray) := spec_l3Lines.l0 k a0 (([] : List ByteArray)) 0 0

theorem spec_l3Lines.calls (k : Nat) (a0 : ByteArray) (r : List ByteArray) (w : World) (h : spec_l3Lines.f k a0 = some r) :
  Calls Tryz.prog 109 #[.string a0] w fun e w' => ∃ v0_ : Value, e = .returned (v0_) ∧ Kd.R Kd.string 9 w' w.heap.size (fun _ => True) v0_ r ∧ Below w.heap.size w w' := by
 have HB := aK (Below.refl w.heap.size w); have H : (spec_l3Lines.l0 k a0 (([] : List ByteArray)) 0 0) = some r := h; clear h; (first | (with_reducible replace H := oS H; obtain ⟨y168, Ny168, H⟩ := H) | (generalize hy_ : (([] : List ByteArray) : List ByteArray) = y168 at H; have Ny168 := aK hy_.symm; clear hy_)); (try dsimp only at H); have H' := aK H; clear H; go_enter Tryz.func109, Tryz.ntmps109
 go_wp2_with (first | ((with_reducible refine gate_dst (N := 6) rfl ?_); refine Kd.R_lit Kd.string _ 9 ?hg (N := 6) ?hd (xs := ([] : List ByteArray)) (inner := []) (ok := fun _ => True) (okp := fun _ => True) ?hr ?hp (fun _ hk => hk) trivial (Below.refl _ _) (Nat.le_refl _) (by simp) ?_; (case hd => rfl); (case hg => rfl); (case hr => exact q28_); (case hp => exact q182_); intro v169 w2 ho3 hb hg_ hnew_; clear hg_ hnew_; (first | rw [← Ny168.1] at ho3 | (simp only [Int.reduceToNat] at ho3; rw [← Ny168.1] at ho3)); have HO170 := aK (Kd.R_lower ho3 (below_size q1_)); replace HB := aK (below_step q1_ hb); clear hb ho3))
 go_loopg [3, 4, 5] k (fun kq v3 v4 v5 w' => ∃ (x3_1 : List ByteArray) (x4_1 : Int) (x5_1 : Int), v4 = .int .i64 x4_1 ∧ v5 = .int .i64 x5_1 ∧ Aside0 (spec_l3Lines.l0 kq a0 x3_1 x4_1 x5_1 = some r) ∧ Aside0 (kq ≤ k) ∧ Aside0 (Kd.R Kd.string 9 w' w.heap.size (fun _ => True) v3 x3_1) ∧ Aside0 (Below w.heap.size w w'))
 case atStart => exact ⟨(y168), (0), (0), q2_, q2_, H', ⟨Nat.le_refl _⟩, ⟨by (with_reducible repeat (first | apply rA_ | apply rN_ | apply rD_)); first | exact HO170.1 | exact Kd.R_mono HO170.1 (fun k_ h_ e_ => h_ (e_.trans (ob_len _ _ _ _ _)))⟩, ⟨q1_⟩⟩
 case round =>
  clear H'; (try clear c1); (try clear p2); obtain ⟨x3_1, x4_1, x5_1, rfl, rfl, HA, HK1, HO_3, HB⟩ := hrel; cases gk with
  | zero => exact absurd HA.1 (by simp [spec_l3Lines.l0])
  | succ k1 =>
   have H := HA.1; clear HA; simp only [spec_l3Lines.l0] at H; by_cases c4 : x5_1 ≤ (a0.size : Int)
   ·rw [if_pos c4] at H; have c4b0 := decide_eq_true c4; clear c4; by_cases c5 : x5_1 = (a0.size : Int)
    ·rw [if_pos c5] at H; have c5b0 := beq_iff_eq.mpr c5; have c5b1 : (x5_1 != (a0.size : Int)) = false := bne_eq_false_iff_eq.mpr c5; clear c5; by_cases c6 : 0 ≤ x4_1
     ·rw [if_pos c6] at H; have c6b0 := eq_true c6; have c6b1 := decide_eq_true c6; clear c6; by_cases c7 : x4_1 ≤ (a0.size : Int)
      ·rw [if_pos c7] at H; have c7b0 := eq_true c7; have c7b1 := decide_eq_true c7; clear c7; by_cases c8 : x3_1.length < 8796093022208
       ·rw [if_pos c8] at H; have LMc8 := aK c8; clear c8; (first | (with_reducible replace H := oS H; obtain ⟨y171, Ny171, H⟩ := H) | (generalize hy_ : (x3_1 ++ [a0.extract (x4_1 : Int).toNat a0.size] : List ByteArray) = y171 at H; have Ny171 := aK hy_.symm; clear hy_)); (try dsimp only at H); have H' := aK H; clear H; go_wp2_with (first | ((with_reducible refine gate_builtin (b := .append) (xs := #[.tmp 17, .tmp 21]) rfl ?_); at_builtin; refine Kd.R_append Kd.string (w0 := w) w.heap.size rfl (.tmp 17) (.tmp 21) 91 9 (.string ⟨#[]⟩) 16 rfl Tryz.underlying91 info9 rfl (by decide) (by omega) u3 x3_1 (a0.extract (x4_1 : Int).toNat a0.size) [.string (a0.extract (x4_1 : Int).toNat a0.size)] (fun _ => True) (fun _ => False) rfl rfl ?aP (fun _ hk => hk.elim) ?aF ?aO ?aB ?aS ?aL ?_; (case aP => exact rfl); (case aB => exact q1_); (case aF => exact q100_); (case aO => exact q81_); (case aS => exact q198_); (case aL => have := LMc8.1; omega); intro v172 w9 ho hb hg hat; rw [← Ny171.1] at ho; replace HB := aK (hb); have HO173 := aK (ho); clear HO_3; clear ho hb hg hat))
        go_roundg k1
        case measure => have := HK1.1; omega
        case rel => exact ⟨(y171), (x4_1), (wrap64 (x5_1 + 1)), q2_, q2_, H', ⟨q64_⟩, ⟨by (with_reducible repeat (first | apply rA_ | apply rN_ | apply rD_)); first | exact HO173.1 | exact Kd.R_mono HO173.1 (fun k_ h_ e_ => h_ (e_.trans (ob_len _ _ _ _ _)))⟩, ⟨q1_⟩⟩
       ·rw [if_neg c8] at H; exact absurd H (by simp)
      ·rw [if_neg c7] at H; exact absurd H (by simp)
     ·rw [if_neg c6] at H; exact absurd H (by simp)
    ·rw [if_neg c5] at H; have c5b0 := beq_eq_false_iff_ne.mpr c5; have c5b1 : (x5_1 != (a0.size : Int)) = true := bne_iff_ne.mpr c5; by_cases c10 : (wrap64 (x5_1 + 1)) < (a0.size : Int)
     ·rw [if_pos c10] at H; have c10b0 := decide_eq_true c10; clear c10; by_cases c11 : 0 ≤ x5_1
      ·rw [if_pos c11] at H; have c11b0 := decide_eq_true c11; clear c11; by_cases c12 : x5_1 < (a0.size : Int)
       ·rw [if_pos c12] at H; have c12b0 := decide_eq_true c12; clear c12; by_cases c14 : (bt a0 x5_1) = 13
        ·rw [if_pos c14] at H; have c14b0 := beq_iff_eq.mpr c14; have c14b1 : ((bt a0 x5_1) != 13) = false := bne_eq_false_iff_eq.mpr c14; clear c14; obtain ⟨ji15, hji15⟩ : ∃ j_ : Int, (wrap64 (x5_1 + 1)) = j_ := ⟨_, rfl⟩; replace H : (if 0 ≤ (ji15) then (if (bt a0 (ji15)) = 10 then (if 0 ≤ x4_1 then (if x4_1 ≤ x5_1 then (if x3_1.length < 8796093022208 then (spec_l3Lines.l0 k1 a0 (x3_1 ++ [a0.extract (x4_1 : Int).toNat (x5_1 : Int).toNat]) (wrap64 (x5_1 + 2)) (wrap64 ((ji15) + 1))) else (none)) else (none)) else (none)) else (spec_l3Lines.l0 k1 a0 x3_1 x4_1 ji15)) else (none)) = some r := by first | (rw [hji15] at H; exact H) | (simp only [hji15] at H ⊢; exact H)
         (try rw [hji15] at c10b0); have hji15w : (IntKind.i64.wrap (x5_1 + 1)) = ji15 := (i64_w _).trans hji15; by_cases c16 : 0 ≤ (ji15)
         ·rw [if_pos c16] at H; have c16b0 := decide_eq_true c16; clear c16; by_cases c18 : (bt a0 (ji15)) = 10
          ·rw [if_pos c18] at H; have c18b0 := beq_iff_eq.mpr c18; have c18b1 : ((bt a0 (ji15)) != 10) = false := bne_eq_false_iff_eq.mpr c18; clear c18; by_cases c19 : 0 ≤ x4_1
           ·rw [if_pos c19] at H; have c19b0 := eq_true c19; have c19b1 := decide_eq_true c19; clear c19; by_cases c20 : x4_1 ≤ x5_1
            ·rw [if_pos c20] at H; have c20b0 := eq_true c20; have c20b1 := decide_eq_true c20; clear c20; have c21b0 := eq_true (of_decide_eq_true q4_ : x5_1 ≤ (a0.size : Int)); by_cases c22 : x3_1.length < 8796093022208
             ·rw [if_pos c22] at H; have LMc22 := aK c22; clear c22; (first | (with_reducible replace H := oS H; obtain ⟨y174, Ny174, H⟩ := H) | (generalize hy_ : (x3_1 ++ [a0.extract (x4_1 : Int).toNat (x5_1 : Int).toNat] : List ByteArray) = y174 at H; have Ny174 := aK hy_.symm; clear hy_)); (try dsimp only at H); have H' := aK H; clear H; have p13 : 0 ≤ (x5_1 : Int) := of_decide_eq_true q4_; have q13 : x5_1 < (a0.size : Int) := of_decide_eq_true q4_; have hx13 := bt_at a0 x5_1; replace p13 := eq_true p13; replace q13 := eq_true q13; have p17 : 0 ≤ ((ji15) : Int) := of_decide_eq_true q4_; have q17 : (ji15) < (a0.size : Int) := of_decide_eq_true q4_; have hx17 := bt_at a0 (ji15); replace p17 := eq_true p17; replace q17 := eq_true q17; go_wp2_with (first | ((with_reducible refine gate_builtin (b := .append) (xs := #[.tmp 41, .tmp 46]) rfl ?_); at_builtin; refine Kd.R_append Kd.string (w0 := w) w.heap.size rfl (.tmp 41) (.tmp 46) 91 9 (.string ⟨#[]⟩) 16 rfl Tryz.underlying91 info9 rfl (by decide) (by omega) u3 x3_1 (a0.extract (x4_1 : Int).toNat (x5_1 : Int).toNat) [.string (a0.extract (x4_1 : Int).toNat (x5_1 : Int).toNat)] (fun _ => True) (fun _ => False) rfl rfl ?aP (fun _ hk => hk.elim) ?aF ?aO ?aB ?aS ?aL ?_; (case aP => exact rfl); (case aB => exact q1_); (case aF => exact q100_); (case aO => exact q81_); (case aS => exact q198_); (case aL => have := LMc22.1; omega); intro v175 w23 ho hb hg hat; rw [← Ny174.1] at ho; replace HB := aK (hb); have HO176 := aK (ho); clear HO_3; clear ho hb hg hat))
              go_roundg k1
              case measure => have := HK1.1; omega
              case rel => exact ⟨(y174), (wrap64 (x5_1 + 2)), (wrap64 ((ji15) + 1)), q2_, q181_, H', ⟨q64_⟩, ⟨by (with_reducible repeat (first | apply rA_ | apply rN_ | apply rD_)); first | exact HO176.1 | exact Kd.R_mono HO176.1 (fun k_ h_ e_ => h_ (e_.trans (ob_len _ _ _ _ _)))⟩, ⟨q1_⟩⟩
             ·rw [if_neg c22] at H; exact absurd H (by simp)
            ·rw [if_neg c20] at H; exact absurd H (by simp)
           ·rw [if_neg c19] at H; exact absurd H (by simp)
          ·rw [if_neg c18] at H; have c18b0 := beq_eq_false_iff_ne.mpr c18; have c18b1 : ((bt a0 (ji15)) != 10) = true := bne_iff_ne.mpr c18; have H' := aK H; clear H; have p13 : 0 ≤ (x5_1 : Int) := of_decide_eq_true q4_; have q13 : x5_1 < (a0.size : Int) := of_decide_eq_true q4_; have hx13 := bt_at a0 x5_1; replace p13 := eq_true p13; replace q13 := eq_true q13; have p17 : 0 ≤ ((ji15) : Int) := of_decide_eq_true q4_; have q17 : (ji15) < (a0.size : Int) := of_decide_eq_true q4_; have hx17 := bt_at a0 (ji15); replace p17 := eq_true p17; replace q17 := eq_true q17; go_wp2
           go_roundg k1
           case measure => have := HK1.1; omega
           case rel => exact ⟨(x3_1), (x4_1), (ji15), q2_, q181_, H', ⟨q64_⟩, ⟨q85_⟩, ⟨q1_⟩⟩
         ·rw [if_neg c16] at H; exact absurd H (by simp)
        ·rw [if_neg c14] at H; have c14b0 := beq_eq_false_iff_ne.mpr c14; have c14b1 : ((bt a0 x5_1) != 13) = true := bne_iff_ne.mpr c14; have H' := aK H; clear H; have p13 : 0 ≤ (x5_1 : Int) := of_decide_eq_true q4_; have q13 : x5_1 < (a0.size : Int) := of_decide_eq_true q4_; have hx13 := bt_at a0 x5_1; replace p13 := eq_true p13; replace q13 := eq_true q13; go_wp2
         go_roundg k1
         case measure => have := HK1.1; omega
         case rel => exact ⟨(x3_1), (x4_1), (wrap64 (x5_1 + 1)), q2_, q2_, H', ⟨q64_⟩, ⟨q85_⟩, ⟨q1_⟩⟩
       ·rw [if_neg c12] at H; exact absurd H (by simp)
      ·rw [if_neg c11] at H; exact absurd H (by simp)
     ·rw [if_neg c10] at H; have c10b0 := decide_eq_false c10; clear c10; have H' := aK H; clear H; go_wp2
      go_roundg k1
      case measure => have := HK1.1; omega
      case rel => exact ⟨(x3_1), (x4_1), (wrap64 (x5_1 + 1)), q2_, q2_, H', ⟨q64_⟩, ⟨q85_⟩, ⟨q1_⟩⟩
   ·rw [if_neg c4] at H; have c4b0 := decide_eq_false c4; clear c4; obtain rfl := Option.some.inj H; go_wp2
    go_ret
    exact ⟨_, q7_, q81_, q1_⟩

def spec_l1Large.f (a0 : Int) : Option (Bool) := (spec_l1In.f (wrap64 (a0)) 65 90).bind fun t177 => (some t177)
theorem spec_l1Large.calls (a0 : Int) (r : Bool) (w : World) (h : spec_l1Large.f a0 = some r) :
  Calls Tryz.prog 146 #[.int .u8 a0] w fun e w' => e = .returned (.bool r) ∧ Drawn0 w w' := by
 have H : ((spec_l1In.f (wrap64 (a0)) 65 90).bind fun t177 => (some t177)) = some r := h; clear h; replace H := oB H; obtain ⟨t177, A2, H⟩ := H; (try dsimp only at H); obtain rfl := Option.some.inj H; go_enter Tryz.func146, Tryz.ntmps146
 go_wp2_with (first | ((with_reducible refine gate_callee (f := 84) rfl ?_); refine goesL_ (some 5) rfl rfl Tryz.func84 (by kernel_rfl) rfl #[.int .i64 (wrap64 (a0)), .int .i64 65, .int .i64 90] rfl q3_ ?_; (with_reducible refine (spec_l1In.calls (wrap64 (a0)) 65 90 t177 _ A2.1).mono ?_); rintro e w' ⟨rfl, ⟨nd, rfl⟩⟩; refine ⟨_, rfl, ?_⟩))
 go_ret
 exact ⟨q2_, q5_⟩

def spec_l3Method.l0 : Nat → ByteArray → Int → Option (Bool)
 | 0, _, _ => none
 | k + 1, x0, x3 => if x3 < (x0.size : Int) then (if 0 ≤ x3 then ((spec_l1Large.f (bt x0 x3)).bind fun t178 => (if t178 = true then (spec_l3Method.l0 k x0 (wrap64 (x3 + 1))) else (some false))) else (none)) else ((spec_l1In.f (x0.size : Int) 1 9).bind fun t179 => (some t179))
def spec_l3Method.f (k : Nat) (a0 : ByteArray) : Option (Bool) := spec_l3Method.l0 k a0 0

theorem spec_l3Method.calls (k : Nat) (a0 : ByteArray) (r : Bool) (w : World) (h : spec_l3Method.f k a0 = some r) :
  Calls Tryz.prog 121 #[.string a0] w fun e w' => e = .returned (.bool r) ∧ Drawn0 w w' := by
 have H : (spec_l3Method.l0 k a0 0) = some r := h; clear h; have H' := aK H; clear H; go_enter Tryz.func121, Tryz.ntmps121
 go_wp2
 go_loopg [3] k (fun kq v3 w' => ∃ (x3_1 : Int), v3 = .int .i64 x3_1 ∧ Aside0 (spec_l3Method.l0 kq a0 x3_1 = some r) ∧ Aside0 (kq ≤ k) ∧ Drawn0 w w')
 case atStart => exact ⟨(0), q2_, H', ⟨Nat.le_refl _⟩, q5_⟩
 case round =>
  clear H'; (try clear c1); obtain ⟨x3_1, rfl, HA, HK1, ⟨m1, rfl⟩⟩ := hrel; cases gk with
  | zero => exact absurd HA.1 (by simp [spec_l3Method.l0])
  | succ k1 =>
   have H := HA.1; clear HA; simp only [spec_l3Method.l0] at H; by_cases c2 : x3_1 < (a0.size : Int)
   ·rw [if_pos c2] at H; have c2b0 := decide_eq_true c2; clear c2; by_cases c3 : 0 ≤ x3_1
    ·rw [if_pos c3] at H; have c3b0 := decide_eq_true c3; clear c3; replace H := oB H; obtain ⟨t178, A5, H⟩ := H; (try dsimp only at H); have HC6 := aK H; clear H; have p4 : 0 ≤ (x3_1 : Int) := of_decide_eq_true q4_; have q4 : x3_1 < (a0.size : Int) := of_decide_eq_true q4_; have hx4 := bt_at a0 x3_1; replace p4 := eq_true p4; replace q4 := eq_true q4; go_upto_if 14 with (first | ((with_reducible refine gate_callee (f := 146) rfl ?_); refine goesL_ (some 13) rfl rfl Tryz.func146 (by kernel_rfl) rfl #[.int .u8 (bt a0 x3_1)] rfl q3_ ?_; (with_reducible refine (spec_l1Large.calls (bt a0 x3_1) t178 _ A5.1).mono ?_); rintro e w' ⟨rfl, ⟨nd, rfl⟩⟩; refine ⟨_, rfl, ?_⟩))
     (try simp only [Act.put, sI, sZ, sS]); have H := HC6.1; clear HC6; by_cases c7 : t178 = true
     ·subst c7; rw [if_pos rfl] at H; have H' := aK H; clear H; go_wp2
      go_roundg k1
      case measure => have := HK1.1; omega
      case rel => exact ⟨(wrap64 (x3_1 + 1)), q2_, H', ⟨q64_⟩, q5_⟩
     ·replace c7 := Bool.eq_false_iff.mpr c7; subst c7; rw [if_neg (show ¬ (false = true) by decide)] at H; obtain rfl := Option.some.inj H; go_wp2
      go_ret
      exact ⟨q2_, q5_⟩
    ·rw [if_neg c3] at H; exact absurd H (by simp)
   ·rw [if_neg c2] at H; have c2b0 := decide_eq_false c2; clear c2; replace H := oB H; obtain ⟨t179, A8, H⟩ := H; (try dsimp only at H); obtain rfl := Option.some.inj H; go_wp2_with (first | ((with_reducible refine gate_callee (f := 84) rfl ?_); refine goesL_ (some 17) rfl rfl Tryz.func84 (by kernel_rfl) rfl #[.int .i64 (a0.size : Int), .int .i64 1, .int .i64 9] rfl q3_ ?_; (with_reducible refine (spec_l1In.calls (a0.size : Int) 1 9 t179 _ A8.1).mono ?_); rintro e w' ⟨rfl, ⟨nd, rfl⟩⟩; refine ⟨_, rfl, ?_⟩))
    go_ret
    exact ⟨q2_, q5_⟩

def spec_l3Target.l0 : Nat → ByteArray → Int → Option (Bool)
 | 0, _, _ => none
 | k + 1, x0, x3 => if x3 < (x0.size : Int) then (if 0 ≤ x3 then ((spec_l1In.f (wrap64 (bt x0 x3)) 33 126).bind fun t180 => (if t180 = true then (spec_l3Target.l0 k x0 (wrap64 (x3 + 1))) else (some false))) else (none)) else ((spec_l1In.f (x0.size : Int) 1 80).bind fun t181 => (some t181))
def spec_l3Target.f (k : Nat) (a0 : ByteArray) : Option (Bool) := spec_l3Target.l0 k a0 0

theorem spec_l3Target.calls (k : Nat) (a0 : ByteArray) (r : Bool) (w : World) (h : spec_l3Target.f k a0 = some r) :
  Calls Tryz.prog 122 #[.string a0] w fun e w' => e = .returned (.bool r) ∧ Drawn0 w w' := by
 have H : (spec_l3Target.l0 k a0 0) = some r := h; clear h; have H' := aK H; clear H; go_enter Tryz.func122, Tryz.ntmps122
 go_wp2
 go_loopg [3] k (fun kq v3 w' => ∃ (x3_1 : Int), v3 = .int .i64 x3_1 ∧ Aside0 (spec_l3Target.l0 kq a0 x3_1 = some r) ∧ Aside0 (kq ≤ k) ∧ Drawn0 w w')
 case atStart => exact ⟨(0), q2_, H', ⟨Nat.le_refl _⟩, q5_⟩
 case round =>
  clear H'; (try clear c1); obtain ⟨x3_1, rfl, HA, HK1, ⟨m1, rfl⟩⟩ := hrel; cases gk with
  | zero => exact absurd HA.1 (by simp [spec_l3Target.l0])
  | succ k1 =>
   have H := HA.1; clear HA; simp only [spec_l3Target.l0] at H; by_cases c2 : x3_1 < (a0.size : Int)
   ·rw [if_pos c2] at H; have c2b0 := decide_eq_true c2; clear c2; by_cases c3 : 0 ≤ x3_1
    ·rw [if_pos c3] at H; have c3b0 := decide_eq_true c3; clear c3; replace H := oB H; obtain ⟨t180, A5, H⟩ := H; (try dsimp only at H); have HC6 := aK H; clear H; have p4 : 0 ≤ (x3_1 : Int) := of_decide_eq_true q4_; have q4 : x3_1 < (a0.size : Int) := of_decide_eq_true q4_; have hx4 := bt_at a0 x3_1; replace p4 := eq_true p4; replace q4 := eq_true q4; go_upto_if 15 with (first | ((with_reducible refine gate_callee (f := 84) rfl ?_); refine goesL_ (some 14) rfl rfl Tryz.func84 (by kernel_rfl) rfl #[.int .i64 (wrap64 (bt a0 x3_1)), .int .i64 33, .int .i64 126] rfl q3_ ?_; (with_reducible refine (spec_l1In.calls (wrap64 (bt a0 x3_1)) 33 126 t180 _ A5.1).mono ?_); rintro e w' ⟨rfl, ⟨nd, rfl⟩⟩; refine ⟨_, rfl, ?_⟩))
     (try simp only [Act.put, sI, sZ, sS]); have H := HC6.1; clear HC6; by_cases c7 : t180 = true
     ·subst c7; rw [if_pos rfl] at H; have H' := aK H; clear H; go_wp2
      go_roundg k1
      case measure => have := HK1.1; omega
      case rel => exact ⟨(wrap64 (x3_1 + 1)), q2_, H', ⟨q64_⟩, q5_⟩
     ·replace c7 := Bool.eq_false_iff.mpr c7; subst c7; rw [if_neg (show ¬ (false = true) by decide)] at H; obtain rfl := Option.some.inj H; go_wp2
      go_ret
      exact ⟨q2_, q5_⟩
    ·rw [if_neg c3] at H; exact absurd H (by simp)
   ·rw [if_neg c2] at H; have c2b0 := decide_eq_false c2; clear c2; replace H := oB H; obtain ⟨t181, A8, H⟩ := H; (try dsimp only at H); obtain rfl := Option.some.inj H; go_wp2_with (first | ((with_reducible refine gate_callee (f := 84) rfl ?_); refine goesL_ (some 18) rfl rfl Tryz.func84 (by kernel_rfl) rfl #[.int .i64 (a0.size : Int), .int .i64 1, .int .i64 80] rfl q3_ ?_; (with_reducible refine (spec_l1In.calls (a0.size : Int) 1 80 t181 _ A8.1).mono ?_); rintro e w' ⟨rfl, ⟨nd, rfl⟩⟩; refine ⟨_, rfl, ?_⟩))
    go_ret
    exact ⟨q2_, q5_⟩

def spec_l2Split.l0 : Nat → ByteArray → Int → List ByteArray → Int → Int → Option (List ByteArray)
 | 0, _, _, _, _, _ => none
 | k + 1, x0, x1, x5, x6, x7 => if x7 ≤ (x0.size : Int) then (if x7 = (x0.size : Int) then (if 0 ≤ x6 then (if x6 ≤ x7 then (if x5.length < 8796093022208 then (spec_l2Split.l0 k x0 x1 (x5 ++ [x0.extract (x6 : Int).toNat (x7 : Int).toNat]) (wrap64 (x7 + 1)) (wrap64 (x7 + 1))) else (none)) else (none)) else (none)) else (if 0 ≤ x7 then (if x7 < (x0.size : Int) then (if (bt x0 x7) = x1 then (if 0 ≤ x6 then (if x6 ≤ x7 then (if x5.length < 8796093022208 then (spec_l2Split.l0 k x0 x1 (x5 ++ [x0.extract (x6 : Int).toNat (x7 : Int).toNat]) (wrap64 (x7 + 1)) (wrap64 (x7 + 1))) else (none)) else (none)) else (none)) else (spec_l2Split.l0 k x0 x1 x5 x6 (wrap64 (x7 + 1)))) else (none)) else (none))) else (some x5)
def spec_l2Split.f (k : Nat) (a0 : ByteArray) (a1 : Int) : Option (List ByteArray) := spec_l2Split.l0 k a0 a1 (([] : List ByteArray)) 0 0

theorem spec_l2Split.calls (k : Nat) (a0 : ByteArray) (a1 : Int) (r : List ByteArray) (w : World) (h : spec_l2Split.f k a0 a1 = some r) :
  Calls Tryz.prog 136 #[.string a0, .int .u8 a1] w fun e w' => ∃ v0_ : Value, e = .returned (v0_) ∧ Kd.R Kd.string 9 w' w.heap.size (fun _ => True) v0_ r ∧ Below w.heap.size w w' := by
 have HB := aK (Below.refl w.heap.size w); have H : (spec_l2Split.l0 k a0 a1 (([] : List ByteArray)) 0 0) = some r := h; clear h; (first | (with_reducible replace H := oS H; obtain ⟨y182, Ny182, H⟩ := H) | (generalize hy_ : (([] : List ByteArray) : List ByteArray) = y182 at H; have Ny182 := aK hy_.symm; clear hy_)); (try dsimp only at H); have H' := aK H; clear H; go_enter Tryz.func136, Tryz.ntmps136
 go_wp2_with (first | ((with_reducible refine gate_dst (N := 8) rfl ?_); refine Kd.R_lit Kd.string _ 9 ?hg (N := 8) ?hd (xs := ([] : List ByteArray)) (inner := []) (ok := fun _ => True) (okp := fun _ => True) ?hr ?hp (fun _ hk => hk) trivial (Below.refl _ _) (Nat.le_refl _) (by simp) ?_; (case hd => rfl); (case hg => rfl); (case hr => exact q28_); (case hp => exact q182_); intro v183 w3 ho4 hb hg_ hnew_; clear hg_ hnew_; (first | rw [← Ny182.1] at ho4 | (simp only [Int.reduceToNat] at ho4; rw [← Ny182.1] at ho4)); have HO184 := aK (Kd.R_lower ho4 (below_size q1_)); replace HB := aK (below_step q1_ hb); clear hb ho4))
 go_loopg [5, 6, 7] k (fun kq v5 v6 v7 w' => ∃ (x5_1 : List ByteArray) (x6_1 : Int) (x7_1 : Int), v6 = .int .i64 x6_1 ∧ v7 = .int .i64 x7_1 ∧ Aside0 (spec_l2Split.l0 kq a0 a1 x5_1 x6_1 x7_1 = some r) ∧ Aside0 (kq ≤ k) ∧ Aside0 (Kd.R Kd.string 9 w' w.heap.size (fun _ => True) v5 x5_1) ∧ Aside0 (Below w.heap.size w w'))
 case atStart => exact ⟨(y182), (0), (0), q2_, q2_, H', ⟨Nat.le_refl _⟩, ⟨by (with_reducible repeat (first | apply rA_ | apply rN_ | apply rD_)); first | exact HO184.1 | exact Kd.R_mono HO184.1 (fun k_ h_ e_ => h_ (e_.trans (ob_len _ _ _ _ _)))⟩, ⟨q1_⟩⟩
 case round =>
  clear H'; (try clear c1); (try clear p2); obtain ⟨x5_1, x6_1, x7_1, rfl, rfl, HA, HK1, HO_5, HB⟩ := hrel; cases gk with
  | zero => exact absurd HA.1 (by simp [spec_l2Split.l0])
  | succ k1 =>
   have H := HA.1; clear HA; simp only [spec_l2Split.l0] at H; by_cases c5 : x7_1 ≤ (a0.size : Int)
   ·rw [if_pos c5] at H; have c5b0 := decide_eq_true c5; clear c5; by_cases c6 : x7_1 = (a0.size : Int)
    ·rw [if_pos c6] at H; have c6b0 := beq_iff_eq.mpr c6; have c6b1 : (x7_1 != (a0.size : Int)) = false := bne_eq_false_iff_eq.mpr c6; clear c6; by_cases c7 : 0 ≤ x6_1
     ·rw [if_pos c7] at H; have c7b0 := eq_true c7; have c7b1 := decide_eq_true c7; clear c7; by_cases c8 : x6_1 ≤ x7_1
      ·rw [if_pos c8] at H; have c8b0 := eq_true c8; have c8b1 := decide_eq_true c8; clear c8; have c9b0 := eq_true (of_decide_eq_true q4_ : x7_1 ≤ (a0.size : Int)); by_cases c10 : x5_1.length < 8796093022208
       ·rw [if_pos c10] at H; have LMc10 := aK c10; clear c10; (first | (with_reducible replace H := oS H; obtain ⟨y185, Ny185, H⟩ := H) | (generalize hy_ : (x5_1 ++ [a0.extract (x6_1 : Int).toNat (x7_1 : Int).toNat] : List ByteArray) = y185 at H; have Ny185 := aK hy_.symm; clear hy_)); (try dsimp only at H); have H' := aK H; clear H; go_wp2_with (first | ((with_reducible refine gate_builtin (b := .append) (xs := #[.tmp 26, .tmp 31]) rfl ?_); at_builtin; refine Kd.R_append Kd.string (w0 := w) w.heap.size rfl (.tmp 26) (.tmp 31) 91 9 (.string ⟨#[]⟩) 16 rfl Tryz.underlying91 info9 rfl (by decide) (by omega) u5 x5_1 (a0.extract (x6_1 : Int).toNat (x7_1 : Int).toNat) [.string (a0.extract (x6_1 : Int).toNat (x7_1 : Int).toNat)] (fun _ => True) (fun _ => False) rfl rfl ?aP (fun _ hk => hk.elim) ?aF ?aO ?aB ?aS ?aL ?_; (case aP => exact rfl); (case aB => exact q1_); (case aF => exact q100_); (case aO => exact q87_); (case aS => exact q198_); (case aL => have := LMc10.1; omega); intro v186 w11 ho hb hg hat; rw [← Ny185.1] at ho; replace HB := aK (hb); have HO187 := aK (ho); clear HO_5; clear ho hb hg hat))
        go_roundg k1
        case measure => have := HK1.1; omega
        case rel => exact ⟨(y185), (wrap64 (x7_1 + 1)), (wrap64 (x7_1 + 1)), q2_, q2_, H', ⟨q64_⟩, ⟨by (with_reducible repeat (first | apply rA_ | apply rN_ | apply rD_)); first | exact HO187.1 | exact Kd.R_mono HO187.1 (fun k_ h_ e_ => h_ (e_.trans (ob_len _ _ _ _ _)))⟩, ⟨q1_⟩⟩
       ·rw [if_neg c10] at H; exact absurd H (by simp)
      ·rw [if_neg c8] at H; exact absurd H (by simp)
     ·rw [if_neg c7] at H; exact absurd H (by simp)
    ·rw [if_neg c6] at H; have c6b0 := beq_eq_false_iff_ne.mpr c6; have c6b1 : (x7_1 != (a0.size : Int)) = true := bne_iff_ne.mpr c6; by_cases c12 : 0 ≤ x7_1
     ·rw [if_pos c12] at H; have c12b0 := decide_eq_true c12; clear c12; by_cases c13 : x7_1 < (a0.size : Int)
      ·rw [if_pos c13] at H; have c13b0 := decide_eq_true c13; clear c13; by_cases c15 : (bt a0 x7_1) = a1
       ·rw [if_pos c15] at H; have c15b0 := beq_iff_eq.mpr c15; have c15b1 : ((bt a0 x7_1) != a1) = false := bne_eq_false_iff_eq.mpr c15; clear c15; by_cases c16 : 0 ≤ x6_1
        ·rw [if_pos c16] at H; have c16b0 := eq_true c16; have c16b1 := decide_eq_true c16; clear c16; by_cases c17 : x6_1 ≤ x7_1
         ·rw [if_pos c17] at H; have c17b0 := eq_true c17; have c17b1 := decide_eq_true c17; clear c17; have c18b0 := eq_true (of_decide_eq_true q4_ : x7_1 ≤ (a0.size : Int)); by_cases c19 : x5_1.length < 8796093022208
          ·rw [if_pos c19] at H; have LMc19 := aK c19; clear c19; (first | (with_reducible replace H := oS H; obtain ⟨y188, Ny188, H⟩ := H) | (generalize hy_ : (x5_1 ++ [a0.extract (x6_1 : Int).toNat (x7_1 : Int).toNat] : List ByteArray) = y188 at H; have Ny188 := aK hy_.symm; clear hy_)); (try dsimp only at H); have H' := aK H; clear H; have p14 : 0 ≤ (x7_1 : Int) := of_decide_eq_true q4_; have q14 : x7_1 < (a0.size : Int) := of_decide_eq_true q4_; have hx14 := bt_at a0 x7_1; replace p14 := eq_true p14; replace q14 := eq_true q14; go_wp2_with (first | ((with_reducible refine gate_builtin (b := .append) (xs := #[.tmp 26, .tmp 31]) rfl ?_); at_builtin; refine Kd.R_append Kd.string (w0 := w) w.heap.size rfl (.tmp 26) (.tmp 31) 91 9 (.string ⟨#[]⟩) 16 rfl Tryz.underlying91 info9 rfl (by decide) (by omega) u5 x5_1 (a0.extract (x6_1 : Int).toNat (x7_1 : Int).toNat) [.string (a0.extract (x6_1 : Int).toNat (x7_1 : Int).toNat)] (fun _ => True) (fun _ => False) rfl rfl ?aP (fun _ hk => hk.elim) ?aF ?aO ?aB ?aS ?aL ?_; (case aP => exact rfl); (case aB => exact q1_); (case aF => exact q100_); (case aO => exact q87_); (case aS => exact q198_); (case aL => have := LMc19.1; omega); intro v189 w20 ho hb hg hat; rw [← Ny188.1] at ho; replace HB := aK (hb); have HO190 := aK (ho); clear HO_5; clear ho hb hg hat))
           go_roundg k1
           case measure => have := HK1.1; omega
           case rel => exact ⟨(y188), (wrap64 (x7_1 + 1)), (wrap64 (x7_1 + 1)), q2_, q2_, H', ⟨q64_⟩, ⟨by (with_reducible repeat (first | apply rA_ | apply rN_ | apply rD_)); first | exact HO190.1 | exact Kd.R_mono HO190.1 (fun k_ h_ e_ => h_ (e_.trans (ob_len _ _ _ _ _)))⟩, ⟨q1_⟩⟩
          ·rw [if_neg c19] at H; exact absurd H (by simp)
         ·rw [if_neg c17] at H; exact absurd H (by simp)
        ·rw [if_neg c16] at H; exact absurd H (by simp)
       ·rw [if_neg c15] at H; have c15b0 := beq_eq_false_iff_ne.mpr c15; have c15b1 : ((bt a0 x7_1) != a1) = true := bne_iff_ne.mpr c15; have H' := aK H; clear H; have p14 : 0 ≤ (x7_1 : Int) := of_decide_eq_true q4_; have q14 : x7_1 < (a0.size : Int) := of_decide_eq_true q4_; have hx14 := bt_at a0 x7_1; replace p14 := eq_true p14; replace q14 := eq_true q14; go_wp2
        go_roundg k1
        case measure => have := HK1.1; omega
        case rel => exact ⟨(x5_1), (x6_1), (wrap64 (x7_1 + 1)), q2_, q2_, H', ⟨q64_⟩, ⟨q152_⟩, ⟨q1_⟩⟩
      ·rw [if_neg c13] at H; exact absurd H (by simp)
     ·rw [if_neg c12] at H; exact absurd H (by simp)
   ·rw [if_neg c5] at H; have c5b0 := decide_eq_false c5; clear c5; obtain rfl := Option.some.inj H; go_wp2
    go_ret
    exact ⟨_, q7_, q87_, q1_⟩

end Go.Proofs.YtaajhdljdmbhhaaGreatDoor.GFnExactFeedAll
