-- by gprint.py (this session's program over the kit's print.py) (a twelfth state) out of the translation. Not trusted: Lean checks it.
import Derived.Test.YtaajhdljdmbhhaaGreatDoorGFnExactFeedAllx0
namespace Go.Proofs.YtaajhdljdmbhhaaGreatDoor.GFnExactFeedAll
open Go.RowKit Go.Proofs.YtaajhdljdmbhhaaGreatDoorW.PrintWords Go.Proofs.YtaajhdljdmbhhaaGreatDoorW.PrintLast Go.Proofs.YtaajhdljdmbhhaaGreatDoorW.PrintMore
attribute [local go_sem] max2_int min2_int max_two min_two max_three min_three max_four min_four   -- for this text's walks alone
set_option linter.unusedVariables false
set_option linter.unusedSimpArgs false
set_option maxRecDepth 100000
set_option maxHeartbeats 8000000

/-- A state of type 96 at block g of W; what its slices lead to came in by w0. -/
def IsS96 (w0 W : World) (g : Nat) (f0 : ByteArray) (f1 : Int) : Prop := W.heap[g]? = some (.cells #[.string f0, .int .i64 f1] 96 (0, 0)) ∧ w0.heap.size ≤ g
theorem IsS96.grown {w0 W : World} {g : Nat} {f0 : ByteArray} {f1 : Int} {W1 : World} {row : Option Nat} (h : IsS96 w0 W g f0 f1) (hw : W.grownBy W1 row) (hne : some g ≠ row) : IsS96 w0 W1 g f0 f1 := by
 obtain ⟨hb, hg⟩ := h; exact ⟨blk_grown hb hw hne, hg⟩
theorem IsS96.below {w0 W : World} {g : Nat} {f0 : ByteArray} {f1 : Int} {W1 : World} (h : IsS96 w0 W g f0 f1) (hw : Below W.heap.size W W1) : IsS96 w0 W1 g f0 f1 := h.grown (grown_of_below hw none) (by simp)
theorem IsS96.alloc {w0 W : World} {g : Nat} {f0 : ByteArray} {f1 : Int} (h : IsS96 w0 W g f0 f1) (o : Obj) : IsS96 w0 (W.alloc o) g f0 f1 := h.below (aB_ (Below.refl _ _) o)
theorem IsS96.drewN {w0 W : World} {g : Nat} {f0 : ByteArray} {f1 : Int} (h : IsS96 w0 W g f0 f1) (m : Nat) : IsS96 w0 (W.drewN m) g f0 f1 := h
theorem IsS96.drew {w0 W : World} {g : Nat} {f0 : ByteArray} {f1 : Int} (h : IsS96 w0 W g f0 f1) : IsS96 w0 W.drew g f0 f1 := h
theorem IsS96.ge {w0 W : World} {g : Nat} {f0 : ByteArray} {f1 : Int} (h : IsS96 w0 W g f0 f1) : w0.heap.size ≤ g := by
 obtain ⟨hb, hg⟩ := h; exact hg
theorem IsS96.set_0 {w0 W : World} {g : Nat} {f0 : ByteArray} {f1 : Int} (h : IsS96 w0 W g f0 f1) (x : ByteArray) : IsS96 w0 (W.setCell ⟨g, 0, none⟩ (.string x)) g x f1 := by
 obtain ⟨hb, hg⟩ := h; exact ⟨by simpa using blk_set hb 0 (.string x), hg⟩
theorem IsS96.set_1 {w0 W : World} {g : Nat} {f0 : ByteArray} {f1 : Int} (h : IsS96 w0 W g f0 f1) (x : Int) : IsS96 w0 (W.setCell ⟨g, 1, none⟩ (.int .i64 x)) g f0 x := by
 obtain ⟨hb, hg⟩ := h; exact ⟨by simpa using blk_set hb 1 (.int .i64 x), hg⟩

mutual
def impl_chunks_end.l0 : Nat → Int → ByteArray → Int → Option (ByteArray × Int)
 | 0, _, _, _ => none
 | k + 1, x2, x1000, x1001 => if x2 < 2 then (impl_chunks_end.j1 k x2 (x1001 == 0) x1000 x1001) else (impl_chunks_end.j1 k x2 false x1000 x1001)
def impl_chunks_end.j1 : Nat → Int → Bool → ByteArray → Int → Option (ByteArray × Int)
 | 0, _, _, _, _ => none
 | k + 1, x2, x11, x1000, x1001 => if x11 = true then (if x1000.toList = ([] : List UInt8) then (impl_chunks_end.l0 k (wrap64 (x2 + 1)) x1000 1) else (if 0 < (x1000.size : Int) then (if 0 ≤ x2 then (if x2 < 2 then (if (bt x1000 0) = (bt (⟨#[13, 10]⟩ : BA) x2) then (if 1 ≤ (x1000.size : Int) then (impl_chunks_end.l0 k (wrap64 (x2 + 1)) (x1000.extract 1 x1000.size) x1001) else (none)) else (impl_chunks_end.l0 k (wrap64 (x2 + 1)) x1000 400)) else (none)) else (none)) else (none))) else (some (x1000, x1001))
end
def impl_chunks_end.f (k : Nat) (s0_0 : ByteArray) (s0_1 : Int) : Option (ByteArray × Int) := impl_chunks_end.l0 k 0 s0_0 s0_1

theorem impl_chunks_end.calls (k : Nat) (g : Nat) (s0_0 : ByteArray) (s0_1 : Int) (r1 : ByteArray) (r2 : Int) (w0 w : World) (hI : IsS96 w0 w g s0_0 s0_1) (hB : Below w0.heap.size w0 w) (h : impl_chunks_end.f k s0_0 s0_1 = some (r1, r2)) :
  Calls Tryz.prog 82 #[.pointer (some ⟨g, 0, none⟩)] w fun e w' => e = .returned (.tuple #[]) ∧ IsS96 w0 w' g r1 r2 ∧ Below w0.heap.size w0 w' ∧ KeepBut w w' g none := by
 have HI0 := aK hI; have HK := aK (KeepBut.refl w g none); have HL := aK hB.size; clear hI; have HW0 := aK hB.size; have HB := aK hB; clear hB; have H : (impl_chunks_end.l0 k 0 s0_0 s0_1) = some (r1, r2) := h; clear h; have H' := aK H; clear H; go_enter Tryz.func82, Tryz.ntmps82
 go_wp2
 repeat (go_quiet (fail); try go_wp2)
 go_loopg [2] k (fun kq v2 w' => ∃ (x2_1 : Int) (x1000_1 : ByteArray) (x1001_1 : Int), v2 = .int .i64 x2_1 ∧ Aside0 (impl_chunks_end.l0 kq x2_1 x1000_1 x1001_1 = some (r1, r2)) ∧ Aside0 (kq ≤ k) ∧ Aside0 (IsS96 w0 w' g x1000_1 x1001_1) ∧ Aside0 (KeepBut w w' g none) ∧ Aside0 (Below w0.heap.size w0 w'))
 case atStart => exact ⟨(0), (s0_0), (s0_1), q2_, H', ⟨Nat.le_refl _⟩, ⟨q31_⟩, ⟨q9_⟩, ⟨q30_⟩⟩
 case round =>
  clear H'; obtain ⟨x2_1, x1000_1, x1001_1, rfl, HA, HK1, HI0, HK, HB⟩ := hrel; cases gk with
  | zero => exact absurd HA.1 (by simp [impl_chunks_end.l0])
  | succ k1 =>
   have H := HA.1; clear HA; simp only [impl_chunks_end.l0] at H; have HC2 := aK H; clear H; go_upto_region 1 with (fail)
   repeat (go_quiet (fail); go_upto_region 1 with (fail))
   go_cut [11] (fun v11 wc => ∃ (kq : Nat) (x11_1 : Bool), v11 = .bool x11_1 ∧ Aside0 (impl_chunks_end.j1 kq x2_1 x11_1 x1000_1 x1001_1 = some (r1, r2)) ∧ Aside0 (kq ≤ k1) ∧ Aside0 (IsS96 w0 wc g x1000_1 x1001_1) ∧ Aside0 (KeepBut w wc g none) ∧ Aside0 (Below w0.heap.size w0 wc))
   case first =>
    have H := HC2.1; clear HC2; by_cases c3 : x2_1 < 2
    ·rw [if_pos c3] at H; have c3b0 := decide_eq_true c3; clear c3; (first | rw [c3b0] | rw [c3i0] | (simp only [i64_w, i32_w]; rw [c3b0]) | skip); have H' := aK H; clear H; obtain ⟨HGz4, hgz4⟩ := HI0.1; have hcz4 := cel2 HGz4; clear HGz4 hgz4; go_wp2
     repeat (go_quiet (fail); try go_wp2)
     go_meet
     case rel => exact ⟨_, ((x1001_1 == 0)), q2_, H', ⟨q65_⟩, ⟨q31_⟩, ⟨q9_⟩, ⟨q30_⟩⟩
    ·rw [if_neg c3] at H; have c3b0 := decide_eq_false c3; clear c3; (first | rw [c3b0] | rw [c3i0] | (simp only [i64_w, i32_w]; rw [c3b0]) | skip); have H' := aK H; clear H; go_wp2
     repeat (go_quiet (fail); try go_wp2)
     go_meet
     case rel => exact ⟨_, (false), q2_, H', ⟨q65_⟩, ⟨q31_⟩, ⟨q9_⟩, ⟨q30_⟩⟩
   case rest =>
    clear HC2; (try clear p2); (try clear c3); (try clear c3b0); (try clear hcz4); obtain ⟨kq, x11_1, rfl, HA, HJ1, HI0, HK, HB⟩ := hcut; cases kq with
    | zero => exact absurd HA.1 (by simp [impl_chunks_end.j1])
    | succ kj1 =>
     have H := HA.1; clear HA; simp only [impl_chunks_end.j1] at H; by_cases c5 : x11_1 = true
     ·subst c5; rw [if_pos rfl] at H; by_cases c6 : x1000_1.toList = ([] : List UInt8)
      ·rw [if_pos c6] at H; have c6b0 := beq_iff_eq.mpr c6; have c6b1 : (x1000_1.toList != ([] : List UInt8)) = false := bne_eq_false_iff_eq.mpr c6; clear c6; have H' := aK H; clear H; obtain ⟨HGz7, hgz7⟩ := HI0.1; have hcz7 := cel2 HGz7; clear HGz7 hgz7; go_wp2
       repeat (go_quiet (fail); try go_wp2)
       go_roundg kj1
       case measure => have := HK1.1; have := HJ1.1; omega
       case rel => exact ⟨(wrap64 (x2_1 + 1)), (x1000_1), (1), q2_, H', ⟨q174_⟩, ⟨q31_⟩, ⟨q9_⟩, ⟨q30_⟩⟩
      ·rw [if_neg c6] at H; have c6b0 := beq_eq_false_iff_ne.mpr c6; have c6b1 : (x1000_1.toList != ([] : List UInt8)) = true := bne_iff_ne.mpr c6; by_cases c8 : 0 < (x1000_1.size : Int)
       ·rw [if_pos c8] at H; have c8b0 := decide_eq_true c8; have c8b1 : decide (0 < x1000_1.size) = true := decide_eq_true (by omega); clear c8; by_cases c10 : 0 ≤ x2_1
        ·rw [if_pos c10] at H; have c10b0 := decide_eq_true c10; clear c10; by_cases c11 : x2_1 < 2
         ·rw [if_pos c11] at H; have c11b0 := decide_eq_true c11; clear c11; by_cases c13 : (bt x1000_1 0) = (bt (⟨#[13, 10]⟩ : BA) x2_1)
          ·rw [if_pos c13] at H; have c13b0 := beq_iff_eq.mpr c13; have c13b1 : ((bt x1000_1 0) != (bt (⟨#[13, 10]⟩ : BA) x2_1)) = false := bne_eq_false_iff_eq.mpr c13; clear c13; by_cases c14 : 1 ≤ (x1000_1.size : Int)
           ·rw [if_pos c14] at H; have c14b0 := eq_true c14; have c14b1 := decide_eq_true c14; clear c14; have H' := aK H; clear H; obtain ⟨HGz15, hgz15⟩ := HI0.1; have hcz15 := cel2 HGz15; clear HGz15 hgz15; have p9 : 0 ≤ (0 : Int) := (by omega); have q9 : 0 < x1000_1.size := (by have : (0 : Int) < (x1000_1.size : Int) := of_decide_eq_true q4_; omega); have hx9 : ∀ h : 0 < x1000_1.size, ((x1000_1[0]'h).toNat : Int) = bt x1000_1 0 := bt_at x1000_1 0; clear p9; have qi9 : (0 < (x1000_1.size : Int)) = True := eq_true (of_decide_eq_true q4_); replace q9 := eq_true q9; have p12 : 0 ≤ (x2_1 : Int) := of_decide_eq_true q4_; have q12 : x2_1 < (2 : Int) := of_decide_eq_true q4_; have hx12 := bt_at (⟨#[13, 10]⟩ : BA) x2_1; replace p12 := eq_true p12; replace q12 := eq_true q12; go_wp2
            repeat (go_quiet (fail); try go_wp2)
            go_roundg kj1
            case measure => have := HK1.1; have := HJ1.1; omega
            case rel => exact ⟨(wrap64 (x2_1 + 1)), (x1000_1.extract 1 x1000_1.size), (x1001_1), q2_, H', ⟨q174_⟩, ⟨q31_⟩, ⟨q9_⟩, ⟨q30_⟩⟩
           ·rw [if_neg c14] at H; exact absurd H (by simp)
          ·rw [if_neg c13] at H; have c13b0 := beq_eq_false_iff_ne.mpr c13; have c13b1 : ((bt x1000_1 0) != (bt (⟨#[13, 10]⟩ : BA) x2_1)) = true := bne_iff_ne.mpr c13; have H' := aK H; clear H; obtain ⟨HGz16, hgz16⟩ := HI0.1; have hcz16 := cel2 HGz16; clear HGz16 hgz16; have p9 : 0 ≤ (0 : Int) := (by omega); have q9 : 0 < x1000_1.size := (by have : (0 : Int) < (x1000_1.size : Int) := of_decide_eq_true q4_; omega); have hx9 : ∀ h : 0 < x1000_1.size, ((x1000_1[0]'h).toNat : Int) = bt x1000_1 0 := bt_at x1000_1 0; clear p9; have qi9 : (0 < (x1000_1.size : Int)) = True := eq_true (of_decide_eq_true q4_); replace q9 := eq_true q9; have p12 : 0 ≤ (x2_1 : Int) := of_decide_eq_true q4_; have q12 : x2_1 < (2 : Int) := of_decide_eq_true q4_; have hx12 := bt_at (⟨#[13, 10]⟩ : BA) x2_1; replace p12 := eq_true p12; replace q12 := eq_true q12; go_wp2
           repeat (go_quiet (fail); try go_wp2)
           go_roundg kj1
           case measure => have := HK1.1; have := HJ1.1; omega
           case rel => exact ⟨(wrap64 (x2_1 + 1)), (x1000_1), (400), q2_, H', ⟨q174_⟩, ⟨q31_⟩, ⟨q9_⟩, ⟨q30_⟩⟩
         ·rw [if_neg c11] at H; exact absurd H (by simp)
        ·rw [if_neg c10] at H; exact absurd H (by simp)
       ·rw [if_neg c8] at H; exact absurd H (by simp)
     ·replace c5 := Bool.eq_false_iff.mpr c5; subst c5; rw [if_neg (show ¬ (false = true) by decide)] at H; simp only [Option.some.injEq, Prod.mk.injEq] at H; obtain ⟨rfl, rfl⟩ := H; go_wp2
      repeat (go_quiet (fail); try go_wp2)
      first | go_end0 | ((try simp only [Exit.inBlock, Exit.then]); refine bodyPost_ret (results_none rfl _ _ _) rfl ?_)
      exact ⟨q7_, q31_, q30_, q9_⟩


def strings_Cut.f (a0 : ByteArray) (a1 : ByteArray) : Option (ByteArray × ByteArray × Bool) := if a0.size < 4294967281 then some (⟨(Lib.cut a0.data.toList a1.data.toList).1.toArray⟩, ⟨(Lib.cut a0.data.toList a1.data.toList).2.1.toArray⟩, (Lib.cut a0.data.toList a1.data.toList).2.2) else none
theorem strings_Cut.calls (a0 : ByteArray) (a1 : ByteArray) (r1 : ByteArray) (r2 : ByteArray) (r3 : Bool) (w : World) (h : strings_Cut.f a0 a1 = some (r1, r2, r3)) (hG : GOK w) :
  Calls Tryz.prog 103 #[.string a0, .string a1] w fun e w' => e = .returned (.tuple #[.string r1, .string r2, .bool r3]) ∧ Drawn0 w w' := by
 unfold strings_Cut.f at h
 split at h
 ·rename_i hs
  simp only [Option.some.injEq, Prod.mk.injEq] at h; obtain ⟨rfl, rfl, rfl⟩ := h; obtain ⟨m, hm⟩ := hG.maxlen; exact (Go.Proofs.YtaajhdljdmbhhaaGreatDoor.Shelf.Tryz.strings_Cut a0 a1 m w hs hm).mono fun e w' ⟨he, hw⟩ => ⟨he, ⟨hw⟩⟩
 ·cases h

def impl_isDigit.f (a0 : Int) : Option (Bool) := if a0 ≥ 48 then (some (decide (a0 ≤ 57))) else (some false)
theorem impl_isDigit.calls (a0 : Int) (r : Bool) (w : World) (h : impl_isDigit.f a0 = some r) :
  Calls Tryz.prog 144 #[.int .u8 a0] w fun e w' => e = .returned (.bool r) ∧ Drawn0 w w' := by
 have H : (if a0 ≥ 48 then (some (decide (a0 ≤ 57))) else (some false)) = some r := h; clear h; by_cases c2 : a0 ≥ 48
 ·rw [if_pos c2] at H; have c2b0 : decide (48 ≤ a0) = true := decide_eq_true c2; clear c2; obtain rfl := Option.some.inj H; go_enter Tryz.func144, Tryz.ntmps144
  go_wp2
  go_ret
  exact ⟨q2_, q5_⟩
 ·rw [if_neg c2] at H; have c2b0 : decide (48 ≤ a0) = false := decide_eq_false c2; clear c2; obtain rfl := Option.some.inj H; go_enter Tryz.func144, Tryz.ntmps144
  go_wp2
  go_ret
  exact ⟨q2_, q5_⟩

def impl_digitOf.j0 : Nat → Int → Bool → Option (Int)
 | 0, _, _ => none
 | k + 1, x0, x9 => if x9 = true then (some (((x0 - 97) % 256) + 10)) else (if x0 ≥ 65 then (if x0 ≤ 70 then (some (((x0 - 65) % 256) + 10)) else (some (-1))) else (some (-1)))
def impl_digitOf.f (k : Nat) (a0 : Int) : Option (Int) := (impl_isDigit.f a0).bind fun t366 => (if t366 = true then (some ((a0 - 48) % 256)) else (if a0 ≥ 97 then (impl_digitOf.j0 k a0 (decide (a0 ≤ 102))) else (impl_digitOf.j0 k a0 false)))

theorem impl_digitOf.calls (k : Nat) (a0 : Int) (r : Int) (w : World) (h : impl_digitOf.f k a0 = some r) :
  Calls Tryz.prog 131 #[.int .u8 a0] w fun e w' => e = .returned (.int .i64 r) ∧ Drawn0 w w' := by
 have H := h; clear h; unfold impl_digitOf.f at H
 replace H := oB H; obtain ⟨t366, A2, H⟩ := H; (try dsimp only at H); have HC3 := aK H; clear H; go_enter Tryz.func131, Tryz.ntmps131
 go_upto_if 3 with (first | ((with_reducible refine gate_callee (f := 144) rfl ?_); refine goesL_ (some 5) rfl rfl Tryz.func144 (by kernel_rfl) rfl #[.int .u8 a0] rfl q3_ ?_; (with_reducible refine (impl_isDigit.calls a0 t366 _ A2.1).mono ?_); rintro e w' ⟨rfl, ⟨nd, rfl⟩⟩; refine ⟨_, rfl, ?_⟩))
 (try simp only [Act.put, sI, sZ, sS]); have H := HC3.1; clear HC3; by_cases c4 : t366 = true
 ·subst c4; rw [if_pos rfl] at H; obtain rfl := Option.some.inj H; go_wp2
  go_ret
  exact ⟨q2_, q5_⟩
 ·replace c4 := Bool.eq_false_iff.mpr c4; subst c4; rw [if_neg (show ¬ (false = true) by decide)] at H; have HC5 := aK H; clear H; go_upto_region 3 with (fail)
  go_cut [9] (fun v9 wc => ∃ (kq : Nat) (x9_4 : Bool), v9 = .bool x9_4 ∧ Aside0 (impl_digitOf.j0 kq a0 x9_4 = some r) ∧ Aside0 (kq ≤ k) ∧ Drawn0 w wc)
  case first =>
   have H := HC5.1; clear HC5; by_cases c6 : a0 ≥ 97
   ·rw [if_pos c6] at H; have c6b0 : decide (97 ≤ a0) = true := decide_eq_true c6; clear c6; (first | rw [c6b0] | rw [c6i0] | (simp only [i64_w, i32_w]; rw [c6b0]) | skip); have H' := aK H; clear H; go_wp2
    go_meet
    case rel => exact ⟨_, (decide (a0 ≤ 102)), q2_, H', ⟨q93_⟩, q5_⟩
   ·rw [if_neg c6] at H; have c6b0 : decide (97 ≤ a0) = false := decide_eq_false c6; clear c6; (first | rw [c6b0] | rw [c6i0] | (simp only [i64_w, i32_w]; rw [c6b0]) | skip); have H' := aK H; clear H; go_wp2
    go_meet
    case rel => exact ⟨_, (false), q2_, H', ⟨q93_⟩, q5_⟩
  case rest =>
   clear HC5; (try clear c1); (try clear p2); (try clear c4); (try clear c6); (try clear c6b0); obtain ⟨kq, x9_4, rfl, HA, HJ4, ⟨mc4, rfl⟩⟩ := hcut; cases kq with
   | zero => exact absurd HA.1 (by simp [impl_digitOf.j0])
   | succ kj4 =>
    have H := HA.1; clear HA; simp only [impl_digitOf.j0] at H; by_cases c7 : x9_4 = true
    ·subst c7; rw [if_pos rfl] at H; obtain rfl := Option.some.inj H; go_wp2
     go_ret
     exact ⟨q2_, q5_⟩
    ·replace c7 := Bool.eq_false_iff.mpr c7; subst c7; rw [if_neg (show ¬ (false = true) by decide)] at H; by_cases c8 : a0 ≥ 65
     ·rw [if_pos c8] at H; have c8b0 : decide (65 ≤ a0) = true := decide_eq_true c8; clear c8; by_cases c9 : a0 ≤ 70
      ·rw [if_pos c9] at H; have c9b0 := decide_eq_true c9; clear c9; obtain rfl := Option.some.inj H; go_wp2
       go_ret
       exact ⟨q2_, q5_⟩
      ·rw [if_neg c9] at H; have c9b0 := decide_eq_false c9; clear c9; obtain rfl := Option.some.inj H; go_wp2
       go_ret
       exact ⟨q2_, q5_⟩
     ·rw [if_neg c8] at H; have c8b0 : decide (65 ≤ a0) = false := decide_eq_false c8; clear c8; obtain rfl := Option.some.inj H; go_wp2
      go_ret
      exact ⟨q2_, q5_⟩

def impl_ParseHex.l0 : Nat → ByteArray → Int → Int → Option (Int × Bool)
 | 0, _, _, _ => none
 | k + 1, x0, x4, x5 => if x5 < (x0.size : Int) then (if 0 ≤ x5 then ((impl_digitOf.f k (bt x0 x5)).bind fun t367 => (if t367 < 0 then (some (0, false)) else (if x5 ≥ 4 then (some (0, false)) else (impl_ParseHex.l0 k x0 (wrap64 ((wrap64 (16 * x4)) + t367)) (wrap64 (x5 + 1)))))) else (none)) else (some (x4, (x0.toList != ([] : List UInt8))))
def impl_ParseHex.f (k : Nat) (a0 : ByteArray) : Option (Int × Bool) := impl_ParseHex.l0 k a0 0 0

theorem impl_ParseHex.calls (k : Nat) (a0 : ByteArray) (r1 : Int) (r2 : Bool) (w : World) (h : impl_ParseHex.f k a0 = some (r1, r2)) :
  Calls Tryz.prog 104 #[.string a0] w fun e w' => e = .returned (.tuple #[.int .i64 r1, .bool r2]) ∧ Drawn0 w w' := by
 have H : (impl_ParseHex.l0 k a0 0 0) = some (r1, r2) := h; clear h; have H' := aK H; clear H; go_enter Tryz.func104, Tryz.ntmps104
 go_wp2
 go_loopg [4, 5] k (fun kq v4 v5 w' => ∃ (x4_1 : Int) (x5_1 : Int), v4 = .int .i64 x4_1 ∧ v5 = .int .i64 x5_1 ∧ Aside0 (impl_ParseHex.l0 kq a0 x4_1 x5_1 = some (r1, r2)) ∧ Aside0 (kq ≤ k) ∧ Drawn0 w w')
 case atStart => exact ⟨(0), (0), q2_, q2_, H', ⟨Nat.le_refl _⟩, q5_⟩
 case round =>
  clear H'; (try clear c1); obtain ⟨x4_1, x5_1, rfl, rfl, HA, HK1, ⟨m1, rfl⟩⟩ := hrel; cases gk with
  | zero => exact absurd HA.1 (by simp [impl_ParseHex.l0])
  | succ k1 =>
   have H := HA.1; clear HA; simp only [impl_ParseHex.l0] at H; by_cases c2 : x5_1 < (a0.size : Int)
   ·rw [if_pos c2] at H; have c2b0 := decide_eq_true c2; clear c2; by_cases c3 : 0 ≤ x5_1
    ·rw [if_pos c3] at H; have c3b0 := decide_eq_true c3; clear c3; replace H := oB H; obtain ⟨t367, A5, H⟩ := H; (try dsimp only at H); by_cases c6 : t367 < 0
     ·rw [if_pos c6] at H; have c6b0 := decide_eq_true c6; clear c6; simp only [Option.some.injEq, Prod.mk.injEq] at H; obtain ⟨rfl, rfl⟩ := H; have p4 : 0 ≤ (x5_1 : Int) := of_decide_eq_true q4_; have q4 : x5_1 < (a0.size : Int) := of_decide_eq_true q4_; have hx4 := bt_at a0 x5_1; replace p4 := eq_true p4; replace q4 := eq_true q4; go_wp2_with (first | ((with_reducible refine gate_callee (f := 131) rfl ?_); refine goesL_ (some 16) rfl rfl Tryz.func131 (by kernel_rfl) rfl #[.int .u8 (bt a0 x5_1)] rfl q3_ ?_; (with_reducible refine (impl_digitOf.calls k1 (bt a0 x5_1) t367 _ A5.1).mono ?_); rintro e w' ⟨rfl, ⟨nd, rfl⟩⟩; refine ⟨_, rfl, ?_⟩))
      go_ret2
      exact ⟨q2_, q5_⟩
     ·rw [if_neg c6] at H; have c6b0 := decide_eq_false c6; clear c6; have HC7 := aK H; clear H; have p4 : 0 ≤ (x5_1 : Int) := of_decide_eq_true q4_; have q4 : x5_1 < (a0.size : Int) := of_decide_eq_true q4_; have hx4 := bt_at a0 x5_1; replace p4 := eq_true p4; replace q4 := eq_true q4; go_upto_if 22 with (first | ((with_reducible refine gate_callee (f := 131) rfl ?_); refine goesL_ (some 16) rfl rfl Tryz.func131 (by kernel_rfl) rfl #[.int .u8 (bt a0 x5_1)] rfl q3_ ?_; (with_reducible refine (impl_digitOf.calls k1 (bt a0 x5_1) t367 _ A5.1).mono ?_); rintro e w' ⟨rfl, ⟨nd, rfl⟩⟩; refine ⟨_, rfl, ?_⟩))
      (try simp only [Act.put, sI, sZ, sS]); have H := HC7.1; clear HC7; by_cases c8 : x5_1 ≥ 4
      ·rw [if_pos c8] at H; have c8b0 : decide (4 ≤ x5_1) = true := decide_eq_true c8; clear c8; (first | rw [c8b0] | rw [c8i0] | (simp only [i64_w, i32_w]; rw [c8b0]) | skip); simp only [Option.some.injEq, Prod.mk.injEq] at H; obtain ⟨rfl, rfl⟩ := H; go_wp2
       go_ret2
       exact ⟨q2_, q5_⟩
      ·rw [if_neg c8] at H; have c8b0 : decide (4 ≤ x5_1) = false := decide_eq_false c8; clear c8; (first | rw [c8b0] | rw [c8i0] | (simp only [i64_w, i32_w]; rw [c8b0]) | skip); have H' := aK H; clear H; go_wp2
       go_roundg k1
       case measure => have := HK1.1; omega
       case rel => exact ⟨(wrap64 ((wrap64 (16 * x4_1)) + t367)), (wrap64 (x5_1 + 1)), q2_, q2_, H', ⟨q64_⟩, q5_⟩
    ·rw [if_neg c3] at H; exact absurd H (by simp)
   ·rw [if_neg c2] at H; have c2b0 := decide_eq_false c2; clear c2; simp only [Option.some.injEq, Prod.mk.injEq] at H; obtain ⟨rfl, rfl⟩ := H; go_wp2
    go_ret2
    exact ⟨q2_, q5_⟩

def impl_chunks_size.j0 : Nat → ByteArray → Bool → Int → Bool → Bool → ByteArray → Int → Option (Int × ByteArray × Int)
 | 0, _, _, _, _, _, _, _ => none
 | k + 1, x3, x5, x6, x7, x34, x1000, x1001 => if x34 = true then (some (x6, x1000, 1)) else (if x7 = true then (if x5 = true then (if 0 ≤ (x3.size : Int) then (if (x3.size : Int) ≤ (x1000.size : Int) then ((impl_chunks_end.f k (x1000.extract x3.size x1000.size) x1001).bind fun bt373 => (some (x6, bt373.1, bt373.2))) else (none)) else (none)) else (some (x6, x1000, 1))) else (some (x6, x1000, 400)))
def impl_chunks_size.f (k : Nat) (s0_0 : ByteArray) (s0_1 : Int) : Option (Int × ByteArray × Int) := (strings_Cut.f s0_0 (⟨#[13]⟩ : BA)).bind fun bt368 => ((impl_ParseHex.f k bt368.1).bind fun bt371 => (if bt368.2.2 = true then (impl_chunks_size.j0 k bt368.1 bt368.2.2 bt371.1 bt371.2 false s0_0 s0_1) else (impl_chunks_size.j0 k bt368.1 bt368.2.2 bt371.1 bt371.2 (bt368.1.toList == ([] : List UInt8)) s0_0 s0_1)))

theorem impl_chunks_size.calls (k : Nat) (g : Nat) (s0_0 : ByteArray) (s0_1 : Int) (r1 : Int) (r2 : ByteArray) (r3 : Int) (w0 w : World) (hI : IsS96 w0 w g s0_0 s0_1) (hB : Below w0.heap.size w0 w) (h : impl_chunks_size.f k s0_0 s0_1 = some (r1, r2, r3)) (hG : GOK w0) :
  Calls Tryz.prog 81 #[.pointer (some ⟨g, 0, none⟩)] w fun e w' => e = .returned (.int .i64 r1) ∧ IsS96 w0 w' g r2 r3 ∧ Below w0.heap.size w0 w' ∧ KeepBut w w' g none := by
 have HI0 := aK hI; have HK := aK (KeepBut.refl w g none); have HL := aK hB.size; clear hI; have HW0 := aK hB.size; have HB := aK hB; clear hB; have H := h; clear h; unfold impl_chunks_size.f at H
 replace H := oB H; obtain ⟨⟨t368, t369, t370⟩, A2, H⟩ := H; (try dsimp only at H); replace H := oB H; obtain ⟨⟨t371, t372⟩, A3, H⟩ := H; (try dsimp only at H); have HC4 := aK H; clear H; obtain ⟨HGz5, hgz5⟩ := HI0.1; have hcz5 := cel2 HGz5; clear HGz5 hgz5; go_enter Tryz.func81, Tryz.ntmps81
 go_upto_region 5 with (first | ((with_reducible refine gate_callee (f := 103) rfl ?_); refine goesL_ (some 13) rfl rfl Tryz.func103 (by kernel_rfl) rfl #[.string s0_0, .string (⟨#[13]⟩ : BA)] rfl q3_ ?_; (with_reducible refine (strings_Cut.calls s0_0 (⟨#[13]⟩ : BA) t368 t369 t370 _ A2.1 ?side99).mono ?_); (case side99 => exact q18_); rintro e w' ⟨rfl, ⟨nd, rfl⟩⟩; refine ⟨_, rfl, ?_⟩) | ((with_reducible refine gate_callee (f := 104) rfl ?_); refine goesL_ (some 19) rfl rfl Tryz.func104 (by kernel_rfl) rfl #[.string t368] rfl q3_ ?_; (with_reducible refine (impl_ParseHex.calls k t368 t371 t372 _ A3.1).mono ?_); rintro e w' ⟨rfl, ⟨nd, rfl⟩⟩; refine ⟨_, rfl, ?_⟩))
 (try simp only [Act.put, sI, sZ, sS]); go_cut [34] (fun v34 wc => ∃ (kq : Nat) (x34_3 : Bool), v34 = .bool x34_3 ∧ Aside0 (impl_chunks_size.j0 kq t368 t370 t371 t372 x34_3 s0_0 s0_1 = some (r1, r2, r3)) ∧ Aside0 (kq ≤ k) ∧ Aside0 (IsS96 w0 wc g s0_0 s0_1) ∧ Aside0 (KeepBut w wc g none) ∧ Aside0 (Below w0.heap.size w0 wc))
 case first =>
  have H := HC4.1; clear HC4; by_cases c6 : t370 = true
  ·subst c6; rw [if_pos rfl] at H; have H' := aK H; clear H; go_wp2
   go_meet
   case rel => exact ⟨_, (false), q2_, H', ⟨q93_⟩, ⟨q31_⟩, ⟨q9_⟩, ⟨q30_⟩⟩
  ·replace c6 := Bool.eq_false_iff.mpr c6; subst c6; rw [if_neg (show ¬ (false = true) by decide)] at H; have H' := aK H; clear H; go_wp2
   go_meet
   case rel => exact ⟨_, ((t368.toList == ([] : List UInt8))), q2_, H', ⟨q93_⟩, ⟨q31_⟩, ⟨q9_⟩, ⟨q30_⟩⟩
 case rest =>
  clear HC4; (try clear c1); (try clear p2); (try clear c6); (try clear hcz5); obtain ⟨kq, x34_3, rfl, HA, HJ3, HI0, HK, HB⟩ := hcut; cases kq with
  | zero => exact absurd HA.1 (by simp [impl_chunks_size.j0])
  | succ kj3 =>
   have H := HA.1; clear HA; simp only [impl_chunks_size.j0] at H; by_cases c7 : x34_3 = true
   ·subst c7; rw [if_pos rfl] at H; simp only [Option.some.injEq, Prod.mk.injEq] at H; obtain ⟨rfl, rfl, rfl⟩ := H; obtain ⟨HGz8, hgz8⟩ := HI0.1; have hcz8 := cel2 HGz8; clear HGz8 hgz8; go_wp2
    go_ret
    exact ⟨q7_, q31_, q30_, q9_⟩
   ·replace c7 := Bool.eq_false_iff.mpr c7; subst c7; rw [if_neg (show ¬ (false = true) by decide)] at H; by_cases c9 : t372 = true
    ·subst c9; rw [if_pos rfl] at H; by_cases c10 : t370 = true
     ·subst c10; rw [if_pos rfl] at H; by_cases c11 : 0 ≤ (t368.size : Int)
      ·rw [if_pos c11] at H; have c11b0 := eq_true c11; have c11b1 := decide_eq_true c11; clear c11; by_cases c12 : (t368.size : Int) ≤ (s0_0.size : Int)
       ·rw [if_pos c12] at H; have c12b0 := eq_true c12; have c12b1 := decide_eq_true c12; clear c12; replace H := oB H; obtain ⟨⟨t373, t374⟩, A13, H⟩ := H; (try dsimp only at H); simp only [Option.some.injEq, Prod.mk.injEq] at H; obtain ⟨rfl, rfl, rfl⟩ := H; obtain ⟨HGz14, hgz14⟩ := HI0.1; have hcz14 := cel2 HGz14; clear HGz14 hgz14; go_wp2_with (first | ((with_reducible refine gate_callee (f := 82) rfl ?_); refine goesL_ (some 33) rfl rfl Tryz.func82 (by kernel_rfl) rfl #[.pointer (some ⟨g, 0, none⟩)] rfl q3_ ?_; (with_reducible refine (impl_chunks_end.calls kj3 g (s0_0.extract t368.size s0_0.size) s0_1 t373 t374 w0 _ ?side1 ?side2 A13.1).mono ?_); (case side1 => exact q31_); (case side2 => exact q30_); rintro e w15 ⟨rfl, hi, hb, hk⟩; refine ⟨_, rfl, ?_⟩; replace HK := aK (KeepBut.trans q9_ hk (.inl rfl)); replace HB := aK (hb); replace HI0 := aK (hi); clear hb hk hi))
        go_ret
        exact ⟨q7_, q31_, q30_, q9_⟩
       ·rw [if_neg c12] at H; exact absurd H (by simp)
      ·rw [if_neg c11] at H; exact absurd H (by simp)
     ·replace c10 := Bool.eq_false_iff.mpr c10; subst c10; rw [if_neg (show ¬ (false = true) by decide)] at H; simp only [Option.some.injEq, Prod.mk.injEq] at H; obtain ⟨rfl, rfl, rfl⟩ := H; obtain ⟨HGz16, hgz16⟩ := HI0.1; have hcz16 := cel2 HGz16; clear HGz16 hgz16; go_wp2
      go_ret
      exact ⟨q7_, q31_, q30_, q9_⟩
    ·replace c9 := Bool.eq_false_iff.mpr c9; subst c9; rw [if_neg (show ¬ (false = true) by decide)] at H; simp only [Option.some.injEq, Prod.mk.injEq] at H; obtain ⟨rfl, rfl, rfl⟩ := H; obtain ⟨HGz17, hgz17⟩ := HI0.1; have hcz17 := cel2 HGz17; clear HGz17 hgz17; go_wp2
     go_ret
     exact ⟨q7_, q31_, q30_, q9_⟩

end Go.Proofs.YtaajhdljdmbhhaaGreatDoor.GFnExactFeedAll
