-- by gprint.py (this session's program over the kit's print.py) (a twelfth state) out of the translation. Not trusted: Lean checks it.
import Derived.Test.YtfncjddolbghlaaGreatDoorGFnMorex0
import Derived.Test.YtfncjddolbghlaaGreatDoorGFnMorex7
import Derived.Test.YtfncjddolbghlaaGreatDoorGFnMorex8
namespace Go.Proofs.YtfncjddolbghlaaGreatDoor.GFnMore
open Go.RowKit Go.Proofs.YtfncjddolbghlaaGreatDoorW.PrintWords Go.Proofs.YtfncjddolbghlaaGreatDoorW.PrintLast Go.Proofs.YtfncjddolbghlaaGreatDoorW.PrintMore
attribute [local go_sem] max2_int min2_int max_two min_two max_three min_three max_four min_four   -- for this text's walks alone
set_option linter.unusedVariables false
set_option linter.unusedSimpArgs false
set_option maxRecDepth 100000
set_option maxHeartbeats 8000000

def impl_Lower.l0 : Nat → List Int → Int → Int → Option (ByteArray)
 | 0, _, _, _ => none
 | k + 1, x3, x9, x10 => if x10 < x9 then (if 0 ≤ x10 then (if x10 < (x3.length : Int) then ((impl_isLarge.f (rd x3 x10)).bind fun t382 => (if t382 = true then (impl_Lower.l0 k (x3.set (x10 : Int).toNat (((rd x3 x10) + 32) % 256)) x9 (wrap64 (x10 + 1))) else (impl_Lower.l0 k x3 x9 (wrap64 (x10 + 1))))) else (none)) else (none)) else (some (strOfNums x3))
def impl_Lower.f (k : Nat) (a0 : ByteArray) : Option (ByteArray) := if a0.size < 140737488355328 then ((some (bytesOf a0 : List Int)).bind fun y378 => (impl_Lower.l0 k y378 (y378.length : Int) 0)) else (none)

theorem impl_Lower.calls (k : Nat) (a0 : ByteArray) (r : ByteArray) (w : World) (h : impl_Lower.f k a0 = some r) :
  Calls Tryz.prog 144 #[.string a0] w fun e w' => e = .returned (.string r) ∧ Below w.heap.size w w' := by
 have HB := Aside0.mk (Below.refl w.heap.size w)
 have H : (if a0.size < 140737488355328 then ((some (bytesOf a0 : List Int)).bind fun y378 => (impl_Lower.l0 k y378 (y378.length : Int) 0)) else (none)) = some r := h
 clear h
 by_cases c2 : a0.size < 140737488355328
 ·rw [if_pos c2] at H
  have LMc2 := Aside0.mk c2
  clear c2
  obtain ⟨y378, hy378⟩ : ∃ y_ : List Int, y_ = (bytesOf a0) := ⟨_, rfl⟩
  replace H : (impl_Lower.l0 k y378 (y378.length : Int) 0) = some r := by first | (rw [hy378]; with_reducible exact H) | (have H2_ := (Option.bind_some _ _).symm.trans H; rw [hy378]; with_reducible exact H2_) | (have H2_ := (Option.bind_some _ _).symm.trans H; with_reducible exact H2_) | with_reducible exact H | (rw [hy378]; exact H) | exact H
  have Ny378 := Aside0.mk hy378
  clear hy378
  have H' := Aside0.mk H
  clear H
  go_enter Tryz.func144, Tryz.ntmps144
  go_wp2_with (first | ((with_reducible refine gate_ (.convert 9 22 _) rfl ?_); refine Kd.R_conv_str (w0 := w) w.heap.size rfl 9 22 5 _ rfl Tryz.underlying9 Tryz.underlying22 Tryz.underlying5 a0 (fun _ => True) rfl ?aF ?aO ?aB ?aS ?aL ?_; (case aB => exact q1_); (case aF => exact (fun _ _ => trivial)); (case aO => exact ((Kd.R_nil _ _ _ _ (fun _ => True)))); (case aS => exact (below_size q1_)); (case aL => have := LMc2.1; omega); intro v379 w3 ho hb hg hat; rw [← Ny378.1] at ho; have n0_ := Aside0.mk (hb); have n1_ := Aside0.mk (ho); clear HB; have HB := n0_; have HO380 := n1_; clear n0_ n1_; clear ho hb hg hat; obtain ⟨Ao4, co4, eo4⟩ := Kd.R_slice HO380.1; subst eo4))
  go_loopg [10] k (fun kq v10 w' => ∃ (x3_1 : List Int) (x10_1 : Int), v10 = .int .i64 x10_1 ∧ Aside0 (impl_Lower.l0 kq x3_1 (y378.length : Int) x10_1 = some r) ∧ Aside0 (kq ≤ k) ∧ Aside0 (Kd.R (Kd.int .u8) 5 w' w.heap.size (fun _ => True) (.slice Ao4 y378.length co4) x3_1) ∧ Aside0 (Below w.heap.size w w'))
  case atStart => exact ⟨(y378), (0), q3_, H', ⟨Nat.le_refl _⟩, ⟨by (with_reducible repeat (first | apply rA_ | apply rN_ | apply rD_)); first | exact HO380.1 | exact Kd.R_mono HO380.1 (fun k_ h_ e_ => h_ (e_.trans (ob_len _ _ _ _ _)))⟩, ⟨q1_⟩⟩
  case round =>
   clear H'
   try clear c1
   try clear c2
   try clear p2
   obtain ⟨x3_1, x10_1, rfl, HA, HK1, HO_3, HB⟩ := hrel
   have hl3_1 := (Kd.R_reads' HO_3.1).1
   rw [hl3_1] at HO_3
   (try simp only [hl3_1])
   cases gk with
   | zero => exact absurd HA.1 (by simp [impl_Lower.l0])
   | succ k1 =>
    have H := HA.1
    clear HA
    simp only [impl_Lower.l0] at H
    by_cases c5 : x10_1 < (y378.length : Int)
    ·rw [if_pos c5] at H
     have c5b0 : decide (x10_1 < (y378.length : Int)) = true := decide_eq_true c5
     (try simp only [hl3_1] at c5b0)
     clear c5
     by_cases c6 : 0 ≤ x10_1
     ·rw [if_pos c6] at H
      have c6b0 : decide (0 ≤ x10_1) = true := decide_eq_true c6
      clear c6
      by_cases c7 : x10_1 < (x3_1.length : Int)
      ·rw [if_pos c7] at H
       have c7b0 : decide (x10_1 < (x3_1.length : Int)) = true := decide_eq_true c7
       (try simp only [hl3_1] at c7b0)
       clear c7
       replace H := Option.bind_eq_some_iff.mp H
       obtain ⟨t382, A80, H⟩ := H
       replace H : (if t382 = true then (impl_Lower.l0 k1 (x3_1.set (x10_1 : Int).toNat (((rd x3_1 x10_1) + 32) % 256)) (y378.length : Int) (wrap64 (x10_1 + 1))) else (impl_Lower.l0 k1 x3_1 (y378.length : Int) (wrap64 (x10_1 + 1)))) = some r := H
       have A8 := Aside0.mk A80
       clear A80
       by_cases c9 : t382 = true
       ·subst c9
        rw [if_pos rfl] at H
        obtain ⟨y383, hy383⟩ : ∃ y_ : List Int, y_ = (x3_1.set (x10_1 : Int).toNat (((rd x3_1 x10_1) + 32) % 256)) := ⟨_, rfl⟩
        replace H : (impl_Lower.l0 k1 y383 (y378.length : Int) (wrap64 (x10_1 + 1))) = some r := by first | (rw [hy383]; with_reducible exact H) | (have H2_ := (Option.bind_some _ _).symm.trans H; rw [hy383]; with_reducible exact H2_) | (have H2_ := (Option.bind_some _ _).symm.trans H; with_reducible exact H2_) | with_reducible exact H | (rw [hy383]; exact H) | exact H
        have Ny383 := Aside0.mk hy383
        clear hy383
        have H' := Aside0.mk H
        clear H
        have p381 : 0 ≤ (x10_1 : Int) := of_decide_eq_true q4_
        have q381 : x10_1 < (x3_1.length : Int) := of_decide_eq_true q4_
        obtain ⟨ad381, e381, hx381_0⟩ := Kd.at_int (Kd.R_reads' HO_3.1).2.2 x10_1 p381 q381
        cases e381
        replace p381 := eq_true p381
        replace q381 := eq_true q381
        go_wp2_with (first | ((with_reducible refine gate_callee (f := 154) rfl ?_); refine goesL_ (some 16) rfl rfl Tryz.func154 (by kernel_rfl) rfl #[.int .u8 (rd x3_1 x10_1)] rfl q2_ ?_; (with_reducible refine (impl_isLarge.calls (rd x3_1 x10_1) true _ A8.1).mono ?_); rintro e w' ⟨rfl, ⟨nd, rfl⟩⟩; refine ⟨_, rfl, ?_⟩; (try (rw [drewN_self wr]; generalize hq_ : World.drewN wr _ = wr; have n0_ : Aside0 (Kd.R (Kd.int .u8) 5 wr w.heap.size (fun _ => True) (.slice (some ad381) x3_1.length co4) x3_1) := ⟨by rw [← hq_]; exact q60_⟩; have n1_ : Aside0 (Below w.heap.size w wr) := ⟨by rw [← hq_]; exact q1_⟩; clear HO_3 HB hq_; have HO_3 := n0_; have HB := n1_; clear n0_ n1_)); have p10 : 0 ≤ (x10_1 : Int) := of_decide_eq_true q4_; have q10 : (x10_1 : Int) < ((x3_1.length : Int) : Int) := of_decide_eq_true q4_; obtain ⟨go10, co10, eo10, gb10, gl10, cl10, HG10⟩ := Kd.R_form HO_3.1 (by omega); (first | cases eo10 | (injection eo10 with ea_ en_ ec_; (first | subst ea_ | (injection ea_ with ea_; subst ea_)); subst ec_; clear en_)); have GB10 := Aside0.mk gb10; have GG10 := Aside0.mk HG10; clear gb10 gl10 HG10; (first | simp only [add_plain] at hx381_0 | skip); obtain ⟨hx10_0, hf10_0⟩ := Kd.R_celln 0 HO_3.1 (x10_1 : Int) p10 q10; replace p10 := eq_true p10; replace q10 := eq_true q10; obtain ⟨hy11_, hz11_⟩ := Kd.R_celln 0 HO_3.1 (x10_1 : Int) (of_decide_eq_true q4_) (of_decide_eq_true q4_); have HP11 := Kd.R_putg HO_3.1 (x10_1 : Int) (((rd x3_1 x10_1) + 32) % 256)) | ((with_reducible refine gate_store (t := 5) (p := 21) rfl ?_); refine store_event (t := 5) (p := 21) (v := ?vo_w12) (w1 := (wr.setCell ⟨go10, (x10_1 : Int).toNat, none⟩ (.int .u8 (((rd x3_1 x10_1) + 32) % 256)))) ?hg ?ho ?hn ?hr ?_; (case ho => rfl); (case hg => rfl); (case hn => rfl); (case hr => exact q26_); intro w12 hw; have hg : wr.grownBy w12 (some go10) := (by rw [hw]; exact HP11.2); have hp_ : Kd.R (Kd.int .u8) 5 w12 w.heap.size (fun _ => True) (.slice (some ⟨go10, 0, none⟩) x3_1.length co4) y383 := (by rw [hw, Ny383.1]; exact HP11.1); clear HP11; have n0_ := Aside0.mk (hp_); have n1_ := Aside0.mk ((by rw [hw]; exact sB_ (HB.1) GB10.1 : Below w.heap.size w w12)); clear HO_3 HB; have HO_3 := n0_; have HB := n1_; clear n0_ n1_; clear hg hw hp_))
        (try simp only [← hl3_1])
        go_roundg k1
        case measure => have := HK1.1; omega
        case rel => exact ⟨(y383), (wrap64 (x10_1 + 1)), q3_, H', ⟨q85_⟩, ⟨q107_⟩, ⟨q1_⟩⟩
       ·replace c9 := Bool.eq_false_iff.mpr c9
        subst c9
        rw [if_neg (show ¬ (false = true) by decide)] at H
        have H' := Aside0.mk H
        clear H
        have p381 : 0 ≤ (x10_1 : Int) := of_decide_eq_true q4_
        have q381 : x10_1 < (x3_1.length : Int) := of_decide_eq_true q4_
        obtain ⟨ad381, e381, hx381_0⟩ := Kd.at_int (Kd.R_reads' HO_3.1).2.2 x10_1 p381 q381
        cases e381
        replace p381 := eq_true p381
        replace q381 := eq_true q381
        go_wp2_with (first | ((with_reducible refine gate_callee (f := 154) rfl ?_); refine goesL_ (some 16) rfl rfl Tryz.func154 (by kernel_rfl) rfl #[.int .u8 (rd x3_1 x10_1)] rfl q2_ ?_; (with_reducible refine (impl_isLarge.calls (rd x3_1 x10_1) false _ A8.1).mono ?_); rintro e w' ⟨rfl, ⟨nd, rfl⟩⟩; refine ⟨_, rfl, ?_⟩))
        (try simp only [← hl3_1])
        go_roundg k1
        case measure => have := HK1.1; omega
        case rel => exact ⟨(x3_1), (wrap64 (x10_1 + 1)), q3_, H', ⟨q85_⟩, ⟨q107_⟩, ⟨q1_⟩⟩
      ·rw [if_neg c7] at H
       exact absurd H (by simp)
     ·rw [if_neg c6] at H
      exact absurd H (by simp)
    ·rw [if_neg c5] at H
     have c5b0 : decide (x10_1 < (y378.length : Int)) = false := decide_eq_false c5
     (try simp only [hl3_1] at c5b0)
     clear c5
     obtain rfl := Option.some.inj H
     have hcv13 := own_string (P := Tryz.prog) Tryz.underlying22 Tryz.underlying5 Tryz.underlying9 (Kd.own_of_R HO_3.1)
     go_wp2
     go_ret
     exact ⟨q10_, q1_⟩
 ·rw [if_neg c2] at H
  exact absurd H (by simp)


def strconv_Itoa.f (a0 : Int) : Option ByteArray := if -9223372036854775808 ≤ a0 ∧ a0 ≤ 9223372036854775807 then some ⟨(Go.Lib.itoa a0).toArray⟩ else none
theorem strconv_Itoa.calls (a0 : Int) (r : ByteArray) (w : World) (h : strconv_Itoa.f a0 = some r) (hG : GOK w) :
  Calls Tryz.prog 135 #[.int .i64 a0] w fun e w' => e = .returned (.string r) ∧ Below w.heap.size w w' := by
 unfold strconv_Itoa.f at h
 split at h
 ·rename_i hs
  obtain rfl := Option.some.inj h
  exact (Go.Proofs.YtfncjddolbghlaaGreatDoor.Shelf.Tryz.strconv_Itoa a0 hs.1 hs.2 w hG.pow10).mono fun e w' ⟨he, k, os, hw⟩ => ⟨he, by subst hw; exact Go.Lib.below_grow _ w (Nat.le_refl _) k os⟩
 ·cases h

def impl_NumText.f (a0 : Int) : Option (ByteArray) := (strconv_Itoa.f (mx a0 0)).bind fun t384 => (some t384)
theorem impl_NumText.calls (a0 : Int) (r : ByteArray) (w : World) (h : impl_NumText.f a0 = some r) (hG : GOK w) :
  Calls Tryz.prog 86 #[.int .i64 a0] w fun e w' => e = .returned (.string r) ∧ Below w.heap.size w w' := by
 have HB := Aside0.mk (Below.refl w.heap.size w)
 have H : ((strconv_Itoa.f (mx a0 0)).bind fun t384 => (some t384)) = some r := h
 clear h
 obtain ⟨ji2, hji2⟩ : ∃ j_ : Int, (mx a0 0) = j_ := ⟨_, rfl⟩
 replace H : ((strconv_Itoa.f (ji2)).bind fun t384 => (some t384)) = some r := by first | (rw [hji2] at H; exact H) | (simp only [hji2] at H ⊢; exact H)
 (try (have hji2l : 0 ≤ ji2 := by (rw [← hji2]; unfold mx; (repeat' split) <;> omega)))
 (try (have hji2m : 0 ≤ ji2 := by omega))
 have hji2_ : (if a0 < 0 then 0 else a0) = ji2 := hji2
 replace H := Option.bind_eq_some_iff.mp H
 obtain ⟨t384, A30, H⟩ := H
 replace H : (some t384) = some r := H
 have A3 := Aside0.mk A30
 clear A30
 obtain rfl := Option.some.inj H
 go_enter Tryz.func86, Tryz.ntmps86
 go_wp2_with (first | ((with_reducible refine gate_callee (f := 135) rfl ?_); refine goesL_ (some 5) rfl rfl Tryz.func135 (by kernel_rfl) rfl #[.int .i64 ji2] rfl q95_ ?_; (with_reducible refine (strconv_Itoa.calls ji2 t384 _ A3.1 ?side99).mono ?_); (case side99 => exact q20_); rintro e w4 ⟨rfl, hb⟩; refine ⟨_, rfl, ?_⟩; have n0_ := Aside0.mk (below_step q1_ hb); clear HB; have HB := n0_; clear n0_; (try clear hb); (try clear hb2); (try clear hk); (try clear hi)))
 go_ret
 exact ⟨q94_, q1_⟩


/-- what strconv.Atoi hands back: a number and no error, or an error -/
theorem impl_ParseNum.atoi (s : ByteArray) (hs : s.size ≤ 281474976710656) (w : World) (hG : GOK w) :
  Calls Tryz.prog 131 #[.string s] w fun e w' => (∃ z x, e = .returned (.tuple #[.int .i64 z, x]) ∧ ((Go.Lib.atoiAll s.data.toList = .ok z ∧ x = .nilIface) ∨ ((∀ v, Go.Lib.atoiAll s.data.toList ≠ .ok v) ∧ ∃ N, x = .iface 168 (.pointer (some ⟨N, 0, none⟩))))) ∧ Below w.heap.size w w' := by
 cases hat : Go.Lib.atoiAll s.data.toList with
 | ok v =>
  refine (Go.Proofs.YtfncjddolbghlaaGreatDoor.Shelf.Tryz.strconv_Atoi_ok s (by omega) v hat w).mono ?_
  rintro e w' ⟨rfl, hw⟩
  refine ⟨⟨v, _, rfl, .inl ⟨rfl, rfl⟩⟩, ?_⟩
  rcases hw with rfl | ⟨t, rfl⟩
  ·exact Below.refl _ _
  ·exact Go.Lib.bytesWorld_below _ _ _
 | range =>
  obtain ⟨tp, p, hv⟩ := hG.errr
  refine (Go.Proofs.Any.strconv_Atoi_range_var Go.Proofs.YtfncjddolbghlaaGreatDoor.Shelf.Tryz.laysC172 s hs hat tp p w hv).mono ?_
  rintro e w' ⟨N, rfl, _, _, hb⟩
  exact ⟨⟨_, _, rfl, .inr ⟨fun v h => (by cases h), N, rfl⟩⟩, hb⟩
 | _ =>
  obtain ⟨tp, p, hv⟩ := hG.errs
  refine (Go.Proofs.Any.strconv_Atoi_syntax_var Go.Proofs.YtfncjddolbghlaaGreatDoor.Shelf.Tryz.laysC172 s hs hat tp p w hv).mono ?_
  rintro e w' ⟨N, rfl, _, _, hb⟩
  exact ⟨⟨_, _, rfl, .inr ⟨fun v h => (by cases h), N, rfl⟩⟩, hb⟩
def impl_ParseNum.f (a0 : ByteArray) (a1 : Int) : Option (Int × Bool) :=
 if a0.size ≤ 281474976710656 then
  match Go.Lib.atoiAll a0.data.toList with
  | .ok v => if v < 0 then some (0, false) else if a1 < v then some (0, false) else if 7 < a0.size then some (0, false) else (impl_NumText.f v).bind fun t => if t.toList = a0.toList then some (v, true) else some (0, false)
  | _ => some (0, false)
 else none
theorem impl_ParseNum.calls (a0 : ByteArray) (a1 : Int) (r1 : Int) (r2 : Bool) (w : World) (h : impl_ParseNum.f a0 a1 = some (r1, r2)) (hG : GOK w) :
  Calls Tryz.prog 78 #[.string a0, .int .i64 a1] w fun e w' => e = .returned (.tuple #[.int .i64 r1, .bool r2]) ∧ Below w.heap.size w w' := by
 unfold impl_ParseNum.f at h
 split at h
 ·rename_i hs
  have hA := impl_ParseNum.atoi a0 hs w hG
  go_enter Tryz.func78, Tryz.ntmps78
  go_wp2_with (go_at_call 131; refine hA.mono ?_)
  rintro e w1 ⟨⟨z, x, rfl, hx⟩, HB⟩
  rcases hx with ⟨hat, rfl⟩ | ⟨hno, N, rfl⟩
  ·rw [hat] at h
   simp only [] at h
   clear hA hat
   by_cases c1 : z < 0
   ·rw [if_pos c1] at h
    have c1b := decide_eq_true c1
    clear c1
    obtain ⟨rfl, rfl⟩ := Prod.mk.inj (Option.some.inj h)
    go_wp2
    go_ret2
    exact ⟨rfl, HB⟩
   rw [if_neg c1] at h
   have c1b := decide_eq_false c1
   by_cases c2 : a1 < z
   ·rw [if_pos c2] at h
    have c2b := decide_eq_true c2
    clear c1 c2
    obtain ⟨rfl, rfl⟩ := Prod.mk.inj (Option.some.inj h)
    go_wp2
    go_ret2
    exact ⟨rfl, HB⟩
   rw [if_neg c2] at h
   have c2b := decide_eq_false c2
   by_cases c3 : 7 < a0.size
   ·rw [if_pos c3] at h
    have c3b : decide ((7 : Int) < (a0.size : Int)) = true := decide_eq_true (by omega)
    clear c1 c2 c3
    obtain ⟨rfl, rfl⟩ := Prod.mk.inj (Option.some.inj h)
    go_wp2
    go_ret2
    exact ⟨rfl, HB⟩
   rw [if_neg c3] at h
   have c3b : decide ((7 : Int) < (a0.size : Int)) = false := decide_eq_false (by omega)
   clear c1 c2 c3
   obtain ⟨t, ht, h⟩ := Option.bind_eq_some_iff.1 h
   have hN := fun W (hW : GOK W) => impl_NumText.calls z t W ht hW
   clear ht
   by_cases c4 : t.toList = a0.toList
   ·rw [if_pos c4] at h
    have c4b0 : (t.toList == a0.toList) = true := beq_iff_eq.mpr c4
    have c4b1 : (t.toList != a0.toList) = false := bne_eq_false_iff_eq.mpr c4
    clear c4
    obtain ⟨rfl, rfl⟩ := Prod.mk.inj (Option.some.inj h)
    go_wp2_with (go_at_call 86; refine (hN _ (GOK_below hG HB)).mono ?_; rintro e w2 ⟨rfl, hb⟩)
    go_ret2
    exact ⟨rfl, below_step HB hb⟩
   ·rw [if_neg c4] at h
    have c4b0 : (t.toList == a0.toList) = false := beq_eq_false_iff_ne.mpr c4
    have c4b1 : (t.toList != a0.toList) = true := bne_iff_ne.mpr c4
    clear c4
    obtain ⟨rfl, rfl⟩ := Prod.mk.inj (Option.some.inj h)
    go_wp2_with (go_at_call 86; refine (hN _ (GOK_below hG HB)).mono ?_; rintro e w2 ⟨rfl, hb⟩)
    go_ret2
    exact ⟨rfl, below_step HB hb⟩
  ·have h2 : some ((0 : Int), false) = some (r1, r2) := by
    split at h
    ·rename_i v hv; exact absurd hv (hno v)
    ·exact h
   obtain ⟨rfl, rfl⟩ := Prod.mk.inj (Option.some.inj h2)
   clear h h2 hno hA
   go_wp2
   go_ret2
   exact ⟨rfl, HB⟩
 ·cases h

/-- What was there, but for block g and blocks of the types TS, is as it was. -/
def KeptG (w W : World) (g : Nat) (TS : List Nat) : Prop := w.heap.size ≤ W.heap.size ∧ ∀ k, k < w.heap.size → k ≠ g → (∀ cells t f, w.heap[k]? = some (.cells cells t f) → t ∉ TS) → W.heap[k]? = w.heap[k]?
theorem KeptG.refl (w : World) (g : Nat) (TS : List Nat) : KeptG w w g TS := ⟨Nat.le_refl _, fun _ _ _ _ => rfl⟩
theorem KeptG.size {w W : World} {g : Nat} {TS : List Nat} (h : KeptG w W g TS) : w.heap.size ≤ W.heap.size := h.1
theorem KeptG.of_below {w W : World} (h : Below w.heap.size w W) (g : Nat) (TS : List Nat) : KeptG w W g TS := ⟨h.size, fun k hk _ _ => h.block k hk⟩
theorem KeptG.of_keep {w W : World} {g : Nat} (h : KeepBut w W g none) (TS : List Nat) : KeptG w W g TS := ⟨h.1, fun k hk hne _ => h.2 k hk hne (by simp)⟩
theorem KeptG.then_ {w W W2 : World} {g : Nat} {TS : List Nat} (h : KeptG w W g TS) (k : KeptG W W2 g TS) : KeptG w W2 g TS :=
 ⟨Nat.le_trans h.1 k.1, fun i hi hn hT => (k.2 i (Nat.lt_of_lt_of_le hi h.1) hn (fun cells t f hc => hT cells t f ((h.2 i hi hn hT).symm.trans hc))).trans (h.2 i hi hn hT)⟩
theorem KeptG.below {w W W2 : World} {g : Nat} {TS : List Nat} (h : KeptG w W g TS) (k : Below W.heap.size W W2) : KeptG w W2 g TS := h.then_ (KeptG.of_below k g TS)
theorem KeptG.alloc {w W : World} {g : Nat} {TS : List Nat} (h : KeptG w W g TS) (o : Obj) : KeptG w (W.alloc o) g TS := h.below (aB_ (Below.refl _ _) o)
theorem KeptG.drew {w W : World} {g : Nat} {TS : List Nat} (h : KeptG w W g TS) : KeptG w W.drew g TS := h
theorem KeptG.drewN {w W : World} {g : Nat} {TS : List Nat} (h : KeptG w W g TS) (m : Nat) : KeptG w (W.drewN m) g TS := h
theorem KeptG.set_ {w W : World} {g : Nat} {TS : List Nat} (h : KeptG w W g TS) (j : Nat) (u : Value) : KeptG w (W.setCell ⟨g, j, none⟩ u) g TS :=
 h.then_ ⟨by simp [World.setCell], fun i _ hn _ => Below.heap_setCell W ⟨g, j, none⟩ u i hn⟩
theorem KeptG.far {w W : World} {g : Nat} {TS : List Nat} (h : KeptG w W g TS) {p : Addr} (hp : w.heap.size ≤ p.block) (u : Value) : KeptG w (W.setCell p u) g TS :=
 ⟨Nat.le_trans h.1 (by simp [World.setCell]), fun i hi hn hT => (Below.heap_setCell W p u i (by omega)).trans (h.2 i hi hn hT)⟩
theorem KeptG.grown {w W W2 : World} {g : Nat} {TS : List Nat} {v : Value} {t : Nat} (h : KeptG w W g TS) (hg : W.grownBy W2 v.ownBlock) (hv : ∀ k, v.ownBlock = some k → ∃ cells, HasRow W k cells t) (ht : t ∈ TS) : KeptG w W2 g TS :=
 h.then_ ⟨hg.size, fun i hi _ hT => hg.block i hi (fun he => by obtain ⟨cells, fz, hc, _⟩ := hv i he.symm; exact hT _ _ _ hc ht)⟩
theorem KeptG.blk {w W : World} {g g' t : Nat} {cs : Array Value} {f : Nat × Nat} {TS : List Nat} (hk : KeptG w W g TS) (hb : w.heap[g']? = some (.cells cs t f)) (hg : g' ≠ g) (ht : t ∉ TS) : W.heap[g']? = some (.cells cs t f) :=
 (hk.2 g' (blk_lt hb) hg (fun cells t2 f2 hc => by rw [hb] at hc; injection hc with hc; injection hc with _ h2 _; subst h2; exact ht)).trans hb
theorem R_keepG {α : Type} {d : Kd α} {e base g : Nat} {ok : Nat → Prop} {w W : World} {v : Value} {xs : List α} {TS : List Nat} (h : d.R e w base ok v xs) (hk : KeptG w W g TS) (hok : ∀ k, ok k → k ≠ g) (ht : ∀ q, q ∈ e :: d.E → q ∉ TS) : d.R e W base ok v xs :=
 Kd.R_mono (Kd.R_move (Kd.R_bound h) (fun k hk2 => by
  obtain ⟨h1, _, hlt, q, hq, cells, fz, hc, _⟩ := hk2
  exact hk.2 k hlt (hok k h1) (fun c2 t2 f2 h2 => by rw [hc] at h2; injection h2 with h2; injection h2 with _ h3 _; subst h3; exact ht q hq))) (fun _ hk2 => hk2.1)
/-- A state of type 113 at block g of W; its slices are rows of its own. -/
def IsS113 (w0 W : World) (g : Nat) (f0 : ByteArray) (f1 : ByteArray) (f2 : List (S88)) (f3 : ByteArray) (f4 : ByteArray) (f5 : Bool) (f6 : Int) (f7 : Bool) (f8 : Bool) : Prop := ∃ A2 c2, W.heap[g]? = some (.cells #[.string f0, .string f1, .slice A2 f2.length c2, .string f3, .string f4, .bool f5, .int .i64 f6, .bool f7, .bool f8] 113 (0, 0)) ∧ w0.heap.size ≤ g ∧ Kd.R k88 88 W w0.heap.size (fun _ => True) (.slice A2 f2.length c2) f2
theorem IsS113.below {w0 W : World} {g : Nat} {f0 : ByteArray} {f1 : ByteArray} {f2 : List (S88)} {f3 : ByteArray} {f4 : ByteArray} {f5 : Bool} {f6 : Int} {f7 : Bool} {f8 : Bool} {W1 : World} (h : IsS113 w0 W g f0 f1 f2 f3 f4 f5 f6 f7 f8) (hw : Below W.heap.size W W1) : IsS113 w0 W1 g f0 f1 f2 f3 f4 f5 f6 f7 f8 := by
 obtain ⟨A2, c2, hb, hg, hr2⟩ := h
 exact ⟨A2, c2, bB_ hb hw, hg, Kd.R_below hr2 hw⟩
theorem IsS113.fresh {w0 W : World} {g : Nat} {f0 : ByteArray} {f1 : ByteArray} {f2 : List (S88)} {f3 : ByteArray} {f4 : ByteArray} {f5 : Bool} {f6 : Int} {f7 : Bool} {f8 : Bool} (h : IsS113 w0 W g f0 f1 f2 f3 f4 f5 f6 f7 f8) : ∀ k, W.heap.size ≤ k → k ≠ g := by
 obtain ⟨A2, c2, hb, hg, hr2⟩ := h
 exact Kd.freshB hb
theorem IsS113.alloc {w0 W : World} {g : Nat} {f0 : ByteArray} {f1 : ByteArray} {f2 : List (S88)} {f3 : ByteArray} {f4 : ByteArray} {f5 : Bool} {f6 : Int} {f7 : Bool} {f8 : Bool} (h : IsS113 w0 W g f0 f1 f2 f3 f4 f5 f6 f7 f8) (o : Obj) : IsS113 w0 (W.alloc o) g f0 f1 f2 f3 f4 f5 f6 f7 f8 := h.below (aB_ (Below.refl _ _) o)
theorem IsS113.drewN {w0 W : World} {g : Nat} {f0 : ByteArray} {f1 : ByteArray} {f2 : List (S88)} {f3 : ByteArray} {f4 : ByteArray} {f5 : Bool} {f6 : Int} {f7 : Bool} {f8 : Bool} (h : IsS113 w0 W g f0 f1 f2 f3 f4 f5 f6 f7 f8) (m : Nat) : IsS113 w0 (W.drewN m) g f0 f1 f2 f3 f4 f5 f6 f7 f8 := h.below (pN_ (Below.refl _ _) m)
theorem IsS113.drew {w0 W : World} {g : Nat} {f0 : ByteArray} {f1 : ByteArray} {f2 : List (S88)} {f3 : ByteArray} {f4 : ByteArray} {f5 : Bool} {f6 : Int} {f7 : Bool} {f8 : Bool} (h : IsS113 w0 W g f0 f1 f2 f3 f4 f5 f6 f7 f8) : IsS113 w0 W.drew g f0 f1 f2 f3 f4 f5 f6 f7 f8 := h.below (below_drew (Below.refl _ _))
theorem IsS113.at_ {w0 W : World} {g : Nat} {f0 : ByteArray} {f1 : ByteArray} {f2 : List (S88)} {f3 : ByteArray} {f4 : ByteArray} {f5 : Bool} {f6 : Int} {f7 : Bool} {f8 : Bool} {w' : World} {m : Nat} (hq : W.drewN m = w') (h : IsS113 w0 W g f0 f1 f2 f3 f4 f5 f6 f7 f8) : IsS113 w0 w' g f0 f1 f2 f3 f4 f5 f6 f7 f8 := by subst hq; exact IsS113.drewN h m
theorem IsS113.lt {w0 W : World} {g : Nat} {f0 : ByteArray} {f1 : ByteArray} {f2 : List (S88)} {f3 : ByteArray} {f4 : ByteArray} {f5 : Bool} {f6 : Int} {f7 : Bool} {f8 : Bool} (h : IsS113 w0 W g f0 f1 f2 f3 f4 f5 f6 f7 f8) : g < W.heap.size := by
 obtain ⟨A2, c2, hb, hg, hr2⟩ := h
 exact blk_lt hb
theorem IsS113.ge {w0 W : World} {g : Nat} {f0 : ByteArray} {f1 : ByteArray} {f2 : List (S88)} {f3 : ByteArray} {f4 : ByteArray} {f5 : Bool} {f6 : Int} {f7 : Bool} {f8 : Bool} (h : IsS113 w0 W g f0 f1 f2 f3 f4 f5 f6 f7 f8) : w0.heap.size ≤ g := by
 obtain ⟨A2, c2, hb, hg, hr2⟩ := h
 exact hg
theorem IsS113.apart {w0 W : World} {g : Nat} {f0 : ByteArray} {f1 : ByteArray} {f2 : List (S88)} {f3 : ByteArray} {f4 : ByteArray} {f5 : Bool} {f6 : Int} {f7 : Bool} {f8 : Bool} {α : Type} {d : Kd α} {e : Nat} {base : Nat} {ok : Nat → Prop} {v : Value} {xs : List α} (h : IsS113 w0 W g f0 f1 f2 f3 f4 f5 f6 f7 f8) (ho : d.R e W base ok v xs) (ht : ∀ q, q ∈ e :: d.E → q ≠ 113) : d.R e W base (fun k => ok k ∧ k ≠ g) v xs := by
 obtain ⟨A2, c2, hb, hg, hr2⟩ := h
 exact Kd.R_types ho hb ht
theorem IsS113.own_ne {w0 W : World} {g : Nat} {f0 : ByteArray} {f1 : ByteArray} {f2 : List (S88)} {f3 : ByteArray} {f4 : ByteArray} {f5 : Bool} {f6 : Int} {f7 : Bool} {f8 : Bool} {α : Type} {d : Kd α} {e : Nat} {base : Nat} {ok : Nat → Prop} {v : Value} {xs : List α} (h : IsS113 w0 W g f0 f1 f2 f3 f4 f5 f6 f7 f8) (ho : d.R e W base ok v xs) (ht : e ≠ 113) : some g ≠ v.ownBlock := by
 obtain ⟨A2, c2, hb, hg, hr2⟩ := h
 exact Kd.R_ne ho hb ht
theorem IsS113.apartS {w0 W : World} {g : Nat} {f0 : ByteArray} {f1 : ByteArray} {f2 : List (S88)} {f3 : ByteArray} {f4 : ByteArray} {f5 : Bool} {f6 : Int} {f7 : Bool} {f8 : Bool} {α : Type} {d : Kd α} {e : Nat} {base : Nat} {ok : Nat → Prop} {v : Value} {xs : List α} (h : IsS113 w0 W g f0 f1 f2 f3 f4 f5 f6 f7 f8) (ho : Kd.S d e W base ok v xs) (ht : ∀ q, q ∈ e :: d.E → q ≠ 113) : Kd.S d e W base (fun k => ok k ∧ k ≠ g) v xs := by
 obtain ⟨A2, c2, hb, hg, hr2⟩ := h
 exact Kd.S_types ho hb ht
theorem IsS113.own_neS {w0 W : World} {g : Nat} {f0 : ByteArray} {f1 : ByteArray} {f2 : List (S88)} {f3 : ByteArray} {f4 : ByteArray} {f5 : Bool} {f6 : Int} {f7 : Bool} {f8 : Bool} {α : Type} {d : Kd α} {e : Nat} {base : Nat} {ok : Nat → Prop} {v : Value} {xs : List α} (h : IsS113 w0 W g f0 f1 f2 f3 f4 f5 f6 f7 f8) (ho : Kd.S d e W base ok v xs) (ht : e ≠ 113) : some g ≠ v.ownBlock := by
 obtain ⟨A2, c2, hb, hg, hr2⟩ := h
 exact Kd.S_ne ho hb ht
theorem IsS113.ne_blk {w0 W : World} {g : Nat} {f0 : ByteArray} {f1 : ByteArray} {f2 : List (S88)} {f3 : ByteArray} {f4 : ByteArray} {f5 : Bool} {f6 : Int} {f7 : Bool} {f8 : Bool} {a : Nat} {cs : Array Value} {t : TypeId} {fr : Nat × Nat} (h : IsS113 w0 W g f0 f1 f2 f3 f4 f5 f6 f7 f8) (hb2 : W.heap[a]? = some (.cells cs t fr)) (ht : t ≠ 113) : g ≠ a := by
 obtain ⟨A2, c2, hb, hg, hr2⟩ := h
 rintro rfl
 rw [hb] at hb2
 injection hb2 with hb2
 injection hb2 with _ ht2
 exact ht ht2.symm
theorem cellS113_0 {W : World} {g : Nat} {A2 : Option Addr} {c2 : Nat} {f0 : ByteArray} {f1 : ByteArray} {f2 : List (S88)} {f3 : ByteArray} {f4 : ByteArray} {f5 : Bool} {f6 : Int} {f7 : Bool} {f8 : Bool} (h : W.heap[g]? = some (.cells #[.string f0, .string f1, .slice A2 f2.length c2, .string f3, .string f4, .bool f5, .int .i64 f6, .bool f7, .bool f8] 113 (0, 0))) : W.cell? ⟨g, 0, none⟩ = some (.string f0) := (bc_ h 0).trans rfl
theorem IsS113.set_0 {w0 W : World} {g : Nat} {f0 : ByteArray} {f1 : ByteArray} {f2 : List (S88)} {f3 : ByteArray} {f4 : ByteArray} {f5 : Bool} {f6 : Int} {f7 : Bool} {f8 : Bool} (h : IsS113 w0 W g f0 f1 f2 f3 f4 f5 f6 f7 f8) (x : ByteArray) : IsS113 w0 (W.setCell ⟨g, 0, none⟩ (.string x)) g x f1 f2 f3 f4 f5 f6 f7 f8 := by
 obtain ⟨A2, c2, hb, hg, hr2⟩ := h
 exact ⟨A2, c2, by simpa using blk_set hb 0 (.string x), hg, Kd.R_set hr2 hb (by decide) _ _⟩
theorem cellS113_1 {W : World} {g : Nat} {A2 : Option Addr} {c2 : Nat} {f0 : ByteArray} {f1 : ByteArray} {f2 : List (S88)} {f3 : ByteArray} {f4 : ByteArray} {f5 : Bool} {f6 : Int} {f7 : Bool} {f8 : Bool} (h : W.heap[g]? = some (.cells #[.string f0, .string f1, .slice A2 f2.length c2, .string f3, .string f4, .bool f5, .int .i64 f6, .bool f7, .bool f8] 113 (0, 0))) : W.cell? ⟨g, 1, none⟩ = some (.string f1) := (bc_ h 1).trans rfl
theorem IsS113.set_1 {w0 W : World} {g : Nat} {f0 : ByteArray} {f1 : ByteArray} {f2 : List (S88)} {f3 : ByteArray} {f4 : ByteArray} {f5 : Bool} {f6 : Int} {f7 : Bool} {f8 : Bool} (h : IsS113 w0 W g f0 f1 f2 f3 f4 f5 f6 f7 f8) (x : ByteArray) : IsS113 w0 (W.setCell ⟨g, 1, none⟩ (.string x)) g f0 x f2 f3 f4 f5 f6 f7 f8 := by
 obtain ⟨A2, c2, hb, hg, hr2⟩ := h
 exact ⟨A2, c2, by simpa using blk_set hb 1 (.string x), hg, Kd.R_set hr2 hb (by decide) _ _⟩
theorem cellS113_2 {W : World} {g : Nat} {A2 : Option Addr} {c2 : Nat} {f0 : ByteArray} {f1 : ByteArray} {f2 : List (S88)} {f3 : ByteArray} {f4 : ByteArray} {f5 : Bool} {f6 : Int} {f7 : Bool} {f8 : Bool} (h : W.heap[g]? = some (.cells #[.string f0, .string f1, .slice A2 f2.length c2, .string f3, .string f4, .bool f5, .int .i64 f6, .bool f7, .bool f8] 113 (0, 0))) : W.cell? ⟨g, 2, none⟩ = some (.slice A2 f2.length c2) := (bc_ h 2).trans rfl
def LimS113_2 (w0 W : World) (g : Nat) (f0 : ByteArray) (f1 : ByteArray) (f2 : List (S88)) (f3 : ByteArray) (f4 : ByteArray) (f5 : Bool) (f6 : Int) (f7 : Bool) (f8 : Bool) : Prop := ∃ A2 c2, W.heap[g]? = some (.cells #[.string f0, .string f1, .slice A2 f2.length c2, .string f3, .string f4, .bool f5, .int .i64 f6, .bool f7, .bool f8] 113 (0, 0)) ∧ w0.heap.size ≤ g ∧ True
theorem LimS113_2.ge {w0 W : World} {g : Nat} {f0 : ByteArray} {f1 : ByteArray} {f2 : List (S88)} {f3 : ByteArray} {f4 : ByteArray} {f5 : Bool} {f6 : Int} {f7 : Bool} {f8 : Bool} (h : LimS113_2 w0 W g f0 f1 f2 f3 f4 f5 f6 f7 f8) : w0.heap.size ≤ g := by
 obtain ⟨A2, c2, hb, hg, hr2⟩ := h
 exact hg
theorem LimS113_2.drewN {w0 W : World} {g : Nat} {f0 : ByteArray} {f1 : ByteArray} {f2 : List (S88)} {f3 : ByteArray} {f4 : ByteArray} {f5 : Bool} {f6 : Int} {f7 : Bool} {f8 : Bool} (h : LimS113_2 w0 W g f0 f1 f2 f3 f4 f5 f6 f7 f8) (m : Nat) : LimS113_2 w0 (W.drewN m) g f0 f1 f2 f3 f4 f5 f6 f7 f8 := by
 obtain ⟨A2, c2, hb, hg, hr2⟩ := h
 exact ⟨A2, c2, bN_ hb m, hg, trivial⟩
theorem IsS113.limb_2 {w0 W : World} {g : Nat} {f0 : ByteArray} {f1 : ByteArray} {f2 : List (S88)} {f3 : ByteArray} {f4 : ByteArray} {f5 : Bool} {f6 : Int} {f7 : Bool} {f8 : Bool} {W1 : World} {v : Value} (h : IsS113 w0 W g f0 f1 f2 f3 f4 f5 f6 f7 f8) (hw : W.grownBy W1 v.ownBlock) (hv : ∀ k, v.ownBlock = some k → ∃ cells, HasRow W k cells 88) : LimS113_2 w0 W1 g f0 f1 f2 f3 f4 f5 f6 f7 f8 := by
 obtain ⟨A2, c2, hb, hg, hr2⟩ := h
 refine ⟨A2, c2, blk_grown hb hw (fun e => ?_), hg, trivial⟩
 obtain ⟨cells, hc⟩ := hv g e.symm
 exact absurd (hc.typ0 hb) (by decide)
theorem IsS113.put_2 {w0 W : World} {g : Nat} {f0 : ByteArray} {f1 : ByteArray} {f2 : List (S88)} {f3 : ByteArray} {f4 : ByteArray} {f5 : Bool} {f6 : Int} {f7 : Bool} {f8 : Bool} {v : Value} {x : List (S88)} {base : Nat} {ok : Nat → Prop} (h : LimS113_2 w0 W g f0 f1 f2 f3 f4 f5 f6 f7 f8) (hv : Kd.R k88 88 W base ok v x) (hle : w0.heap.size ≤ base) : IsS113 w0 (W.setCell ⟨g, 2, none⟩ v) g f0 f1 x f3 f4 f5 f6 f7 f8 := by
 obtain ⟨A2, c2, hb, hg, hr2⟩ := h
 obtain ⟨A, c, rfl⟩ := Kd.R_slice hv
 have hv2 := Kd.R_lower (Kd.R_mono (ok' := fun _ => True) hv (fun _ _ => trivial)) hle
 exact ⟨A, c, by simpa using blk_set hb 2 (.slice A x.length c), hg, Kd.R_set hv2 hb (by decide) _ _⟩
theorem cellS113_3 {W : World} {g : Nat} {A2 : Option Addr} {c2 : Nat} {f0 : ByteArray} {f1 : ByteArray} {f2 : List (S88)} {f3 : ByteArray} {f4 : ByteArray} {f5 : Bool} {f6 : Int} {f7 : Bool} {f8 : Bool} (h : W.heap[g]? = some (.cells #[.string f0, .string f1, .slice A2 f2.length c2, .string f3, .string f4, .bool f5, .int .i64 f6, .bool f7, .bool f8] 113 (0, 0))) : W.cell? ⟨g, 3, none⟩ = some (.string f3) := (bc_ h 3).trans rfl
theorem IsS113.set_3 {w0 W : World} {g : Nat} {f0 : ByteArray} {f1 : ByteArray} {f2 : List (S88)} {f3 : ByteArray} {f4 : ByteArray} {f5 : Bool} {f6 : Int} {f7 : Bool} {f8 : Bool} (h : IsS113 w0 W g f0 f1 f2 f3 f4 f5 f6 f7 f8) (x : ByteArray) : IsS113 w0 (W.setCell ⟨g, 3, none⟩ (.string x)) g f0 f1 f2 x f4 f5 f6 f7 f8 := by
 obtain ⟨A2, c2, hb, hg, hr2⟩ := h
 exact ⟨A2, c2, by simpa using blk_set hb 3 (.string x), hg, Kd.R_set hr2 hb (by decide) _ _⟩
theorem cellS113_4 {W : World} {g : Nat} {A2 : Option Addr} {c2 : Nat} {f0 : ByteArray} {f1 : ByteArray} {f2 : List (S88)} {f3 : ByteArray} {f4 : ByteArray} {f5 : Bool} {f6 : Int} {f7 : Bool} {f8 : Bool} (h : W.heap[g]? = some (.cells #[.string f0, .string f1, .slice A2 f2.length c2, .string f3, .string f4, .bool f5, .int .i64 f6, .bool f7, .bool f8] 113 (0, 0))) : W.cell? ⟨g, 4, none⟩ = some (.string f4) := (bc_ h 4).trans rfl
theorem IsS113.set_4 {w0 W : World} {g : Nat} {f0 : ByteArray} {f1 : ByteArray} {f2 : List (S88)} {f3 : ByteArray} {f4 : ByteArray} {f5 : Bool} {f6 : Int} {f7 : Bool} {f8 : Bool} (h : IsS113 w0 W g f0 f1 f2 f3 f4 f5 f6 f7 f8) (x : ByteArray) : IsS113 w0 (W.setCell ⟨g, 4, none⟩ (.string x)) g f0 f1 f2 f3 x f5 f6 f7 f8 := by
 obtain ⟨A2, c2, hb, hg, hr2⟩ := h
 exact ⟨A2, c2, by simpa using blk_set hb 4 (.string x), hg, Kd.R_set hr2 hb (by decide) _ _⟩
theorem cellS113_5 {W : World} {g : Nat} {A2 : Option Addr} {c2 : Nat} {f0 : ByteArray} {f1 : ByteArray} {f2 : List (S88)} {f3 : ByteArray} {f4 : ByteArray} {f5 : Bool} {f6 : Int} {f7 : Bool} {f8 : Bool} (h : W.heap[g]? = some (.cells #[.string f0, .string f1, .slice A2 f2.length c2, .string f3, .string f4, .bool f5, .int .i64 f6, .bool f7, .bool f8] 113 (0, 0))) : W.cell? ⟨g, 5, none⟩ = some (.bool f5) := (bc_ h 5).trans rfl
theorem IsS113.set_5 {w0 W : World} {g : Nat} {f0 : ByteArray} {f1 : ByteArray} {f2 : List (S88)} {f3 : ByteArray} {f4 : ByteArray} {f5 : Bool} {f6 : Int} {f7 : Bool} {f8 : Bool} (h : IsS113 w0 W g f0 f1 f2 f3 f4 f5 f6 f7 f8) (x : Bool) : IsS113 w0 (W.setCell ⟨g, 5, none⟩ (.bool x)) g f0 f1 f2 f3 f4 x f6 f7 f8 := by
 obtain ⟨A2, c2, hb, hg, hr2⟩ := h
 exact ⟨A2, c2, by simpa using blk_set hb 5 (.bool x), hg, Kd.R_set hr2 hb (by decide) _ _⟩
theorem cellS113_6 {W : World} {g : Nat} {A2 : Option Addr} {c2 : Nat} {f0 : ByteArray} {f1 : ByteArray} {f2 : List (S88)} {f3 : ByteArray} {f4 : ByteArray} {f5 : Bool} {f6 : Int} {f7 : Bool} {f8 : Bool} (h : W.heap[g]? = some (.cells #[.string f0, .string f1, .slice A2 f2.length c2, .string f3, .string f4, .bool f5, .int .i64 f6, .bool f7, .bool f8] 113 (0, 0))) : W.cell? ⟨g, 6, none⟩ = some (.int .i64 f6) := (bc_ h 6).trans rfl
theorem IsS113.set_6 {w0 W : World} {g : Nat} {f0 : ByteArray} {f1 : ByteArray} {f2 : List (S88)} {f3 : ByteArray} {f4 : ByteArray} {f5 : Bool} {f6 : Int} {f7 : Bool} {f8 : Bool} (h : IsS113 w0 W g f0 f1 f2 f3 f4 f5 f6 f7 f8) (x : Int) : IsS113 w0 (W.setCell ⟨g, 6, none⟩ (.int .i64 x)) g f0 f1 f2 f3 f4 f5 x f7 f8 := by
 obtain ⟨A2, c2, hb, hg, hr2⟩ := h
 exact ⟨A2, c2, by simpa using blk_set hb 6 (.int .i64 x), hg, Kd.R_set hr2 hb (by decide) _ _⟩
theorem cellS113_7 {W : World} {g : Nat} {A2 : Option Addr} {c2 : Nat} {f0 : ByteArray} {f1 : ByteArray} {f2 : List (S88)} {f3 : ByteArray} {f4 : ByteArray} {f5 : Bool} {f6 : Int} {f7 : Bool} {f8 : Bool} (h : W.heap[g]? = some (.cells #[.string f0, .string f1, .slice A2 f2.length c2, .string f3, .string f4, .bool f5, .int .i64 f6, .bool f7, .bool f8] 113 (0, 0))) : W.cell? ⟨g, 7, none⟩ = some (.bool f7) := (bc_ h 7).trans rfl
theorem IsS113.set_7 {w0 W : World} {g : Nat} {f0 : ByteArray} {f1 : ByteArray} {f2 : List (S88)} {f3 : ByteArray} {f4 : ByteArray} {f5 : Bool} {f6 : Int} {f7 : Bool} {f8 : Bool} (h : IsS113 w0 W g f0 f1 f2 f3 f4 f5 f6 f7 f8) (x : Bool) : IsS113 w0 (W.setCell ⟨g, 7, none⟩ (.bool x)) g f0 f1 f2 f3 f4 f5 f6 x f8 := by
 obtain ⟨A2, c2, hb, hg, hr2⟩ := h
 exact ⟨A2, c2, by simpa using blk_set hb 7 (.bool x), hg, Kd.R_set hr2 hb (by decide) _ _⟩
theorem cellS113_8 {W : World} {g : Nat} {A2 : Option Addr} {c2 : Nat} {f0 : ByteArray} {f1 : ByteArray} {f2 : List (S88)} {f3 : ByteArray} {f4 : ByteArray} {f5 : Bool} {f6 : Int} {f7 : Bool} {f8 : Bool} (h : W.heap[g]? = some (.cells #[.string f0, .string f1, .slice A2 f2.length c2, .string f3, .string f4, .bool f5, .int .i64 f6, .bool f7, .bool f8] 113 (0, 0))) : W.cell? ⟨g, 8, none⟩ = some (.bool f8) := (bc_ h 8).trans rfl
theorem IsS113.set_8 {w0 W : World} {g : Nat} {f0 : ByteArray} {f1 : ByteArray} {f2 : List (S88)} {f3 : ByteArray} {f4 : ByteArray} {f5 : Bool} {f6 : Int} {f7 : Bool} {f8 : Bool} (h : IsS113 w0 W g f0 f1 f2 f3 f4 f5 f6 f7 f8) (x : Bool) : IsS113 w0 (W.setCell ⟨g, 8, none⟩ (.bool x)) g f0 f1 f2 f3 f4 f5 f6 f7 x := by
 obtain ⟨A2, c2, hb, hg, hr2⟩ := h
 exact ⟨A2, c2, by simpa using blk_set hb 8 (.bool x), hg, Kd.R_set hr2 hb (by decide) _ _⟩

def impl_reqHead_special.j0 : Nat → ByteArray → ByteArray → Bool → ByteArray → ByteArray → List (S88) → ByteArray → ByteArray → Bool → Int → Bool → Bool → Option (ByteArray × ByteArray × (List (S88)) × ByteArray × ByteArray × Bool × Int × Bool × Bool)
 | 0, _, _, _, _, _, _, _, _, _, _, _, _ => none
 | k + 1, x1, x2, x17, x1000, x1001, x1002, x1003, x1004, x1005, x1006, x1007, x1008 => if x17 = true then (some (x1000, x1001, x1002, x1003, x1004, x1005, x1006, x1007, true)) else (if x1.toList = ([116, 114, 97, 110, 115, 102, 101, 114, 45, 101, 110, 99, 111, 100, 105, 110, 103] : List UInt8) then (some (x1000, x1001, x1002, x1003, x2, true, x1006, x1007, x1008)) else ((impl_ParseNum.f x2 9999999).bind fun bt385 => (if x1008 = true then (some (x1000, x1001, x1002, x1003, x1004, x1005, bt385.1, true, true)) else (some (x1000, x1001, x1002, x1003, x1004, x1005, bt385.1, true, !bt385.2)))))
def impl_reqHead_special.f (k : Nat) (s0_0 : ByteArray) (s0_1 : ByteArray) (s0_2 : List (S88)) (s0_3 : ByteArray) (s0_4 : ByteArray) (s0_5 : Bool) (s0_6 : Int) (s0_7 : Bool) (s0_8 : Bool) (a1 : ByteArray) (a2 : ByteArray) : Option (ByteArray × ByteArray × (List (S88)) × ByteArray × ByteArray × Bool × Int × Bool × Bool) := if s0_5 = true then (impl_reqHead_special.j0 k a1 a2 true s0_0 s0_1 s0_2 s0_3 s0_4 s0_5 s0_6 s0_7 s0_8) else (impl_reqHead_special.j0 k a1 a2 s0_7 s0_0 s0_1 s0_2 s0_3 s0_4 s0_5 s0_6 s0_7 s0_8)

theorem impl_reqHead_special.calls (k : Nat) (g : Nat) (s0_0 : ByteArray) (s0_1 : ByteArray) (s0_2 : List (S88)) (s0_3 : ByteArray) (s0_4 : ByteArray) (s0_5 : Bool) (s0_6 : Int) (s0_7 : Bool) (s0_8 : Bool) (a1 : ByteArray) (a2 : ByteArray) (r1 : ByteArray) (r2 : ByteArray) (r3 : List (S88)) (r4 : ByteArray) (r5 : ByteArray) (r6 : Bool) (r7 : Int) (r8 : Bool) (r9 : Bool) (w0 w : World) (hI : IsS113 w0 w g s0_0 s0_1 s0_2 s0_3 s0_4 s0_5 s0_6 s0_7 s0_8) (hB : Below w0.heap.size w0 w) (h : impl_reqHead_special.f k s0_0 s0_1 s0_2 s0_3 s0_4 s0_5 s0_6 s0_7 s0_8 a1 a2 = some (r1, r2, r3, r4, r5, r6, r7, r8, r9)) (hG : GOK w0) :
  Calls Tryz.prog 168 #[.pointer (some ⟨g, 0, none⟩), .string a1, .string a2] w fun e w' => e = .returned (.tuple #[]) ∧ IsS113 w0 w' g r1 r2 r3 r4 r5 r6 r7 r8 r9 ∧ Below w0.heap.size w0 w' ∧ KeepBut w w' g none := by
 have HI0 := Aside0.mk hI
 have HK := Aside0.mk (KeepBut.refl w g none)
 have HL := Aside0.mk hB.size
 clear hI
 have HW0 := Aside0.mk hB.size
 have HB := Aside0.mk hB
 clear hB
 have H : (if s0_5 = true then (impl_reqHead_special.j0 k a1 a2 true s0_0 s0_1 s0_2 s0_3 s0_4 s0_5 s0_6 s0_7 s0_8) else (impl_reqHead_special.j0 k a1 a2 s0_7 s0_0 s0_1 s0_2 s0_3 s0_4 s0_5 s0_6 s0_7 s0_8)) = some (r1, r2, r3, r4, r5, r6, r7, r8, r9) := h
 clear h
 have HC4 := Aside0.mk H
 clear H
 go_enter Tryz.func168, Tryz.ntmps168
 go_upto_region 0 with (fail)
 go_cut [17] (fun v17 wc => ∃ (kq : Nat) (x17_3 : Bool), v17 = .bool x17_3 ∧ Aside0 (impl_reqHead_special.j0 kq a1 a2 x17_3 s0_0 s0_1 s0_2 s0_3 s0_4 s0_5 s0_6 s0_7 s0_8 = some (r1, r2, r3, r4, r5, r6, r7, r8, r9)) ∧ Aside0 (kq ≤ k) ∧ Aside0 (IsS113 w0 wc g s0_0 s0_1 s0_2 s0_3 s0_4 s0_5 s0_6 s0_7 s0_8) ∧ Aside0 (KeepBut w wc g none) ∧ Aside0 (Below w0.heap.size w0 wc))
 case first =>
  have H := HC4.1
  clear HC4
  by_cases c5 : s0_5 = true
  ·subst c5
   rw [if_pos rfl] at H
   have H' := Aside0.mk H
   clear H
   obtain ⟨ASz6_2, cSz6_2, HGz6, hgz6, HSz6_2⟩ := HI0.1
   have hcz6_0 := cellS113_0 HGz6
   have hcz6_1 := cellS113_1 HGz6
   have hcz6_2 := cellS113_2 HGz6
   have hcz6_3 := cellS113_3 HGz6
   have hcz6_4 := cellS113_4 HGz6
   have hcz6_5 := cellS113_5 HGz6
   have hcz6_6 := cellS113_6 HGz6
   have hcz6_7 := cellS113_7 HGz6
   have hcz6_8 := cellS113_8 HGz6
   have hfz6_0 := bF_ HGz6 0
   have hfz6_1 := bF_ HGz6 1
   have hfz6_2 := bF_ HGz6 2
   have hfz6_3 := bF_ HGz6 3
   have hfz6_4 := bF_ HGz6 4
   have hfz6_5 := bF_ HGz6 5
   have hfz6_6 := bF_ HGz6 6
   have hfz6_7 := bF_ HGz6 7
   have hfz6_8 := bF_ HGz6 8
   clear HGz6 hgz6
   go_wp2
   go_meet
   case rel => exact ⟨_, (true), q3_, H', ⟨q73_⟩, ⟨q11_⟩, ⟨q6_⟩, ⟨q19_⟩⟩
  ·replace c5 := Bool.eq_false_iff.mpr c5
   subst c5
   rw [if_neg (show ¬ (false = true) by decide)] at H
   have H' := Aside0.mk H
   clear H
   obtain ⟨ASz7_2, cSz7_2, HGz7, hgz7, HSz7_2⟩ := HI0.1
   have hcz7_0 := cellS113_0 HGz7
   have hcz7_1 := cellS113_1 HGz7
   have hcz7_2 := cellS113_2 HGz7
   have hcz7_3 := cellS113_3 HGz7
   have hcz7_4 := cellS113_4 HGz7
   have hcz7_5 := cellS113_5 HGz7
   have hcz7_6 := cellS113_6 HGz7
   have hcz7_7 := cellS113_7 HGz7
   have hcz7_8 := cellS113_8 HGz7
   have hfz7_0 := bF_ HGz7 0
   have hfz7_1 := bF_ HGz7 1
   have hfz7_2 := bF_ HGz7 2
   have hfz7_3 := bF_ HGz7 3
   have hfz7_4 := bF_ HGz7 4
   have hfz7_5 := bF_ HGz7 5
   have hfz7_6 := bF_ HGz7 6
   have hfz7_7 := bF_ HGz7 7
   have hfz7_8 := bF_ HGz7 8
   clear HGz7 hgz7
   go_wp2
   go_meet
   case rel => exact ⟨_, (s0_7), q3_, H', ⟨q73_⟩, ⟨q11_⟩, ⟨q6_⟩, ⟨q19_⟩⟩
 case rest =>
  clear HC4
  try clear c1
  try clear p2
  try clear c5
  try clear hcz6_0
  try clear hcz6_1
  try clear hcz6_2
  try clear hcz6_3
  try clear hcz6_4
  try clear hcz6_5
  try clear hcz6_6
  try clear hcz6_7
  try clear hcz6_8
  try clear hcz7_0
  try clear hcz7_1
  try clear hcz7_2
  try clear hcz7_3
  try clear hcz7_4
  try clear hcz7_5
  try clear hcz7_6
  try clear hcz7_7
  try clear hcz7_8
  try clear hfz6_0
  try clear hfz6_1
  try clear hfz6_2
  try clear hfz6_3
  try clear hfz6_4
  try clear hfz6_5
  try clear hfz6_6
  try clear hfz6_7
  try clear hfz6_8
  try clear hfz7_0
  try clear hfz7_1
  try clear hfz7_2
  try clear hfz7_3
  try clear hfz7_4
  try clear hfz7_5
  try clear hfz7_6
  try clear hfz7_7
  try clear hfz7_8
  obtain ⟨kq, x17_3, rfl, HA, HJ3, HI0, HK, HB⟩ := hcut
  cases kq with
  | zero => exact absurd HA.1 (by simp [impl_reqHead_special.j0])
  | succ kj3 =>
   have H := HA.1
   clear HA
   simp only [impl_reqHead_special.j0] at H
   by_cases c8 : x17_3 = true
   ·subst c8
    rw [if_pos rfl] at H
    simp only [Option.some.injEq, Prod.mk.injEq] at H
    obtain ⟨rfl, rfl, rfl, rfl, rfl, rfl, rfl, rfl, rfl⟩ := H
    obtain ⟨ASz9_2, cSz9_2, HGz9, hgz9, HSz9_2⟩ := HI0.1
    have hcz9_0 := cellS113_0 HGz9
    have hcz9_1 := cellS113_1 HGz9
    have hcz9_2 := cellS113_2 HGz9
    have hcz9_3 := cellS113_3 HGz9
    have hcz9_4 := cellS113_4 HGz9
    have hcz9_5 := cellS113_5 HGz9
    have hcz9_6 := cellS113_6 HGz9
    have hcz9_7 := cellS113_7 HGz9
    have hcz9_8 := cellS113_8 HGz9
    have hfz9_0 := bF_ HGz9 0
    have hfz9_1 := bF_ HGz9 1
    have hfz9_2 := bF_ HGz9 2
    have hfz9_3 := bF_ HGz9 3
    have hfz9_4 := bF_ HGz9 4
    have hfz9_5 := bF_ HGz9 5
    have hfz9_6 := bF_ HGz9 6
    have hfz9_7 := bF_ HGz9 7
    have hfz9_8 := bF_ HGz9 8
    clear HGz9 hgz9
    go_wp2
    first | go_end0 | ((try simp only [Exit.inBlock, Exit.then]); refine bodyPost_ret (results_none rfl _ _ _) rfl ?_)
    exact ⟨q10_, q11_, q19_, q6_⟩
   ·replace c8 := Bool.eq_false_iff.mpr c8
    subst c8
    rw [if_neg (show ¬ (false = true) by decide)] at H
    by_cases c10 : a1.toList = ([116, 114, 97, 110, 115, 102, 101, 114, 45, 101, 110, 99, 111, 100, 105, 110, 103] : List UInt8)
    ·rw [if_pos c10] at H
     have c10b0 : (a1.toList == ([116, 114, 97, 110, 115, 102, 101, 114, 45, 101, 110, 99, 111, 100, 105, 110, 103] : List UInt8)) = true := beq_iff_eq.mpr c10
     have c10b1 : (a1.toList != ([116, 114, 97, 110, 115, 102, 101, 114, 45, 101, 110, 99, 111, 100, 105, 110, 103] : List UInt8)) = false := bne_eq_false_iff_eq.mpr c10
     clear c10
     simp only [Option.some.injEq, Prod.mk.injEq] at H
     obtain ⟨rfl, rfl, rfl, rfl, rfl, rfl, rfl, rfl, rfl⟩ := H
     obtain ⟨ASz11_2, cSz11_2, HGz11, hgz11, HSz11_2⟩ := HI0.1
     have hcz11_0 := cellS113_0 HGz11
     have hcz11_1 := cellS113_1 HGz11
     have hcz11_2 := cellS113_2 HGz11
     have hcz11_3 := cellS113_3 HGz11
     have hcz11_4 := cellS113_4 HGz11
     have hcz11_5 := cellS113_5 HGz11
     have hcz11_6 := cellS113_6 HGz11
     have hcz11_7 := cellS113_7 HGz11
     have hcz11_8 := cellS113_8 HGz11
     have hfz11_0 := bF_ HGz11 0
     have hfz11_1 := bF_ HGz11 1
     have hfz11_2 := bF_ HGz11 2
     have hfz11_3 := bF_ HGz11 3
     have hfz11_4 := bF_ HGz11 4
     have hfz11_5 := bF_ HGz11 5
     have hfz11_6 := bF_ HGz11 6
     have hfz11_7 := bF_ HGz11 7
     have hfz11_8 := bF_ HGz11 8
     clear HGz11 hgz11
     go_wp2
     first | go_end0 | ((try simp only [Exit.inBlock, Exit.then]); refine bodyPost_ret (results_none rfl _ _ _) rfl ?_)
     exact ⟨q10_, q11_, q19_, q6_⟩
    ·rw [if_neg c10] at H
     have c10b0 : (a1.toList == ([116, 114, 97, 110, 115, 102, 101, 114, 45, 101, 110, 99, 111, 100, 105, 110, 103] : List UInt8)) = false := beq_eq_false_iff_ne.mpr c10
     have c10b1 : (a1.toList != ([116, 114, 97, 110, 115, 102, 101, 114, 45, 101, 110, 99, 111, 100, 105, 110, 103] : List UInt8)) = true := bne_iff_ne.mpr c10
     replace H := Option.bind_eq_some_iff.mp H
     obtain ⟨⟨t385, t386⟩, A120, H⟩ := H
     replace H : (if s0_8 = true then (some (s0_0, s0_1, s0_2, s0_3, s0_4, s0_5, t385, true, true)) else (some (s0_0, s0_1, s0_2, s0_3, s0_4, s0_5, t385, true, !t386))) = some (r1, r2, r3, r4, r5, r6, r7, r8, r9) := H
     have A12 := Aside0.mk A120
     clear A120
     by_cases c13 : s0_8 = true
     ·subst c13
      rw [if_pos rfl] at H
      simp only [Option.some.injEq, Prod.mk.injEq] at H
      obtain ⟨rfl, rfl, rfl, rfl, rfl, rfl, rfl, rfl, rfl⟩ := H
      go_wp2_with (first | ((with_reducible refine gate_callee (f := 78) rfl ?_); refine goesL_ (some 32) rfl rfl Tryz.func78 (by kernel_rfl) rfl #[.string a2, .int .i64 9999999] rfl q2_ ?_; (with_reducible refine (impl_ParseNum.calls a2 9999999 t385 t386 _ A12.1 ?side99).mono ?_); (case side99 => exact q20_); rintro e w14 ⟨rfl, hb⟩; refine ⟨_, rfl, ?_⟩; have n0_ := Aside0.mk (IsS113.below q11_ hb); have n1_ := Aside0.mk (KeepBut.trans q6_ (KeepBut.of_below hb g none) (.inl rfl)); have n2_ := Aside0.mk (below_step q19_ hb); clear HI0 HK HB; have HI0 := n0_; have HK := n1_; have HB := n2_; clear n0_ n1_ n2_; (try clear hb); (try clear hb2); (try clear hk); (try clear hi); obtain ⟨ASz15_2, cSz15_2, HGz15, hgz15, HSz15_2⟩ := HI0.1; have hcz15_0 := cellS113_0 HGz15; have hcz15_1 := cellS113_1 HGz15; have hcz15_2 := cellS113_2 HGz15; have hcz15_3 := cellS113_3 HGz15; have hcz15_4 := cellS113_4 HGz15; have hcz15_5 := cellS113_5 HGz15; have hcz15_6 := cellS113_6 HGz15; have hcz15_7 := cellS113_7 HGz15; have hcz15_8 := cellS113_8 HGz15; have hfz15_0 := bF_ HGz15 0; have hfz15_1 := bF_ HGz15 1; have hfz15_2 := bF_ HGz15 2; have hfz15_3 := bF_ HGz15 3; have hfz15_4 := bF_ HGz15 4; have hfz15_5 := bF_ HGz15 5; have hfz15_6 := bF_ HGz15 6; have hfz15_7 := bF_ HGz15 7; have hfz15_8 := bF_ HGz15 8; clear HGz15 hgz15))
      first | go_end0 | ((try simp only [Exit.inBlock, Exit.then]); refine bodyPost_ret (results_none rfl _ _ _) rfl ?_)
      exact ⟨q10_, q11_, q19_, q6_⟩
     ·replace c13 := Bool.eq_false_iff.mpr c13
      subst c13
      rw [if_neg (show ¬ (false = true) by decide)] at H
      simp only [Option.some.injEq, Prod.mk.injEq] at H
      obtain ⟨rfl, rfl, rfl, rfl, rfl, rfl, rfl, rfl, rfl⟩ := H
      go_wp2_with (first | ((with_reducible refine gate_callee (f := 78) rfl ?_); refine goesL_ (some 32) rfl rfl Tryz.func78 (by kernel_rfl) rfl #[.string a2, .int .i64 9999999] rfl q2_ ?_; (with_reducible refine (impl_ParseNum.calls a2 9999999 t385 t386 _ A12.1 ?side99).mono ?_); (case side99 => exact q20_); rintro e w16 ⟨rfl, hb⟩; refine ⟨_, rfl, ?_⟩; have n0_ := Aside0.mk (IsS113.below q11_ hb); have n1_ := Aside0.mk (KeepBut.trans q6_ (KeepBut.of_below hb g none) (.inl rfl)); have n2_ := Aside0.mk (below_step q19_ hb); clear HI0 HK HB; have HI0 := n0_; have HK := n1_; have HB := n2_; clear n0_ n1_ n2_; (try clear hb); (try clear hb2); (try clear hk); (try clear hi); obtain ⟨ASz17_2, cSz17_2, HGz17, hgz17, HSz17_2⟩ := HI0.1; have hcz17_0 := cellS113_0 HGz17; have hcz17_1 := cellS113_1 HGz17; have hcz17_2 := cellS113_2 HGz17; have hcz17_3 := cellS113_3 HGz17; have hcz17_4 := cellS113_4 HGz17; have hcz17_5 := cellS113_5 HGz17; have hcz17_6 := cellS113_6 HGz17; have hcz17_7 := cellS113_7 HGz17; have hcz17_8 := cellS113_8 HGz17; have hfz17_0 := bF_ HGz17 0; have hfz17_1 := bF_ HGz17 1; have hfz17_2 := bF_ HGz17 2; have hfz17_3 := bF_ HGz17 3; have hfz17_4 := bF_ HGz17 4; have hfz17_5 := bF_ HGz17 5; have hfz17_6 := bF_ HGz17 6; have hfz17_7 := bF_ HGz17 7; have hfz17_8 := bF_ HGz17 8; clear HGz17 hgz17))
      first | go_end0 | ((try simp only [Exit.inBlock, Exit.then]); refine bodyPost_ret (results_none rfl _ _ _) rfl ?_)
      exact ⟨q10_, q11_, q19_, q6_⟩

def impl_reqHead_line.j0 : Nat → ByteArray → ByteArray → Bool → ByteArray → ByteArray → List (S88) → ByteArray → ByteArray → Bool → Int → Bool → Bool → Option (ByteArray × ByteArray × (List (S88)) × ByteArray × ByteArray × Bool × Int × Bool × Bool)
 | 0, _, _, _, _, _, _, _, _, _, _, _, _ => none
 | k + 1, x4, x5, x31, x1000, x1001, x1002, x1003, x1004, x1005, x1006, x1007, x1008 => if x31 = true then (some (x1000, x1001, x1002, x1003, x1004, x1005, x1006, x1007, true)) else (if x4.toList = ([99, 111, 110, 116, 101, 110, 116, 45, 108, 101, 110, 103, 116, 104] : List UInt8) then ((impl_reqHead_special.f k x1000 x1001 x1002 x1003 x1004 x1005 x1006 x1007 x1008 x4 x5).bind fun bt394 => (some (bt394.1, bt394.2.1, bt394.2.2.1, bt394.2.2.2.1, bt394.2.2.2.2.1, bt394.2.2.2.2.2.1, bt394.2.2.2.2.2.2.1, bt394.2.2.2.2.2.2.2.1, bt394.2.2.2.2.2.2.2.2))) else (if x4.toList = ([116, 114, 97, 110, 115, 102, 101, 114, 45, 101, 110, 99, 111, 100, 105, 110, 103] : List UInt8) then ((impl_reqHead_special.f k x1000 x1001 x1002 x1003 x1004 x1005 x1006 x1007 x1008 x4 x5).bind fun bt403 => (some (bt403.1, bt403.2.1, bt403.2.2.1, bt403.2.2.2.1, bt403.2.2.2.2.1, bt403.2.2.2.2.2.1, bt403.2.2.2.2.2.2.1, bt403.2.2.2.2.2.2.2.1, bt403.2.2.2.2.2.2.2.2))) else (if x1002.length < 4398046511104 then (some (x1000, x1001, (x1002 ++ [(⟨x4, x5⟩ : S88)]), x1003, x1004, x1005, x1006, x1007, x1008)) else (none))))
def impl_reqHead_line.f (k : Nat) (s0_0 : ByteArray) (s0_1 : ByteArray) (s0_2 : List (S88)) (s0_3 : ByteArray) (s0_4 : ByteArray) (s0_5 : Bool) (s0_6 : Int) (s0_7 : Bool) (s0_8 : Bool) (a1 : ByteArray) : Option (ByteArray × ByteArray × (List (S88)) × ByteArray × ByteArray × Bool × Int × Bool × Bool) := (strings_Cut.f a1 (⟨#[58]⟩ : ByteArray)).bind fun bt387 => ((impl_Lower.f k bt387.1).bind fun t390 => ((impl_Trim.f bt387.2.1).bind fun t391 => (if bt387.2.2 = true then ((impl_SmallName.f k t390).bind fun t392 => (if t392 = true then ((impl_valOk.f k t391).bind fun t393 => (impl_reqHead_line.j0 k t390 t391 (!t393) s0_0 s0_1 s0_2 s0_3 s0_4 s0_5 s0_6 s0_7 s0_8)) else (impl_reqHead_line.j0 k t390 t391 true s0_0 s0_1 s0_2 s0_3 s0_4 s0_5 s0_6 s0_7 s0_8))) else (impl_reqHead_line.j0 k t390 t391 true s0_0 s0_1 s0_2 s0_3 s0_4 s0_5 s0_6 s0_7 s0_8))))

theorem impl_reqHead_line.calls (k : Nat) (g : Nat) (s0_0 : ByteArray) (s0_1 : ByteArray) (s0_2 : List (S88)) (s0_3 : ByteArray) (s0_4 : ByteArray) (s0_5 : Bool) (s0_6 : Int) (s0_7 : Bool) (s0_8 : Bool) (a1 : ByteArray) (r1 : ByteArray) (r2 : ByteArray) (r3 : List (S88)) (r4 : ByteArray) (r5 : ByteArray) (r6 : Bool) (r7 : Int) (r8 : Bool) (r9 : Bool) (w0 w : World) (hI : IsS113 w0 w g s0_0 s0_1 s0_2 s0_3 s0_4 s0_5 s0_6 s0_7 s0_8) (hB : Below w0.heap.size w0 w) (h : impl_reqHead_line.f k s0_0 s0_1 s0_2 s0_3 s0_4 s0_5 s0_6 s0_7 s0_8 a1 = some (r1, r2, r3, r4, r5, r6, r7, r8, r9)) (hG : GOK w0) :
  Calls Tryz.prog 143 #[.pointer (some ⟨g, 0, none⟩), .string a1] w fun e w' => e = .returned (.tuple #[]) ∧ IsS113 w0 w' g r1 r2 r3 r4 r5 r6 r7 r8 r9 ∧ Below w0.heap.size w0 w' ∧ KeptG w w' g [88] := by
 have hu88 := Tryz.underlying88
 have HI0 := Aside0.mk hI
 have HK := Aside0.mk (KeptG.refl w g [88])
 have HL := Aside0.mk hB.size
 clear hI
 have HW0 := Aside0.mk hB.size
 have HB := Aside0.mk hB
 clear hB
 have H : ((strings_Cut.f a1 (⟨#[58]⟩ : ByteArray)).bind fun bt387 => ((impl_Lower.f k bt387.1).bind fun t390 => ((impl_Trim.f bt387.2.1).bind fun t391 => (if bt387.2.2 = true then ((impl_SmallName.f k t390).bind fun t392 => (if t392 = true then ((impl_valOk.f k t391).bind fun t393 => (impl_reqHead_line.j0 k t390 t391 (!t393) s0_0 s0_1 s0_2 s0_3 s0_4 s0_5 s0_6 s0_7 s0_8)) else (impl_reqHead_line.j0 k t390 t391 true s0_0 s0_1 s0_2 s0_3 s0_4 s0_5 s0_6 s0_7 s0_8))) else (impl_reqHead_line.j0 k t390 t391 true s0_0 s0_1 s0_2 s0_3 s0_4 s0_5 s0_6 s0_7 s0_8))))) = some (r1, r2, r3, r4, r5, r6, r7, r8, r9) := h
 clear h
 replace H := Option.bind_eq_some_iff.mp H
 obtain ⟨⟨t387, t388, t389⟩, A30, H⟩ := H
 replace H : ((impl_Lower.f k t387).bind fun t390 => ((impl_Trim.f t388).bind fun t391 => (if t389 = true then ((impl_SmallName.f k t390).bind fun t392 => (if t392 = true then ((impl_valOk.f k t391).bind fun t393 => (impl_reqHead_line.j0 k t390 t391 (!t393) s0_0 s0_1 s0_2 s0_3 s0_4 s0_5 s0_6 s0_7 s0_8)) else (impl_reqHead_line.j0 k t390 t391 true s0_0 s0_1 s0_2 s0_3 s0_4 s0_5 s0_6 s0_7 s0_8))) else (impl_reqHead_line.j0 k t390 t391 true s0_0 s0_1 s0_2 s0_3 s0_4 s0_5 s0_6 s0_7 s0_8)))) = some (r1, r2, r3, r4, r5, r6, r7, r8, r9) := H
 have A3 := Aside0.mk A30
 clear A30
 replace H := Option.bind_eq_some_iff.mp H
 obtain ⟨t390, A40, H⟩ := H
 replace H : ((impl_Trim.f t388).bind fun t391 => (if t389 = true then ((impl_SmallName.f k t390).bind fun t392 => (if t392 = true then ((impl_valOk.f k t391).bind fun t393 => (impl_reqHead_line.j0 k t390 t391 (!t393) s0_0 s0_1 s0_2 s0_3 s0_4 s0_5 s0_6 s0_7 s0_8)) else (impl_reqHead_line.j0 k t390 t391 true s0_0 s0_1 s0_2 s0_3 s0_4 s0_5 s0_6 s0_7 s0_8))) else (impl_reqHead_line.j0 k t390 t391 true s0_0 s0_1 s0_2 s0_3 s0_4 s0_5 s0_6 s0_7 s0_8))) = some (r1, r2, r3, r4, r5, r6, r7, r8, r9) := H
 have A4 := Aside0.mk A40
 clear A40
 replace H := Option.bind_eq_some_iff.mp H
 obtain ⟨t391, A50, H⟩ := H
 replace H : (if t389 = true then ((impl_SmallName.f k t390).bind fun t392 => (if t392 = true then ((impl_valOk.f k t391).bind fun t393 => (impl_reqHead_line.j0 k t390 t391 (!t393) s0_0 s0_1 s0_2 s0_3 s0_4 s0_5 s0_6 s0_7 s0_8)) else (impl_reqHead_line.j0 k t390 t391 true s0_0 s0_1 s0_2 s0_3 s0_4 s0_5 s0_6 s0_7 s0_8))) else (impl_reqHead_line.j0 k t390 t391 true s0_0 s0_1 s0_2 s0_3 s0_4 s0_5 s0_6 s0_7 s0_8)) = some (r1, r2, r3, r4, r5, r6, r7, r8, r9) := H
 have A5 := Aside0.mk A50
 clear A50
 have HC6 := Aside0.mk H
 clear H
 go_enter Tryz.func143, Tryz.ntmps143
 go_upto_region 3 with (first | ((with_reducible refine gate_callee (f := 76) rfl ?_); refine goesL_ (some 9) rfl rfl Tryz.func76 (by kernel_rfl) rfl #[.string a1, .string (⟨#[58]⟩ : ByteArray)] rfl q2_ ?_; (with_reducible refine (strings_Cut.calls a1 (⟨#[58]⟩ : ByteArray) t387 t388 t389 _ A3.1 ?side99).mono ?_); (case side99 => exact q20_); rintro e w' ⟨rfl, ⟨nd, rfl⟩⟩; refine ⟨_, rfl, ?_⟩) | ((with_reducible refine gate_callee (f := 144) rfl ?_); refine goesL_ (some 14) rfl rfl Tryz.func144 (by kernel_rfl) rfl #[.string t387] rfl q2_ ?_; (with_reducible refine (impl_Lower.calls k t387 t390 _ A4.1).mono ?_); rintro e w7 ⟨rfl, hb⟩; refine ⟨_, rfl, ?_⟩; have n0_ := Aside0.mk (IsS113.below q11_ hb); have n1_ := Aside0.mk (KeptG.below q39_ hb); have n2_ := Aside0.mk (below_step q19_ hb); clear HI0 HK HB; have HI0 := n0_; have HK := n1_; have HB := n2_; clear n0_ n1_ n2_; (try clear hb); (try clear hb2); (try clear hk); (try clear hi)) | ((with_reducible refine gate_callee (f := 164) rfl ?_); refine goesL_ (some 16) rfl rfl Tryz.func164 (by kernel_rfl) rfl #[.string t388] rfl q2_ ?_; (with_reducible refine (impl_Trim.calls t388 t391 _ A5.1).mono ?_); rintro e w8 ⟨rfl, hb⟩; refine ⟨_, rfl, ?_⟩; have n0_ := Aside0.mk (IsS113.below q11_ hb); have n1_ := Aside0.mk (KeptG.below q39_ hb); have n2_ := Aside0.mk (below_step q19_ hb); clear HI0 HK HB; have HI0 := n0_; have HK := n1_; have HB := n2_; clear n0_ n1_ n2_; (try clear hb); (try clear hb2); (try clear hk); (try clear hi)))
 (try simp only [Act.put, List.setIfInBounds_toArray, List.set_cons_zero, List.set_cons_succ])
 go_cut [31] (fun v31 wc => ∃ (kq : Nat) (x31_5 : Bool), v31 = .bool x31_5 ∧ Aside0 (impl_reqHead_line.j0 kq t390 t391 x31_5 s0_0 s0_1 s0_2 s0_3 s0_4 s0_5 s0_6 s0_7 s0_8 = some (r1, r2, r3, r4, r5, r6, r7, r8, r9)) ∧ Aside0 (kq ≤ k) ∧ Aside0 (IsS113 w0 wc g s0_0 s0_1 s0_2 s0_3 s0_4 s0_5 s0_6 s0_7 s0_8) ∧ Aside0 (KeptG w wc g [88]) ∧ Aside0 (Below w0.heap.size w0 wc))
 case first =>
  have H := HC6.1
  clear HC6
  by_cases c9 : t389 = true
  ·subst c9
   rw [if_pos rfl] at H
   replace H := Option.bind_eq_some_iff.mp H
   obtain ⟨t392, A100, H⟩ := H
   replace H : (if t392 = true then ((impl_valOk.f k t391).bind fun t393 => (impl_reqHead_line.j0 k t390 t391 (!t393) s0_0 s0_1 s0_2 s0_3 s0_4 s0_5 s0_6 s0_7 s0_8)) else (impl_reqHead_line.j0 k t390 t391 true s0_0 s0_1 s0_2 s0_3 s0_4 s0_5 s0_6 s0_7 s0_8)) = some (r1, r2, r3, r4, r5, r6, r7, r8, r9) := H
   have A10 := Aside0.mk A100
   clear A100
   by_cases c11 : t392 = true
   ·subst c11
    rw [if_pos rfl] at H
    replace H := Option.bind_eq_some_iff.mp H
    obtain ⟨t393, A120, H⟩ := H
    replace H : (impl_reqHead_line.j0 k t390 t391 (!t393) s0_0 s0_1 s0_2 s0_3 s0_4 s0_5 s0_6 s0_7 s0_8) = some (r1, r2, r3, r4, r5, r6, r7, r8, r9) := H
    have A12 := Aside0.mk A120
    clear A120
    have H' := Aside0.mk H
    clear H
    go_wp2_with (first | (go_at_call 138; (with_reducible refine (impl_SmallName.calls k t390 true _ A10.1).mono ?_); rintro e w' ⟨rfl, ⟨nd, rfl⟩⟩) | (go_at_call 139; (with_reducible refine (impl_valOk.calls k t391 t393 _ A12.1).mono ?_); rintro e w13 ⟨rfl, hb⟩; have n0_ := Aside0.mk (IsS113.below q11_ hb); have n1_ := Aside0.mk (KeptG.below q39_ hb); have n2_ := Aside0.mk (below_step q19_ hb); clear HI0 HK HB; have HI0 := n0_; have HK := n1_; have HB := n2_; clear n0_ n1_ n2_; (try clear hb); (try clear hb2); (try clear hk); (try clear hi)))
    go_meet
    case rel => exact ⟨_, (!t393), q3_, H', ⟨q73_⟩, ⟨q11_⟩, ⟨q39_⟩, ⟨q19_⟩⟩
   ·replace c11 := Bool.eq_false_iff.mpr c11
    subst c11
    rw [if_neg (show ¬ (false = true) by decide)] at H
    have H' := Aside0.mk H
    clear H
    go_wp2_with (first | (go_at_call 138; (with_reducible refine (impl_SmallName.calls k t390 false _ A10.1).mono ?_); rintro e w' ⟨rfl, ⟨nd, rfl⟩⟩))
    go_meet
    case rel => exact ⟨_, (true), q3_, H', ⟨q73_⟩, ⟨q11_⟩, ⟨q39_⟩, ⟨q19_⟩⟩
  ·replace c9 := Bool.eq_false_iff.mpr c9
   subst c9
   rw [if_neg (show ¬ (false = true) by decide)] at H
   have H' := Aside0.mk H
   clear H
   go_wp2
   go_meet
   case rel => exact ⟨_, (true), q3_, H', ⟨q73_⟩, ⟨q11_⟩, ⟨q39_⟩, ⟨q19_⟩⟩
 case rest =>
  clear HC6
  try clear c1
  try clear p2
  try clear c7
  try clear c9
  try clear c11
  obtain ⟨kq, x31_5, rfl, HA, HJ5, HI0, HK, HB⟩ := hcut
  cases kq with
  | zero => exact absurd HA.1 (by simp [impl_reqHead_line.j0])
  | succ kj5 =>
   have H := HA.1
   clear HA
   simp only [impl_reqHead_line.j0] at H
   by_cases c14 : x31_5 = true
   ·subst c14
    rw [if_pos rfl] at H
    simp only [Option.some.injEq, Prod.mk.injEq] at H
    obtain ⟨rfl, rfl, rfl, rfl, rfl, rfl, rfl, rfl, rfl⟩ := H
    obtain ⟨ASz15_2, cSz15_2, HGz15, hgz15, HSz15_2⟩ := HI0.1
    have hcz15_0 := cellS113_0 HGz15
    have hcz15_1 := cellS113_1 HGz15
    have hcz15_2 := cellS113_2 HGz15
    have hcz15_3 := cellS113_3 HGz15
    have hcz15_4 := cellS113_4 HGz15
    have hcz15_5 := cellS113_5 HGz15
    have hcz15_6 := cellS113_6 HGz15
    have hcz15_7 := cellS113_7 HGz15
    have hcz15_8 := cellS113_8 HGz15
    have hfz15_0 := bF_ HGz15 0
    have hfz15_1 := bF_ HGz15 1
    have hfz15_2 := bF_ HGz15 2
    have hfz15_3 := bF_ HGz15 3
    have hfz15_4 := bF_ HGz15 4
    have hfz15_5 := bF_ HGz15 5
    have hfz15_6 := bF_ HGz15 6
    have hfz15_7 := bF_ HGz15 7
    have hfz15_8 := bF_ HGz15 8
    clear HGz15 hgz15
    go_wp2
    first | go_end0 | ((try simp only [Exit.inBlock, Exit.then]); refine bodyPost_ret (results_none rfl _ _ _) rfl ?_)
    exact ⟨q10_, q11_, q19_, q39_⟩
   ·replace c14 := Bool.eq_false_iff.mpr c14
    subst c14
    rw [if_neg (show ¬ (false = true) by decide)] at H
    by_cases c16 : t390.toList = ([99, 111, 110, 116, 101, 110, 116, 45, 108, 101, 110, 103, 116, 104] : List UInt8)
    ·rw [if_pos c16] at H
     have c16b0 : (t390.toList == ([99, 111, 110, 116, 101, 110, 116, 45, 108, 101, 110, 103, 116, 104] : List UInt8)) = true := beq_iff_eq.mpr c16
     have c16b1 : (t390.toList != ([99, 111, 110, 116, 101, 110, 116, 45, 108, 101, 110, 103, 116, 104] : List UInt8)) = false := bne_eq_false_iff_eq.mpr c16
     clear c16
     replace H := Option.bind_eq_some_iff.mp H
     obtain ⟨⟨t394, t395, t396, t397, t398, t399, t400, t401, t402⟩, A170, H⟩ := H
     replace H : (some (t394, t395, t396, t397, t398, t399, t400, t401, t402)) = some (r1, r2, r3, r4, r5, r6, r7, r8, r9) := H
     have A17 := Aside0.mk A170
     clear A170
     simp only [Option.some.injEq, Prod.mk.injEq] at H
     obtain ⟨rfl, rfl, rfl, rfl, rfl, rfl, rfl, rfl, rfl⟩ := H
     go_wp2_with (first | ((with_reducible refine gate_callee (f := 168) rfl ?_); refine goesL_ (some 57) rfl rfl Tryz.func168 (by kernel_rfl) rfl #[.pointer (some ⟨g, 0, none⟩), .string t390, .string t391] rfl q2_ ?_; (with_reducible refine (impl_reqHead_special.calls kj5 g s0_0 s0_1 s0_2 s0_3 s0_4 s0_5 s0_6 s0_7 s0_8 t390 t391 t394 t395 t396 t397 t398 t399 t400 t401 t402 w0 _ ?side1 ?side2 A17.1 ?side99).mono ?_); (case side1 => exact q11_); (case side2 => exact q19_); (case side99 => exact q20_); rintro e w18 ⟨rfl, hi, hb, hk⟩; refine ⟨_, rfl, ?_⟩; have n0_ := Aside0.mk (KeptG.then_ q39_ (KeptG.of_keep hk [88])); have n1_ := Aside0.mk (hb); have n2_ := Aside0.mk (hi); clear HK HB HI0; have HK := n0_; have HB := n1_; have HI0 := n2_; clear n0_ n1_ n2_; (try clear hb); (try clear hb2); (try clear hk); (try clear hi)))
     first | go_end0 | ((try simp only [Exit.inBlock, Exit.then]); refine bodyPost_ret (results_none rfl _ _ _) rfl ?_)
     exact ⟨q10_, q11_, q19_, q39_⟩
    ·rw [if_neg c16] at H
     have c16b0 : (t390.toList == ([99, 111, 110, 116, 101, 110, 116, 45, 108, 101, 110, 103, 116, 104] : List UInt8)) = false := beq_eq_false_iff_ne.mpr c16
     have c16b1 : (t390.toList != ([99, 111, 110, 116, 101, 110, 116, 45, 108, 101, 110, 103, 116, 104] : List UInt8)) = true := bne_iff_ne.mpr c16
     by_cases c19 : t390.toList = ([116, 114, 97, 110, 115, 102, 101, 114, 45, 101, 110, 99, 111, 100, 105, 110, 103] : List UInt8)
     ·rw [if_pos c19] at H
      have c19b0 : (t390.toList == ([116, 114, 97, 110, 115, 102, 101, 114, 45, 101, 110, 99, 111, 100, 105, 110, 103] : List UInt8)) = true := beq_iff_eq.mpr c19
      have c19b1 : (t390.toList != ([116, 114, 97, 110, 115, 102, 101, 114, 45, 101, 110, 99, 111, 100, 105, 110, 103] : List UInt8)) = false := bne_eq_false_iff_eq.mpr c19
      clear c19
      replace H := Option.bind_eq_some_iff.mp H
      obtain ⟨⟨t403, t404, t405, t406, t407, t408, t409, t410, t411⟩, A200, H⟩ := H
      replace H : (some (t403, t404, t405, t406, t407, t408, t409, t410, t411)) = some (r1, r2, r3, r4, r5, r6, r7, r8, r9) := H
      have A20 := Aside0.mk A200
      clear A200
      simp only [Option.some.injEq, Prod.mk.injEq] at H
      obtain ⟨rfl, rfl, rfl, rfl, rfl, rfl, rfl, rfl, rfl⟩ := H
      go_wp2_with (first | ((with_reducible refine gate_callee (f := 168) rfl ?_); refine goesL_ (some 57) rfl rfl Tryz.func168 (by kernel_rfl) rfl #[.pointer (some ⟨g, 0, none⟩), .string t390, .string t391] rfl q2_ ?_; (with_reducible refine (impl_reqHead_special.calls kj5 g s0_0 s0_1 s0_2 s0_3 s0_4 s0_5 s0_6 s0_7 s0_8 t390 t391 t403 t404 t405 t406 t407 t408 t409 t410 t411 w0 _ ?side1 ?side2 A20.1 ?side99).mono ?_); (case side1 => exact q11_); (case side2 => exact q19_); (case side99 => exact q20_); rintro e w21 ⟨rfl, hi, hb, hk⟩; refine ⟨_, rfl, ?_⟩; have n0_ := Aside0.mk (KeptG.then_ q39_ (KeptG.of_keep hk [88])); have n1_ := Aside0.mk (hb); have n2_ := Aside0.mk (hi); clear HK HB HI0; have HK := n0_; have HB := n1_; have HI0 := n2_; clear n0_ n1_ n2_; (try clear hb); (try clear hb2); (try clear hk); (try clear hi)))
      first | go_end0 | ((try simp only [Exit.inBlock, Exit.then]); refine bodyPost_ret (results_none rfl _ _ _) rfl ?_)
      exact ⟨q10_, q11_, q19_, q39_⟩
     ·rw [if_neg c19] at H
      have c19b0 : (t390.toList == ([116, 114, 97, 110, 115, 102, 101, 114, 45, 101, 110, 99, 111, 100, 105, 110, 103] : List UInt8)) = false := beq_eq_false_iff_ne.mpr c19
      have c19b1 : (t390.toList != ([116, 114, 97, 110, 115, 102, 101, 114, 45, 101, 110, 99, 111, 100, 105, 110, 103] : List UInt8)) = true := bne_iff_ne.mpr c19
      by_cases c22 : s0_2.length < 4398046511104
      ·rw [if_pos c22] at H
       have LMc22 := Aside0.mk c22
       clear c22
       obtain ⟨y412, hy412⟩ : ∃ y_ : List (S88), y_ = (s0_2 ++ [(⟨t390, t391⟩ : S88)]) := ⟨_, rfl⟩
       replace H : (some (s0_0, s0_1, y412, s0_3, s0_4, s0_5, s0_6, s0_7, s0_8)) = some (r1, r2, r3, r4, r5, r6, r7, r8, r9) := by first | (rw [hy412]; with_reducible exact H) | (have H2_ := (Option.bind_some _ _).symm.trans H; rw [hy412]; with_reducible exact H2_) | (have H2_ := (Option.bind_some _ _).symm.trans H; with_reducible exact H2_) | with_reducible exact H | (rw [hy412]; exact H) | exact H
       have Ny412 := Aside0.mk hy412
       clear hy412
       simp only [Option.some.injEq, Prod.mk.injEq] at H
       obtain ⟨rfl, rfl, rfl, rfl, rfl, rfl, rfl, rfl, rfl⟩ := H
       obtain ⟨ASz23_2, cSz23_2, HGz23, hgz23, HSz23_2⟩ := HI0.1
       have hcz23_0 := cellS113_0 HGz23
       have hcz23_1 := cellS113_1 HGz23
       have hcz23_2 := cellS113_2 HGz23
       have hcz23_3 := cellS113_3 HGz23
       have hcz23_4 := cellS113_4 HGz23
       have hcz23_5 := cellS113_5 HGz23
       have hcz23_6 := cellS113_6 HGz23
       have hcz23_7 := cellS113_7 HGz23
       have hcz23_8 := cellS113_8 HGz23
       have hfz23_0 := bF_ HGz23 0
       have hfz23_1 := bF_ HGz23 1
       have hfz23_2 := bF_ HGz23 2
       have hfz23_3 := bF_ HGz23 3
       have hfz23_4 := bF_ HGz23 4
       have hfz23_5 := bF_ HGz23 5
       have hfz23_6 := bF_ HGz23 6
       have hfz23_7 := bF_ HGz23 7
       have hfz23_8 := bF_ HGz23 8
       clear HGz23 hgz23
       go_wp2_with (first | ((with_reducible refine gate_builtin (b := .append) (xs := #[.tmp 22, .tmp 26]) rfl ?_); at_builtin; refine Kd.R_append k88 (w0 := w0) w0.heap.size rfl (.tmp 22) (.tmp 26) 23 88 (.agg #[(.string ⟨#[]⟩), (.string ⟨#[]⟩)]) 32 rfl Tryz.underlying23 info88 rfl (by decide) (by omega) (.slice ASz23_2 s0_2.length cSz23_2) s0_2 (⟨t390, t391⟩ : S88) [.string t390, .string t391] (fun _ => True) (fun _ => False) rfl rfl ?aP (fun _ hk => hk.elim) ?aF ?aO ?aB ?aS ?aL ?_; (case aP => exact k88_mkM _ _ _ (⟨t390, t391⟩ : S88)); (case aF => exact (fun _ _ => trivial)); (case aO => exact q113_); (case aB => exact q19_); (case aS => exact (below_size q19_)); (case aL => have := LMc22.1; omega); intro v413 w24 ho hb hg hat; rw [← Ny412.1] at ho; have n0_ := Aside0.mk (IsS113.limb_2 q11_ hg (Kd.R_typed (d := k88) (e := 88) (base := w0.heap.size) (ok := fun _ => True) (xs := s0_2) q113_)); have n1_ := Aside0.mk (KeptG.grown q39_ hg (Kd.R_typed (d := k88) (e := 88) (base := w0.heap.size) (ok := fun _ => True) (xs := s0_2) q113_) (by decide)); have n2_ := Aside0.mk (hb); have n3_ := Aside0.mk (ho); clear HI0 HK HB; have HI0 := n0_; have HK := n1_; have HB := n2_; have HO414 := n3_; clear n0_ n1_ n2_ n3_; clear ho hb hg hat; obtain ⟨Ao25, co25, eo25⟩ := Kd.R_slice HO414.1; subst eo25; obtain ⟨ASz26_2, cSz26_2, HGz26, hgz26, HSz26_2⟩ := HI0.1; have hcz26_0 := cellS113_0 HGz26; have hcz26_1 := cellS113_1 HGz26; have hcz26_2 := cellS113_2 HGz26; have hcz26_3 := cellS113_3 HGz26; have hcz26_4 := cellS113_4 HGz26; have hcz26_5 := cellS113_5 HGz26; have hcz26_6 := cellS113_6 HGz26; have hcz26_7 := cellS113_7 HGz26; have hcz26_8 := cellS113_8 HGz26; have hfz26_0 := bF_ HGz26 0; have hfz26_1 := bF_ HGz26 1; have hfz26_2 := bF_ HGz26 2; have hfz26_3 := bF_ HGz26 3; have hfz26_4 := bF_ HGz26 4; have hfz26_5 := bF_ HGz26 5; have hfz26_6 := bF_ HGz26 6; have hfz26_7 := bF_ HGz26 7; have hfz26_8 := bF_ HGz26 8; clear HGz26 hgz26))
       first | go_end0 | ((try simp only [Exit.inBlock, Exit.then]); refine bodyPost_ret (results_none rfl _ _ _) rfl ?_)
       exact ⟨q10_, by repeat (first | (with_reducible first | apply IsS113.alloc | apply IsS113.drewN | apply IsS113.drew) | exact IsS113.put_2 HI0.1 HO414.1 (Nat.le_refl _)), by repeat (first | (with_reducible first | exact HB.1 | apply aB_ | apply pN_ | apply dB_ | refine sB_ ?_ (LimS113_2.ge HI0.1)) | exact HB.1), q39_⟩
      ·rw [if_neg c22] at H
       exact absurd H (by simp)

end Go.Proofs.YtfncjddolbghlaaGreatDoor.GFnMore
