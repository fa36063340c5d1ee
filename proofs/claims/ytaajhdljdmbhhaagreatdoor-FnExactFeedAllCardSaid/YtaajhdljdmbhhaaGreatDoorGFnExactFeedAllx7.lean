-- by gprint.py (this session's program over the kit's print.py) (a twelfth state) out of the translation. Not trusted: Lean checks it.
import Derived.Test.YtaajhdljdmbhhaaGreatDoorGFnExactFeedAllx0
import Derived.Test.YtaajhdljdmbhhaaGreatDoorGFnExactFeedAllx4
import Derived.Test.YtaajhdljdmbhhaaGreatDoorGFnExactFeedAllx6
namespace Go.Proofs.YtaajhdljdmbhhaaGreatDoor.GFnExactFeedAll
open Go.RowKit Go.Proofs.YtaajhdljdmbhhaaGreatDoorW.PrintWords Go.Proofs.YtaajhdljdmbhhaaGreatDoorW.PrintLast Go.Proofs.YtaajhdljdmbhhaaGreatDoorW.PrintMore
attribute [local go_sem] max2_int min2_int max_two min_two max_three min_three max_four min_four   -- for this text's walks alone
set_option linter.unusedVariables false
set_option linter.unusedSimpArgs false
set_option maxRecDepth 100000
set_option maxHeartbeats 8000000

/-- What was there, but for block g and blocks of the types TS, is as it was. -/
def KeptG (w W : World) (g : Nat) (TS : List Nat) : Prop := w.heap.size ≤ W.heap.size ∧ ∀ k, k < w.heap.size → k ≠ g → (∀ cells t f, w.heap[k]? = some (.cells cells t f) → t ∉ TS) → W.heap[k]? = w.heap[k]?
theorem KeptG.refl (w : World) (g : Nat) (TS : List Nat) : KeptG w w g TS := ⟨Nat.le_refl _, fun _ _ _ _ => rfl⟩
theorem KeptG.size {w W : World} {g : Nat} {TS : List Nat} (h : KeptG w W g TS) : w.heap.size ≤ W.heap.size := h.1
theorem KeptG.of_below {w W : World} (h : Below w.heap.size w W) (g : Nat) (TS : List Nat) : KeptG w W g TS := ⟨h.size, fun k hk _ _ => h.block k hk⟩
theorem KeptG.of_keep {w W : World} {g : Nat} (h : KeepBut w W g none) (TS : List Nat) : KeptG w W g TS := ⟨h.1, fun k hk hne _ => h.2 k hk hne (by simp)⟩
theorem KeptG.then_ {w W W2 : World} {g : Nat} {TS : List Nat} (h : KeptG w W g TS) (k : KeptG W W2 g TS) : KeptG w W2 g TS :=
 ⟨Nat.le_trans h.1 k.1, fun i hi hn hT => (k.2 i (Nat.lt_of_lt_of_le hi h.1) hn (fun cells t f hc => hT cells t f ((h.2 i hi hn hT).symm.trans hc))).trans (h.2 i hi hn hT)⟩
theorem KeptG.below {w W W2 : World} {g : Nat} {TS : List Nat} (h : KeptG w W g TS) (k : Below W.heap.size W W2) : KeptG w W2 g TS := h.then_ (KeptG.of_below k g TS)
theorem KeptG.alloc {w W : World} {g : Nat} {TS : List Nat} (h : KeptG w W g TS) (o : Obj) : KeptG w (W.alloc o) g TS := h.below (aB_ (Below.refl _ _) o)
theorem KeptG.drew {w W : World} {g : Nat} {TS : List Nat} (h : KeptG w W g TS) : KeptG w W.drew g TS := h
theorem KeptG.drewN {w W : World} {g : Nat} {TS : List Nat} (h : KeptG w W g TS) (m : Nat) : KeptG w (W.drewN m) g TS := h
theorem KeptG.set_ {w W : World} {g : Nat} {TS : List Nat} (h : KeptG w W g TS) (j : Nat) (u : Value) : KeptG w (W.setCell ⟨g, j, none⟩ u) g TS :=
 h.then_ ⟨by simp [World.setCell], fun i _ hn _ => Below.heap_setCell W ⟨g, j, none⟩ u i hn⟩
theorem KeptG.far {w W : World} {g : Nat} {TS : List Nat} (h : KeptG w W g TS) {p : Addr} (hp : w.heap.size ≤ p.block) (u : Value) : KeptG w (W.setCell p u) g TS :=
 ⟨Nat.le_trans h.1 (by simp [World.setCell]), fun i hi hn hT => (Below.heap_setCell W p u i (by omega)).trans (h.2 i hi hn hT)⟩
theorem KeptG.grown {w W W2 : World} {g : Nat} {TS : List Nat} {v : Value} {t : Nat} (h : KeptG w W g TS) (hg : W.grownBy W2 v.ownBlock) (hv : ∀ k, v.ownBlock = some k → ∃ cells, HasRow W k cells t) (ht : t ∈ TS) : KeptG w W2 g TS :=
 h.then_ ⟨hg.size, fun i hi _ hT => hg.block i hi (fun he => by obtain ⟨cells, fz, hc, _⟩ := hv i he.symm; exact hT _ _ _ hc ht)⟩
theorem KeptG.blk {w W : World} {g g' t : Nat} {cs : Array Value} {f : Nat × Nat} {TS : List Nat} (hk : KeptG w W g TS) (hb : w.heap[g']? = some (.cells cs t f)) (hg : g' ≠ g) (ht : t ∉ TS) : W.heap[g']? = some (.cells cs t f) :=
 (hk.2 g' (blk_lt hb) hg (fun cells t2 f2 hc => by rw [hb] at hc; injection hc with hc; injection hc with _ h2 _; subst h2; exact ht)).trans hb
theorem R_keepG {α : Type} {d : Kd α} {e base g : Nat} {ok : Nat → Prop} {w W : World} {v : Value} {xs : List α} {TS : List Nat} (h : d.R e w base ok v xs) (hk : KeptG w W g TS) (hok : ∀ k, ok k → k ≠ g) (ht : ∀ q, q ∈ e :: d.E → q ∉ TS) : d.R e W base ok v xs :=
 Kd.R_mono (Kd.R_move (Kd.R_bound h) (fun k hk2 => by
  obtain ⟨h1, _, hlt, q, hq, cells, fz, hc, _⟩ := hk2; exact hk.2 k hlt (hok k h1) (fun c2 t2 f2 h2 => by rw [hc] at h2; injection h2 with h2; injection h2 with _ h3 _; subst h3; exact ht q hq))) (fun _ hk2 => hk2.1)
/-- What type the block b is of. -/
def TypB (W : World) (b t : Nat) : Prop := ∃ cs, W.heap[b]? = some (.cells cs t (0, 0))
theorem TypB.of {W : World} {b t : Nat} {cs : Array Value} (h : W.heap[b]? = some (.cells cs t (0, 0))) : TypB W b t := ⟨_, h⟩
theorem TypB.alloc {W : World} {b t : Nat} (h : TypB W b t) (o : Obj) : TypB (W.alloc o) b t := h.elim fun _ h => ⟨_, bA_ h o⟩
theorem TypB.drewN {W : World} {b t : Nat} (h : TypB W b t) (m : Nat) : TypB (W.drewN m) b t := h.elim fun _ h => ⟨_, bN_ h m⟩
theorem TypB.drew {W : World} {b t : Nat} (h : TypB W b t) : TypB W.drew b t := h.elim fun _ h => ⟨_, bD_ h⟩
theorem TypB.set {W : World} {b t : Nat} (h : TypB W b t) (a j : Nat) (u : Value) : TypB (W.setCell ⟨a, j, none⟩ u) b t := by
 obtain ⟨cs, h⟩ := h; by_cases e : b = a
 ·subst e; exact ⟨_, by simpa using blk_set h j u⟩
 ·exact ⟨_, (Below.heap_setCell W ⟨a, j, none⟩ u b e).trans h⟩
/-- A state of type 107 at block g of W; its slices are rows of its own. -/
def IsS107 (w0 W : World) (g : Nat) (f0 : ByteArray) (f1 : ByteArray) (f2 : List (S113)) (f3 : ByteArray) (f4 : Int) (f5 : Int) (f6 : List Int) : Prop := ∃ A2 c2, ∃ A6 c6, W.heap[g]? = some (.cells #[.string f0, .string f1, .slice A2 f2.length c2, .string f3, .int .i64 f4, .int .i64 f5, .slice A6 f6.length c6] 107 (0, 0)) ∧ w0.heap.size ≤ g ∧ Kd.R k113 113 W w0.heap.size (fun _ => True) (.slice A2 f2.length c2) f2 ∧ Kd.R (Kd.int .i64) 3 W w0.heap.size (fun _ => True) (.slice A6 f6.length c6) f6
theorem IsS107.below {w0 W : World} {g : Nat} {f0 : ByteArray} {f1 : ByteArray} {f2 : List (S113)} {f3 : ByteArray} {f4 : Int} {f5 : Int} {f6 : List Int} {W1 : World} (h : IsS107 w0 W g f0 f1 f2 f3 f4 f5 f6) (hw : Below W.heap.size W W1) : IsS107 w0 W1 g f0 f1 f2 f3 f4 f5 f6 := by
 obtain ⟨A2, c2, A6, c6, hb, hg, hr2, hr6⟩ := h; exact ⟨A2, c2, A6, c6, bB_ hb hw, hg, Kd.R_below hr2 hw, Kd.R_below hr6 hw⟩
theorem IsS107.alloc {w0 W : World} {g : Nat} {f0 : ByteArray} {f1 : ByteArray} {f2 : List (S113)} {f3 : ByteArray} {f4 : Int} {f5 : Int} {f6 : List Int} (h : IsS107 w0 W g f0 f1 f2 f3 f4 f5 f6) (o : Obj) : IsS107 w0 (W.alloc o) g f0 f1 f2 f3 f4 f5 f6 := h.below (aB_ (Below.refl _ _) o)
theorem IsS107.drewN {w0 W : World} {g : Nat} {f0 : ByteArray} {f1 : ByteArray} {f2 : List (S113)} {f3 : ByteArray} {f4 : Int} {f5 : Int} {f6 : List Int} (h : IsS107 w0 W g f0 f1 f2 f3 f4 f5 f6) (m : Nat) : IsS107 w0 (W.drewN m) g f0 f1 f2 f3 f4 f5 f6 := h.below (pN_ (Below.refl _ _) m)
theorem IsS107.drew {w0 W : World} {g : Nat} {f0 : ByteArray} {f1 : ByteArray} {f2 : List (S113)} {f3 : ByteArray} {f4 : Int} {f5 : Int} {f6 : List Int} (h : IsS107 w0 W g f0 f1 f2 f3 f4 f5 f6) : IsS107 w0 W.drew g f0 f1 f2 f3 f4 f5 f6 := h.below (below_drew (Below.refl _ _))
theorem IsS107.lt {w0 W : World} {g : Nat} {f0 : ByteArray} {f1 : ByteArray} {f2 : List (S113)} {f3 : ByteArray} {f4 : Int} {f5 : Int} {f6 : List Int} (h : IsS107 w0 W g f0 f1 f2 f3 f4 f5 f6) : g < W.heap.size := by
 obtain ⟨A2, c2, A6, c6, hb, hg, hr2, hr6⟩ := h; exact blk_lt hb
theorem IsS107.ge {w0 W : World} {g : Nat} {f0 : ByteArray} {f1 : ByteArray} {f2 : List (S113)} {f3 : ByteArray} {f4 : Int} {f5 : Int} {f6 : List Int} (h : IsS107 w0 W g f0 f1 f2 f3 f4 f5 f6) : w0.heap.size ≤ g := by
 obtain ⟨A2, c2, A6, c6, hb, hg, hr2, hr6⟩ := h; exact hg
theorem IsS107.apart {w0 W : World} {g : Nat} {f0 : ByteArray} {f1 : ByteArray} {f2 : List (S113)} {f3 : ByteArray} {f4 : Int} {f5 : Int} {f6 : List Int} {α : Type} {d : Kd α} {e : Nat} {base : Nat} {ok : Nat → Prop} {v : Value} {xs : List α} (h : IsS107 w0 W g f0 f1 f2 f3 f4 f5 f6) (ho : d.R e W base ok v xs) (ht : ∀ q, q ∈ e :: d.E → q ≠ 107) : d.R e W base (fun k => ok k ∧ k ≠ g) v xs := by
 obtain ⟨A2, c2, A6, c6, hb, hg, hr2, hr6⟩ := h; exact Kd.R_types ho hb ht
theorem IsS107.own_ne {w0 W : World} {g : Nat} {f0 : ByteArray} {f1 : ByteArray} {f2 : List (S113)} {f3 : ByteArray} {f4 : Int} {f5 : Int} {f6 : List Int} {α : Type} {d : Kd α} {e : Nat} {base : Nat} {ok : Nat → Prop} {v : Value} {xs : List α} (h : IsS107 w0 W g f0 f1 f2 f3 f4 f5 f6) (ho : d.R e W base ok v xs) (ht : e ≠ 107) : some g ≠ v.ownBlock := by
 obtain ⟨A2, c2, A6, c6, hb, hg, hr2, hr6⟩ := h; exact Kd.R_ne ho hb ht
theorem cellS107_0 {W : World} {g : Nat} {A2 : Option Addr} {c2 : Nat} {A6 : Option Addr} {c6 : Nat} {f0 : ByteArray} {f1 : ByteArray} {f2 : List (S113)} {f3 : ByteArray} {f4 : Int} {f5 : Int} {f6 : List Int} (h : W.heap[g]? = some (.cells #[.string f0, .string f1, .slice A2 f2.length c2, .string f3, .int .i64 f4, .int .i64 f5, .slice A6 f6.length c6] 107 (0, 0))) : W.cell? ⟨g, 0, none⟩ = some (.string f0) := (bc_ h 0).trans rfl
theorem IsS107.set_0 {w0 W : World} {g : Nat} {f0 : ByteArray} {f1 : ByteArray} {f2 : List (S113)} {f3 : ByteArray} {f4 : Int} {f5 : Int} {f6 : List Int} (h : IsS107 w0 W g f0 f1 f2 f3 f4 f5 f6) (x : ByteArray) : IsS107 w0 (W.setCell ⟨g, 0, none⟩ (.string x)) g x f1 f2 f3 f4 f5 f6 := by
 obtain ⟨A2, c2, A6, c6, hb, hg, hr2, hr6⟩ := h; exact ⟨A2, c2, A6, c6, by simpa using blk_set hb 0 (.string x), hg, Kd.R_set hr2 hb (by decide) _ _, Kd.R_set hr6 hb (by decide) _ _⟩
theorem cellS107_1 {W : World} {g : Nat} {A2 : Option Addr} {c2 : Nat} {A6 : Option Addr} {c6 : Nat} {f0 : ByteArray} {f1 : ByteArray} {f2 : List (S113)} {f3 : ByteArray} {f4 : Int} {f5 : Int} {f6 : List Int} (h : W.heap[g]? = some (.cells #[.string f0, .string f1, .slice A2 f2.length c2, .string f3, .int .i64 f4, .int .i64 f5, .slice A6 f6.length c6] 107 (0, 0))) : W.cell? ⟨g, 1, none⟩ = some (.string f1) := (bc_ h 1).trans rfl
theorem IsS107.set_1 {w0 W : World} {g : Nat} {f0 : ByteArray} {f1 : ByteArray} {f2 : List (S113)} {f3 : ByteArray} {f4 : Int} {f5 : Int} {f6 : List Int} (h : IsS107 w0 W g f0 f1 f2 f3 f4 f5 f6) (x : ByteArray) : IsS107 w0 (W.setCell ⟨g, 1, none⟩ (.string x)) g f0 x f2 f3 f4 f5 f6 := by
 obtain ⟨A2, c2, A6, c6, hb, hg, hr2, hr6⟩ := h; exact ⟨A2, c2, A6, c6, by simpa using blk_set hb 1 (.string x), hg, Kd.R_set hr2 hb (by decide) _ _, Kd.R_set hr6 hb (by decide) _ _⟩
theorem cellS107_2 {W : World} {g : Nat} {A2 : Option Addr} {c2 : Nat} {A6 : Option Addr} {c6 : Nat} {f0 : ByteArray} {f1 : ByteArray} {f2 : List (S113)} {f3 : ByteArray} {f4 : Int} {f5 : Int} {f6 : List Int} (h : W.heap[g]? = some (.cells #[.string f0, .string f1, .slice A2 f2.length c2, .string f3, .int .i64 f4, .int .i64 f5, .slice A6 f6.length c6] 107 (0, 0))) : W.cell? ⟨g, 2, none⟩ = some (.slice A2 f2.length c2) := (bc_ h 2).trans rfl
def LimS107_2 (w0 W : World) (g : Nat) (f0 : ByteArray) (f1 : ByteArray) (f2 : List (S113)) (f3 : ByteArray) (f4 : Int) (f5 : Int) (f6 : List Int) : Prop := ∃ A2 c2, ∃ A6 c6, W.heap[g]? = some (.cells #[.string f0, .string f1, .slice A2 f2.length c2, .string f3, .int .i64 f4, .int .i64 f5, .slice A6 f6.length c6] 107 (0, 0)) ∧ w0.heap.size ≤ g ∧ True ∧ Kd.R (Kd.int .i64) 3 W w0.heap.size (fun _ => True) (.slice A6 f6.length c6) f6
theorem LimS107_2.ge {w0 W : World} {g : Nat} {f0 : ByteArray} {f1 : ByteArray} {f2 : List (S113)} {f3 : ByteArray} {f4 : Int} {f5 : Int} {f6 : List Int} (h : LimS107_2 w0 W g f0 f1 f2 f3 f4 f5 f6) : w0.heap.size ≤ g := by
 obtain ⟨A2, c2, A6, c6, hb, hg, hr2, hr6⟩ := h; exact hg
theorem LimS107_2.drewN {w0 W : World} {g : Nat} {f0 : ByteArray} {f1 : ByteArray} {f2 : List (S113)} {f3 : ByteArray} {f4 : Int} {f5 : Int} {f6 : List Int} (h : LimS107_2 w0 W g f0 f1 f2 f3 f4 f5 f6) (m : Nat) : LimS107_2 w0 (W.drewN m) g f0 f1 f2 f3 f4 f5 f6 := by
 obtain ⟨A2, c2, A6, c6, hb, hg, hr2, hr6⟩ := h; exact ⟨A2, c2, A6, c6, bN_ hb m, hg, trivial, rN_ hr6 m⟩
theorem IsS107.limb_2 {w0 W : World} {g : Nat} {f0 : ByteArray} {f1 : ByteArray} {f2 : List (S113)} {f3 : ByteArray} {f4 : Int} {f5 : Int} {f6 : List Int} {W1 : World} {v : Value} (h : IsS107 w0 W g f0 f1 f2 f3 f4 f5 f6) (hw : W.grownBy W1 v.ownBlock) (hv : ∀ k, v.ownBlock = some k → ∃ cells, HasRow W k cells 113) : LimS107_2 w0 W1 g f0 f1 f2 f3 f4 f5 f6 := by
 obtain ⟨A2, c2, A6, c6, hb, hg, hr2, hr6⟩ := h; refine ⟨A2, c2, A6, c6, blk_grown hb hw (fun e => ?_), hg, trivial, Kd.R_over' hr6 hv (by decide) hw⟩; obtain ⟨cells, hc⟩ := hv g e.symm; exact absurd (hc.typ0 hb) (by decide)
theorem IsS107.put_2 {w0 W : World} {g : Nat} {f0 : ByteArray} {f1 : ByteArray} {f2 : List (S113)} {f3 : ByteArray} {f4 : Int} {f5 : Int} {f6 : List Int} {v : Value} {x : List (S113)} {base : Nat} {ok : Nat → Prop} (h : LimS107_2 w0 W g f0 f1 f2 f3 f4 f5 f6) (hv : Kd.R k113 113 W base ok v x) (hle : w0.heap.size ≤ base) : IsS107 w0 (W.setCell ⟨g, 2, none⟩ v) g f0 f1 x f3 f4 f5 f6 := by
 obtain ⟨A2, c2, A6, c6, hb, hg, hr2, hr6⟩ := h; obtain ⟨A, c, rfl⟩ := Kd.R_slice hv; have hv2 := Kd.R_lower (Kd.R_mono (ok' := fun _ => True) hv (fun _ _ => trivial)) hle; exact ⟨A, c, A6, c6, by simpa using blk_set hb 2 (.slice A x.length c), hg, Kd.R_set hv2 hb (by decide) _ _, Kd.R_set hr6 hb (by decide) _ _⟩
theorem cellS107_3 {W : World} {g : Nat} {A2 : Option Addr} {c2 : Nat} {A6 : Option Addr} {c6 : Nat} {f0 : ByteArray} {f1 : ByteArray} {f2 : List (S113)} {f3 : ByteArray} {f4 : Int} {f5 : Int} {f6 : List Int} (h : W.heap[g]? = some (.cells #[.string f0, .string f1, .slice A2 f2.length c2, .string f3, .int .i64 f4, .int .i64 f5, .slice A6 f6.length c6] 107 (0, 0))) : W.cell? ⟨g, 3, none⟩ = some (.string f3) := (bc_ h 3).trans rfl
theorem IsS107.set_3 {w0 W : World} {g : Nat} {f0 : ByteArray} {f1 : ByteArray} {f2 : List (S113)} {f3 : ByteArray} {f4 : Int} {f5 : Int} {f6 : List Int} (h : IsS107 w0 W g f0 f1 f2 f3 f4 f5 f6) (x : ByteArray) : IsS107 w0 (W.setCell ⟨g, 3, none⟩ (.string x)) g f0 f1 f2 x f4 f5 f6 := by
 obtain ⟨A2, c2, A6, c6, hb, hg, hr2, hr6⟩ := h; exact ⟨A2, c2, A6, c6, by simpa using blk_set hb 3 (.string x), hg, Kd.R_set hr2 hb (by decide) _ _, Kd.R_set hr6 hb (by decide) _ _⟩
theorem cellS107_4 {W : World} {g : Nat} {A2 : Option Addr} {c2 : Nat} {A6 : Option Addr} {c6 : Nat} {f0 : ByteArray} {f1 : ByteArray} {f2 : List (S113)} {f3 : ByteArray} {f4 : Int} {f5 : Int} {f6 : List Int} (h : W.heap[g]? = some (.cells #[.string f0, .string f1, .slice A2 f2.length c2, .string f3, .int .i64 f4, .int .i64 f5, .slice A6 f6.length c6] 107 (0, 0))) : W.cell? ⟨g, 4, none⟩ = some (.int .i64 f4) := (bc_ h 4).trans rfl
theorem IsS107.set_4 {w0 W : World} {g : Nat} {f0 : ByteArray} {f1 : ByteArray} {f2 : List (S113)} {f3 : ByteArray} {f4 : Int} {f5 : Int} {f6 : List Int} (h : IsS107 w0 W g f0 f1 f2 f3 f4 f5 f6) (x : Int) : IsS107 w0 (W.setCell ⟨g, 4, none⟩ (.int .i64 x)) g f0 f1 f2 f3 x f5 f6 := by
 obtain ⟨A2, c2, A6, c6, hb, hg, hr2, hr6⟩ := h; exact ⟨A2, c2, A6, c6, by simpa using blk_set hb 4 (.int .i64 x), hg, Kd.R_set hr2 hb (by decide) _ _, Kd.R_set hr6 hb (by decide) _ _⟩
theorem cellS107_5 {W : World} {g : Nat} {A2 : Option Addr} {c2 : Nat} {A6 : Option Addr} {c6 : Nat} {f0 : ByteArray} {f1 : ByteArray} {f2 : List (S113)} {f3 : ByteArray} {f4 : Int} {f5 : Int} {f6 : List Int} (h : W.heap[g]? = some (.cells #[.string f0, .string f1, .slice A2 f2.length c2, .string f3, .int .i64 f4, .int .i64 f5, .slice A6 f6.length c6] 107 (0, 0))) : W.cell? ⟨g, 5, none⟩ = some (.int .i64 f5) := (bc_ h 5).trans rfl
theorem IsS107.set_5 {w0 W : World} {g : Nat} {f0 : ByteArray} {f1 : ByteArray} {f2 : List (S113)} {f3 : ByteArray} {f4 : Int} {f5 : Int} {f6 : List Int} (h : IsS107 w0 W g f0 f1 f2 f3 f4 f5 f6) (x : Int) : IsS107 w0 (W.setCell ⟨g, 5, none⟩ (.int .i64 x)) g f0 f1 f2 f3 f4 x f6 := by
 obtain ⟨A2, c2, A6, c6, hb, hg, hr2, hr6⟩ := h; exact ⟨A2, c2, A6, c6, by simpa using blk_set hb 5 (.int .i64 x), hg, Kd.R_set hr2 hb (by decide) _ _, Kd.R_set hr6 hb (by decide) _ _⟩
theorem cellS107_6 {W : World} {g : Nat} {A2 : Option Addr} {c2 : Nat} {A6 : Option Addr} {c6 : Nat} {f0 : ByteArray} {f1 : ByteArray} {f2 : List (S113)} {f3 : ByteArray} {f4 : Int} {f5 : Int} {f6 : List Int} (h : W.heap[g]? = some (.cells #[.string f0, .string f1, .slice A2 f2.length c2, .string f3, .int .i64 f4, .int .i64 f5, .slice A6 f6.length c6] 107 (0, 0))) : W.cell? ⟨g, 6, none⟩ = some (.slice A6 f6.length c6) := (bc_ h 6).trans rfl
def LimS107_6 (w0 W : World) (g : Nat) (f0 : ByteArray) (f1 : ByteArray) (f2 : List (S113)) (f3 : ByteArray) (f4 : Int) (f5 : Int) (f6 : List Int) : Prop := ∃ A2 c2, ∃ A6 c6, W.heap[g]? = some (.cells #[.string f0, .string f1, .slice A2 f2.length c2, .string f3, .int .i64 f4, .int .i64 f5, .slice A6 f6.length c6] 107 (0, 0)) ∧ w0.heap.size ≤ g ∧ Kd.R k113 113 W w0.heap.size (fun _ => True) (.slice A2 f2.length c2) f2 ∧ True
theorem LimS107_6.ge {w0 W : World} {g : Nat} {f0 : ByteArray} {f1 : ByteArray} {f2 : List (S113)} {f3 : ByteArray} {f4 : Int} {f5 : Int} {f6 : List Int} (h : LimS107_6 w0 W g f0 f1 f2 f3 f4 f5 f6) : w0.heap.size ≤ g := by
 obtain ⟨A2, c2, A6, c6, hb, hg, hr2, hr6⟩ := h; exact hg
theorem LimS107_6.drewN {w0 W : World} {g : Nat} {f0 : ByteArray} {f1 : ByteArray} {f2 : List (S113)} {f3 : ByteArray} {f4 : Int} {f5 : Int} {f6 : List Int} (h : LimS107_6 w0 W g f0 f1 f2 f3 f4 f5 f6) (m : Nat) : LimS107_6 w0 (W.drewN m) g f0 f1 f2 f3 f4 f5 f6 := by
 obtain ⟨A2, c2, A6, c6, hb, hg, hr2, hr6⟩ := h; exact ⟨A2, c2, A6, c6, bN_ hb m, hg, rN_ hr2 m, trivial⟩
theorem IsS107.limb_6 {w0 W : World} {g : Nat} {f0 : ByteArray} {f1 : ByteArray} {f2 : List (S113)} {f3 : ByteArray} {f4 : Int} {f5 : Int} {f6 : List Int} {W1 : World} {v : Value} (h : IsS107 w0 W g f0 f1 f2 f3 f4 f5 f6) (hw : W.grownBy W1 v.ownBlock) (hv : ∀ k, v.ownBlock = some k → ∃ cells, HasRow W k cells 3) : LimS107_6 w0 W1 g f0 f1 f2 f3 f4 f5 f6 := by
 obtain ⟨A2, c2, A6, c6, hb, hg, hr2, hr6⟩ := h; refine ⟨A2, c2, A6, c6, blk_grown hb hw (fun e => ?_), hg, Kd.R_over' hr2 hv (by decide) hw, trivial⟩; obtain ⟨cells, hc⟩ := hv g e.symm; exact absurd (hc.typ0 hb) (by decide)
theorem IsS107.put_6 {w0 W : World} {g : Nat} {f0 : ByteArray} {f1 : ByteArray} {f2 : List (S113)} {f3 : ByteArray} {f4 : Int} {f5 : Int} {f6 : List Int} {v : Value} {x : List Int} {base : Nat} {ok : Nat → Prop} (h : LimS107_6 w0 W g f0 f1 f2 f3 f4 f5 f6) (hv : Kd.R (Kd.int .i64) 3 W base ok v x) (hle : w0.heap.size ≤ base) : IsS107 w0 (W.setCell ⟨g, 6, none⟩ v) g f0 f1 f2 f3 f4 f5 x := by
 obtain ⟨A2, c2, A6, c6, hb, hg, hr2, hr6⟩ := h; obtain ⟨A, c, rfl⟩ := Kd.R_slice hv; have hv2 := Kd.R_lower (Kd.R_mono (ok' := fun _ => True) hv (fun _ _ => trivial)) hle; exact ⟨A2, c2, A, c, by simpa using blk_set hb 6 (.slice A x.length c), hg, Kd.R_set hr2 hb (by decide) _ _, Kd.R_set hv2 hb (by decide) _ _⟩

def spec_l3First.j0 : Nat → List ByteArray → Bool → ByteArray → ByteArray → List (S113) → ByteArray → Int → Int → List Int → Option (Bool × ByteArray × ByteArray × (List (S113)) × ByteArray × Int × Int × List Int)
 | 0, _, _, _, _, _, _, _, _, _ => none
 | k + 1, x5, x16, x1000, x1001, x1002, x1003, x1004, x1005, x1006 => if x16 = true then (some (false, x1000, x1001, x1002, x1003, x1004, x1005, x1006)) else (if 0 < (x5.length : Int) then (if 1 < (x5.length : Int) then ((spec_l3Method.f k (rdOf ByteArray.empty x5 0)).bind fun t198 => (if t198 = true then ((spec_l3Target.f k (rdOf ByteArray.empty x5 1)).bind fun t200 => (some (t200, rdOf ByteArray.empty x5 0, rdOf ByteArray.empty x5 1, x1002, x1003, x1004, x1005, x1006))) else (some (false, rdOf ByteArray.empty x5 0, rdOf ByteArray.empty x5 1, x1002, x1003, x1004, x1005, x1006)))) else (none)) else (none))
def spec_l3First.f (k : Nat) (s0_0 : ByteArray) (s0_1 : ByteArray) (s0_2 : List (S113)) (s0_3 : ByteArray) (s0_4 : Int) (s0_5 : Int) (s0_6 : List Int) (a1 : ByteArray) : Option (Bool × ByteArray × ByteArray × (List (S113)) × ByteArray × Int × Int × List Int) := (spec_l2Split.f k a1 32).bind fun t191 => (if (t191.length : Int) = 3 then (if 2 < (t191.length : Int) then (spec_l3First.j0 k t191 ((rdOf ByteArray.empty t191 2).toList != ([72, 84, 84, 80, 47, 49, 46, 49] : List UInt8)) s0_0 s0_1 s0_2 s0_3 s0_4 s0_5 s0_6) else (none)) else (spec_l3First.j0 k t191 true s0_0 s0_1 s0_2 s0_3 s0_4 s0_5 s0_6))

theorem spec_l3First.calls (k : Nat) (g : Nat) (s0_0 : ByteArray) (s0_1 : ByteArray) (s0_2 : List (S113)) (s0_3 : ByteArray) (s0_4 : Int) (s0_5 : Int) (s0_6 : List Int) (a1 : ByteArray) (r1 : Bool) (r2 : ByteArray) (r3 : ByteArray) (r4 : List (S113)) (r5 : ByteArray) (r6 : Int) (r7 : Int) (r8 : List Int) (w0 w : World) (hI : IsS107 w0 w g s0_0 s0_1 s0_2 s0_3 s0_4 s0_5 s0_6) (hB : Below w0.heap.size w0 w) (h : spec_l3First.f k s0_0 s0_1 s0_2 s0_3 s0_4 s0_5 s0_6 a1 = some (r1, r2, r3, r4, r5, r6, r7, r8)) :
  Calls Tryz.prog 110 #[.pointer (some ⟨g, 0, none⟩), .string a1] w fun e w' => e = .returned (.bool r1) ∧ IsS107 w0 w' g r2 r3 r4 r5 r6 r7 r8 ∧ Below w0.heap.size w0 w' ∧ KeepBut w w' g none := by
 have HI0 := aK hI; have HK := aK (KeepBut.refl w g none); have HL := aK hB.size; clear hI; have HW0 := aK hB.size; have HB := aK hB; clear hB; have H := h; clear h; unfold spec_l3First.f at H
 replace H := oB H; obtain ⟨t191, A3, H⟩ := H; (try dsimp only at H); have HC4 := aK H; clear H; go_enter Tryz.func110, Tryz.ntmps110
 go_upto_region 2 with (first | ((with_reducible refine gate_callee (f := 136) rfl ?_); refine goesL_ (some 7) rfl rfl Tryz.func136 (by kernel_rfl) rfl #[.string a1, .int .u8 32] rfl q3_ ?_; (with_reducible refine (spec_l2Split.calls k a1 32 t191 _ A3.1).mono ?_); rintro e w5 ⟨v192, rfl, ho0, hb⟩; refine ⟨_, rfl, ?_⟩; have HO193 := aK (Kd.R_lower ho0 (keep_size (w := w) (g := g) (row := none) q9_)); replace HK := aK (KeepBut.trans q9_ (KeepBut.of_below hb g none) (.inl rfl)); replace HB := aK (below_step q12_ hb); replace HI0 := aK (IsS107.below q6_ hb); clear hb ho0))
 (try simp only [Act.put, sI, sZ, sS]); go_cut [16] (fun v16 wc => ∃ (kq : Nat) (x16_3 : Bool), v16 = .bool x16_3 ∧ Aside0 (spec_l3First.j0 kq t191 x16_3 s0_0 s0_1 s0_2 s0_3 s0_4 s0_5 s0_6 = some (r1, r2, r3, r4, r5, r6, r7, r8)) ∧ Aside0 (kq ≤ k) ∧ Aside0 (Kd.R Kd.string 9 wc w.heap.size (fun _ => True) v192 t191) ∧ Aside0 (IsS107 w0 wc g s0_0 s0_1 s0_2 s0_3 s0_4 s0_5 s0_6) ∧ Aside0 (KeepBut w wc g none) ∧ Aside0 (Below w0.heap.size w0 wc))
 case first =>
  have H := HC4.1; clear HC4; by_cases c6 : (t191.length : Int) = 3
  ·rw [if_pos c6] at H; have c6b0 := beq_iff_eq.mpr c6; have c6b1 : ((t191.length : Int) != 3) = false := bne_eq_false_iff_eq.mpr c6; clear c6; (first | rw [c6b0] | rw [c6i0] | (simp only [i64_w, i32_w]; rw [c6b0]) | skip); by_cases c7 : 2 < (t191.length : Int)
   ·rw [if_pos c7] at H; have c7b0 := decide_eq_true c7; have c7b1 : decide (2 < t191.length) = true := decide_eq_true (by omega); clear c7; have H' := aK H; clear H; obtain ⟨Ao8, co8, eo8⟩ := Kd.R_slice HO193.1; subst eo8; have p194 : 0 ≤ (2 : Int) := (by omega); have q194 : 2 < (t191.length : Int) := of_decide_eq_true q4_; obtain ⟨ad194, e194, hx194_0⟩ := Kd.at_string (Kd.R_reads' HO193.1).2.2 2 p194 q194; cases e194
    (try simp only [show (2 : Int).toNat = 2 from rfl, Nat.reduceMul, Nat.reduceEqDiff, Go.Addr.add, ↓reduceIte] at hx194_0); have qi194 : (2 < t191.length) = True := eq_true (by omega); (try rw [show ((2 : Int)).toNat = 2 from rfl] at hx194_0); replace p194 := eq_true p194; replace q194 := eq_true q194; go_wp2
    go_meet
    case rel => exact ⟨_, (((rdOf ByteArray.empty t191 2).toList != ([72, 84, 84, 80, 47, 49, 46, 49] : List UInt8))), q2_, H', ⟨q93_⟩, ⟨q150_⟩, ⟨q6_⟩, ⟨q9_⟩, ⟨q12_⟩⟩
   ·rw [if_neg c7] at H; exact absurd H (by simp)
  ·rw [if_neg c6] at H; have c6b0 := beq_eq_false_iff_ne.mpr c6; have c6b1 : ((t191.length : Int) != 3) = true := bne_iff_ne.mpr c6; (first | rw [c6b0] | rw [c6i0] | (simp only [i64_w, i32_w]; rw [c6b0]) | skip); have H' := aK H; clear H; obtain ⟨Ao9, co9, eo9⟩ := Kd.R_slice HO193.1; subst eo9; go_wp2
   go_meet
   case rel => exact ⟨_, (true), q2_, H', ⟨q93_⟩, ⟨q150_⟩, ⟨q6_⟩, ⟨q9_⟩, ⟨q12_⟩⟩
 case rest =>
  clear HC4; (try clear c1); (try clear p1); (try clear q1); (try clear hx1); (try clear qi1); (try clear p2); (try clear c6); (try clear c6b0); (try clear c6b1); (try clear c7); (try clear c7b0); (try clear c7b1); (try clear hx194_0); (try clear p194); (try clear q194); obtain ⟨kq, x16_3, rfl, HA, HJ3, HO_5, HI0, HK, HB⟩ := hcut; cases kq with
  | zero => exact absurd HA.1 (by simp [spec_l3First.j0])
  | succ kj3 =>
   have H := HA.1; clear HA; simp only [spec_l3First.j0] at H; by_cases c10 : x16_3 = true
   ·subst c10; rw [if_pos rfl] at H; simp only [Option.some.injEq, Prod.mk.injEq] at H; obtain ⟨rfl, rfl, rfl, rfl, rfl, rfl, rfl, rfl⟩ := H; go_wp2
    go_ret
    exact ⟨q7_, q6_, q12_, q9_⟩
   ·replace c10 := Bool.eq_false_iff.mpr c10; subst c10; rw [if_neg (show ¬ (false = true) by decide)] at H; by_cases c11 : 0 < (t191.length : Int)
    ·rw [if_pos c11] at H; have c11b0 := decide_eq_true c11; have c11b1 : decide (0 < t191.length) = true := decide_eq_true (by omega); clear c11; by_cases c12 : 1 < (t191.length : Int)
     ·rw [if_pos c12] at H; have c12b0 := decide_eq_true c12; have c12b1 : decide (1 < t191.length) = true := decide_eq_true (by omega); clear c12; replace H := oB H; obtain ⟨t198, A13, H⟩ := H; (try dsimp only at H); by_cases c14 : t198 = true
      ·subst c14; rw [if_pos rfl] at H; replace H := oB H; obtain ⟨t200, A15, H⟩ := H; (try dsimp only at H); simp only [Option.some.injEq, Prod.mk.injEq] at H; obtain ⟨rfl, rfl, rfl, rfl, rfl, rfl, rfl, rfl⟩ := H; obtain ⟨Ao16, co16, eo16⟩ := Kd.R_slice HO_5.1; subst eo16; have p195 : 0 ≤ (0 : Int) := (by omega); have q195 : 0 < (t191.length : Int) := of_decide_eq_true q4_; obtain ⟨ad195, e195, hx195_0⟩ := Kd.at_string (Kd.R_reads' HO_5.1).2.2 0 p195 q195; cases e195
       have qi195 : (0 < t191.length) = True := eq_true (by omega); (try rw [show ((0 : Int)).toNat = 0 from rfl] at hx195_0); (try rw [Addr.add_zero'] at hx195_0); replace p195 := eq_true p195; replace q195 := eq_true q195; obtain ⟨ASz17_2, cSz17_2, ASz17_6, cSz17_6, HGz17, hgz17, HSz17_2, HSz17_6⟩ := HI0.1; have hcz17 := cel7 HGz17; clear HGz17 hgz17; have p196 : 0 ≤ (1 : Int) := (by omega); have q196 : 1 < (t191.length : Int) := of_decide_eq_true q4_; obtain ⟨ad196, e196, hx196_0⟩ := Kd.at_string (Kd.R_reads' HO_5.1).2.2 1 p196 q196; obtain rfl : ad195 = ad196 := (by injection e196); (try simp only [show (1 : Int).toNat = 1 from rfl, Nat.reduceMul, Nat.reduceEqDiff, Go.Addr.add, ↓reduceIte] at hx196_0); have qi196 : (1 < t191.length) = True := eq_true (by omega); (try rw [show ((1 : Int)).toNat = 1 from rfl] at hx196_0); have hn196_0 : ad195.block ≠ g := Kd.own_blk (IsS107.own_ne HI0.1 HO_5.1 (by decide)); replace hx196_0 := (cell_far (p := ⟨g, 0, none⟩) q188_ (.string (rdOf ByteArray.empty t191 0))).trans hx196_0; clear hn196_0; replace p196 := eq_true p196; replace q196 := eq_true q196; have p197 : 0 ≤ (0 : Int) := (by omega); have q197 : 0 < (t191.length : Int) := of_decide_eq_true q4_; obtain ⟨ad197, e197, hx197_0⟩ := Kd.at_string (Kd.R_reads' HO_5.1).2.2 0 p197 q197; obtain rfl : ad195 = ad197 := (by injection e197); have qi197 : (0 < t191.length) = True := eq_true (by omega); (try rw [show ((0 : Int)).toNat = 0 from rfl] at hx197_0); (try rw [Addr.add_zero'] at hx197_0); have hn197_0 : ad195.block ≠ g := Kd.own_blk (IsS107.own_ne HI0.1 HO_5.1 (by decide)); have hn197_1 : ad195.block ≠ g := Kd.own_blk (IsS107.own_ne HI0.1 HO_5.1 (by decide)); replace hx197_0 := (cell_far (p := ⟨g, 0, none⟩) q187_ (.string (rdOf ByteArray.empty t191 0))).trans hx197_0; replace hx197_0 := (cell_far (p := ⟨g, 1, none⟩) q186_ (.string (rdOf ByteArray.empty t191 1))).trans hx197_0; clear hn197_0 hn197_1; replace p197 := eq_true p197; replace q197 := eq_true q197; go_wp2_with (first | ((with_reducible refine gate_callee (f := 121) rfl ?_); refine goesL_ (some 34) rfl rfl Tryz.func121 (by kernel_rfl) rfl #[.string (rdOf ByteArray.empty t191 0)] rfl q3_ ?_; (with_reducible refine (spec_l3Method.calls kj3 (rdOf ByteArray.empty t191 0) true _ A13.1).mono ?_); rintro e w' ⟨rfl, ⟨nd, rfl⟩⟩; refine ⟨_, rfl, ?_⟩; have p199 : 0 ≤ (1 : Int) := (by omega); have q199 : 1 < (t191.length : Int) := of_decide_eq_true q4_; obtain ⟨ad199, e199, hx199_0⟩ := Kd.at_string (Kd.R_reads' HO_5.1).2.2 1 p199 q199; obtain rfl : ad195 = ad199 := (by injection e199); (try simp only [show (1 : Int).toNat = 1 from rfl, Nat.reduceMul, Nat.reduceEqDiff, Go.Addr.add, ↓reduceIte] at hx199_0); have qi199 : (1 < t191.length) = True := eq_true (by omega); (try rw [show ((1 : Int)).toNat = 1 from rfl] at hx199_0); have hn199_0 : ad195.block ≠ g := Kd.own_blk (IsS107.own_ne HI0.1 HO_5.1 (by decide)); have hn199_1 : ad195.block ≠ g := Kd.own_blk (IsS107.own_ne HI0.1 HO_5.1 (by decide)); replace hx199_0 := (cell_far (p := ⟨g, 0, none⟩) (by first | (rw [add_block]; exact hn199_0) | (show (Addr.add _ _).block ≠ _; rw [add_block]; exact hn199_0) | exact hn199_0) (.string (rdOf ByteArray.empty t191 0))).trans hx199_0; replace hx199_0 := (cell_far (p := ⟨g, 1, none⟩) (by first | (rw [add_block]; exact hn199_1) | (show (Addr.add _ _).block ≠ _; rw [add_block]; exact hn199_1) | exact hn199_1) (.string (rdOf ByteArray.empty t191 1))).trans hx199_0; clear hn199_0 hn199_1; replace p199 := eq_true p199; replace q199 := eq_true q199) | (go_at_call 122; (with_reducible refine (spec_l3Target.calls kj3 (rdOf ByteArray.empty t191 1) t200 _ A15.1).mono ?_); rintro e w' ⟨rfl, ⟨nd, rfl⟩⟩))
       go_ret
       exact ⟨q7_, q6_, q12_, q9_⟩
      ·replace c14 := Bool.eq_false_iff.mpr c14; subst c14; rw [if_neg (show ¬ (false = true) by decide)] at H; simp only [Option.some.injEq, Prod.mk.injEq] at H; obtain ⟨rfl, rfl, rfl, rfl, rfl, rfl, rfl, rfl⟩ := H; obtain ⟨Ao18, co18, eo18⟩ := Kd.R_slice HO_5.1; subst eo18; have p195 : 0 ≤ (0 : Int) := (by omega); have q195 : 0 < (t191.length : Int) := of_decide_eq_true q4_; obtain ⟨ad195, e195, hx195_0⟩ := Kd.at_string (Kd.R_reads' HO_5.1).2.2 0 p195 q195; cases e195
       have qi195 : (0 < t191.length) = True := eq_true (by omega); (try rw [show ((0 : Int)).toNat = 0 from rfl] at hx195_0); (try rw [Addr.add_zero'] at hx195_0); replace p195 := eq_true p195; replace q195 := eq_true q195; obtain ⟨ASz19_2, cSz19_2, ASz19_6, cSz19_6, HGz19, hgz19, HSz19_2, HSz19_6⟩ := HI0.1; have hcz19 := cel7 HGz19; clear HGz19 hgz19; have p196 : 0 ≤ (1 : Int) := (by omega); have q196 : 1 < (t191.length : Int) := of_decide_eq_true q4_; obtain ⟨ad196, e196, hx196_0⟩ := Kd.at_string (Kd.R_reads' HO_5.1).2.2 1 p196 q196; obtain rfl : ad195 = ad196 := (by injection e196); (try simp only [show (1 : Int).toNat = 1 from rfl, Nat.reduceMul, Nat.reduceEqDiff, Go.Addr.add, ↓reduceIte] at hx196_0); have qi196 : (1 < t191.length) = True := eq_true (by omega); (try rw [show ((1 : Int)).toNat = 1 from rfl] at hx196_0); have hn196_0 : ad195.block ≠ g := Kd.own_blk (IsS107.own_ne HI0.1 HO_5.1 (by decide)); replace hx196_0 := (cell_far (p := ⟨g, 0, none⟩) q188_ (.string (rdOf ByteArray.empty t191 0))).trans hx196_0; clear hn196_0; replace p196 := eq_true p196; replace q196 := eq_true q196; have p197 : 0 ≤ (0 : Int) := (by omega); have q197 : 0 < (t191.length : Int) := of_decide_eq_true q4_; obtain ⟨ad197, e197, hx197_0⟩ := Kd.at_string (Kd.R_reads' HO_5.1).2.2 0 p197 q197; obtain rfl : ad195 = ad197 := (by injection e197); have qi197 : (0 < t191.length) = True := eq_true (by omega); (try rw [show ((0 : Int)).toNat = 0 from rfl] at hx197_0); (try rw [Addr.add_zero'] at hx197_0); have hn197_0 : ad195.block ≠ g := Kd.own_blk (IsS107.own_ne HI0.1 HO_5.1 (by decide)); have hn197_1 : ad195.block ≠ g := Kd.own_blk (IsS107.own_ne HI0.1 HO_5.1 (by decide)); replace hx197_0 := (cell_far (p := ⟨g, 0, none⟩) q187_ (.string (rdOf ByteArray.empty t191 0))).trans hx197_0; replace hx197_0 := (cell_far (p := ⟨g, 1, none⟩) q186_ (.string (rdOf ByteArray.empty t191 1))).trans hx197_0; clear hn197_0 hn197_1; replace p197 := eq_true p197; replace q197 := eq_true q197; go_wp2_with (first | ((with_reducible refine gate_callee (f := 121) rfl ?_); refine goesL_ (some 34) rfl rfl Tryz.func121 (by kernel_rfl) rfl #[.string (rdOf ByteArray.empty t191 0)] rfl q3_ ?_; (with_reducible refine (spec_l3Method.calls kj3 (rdOf ByteArray.empty t191 0) false _ A13.1).mono ?_); rintro e w' ⟨rfl, ⟨nd, rfl⟩⟩; refine ⟨_, rfl, ?_⟩))
       go_ret
       exact ⟨q7_, q6_, q12_, q9_⟩
     ·rw [if_neg c12] at H; exact absurd H (by simp)
    ·rw [if_neg c11] at H; exact absurd H (by simp)

def spec_Lower.l0 : Nat → ByteArray → List Int → Int → Option (ByteArray)
 | 0, _, _, _ => none
 | k + 1, x0, x3, x4 => if x4 < (x0.size : Int) then (if 0 ≤ x4 then ((spec_l1Large.f (bt x0 x4)).bind fun t204 => (if t204 = true then (if x3.length < 140737488355328 then (spec_Lower.l0 k x0 (x3 ++ [((bt x0 x4) + 32) % 256]) (wrap64 (x4 + 1))) else (none)) else (if x3.length < 140737488355328 then (spec_Lower.l0 k x0 (x3 ++ [bt x0 x4]) (wrap64 (x4 + 1))) else (none)))) else (none)) else (some (strOfNums x3))
def spec_Lower.f (k : Nat) (a0 : ByteArray) : Option (ByteArray) := spec_Lower.l0 k a0 (([] : List Int)) 0

theorem spec_Lower.calls (k : Nat) (a0 : ByteArray) (r : ByteArray) (w : World) (h : spec_Lower.f k a0 = some r) :
  Calls Tryz.prog 137 #[.string a0] w fun e w' => e = .returned (.string r) ∧ Below w.heap.size w w' := by
 have HB := aK (Below.refl w.heap.size w); have H : (spec_Lower.l0 k a0 (([] : List Int)) 0) = some r := h; clear h; (first | (with_reducible replace H := oS H; obtain ⟨y201, Ny201, H⟩ := H) | (generalize hy_ : (([] : List Int) : List Int) = y201 at H; have Ny201 := aK hy_.symm; clear hy_)); (try dsimp only at H); have H' := aK H; clear H; go_enter Tryz.func137, Tryz.ntmps137
 go_wp2_with (first | ((with_reducible refine gate_dst (N := 6) rfl ?_); refine Kd.R_lit (Kd.int .u8) _ 5 ?hg (N := 6) ?hd (xs := ([] : List Int)) (inner := []) (ok := fun _ => True) (okp := fun _ => True) ?hr ?hp (fun _ hk => hk) trivial (Below.refl _ _) (Nat.le_refl _) (by simp) ?_; (case hd => rfl); (case hg => rfl); (case hr => exact q28_); (case hp => exact q182_); intro v202 w2 ho3 hb hg_ hnew_; clear hg_ hnew_; (first | rw [← Ny201.1] at ho3 | (simp only [Int.reduceToNat] at ho3; rw [← Ny201.1] at ho3)); have HO203 := aK (Kd.R_lower ho3 (below_size q1_)); replace HB := aK (below_step q1_ hb); clear hb ho3))
 go_loopg [3, 4] k (fun kq v3 v4 w' => ∃ (x3_1 : List Int) (x4_1 : Int), v4 = .int .i64 x4_1 ∧ Aside0 (spec_Lower.l0 kq a0 x3_1 x4_1 = some r) ∧ Aside0 (kq ≤ k) ∧ Aside0 (Kd.R (Kd.int .u8) 5 w' w.heap.size (fun _ => True) v3 x3_1) ∧ Aside0 (Below w.heap.size w w'))
 case atStart => exact ⟨(y201), (0), q2_, H', ⟨Nat.le_refl _⟩, ⟨by (with_reducible repeat (first | apply rA_ | apply rN_ | apply rD_)); first | exact HO203.1 | exact Kd.R_mono HO203.1 (fun k_ h_ e_ => h_ (e_.trans (ob_len _ _ _ _ _)))⟩, ⟨q1_⟩⟩
 case round =>
  clear H'; (try clear c1); (try clear p2); obtain ⟨x3_1, x4_1, rfl, HA, HK1, HO_3, HB⟩ := hrel; cases gk with
  | zero => exact absurd HA.1 (by simp [spec_Lower.l0])
  | succ k1 =>
   have H := HA.1; clear HA; simp only [spec_Lower.l0] at H; by_cases c4 : x4_1 < (a0.size : Int)
   ·rw [if_pos c4] at H; have c4b0 := decide_eq_true c4; clear c4; by_cases c5 : 0 ≤ x4_1
    ·rw [if_pos c5] at H; have c5b0 := decide_eq_true c5; clear c5; replace H := oB H; obtain ⟨t204, A7, H⟩ := H; (try dsimp only at H); by_cases c8 : t204 = true
     ·subst c8; rw [if_pos rfl] at H; by_cases c9 : x3_1.length < 140737488355328
      ·rw [if_pos c9] at H; have LMc9 := aK c9; clear c9; (first | (with_reducible replace H := oS H; obtain ⟨y205, Ny205, H⟩ := H) | (generalize hy_ : (x3_1 ++ [((bt a0 x4_1) + 32) % 256] : List Int) = y205 at H; have Ny205 := aK hy_.symm; clear hy_)); (try dsimp only at H); have H' := aK H; clear H; have p6 : 0 ≤ (x4_1 : Int) := of_decide_eq_true q4_; have q6 : x4_1 < (a0.size : Int) := of_decide_eq_true q4_; have hx6 := bt_at a0 x4_1; replace p6 := eq_true p6; replace q6 := eq_true q6; go_wp2_with (first | ((with_reducible refine gate_callee (f := 146) rfl ?_); refine goesL_ (some 17) rfl rfl Tryz.func146 (by kernel_rfl) rfl #[.int .u8 (bt a0 x4_1)] rfl q3_ ?_; (with_reducible refine (spec_l1Large.calls (bt a0 x4_1) true _ A7.1).mono ?_); rintro e w' ⟨rfl, ⟨nd, rfl⟩⟩; refine ⟨_, rfl, ?_⟩) | ((with_reducible refine gate_builtin (b := .append) (xs := #[.tmp 20, .tmp 22]) rfl ?_); at_builtin; refine Kd.R_append (Kd.int .u8) (w0 := w) w.heap.size rfl (.tmp 20) (.tmp 22) 22 5 (.int .u8 0) 1 rfl Tryz.underlying22 info5 rfl (by decide) (by omega) u3 x3_1 (((bt a0 x4_1) + 32) % 256) [.int .u8 (((bt a0 x4_1) + 32) % 256)] (fun _ => True) (fun _ => False) rfl rfl ?aP (fun _ hk => hk.elim) ?aF ?aO ?aB ?aS ?aL ?_; (case aP => exact rfl); (case aB => exact q1_); (case aF => exact q100_); (case aO => exact q81_); (case aS => exact q198_); (case aL => have := LMc9.1; omega); intro v206 w10 ho hb hg hat; rw [← Ny205.1] at ho; replace HB := aK (hb); have HO207 := aK (ho); clear HO_3; clear ho hb hg hat))
       go_roundg k1
       case measure => have := HK1.1; omega
       case rel => exact ⟨(y205), (wrap64 (x4_1 + 1)), q2_, H', ⟨q64_⟩, ⟨by (with_reducible repeat (first | apply rA_ | apply rN_ | apply rD_)); first | exact HO207.1 | exact Kd.R_mono HO207.1 (fun k_ h_ e_ => h_ (e_.trans (ob_len _ _ _ _ _)))⟩, ⟨q1_⟩⟩
      ·rw [if_neg c9] at H; exact absurd H (by simp)
     ·replace c8 := Bool.eq_false_iff.mpr c8; subst c8; rw [if_neg (show ¬ (false = true) by decide)] at H; by_cases c11 : x3_1.length < 140737488355328
      ·rw [if_pos c11] at H; have LMc11 := aK c11; clear c11; (first | (with_reducible replace H := oS H; obtain ⟨y208, Ny208, H⟩ := H) | (generalize hy_ : (x3_1 ++ [bt a0 x4_1] : List Int) = y208 at H; have Ny208 := aK hy_.symm; clear hy_)); (try dsimp only at H); have H' := aK H; clear H; have p6 : 0 ≤ (x4_1 : Int) := of_decide_eq_true q4_; have q6 : x4_1 < (a0.size : Int) := of_decide_eq_true q4_; have hx6 := bt_at a0 x4_1; replace p6 := eq_true p6; replace q6 := eq_true q6; go_wp2_with (first | ((with_reducible refine gate_callee (f := 146) rfl ?_); refine goesL_ (some 17) rfl rfl Tryz.func146 (by kernel_rfl) rfl #[.int .u8 (bt a0 x4_1)] rfl q3_ ?_; (with_reducible refine (spec_l1Large.calls (bt a0 x4_1) false _ A7.1).mono ?_); rintro e w' ⟨rfl, ⟨nd, rfl⟩⟩; refine ⟨_, rfl, ?_⟩) | ((with_reducible refine gate_builtin (b := .append) (xs := #[.tmp 20, .tmp 22]) rfl ?_); at_builtin; refine Kd.R_append (Kd.int .u8) (w0 := w) w.heap.size rfl (.tmp 20) (.tmp 22) 22 5 (.int .u8 0) 1 rfl Tryz.underlying22 info5 rfl (by decide) (by omega) u3 x3_1 (bt a0 x4_1) [.int .u8 (bt a0 x4_1)] (fun _ => True) (fun _ => False) rfl rfl ?aP (fun _ hk => hk.elim) ?aF ?aO ?aB ?aS ?aL ?_; (case aP => exact rfl); (case aB => exact q1_); (case aF => exact q100_); (case aO => exact q81_); (case aS => exact q198_); (case aL => have := LMc11.1; omega); intro v209 w12 ho hb hg hat; rw [← Ny208.1] at ho; replace HB := aK (hb); have HO210 := aK (ho); clear HO_3; clear ho hb hg hat))
       go_roundg k1
       case measure => have := HK1.1; omega
       case rel => exact ⟨(y208), (wrap64 (x4_1 + 1)), q2_, H', ⟨q64_⟩, ⟨by (with_reducible repeat (first | apply rA_ | apply rN_ | apply rD_)); first | exact HO210.1 | exact Kd.R_mono HO210.1 (fun k_ h_ e_ => h_ (e_.trans (ob_len _ _ _ _ _)))⟩, ⟨q1_⟩⟩
      ·rw [if_neg c11] at H; exact absurd H (by simp)
    ·rw [if_neg c5] at H; exact absurd H (by simp)
   ·rw [if_neg c4] at H; have c4b0 := decide_eq_false c4; clear c4; obtain rfl := Option.some.inj H; have hcv13 := own_string (P := Tryz.prog) Tryz.underlying22 Tryz.underlying5 Tryz.underlying9 (Kd.own_of_R HO_3.1); go_wp2
    go_ret
    exact ⟨q7_, q1_⟩

def spec_l1Blank.f (a0 : Int) : Option (Bool) := if a0 = 32 then (some true) else (some (a0 == 9))
theorem spec_l1Blank.calls (a0 : Int) (r : Bool) (w : World) (h : spec_l1Blank.f a0 = some r) :
  Calls Tryz.prog 159 #[.int .u8 a0] w fun e w' => e = .returned (.bool r) ∧ Drawn0 w w' := by
 have H : (if a0 = 32 then (some true) else (some (a0 == 9))) = some r := h; clear h; by_cases c2 : a0 = 32
 ·rw [if_pos c2] at H; have c2b0 := beq_iff_eq.mpr c2; have c2b1 : (a0 != 32) = false := bne_eq_false_iff_eq.mpr c2; clear c2; obtain rfl := Option.some.inj H; go_enter Tryz.func159, Tryz.ntmps159
  go_wp2
  go_ret
  exact ⟨q2_, q5_⟩
 ·rw [if_neg c2] at H; have c2b0 := beq_eq_false_iff_ne.mpr c2; have c2b1 : (a0 != 32) = true := bne_iff_ne.mpr c2; obtain rfl := Option.some.inj H; go_enter Tryz.func159, Tryz.ntmps159
  go_wp2
  go_ret
  exact ⟨q2_, q5_⟩

mutual
def spec_Trim.j1 : Nat → ByteArray → Option (ByteArray)
 | 0, _ => none
 | k + 1, x0 => spec_Trim.l1 k x0
def spec_Trim.l1 : Nat → ByteArray → Option (ByteArray)
 | 0, _ => none
 | k + 1, x0 => if (x0.size : Int) > 0 then (if 0 ≤ (wrap64 ((x0.size : Int) - 1)) then (if (wrap64 ((x0.size : Int) - 1)) < (x0.size : Int) then ((spec_l1Blank.f (bt x0 (wrap64 ((x0.size : Int) - 1)))).bind fun t212 => (if t212 = true then (if (wrap64 ((x0.size : Int) - 1)) ≤ (x0.size : Int) then (spec_Trim.l1 k (x0.extract 0 ((wrap64 ((x0.size : Int) - 1)) : Int).toNat)) else (none)) else (some x0))) else (none)) else (none)) else (some x0)
def spec_Trim.l0 : Nat → ByteArray → Option (ByteArray)
 | 0, _ => none
 | k + 1, x0 => if (x0.size : Int) > 0 then (if 0 < (x0.size : Int) then ((spec_l1Blank.f (bt x0 0)).bind fun t211 => (if t211 = true then (if 1 ≤ (x0.size : Int) then (spec_Trim.l0 k (x0.extract 1 x0.size)) else (none)) else (spec_Trim.j1 k x0))) else (none)) else (spec_Trim.j1 k x0)
end
def spec_Trim.f (k : Nat) (a0 : ByteArray) : Option (ByteArray) := spec_Trim.l0 k a0

theorem spec_Trim.calls (k : Nat) (a0 : ByteArray) (r : ByteArray) (w : World) (h : spec_Trim.f k a0 = some r) :
  Calls Tryz.prog 138 #[.string a0] w fun e w' => e = .returned (.string r) ∧ Drawn0 w w' := by
 have H : (spec_Trim.l0 k a0) = some r := h; clear h; have HC2 := aK H; clear H; go_enter Tryz.func138, Tryz.ntmps138
 go_upto_block 0 with (fail)
 go_cut [0] (fun v0 wc => ∃ (kq : Nat) (x0_1 : ByteArray), v0 = .string x0_1 ∧ Aside0 (spec_Trim.j1 kq x0_1 = some r) ∧ Aside0 (kq ≤ k) ∧ Drawn0 w wc)
 case first =>
  have H := HC2.1; clear HC2; have H' := aK H; clear H; go_wp2
  go_loopg [0] k (fun kq v0 w' => ∃ (x0_1 : ByteArray), v0 = .string x0_1 ∧ Aside0 (spec_Trim.l0 kq x0_1 = some r) ∧ Aside0 (kq ≤ k) ∧ Drawn0 w w')
  case atStart => exact ⟨(a0), q2_, H', ⟨Nat.le_refl _⟩, q5_⟩
  case round =>
   clear H'; (try clear c1); (try clear p2); obtain ⟨x0_1, rfl, HA, HK1, ⟨m1, rfl⟩⟩ := hrel; cases gk with
   | zero => exact absurd HA.1 (by simp [spec_Trim.l0])
   | succ k1 =>
    have H := HA.1; clear HA; simp only [spec_Trim.l0] at H; by_cases c3 : (x0_1.size : Int) > 0
    ·rw [if_pos c3] at H; have c3b0 : decide (0 < (x0_1.size : Int)) = true := decide_eq_true c3; have c3b1 : decide (0 < x0_1.size) = true := decide_eq_true (by omega); clear c3; (first | rw [c3b0] | rw [c3i0] | rw [c3b1] | (simp only [i64_w, i32_w]; rw [c3b0]) | skip); by_cases c4 : 0 < (x0_1.size : Int)
     ·rw [if_pos c4] at H; have c4b0 := decide_eq_true c4; have c4b1 : decide (0 < x0_1.size) = true := decide_eq_true (by omega); clear c4; replace H := oB H; obtain ⟨t211, A6, H⟩ := H; (try dsimp only at H); have HC7 := aK H; clear H; have p5 : 0 ≤ (0 : Int) := (by omega); have q5 : 0 < x0_1.size := (by have : (0 : Int) < (x0_1.size : Int) := of_decide_eq_true q4_; omega); have hx5 : ∀ h : 0 < x0_1.size, ((x0_1[0]'h).toNat : Int) = bt x0_1 0 := bt_at x0_1 0; clear p5; have qi5 : (0 < (x0_1.size : Int)) = True := eq_true (of_decide_eq_true q4_); replace q5 := eq_true q5; go_upto_if 10 with (first | (go_at_call 159; (with_reducible refine (spec_l1Blank.calls (bt x0_1 0) t211 _ A6.1).mono ?_); rintro e w' ⟨rfl, ⟨nd, rfl⟩⟩))
      (try simp only [Act.put, sI, sZ, sS]); have H := HC7.1; clear HC7; by_cases c8 : t211 = true
      ·subst c8; rw [if_pos rfl] at H; by_cases c9 : 1 ≤ (x0_1.size : Int)
       ·rw [if_pos c9] at H; have c9b0 := eq_true c9; have c9b1 := decide_eq_true c9; clear c9; have H' := aK H; clear H; go_wp2
        go_roundg k1
        case measure => have := HK1.1; omega
        case rel => exact ⟨(x0_1.extract 1 x0_1.size), q2_, H', ⟨q64_⟩, q5_⟩
       ·rw [if_neg c9] at H; exact absurd H (by simp)
      ·replace c8 := Bool.eq_false_iff.mpr c8; subst c8; rw [if_neg (show ¬ (false = true) by decide)] at H; have H' := aK H; clear H; go_wp2
       go_meet
       case rel => exact ⟨_, (x0_1), q2_, H', ⟨q65_⟩, q5_⟩
     ·rw [if_neg c4] at H; exact absurd H (by simp)
    ·rw [if_neg c3] at H; have c3b0 : decide (0 < (x0_1.size : Int)) = false := decide_eq_false c3; have c3b1 : decide (0 < x0_1.size) = false := decide_eq_false (by omega); clear c3; (first | rw [c3b0] | rw [c3i0] | rw [c3b1] | (simp only [i64_w, i32_w]; rw [c3b0]) | skip); have H' := aK H; clear H; go_wp2
     go_meet
     case rel => exact ⟨_, (x0_1), q2_, H', ⟨q65_⟩, q5_⟩
 case rest =>
  clear HC2; (try clear c1); (try clear p2); (try clear c3); (try clear c3b0); (try clear c3b1); (try clear c4); (try clear c4b0); (try clear c4b1); (try clear p5); (try clear q5); (try clear hx5); (try clear qi5); (try clear c8); (try clear c9); (try clear c9b0); (try clear c9b1); (try clear p2); (try clear p5); (try clear q5); obtain ⟨kq, x0_1, rfl, HA, HJ1, ⟨mc1, rfl⟩⟩ := hcut; cases kq with
  | zero => exact absurd HA.1 (by simp [spec_Trim.j1])
  | succ kj1 =>
   have H := HA.1; clear HA; simp only [spec_Trim.j1] at H; have H' := aK H; clear H; go_wp2
   go_loopg [0] kj1 (fun kq v0 w' => ∃ (x0_2 : ByteArray), v0 = .string x0_2 ∧ Aside0 (spec_Trim.l1 kq x0_2 = some r) ∧ Aside0 (kq ≤ kj1) ∧ Drawn0 w w')
   case atStart => exact ⟨(x0_1), q2_, H', ⟨Nat.le_refl _⟩, q5_⟩
   case round =>
    clear H'; (try clear c1); (try clear p2); (try clear c3); (try clear c3b0); (try clear c3b1); (try clear c4); (try clear c4b0); (try clear c4b1); (try clear p5); (try clear q5); (try clear hx5); (try clear qi5); (try clear c8); (try clear c9); (try clear c9b0); (try clear c9b1); (try clear p2); (try clear p5); (try clear q5); obtain ⟨x0_2, rfl, HA, HK2, ⟨m2, rfl⟩⟩ := hrel; cases gk with
    | zero => exact absurd HA.1 (by simp [spec_Trim.l1])
    | succ k2 =>
     have H := HA.1; clear HA; simp only [spec_Trim.l1] at H; by_cases c10 : (x0_2.size : Int) > 0
     ·rw [if_pos c10] at H; have c10b0 : decide (0 < (x0_2.size : Int)) = true := decide_eq_true c10; have c10b1 : decide (0 < x0_2.size) = true := decide_eq_true (by omega); clear c10; obtain ⟨ji11, hji11⟩ : ∃ j_ : Int, (wrap64 ((x0_2.size : Int) - 1)) = j_ := ⟨_, rfl⟩; replace H : (if 0 ≤ (ji11) then (if (ji11) < (x0_2.size : Int) then ((spec_l1Blank.f (bt x0_2 (ji11))).bind fun t212 => (if t212 = true then (if (ji11) ≤ (x0_2.size : Int) then (spec_Trim.l1 k2 (x0_2.extract 0 ((ji11) : Int).toNat)) else (none)) else (some x0_2))) else (none)) else (none)) = some r := by first | (rw [hji11] at H; exact H) | (simp only [hji11] at H ⊢; exact H)
      have hji11w : (IntKind.i64.wrap ((x0_2.size : Int) - 1)) = ji11 := (i64_w _).trans hji11; by_cases c12 : 0 ≤ (ji11)
      ·rw [if_pos c12] at H; have c12b0 := decide_eq_true c12; clear c12; by_cases c13 : (ji11) < (x0_2.size : Int)
       ·rw [if_pos c13] at H; have c13b0 := decide_eq_true c13; clear c13; replace H := oB H; obtain ⟨t212, A15, H⟩ := H; (try dsimp only at H); have HC16 := aK H; clear H; have p14 : 0 ≤ ((ji11) : Int) := of_decide_eq_true q4_; have q14 : (ji11) < (x0_2.size : Int) := of_decide_eq_true q4_; have hx14 := bt_at x0_2 (ji11); replace p14 := eq_true p14; replace q14 := eq_true q14; go_upto_if 23 with (first | (go_at_call 159; (with_reducible refine (spec_l1Blank.calls (bt x0_2 (ji11)) t212 _ A15.1).mono ?_); rintro e w' ⟨rfl, ⟨nd, rfl⟩⟩))
        (try simp only [Act.put, sI, sZ, sS]); have H := HC16.1; clear HC16; by_cases c17 : t212 = true
        ·subst c17; rw [if_pos rfl] at H; have c18b0 := eq_true (of_decide_eq_true q4_ : 0 ≤ (ji11)); by_cases c19 : (ji11) ≤ (x0_2.size : Int)
         ·rw [if_pos c19] at H; have c19b0 := eq_true c19; have c19b1 := decide_eq_true c19; clear c19; have H' := aK H; clear H; go_wp2
          go_roundg k2
          case measure => have := HJ1.1; have := HK2.1; omega
          case rel => exact ⟨(x0_2.extract 0 ((ji11) : Int).toNat), q185_, H', ⟨by have := HJ1.1; have := HK2.1; omega⟩, q5_⟩
         ·rw [if_neg c19] at H; exact absurd H (by simp)
        ·replace c17 := Bool.eq_false_iff.mpr c17; subst c17; rw [if_neg (show ¬ (false = true) by decide)] at H; obtain rfl := Option.some.inj H; go_wp2
         go_ret
         exact ⟨q185_, q5_⟩
       ·rw [if_neg c13] at H; exact absurd H (by simp)
      ·rw [if_neg c12] at H; exact absurd H (by simp)
     ·rw [if_neg c10] at H; have c10b0 : decide (0 < (x0_2.size : Int)) = false := decide_eq_false c10; have c10b1 : decide (0 < x0_2.size) = false := decide_eq_false (by omega); clear c10; obtain rfl := Option.some.inj H; go_wp2
      go_ret
      exact ⟨q2_, q5_⟩

def spec_l1Small.f (a0 : Int) : Option (Bool) := (spec_l1In.f (wrap64 (a0)) 97 122).bind fun t213 => (some t213)
theorem spec_l1Small.calls (a0 : Int) (r : Bool) (w : World) (h : spec_l1Small.f a0 = some r) :
  Calls Tryz.prog 160 #[.int .u8 a0] w fun e w' => e = .returned (.bool r) ∧ Drawn0 w w' := by
 have H : ((spec_l1In.f (wrap64 (a0)) 97 122).bind fun t213 => (some t213)) = some r := h; clear h; replace H := oB H; obtain ⟨t213, A2, H⟩ := H; (try dsimp only at H); obtain rfl := Option.some.inj H; go_enter Tryz.func160, Tryz.ntmps160
 go_wp2_with (first | ((with_reducible refine gate_callee (f := 84) rfl ?_); refine goesL_ (some 5) rfl rfl Tryz.func84 (by kernel_rfl) rfl #[.int .i64 (wrap64 (a0)), .int .i64 97, .int .i64 122] rfl q3_ ?_; (with_reducible refine (spec_l1In.calls (wrap64 (a0)) 97 122 t213 _ A2.1).mono ?_); rintro e w' ⟨rfl, ⟨nd, rfl⟩⟩; refine ⟨_, rfl, ?_⟩))
 go_ret
 exact ⟨q2_, q5_⟩

end Go.Proofs.YtaajhdljdmbhhaaGreatDoor.GFnExactFeedAll
