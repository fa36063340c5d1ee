/- Trees of the call's own whose subtrees lie apart, at every level: a slice's kind whose rows are told as S. -/
import Derived.Test.YtaajhdljdmbhhaaWApart
import Derived.Test.YtaajhdljdmbhhaaWKept
namespace Go.Proofs.YtaajhdljdmbhhaaW.PrintWords
open Go.RowKit
namespace Kd
section
variable {α β : Type}
theorem S_imp {d d' : Kd α} (hs : d.sz = d'.sz) (h : ∀ w base ok x cs, d.M w base ok x cs → d'.M w base ok x cs) {e : Nat} {w : World} {base : Nat} {ok : Nat → Prop} {v : Value} {xs : List α} (hr : S d e w base ok v xs) : S d' e w base ok v xs := by
  obtain ⟨f, hr⟩ := hr
  exact ⟨f, R_imp (d := tag f d) (d' := tag f d') hs (fun w base ok x cs hp => h w base _ x.1 cs hp) hr⟩
/-- A slice whose elements' blocks lie apart. -/
def sliceS (e : Nat) (d : Kd α) : Kd (List α) where
  sz := 1
  E := e :: d.E
  K := (slice e d).K
  M := fun w base ok xs cs => ∃ v, cs = [v] ∧ S d e w base ok v xs
  K_len := (slice e d).K_len
  K_one := (slice e d).K_one
  K_below := (slice e d).K_below
  K_of_M := by
    rintro w base ok x cs ⟨v, rfl, h⟩
    exact (slice e d).K_of_M (show (slice e d).M w base ok x [v] from ⟨v, rfl, S_R h⟩)
  M_mono := by
    rintro w base ok ok' x cs hok ⟨v, rfl, h⟩
    exact ⟨v, rfl, S_mono h hok⟩
  M_bound := by
    rintro w base ok x cs ⟨v, rfl, h⟩
    exact ⟨v, rfl, S_bound h⟩
  M_move := by
    rintro w w1 base ok x cs hm ⟨v, rfl, h⟩
    exact ⟨v, rfl, S_move h hm⟩
  M_lower := by
    rintro w base base' ok x cs hb ⟨v, rfl, h⟩
    exact ⟨v, rfl, S_lower h hb⟩
theorem mono_sliceS (e : Nat) {G : Kd α → Kd β} (hG : Mono G) : Mono (fun d => sliceS e (G d)) := by
  refine ⟨fun _ _ _ => rfl, ?_, ?_⟩
  · rintro d d' hs h w x cs ⟨A, c, rfl, hl, hr⟩
    exact ⟨A, c, rfl, hl, C_imp (hG.sz d d' hs) (hG.K d d' hs h) hr⟩
  · rintro d d' hs h w base ok x cs ⟨v, rfl, hr⟩
    exact ⟨v, rfl, S_imp (hG.sz d d' hs) (hG.M d d' hs h) hr⟩
theorem sub_sliceS {E : List Nat} (e : Nat) {G : Kd α → Kd β} (he : e ∈ E) (hG : Sub G E) : Sub (fun d => sliceS e (G d)) E := fun d h q hq => by
  rcases List.mem_cons.1 hq with rfl | hq
  · exact he
  · exact hG d h q hq
end
section
variable {α : Type} {F : Kd α → Kd α} {sz : Nat} {E : List Nat} {hs : ∀ n, (upto F sz E n).sz = sz} {hE : ∀ n q, q ∈ (upto F sz E n).E → q ∈ E}
theorem fix_S {n : Nat} {e : Nat} {w : World} {base : Nat} {ok : Nat → Prop} {v : Value} {xs : List α} (h : S (upto F sz E n) e w base ok v xs) : S (fix F sz E hs hE) e w base ok v xs := S_imp (d' := fix F sz E hs hE) (hs n) (fun w base ok x cs hp => (⟨n, hp⟩ : ∃ n, (upto F sz E n).M w base ok x cs)) h
theorem fix_S_back (hm : Mono F) {e : Nat} {w : World} {base : Nat} {ok : Nat → Prop} {v : Value} {xs : List α} (h : S (fix F sz E hs hE) e w base ok v xs) : ∃ n, S (upto F sz E n) e w base ok v xs := by
  obtain ⟨f, h0, inner, ho, hr⟩ := h
  obtain ⟨N, hN⟩ := reps_bounded (R := fun n (p : α × Nat) c => (upto F sz E n).M w base (fun k => (ok k ∧ some k ≠ v.ownBlock) ∧ f k = p.2) p.1 c) (fun n m p c hnm hp => upto_M_le hm hs hnm hp) hr
  refine ⟨N, f, h0, inner, ?_, ?_⟩
  · show w.ownsRowM base e (upto F sz E N).sz v _ inner
    rw [hs N]; exact ho
  · show Reps _ (upto F sz E N).sz _ inner
    rw [hs N]; exact hN
theorem upto_S_le (hm : Mono F) (hs : ∀ n, (upto F sz E n).sz = sz) {n m : Nat} (hnm : n ≤ m) {e : Nat} {w : World} {base : Nat} {ok : Nat → Prop} {v : Value} {xs : List α} (h : S (upto F sz E n) e w base ok v xs) : S (upto F sz E m) e w base ok v xs := S_imp (by rw [hs n, hs m]) (fun _ _ _ _ _ hp => upto_M_le hm hs hnm hp) h
end
section
variable {α : Type} {d : Kd α} {e : Nat} {W w1 : World} {base n : Nat} {ok : Nat → Prop} {u v : Value} {xs : List α}
theorem nbOfK {S2 : Nat → Prop} (_h : Kept W w1 S2) : ∃ n : Nat, n = W.heap.size := ⟨_, rfl⟩
theorem nbOf (_h : Below W.heap.size W w1) : ∃ n : Nat, n = W.heap.size := ⟨_, rfl⟩
/-- What was there at a call is elder than all that is made since. -/
theorem sOld (h : S d e W base ok u xs) (hb : Below W.heap.size W w1) (hn : n = W.heap.size) : S d e w1 base (fun k => ok k ∧ k < n) u xs := by
  subst hn; exact S_old h hb
theorem sNew (h : S d e w1 W.heap.size ok v xs) (hn : n = W.heap.size) : S d e w1 W.heap.size (fun k => ok k ∧ n ≤ k) v xs := by
  subst hn; exact S_mono (S_bound h) (fun k hk => ⟨hk.1, hk.2.1⟩)
end
end Kd
end Go.Proofs.YtaajhdljdmbhhaaW.PrintWords
