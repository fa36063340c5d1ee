-- by gprint.py (this session's program over the kit's print.py) (a twelfth state) out of the translation. Not trusted: Lean checks it.
import Derived.Test.YtfncjddolbghlaaGreatDoorProg
import Derived.Below
import Derived.Deep.Draws
import Derived.Deep.AppendLies
import Derived.Maps.AppendAt
import Derived.OwnWalk
import Derived.Laws.BytesArg
import Derived.Laws.MakeOwn
import Derived.Laws.OwnMore
import Derived.Deep.OwnRows
import Derived.Tactics
import Derived.Lib.ConvBytes
import Derived.Laws.Slices
import Derived.WalkKit
import Derived.KernelRfl
import Derived.RowKit3
import Derived.Deep.LoopGhost
import Derived.Deep.QuietTactic
import Derived.BigQuiet
import Derived.WideLaws
import Derived.Deep.DeepCutAuto
import Derived.Deep.CutBlock
import Derived.Deep.RegionHeld3
import Derived.Laws.Rows
import Derived.Lib.AppendStr
import Derived.ArgAppend
import Derived.Laws.IdiomCopy
import Derived.OrdersHeld
import Derived.Laws.BitsLemmas
import Derived.RowKit
import Derived.Test.YtfncjddolbghlaaGreatDoorShelf
import Derived.Test.YtfncjddolbghlaaGreatDoorMStep
import Derived.Lib.AppendIntMem
import Derived.Lib.LaidTab
import Derived.Stop.LaidErr
import Derived.Lib.ItoaMem
import Derived.Lib.Walk
import Derived.Lib.Hide
import Derived.Laws.Bits64b
import Derived.BigCall
import Derived.BigGuard
import Derived.RegionTactic
import Derived.Lib.AtoiAllCases
import Derived.Shelf.Strconv.ErrVarAll
import Derived.Test.YtfncjddolbghlaaGreatDoorWWords
import Derived.Test.YtfncjddolbghlaaGreatDoorWLast
import Derived.Test.YtfncjddolbghlaaGreatDoorWTab
import Derived.Test.YtfncjddolbghlaaGreatDoorWFour
import Derived.Test.YtfncjddolbghlaaGreatDoorWQPut
import Derived.Test.YtfncjddolbghlaaGreatDoorWApart
import Derived.Test.YtfncjddolbghlaaGreatDoorWArr
import Derived.Test.YtfncjddolbghlaaGreatDoorWZeros
import Derived.Test.YtfncjddolbghlaaGreatDoorWFoot
import Derived.Test.YtfncjddolbghlaaGreatDoorWKept
import Derived.Test.YtfncjddolbghlaaGreatDoorWShare
import Derived.Test.YtfncjddolbghlaaGreatDoorWN
import Derived.Test.YtfncjddolbghlaaGreatDoorWFootNe
import Derived.Test.YtfncjddolbghlaaGreatDoorWAt
import Derived.Test.YtfncjddolbghlaaGreatDoorWEqStruct
import Derived.Test.YtfncjddolbghlaaGreatDoorWRepsOne
import Derived.Test.YtfncjddolbghlaaGreatDoorWInv
import Derived.Test.YtfncjddolbghlaaGreatDoorWInvWords
import Derived.Test.YtfncjddolbghlaaGreatDoorWGuard
import Derived.Test.YtfncjddolbghlaaGreatDoorWNEv
import Derived.Test.YtfncjddolbghlaaGreatDoorWMore
namespace Go.Proofs.YtfncjddolbghlaaGreatDoor.GFnMore
open Go.RowKit Go.Proofs.YtfncjddolbghlaaGreatDoorW.PrintWords Go.Proofs.YtfncjddolbghlaaGreatDoorW.PrintLast Go.Proofs.YtfncjddolbghlaaGreatDoorW.PrintMore
theorem q128_ {p : Prop} (h : p := by have := HK1.1; have := HJ1.1; omega) : p := h
theorem q127_ {p : Prop} (h : p := by (with_reducible repeat (first | refine blk_drewN ?_ _ | refine blk_drew ?_ | refine blk_alloc ?_ _)); exact BK186.1) : p := h
theorem q126_ {p : Prop} (h : p := by first | rfl | (simp; done) | (simp only [← hji10] <;> (first | rfl | simp)) | (simp [*]; done) | (simp [empty_ne, *]; done)) : p := h
theorem q125_ {p : Prop} (h : p := by have h_ := c5; simp only [ByteArray.size_append] at h_; exact h_) : p := h
theorem q124_ {p : Prop} (h : p := by have h_ := c6; simp only [ByteArray.size_append] at h_; exact h_) : p := h
theorem q123_ {p : Prop} (h : p := by exact (Reps.none _ _)) : p := h
theorem q122_ {p : Prop} (h : p := by rw [List.length_drop, List.length_take]; have h_ : ((wrap64 (x3_1 + 4)) : Int) ≤ (l0.length : Int) := of_decide_eq_true q4_; omega) : p := h
theorem q121_ {p : Prop} (h : p := by exact HC0.1) : p := h
theorem q120_ {p : Prop} (h : p := by repeat (first | exact (Kd.C_below HR0_2.1 q62_) | (with_reducible refine Kd.C_alloc ?_ _) | (with_reducible refine Kd.C_drewN ?_ _) | (with_reducible refine Kd.C_drew ?_))) : p := h
theorem q119_ {p : Prop} (h : p := by repeat (first | exact (Kd.R_reads' HO511.1).2.2 | (with_reducible refine Kd.C_alloc ?_ _) | (with_reducible refine Kd.C_drewN ?_ _) | (with_reducible refine Kd.C_drew ?_))) : p := h
theorem q118_ {p : Prop} (h : p := by repeat (first | exact (Kd.R_reads' HO539.1).2.2 | (with_reducible refine Kd.C_alloc ?_ _) | (with_reducible refine Kd.C_drewN ?_ _) | (with_reducible refine Kd.C_drew ?_))) : p := h
theorem q117_ {p : Prop} (h : p := by repeat (first | exact (Kd.C_below HR1_2.1 HB.1) | (with_reducible refine Kd.C_alloc ?_ _) | (with_reducible refine Kd.C_drewN ?_ _) | (with_reducible refine Kd.C_drew ?_))) : p := h
theorem q116_ {p : Prop} (h : p := by rw [hg]; exact (keep_size (w := w) (g := g) (row := none) q6_)) : p := h
theorem q115_ {p : Prop} (h : p := by (with_reducible repeat (first | apply Kd.R_alloc | apply Kd.R_drewN | apply Kd.R_drew)); first | exact HO251.1 | exact Kd.R_mono HO251.1 (fun k_ h_ e_ => h_ (e_.trans (ob_len _ _ _ _ _)))) : p := h
theorem q114_ {p : Prop} (h : p := by simp only [putAll, Act.put, List.setIfInBounds_toArray, List.set_cons_zero, List.set_cons_succ]) : p := h
theorem q113_ {p : Prop} (h : p := by (with_reducible repeat (first | apply Kd.R_alloc | apply Kd.R_drewN | apply Kd.R_drew)); exact HSz23_2) : p := h
theorem q112_ {p : Prop} (h : p := by (with_reducible repeat (first | apply Kd.R_alloc | apply Kd.R_drewN | apply Kd.R_drew)); exact HO235.1) : p := h
theorem q111_ {p : Prop} (h : p := by (with_reducible repeat (first | apply Kd.R_alloc | apply Kd.R_drewN | apply Kd.R_drew)); exact HO304.1) : p := h
theorem q110_ {p : Prop} (h : p := by (with_reducible repeat (first | apply Kd.R_alloc | apply Kd.R_drewN | apply Kd.R_drew)); exact HO418.1) : p := h
theorem q109_ {p : Prop} (h : p := by (with_reducible repeat (first | apply Kd.R_alloc | apply Kd.R_drewN | apply Kd.R_drew)); exact HO531.1) : p := h
theorem q108_ {p : Prop} (h : p := by rw [hg]; exact (below_size q37_)) : p := h
theorem q107_ {p : Prop} (h : p := by (try simp only [hl3_1]); (with_reducible repeat (first | apply Kd.R_alloc | apply Kd.R_drewN | apply Kd.R_drew)); first | exact HO_3.1 | exact Kd.R_mono HO_3.1 (fun k_ h_ e_ => h_ (e_.trans (ob_len _ _ _ _ _)))) : p := h
theorem q106_ {p : Prop} (h : p := by exact (fun k_ hk => Kd.fresh' (Kd.R_lt q12_) k_ hk)) : p := h
theorem q105_ {p : Prop} (h : p := by (with_reducible repeat (first | refine blk_drewN ?_ _ | refine blk_drew ?_ | refine blk_alloc ?_ _)); exact BK165.1) : p := h
theorem q104_ {p : Prop} (h : p := by exact (keep_size (w := w) (g := g) (row := none) q5_)) : p := h
theorem q103_ {p : Prop} (h : p := by exact HC0_2.1) : p := h
theorem q102_ {p : Prop} (h : p := by (with_reducible repeat (first | apply Kd.R_alloc | apply Kd.R_drewN | apply Kd.R_drew)); exact Kd.R_mono HO418.1 (fun _ hk => hk.2)) : p := h
theorem q101_ {p : Prop} (h : p := by (with_reducible repeat (first | apply Kd.R_alloc | apply Kd.R_drewN | apply Kd.R_drew)); exact Kd.R_mono HO422.1 (fun _ hk => hk.2)) : p := h
theorem q100_ {p : Prop} (h : p := by (with_reducible repeat (first | apply Kd.R_alloc | apply Kd.R_drewN | apply Kd.R_drew)); exact Kd.R_mono HO_4.1 (fun _ hk => hk.2)) : p := h
theorem q99_ {p : Prop} (h : p := by rw [hg]; exact (below_size q14_)) : p := h
theorem q98_ {p : Prop} (h : p := by exact (by (with_reducible repeat (first | apply Kd.R_alloc | apply Kd.R_drewN | apply Kd.R_drew)); exact Kd.R_mono HO288.1 (fun _ hk => hk.2))) : p := h
theorem q97_ {p : Prop} (h : p := by repeat (first | exact q45_ | (with_reducible refine Kd.C_alloc ?_ _) | (with_reducible refine Kd.C_drewN ?_ _) | (with_reducible refine Kd.C_drew ?_))) : p := h
theorem q96_ {p : Prop} (h : p := by repeat (first | exact HR0.1 | (with_reducible refine Kd.C_alloc ?_ _) | (with_reducible refine Kd.C_drewN ?_ _) | (with_reducible refine Kd.C_drew ?_))) : p := h
theorem q95_ {p : Prop} (h : p := by (try simp only [List.map_toArray, List.map_cons, List.map_nil]); first | done | (simp only [hji2]; rfl) | rfl | (simp only [List.length_drop, List.length_take]; rfl)) : p := h
theorem q94_ {p : Prop} (h : p := by first | rfl | (simp [errW_none, errW_some] <;> rfl) | (simp only [← hji2]; first | rfl | (simp [errW_none, errW_some] <;> rfl)) | (simp [*, errW_none, errW_some] <;> rfl)) : p := h
theorem q93_ {p : Prop} (h : p := by (with_reducible repeat (first | refine blk_drewN ?_ _ | refine blk_drew ?_ | refine blk_alloc ?_ _)); exact BK535.1) : p := h
theorem q92_ {p : Prop} (h : p := by rw [List.length_take]; have h_ : ((ji11) : Int) ≤ (l0.length : Int) := of_decide_eq_true q4_; omega) : p := h
theorem q91_ {p : Prop} (h : p := by (with_reducible repeat (first | apply Kd.R_alloc | apply Kd.R_drewN | apply Kd.R_drew)); exact HO333.1) : p := h
theorem q90_ {p : Prop} (h : p := by (with_reducible repeat (first | apply Kd.R_alloc | apply Kd.R_drewN | apply Kd.R_drew)); exact HO213.1) : p := h
theorem q89_ {p : Prop} (h : p := by (with_reducible repeat (first | apply Kd.R_alloc | apply Kd.R_drewN | apply Kd.R_drew)); exact HO251.1) : p := h
theorem q88_ {p : Prop} (h : p := by (with_reducible repeat (first | apply Kd.R_alloc | apply Kd.R_drewN | apply Kd.R_drew)); exact HO258.1) : p := h
theorem q87_ {p : Prop} (h : p := by (with_reducible repeat (first | apply Kd.R_alloc | apply Kd.R_drewN | apply Kd.R_drew)); exact HO464.1) : p := h
theorem q86_ {p : Prop} (h : p := by (with_reducible repeat (first | apply Kd.R_alloc | apply Kd.R_drewN | apply Kd.R_drew)); exact Kd.R_mono HO_4.1 (fun _ hk => ⟨trivial, hk⟩)) : p := h
theorem q85_ {p : Prop} (h : p := by have := HK1.1; omega) : p := h
theorem q84_ {p : Prop} (h : p := by have := HK1.1; first | omega | exact Nat.le_refl _) : p := h
theorem q83_ {p : Prop} (h : p := by rw [hg]; exact Nat.ne_of_gt (blk_lt (g := gb505) (o := .cells #[.string a0_0, .string a0_1, .slice A0_2 l0_2.length c0_2, .string a0_3] 64 (0, 0)) q46_)) : p := h
theorem q82_ {p : Prop} (h : p := by rw [hg]; exact Nat.ne_of_lt (blk_lt (g := gb505) (o := .cells #[.string a0_0, .string a0_1, .slice A0_2 l0_2.length c0_2, .string a0_3] 64 (0, 0)) q46_)) : p := h
theorem q81_ {p : Prop} (h : p := by (with_reducible repeat (first | apply Kd.R_alloc | apply Kd.R_drewN | apply Kd.R_drew)); exact (Kd.R_mono (Kd.R_far (p := ⟨gb255, 3, none⟩) (Kd.R_far (p := ⟨gb255, 2, none⟩) (Kd.R_far (p := ⟨gb255, 1, none⟩) (Kd.R_far (p := ⟨gb255, 0, none⟩) (Kd.R_types HO251.1 BK255.1 (by decide)) (fun _ hk => hk.2) (.string t247)) (fun _ hk => hk.2) (.string t248)) (fun _ hk => hk.2) (.slice Ao10 t249.length co10)) (fun _ hk => hk.2) (.string t252)) (fun _ h_ => h_.1))) : p := h
theorem q80_ {p : Prop} (h : p := by repeat (first | (with_reducible first | exact HB.1 | apply below_alloc | apply pw_below_drewN | apply below_drew1 | refine below_set ?_ GE186.1) | exact HB.1)) : p := h
theorem q79_ {p : Prop} (h : p := by (with_reducible repeat (first | apply Kd.R_alloc | apply Kd.R_drewN | apply Kd.R_drew)); exact HO229.1) : p := h
theorem q78_ {p : Prop} (h : p := by (with_reducible repeat (first | apply Kd.R_alloc | apply Kd.R_drewN | apply Kd.R_drew)); exact HO288.1) : p := h
theorem q77_ {p : Prop} (h : p := by first | exact Kd.R_nil _ _ _ _ _ | exact Kd.N_nil _ _ _ _ _ | exact Kd.V_nil _ _ _ _ _ | exact Kd.Q_nil _ _ _ _ _ | exact Kd.S_nil _ _ _ _ _) : p := h
theorem q76_ {p : Prop} (h : p := by repeat (first | (with_reducible exact HR435.1) | (with_reducible refine Kd.C_alloc ?_ _) | (with_reducible refine Kd.C_drewN ?_ _) | (with_reducible refine Kd.C_drew ?_) | exact HR435.1)) : p := h
theorem q75_ {p : Prop} (h : p := by repeat (first | (with_reducible first | exact HB.1 | apply below_alloc | apply pw_below_drewN | apply below_drew1 | refine below_set ?_ GE505.1 | refine below_set ?_ GE506.1) | exact HB.1)) : p := h
theorem q74_ {p : Prop} (h : p := by (with_reducible repeat (first | refine blk_drewN ?_ _ | refine blk_drew ?_ | refine blk_alloc ?_ _)); exact BK226.1) : p := h
theorem q73_ {p : Prop} (h : p := by first | omega | exact Nat.le_refl _) : p := h
theorem q72_ {p : Prop} (h : p := by first | (with_reducible exact hG) | (refine GOK_below hG ?_; (repeat (first | (with_reducible first | exact HB.1 | apply below_alloc | apply pw_below_drewN | apply below_drew1 | refine below_set ?_ GE415.1) | exact HB.1)); done) | (refine GOK_drawn hG ?_; (repeat (first | exact Drawn0.refl _ | apply Drawn0.step)); done) | exact hG) : p := h
theorem q71_ {p : Prop} (h : p := by (try simp only [List.map_toArray, List.map_cons, List.map_nil]); first | done | (simp only [hji11]; rfl) | rfl | (simp only [List.length_drop, List.length_take]; rfl)) : p := h
theorem q70_ {p : Prop} (h : p := by repeat (first | (with_reducible first | exact HBW.1 | apply below_alloc | apply pw_below_drewN | apply below_drew1) | exact HBW.1)) : p := h
theorem q69_ {p : Prop} (h : p := by first | rfl | (simp [errW_none, errW_some] <;> rfl) | (simp only [← hji11]; first | rfl | (simp [errW_none, errW_some] <;> rfl)) | (simp [*, errW_none, errW_some] <;> rfl)) : p := h
theorem q68_ {p : Prop} (h : p := by repeat (first | (with_reducible first | exact HI330.1 | apply IsS143.alloc | apply IsS143.drewN | apply IsS143.drew | apply IsS143.set_1 | apply IsS143.set_2) | exact HI330.1)) : p := h
theorem q67_ {p : Prop} (h : p := by rw [hg]; exact Nat.ne_of_gt (blk_lt (g := gb457) (o := .cells #[.string (⟨#[]⟩ : ByteArray), .string (⟨#[]⟩ : ByteArray), .slice none 0 0, .string (⟨#[]⟩ : ByteArray)] 64 (0, 0)) q23_)) : p := h
theorem q66_ {p : Prop} (h : p := by rw [hg]; exact Nat.ne_of_lt (blk_lt (g := gb457) (o := .cells #[.string (⟨#[]⟩ : ByteArray), .string (⟨#[]⟩ : ByteArray), .slice none 0 0, .string (⟨#[]⟩ : ByteArray)] 64 (0, 0)) q23_)) : p := h
theorem q65_ {p : Prop} (h : p := by (with_reducible repeat (first | apply Kd.R_alloc | apply Kd.R_drewN | apply Kd.R_drew)); exact HO295.1) : p := h
theorem q64_ {p : Prop} (h : p := by (with_reducible repeat (first | apply Kd.R_alloc | apply Kd.R_drewN | apply Kd.R_drew)); exact HO516.1) : p := h
theorem q63_ {p : Prop} (h : p := by repeat (first | (with_reducible exact HR526.1) | (with_reducible refine Kd.C_alloc ?_ _) | (with_reducible refine Kd.C_drewN ?_ _) | (with_reducible refine Kd.C_drew ?_) | exact HR526.1)) : p := h
theorem q62_ {p : Prop} (h : p := by repeat (first | (with_reducible first | exact HB.1 | apply below_alloc | apply pw_below_drewN | apply below_drew1 | refine below_set ?_ GE143.1) | exact HB.1)) : p := h
theorem q61_ {p : Prop} (h : p := by repeat (first | (with_reducible first | exact HB.1 | apply below_alloc | apply pw_below_drewN | apply below_drew1 | refine below_set ?_ GE415.1) | exact HB.1)) : p := h
theorem q60_ {p : Prop} (h : p := by (with_reducible repeat (first | apply Kd.R_alloc | apply Kd.R_drewN | apply Kd.R_drew)); exact HO_3.1) : p := h
theorem q59_ {p : Prop} (h : p := by (with_reducible repeat (first | apply Kd.R_alloc | apply Kd.R_drewN | apply Kd.R_drew)); exact HO298.1) : p := h
theorem q58_ {p : Prop} (h : p := by (with_reducible repeat (first | apply Kd.R_alloc | apply Kd.R_drewN | apply Kd.R_drew)); exact HO511.1) : p := h
theorem q57_ {p : Prop} (h : p := by repeat (first | (with_reducible first | exact HI481.1 | apply IsS143.alloc | apply IsS143.drewN | apply IsS143.drew | apply IsS143.set_1 | apply IsS143.set_2) | exact HI481.1)) : p := h
theorem q56_ {p : Prop} (h : p := by (with_reducible repeat (first | apply Kd.R_alloc | apply Kd.R_drewN | apply Kd.R_drew)); exact (Kd.R_mono (Kd.R_far (p := ⟨gb535, 3, none⟩) (Kd.R_far (p := ⟨gb535, 2, none⟩) (Kd.R_far (p := ⟨gb535, 1, none⟩) (Kd.R_far (p := ⟨gb535, 0, none⟩) (Kd.R_types HO511.1 BK535.1 (by decide)) (fun _ hk => hk.2) (.string t527)) (fun _ hk => hk.2) (.string t528)) (fun _ hk => hk.2) (.slice Ao28 t529.length co28)) (fun _ hk => hk.2) (.string t532)) (fun _ h_ => h_.1))) : p := h
theorem q55_ {p : Prop} (h : p := by repeat (first | (with_reducible exact HR308.1) | (with_reducible refine Kd.C_alloc ?_ _) | (with_reducible refine Kd.C_drewN ?_ _) | (with_reducible refine Kd.C_drew ?_) | exact HR308.1)) : p := h
theorem q54_ {p : Prop} (h : p := by repeat (first | (with_reducible first | exact HB.1 | apply below_alloc | apply pw_below_drewN | apply below_drew1 | refine below_set ?_ GE165.1) | exact HB.1)) : p := h
theorem q53_ {p : Prop} (h : p := by exact (Reps.one (show Kd.M (Kd.int .i64) _ _ _ 0 [.int .i64 0] from rfl) (Reps.one (show Kd.M (Kd.int .i64) _ _ _ 13 [.int .i64 13] from rfl) (Reps.one (show Kd.M (Kd.int .i64) _ _ _ 10 [.int .i64 10] from rfl) (Reps.one (show Kd.M (Kd.int .i64) _ _ _ 32 [.int .i64 32] from rfl) (Reps.one (show Kd.M (Kd.int .i64) _ _ _ 58 [.int .i64 58] from rfl) (Reps.one (show Kd.M (Kd.int .i64) _ _ _ 65 [.int .i64 65] from rfl) (Reps.one (show Kd.M (Kd.int .i64) _ _ _ 255 [.int .i64 255] from rfl) (Reps.none _ _))))))))) : p := h
theorem q52_ {p : Prop} (h : p := by first | exact Kd.own_blk (IsS113.own_ne HI423.1 HO_5.1 (by decide)) | (rw [add_block]; exact Kd.own_blk (IsS113.own_ne HI423.1 HO_5.1 (by decide))) | (show (Addr.add _ _).block ≠ _; rw [add_block]; exact Kd.own_blk (IsS113.own_ne HI423.1 HO_5.1 (by decide))) | (dsimp only; exact Kd.own_blk (IsS113.own_ne HI423.1 HO_5.1 (by decide)))) : p := h
theorem q51_ {p : Prop} (h : p := by (with_reducible repeat (first | refine blk_drewN ?_ _ | refine blk_drew ?_ | refine blk_alloc ?_ _)); exact BK520.1) : p := h
theorem q50_ {p : Prop} (h : p := by first | (with_reducible exact hG) | (refine GOK_below hG ?_; (repeat (first | (with_reducible first | exact HB.1 | apply below_alloc | apply pw_below_drewN | apply below_drew1 | refine below_set ?_ GE520.1 | refine below_set ?_ GE535.1) | exact HB.1)); done) | (refine GOK_drawn hG ?_; (repeat (first | exact Drawn0.refl _ | apply Drawn0.step)); done) | exact hG) : p := h
theorem q49_ {p : Prop} (h : p := by repeat (first | (with_reducible first | exact HB.1 | apply below_alloc | apply pw_below_drewN | apply below_drew1 | refine below_set ?_ GE520.1) | exact HB.1)) : p := h
theorem q48_ {p : Prop} (h : p := by repeat (first | (with_reducible first | exact HB.1 | apply below_alloc | apply pw_below_drewN | apply below_drew1 | refine below_set ?_ (IsS143.ge HI0.1) | refine below_set ?_ GE226.1) | exact HB.1)) : p := h
theorem q47_ {p : Prop} (h : p := by repeat (first | (with_reducible first | exact HI0.1 | apply IsS143.alloc | apply IsS143.drewN | apply IsS143.drew | apply IsS143.set_1 | apply IsS143.set_2 | refine IsS143.far ?_ NB0_226.1 _) | exact HI0.1)) : p := h
theorem q46_ {p : Prop} (h : p := by (with_reducible repeat (first | refine blk_drewN ?_ _ | refine blk_drew ?_ | refine blk_alloc ?_ _)); exact BK505.1) : p := h
theorem q45_ {p : Prop} (h : p := by repeat (first | (with_reducible exact HR292.1) | (with_reducible refine Kd.C_alloc ?_ _) | (with_reducible refine Kd.C_drewN ?_ _) | (with_reducible refine Kd.C_drew ?_) | exact HR292.1)) : p := h
theorem q44_ {p : Prop} (h : p := by repeat (first | exact (Kd.C_below HR0_2.1 q9_) | (with_reducible refine Kd.C_alloc ?_ _) | (with_reducible refine Kd.C_drewN ?_ _) | (with_reducible refine Kd.C_drew ?_))) : p := h
theorem q43_ {p : Prop} (h : p := by (with_reducible repeat (first | refine blk_drewN ?_ _ | refine blk_drew ?_ | refine blk_alloc ?_ _)); exact BK415.1) : p := h
theorem q42_ {p : Prop} (h : p := by repeat (first | exact (Kd.C_below HR0.1 HB.1) | (with_reducible refine Kd.C_alloc ?_ _) | (with_reducible refine Kd.C_drewN ?_ _) | (with_reducible refine Kd.C_drew ?_))) : p := h
theorem q41_ {p : Prop} (h : p := by repeat (first | (with_reducible first | exact HK.1 | apply KeepBut.set_ | apply keep_drewN | apply keep_drew | apply keep_alloc | refine keep_far ?_ GW226.1 _) | exact HK.1)) : p := h
theorem q40_ {p : Prop} (h : p := by rw [hg]; exact (below_size q1_)) : p := h
theorem q39_ {p : Prop} (h : p := by repeat (first | (with_reducible first | exact HK.1 | apply KeptG.set_ | apply KeptG.drewN | apply KeptG.drew | apply KeptG.alloc) | exact HK.1)) : p := h
theorem q38_ {p : Prop} (h : p := by repeat (first | (with_reducible first | exact HB.1 | apply below_alloc | apply pw_below_drewN | apply below_drew1 | refine below_set ?_ GE457.1 | refine below_set ?_ GE472.1) | exact HB.1)) : p := h
theorem q37_ {p : Prop} (h : p := by repeat (first | (with_reducible first | exact HB.1 | apply below_alloc | apply pw_below_drewN | apply below_drew1 | refine below_set ?_ GE505.1) | exact HB.1)) : p := h
theorem q36_ {p : Prop} (h : p := by repeat (first | (with_reducible first | exact HB.1 | apply below_alloc | apply pw_below_drewN | apply below_drew1 | refine below_set ?_ (IsS143.ge HI330.1)) | exact HB.1)) : p := h
theorem q35_ {p : Prop} (h : p := by repeat (first | (with_reducible first | exact HI360.1 | apply IsS127.alloc | apply IsS127.drewN | apply IsS127.drew | apply IsS127.set_0 | apply IsS127.set_1) | exact HI360.1)) : p := h
theorem q34_ {p : Prop} (h : p := by (with_reducible repeat (first | refine blk_drewN ?_ _ | refine blk_drew ?_ | refine blk_alloc ?_ _)); exact BK147.1) : p := h
theorem q33_ {p : Prop} (h : p := by repeat (first | (with_reducible first | exact HB.1 | apply below_alloc | apply pw_below_drewN | apply below_drew1 | refine below_set ?_ (IsS143.ge HI481.1)) | exact HB.1)) : p := h
theorem q32_ {p : Prop} (h : p := by repeat (first | exact (Kd.C_below HR0_2.1 HB.1) | (with_reducible refine Kd.C_alloc ?_ _) | (with_reducible refine Kd.C_drewN ?_ _) | (with_reducible refine Kd.C_drew ?_))) : p := h
theorem q31_ {p : Prop} (h : p := by repeat (first | (with_reducible first | exact HB.1 | apply below_alloc | apply pw_below_drewN | apply below_drew1 | refine below_set ?_ (IsS127.ge HI0.1)) | exact HB.1)) : p := h
theorem q30_ {p : Prop} (h : p := by repeat (first | (with_reducible first | exact HB.1 | apply below_alloc | apply pw_below_drewN | apply below_drew1 | refine below_set ?_ (IsS127.ge HI360.1)) | exact HB.1)) : p := h
theorem q29_ {p : Prop} (h : p := by repeat (first | (with_reducible first | exact HI0.1 | apply IsS127.alloc | apply IsS127.drewN | apply IsS127.drew | apply IsS127.set_0 | apply IsS127.set_1) | exact HI0.1)) : p := h
theorem q28_ {p : Prop} (h : p := by first | rfl | exact absurd hr_.1 (by decide) | (have h_ := hr_.1; first | (subst h_; rfl) | (rw [h_]; done) | (simp only [h_]; done) | (simp at h_ ⊢; exact h_) | (simp at h_ ⊢; omega)) | (simp [errW_none, errW_some] <;> rfl) | (simp only [← hji9]; first | rfl | (simp [errW_none, errW_some] <;> rfl)) | (simp [*, errW_none, errW_some] <;> rfl)) : p := h
theorem q27_ {p : Prop} (h : p := by repeat (first | (with_reducible first | exact HB.1 | apply below_alloc | apply pw_below_drewN | apply below_drew1 | refine below_set ?_ GE520.1 | refine below_set ?_ GE535.1) | exact HB.1)) : p := h
theorem q26_ {p : Prop} (h : p := by first | (go_simp; done) | (go_simp; rfl)) : p := h
theorem q25_ {p : Prop} (h : p := by (with_reducible repeat (first | refine blk_drewN ?_ _ | refine blk_drew ?_ | refine blk_alloc ?_ _)); refine blk_far ?_ NB457_472.1 _; (with_reducible repeat (first | refine blk_drewN ?_ _ | refine blk_drew ?_ | refine blk_alloc ?_ _)); refine blk_far ?_ NB457_472.1 _; (with_reducible repeat (first | refine blk_drewN ?_ _ | refine blk_drew ?_ | refine blk_alloc ?_ _)); refine blk_far ?_ NB457_472.1 _; (with_reducible repeat (first | refine blk_drewN ?_ _ | refine blk_drew ?_ | refine blk_alloc ?_ _)); refine blk_far ?_ NB457_472.1 _; (with_reducible repeat (first | refine blk_drewN ?_ _ | refine blk_drew ?_ | refine blk_alloc ?_ _)); refine blk_far ?_ NB457_472.1 _; (with_reducible repeat (first | refine blk_drewN ?_ _ | refine blk_drew ?_ | refine blk_alloc ?_ _)); refine blk_far ?_ NB457_472.1 _; (with_reducible repeat (first | refine blk_drewN ?_ _ | refine blk_drew ?_ | refine blk_alloc ?_ _)); refine blk_far ?_ NB457_472.1 _; (with_reducible repeat (first | refine blk_drewN ?_ _ | refine blk_drew ?_ | refine blk_alloc ?_ _)); refine blk_far ?_ NB457_472.1 _; (with_reducible repeat (first | refine blk_drewN ?_ _ | refine blk_drew ?_ | refine blk_alloc ?_ _)); refine blk_far ?_ NB457_472.1 _; (with_reducible repeat (first | refine blk_drewN ?_ _ | refine blk_drew ?_ | refine blk_alloc ?_ _)); exact BK457.1) : p := h
theorem q24_ {p : Prop} (h : p := by (with_reducible repeat (first | apply Kd.R_alloc | apply Kd.R_drewN | apply Kd.R_drew)); exact HO_256002.1) : p := h
theorem q23_ {p : Prop} (h : p := by (with_reducible repeat (first | refine blk_drewN ?_ _ | refine blk_drew ?_ | refine blk_alloc ?_ _)); exact BK457.1) : p := h
theorem q22_ {p : Prop} (h : p := by repeat (first | (with_reducible first | exact HI423.1 | apply IsS113.alloc | apply IsS113.drewN | apply IsS113.drew | apply IsS113.set_0 | apply IsS113.set_1 | apply IsS113.set_3 | apply IsS113.set_4 | apply IsS113.set_5 | apply IsS113.set_6 | apply IsS113.set_7 | apply IsS113.set_8 | refine IsS113.far ?_ NB423_415.1 _) | exact HI423.1)) : p := h
theorem q21_ {p : Prop} (h : p := by repeat (first | (with_reducible first | exact HB.1 | apply below_alloc | apply pw_below_drewN | apply below_drew1 | refine below_set ?_ (IsS113.ge HI423.1) | refine below_set ?_ GE415.1) | exact HB.1)) : p := h
theorem q20_ {p : Prop} (h : p := by first | (with_reducible exact hG) | (refine GOK_below hG ?_; (repeat (first | (with_reducible first | exact HB.1 | apply below_alloc | apply pw_below_drewN | apply below_drew1) | exact HB.1)); done) | (refine GOK_drawn hG ?_; (repeat (first | exact Drawn0.refl _ | apply Drawn0.step)); done) | exact hG) : p := h
theorem q19_ {p : Prop} (h : p := by repeat (first | (with_reducible first | exact HB.1 | apply below_alloc | apply pw_below_drewN | apply below_drew1 | refine below_set ?_ (IsS113.ge HI0.1)) | exact HB.1)) : p := h
theorem q18_ {p : Prop} (h : p := by (with_reducible repeat (first | refine blk_drewN ?_ _ | refine blk_drew ?_ | refine blk_alloc ?_ _)); exact BK255.1) : p := h
theorem q17_ {p : Prop} (h : p := by first | (with_reducible exact hG) | (refine GOK_below hG ?_; (repeat (first | (with_reducible first | exact HB.1 | apply below_alloc | apply pw_below_drewN | apply below_drew1 | refine below_set ?_ GE457.1 | refine below_set ?_ GE472.1) | exact HB.1)); done) | (refine GOK_drawn hG ?_; (repeat (first | exact Drawn0.refl _ | apply Drawn0.step)); done) | exact hG) : p := h
theorem q16_ {p : Prop} (h : p := by repeat (first | (with_reducible first | exact HI0.1 | apply IsS143.alloc | apply IsS143.drewN | apply IsS143.drew | apply IsS143.set_1 | apply IsS143.set_2) | exact HI0.1)) : p := h
theorem q15_ {p : Prop} (h : p := by repeat (first | (with_reducible first | exact HB.1 | apply below_alloc | apply pw_below_drewN | apply below_drew1 | refine below_set ?_ (IsS143.ge HI0.1)) | exact HB.1)) : p := h
theorem q14_ {p : Prop} (h : p := by repeat (first | (with_reducible first | exact HB.1 | apply below_alloc | apply pw_below_drewN | apply below_drew1 | refine below_set ?_ GE457.1) | exact HB.1)) : p := h
theorem q13_ {p : Prop} (h : p := by repeat (first | exact Drawn0.refl _ | apply Drawn0.step)) : p := h
theorem q12_ {p : Prop} (h : p := by (with_reducible repeat (first | apply Kd.R_alloc | apply Kd.R_drewN | apply Kd.R_drew)); exact HO_4.1) : p := h
theorem q11_ {p : Prop} (h : p := by repeat (first | (with_reducible first | exact HI0.1 | apply IsS113.alloc | apply IsS113.drewN | apply IsS113.drew | apply IsS113.set_0 | apply IsS113.set_1 | apply IsS113.set_3 | apply IsS113.set_4 | apply IsS113.set_5 | apply IsS113.set_6 | apply IsS113.set_7 | apply IsS113.set_8) | exact HI0.1)) : p := h
theorem q10_ {p : Prop} (h : p := by first | rfl | (simp [errW_none, errW_some] <;> rfl) | (simp [*, errW_none, errW_some] <;> rfl)) : p := h
theorem q9_ {p : Prop} (h : p := by repeat (first | (with_reducible first | exact HB.1 | apply below_alloc | apply pw_below_drewN | apply below_drew1 | refine below_set ?_ GE147.1) | exact HB.1)) : p := h
theorem q8_ {p : Prop} (h : p := by repeat (first | (with_reducible first | exact HI0.1 | apply IsS143.alloc | apply IsS143.drewN | apply IsS143.drew | apply IsS143.set_1 | apply IsS143.set_2 | refine IsS143.far ?_ NB0_255.1 _) | exact HI0.1)) : p := h
theorem q7_ {p : Prop} (h : p := by repeat (first | (with_reducible first | exact HB.1 | apply below_alloc | apply pw_below_drewN | apply below_drew1 | refine below_set ?_ (IsS143.ge HI0.1) | refine below_set ?_ GE255.1) | exact HB.1)) : p := h
theorem q6_ {p : Prop} (h : p := by repeat (first | (with_reducible first | exact HK.1 | apply KeepBut.set_ | apply keep_drewN | apply keep_drew | apply keep_alloc) | exact HK.1)) : p := h
theorem q5_ {p : Prop} (h : p := by repeat (first | (with_reducible first | exact HK.1 | apply KeepBut.set_ | apply keep_drewN | apply keep_drew | apply keep_alloc | refine keep_far ?_ GW255.1 _) | exact HK.1)) : p := h
theorem q4_ {p : Prop} (h : p := by first | (with_reducible assumption) | assumption) : p := h
theorem q3_ {p : Prop} (h : p := by first | rfl | (simp; done) | (simp [*]; done) | (simp [empty_ne, *]; done)) : p := h
theorem q2_ {p : Prop} (h : p := by (try simp only [List.map_toArray, List.map_cons, List.map_nil]); first | done | rfl | (simp only [List.length_drop, List.length_take]; rfl)) : p := h
theorem q1_ {p : Prop} (h : p := by repeat (first | (with_reducible first | exact HB.1 | apply below_alloc | apply pw_below_drewN | apply below_drew1) | exact HB.1)) : p := h
attribute [local go_sem] max2_int min2_int max_two min_two max_three min_three max_four min_four   -- for this text's walks alone
set_option linter.unusedVariables false
set_option linter.unusedSimpArgs false



def errW : Option Int → Value
 | none => .nilIface
 | some c => .iface 0 (.int .i64 c)
theorem errW_none : errW none = .nilIface := rfl
theorem errW_some (c : Int) : errW (some c) = .iface 0 (.int .i64 c) := rfl

theorem empty_ne (l : List UInt8) : (!(l != [])) = l.isEmpty := by cases l <;> rfl
/-- What the library's contracts ask of package variables. -/
def GOK (w : World) : Prop := (∃ m, w.cell? ⟨0, 0, none⟩ = some (.int .i64 m)) ∧ Go.Lib.TabIs Tryz.prog w "internal/strconv.uint64pow10" .u64 Go.Lib.pow10Tab ∧ Go.Lib.TabIs Tryz.prog w "math/bits.deBruijn64tab" .u8 [0, 1, 56, 2, 57, 49, 28, 3, 61, 58, 42, 50, 38, 29, 17, 4, 62, 47, 59, 36, 45, 43, 51, 22, 53, 39, 33, 30, 24, 18, 12, 5, 63, 55, 48, 27, 60, 41, 37, 16, 46, 35, 44, 21, 52, 32, 23, 11, 54, 26, 40, 15, 34, 20, 31, 10, 25, 14, 19, 9, 13, 8, 7, 6] ∧ (∃ tp p, w.var? Tryz.prog "strconv.ErrRange" = some #[.iface tp p]) ∧ (∃ tp p, w.var? Tryz.prog "strconv.ErrSyntax" = some #[.iface tp p])
theorem GOK.maxlen {w : World} (h : GOK w) : (∃ m, w.cell? ⟨0, 0, none⟩ = some (.int .i64 m)) := h.1
theorem GOK.pow10 {w : World} (h : GOK w) : Go.Lib.TabIs Tryz.prog w "internal/strconv.uint64pow10" .u64 Go.Lib.pow10Tab := h.2.1
theorem GOK.deb {w : World} (h : GOK w) : Go.Lib.TabIs Tryz.prog w "math/bits.deBruijn64tab" .u8 [0, 1, 56, 2, 57, 49, 28, 3, 61, 58, 42, 50, 38, 29, 17, 4, 62, 47, 59, 36, 45, 43, 51, 22, 53, 39, 33, 30, 24, 18, 12, 5, 63, 55, 48, 27, 60, 41, 37, 16, 46, 35, 44, 21, 52, 32, 23, 11, 54, 26, 40, 15, 34, 20, 31, 10, 25, 14, 19, 9, 13, 8, 7, 6] := h.2.2.1
theorem GOK.errr {w : World} (h : GOK w) : (∃ tp p, w.var? Tryz.prog "strconv.ErrRange" = some #[.iface tp p]) := h.2.2.2.1
theorem GOK.errs {w : World} (h : GOK w) : (∃ tp p, w.var? Tryz.prog "strconv.ErrSyntax" = some #[.iface tp p]) := h.2.2.2.2
theorem var_below {P : Program} {w w' : World} {name : String} {cs : Array Value} {g : Nat} (hg : P.globalNamed name = some g) (h : w.var? P name = some cs) (hb : Below w.heap.size w w') : w'.var? P name = some cs := by
 unfold World.var? at *
 rw [hg] at h ⊢
 simp only [Option.bind_some] at h ⊢
 have hl : g < w.heap.size := by
  rcases Nat.lt_or_ge g w.heap.size with hl | hl
  ·exact hl
  ·rw [Array.getElem?_eq_none hl] at h; cases h
 rw [hb.block g hl]; exact h
theorem tab_below {P : Program} {w w' : World} {name : String} {k : IntKind} {zs : List Int} {g : Nat} (hg : P.globalNamed name = some g) (h : Go.Lib.TabIs P w name k zs) (hb : Below w.heap.size w w') : Go.Lib.TabIs P w' name k zs := by
 unfold Go.Lib.TabIs World.var? at *
 rw [hg] at h ⊢
 simp only [Option.bind_some] at h ⊢
 have hl : g < w.heap.size := by
  rcases Nat.lt_or_ge g w.heap.size with hl | hl
  ·exact hl
  ·rw [Array.getElem?_eq_none hl] at h; cases h
 rw [hb.block g hl]; exact h
theorem GOK_below {w w' : World} (h : GOK w) (hb : Below w.heap.size w w') : GOK w' := ⟨(let ⟨m, hm⟩ := h.maxlen; ⟨m, pw_cell_below hb hm⟩), (tab_below (g := 3) (by kernel_rfl) h.pow10 hb), (tab_below (g := 7) (by kernel_rfl) h.deb hb), (let ⟨tp, p, h_⟩ := h.errr; ⟨tp, p, var_below (g := 2) (by kernel_rfl) h_ hb⟩), (let ⟨tp, p, h_⟩ := h.errs; ⟨tp, p, var_below (g := 1) (by kernel_rfl) h_ hb⟩)⟩
theorem GOK_drawn {w w' : World} (h : GOK w) (hd : Drawn0 w w') : GOK w' := GOK_below h hd.below
theorem ob_len (A : Option Addr) (n m c d : Nat) : (Value.slice A n c).ownBlock = (Value.slice A m d).ownBlock := by cases A <;> rfl
theorem bc_ {w : World} {g : Nat} {t : TypeId} {cs : Array Value} (h : w.heap[g]? = some (.cells cs t (0, 0))) (i : Nat) : w.cell? ⟨g, i, none⟩ = cs[i]? := blk_cell h i
theorem bN_ {w : World} {g : Nat} {o : Obj} (h : w.heap[g]? = some o) (n : Nat) : (w.drewN n).heap[g]? = some o := blk_drewN h n
theorem bA_ {w : World} {g : Nat} {o : Obj} (h : w.heap[g]? = some o) (o' : Obj) : (w.alloc o').heap[g]? = some o := blk_alloc h o'
theorem bD_ {w : World} {g : Nat} {o : Obj} (h : w.heap[g]? = some o) : w.drew.heap[g]? = some o := blk_drew h
theorem sB_ {w W : World} {g j : Nat} {v : Value} (h : Below w.heap.size w W) (hg : w.heap.size ≤ g) : Below w.heap.size w (W.setCell ⟨g, j, none⟩ v) := below_set h hg
theorem pN_ {B : Nat} {w W : World} (h : Below B w W) (n : Nat) : Below B w (W.drewN n) := pw_below_drewN h n
theorem dB_ {base : Nat} {w W : World} (h : Below base w W) : Below base w W.drew := below_drew1 h
theorem aB_ {w W : World} (h : Below w.heap.size w W) (o : Obj) : Below w.heap.size w (W.alloc o) := below_alloc h o
theorem bB_ {w w1 : World} {g : Nat} {o : Obj} (h : w.heap[g]? = some o) (hb : Below w.heap.size w w1) : w1.heap[g]? = some o := blk_below h hb
theorem bF_ {w : World} {g : Nat} {t : TypeId} {cs : Array Value} (h : w.heap[g]? = some (.cells cs t (0, 0))) (i : Nat) : w.frozen? ⟨g, i, none⟩ = false := blk_frozen h i
theorem rA_ {α : Type} {d : Kd α} {e : Nat} {w : World} {base : Nat} {ok : Nat → Prop} {v : Value} {xs : List α} (h : d.R e w base ok v xs) (o : Obj) : d.R e (w.alloc o) base ok v xs := Kd.R_alloc h o
theorem rN_ {α : Type} {d : Kd α} {e : Nat} {w : World} {base : Nat} {ok : Nat → Prop} {v : Value} {xs : List α} (h : d.R e w base ok v xs) (m : Nat) : d.R e (w.drewN m) base ok v xs := Kd.R_drewN h m
theorem rD_ {α : Type} {d : Kd α} {e : Nat} {w : World} {base : Nat} {ok : Nat → Prop} {v : Value} {xs : List α} (h : d.R e w base ok v xs) : d.R e w.drew base ok v xs := Kd.R_drew h
theorem rF_ {α : Type} {d : Kd α} {e : Nat} {w : World} {base : Nat} {ok : Nat → Prop} {v : Value} {xs : List α} (h : d.R e w base ok v xs) {p : Addr} (hok : ∀ k, ok k → k ≠ p.block) (u : Value) : d.R e (w.setCell p u) base ok v xs := Kd.R_far h hok u

theorem info3 : (Tryz.prog.info? 3).map (fun i => (i.zero, i.size, i.bytes)) = some (some (.int .i64 0), 1, 8) := by kernel_rfl
theorem info5 : (Tryz.prog.info? 5).map (fun i => (i.zero, i.size, i.bytes)) = some (some (.int .u8 0), 1, 1) := by kernel_rfl
theorem info9 : (Tryz.prog.info? 9).map (fun i => (i.zero, i.size, i.bytes)) = some (some (.string ⟨#[]⟩), 1, 16) := by kernel_rfl
theorem info88 : (Tryz.prog.info? 88).map (fun i => (i.zero, i.size, i.bytes)) = some (some (.agg #[(.string ⟨#[]⟩), (.string ⟨#[]⟩)]), 2, 32) := by kernel_rfl
-- the values' own types
structure S88 where
 f0 : ByteArray
 f1 : ByteArray
def z88 : S88 := ⟨(⟨#[]⟩ : ByteArray), (⟨#[]⟩ : ByteArray)⟩
def k88 : Kd S88 := Kd.iso (Kd.pair Kd.string Kd.string) (fun x : S88 => (x.f0, x.f1))
theorem k88_open {w : World} {x : S88} {cs : List Value} (h : k88.K w x cs) : cs = [.string x.f0, .string x.f1] := by
 obtain ⟨_, _, rfl, rfl, rfl⟩ := h
 exact rfl
theorem k88_openM {w : World} {base : Nat} {ok : Nat → Prop} {x : S88} {cs : List Value} (h : k88.M w base ok x cs) : cs = [.string x.f0, .string x.f1] := by
 obtain ⟨_, _, rfl, rfl, rfl⟩ := h
 exact rfl
theorem k88_mk (w : World) (x : S88)  : k88.K w x [.string x.f0, .string x.f1] := ⟨[.string x.f0], [.string x.f1], rfl, rfl, rfl⟩
theorem k88_mkM (w : World) (base : Nat) (ok : Nat → Prop) (x : S88)  : k88.M w base ok x [.string x.f0, .string x.f1] := ⟨[.string x.f0], [.string x.f1], rfl, rfl, rfl⟩
def rd_T88 (xs : List S88) (i : Int) : S88 := xs.getD i.toNat z88
theorem at_T88 {w : World} {A : Option Addr} {n : Nat} {xs : List S88} (h : Kd.C k88 w A n xs) (i : Int) (h0 : 0 ≤ i) (h1 : i < n) : ∃ ad , A = some ad ∧ w.cell? (ad.add (i.toNat * 2)) = some (.string (rd_T88 xs i).f0) ∧ w.cell? ⟨(ad.add (i.toNat * 2)).block, (ad.add (i.toNat * 2)).off + 1, none⟩ = some (.string (rd_T88 xs i).f1) := by
 obtain ⟨ad, c, e, _, hK, hc0⟩ := Kd.C_get h z88 i h0 h1
 have hc : ∀ j u, c[j]? = some u → w.cell? (ad.add (i.toNat * 2 + j)) = some u := hc0
 obtain rfl := k88_open hK
 exact ⟨ad, e, hc 0 _ rfl, by rw [← add_field _ _ 1 (by omega)]; exact hc 1 _ rfl⟩

end Go.Proofs.YtfncjddolbghlaaGreatDoor.GFnMore
