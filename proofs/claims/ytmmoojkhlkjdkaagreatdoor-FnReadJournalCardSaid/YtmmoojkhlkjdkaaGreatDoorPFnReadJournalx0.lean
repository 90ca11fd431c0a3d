-- Printed by this claim's own program; Lean checks it.
import Derived.Test.YtmmoojkhlkjdkaaGreatDoorProg
import Derived.Below
import Derived.Deep.Draws
import Derived.Deep.AppendLies
import Derived.Maps.AppendAt
import Derived.OwnWalk
import Derived.Laws.BytesArg
import Derived.Laws.MakeOwn
import Derived.Laws.OwnMore
import Derived.Deep.OwnRows
import Derived.Tactics
import Derived.Lib.ConvBytes
import Derived.Laws.Slices
import Derived.WalkKit
import Derived.KernelRfl
import Derived.RowKit3
import Derived.Deep.LoopGhost
import Derived.Deep.QuietTactic
import Derived.BigQuiet
import Derived.WideLaws
import Derived.Deep.DeepCutAuto
import Derived.Deep.CutBlock
import Derived.Deep.RegionHeld3
import Derived.Laws.Rows
import Derived.Lib.AppendStr
import Derived.ArgAppend
import Derived.Laws.IdiomCopy
import Derived.OrdersHeld
import Derived.Laws.BitsLemmas
import Derived.RowKit
import Derived.Test.YtmmoojkhlkjdkaaGreatDoorVFnReadJournal
namespace Go.Proofs.YtmmoojkhlkjdkaaGreatDoor.PFnReadJournal
open Go.RowKit Go.Proofs.YtmmoojkhlkjdkaaGreatDoorW.PrintWords Go.Proofs.YtmmoojkhlkjdkaaGreatDoorW.PrintLast Go.Proofs.YtmmoojkhlkjdkaaGreatDoorW.PrintMore
attribute [local go_sem] max2_int min2_int max_two min_two max_three min_three max_four min_four   -- for this text's walks alone
set_option linter.unusedVariables false
set_option linter.unusedSimpArgs false
theorem Z0 {p : Prop} {q0 : Prop} (x0 : q0) (h : q0 → p := by intro a0_; repeat (first | (with_reducible first | exact a0_.out | apply below_alloc | apply pw_below_drewN | apply below_drew1) | exact a0_.out)) : p := h x0
theorem Z1 {p : Prop} {q0 : Prop} (x0 : q0) {q1 : Prop} (x1 : q1) (h : q0 → q1 → p := by intro a0_ a1_; repeat (first | (with_reducible first | exact a0_.out | apply below_alloc | apply pw_below_drewN | apply below_drew1 | refine below_set ?_ a1_.out) | exact a0_.out)) : p := h x0 x1
theorem Z2 {p : Prop} {q0 : Prop} (x0 : q0) (h : q0 → p := by intro a0_; (with_reducible repeat (first | refine blk_drewN ?_ _ | refine blk_drew ?_ | refine blk_alloc ?_ _)); exact a0_.out) : p := h x0
theorem Z4 {p : Prop} {q0 : Prop} (x0 : q0) (h : q0 → p := by intro a0_; (with_reducible repeat (first | apply Kd.R_alloc | apply Kd.R_drewN | apply Kd.R_drew)); exact a0_.out) : p := h x0
theorem Z5 {p : Prop} {q0 : Prop} (x0 : q0) (h : q0 → p := by intro a0_; first | (rw [a0_]; with_reducible exact H) | (have H2_ := (Option.bind_some _ _).symm.trans H; rw [a0_]; with_reducible exact H2_) | (have H2_ := (Option.bind_some _ _).symm.trans H; with_reducible exact H2_) | with_reducible exact H | (rw [a0_]; exact H) | exact H) : p := h x0
theorem Z6 {p : Prop} {q0 : Prop} (x0 : q0) (h : q0 → p := by intro a0_; repeat (first | (with_reducible first | exact a0_.out | apply IsS104.alloc | apply IsS104.drewN | apply IsS104.drew | apply IsS104.set_1) | exact a0_.out)) : p := h x0
theorem Z7 {p : Prop} {q0 : Prop} (x0 : q0) {q1 : Prop} (x1 : q1) (h : q0 → q1 → p := by intro a0_ a1_; repeat (first | (with_reducible first | exact a0_.out | apply below_alloc | apply pw_below_drewN | apply below_drew1 | refine below_set ?_ (IsS104.ge a1_.out)) | exact a0_.out)) : p := h x0 x1
theorem Z8 {p : Prop} {q0 : Prop} (x0 : q0) (h : q0 → p := by intro a0_; repeat (first | (with_reducible first | exact a0_.out | apply KeepBut.set_ | apply keep_drewN | apply keep_drew | apply keep_alloc) | exact a0_.out)) : p := h x0
theorem Z9 {p : Prop} {q0 : Prop} (x0 : q0) {q1 : Prop} (x1 : q1) (h : q0 → q1 → p := by intro a0_ a1_; repeat (first | exact (Kd.C_below a0_.out a1_.out) | (with_reducible refine Kd.C_alloc ?_ _) | (with_reducible refine Kd.C_drewN ?_ _) | (with_reducible refine Kd.C_drew ?_))) : p := h x0 x1
theorem Z10 {p : Prop} (h : p := by first | (with_reducible assumption) | assumption) : p := h
theorem Z11 {p : Prop} (h : p := by first | rfl | (simp [errW_none, errW_some] <;> rfl) | (simp [*, errW_none, errW_some] <;> rfl)) : p := h
theorem Z12 {p : Prop} {q0 : Prop} (x0 : q0) {q1 : Prop} (x1 : q1) {q2 : Prop} (x2 : q2) {q3 : Prop} (x3 : q3) (h : q0 → q1 → q2 → q3 → p := by intro a0_ a1_ a2_ a3_; repeat (first | (with_reducible first | exact a0_.out | apply below_alloc | apply pw_below_drewN | apply below_drew1 | refine below_set ?_ (IsS104.ge a1_.out) | refine below_set ?_ a2_.out | refine below_set ?_ a3_.out) | exact a0_.out)) : p := h x0 x1 x2 x3
theorem Z13 {p : Prop} {q0 : Prop} (x0 : q0) {q1 : Prop} (x1 : q1) {q2 : Prop} (x2 : q2) (h : q0 → q1 → q2 → p := by intro a0_ a1_ a2_; repeat (first | (with_reducible first | exact a0_.out | apply IsS104.alloc | apply IsS104.drewN | apply IsS104.drew | apply IsS104.set_1 | refine IsS104.far ?_ a1_.out _ | refine IsS104.far ?_ a2_.out _) | exact a0_.out)) : p := h x0 x1 x2
theorem Z14 {p : Prop} (h : p := by first | rfl | (simp; done) | (simp [*]; done)) : p := h
theorem Z15 {p : Prop} (h : p := by kernel_rfl) : p := h
theorem Z16 {p : Prop} {q0 : Prop} (x0 : q0) {q1 : Prop} (x1 : q1) {q2 : Prop} (x2 : q2) (h : q0 → q1 → q2 → p := by intro a0_ a1_ a2_; repeat (first | (with_reducible first | exact a0_.out | apply KeepBut.set_ | apply keep_drewN | apply keep_drew | apply keep_alloc | refine keep_far ?_ a1_.out _ | refine keep_far ?_ a2_.out _) | exact a0_.out)) : p := h x0 x1 x2
theorem Z17 {p : Prop} {q0 : Prop} (x0 : q0) {q1 : Prop} (x1 : q1) {q2 : Prop} (x2 : q2) (h : q0 → q1 → q2 → p := by intro a0_ a1_ a2_; repeat (first | (with_reducible first | exact a0_.out | apply below_alloc | apply pw_below_drewN | apply below_drew1 | refine below_set ?_ a1_.out | refine below_set ?_ a2_.out) | exact a0_.out)) : p := h x0 x1 x2
theorem Z18 {p : Prop} {q0 : Prop} (x0 : q0) (h : q0 → p := by intro a0_; refine blk_put (cs := #[.int .i64 (wrap64 ((rd y130 t133) + (wrap64 ((wrap64 (Int.tdiv t136 59)) * 5)))), .int .i64 0, .int .i64 0]) ?_ 2 _ rfl; refine blk_put (cs := #[.int .i64 (wrap64 ((rd y130 t133) + (wrap64 ((wrap64 (Int.tdiv t136 59)) * 5)))), .int .i64 0, .int .i64 0]) ?_ 1 _ rfl; refine blk_put (cs := #[.int .i64 0, .int .i64 0, .int .i64 0]) ?_ 0 _ rfl; (with_reducible repeat (first | refine blk_drewN ?_ _ | refine blk_drew ?_ | refine blk_alloc ?_ _)); exact a0_.out) : p := h x0
theorem Z19 {p : Prop} {q0 : Prop} (x0 : q0) {q1 : Prop} (x1 : q1) {q2 : Prop} (x2 : q2) {q3 : Prop} (x3 : q3) (h : q0 → q1 → q2 → q3 → p := by intro a0_ a1_ a2_ a3_; repeat (first | (with_reducible first | exact a0_.out | apply below_alloc | apply pw_below_drewN | apply below_drew1 | refine below_set ?_ a1_.out | refine below_set ?_ a2_.out | refine below_set ?_ a3_.out) | exact a0_.out)) : p := h x0 x1 x2 x3
theorem Z20 {p : Prop} {q0 : Prop} (x0 : q0) {q1 : Prop} (x1 : q1) {q2 : Prop} (x2 : q2) (h : q0 → q1 → q2 → p := by intro a0_ a1_ a2_; repeat (first | (with_reducible first | exact a0_.out | apply below_alloc | apply pw_below_drewN | apply below_drew1 | refine below_set ?_ (IsS104.ge a1_.out) | refine below_set ?_ a2_.out) | exact a0_.out)) : p := h x0 x1 x2
theorem Z21 {p : Prop} {q0 : Prop} (x0 : q0) (h : q0 → p := by intro a0_; refine blk_put (cs := #[.int .i64 ((rd_T84 l0 x7_1).f0), .int .i64 0]) ?_ 1 _ rfl; refine blk_put (cs := #[.int .i64 0, .int .i64 0]) ?_ 0 _ rfl; (with_reducible repeat (first | refine blk_drewN ?_ _ | refine blk_drew ?_ | refine blk_alloc ?_ _)); exact a0_.out) : p := h x0
theorem Z22 {p : Prop} {q0 : Prop} (x0 : q0) {q1 : Prop} (x1 : q1) (h : q0 → q1 → p := by intro a0_ a1_; refine blk_far ?_ a0_.out _; refine blk_far ?_ a0_.out _; (with_reducible repeat (first | refine blk_drewN ?_ _ | refine blk_drew ?_ | refine blk_alloc ?_ _)); exact a1_.out) : p := h x0 x1
theorem Z23 {p : Prop} (h : p := by (try simp only [List.map_toArray, List.map_cons, List.map_nil]); first | done | rfl | (simp only [List.length_drop, List.length_take]; rfl)) : p := h
theorem Z24 {p : Prop} (h : p := by rw [if_neg (show ¬ (false = true) by decide)] at H; exact H) : p := h
theorem Z25 {p : Prop} {q0 : Prop} (x0 : q0) (h : q0 → p := by intro a0_; (with_reducible repeat (first | apply Kd.V_alloc | apply Kd.V_drewN | apply Kd.V_drew)); exact a0_.out) : p := h x0
theorem Z26 {p : Prop} {q0 : Prop} (x0 : q0) (h : q0 → p := by intro a0_; repeat (first | exact (Kd.R_reads' a0_.out).2.2 | (with_reducible refine Kd.C_alloc ?_ _) | (with_reducible refine Kd.C_drewN ?_ _) | (with_reducible refine Kd.C_drew ?_))) : p := h x0
theorem Z27 {p : Prop} {q0 : Prop} (x0 : q0) {q1 : Prop} (x1 : q1) (h : q0 → q1 → p := by intro a0_ a1_; refine blk_far ?_ a0_.out _; refine blk_far ?_ a0_.out _; refine blk_far ?_ a0_.out _; (with_reducible repeat (first | refine blk_drewN ?_ _ | refine blk_drew ?_ | refine blk_alloc ?_ _)); exact a1_.out) : p := h x0 x1
theorem Z28 {p : Prop} (h : p := by decide) : p := h
theorem Z29 {p : Prop} (h : p := by first | (go_simp; done) | (go_simp; rfl)) : p := h
theorem Z30 {p : Prop} {q0 : Prop} (x0 : q0) {q1 : Prop} (x1 : q1) (h : q0 → q1 → p := by intro a0_ a1_; refine blk_far ?_ a0_.out _; (with_reducible repeat (first | refine blk_drewN ?_ _ | refine blk_drew ?_ | refine blk_alloc ?_ _)); exact a1_.out) : p := h x0 x1
theorem Z31 {p : Prop} {q0 : Prop} (x0 : q0) {q1 : Prop} (x1 : q1) (h : q0 → q1 → p := by intro a0_ a1_; repeat (first | (with_reducible first | exact a0_.out | apply IsS104.alloc | apply IsS104.drewN | apply IsS104.drew | apply IsS104.set_1 | refine IsS104.far ?_ a1_.out _) | exact a0_.out)) : p := h x0 x1
theorem Z32 {p : Prop} (h : p := by omega) : p := h
theorem Z33 {p : Prop} (h : p := by simp) : p := h
theorem Z34 {p : Prop} {q0 : Prop} (x0 : q0) (h : q0 → p := by intro a0_; first | (rw [add_block]; exact a0_) | (show (Addr.add _ _).block ≠ _; rw [add_block]; exact a0_) | exact a0_) : p := h x0
theorem Z35 {p : Prop} {q0 : Prop} (x0 : q0) (h : q0 → p := by intro a0_; have := a0_.out; omega) : p := h x0
theorem Z36 {p : Prop} (h : p := by repeat (first | exact Drawn0.refl _ | apply Drawn0.step)) : p := h
theorem Z37 {p : Prop} (h : p := by rw [if_pos rfl] at H; exact H) : p := h
theorem Z38 {p : Prop} {q0 : Prop} (x0 : q0) (h : q0 → p := by intro a0_; (with_reducible repeat (first | apply Kd.R_alloc | apply Kd.R_drewN | apply Kd.R_drew)); exact Kd.R_mono a0_.out (fun _ hk => trivial)) : p := h x0
theorem Z39 {p : Prop} (h : p := by first | omega | exact Nat.le_refl _) : p := h
theorem Z40 {p : Prop} {q0 : Prop} (x0 : q0) {q1 : Prop} (x1 : q1) (h : q0 → q1 → p := by intro a0_ a1_; exact (EnvOk.below a0_.out (by repeat (first | (with_reducible first | exact a1_.out | apply below_alloc | apply pw_below_drewN | apply below_drew1 | refine below_set ?_ (Aside0.out (by assumption))) | exact a1_.out)))) : p := h x0 x1
theorem Z41 {p : Prop} {q0 : Prop} (x0 : q0) (h : q0 → p := by intro a0_; refine blk_put (cs := #[.slice Ao11 t485.length co11, .slice none 0 0]) ?_ 1 _ rfl; refine blk_put (cs := #[.slice none 0 0, .slice none 0 0]) ?_ 0 _ rfl; (with_reducible repeat (first | refine blk_drewN ?_ _ | refine blk_drew ?_ | refine blk_alloc ?_ _)); exact a0_.out) : p := h x0
theorem Z42 {p : Prop} {q0 : Prop} (x0 : q0) (h : q0 → p := by intro a0_; (with_reducible repeat (first | apply Kd.S_alloc | apply Kd.S_drewN | apply Kd.S_drew)); exact a0_.out) : p := h x0
theorem Z43 {p : Prop} (h : p := by first | exact Kd.R_nil _ _ _ _ _ | exact Kd.N_nil _ _ _ _ _ | exact Kd.V_nil _ _ _ _ _ | exact Kd.Q_nil _ _ _ _ _ | exact Kd.S_nil _ _ _ _ _) : p := h
theorem Z44 {p : Prop} (h : p := by simp only [putAll, Act.put, List.setIfInBounds_toArray, List.set_cons_zero, List.set_cons_succ, i64_w, i32_w]) : p := h
theorem Z45 {p : Prop} {q0 : Prop} (x0 : q0) (h : q0 → p := by intro a0_; repeat (first | exact (Kd.V_reads' a0_.out).2.2 | (with_reducible refine Kd.C_alloc ?_ _) | (with_reducible refine Kd.C_drewN ?_ _) | (with_reducible refine Kd.C_drew ?_))) : p := h x0
theorem Z46 {p : Prop} {q0 : Prop} (x0 : q0) (h : q0 → p := by intro a0_; (with_reducible repeat (first | apply Kd.R_alloc | apply Kd.R_drewN | apply Kd.R_drew)); exact Kd.R_mono a0_.out (fun _ hk => hk.2)) : p := h x0
theorem Z47 {p : Prop} {q0 : Prop} (x0 : q0) (h : q0 → p := by intro a0_; refine blk_put (cs := #[.int .i64 (wrap64 ((rd y130 t133) + (wrap64 ((wrap64 (Int.tdiv t136 59)) * 5)))), .int .i64 0, .int .i64 0]) ?_ 1 _ rfl; (with_reducible repeat (first | refine blk_drewN ?_ _ | refine blk_drew ?_ | refine blk_alloc ?_ _)); exact a0_.out) : p := h x0
theorem Z48 {p : Prop} (h : p := by simp only [putAll, Act.put, List.setIfInBounds_toArray, List.set_cons_zero, List.set_cons_succ]) : p := h
theorem Z49 {p : Prop} {q0 : Prop} (x0 : q0) (h : q0 → p := by intro a0_; refine blk_put (cs := #[.int .i64 ((rd_T39 l0 x9_1).f0), .int .i64 ((rd_T39 l0 x9_1).f1), .int .i64 0]) ?_ 2 _ rfl; refine blk_put (cs := #[.int .i64 ((rd_T39 l0 x9_1).f0), .int .i64 0, .int .i64 0]) ?_ 1 _ rfl; refine blk_put (cs := #[.int .i64 0, .int .i64 0, .int .i64 0]) ?_ 0 _ rfl; (with_reducible repeat (first | refine blk_drewN ?_ _ | refine blk_drew ?_ | refine blk_alloc ?_ _)); exact a0_.out) : p := h x0
theorem Z50 {p : Prop} {q0 : Prop} (x0 : q0) (h : q0 → p := by intro a0_; have := a0_.out; first | omega | exact Nat.le_refl _) : p := h x0
theorem Z51 {p : Prop} {q0 : Prop} (x0 : q0) (h : q0 → p := by intro a0_; refine blk_put (cs := #[.int .i64 t261, .int .i64 t262, .int .i64 0]) ?_ 2 _ rfl; refine blk_put (cs := #[.int .i64 t261, .int .i64 0, .int .i64 0]) ?_ 1 _ rfl; refine blk_put (cs := #[.int .i64 0, .int .i64 0, .int .i64 0]) ?_ 0 _ rfl; (with_reducible repeat (first | refine blk_drewN ?_ _ | refine blk_drew ?_ | refine blk_alloc ?_ _)); exact a0_.out) : p := h x0
theorem Z52 {p : Prop} {q0 : Prop} (x0 : q0) (h : q0 → p := by intro a0_; refine blk_put (cs := #[.int .i64 t307, .int .i64 t308, .int .i64 0]) ?_ 2 _ rfl; refine blk_put (cs := #[.int .i64 t307, .int .i64 0, .int .i64 0]) ?_ 1 _ rfl; refine blk_put (cs := #[.int .i64 0, .int .i64 0, .int .i64 0]) ?_ 0 _ rfl; (with_reducible repeat (first | refine blk_drewN ?_ _ | refine blk_drew ?_ | refine blk_alloc ?_ _)); exact a0_.out) : p := h x0
theorem Z53 {p : Prop} {q0 : Prop} (x0 : q0) (h : q0 → p := by intro a0_; (with_reducible repeat (first | apply Kd.R_alloc | apply Kd.R_drewN | apply Kd.R_drew)); exact Kd.R_mono a0_.out (fun _ hk => hk.1)) : p := h x0
theorem Z54 {p : Prop} {q0 : Prop} (x0 : q0) (h : q0 → p := by intro a0_; first | (rw [a0_] at H; exact H) | (simp only [a0_] at H ⊢; exact H)) : p := h x0
theorem Z55 {p : Prop} {q0 : Prop} (x0 : q0) (h : q0 → p := by intro a0_; (with_reducible repeat (first | apply Kd.R_alloc | apply Kd.R_drewN | apply Kd.R_drew)); exact Kd.R_mono a0_.out (fun _ hk => ⟨hk.1.1, hk.2⟩)) : p := h x0
theorem Z56 {p : Prop} {q0 : Prop} (x0 : q0) (h : q0 → p := by intro a0_; repeat (first | exact a0_.out | (with_reducible refine Kd.C_alloc ?_ _) | (with_reducible refine Kd.C_drewN ?_ _) | (with_reducible refine Kd.C_drew ?_))) : p := h x0
theorem Z57 {p : Prop} {q0 : Prop} (x0 : q0) (h : q0 → p := by intro a0_; first | rfl | (simp [errW_none, errW_some] <;> rfl) | (simp only [← a0_]; first | rfl | (simp [errW_none, errW_some] <;> rfl)) | (simp [*, errW_none, errW_some] <;> rfl)) : p := h x0
theorem Z58 {p : Prop} {q0 : Prop} (x0 : q0) (h : q0 → p := by intro a0_; refine blk_put (cs := #[.slice Ao10 y326.length co10, .slice none 0 0]) ?_ 1 _ rfl; refine blk_put (cs := #[.slice none 0 0, .slice none 0 0]) ?_ 0 _ rfl; (with_reducible repeat (first | refine blk_drewN ?_ _ | refine blk_drew ?_ | refine blk_alloc ?_ _)); exact a0_.out) : p := h x0
theorem Z59 {p : Prop} {q0 : Prop} (x0 : q0) (h : q0 → p := by intro a0_; refine blk_put (cs := #[.slice Ao28 t485.length co28, .slice none 0 0]) ?_ 1 _ rfl; refine blk_put (cs := #[.slice none 0 0, .slice none 0 0]) ?_ 0 _ rfl; (with_reducible repeat (first | refine blk_drewN ?_ _ | refine blk_drew ?_ | refine blk_alloc ?_ _)); exact a0_.out) : p := h x0
theorem Z60 {p : Prop} {q0 : Prop} (x0 : q0) (h : q0 → p := by intro a0_; refine blk_put (cs := #[.slice Ao8 t517.length co8, .slice none 0 0]) ?_ 1 _ rfl; refine blk_put (cs := #[.slice none 0 0, .slice none 0 0]) ?_ 0 _ rfl; (with_reducible repeat (first | refine blk_drewN ?_ _ | refine blk_drew ?_ | refine blk_alloc ?_ _)); exact a0_.out) : p := h x0
theorem Z61 {p : Prop} (h : p := by first | exact Kd.S_nil _ _ _ _ _ | exact Kd.N_nil _ _ _ _ _ | exact Kd.V_nil _ _ _ _ _ | exact Kd.Q_nil _ _ _ _ _ | exact Kd.R_nil _ _ _ _ _) : p := h
theorem Z62 {p : Prop} {q0 : Prop} (x0 : q0) (h : q0 → p := by intro a0_; (with_reducible repeat (first | apply Kd.R_alloc | apply Kd.R_drewN | apply Kd.R_drew)); exact Kd.R_mono (Kd.R_far (p := ⟨gb265, 2, none⟩) (Kd.R_far (p := ⟨gb265, 1, none⟩) (Kd.R_far (p := ⟨gb265, 0, none⟩) (Kd.R_mono a0_.out (fun k_ hk => (⟨hk, hk.2⟩ : _ ∧ k_ ≠ gb265))) (fun _ hk => hk.2) (.int .i64 t261)) (fun _ hk => hk.2) (.int .i64 t262)) (fun _ hk => hk.2) (.int .i64 t263)) (fun _ hk => trivial)) : p := h x0
theorem Z63 {p : Prop} {q0 : Prop} (x0 : q0) (h : q0 → p := by intro a0_; have := World.block_lt_of_cell? _ _ a0_; first | rwa [add_block] at this | exact this) : p := h x0
theorem Z64 {p : Prop} {q0 : Prop} (x0 : q0) (h : q0 → p := by intro a0_; (with_reducible repeat (first | apply Kd.V_alloc | apply Kd.V_drewN | apply Kd.V_drew)); exact Kd.V_mono a0_.out (fun _ hk => hk.1)) : p := h x0
theorem Z65 {p : Prop} (h : p := by exact (Reps.c2 (show Kd.M k84 _ _ _ (⟨a1_1, a1_2⟩ : S84) [.int .i64 a1_1, .int .i64 a1_2] from (k84_mkM _ _ _ (⟨a1_1, a1_2⟩ : S84) )) (Reps.none _ _))) : p := h
theorem Z66 {p : Prop} (h : p := by (try simp only [List.map_toArray, List.map_cons, List.map_nil]); first | done | rfl) : p := h
theorem Z67 {p : Prop} (h : p := by exact (Reps.none _ _)) : p := h
theorem Z68 {p : Prop} (h : p := by first | exact pw_below_drewN (Below.refl _ _) _ | exact pw_below_drewN (pw_below_drewN (Below.refl _ _) _) _) : p := h
theorem Z69 {p : Prop} {q0 : Prop} (x0 : q0) {q1 : Prop} (x1 : q1) (h : q0 → q1 → p := by intro a0_ a1_; have := a0_.out; have := a1_.out; omega) : p := h x0 x1
theorem Z70 {p : Prop} {q0 : Prop} (x0 : q0) (h : q0 → p := by intro a0_; have := hk.2.1; have := a0_.out; omega) : p := h x0
theorem Z71 {p : Prop} {q0 : Prop} (x0 : q0) {q1 : Prop} (x1 : q1) {q2 : Prop} (x2 : q2) (h : q0 → q1 → q2 → p := by intro a0_ a1_ a2_; have := a0_.out; have := a1_.out; have := a2_.out; omega) : p := h x0 x1 x2
theorem Z72 {p : Prop} {q0 : Prop} (x0 : q0) (h : q0 → p := by intro a0_; (try simp only [List.map_toArray, List.map_cons, List.map_nil]); first | done | (rw [show y353.length = y348.length from (Kd.R_reads' a0_.out).1.symm] <;> rfl) | rfl | (simp only [List.length_drop, List.length_take]; rfl)) : p := h x0
theorem Z73 {p : Prop} (h : p := by first | exact ⟨(.inr (hk.1)), hk.2⟩ | exact (.inr (hk))) : p := h
theorem Z74 {p : Prop} {q0 : Prop} (x0 : q0) (h : q0 → p := by intro a0_; exact (Kd.R_reads' a0_.out).2.1) : p := h x0
theorem Z75 {p : Prop} (h : p := by rw [IntKind.wrap_i64]; omega) : p := h
theorem Z76 {p : Prop} (h : p := by rw [ha]; exact (putSel_off rfl).trans rfl) : p := h
theorem Z77 {p : Prop} (h : p := by exact (fun _ _ => trivial)) : p := h
theorem Z78 {p : Prop} (h : p := by exact (Reps.one (show Kd.M (Kd.int .u8) _ _ _ ((wrap64 (48 + (Int.tmod a0 10))) % 256) [.int .u8 ((wrap64 (48 + (Int.tmod a0 10))) % 256)] from rfl) (Reps.none _ _))) : p := h
theorem Z79 {p : Prop} (h : p := by first | simpa using c3 | (simp at c3 ⊢; omega)) : p := h
theorem Z80 {p : Prop} {q0 : Prop} (x0 : q0) (h : q0 → p := by intro a0_; (with_reducible repeat (first | apply Kd.V_alloc | apply Kd.V_drewN | apply Kd.V_drew)); exact Kd.V_mono a0_.out (fun _ hk => ⟨hk.1.1, ⟨hk.2, ⟨hk.1.2.1, hk.1.2.2⟩⟩⟩)) : p := h x0
theorem Z81 {p : Prop} (h : p := by show w.heap.size + 1 ≠ w.heap.size; omega) : p := h
theorem Z82 {p : Prop} (h : p := by go_simp; rfl) : p := h
theorem Z83 {p : Prop} {q0 : Prop} (x0 : q0) (h : q0 → p := by intro a0_; have := hk.1; have := a0_.out; omega) : p := h x0
theorem Z84 {p : Prop} (h : p := by exact (Reps.c2 (show Kd.M k84 _ _ _ (⟨0, 1⟩ : S84) [.int .i64 0, .int .i64 1] from (k84_mkM _ _ _ (⟨0, 1⟩ : S84) )) (Reps.none _ _))) : p := h
theorem Z85 {p : Prop} {q0 : Prop} (x0 : q0) (h : q0 → p := by intro a0_; (with_reducible repeat (first | apply Kd.S_alloc | apply Kd.S_drewN | apply Kd.S_drew)); exact Kd.S_mono a0_.out (fun k_ hk => ⟨hk.1, fun e_ => hk.2 e_⟩)) : p := h x0
theorem Z86 {p : Prop} {q0 : Prop} (x0 : q0) {q1 : Prop} (x1 : q1) (h : q0 → q1 → p := by intro a0_ a1_; repeat (first | (with_reducible first | exact a0_.out | apply below_alloc | apply pw_below_drewN | apply below_drew1 | refine below_set ?_ a1_.out | refine below_set ?_ a1_.out) | exact a0_.out)) : p := h x0 x1
theorem Z87 {p : Prop} (h : p := by rw [hg]; exact hw.size) : p := h
theorem Z88 {p : Prop} (h : p := by have := hk.2.2; omega) : p := h
theorem Z89 {p : Prop} (h : p := by (try simp only [List.map_toArray, List.map_cons, List.map_nil]); first | done | rfl | simp [Act.eval]) : p := h
theorem Z90 {p : Prop} (h : p := by rfl) : p := h
theorem Z91 {p : Prop} {q0 : Prop} (x0 : q0) {q1 : Prop} (x1 : q1) (h : q0 → q1 → p := by intro a0_ a1_; (with_reducible repeat (first | apply Kd.R_alloc | apply Kd.R_drewN | apply Kd.R_drew)); exact (Kd.R_mono (Kd.R_far (p := ⟨gb138, 2, none⟩) (Kd.R_far (p := ⟨gb138, 1, none⟩) (Kd.R_far (p := ⟨gb138, 0, none⟩) (Kd.R_types a0_.out a1_.out Z28) (fun _ hk => hk.2) (.int .i64 (wrap64 ((rd y130 t133) + (wrap64 ((wrap64 (Int.tdiv t136 59)) * 5)))))) (fun _ hk => hk.2) (.int .i64 0)) (fun _ hk => hk.2) (.int .i64 0)) (fun _ h_ => h_.1))) : p := h x0 x1
theorem Z92 {p : Prop} (h : p := by exact (fun k_ hk => ⟨(Nat.le_trans (below_size (Z1 HB GE378)) hk), Kd.fresh' (Kd.R_lt (Z4 HO387)) k_ hk⟩)) : p := h
theorem Z93 {p : Prop} (h : p := by exact Z13 HI0 NB0_129 NB0_138) : p := h
theorem Z94 {p : Prop} (h : p := by exact Z12 HB HI0 GE129 GE138) : p := h
theorem Z95 {p : Prop} (h : p := by exact (keep_size (w := w) (g := g) (row := none) (Z8 HK))) : p := h
theorem Z96 {p : Prop} (h : p := by exact Z7 HB HI0) : p := h
def bBl : Nat → Nat → List Bool
  | 0, _ => []
  | n + 1, m => (m % 2 == 1) :: bBl n (m / 2)
def bB (n m : Nat) : Array Bool := (bBl n m).toArray
theorem gL_ {P : Program} {ops : Array Oper} {Q : Exit → Act → World → Prop} {rest : List Oper} {oi : Oper} {a : Act} {w : World} (N : Tmp) {f : FuncId} {fn : Func} {xs_ : Array Operand} {ts : Array TypeId} (hf : P.funcs[f]? = some fn) (args : Array Value) (h : Calls P f args w fun e w' => ∃ v, e = .returned v ∧ wpList P ops Q rest (a.put (some N) v) w') (hd : oi.dst = some N := by exact rfl) (hg : oi.guard = none := by exact rfl) (hname : (fn.name == "runtime.NumGoroutine") = false := by kernel_rfl) (hb : fn.body.isSome = true := by exact rfl) (hop : oi.op = .call { callee := .value (.func f), args := xs_, argTypes := ts } := by exact rfl) (hargs : xs_.map a.eval = args := by (try simp only [List.map_toArray, List.map_cons, List.map_nil]); first | done | rfl | (simp only [List.length_drop, List.length_take]; rfl)) : wpList P ops Q (oi :: rest) a w := goesL_ (some N) hd hg hf hname hb args hop hargs h
theorem bE_ {P : Program} {ops : Array Oper} {Q : Exit → Act → World → Prop} {rest : List Oper} {o : Oper} {a : Act} {W : World} (N : Tmp) (cs : Array Value) (t : TypeId) (h : ∀ g, g = W.heap.size → ∀ w1, w1.heap[g]? = some (.cells cs t (0, 0)) → Below W.heap.size W w1 → wpList P ops Q rest (a.put o.dst (.pointer (some ⟨g, 0, none⟩))) w1) (hd : o.dst = some N := by rfl) (hg : o.guard = none := by rfl) (hr : (execOp a.eval o).run P W = .ok (.value (.pointer (some ⟨W.heap.size, 0, none⟩))) (W.alloc (.cells cs t (0, 0))) := by first | (go_simp; done) | (go_simp; rfl)) : wpList P ops Q (o :: rest) a W := box_event hg hd hr h
theorem nr_ {P : Program} {ops : Array Oper} {Q : Exit → Act → World → Prop} {md : Region.Mode} {S : World → Prop} {ds : List Nat} {fuel : Nat} {l : Array Bool} {a a' : Act} {w : World} (h : wpAnyLast P md ops Q S ds fuel l a' w) (ha : a = a' := by (show Act.put _ (some _) _ = _); simp only [Act.put, List.setIfInBounds_toArray, List.set_cons_zero, List.set_cons_succ, i64_w, i32_w]; rfl) : wpAnyLast P md ops Q S ds fuel l a w := norm_ ha h
theorem pu_ {P : Program} {ops : Array Oper} {Q : Exit → Act → World → Prop} {md : Region.Mode} {S : World → Prop} {ds : List Nat} {fuel : Nat} {l : Array Bool} {a a' : Act} {w : World} {oi : Oper} {v : Value} (i : Nat) (N : Option Tmp) (l' : Array Bool) (h : wpAnyLast P md ops Q S ds fuel l' a' w) (hi : ops[i]? = some oi := by exact rfl) (hN : oi.dst = N := by exact rfl) (hc : anyB md ops l l' i = true := by exact any_of HT_.out (by kernel_rfl)) (hQ : ∀ c a w, Q (.panic c) (a.put oi.dst v) w → Q (.panic c) a w := by exact fun _ _ _ h => h) (hy : Yields P ops oi v a := by refine Or.inl ⟨by rfl, ?_⟩; intro w'; go_simp; with_reducible rfl) (ha : a.put N v = a' := by simp only [Act.put, List.setIfInBounds_toArray, List.set_cons_zero, List.set_cons_succ, i64_w, i32_w]; rfl) : wpAnyLast P md ops Q S ds (fuel + 1) l a w := pure_ l' hi hN hc hQ hy ha h



def errW : Option Int → Value
  | none => .nilIface
  | some c => .iface 0 (.int .i64 c)
theorem errW_none : errW none = .nilIface := rfl
theorem errW_some (c : Int) : errW (some c) = .iface 0 (.int .i64 c) := rfl

theorem info3 : (Tryz.prog.info? 3).map (fun i => (i.zero, i.size, i.bytes)) = some (some (.int .i64 0), 1, 8) := by kernel_rfl
theorem info5 : (Tryz.prog.info? 5).map (fun i => (i.zero, i.size, i.bytes)) = some (some (.int .u8 0), 1, 1) := by kernel_rfl
theorem info9 : (Tryz.prog.info? 9).map (fun i => (i.zero, i.size, i.bytes)) = some (some (.string ⟨#[]⟩), 1, 16) := by kernel_rfl
theorem info28 : (Tryz.prog.info? 28).map (fun i => (i.zero, i.size, i.bytes)) = some (some (.slice none 0 0), 1, 24) := by kernel_rfl
theorem info39 : (Tryz.prog.info? 39).map (fun i => (i.zero, i.size, i.bytes)) = some (some (.agg #[(.int .i64 0), (.int .i64 0), (.int .i64 0)]), 3, 24) := by kernel_rfl
theorem info84 : (Tryz.prog.info? 84).map (fun i => (i.zero, i.size, i.bytes)) = some (some (.agg #[(.int .i64 0), (.int .i64 0)]), 2, 16) := by kernel_rfl
-- the values' own types
/-! #### struct type 39 -/
structure S39 where
  f0 : Int
  f1 : Int
  f2 : Int
def z39 : S39 := ⟨(0 : Int), (0 : Int), (0 : Int)⟩
def k39 : Kd S39 := Kd.iso (Kd.pair (Kd.int .i64) (Kd.pair (Kd.int .i64) (Kd.int .i64))) (fun x : S39 => (x.f0, x.f1, x.f2))
theorem k39_heap : Kd.Heap k39 := Kd.heap_iso _ (Kd.heap_pair (Kd.heap_int .i64) (Kd.heap_pair (Kd.heap_int .i64) (Kd.heap_int .i64)))
theorem k39_open {w : World} {x : S39} {cs : List Value} (h : k39.K w x cs) : cs = [.int .i64 x.f0, .int .i64 x.f1, .int .i64 x.f2] := by
  obtain ⟨_, _, rfl, rfl, ⟨_, _, rfl, rfl, rfl⟩⟩ := h
  exact rfl
theorem k39_openM {w : World} {base : Nat} {ok : Nat → Prop} {x : S39} {cs : List Value} (h : k39.M w base ok x cs) : cs = [.int .i64 x.f0, .int .i64 x.f1, .int .i64 x.f2] := by
  obtain ⟨_, _, rfl, rfl, ⟨_, _, rfl, rfl, rfl⟩⟩ := h
  exact rfl
theorem k39_mk (w : World) (x : S39)  : k39.K w x [.int .i64 x.f0, .int .i64 x.f1, .int .i64 x.f2] := ⟨[.int .i64 x.f0], [.int .i64 x.f1, .int .i64 x.f2], rfl, rfl, ⟨[.int .i64 x.f1], [.int .i64 x.f2], rfl, rfl, rfl⟩⟩
theorem k39_mkM (w : World) (base : Nat) (ok : Nat → Prop) (x : S39)  : k39.M w base ok x [.int .i64 x.f0, .int .i64 x.f1, .int .i64 x.f2] := ⟨[.int .i64 x.f0], [.int .i64 x.f1, .int .i64 x.f2], rfl, rfl, ⟨[.int .i64 x.f1], [.int .i64 x.f2], rfl, rfl, rfl⟩⟩
theorem k39_mkF (W : World) (ok : Nat → Prop) (x : S39) : Kd.FK k39 W ok x [.int .i64 x.f0, .int .i64 x.f1, .int .i64 x.f2] := fun W2 _ => k39_mk W2 x
def rd_T39 (xs : List S39) (i : Int) : S39 := xs.getD i.toNat z39
theorem at_T39 {w : World} {A : Option Addr} {n : Nat} {xs : List S39} (h : Kd.C k39 w A n xs) (i : Int) (h0 : 0 ≤ i) (h1 : i < n) : ∃ ad , A = some ad ∧ w.cell? (ad.add (i.toNat * 3)) = some (.int .i64 (rd_T39 xs i).f0) ∧ w.cell? ⟨(ad.add (i.toNat * 3)).block, (ad.add (i.toNat * 3)).off + 1, none⟩ = some (.int .i64 (rd_T39 xs i).f1) ∧ w.cell? ⟨(ad.add (i.toNat * 3)).block, (ad.add (i.toNat * 3)).off + 2, none⟩ = some (.int .i64 (rd_T39 xs i).f2) := by
 obtain ⟨ad, c, e, _, hK, hc0⟩ := Kd.C_get h z39 i h0 h1
 have hc : ∀ j u, c[j]? = some u → w.cell? (ad.add (i.toNat * 3 + j)) = some u := hc0
 obtain rfl := k39_open hK
 exact ⟨ad, e, hc 0 _ rfl, by rw [← add_field _ _ 1 (by omega)]; exact hc 1 _ rfl, by rw [← add_field _ _ 2 (by omega)]; exact hc 2 _ rfl⟩

/-! #### struct type 84 -/
structure S84 where
  f0 : Int
  f1 : Int
def z84 : S84 := ⟨(0 : Int), (0 : Int)⟩
def k84 : Kd S84 := Kd.iso (Kd.pair (Kd.int .i64) (Kd.int .i64)) (fun x : S84 => (x.f0, x.f1))
theorem k84_heap : Kd.Heap k84 := Kd.heap_iso _ (Kd.heap_pair (Kd.heap_int .i64) (Kd.heap_int .i64))
theorem k84_open {w : World} {x : S84} {cs : List Value} (h : k84.K w x cs) : cs = [.int .i64 x.f0, .int .i64 x.f1] := by
  obtain ⟨_, _, rfl, rfl, rfl⟩ := h
  exact rfl
theorem k84_openM {w : World} {base : Nat} {ok : Nat → Prop} {x : S84} {cs : List Value} (h : k84.M w base ok x cs) : cs = [.int .i64 x.f0, .int .i64 x.f1] := by
  obtain ⟨_, _, rfl, rfl, rfl⟩ := h
  exact rfl
theorem k84_mk (w : World) (x : S84)  : k84.K w x [.int .i64 x.f0, .int .i64 x.f1] := ⟨[.int .i64 x.f0], [.int .i64 x.f1], rfl, rfl, rfl⟩
theorem k84_mkM (w : World) (base : Nat) (ok : Nat → Prop) (x : S84)  : k84.M w base ok x [.int .i64 x.f0, .int .i64 x.f1] := ⟨[.int .i64 x.f0], [.int .i64 x.f1], rfl, rfl, rfl⟩
theorem k84_mkF (W : World) (ok : Nat → Prop) (x : S84) : Kd.FK k84 W ok x [.int .i64 x.f0, .int .i64 x.f1] := fun W2 _ => k84_mk W2 x
def rd_T84 (xs : List S84) (i : Int) : S84 := xs.getD i.toNat z84
theorem at_T84 {w : World} {A : Option Addr} {n : Nat} {xs : List S84} (h : Kd.C k84 w A n xs) (i : Int) (h0 : 0 ≤ i) (h1 : i < n) : ∃ ad , A = some ad ∧ w.cell? (ad.add (i.toNat * 2)) = some (.int .i64 (rd_T84 xs i).f0) ∧ w.cell? ⟨(ad.add (i.toNat * 2)).block, (ad.add (i.toNat * 2)).off + 1, none⟩ = some (.int .i64 (rd_T84 xs i).f1) := by
 obtain ⟨ad, c, e, _, hK, hc0⟩ := Kd.C_get h z84 i h0 h1
 have hc : ∀ j u, c[j]? = some u → w.cell? (ad.add (i.toNat * 2 + j)) = some u := hc0
 obtain rfl := k84_open hK
 exact ⟨ad, e, hc 0 _ rfl, by rw [← add_field _ _ 1 (by omega)]; exact hc 1 _ rfl⟩

def rd_L5 (xs : List (List S84)) (i : Int) : (List S84) := xs.getD i.toNat ([] : List S84)
theorem at_L5 {w : World} {A : Option Addr} {n : Nat} {xs : List (List S84)} (h : Kd.C (Kd.slice 84 k84) w A n xs) (i : Int) (h0 : 0 ≤ i) (h1 : i < n) : ∃ ad A0 c0, A = some ad ∧ w.cell? (ad.add i.toNat) = some (.slice A0 (rd_L5 xs i).length c0) ∧ (rd_L5 xs i).length ≤ c0 ∧ k84.C w A0 (rd_L5 xs i).length (rd_L5 xs i) := by
 obtain ⟨ad, c, e, _, hK, hc0⟩ := Kd.C_get h ([] : List S84) i h0 h1
 have hc : ∀ j u, c[j]? = some u → w.cell? (ad.add (i.toNat * 1 + j)) = some u := hc0
 obtain ⟨A0, c0, rfl, l0, g0⟩ := hK
 exact ⟨ad, A0, c0, e, by have hq := hc 0 _ rfl; rwa [Nat.mul_one, Nat.add_zero] at hq, l0, g0⟩

end Go.Proofs.YtmmoojkhlkjdkaaGreatDoor.PFnReadJournal
