-- Printed by this claim's own program; Lean checks it.
import Derived.Test.YtocnifoohecmeaaPFnDeskDox0
import Derived.Test.YtocnifoohecmeaaPFnDeskDox4
import Derived.Test.YtocnifoohecmeaaPFnDeskDox11
import Derived.Test.YtocnifoohecmeaaPFnDeskDox12
namespace Go.Proofs.Ytocnifoohecmeaa.PFnDeskDo
open Go.RowKit Go.Proofs.YtocnifoohecmeaaW.PrintWords Go.Proofs.YtocnifoohecmeaaW.PrintLast Go.Proofs.YtocnifoohecmeaaW.PrintMore
attribute [local go_sem] max2_int min2_int max_two min_two max_three min_three max_four min_four   -- for this text's walks alone
set_option linter.unusedVariables false
set_option linter.unusedSimpArgs false

/-! ### spec_DrawDeskDo: function 31 -/
def spec_DrawDeskDo.f (k : Nat) (l0 : List Int) : Option ((List (S50)) × (List (List (S50))) × Int × Int × Int) := (spec_l20Open.f l0).bind fun bt370 => ((spec_l20Desk.f k bt370.1 bt370.2 12).bind fun bt373 => ((spec_l20Deed.f k bt370.1 bt373.2.2 bt373.1).bind fun bt381 => (some (bt373.1, bt373.2.1, bt381.1, bt381.2.1, bt381.2.2.1))))
set_option maxHeartbeats 8000000 in
set_option maxRecDepth 100000 in
theorem spec_DrawDeskDo.calls (k : Nat) (A0 : Option Addr) (c0 : Nat) (l0 : List Int) (r1 : List (S50)) (r2 : List (List (S50))) (r3 : Int) (r4 : Int) (r5 : Int) (w : World) (hr0 : Kd.C (Kd.int .u8) w A0 l0.length l0) (hc0 : l0.length ≤ c0) (h : spec_DrawDeskDo.f k l0 = some (r1, r2, r3, r4, r5)) :
 Calls Try.prog 31 #[.slice A0 l0.length c0] w fun e w' => ∃ v0_ v1_ : Value, e = .returned (.tuple #[.agg #[v0_, v1_], .agg #[.int .i64 r3, .int .i64 r4, .int .i64 r5]]) ∧ Kd.V k50 50 w' w.heap.size (fun k_ => (w.heap.size ≤ k_) ∧ some k_ ≠ (v1_ : Value).ownBlock) v0_ r1 ∧ Kd.S (Kd.slice 50 k50) 23 w' w.heap.size (fun k_ => (w.heap.size ≤ k_)) v1_ r2 ∧ Below w.heap.size w w' := by
 have hu27 := Try.underlying27
 have hu52 := Try.underlying52
 have HR0 := Aside0.mk hr0
 have HC0 := Aside0.mk hc0
 clear hr0 hc0
 have HB := Aside0.mk (Below.refl w.heap.size w)
 have H : ((spec_l20Open.f l0).bind fun bt370 => ((spec_l20Desk.f k bt370.1 bt370.2 12).bind fun bt373 => ((spec_l20Deed.f k bt370.1 bt373.2.2 bt373.1).bind fun bt381 => (some (bt373.1, bt373.2.1, bt381.1, bt381.2.1, bt381.2.2.1))))) = some (r1, r2, r3, r4, r5) := h
 clear h
 replace H := Option.bind_eq_some_iff.mp H
 obtain ⟨⟨t370, t371⟩, A20, H⟩ := H
 replace H : ((spec_l20Desk.f k t370 t371 12).bind fun bt373 => ((spec_l20Deed.f k t370 bt373.2.2 bt373.1).bind fun bt381 => (some (bt373.1, bt373.2.1, bt381.1, bt381.2.1, bt381.2.2.1)))) = some (r1, r2, r3, r4, r5) := H
 have A2 := Aside0.mk A20
 clear A20
 replace H := Option.bind_eq_some_iff.mp H
 obtain ⟨⟨t373, t376, t379⟩, A30, H⟩ := H
 replace H : ((spec_l20Deed.f k t370 t379 t373).bind fun bt381 => (some (t373, t376, bt381.1, bt381.2.1, bt381.2.2.1))) = some (r1, r2, r3, r4, r5) := H
 have A3 := Aside0.mk A30
 clear A30
 replace H := Option.bind_eq_some_iff.mp H
 obtain ⟨⟨t381, t382, t383, t384⟩, A40, H⟩ := H
 replace H : (some (t373, t376, t381, t382, t383)) = some (r1, r2, r3, r4, r5) := H
 have A4 := Aside0.mk A40
 clear A40
 simp only [Option.some.injEq, Prod.mk.injEq] at H
 obtain ⟨rfl, rfl, rfl, rfl, rfl⟩ := H
 go_enter Try.func31, Try.ntmps31
 try go_wp2_with (first | ((with_reducible refine gate_dst (N := 2) rfl ?_); refine box_event ?hg (N := 2) ?hd (cs := #[.slice none 0 0, .slice none 0 0]) (t := 27) ?hr ?_; (case hd => rfl); (case hg => rfl); (case hr => first | (go_simp; done) | (go_simp; rfl)); intro gb368 hg w5 hbox hb; have n0_ := Aside0.mk (below_step (bl0 HB) hb); have n1_ := Aside0.mk (hbox); have n2_ := Aside0.mk ((by rw [hg]; exact (below_size (bl0 HB)) : w.heap.size ≤ gb368)); have n3_ := Aside0.mk ((by rw [hg]; exact (below_size (bl0 HB)) : w.heap.size ≤ gb368)); clear HB; have HB := n0_; have BK368 := n1_; have GW368 := n2_; have GE368 := n3_; clear n0_ n1_ n2_ n3_; clear hb hbox hg) | ((with_reducible refine gate_dst (N := 3) rfl ?_); refine box_event ?hg (N := 3) ?hd (cs := #[.int .i64 0, .int .i64 0, .int .i64 0]) (t := 52) ?hr ?_; (case hd => rfl); (case hg => rfl); (case hr => first | (go_simp; done) | (go_simp; rfl)); intro gb369 hg w6 hbox hb; have n0_ := Aside0.mk (blk_below (g := gb368) (o := .cells #[.slice none 0 0, .slice none 0 0] 27 (0, 0)) (pk BK368) hb); have n1_ := Aside0.mk (below_step (blg HB) hb); have n2_ := Aside0.mk (hbox); have n3_ := Aside0.mk ((by rw [hg]; exact (below_size (blg HB)) : w.heap.size ≤ gb369)); have n4_ := Aside0.mk ((by rw [hg]; exact (below_size (blg HB)) : w.heap.size ≤ gb369)); have n5_ := Aside0.mk ((by rw [hg]; exact Nat.ne_of_lt (blk_lt (g := gb368) (o := .cells #[.slice none 0 0, .slice none 0 0] 27 (0, 0)) (pk BK368)) : gb368 ≠ gb369)); have n6_ := Aside0.mk ((by rw [hg]; exact Nat.ne_of_gt (blk_lt (g := gb368) (o := .cells #[.slice none 0 0, .slice none 0 0] 27 (0, 0)) (pk BK368)) : gb369 ≠ gb368)); clear BK368; clear HB; have BK368 := n0_; have HB := n1_; have BK369 := n2_; have GW369 := n3_; have GE369 := n4_; have NB368_369 := n5_; have NB369_368 := n6_; clear n0_ n1_ n2_ n3_ n4_ n5_ n6_; clear hb hbox hg) | ((with_reducible refine gate_callee (f := 44) rfl ?_); refine goesL_ (some 7) rfl rfl Try.func44 (by kernel_rfl) rfl #[.slice A0 l0.length c0] rfl (by (try simp only [List.map_toArray, List.map_cons, List.map_nil]); first | done | rfl | (simp only [List.length_drop, List.length_take]; rfl)) ?_; (with_reducible refine (spec_l20Open.calls _ _ l0 t370 t371 w _ ?side1 ?side2 ?side3 A2.out).mono ?_); (case side1 => repeat (first | (with_reducible first | exact HB.out | apply below_alloc | apply pw_below_drewN | apply below_drew1 | refine below_set ?_ (Aside0.out (by assumption))) | exact HB.out)); (case side2 => exact HR0.out); (case side3 => exact HC0.out); rintro e w7 ⟨g372, rfl, hi, hb, hb2⟩; refine ⟨_, rfl, ?_⟩; have n0_ := Aside0.mk (blk_below (g := gb368) (o := .cells #[.slice none 0 0, .slice none 0 0] 27 (0, 0)) (pk BK368) hb2); have n1_ := Aside0.mk (blk_below (g := gb369) (o := .cells #[.int .i64 0, .int .i64 0, .int .i64 0] 52 (0, 0)) (pk BK369) hb2); have n2_ := Aside0.mk (hb); have n3_ := Aside0.mk (hi); have n4_ := Aside0.mk (IsS95.ne_blk hi (blk_below (g := gb368) (o := .cells #[.slice none 0 0, .slice none 0 0] 27 (0, 0)) (pk BK368) hb2) (by decide)); have n5_ := Aside0.mk (Ne.symm (IsS95.ne_blk hi (blk_below (g := gb368) (o := .cells #[.slice none 0 0, .slice none 0 0] 27 (0, 0)) (pk BK368) hb2) (by decide))); have n6_ := Aside0.mk (IsS95.ne_blk hi (blk_below (g := gb369) (o := .cells #[.int .i64 0, .int .i64 0, .int .i64 0] 52 (0, 0)) (pk BK369) hb2) (by decide)); have n7_ := Aside0.mk (Ne.symm (IsS95.ne_blk hi (blk_below (g := gb369) (o := .cells #[.int .i64 0, .int .i64 0, .int .i64 0] 52 (0, 0)) (pk BK369) hb2) (by decide))); clear BK368; clear BK369; clear HB; have BK368 := n0_; have BK369 := n1_; have HB := n2_; have HI372 := n3_; have NB372_368 := n4_; have NB368_372 := n5_; have NB372_369 := n6_; have NB369_372 := n7_; clear n0_ n1_ n2_ n3_ n4_ n5_ n6_ n7_; (try clear hb); (try clear hb2); (try clear hk); (try clear hi)) | ((with_reducible refine gate_callee (f := 55) rfl ?_); refine goesL_ (some 9) rfl rfl Try.func55 (by kernel_rfl) rfl #[.pointer (some ⟨g372, 0, none⟩), .int .i64 12] rfl (by (try simp only [List.map_toArray, List.map_cons, List.map_nil]); first | done | rfl | (simp only [List.length_drop, List.length_take]; rfl)) ?_; (with_reducible refine (spec_l20Desk.calls k g372 t370 t371 12 t373 t376 t379 w _ ?side1 ?side2 A3.out).mono ?_); (case side1 => repeat (first | (with_reducible first | exact HI372.out | apply IsS95.alloc | apply IsS95.drewN | apply IsS95.drew | apply IsS95.set_1 | refine IsS95.far ?_ NB372_368.out _ | refine IsS95.far ?_ NB372_369.out _) | exact HI372.out)); (case side2 => repeat (first | (with_reducible first | exact HB.out | apply below_alloc | apply pw_below_drewN | apply below_drew1 | refine below_set ?_ (IsS95.ge HI372.out) | refine below_set ?_ (Aside0.out (by assumption))) | exact HB.out)); rintro e w8 ⟨v374, v377, rfl, ho0, ho1, hi, hb, hk⟩; refine ⟨_, rfl, ?_⟩; have n0_ := Aside0.mk (KeepBut.blk hk (g' := gb368) (o := .cells #[.slice none 0 0, .slice none 0 0] 27 (0, 0)) (pk BK368) NB368_372.out (by simp)); have n1_ := Aside0.mk (KeepBut.blk hk (g' := gb369) (o := .cells #[.int .i64 0, .int .i64 0, .int .i64 0] 52 (0, 0)) (pk BK369) NB369_372.out (by simp)); have n2_ := Aside0.mk (Kd.V_lower (Kd.V_mono (ok' := fun k_ => (w.heap.size ≤ k_) ∧ some k_ ≠ (v377 : Value).ownBlock ∧ k_ ≠ gb368 ∧ k_ ≠ gb369 ∧ k_ ≠ g372) ho0 (fun k_ hk_ => ⟨(Nat.le_trans (below_size (by repeat (first | (with_reducible first | exact HB.out | apply below_alloc | apply pw_below_drewN | apply below_drew1 | refine below_set ?_ (IsS95.ge HI372.out) | refine below_set ?_ (Aside0.out (by assumption))) | exact HB.out))) hk_.1), hk_.2, (Kd.freshB (g := gb368) (o := .cells #[.slice none 0 0, .slice none 0 0] 27 (0, 0)) (pk BK368) k_ hk_.1), (Kd.freshB (g := gb369) (o := .cells #[.int .i64 0, .int .i64 0, .int .i64 0] 52 (0, 0)) (pk BK369) k_ hk_.1), (IsS95.fresh (by repeat (first | (with_reducible first | exact HI372.out | apply IsS95.alloc | apply IsS95.drewN | apply IsS95.drew | apply IsS95.set_1 | refine IsS95.far ?_ NB372_368.out _ | refine IsS95.far ?_ NB372_369.out _) | exact HI372.out)) k_ hk_.1)⟩)) (below_size (by repeat (first | (with_reducible first | exact HB.out | apply below_alloc | apply pw_below_drewN | apply below_drew1 | refine below_set ?_ (IsS95.ge HI372.out) | refine below_set ?_ (Aside0.out (by assumption))) | exact HB.out)))); have n3_ := Aside0.mk (Kd.S_lower (Kd.S_newM (M := fun k_ => (w.heap.size ≤ k_)) (Kd.S_mono (ok' := fun k_ => True) ho1 (fun _ hk_ => trivial)) (below_size (by repeat (first | (with_reducible first | exact HB.out | apply below_alloc | apply pw_below_drewN | apply below_drew1 | refine below_set ?_ (IsS95.ge HI372.out) | refine below_set ?_ (Aside0.out (by assumption))) | exact HB.out))) (fun k_ h_ => h_)) (below_size (by repeat (first | (with_reducible first | exact HB.out | apply below_alloc | apply pw_below_drewN | apply below_drew1 | refine below_set ?_ (IsS95.ge HI372.out) | refine below_set ?_ (Aside0.out (by assumption))) | exact HB.out)))); have n4_ := Aside0.mk (hb); have n5_ := Aside0.mk (hi); clear BK368; clear BK369; clear HB; clear HI372; have BK368 := n0_; have BK369 := n1_; have HO375 := n2_; have HO378 := n3_; have HB := n4_; have HI372 := n5_; clear n0_ n1_ n2_ n3_ n4_ n5_; (try clear hb); (try clear hb2); (try clear hk); (try clear hi); (try clear ho0); (try clear ho1)) | ((with_reducible refine gate_dst (N := 5) rfl ?_); refine box_event ?hg (N := 5) ?hd (cs := #[.slice none 0 0, .slice none 0 0]) (t := 27) ?hr ?_; (case hd => rfl); (case hg => rfl); (case hr => first | (go_simp; done) | (go_simp; rfl)); intro gb380 hg w9 hbox hb; have n0_ := Aside0.mk (Kd.V_below (Kd.V_elderB (rkV HO375) gb380 (Nat.le_of_eq hg.symm)) hb); have n1_ := Aside0.mk (Kd.S_below (rkS HO378) hb); have n2_ := Aside0.mk (blk_below (g := gb368) (o := .cells #[.slice none 0 0, .slice none 0 0] 27 (0, 0)) (pk BK368) hb); have n3_ := Aside0.mk (blk_below (g := gb369) (o := .cells #[.int .i64 0, .int .i64 0, .int .i64 0] 52 (0, 0)) (pk BK369) hb); have n4_ := Aside0.mk (IsS95.below (by repeat (first | (with_reducible first | exact HI372.out | apply IsS95.alloc | apply IsS95.drewN | apply IsS95.drew | apply IsS95.set_1 | refine IsS95.far ?_ NB372_368.out _ | refine IsS95.far ?_ NB372_369.out _) | exact HI372.out)) hb); have n5_ := Aside0.mk (below_step (by repeat (first | (with_reducible first | exact HB.out | apply below_alloc | apply pw_below_drewN | apply below_drew1 | refine below_set ?_ (IsS95.ge HI372.out) | refine below_set ?_ (Aside0.out (by assumption))) | exact HB.out)) hb); have n6_ := Aside0.mk (hbox); have n7_ := Aside0.mk ((by rw [hg]; exact (below_size (by repeat (first | (with_reducible first | exact HB.out | apply below_alloc | apply pw_below_drewN | apply below_drew1 | refine below_set ?_ (IsS95.ge HI372.out) | refine below_set ?_ (Aside0.out (by assumption))) | exact HB.out))) : w.heap.size ≤ gb380)); have n8_ := Aside0.mk ((by rw [hg]; exact (below_size (by repeat (first | (with_reducible first | exact HB.out | apply below_alloc | apply pw_below_drewN | apply below_drew1 | refine below_set ?_ (IsS95.ge HI372.out) | refine below_set ?_ (Aside0.out (by assumption))) | exact HB.out))) : w.heap.size ≤ gb380)); have n9_ := Aside0.mk ((by rw [hg]; exact Nat.ne_of_lt (blk_lt (g := gb368) (o := .cells #[.slice none 0 0, .slice none 0 0] 27 (0, 0)) (pk BK368)) : gb368 ≠ gb380)); have n10_ := Aside0.mk ((by rw [hg]; exact Nat.ne_of_gt (blk_lt (g := gb368) (o := .cells #[.slice none 0 0, .slice none 0 0] 27 (0, 0)) (pk BK368)) : gb380 ≠ gb368)); have n11_ := Aside0.mk ((by rw [hg]; exact Nat.ne_of_lt (blk_lt (g := gb369) (o := .cells #[.int .i64 0, .int .i64 0, .int .i64 0] 52 (0, 0)) (pk BK369)) : gb369 ≠ gb380)); have n12_ := Aside0.mk ((by rw [hg]; exact Nat.ne_of_gt (blk_lt (g := gb369) (o := .cells #[.int .i64 0, .int .i64 0, .int .i64 0] 52 (0, 0)) (pk BK369)) : gb380 ≠ gb369)); have n13_ := Aside0.mk ((by rw [hg]; exact Nat.ne_of_lt (IsS95.lt (show IsS95 w _ g372 t370 t379 from by repeat (first | (with_reducible first | exact HI372.out | apply IsS95.alloc | apply IsS95.drewN | apply IsS95.drew | apply IsS95.set_1 | refine IsS95.far ?_ NB372_368.out _ | refine IsS95.far ?_ NB372_369.out _) | exact HI372.out))) : g372 ≠ gb380)); have n14_ := Aside0.mk ((by rw [hg]; exact Nat.ne_of_gt (IsS95.lt (show IsS95 w _ g372 t370 t379 from by repeat (first | (with_reducible first | exact HI372.out | apply IsS95.alloc | apply IsS95.drewN | apply IsS95.drew | apply IsS95.set_1 | refine IsS95.far ?_ NB372_368.out _ | refine IsS95.far ?_ NB372_369.out _) | exact HI372.out))) : gb380 ≠ g372)); clear HO375; clear HO378; clear BK368; clear BK369; clear HI372; clear HB; have HO375 := n0_; have HO378 := n1_; have BK368 := n2_; have BK369 := n3_; have HI372 := n4_; have HB := n5_; have BK380 := n6_; have GW380 := n7_; have GE380 := n8_; have NB368_380 := n9_; have NB380_368 := n10_; have NB369_380 := n11_; have NB380_369 := n12_; have NB372_380 := n13_; have NB380_372 := n14_; clear n0_ n1_ n2_ n3_ n4_ n5_ n6_ n7_ n8_ n9_ n10_ n11_ n12_ n13_ n14_; clear hb hbox hg; obtain ⟨Ao10, co10, eo10⟩ := Kd.V_slice HO375.out; subst eo10; have hnb11 := NB380_368.out; have hnc11 := NB368_380.out; have hnb12 := NB380_369.out; have hnc12 := NB369_380.out; have hnb13 := NB380_372.out; have hnc13 := NB372_380.out; have hcz14_0 : w9.cell? ⟨gb380, 0, none⟩ = some (.slice none 0 0) := (blk_cell BK380.out 0).trans rfl; have hcz14_1 : w9.cell? ⟨gb380, 1, none⟩ = some (.slice none 0 0) := (blk_cell BK380.out 1).trans rfl; have hfz14_0 := blk_frozen BK380.out 0; have hfz14_1 := blk_frozen BK380.out 1; obtain ⟨Ao15, co15, eo15⟩ := Kd.S_slice HO378.out; subst eo15))
 have n0_ : Aside0 (Kd.V k50 50 ((w9.setCell ⟨gb380, 0, none⟩ (.slice Ao10 t373.length co10)).setCell ⟨gb380, 1, none⟩ (.slice Ao15 t376.length co15)) w.heap.size (fun k_ => (w.heap.size ≤ k_) ∧ some k_ ≠ (.slice Ao15 t376.length co15 : Value).ownBlock ∧ k_ ≠ gb368 ∧ k_ ≠ gb369 ∧ k_ ≠ g372 ∧ k_ ≠ gb380) (.slice Ao10 t373.length co10) t373) := ⟨by (with_reducible repeat (first | apply Kd.V_alloc | apply Kd.V_drewN | apply Kd.V_drew)); exact Kd.V_mono (Kd.V_far (p := ⟨gb380, 1, none⟩) (Kd.V_far (p := ⟨gb380, 0, none⟩) (Kd.V_mono HO375.out (fun k_ hk => (⟨hk, hk.2⟩ : _ ∧ k_ ≠ gb380))) (fun _ hk => hk.2) (.slice Ao10 t373.length co10)) (fun _ hk => hk.2) (.slice Ao15 t376.length co15)) (fun _ hk => ⟨hk.1.1.1, ⟨hk.1.1.2.1, ⟨hk.1.1.2.2.1, ⟨hk.1.1.2.2.2.1, ⟨hk.1.1.2.2.2.2, hk.1.2⟩⟩⟩⟩⟩)⟩
 have n1_ : Aside0 (Kd.S (Kd.slice 50 k50) 23 ((w9.setCell ⟨gb380, 0, none⟩ (.slice Ao10 t373.length co10)).setCell ⟨gb380, 1, none⟩ (.slice Ao15 t376.length co15)) w.heap.size (fun k_ => (w.heap.size ≤ k_)) (.slice Ao15 t376.length co15) t376) := ⟨by (with_reducible repeat (first | apply Kd.S_alloc | apply Kd.S_drewN | apply Kd.S_drew)); exact Kd.S_mono (Kd.S_far (p := ⟨gb380, 1, none⟩) (Kd.S_far (p := ⟨gb380, 0, none⟩) (Kd.S_types HO378.out BK380.out (by decide)) (fun _ hk => hk.2) (.slice Ao10 t373.length co10)) (fun _ hk => hk.2) (.slice Ao15 t376.length co15)) (fun _ hk => hk.1.1)⟩
 have n2_ : Aside0 (((w9.setCell ⟨gb380, 0, none⟩ (.slice Ao10 t373.length co10)).setCell ⟨gb380, 1, none⟩ (.slice Ao15 t376.length co15)).heap[gb368]? = some (.cells #[.slice none 0 0, .slice none 0 0] 27 (0, 0))) := ⟨by refine blk_far ?_ NB368_380.out _; refine blk_far ?_ NB368_380.out _; (with_reducible repeat (first | refine blk_drewN ?_ _ | refine blk_drew ?_ | refine blk_alloc ?_ _)); exact BK368.out⟩
 have n3_ : Aside0 (((w9.setCell ⟨gb380, 0, none⟩ (.slice Ao10 t373.length co10)).setCell ⟨gb380, 1, none⟩ (.slice Ao15 t376.length co15)).heap[gb369]? = some (.cells #[.int .i64 0, .int .i64 0, .int .i64 0] 52 (0, 0))) := ⟨by refine blk_far ?_ NB369_380.out _; refine blk_far ?_ NB369_380.out _; (with_reducible repeat (first | refine blk_drewN ?_ _ | refine blk_drew ?_ | refine blk_alloc ?_ _)); exact BK369.out⟩
 have n4_ : Aside0 (((w9.setCell ⟨gb380, 0, none⟩ (.slice Ao10 t373.length co10)).setCell ⟨gb380, 1, none⟩ (.slice Ao15 t376.length co15)).heap[gb380]? = some (.cells #[.slice Ao10 t373.length co10, .slice Ao15 t376.length co15] 27 (0, 0))) := ⟨by refine blk_put (cs := #[.slice Ao10 t373.length co10, .slice none 0 0]) ?_ 1 _ rfl; refine blk_put (cs := #[.slice none 0 0, .slice none 0 0]) ?_ 0 _ rfl; (with_reducible repeat (first | refine blk_drewN ?_ _ | refine blk_drew ?_ | refine blk_alloc ?_ _)); exact BK380.out⟩
 have n5_ : Aside0 (IsS95 w ((w9.setCell ⟨gb380, 0, none⟩ (.slice Ao10 t373.length co10)).setCell ⟨gb380, 1, none⟩ (.slice Ao15 t376.length co15)) g372 t370 t379) := ⟨by repeat (first | (with_reducible first | exact HI372.out | apply IsS95.alloc | apply IsS95.drewN | apply IsS95.drew | apply IsS95.set_1 | refine IsS95.far ?_ NB372_368.out _ | refine IsS95.far ?_ NB372_369.out _ | refine IsS95.far ?_ NB372_380.out _) | exact HI372.out)⟩
 have n6_ : Aside0 (Below w.heap.size w ((w9.setCell ⟨gb380, 0, none⟩ (.slice Ao10 t373.length co10)).setCell ⟨gb380, 1, none⟩ (.slice Ao15 t376.length co15))) := ⟨by repeat (first | (with_reducible first | exact HB.out | apply below_alloc | apply pw_below_drewN | apply below_drew1 | refine below_set ?_ (IsS95.ge HI372.out) | refine below_set ?_ (Aside0.out (by assumption))) | exact HB.out)⟩
 (try clear HO375)
 (try clear HO378)
 (try clear BK368)
 (try clear BK369)
 (try clear BK380)
 (try clear HI372)
 (try clear HB)
 generalize ((w9.setCell ⟨gb380, 0, none⟩ (.slice Ao10 t373.length co10)).setCell ⟨gb380, 1, none⟩ (.slice Ao15 t376.length co15)) = w16 at n0_ n1_ n2_ n3_ n4_ n5_ n6_ ⊢
 have HO375 := n0_
 have HO378 := n1_
 have BK368 := n2_
 have BK369 := n3_
 have BK380 := n4_
 have HI372 := n5_
 have HB := n6_
 clear n0_ n1_ n2_ n3_ n4_ n5_ n6_
 have n0_ := Aside0.mk (Kd.V_drew HO375.out)
 have n1_ := Aside0.mk (Kd.S_drew HO378.out)
 have n2_ := Aside0.mk (blk_drew BK368.out)
 have n3_ := Aside0.mk (blk_drew BK369.out)
 have n4_ := Aside0.mk (blk_drew BK380.out)
 have n5_ := Aside0.mk (IsS95.drew HI372.out)
 have n6_ := Aside0.mk (below_drew1 HB.out)
 clear HO375
 clear HO378
 clear BK368
 clear BK369
 clear BK380
 clear HI372
 clear HB
 have HO375 := n0_
 have HO378 := n1_
 have BK368 := n2_
 have BK369 := n3_
 have BK380 := n4_
 have HI372 := n5_
 have HB := n6_
 clear n0_ n1_ n2_ n3_ n4_ n5_ n6_
 refine start_ (n := 7) (S := fun w' => w'.cell? ⟨gb380, 0, none⟩ = some (.slice Ao10 t373.length co10) ∧ w'.cell? ⟨gb380, 1, none⟩ = some (.slice Ao15 t376.length co15)) (ds := []) #[false, false, false, false, false, false, false] (by kernel_rfl) rfl rfl ⟨(blk_cell BK380.out 0).trans rfl, (blk_cell BK380.out 1).trans rfl⟩ (fun hHeld => ?_)
 generalize w16.drew = w17 at HO375 HO378 BK368 BK369 BK380 HI372 HB hHeld ⊢
 refine pure_ (i := 1) (N := some 11) (v := ?_) (a' := ?_) #[false, true, false, false, false, false, false] rfl rfl (by kernel_rfl) (fun _ _ _ h => h) (Or.inl ⟨by rfl, ?_⟩) ?_ ?_
 rotate_left
 ·intro w'
  go_simp
  with_reducible rfl
 rotate_left
 ·simp only [Act.put, List.setIfInBounds_toArray, List.set_cons_zero, List.set_cons_succ, i64_w, i32_w]
  rfl
 refine pure_ (i := 2) (N := some 12) (v := ?_) (a' := ?_) #[false, true, true, false, false, false, false] rfl rfl (by kernel_rfl) (fun _ _ _ h => h) (Or.inl ⟨by rfl, ?_⟩) ?_ ?_
 rotate_left
 ·intro w'
  go_simp
  with_reducible rfl
 rotate_left
 ·simp only [Act.put, List.setIfInBounds_toArray, List.set_cons_zero, List.set_cons_succ, i64_w, i32_w]
  rfl
 refine take_ (i := 0) (N := some 10) (v := ?_) (a' := ?_) #[true, true, true, false, false, false, false] rfl rfl (by kernel_rfl) (fun _ _ _ h => h) (Or.inl ⟨by rfl, ?_⟩) hHeld ?_ ?_
 rotate_left
 ·rintro w' ⟨s0, s1⟩
  go_simp
  with_reducible rfl
 rotate_left
 ·simp only [Act.put, List.setIfInBounds_toArray, List.set_cons_zero, List.set_cons_succ, i64_w, i32_w]
  rfl
 refine take_ (i := 3) (N := some 13) (v := ?_) (a' := ?_) #[true, true, true, true, false, false, false] rfl rfl (by kernel_rfl) (fun _ _ _ h => h) (Or.inl ⟨by rfl, ?_⟩) hHeld ?_ ?_
 rotate_left
 ·rintro w' ⟨s0, s1⟩
  go_simp
  with_reducible rfl
 rotate_left
 ·simp only [Act.put, List.setIfInBounds_toArray, List.set_cons_zero, List.set_cons_succ, i64_w, i32_w]
  rfl
 refine one_ (i := 4) (N := some 14) #[true, true, true, true, true, false, false] rfl rfl (by kernel_rfl) (by decide) (fun K hK => ?_)
 refine goes_ Try.func56 (by kernel_rfl) rfl #[.pointer (some ⟨g372, 0, none⟩), .slice Ao10 t373.length co10] (by rfl) rfl rfl (by (try simp only [List.map_toArray, List.map_cons, List.map_nil]); first | done | rfl | (simp only [List.length_drop, List.length_take]; rfl)) ?_
 with_reducible refine (spec_l20Deed.calls k g372 t370 t379 _ _ t373 t381 t382 t383 t384 w _ ?side1 ?side2 ?side3 ?side4 A4.out).mono ?_
 (case side1 => repeat (first | (with_reducible first | exact HI372.out | apply IsS95.alloc | apply IsS95.drewN | apply IsS95.drew | apply IsS95.set_1 | refine IsS95.far ?_ NB372_368.out _ | refine IsS95.far ?_ NB372_369.out _ | refine IsS95.far ?_ NB372_380.out _) | exact HI372.out))
 (case side2 => repeat (first | (with_reducible first | exact HB.out | apply below_alloc | apply pw_below_drewN | apply below_drew1 | refine below_set ?_ (IsS95.ge HI372.out) | refine below_set ?_ (Aside0.out (by assumption))) | exact HB.out))
 (case side3 => exact Kd.C_foot_ownV (e := 50) (base := 0) (Kd.V_mono (ok := fun k_ => (((w.heap.size ≤ k_)) ∧ (some k_ ≠ (.slice Ao15 t376.length co15 : Value).ownBlock ∧ (k_ ≠ gb368 ∧ (k_ ≠ gb369 ∧ (k_ ≠ g372 ∧ k_ ≠ gb380)))))) (rkV HO375) (fun k_ hk_ => (⟨hk_, hk_.2.2.2.2.1⟩ : _ ∧ k_ ≠ g372))) (fun _ h_ => h_.2))
 (case side4 => exact (Kd.V_reads' HO375.out).2.1)
 rintro e w18 ⟨rfl, hi, hb, hk⟩
 refine ⟨_, rfl, ?_⟩
 have n0_ := Aside0.mk (KeepBut.blk hk (g' := gb368) (o := .cells #[.slice none 0 0, .slice none 0 0] 27 (0, 0)) (pk BK368) NB368_372.out (by simp))
 have n1_ := Aside0.mk (KeepBut.blk hk (g' := gb369) (o := .cells #[.int .i64 0, .int .i64 0, .int .i64 0] 52 (0, 0)) (pk BK369) NB369_372.out (by simp))
 have n2_ := Aside0.mk (Kd.V_mono (Kd.V_keep (Kd.V_mono (ok := fun k_ => (((w.heap.size ≤ k_)) ∧ (some k_ ≠ (.slice Ao15 t376.length co15 : Value).ownBlock ∧ (k_ ≠ gb368 ∧ (k_ ≠ gb369 ∧ (k_ ≠ g372 ∧ k_ ≠ gb380)))))) (rkV HO375) (fun k_ hk_ => (⟨hk_, hk_.2.2.2.2.1⟩ : _ ∧ k_ ≠ g372))) hk (fun _ h => h.2)) (fun _ h => h.1))
 have n3_ := Aside0.mk (Kd.S_mono (Kd.S_keep (IsS95.apartS (show IsS95 w _ g372 t370 t379 from by repeat (first | (with_reducible first | exact HI372.out | apply IsS95.alloc | apply IsS95.drewN | apply IsS95.drew | apply IsS95.set_1 | refine IsS95.far ?_ NB372_368.out _ | refine IsS95.far ?_ NB372_369.out _ | refine IsS95.far ?_ NB372_380.out _) | exact HI372.out)) (rkS HO378) (by decide)) hk (fun _ h => h.2)) (fun _ h => h.1))
 have n4_ := Aside0.mk (KeepBut.blk hk (g' := gb380) (o := .cells #[.slice Ao10 t373.length co10, .slice Ao15 t376.length co15] 27 (0, 0)) (pk BK380) NB380_372.out (by simp))
 have n5_ := Aside0.mk (hb)
 have n6_ := Aside0.mk (hi)
 clear BK368
 clear BK369
 clear HO375
 clear HO378
 clear BK380
 clear HB
 clear HI372
 have BK368 := n0_
 have BK369 := n1_
 have HO375 := n2_
 have HO378 := n3_
 have BK380 := n4_
 have HB := n5_
 have HI372 := n6_
 clear n0_ n1_ n2_ n3_ n4_ n5_ n6_
 (try clear hb)
 (try clear hb2)
 (try clear hk)
 (try clear hi)
 refine hK.out _ _ ⟨(blk_cell BK380.out 0).trans rfl, (blk_cell BK380.out 1).trans rfl⟩ (fun hHeld => ?_)
 clear hK K
 refine norm_ (a' := ?_) ?_ ?_
 rotate_left
 ·show Act.put _ (some 14) _ = _
  simp only [Act.put, List.setIfInBounds_toArray, List.set_cons_zero, List.set_cons_succ, i64_w, i32_w]
  rfl
 refine one_ (i := 5) (N := none) #[true, true, true, true, true, true, false] rfl rfl (by kernel_rfl) (by decide) (fun K hK => ?_)
 have hs19 : w18.cell? ⟨gb368, 0, none⟩ = some (.slice none 0 0) := (blk_cell BK368.out 0).trans rfl
 have hfs19 := blk_frozen BK368.out 0
 have hns19_1 := NB369_368.out
 have hns19_2 := NB380_368.out
 have hms19_1 := NB368_369.out
 have hms19_2 := NB368_380.out
 have hs20 : w18.cell? ⟨gb368, 1, none⟩ = some (.slice none 0 0) := (blk_cell BK368.out 1).trans rfl
 have hfs20 := blk_frozen BK368.out 1
 have hns20_1 := NB369_368.out
 have hns20_2 := NB380_368.out
 have hms20_1 := NB368_369.out
 have hms20_2 := NB368_380.out
 refine skip_ (w1 := ?_) (by rfl) rfl ?_ ?_
 rotate_left
 ·go_simp
  rfl
 refine hK.out _ _ ⟨((cell_far (p := ⟨gb368, _, none⟩) NB380_368.out _).trans (((cell_far (p := ⟨gb368, _, none⟩) NB380_368.out _).trans (hHeld.1)))), ((cell_far (p := ⟨gb368, _, none⟩) NB380_368.out _).trans (((cell_far (p := ⟨gb368, _, none⟩) NB380_368.out _).trans (hHeld.2))))⟩ (fun hHeld => ?_)
 clear hK K
 refine one_ (i := 6) (N := none) #[true, true, true, true, true, true, true] rfl rfl (by kernel_rfl) (by decide) (fun K hK => ?_)
 have hs21 : w18.cell? ⟨gb369, 0, none⟩ = some (.int .i64 0) := (blk_cell BK369.out 0).trans rfl
 have hfs21 := blk_frozen BK369.out 0
 have hns21_0 := NB368_369.out
 have hns21_2 := NB380_369.out
 have hms21_0 := NB369_368.out
 have hms21_2 := NB369_380.out
 have hs22 : w18.cell? ⟨gb369, 1, none⟩ = some (.int .i64 0) := (blk_cell BK369.out 1).trans rfl
 have hfs22 := blk_frozen BK369.out 1
 have hns22_0 := NB368_369.out
 have hns22_2 := NB380_369.out
 have hms22_0 := NB369_368.out
 have hms22_2 := NB369_380.out
 have hs23 : w18.cell? ⟨gb369, 2, none⟩ = some (.int .i64 0) := (blk_cell BK369.out 2).trans rfl
 have hfs23 := blk_frozen BK369.out 2
 have hns23_0 := NB368_369.out
 have hns23_2 := NB380_369.out
 have hms23_0 := NB369_368.out
 have hms23_2 := NB369_380.out
 refine skip_ (w1 := ?_) (by rfl) rfl ?_ ?_
 rotate_left
 ·go_simp
  rfl
 refine hK.out _ _ ⟨((cell_far (p := ⟨gb369, _, none⟩) NB380_369.out _).trans (((cell_far (p := ⟨gb369, _, none⟩) NB380_369.out _).trans (((cell_far (p := ⟨gb369, _, none⟩) NB380_369.out _).trans (hHeld.1)))))), ((cell_far (p := ⟨gb369, _, none⟩) NB380_369.out _).trans (((cell_far (p := ⟨gb369, _, none⟩) NB380_369.out _).trans (((cell_far (p := ⟨gb369, _, none⟩) NB380_369.out _).trans (hHeld.2))))))⟩ (fun hHeld => ?_)
 clear hK K
 refine done_ (by kernel_rfl) ?_
 try go_wp2
 refine bodyPost_ret (results_cc rfl _ _ gb368 gb369 27 52 #[.slice Ao10 t373.length co10, .slice Ao15 t376.length co15] #[.int .i64 t381, .int .i64 t382, .int .i64 t383] (0, 0) (0, 0) _ _ rfl (by refine blk_far ?_ NB368_369.out _; refine blk_far ?_ NB368_369.out _; refine blk_far ?_ NB368_369.out _; refine blk_put (cs := #[.slice Ao10 t373.length co10, .slice none 0 0]) ?_ 1 _ rfl; refine blk_put (cs := #[.slice none 0 0, .slice none 0 0]) ?_ 0 _ rfl; (with_reducible repeat (first | refine blk_drewN ?_ _ | refine blk_drew ?_ | refine blk_alloc ?_ _)); exact BK368.out) Try.underlying27 rfl (by kernel_rfl) rfl (by refine blk_put (cs := #[.int .i64 t381, .int .i64 t382, .int .i64 0]) ?_ 2 _ rfl; refine blk_put (cs := #[.int .i64 t381, .int .i64 0, .int .i64 0]) ?_ 1 _ rfl; refine blk_put (cs := #[.int .i64 0, .int .i64 0, .int .i64 0]) ?_ 0 _ rfl; refine blk_far ?_ NB369_368.out _; refine blk_far ?_ NB369_368.out _; (with_reducible repeat (first | refine blk_drewN ?_ _ | refine blk_drew ?_ | refine blk_alloc ?_ _)); exact BK369.out) Try.underlying52 rfl (by kernel_rfl)) rfl ?_
 exact ⟨_, _, by first | rfl | (simp [errW_none, errW_some] <;> rfl) | (simp [*, errW_none, errW_some] <;> rfl), by (with_reducible repeat (first | apply Kd.V_alloc | apply Kd.V_drewN | apply Kd.V_drew)); exact Kd.V_mono (Kd.V_far (p := ⟨gb369, 2, none⟩) (Kd.V_far (p := ⟨gb369, 1, none⟩) (Kd.V_far (p := ⟨gb369, 0, none⟩) (Kd.V_far (p := ⟨gb368, 1, none⟩) (Kd.V_far (p := ⟨gb368, 0, none⟩) (Kd.V_mono (Kd.V_mono HO375.out (fun k_ hk => (⟨hk, hk.2.2.1⟩ : _ ∧ k_ ≠ gb368))) (fun k_ hk => (⟨hk, hk.1.2.2.2.1⟩ : _ ∧ k_ ≠ gb369))) (fun _ hk => hk.1.2) (.slice Ao10 t373.length co10)) (fun _ hk => hk.1.2) (.slice Ao15 t376.length co15)) (fun _ hk => hk.2) (.int .i64 t381)) (fun _ hk => hk.2) (.int .i64 t382)) (fun _ hk => hk.2) (.int .i64 t383)) (fun _ hk => ⟨hk.1.1.1, hk.1.1.2.1⟩), by (with_reducible repeat (first | apply Kd.S_alloc | apply Kd.S_drewN | apply Kd.S_drew)); exact Kd.S_mono (Kd.S_far (p := ⟨gb369, 2, none⟩) (Kd.S_far (p := ⟨gb369, 1, none⟩) (Kd.S_far (p := ⟨gb369, 0, none⟩) (Kd.S_far (p := ⟨gb368, 1, none⟩) (Kd.S_far (p := ⟨gb368, 0, none⟩) (Kd.S_types (Kd.S_types HO378.out BK368.out (by decide)) BK369.out (by decide)) (fun _ hk => hk.1.2) (.slice Ao10 t373.length co10)) (fun _ hk => hk.1.2) (.slice Ao15 t376.length co15)) (fun _ hk => hk.2) (.int .i64 t381)) (fun _ hk => hk.2) (.int .i64 t382)) (fun _ hk => hk.2) (.int .i64 t383)) (fun _ hk => hk.1.1), by repeat (first | (with_reducible first | exact HB.out | apply below_alloc | apply pw_below_drewN | apply below_drew1 | refine below_set ?_ (IsS95.ge HI372.out) | refine below_set ?_ (Aside0.out (by assumption))) | exact HB.out)⟩

/-! ### impl_Customer_45: function 45 -/
def impl_Customer_45.f (l0 : List (S50)) : Option ((List (S50))) := (some (([] : List (S50)) : List (S50))).bind fun y385 => (if y385.length + l0.length < 8796093022208 then (some (y385 ++ l0)) else (none))
theorem impl_Customer_45.nilq0 (w : World) (d : Nat) (a : Option Addr) (n c : Nat) : (Op.equalIn (d + 1) 23 (.slice a n c) (.slice none 0 0)).run Try.prog w = .ok a.isNone w := by
  cases a <;> simp [Op.equalIn, run_underlying Try.underlying23]
theorem impl_Customer_45.nilq (w : World) (a : Option Addr) (n c : Nat) : (binOp .eql 23 (.slice a n c) (.slice none 0 0)).run Try.prog w = .ok (.bool a.isNone) w := by
  simp only [binOp]
  simp [Op.equal, Op.maxDepth, impl_Customer_45.nilq0 w 9999 a n c]
attribute [local go_sem] impl_Customer_45.nilq
set_option maxHeartbeats 8000000 in
set_option maxRecDepth 100000 in
theorem impl_Customer_45.calls (A0 : Option Addr) (c0 : Nat) (l0 : List (S50)) (r : List (S50)) (w : World) (hr0 : Kd.C k50 w A0 l0.length l0) (hc0 : l0.length ≤ c0) (h : impl_Customer_45.f l0 = some r) :
 Calls Try.prog 45 #[.slice A0 l0.length c0] w fun e w' => ∃ v0_ : Value, e = .returned (v0_) ∧ Kd.R k50 50 w' w.heap.size (fun _ => True) v0_ r ∧ Below w.heap.size w w' := by
 cases A0 with
 | none =>
  have e0_ : l0 = [] := by
   by_cases hz_ : 0 < l0.length
   ·obtain ⟨a_, ha_, -⟩ := hr0.2.2 hz_
    cases ha_
   ·exact List.length_eq_zero_iff.1 (by omega)
  subst e0_
  have e1_ : r = [] := by simpa [impl_Customer_45.f] using h.symm
  subst e1_
  clear h
  go_enter Try.func45, Try.ntmps45
  go_wp2
  go_ret
  exact ⟨_, by first | rfl | (simp; done), by first | exact Kd.R_nil _ _ _ _ _ | exact Kd.S_nil _ _ _ _ _ | exact Kd.N_nil _ _ _ _ _ | exact Kd.V_nil _ _ _ _ _ | exact Kd.Q_nil _ _ _ _ _, by repeat (first | (with_reducible first | exact Below.refl _ _ | apply below_alloc | apply pw_below_drewN | apply below_drew1) | exact Below.refl _ _)⟩
 | some A0 =>
  have HR0 := Aside0.mk hr0
  have HC0 := Aside0.mk hc0
  clear hr0 hc0
  have HB := Aside0.mk (Below.refl w.heap.size w)
  have H : ((some (([] : List (S50)) : List (S50))).bind fun y385 => (if y385.length + l0.length < 8796093022208 then (some (y385 ++ l0)) else (none))) = some r := h
  clear h
  obtain ⟨y385, hy385⟩ : ∃ y_ : List (S50), y_ = (([] : List (S50))) := ⟨_, rfl⟩
  replace H : (if y385.length + l0.length < 8796093022208 then (some (y385 ++ l0)) else (none)) = some r := by first | (rw [hy385]; with_reducible exact H) | (have H2_ := (Option.bind_some _ _).symm.trans H; rw [hy385]; with_reducible exact H2_) | (have H2_ := (Option.bind_some _ _).symm.trans H; with_reducible exact H2_) | with_reducible exact H | (rw [hy385]; exact H) | exact H
  have Ny385 := Aside0.mk hy385
  clear hy385
  by_cases c2 : y385.length + l0.length < 8796093022208
  ·rw [if_pos c2] at H
   have LMc2 := Aside0.mk c2
   clear c2
   obtain ⟨y388, hy388⟩ : ∃ y_ : List (S50), y_ = (y385 ++ l0) := ⟨_, rfl⟩
   replace H : (some y388) = some r := by first | (rw [hy388]; with_reducible exact H) | (have H2_ := (Option.bind_some _ _).symm.trans H; rw [hy388]; with_reducible exact H2_) | (have H2_ := (Option.bind_some _ _).symm.trans H; with_reducible exact H2_) | with_reducible exact H | (rw [hy388]; exact H) | exact H
   have Ny388 := Aside0.mk hy388
   clear hy388
   obtain rfl := Option.some.inj H
   go_enter Try.func45, Try.ntmps45
   go_wp2_with (first | ((with_reducible refine gate_dst (N := 5) rfl ?_); refine Kd.R_lit k50 _ 50 ?hg (N := 5) ?hd (xs := ([] : List (S50))) (inner := []) (ok := fun _ => True) (okp := fun _ => True) ?hr ?hp (fun _ hk => hk) trivial (Below.refl _ _) (Nat.le_refl _) (by simp) ?_; (case hd => rfl); (case hg => rfl); (case hr => first | (go_simp; done) | (go_simp; rfl)); (case hp => exact (Reps.none _ _)); intro v386 w3 ho4 hb hg_ hnew_; clear hg_ hnew_; (first | rw [← Ny385.out] at ho4 | (simp only [Int.reduceToNat] at ho4; rw [← Ny385.out] at ho4)); have n0_ := Aside0.mk (Kd.R_lower ho4 (below_size (bl0 HB))); have n1_ := Aside0.mk (below_step (bl0 HB) hb); clear HB; have HO387 := n0_; have HB := n1_; clear n0_ n1_; clear hb ho4) | ((with_reducible refine gate_builtin (b := .append) (xs := #[.tmp 5, .tmp 6]) rfl ?_); at_builtin; refine Kd.R_append_rows k50 (w0 := w) w.heap.size rfl (.tmp 5) (.tmp 6) 23 50 (.agg #[(.int .i64 0), (.int .i64 0)]) 16 rfl Try.underlying23 info50 rfl (by decide) (by omega) v386 y385 l0 _ _ _ (fun _ => True) (fun _ => False) rfl rfl ?aO ?aR (fun _ _ h => h) (fun _ h => h.elim) ?aF ?aB ?aS ?aL ?_; (case aR => repeat (first | exact (Kd.C_below HR0.out HB.out) | (with_reducible refine Kd.C_alloc ?_ _) | (with_reducible refine Kd.C_drewN ?_ _) | (with_reducible refine Kd.C_drew ?_))); (case aB => exact (bl0 HB)); (case aF => exact (fun _ _ => trivial)); (case aO => exact (rkR HO387)); (case aS => exact (below_size (bl0 HB))); (case aL => have := LMc2.out; omega); intro v389 w5 ho hb hg hat; rw [← Ny388.out] at ho; have n0_ := Aside0.mk (hb); have n1_ := Aside0.mk (ho); clear HB; clear HO387; have HB := n0_; have HO390 := n1_; clear n0_ n1_; clear ho hb hg hat))
   go_ret
   exact ⟨_, by first | rfl | (simp [errW_none, errW_some] <;> rfl) | (simp [*, errW_none, errW_some] <;> rfl), by (with_reducible repeat (first | apply Kd.R_alloc | apply Kd.R_drewN | apply Kd.R_drew)); exact HO390.out, by repeat (first | (with_reducible first | exact HB.out | apply below_alloc | apply pw_below_drewN | apply below_drew1) | exact HB.out)⟩
  ·rw [if_neg c2] at H
   exact absurd H (by simp)

/-! ### impl_copyDesk: function 57 -/
def impl_copyDesk.l0 : Nat → List (List (S50)) → Int → Int → List (S50) → List (List (S50)) → Option ((List (S50)) × (List (List (S50))))
  | 0, _, _, _, _, _ => none
  | k + 1, x11, x12, x13, x397000, x397001 => if x13 < x12 then (if 0 ≤ x13 then (if x13 < (x11.length : Int) then ((impl_Customer_45.f (rd_L2 x11 x13)).bind fun t398 => (if x397001.length < 5864062014805 then (impl_copyDesk.l0 k x11 x12 (wrap64 (x13 + 1)) x397000 (x397001 ++ [t398])) else (none))) else (none)) else (none)) else (some (x397000, x397001))
def impl_copyDesk.f (k : Nat) (l0_0 : List (S50)) (l0_1 : List (List (S50))) : Option ((List (S50)) × (List (List (S50)))) := (impl_Customer_45.f l0_0).bind fun t393 => (impl_copyDesk.l0 k l0_1 (l0_1.length : Int) 0 t393 ([] : List (List (S50))))
def impl_copyDesk.T5 : Bool × List (List Nat × List Nat) := (true, [([], []), ([0], [0]), ([], []), ([2], [2]), ([3], [3]), ([1, 4, 3], [1, 4]), ([0, 1, 2, 3, 4, 5], []), ([6, 5, 5, 0, 1, 2, 3, 4, 5], [5, 6])])
def impl_copyDesk.B5 : List Nat := [0, 1, 0, 4, 12, 31, 63, 127]
theorem impl_copyDesk.tab5 : rtab .any (opsOf Try.f57 5) = impl_copyDesk.T5 := by kernel_rfl
theorem impl_copyDesk.bits5 : waitsOk impl_copyDesk.T5.2 impl_copyDesk.B5 = true := by kernel_rfl
set_option maxHeartbeats 8000000 in
set_option maxRecDepth 100000 in
theorem impl_copyDesk.calls (k : Nat) (A0_0 : Option Addr) (c0_0 : Nat) (l0_0 : List (S50)) (A0_1 : Option Addr) (c0_1 : Nat) (l0_1 : List (List (S50))) (r1 : List (S50)) (r2 : List (List (S50))) (w : World) (hr0_0 : Kd.C k50 w A0_0 l0_0.length l0_0) (hc0_0 : l0_0.length ≤ c0_0) (hr0_1 : Kd.C (Kd.slice 50 k50) w A0_1 l0_1.length l0_1) (hc0_1 : l0_1.length ≤ c0_1) (h : impl_copyDesk.f k l0_0 l0_1 = some (r1, r2)) :
 Calls Try.prog 57 #[.agg #[.slice A0_0 l0_0.length c0_0, .slice A0_1 l0_1.length c0_1]] w fun e w' => ∃ v0_ v1_ : Value, e = .returned (.agg #[v0_, v1_]) ∧ Kd.R k50 50 w' w.heap.size (fun _ => True) v0_ r1 ∧ Kd.S (Kd.slice 50 k50) 23 w' w.heap.size (fun k_ => some k_ ≠ (v0_ : Value).ownBlock) v1_ r2 ∧ Below w.heap.size w w' := by
 have hu27 := Try.underlying27
 have HR0_0 := Aside0.mk hr0_0
 have HC0_0 := Aside0.mk hc0_0
 clear hr0_0 hc0_0
 have HR0_1 := Aside0.mk hr0_1
 have HC0_1 := Aside0.mk hc0_1
 clear hr0_1 hc0_1
 have HB := Aside0.mk (Below.refl w.heap.size w)
 have H : ((impl_Customer_45.f l0_0).bind fun t393 => (impl_copyDesk.l0 k l0_1 (l0_1.length : Int) 0 t393 ([] : List (List (S50))))) = some (r1, r2) := h
 clear h
 replace H := Option.bind_eq_some_iff.mp H
 obtain ⟨t393, A20, H⟩ := H
 replace H : (impl_copyDesk.l0 k l0_1 (l0_1.length : Int) 0 t393 ([] : List (List (S50)))) = some (r1, r2) := H
 have A2 := Aside0.mk A20
 clear A20
 have H' := Aside0.mk H
 clear H
 go_enter Try.func57, Try.ntmps57
 go_wp2_with (first | ((with_reducible refine gate_dst (N := 1) rfl ?_); refine box_event ?hg (N := 1) ?hd (cs := #[.slice A0_0 l0_0.length c0_0, .slice A0_1 l0_1.length c0_1]) (t := 27) ?hr ?_; (case hd => rfl); (case hg => rfl); (case hr => first | (go_simp; done) | (go_simp; rfl)); intro gb391 hg w3 hbox hb; have n0_ := Aside0.mk (below_step (bl0 HB) hb); have n1_ := Aside0.mk (hbox); have n2_ := Aside0.mk ((by rw [hg]; exact (below_size (bl0 HB)) : w.heap.size ≤ gb391)); have n3_ := Aside0.mk ((by rw [hg]; exact (below_size (bl0 HB)) : w.heap.size ≤ gb391)); clear HB; have HB := n0_; have BK391 := n1_; have GW391 := n2_; have GE391 := n3_; clear n0_ n1_ n2_ n3_; clear hb hbox hg) | ((with_reducible refine gate_dst (N := 2) rfl ?_); refine box_event ?hg (N := 2) ?hd (cs := #[.slice none 0 0, .slice none 0 0]) (t := 27) ?hr ?_; (case hd => rfl); (case hg => rfl); (case hr => first | (go_simp; done) | (go_simp; rfl)); intro gb392 hg w4 hbox hb; have n0_ := Aside0.mk (blk_below (g := gb391) (o := .cells #[.slice A0_0 l0_0.length c0_0, .slice A0_1 l0_1.length c0_1] 27 (0, 0)) (pk BK391) hb); have n1_ := Aside0.mk (below_step (blg HB) hb); have n2_ := Aside0.mk (hbox); have n3_ := Aside0.mk ((by rw [hg]; exact (below_size (blg HB)) : w.heap.size ≤ gb392)); have n4_ := Aside0.mk ((by rw [hg]; exact (below_size (blg HB)) : w.heap.size ≤ gb392)); have n5_ := Aside0.mk ((by rw [hg]; exact Nat.ne_of_lt (blk_lt (g := gb391) (o := .cells #[.slice A0_0 l0_0.length c0_0, .slice A0_1 l0_1.length c0_1] 27 (0, 0)) (pk BK391)) : gb391 ≠ gb392)); have n6_ := Aside0.mk ((by rw [hg]; exact Nat.ne_of_gt (blk_lt (g := gb391) (o := .cells #[.slice A0_0 l0_0.length c0_0, .slice A0_1 l0_1.length c0_1] 27 (0, 0)) (pk BK391)) : gb392 ≠ gb391)); clear BK391; clear HB; have BK391 := n0_; have HB := n1_; have BK392 := n2_; have GW392 := n3_; have GE392 := n4_; have NB391_392 := n5_; have NB392_391 := n6_; clear n0_ n1_ n2_ n3_ n4_ n5_ n6_; clear hb hbox hg; have hnb5 := NB391_392.out; have hnc5 := NB392_391.out; have hcz6_0 : w4.cell? ⟨gb391, 0, none⟩ = some (.slice A0_0 l0_0.length c0_0) := (blk_cell BK391.out 0).trans rfl; have hcz6_1 : w4.cell? ⟨gb391, 1, none⟩ = some (.slice A0_1 l0_1.length c0_1) := (blk_cell BK391.out 1).trans rfl; have hfz6_0 := blk_frozen BK391.out 0; have hfz6_1 := blk_frozen BK391.out 1) | ((with_reducible refine gate_callee (f := 45) rfl ?_); refine goesL_ (some 8) rfl rfl Try.func45 (by kernel_rfl) rfl #[.slice A0_0 l0_0.length c0_0] rfl (by (try simp only [List.map_toArray, List.map_cons, List.map_nil]); first | done | rfl | (simp only [List.length_drop, List.length_take]; rfl)) ?_; (with_reducible refine (impl_Customer_45.calls _ _ l0_0 t393 _ ?side1 ?side2 A2.out).mono ?_); (case side1 => repeat (first | exact (Kd.C_below HR0_0.out HB.out) | (with_reducible refine Kd.C_alloc ?_ _) | (with_reducible refine Kd.C_drewN ?_ _) | (with_reducible refine Kd.C_drew ?_))); (case side2 => exact HC0_0.out); rintro e w7 ⟨v394, rfl, ho0, hb⟩; refine ⟨_, rfl, ?_⟩; have n0_ := Aside0.mk (Kd.R_lower ho0 (below_size (blg HB))); have n1_ := Aside0.mk (blk_below (g := gb391) (o := .cells #[.slice A0_0 l0_0.length c0_0, .slice A0_1 l0_1.length c0_1] 27 (0, 0)) (pk BK391) hb); have n2_ := Aside0.mk (blk_below (g := gb392) (o := .cells #[.slice none 0 0, .slice none 0 0] 27 (0, 0)) (pk BK392) hb); have n3_ := Aside0.mk (below_step (blg HB) hb); clear BK391; clear BK392; clear HB; have HO395 := n0_; have BK391 := n1_; have BK392 := n2_; have HB := n3_; clear n0_ n1_ n2_ n3_; (try clear hb); (try clear hb2); (try clear hk); (try clear hi); (try clear ho0); obtain ⟨Ao8, co8, eo8⟩ := Kd.R_slice HO395.out; subst eo8) | ((with_reducible refine gate_dst (N := 3) rfl ?_); refine box_event ?hg (N := 3) ?hd (cs := #[.slice none 0 0, .slice none 0 0]) (t := 27) ?hr ?_; (case hd => rfl); (case hg => rfl); (case hr => first | (go_simp; done) | (go_simp; rfl)); intro gb396 hg w9 hbox hb; have n0_ := Aside0.mk (Kd.R_below (rkR HO395) hb); have n1_ := Aside0.mk (blk_below (g := gb391) (o := .cells #[.slice A0_0 l0_0.length c0_0, .slice A0_1 l0_1.length c0_1] 27 (0, 0)) (pk BK391) hb); have n2_ := Aside0.mk (blk_below (g := gb392) (o := .cells #[.slice none 0 0, .slice none 0 0] 27 (0, 0)) (pk BK392) hb); have n3_ := Aside0.mk (below_step (blg HB) hb); have n4_ := Aside0.mk (hbox); have n5_ := Aside0.mk ((by rw [hg]; exact (below_size (blg HB)) : w.heap.size ≤ gb396)); have n6_ := Aside0.mk ((by rw [hg]; exact (below_size (blg HB)) : w.heap.size ≤ gb396)); have n7_ := Aside0.mk ((by rw [hg]; exact Nat.ne_of_lt (blk_lt (g := gb391) (o := .cells #[.slice A0_0 l0_0.length c0_0, .slice A0_1 l0_1.length c0_1] 27 (0, 0)) (pk BK391)) : gb391 ≠ gb396)); have n8_ := Aside0.mk ((by rw [hg]; exact Nat.ne_of_gt (blk_lt (g := gb391) (o := .cells #[.slice A0_0 l0_0.length c0_0, .slice A0_1 l0_1.length c0_1] 27 (0, 0)) (pk BK391)) : gb396 ≠ gb391)); have n9_ := Aside0.mk ((by rw [hg]; exact Nat.ne_of_lt (blk_lt (g := gb392) (o := .cells #[.slice none 0 0, .slice none 0 0] 27 (0, 0)) (pk BK392)) : gb392 ≠ gb396)); have n10_ := Aside0.mk ((by rw [hg]; exact Nat.ne_of_gt (blk_lt (g := gb392) (o := .cells #[.slice none 0 0, .slice none 0 0] 27 (0, 0)) (pk BK392)) : gb396 ≠ gb392)); clear HO395; clear BK391; clear BK392; clear HB; have HO395 := n0_; have BK391 := n1_; have BK392 := n2_; have HB := n3_; have BK396 := n4_; have GW396 := n5_; have GE396 := n6_; have NB391_396 := n7_; have NB396_391 := n8_; have NB392_396 := n9_; have NB396_392 := n10_; clear n0_ n1_ n2_ n3_ n4_ n5_ n6_ n7_ n8_ n9_ n10_; clear hb hbox hg; have hnb10 := NB396_391.out; have hnc10 := NB391_396.out; have hnb11 := NB396_392.out; have hnc11 := NB392_396.out; have hcz12_0 : w9.cell? ⟨gb396, 0, none⟩ = some (.slice none 0 0) := (blk_cell BK396.out 0).trans rfl; have hcz12_1 : w9.cell? ⟨gb396, 1, none⟩ = some (.slice none 0 0) := (blk_cell BK396.out 1).trans rfl; have hfz12_0 := blk_frozen BK396.out 0; have hfz12_1 := blk_frozen BK396.out 1; have hcz13_0 : w9.cell? ⟨gb391, 0, none⟩ = some (.slice A0_0 l0_0.length c0_0) := (blk_cell BK391.out 0).trans rfl; have hcz13_1 : w9.cell? ⟨gb391, 1, none⟩ = some (.slice A0_1 l0_1.length c0_1) := (blk_cell BK391.out 1).trans rfl; have hfz13_0 := blk_frozen BK391.out 0; have hfz13_1 := blk_frozen BK391.out 1))
 go_loopg [13] k (fun kq v13 w' => ∃ (x13_1 : Int) (x397001_1 : List (List (S50))) (u397001 : Value), v13 = .int .i64 x13_1 ∧ Aside0 (impl_copyDesk.l0 kq l0_1 (l0_1.length : Int) x13_1 t393 x397001_1 = some (r1, r2)) ∧ Aside0 (kq ≤ k) ∧ Aside0 (Kd.R k50 50 w' w.heap.size (fun _ => True) (.slice Ao8 t393.length co8) t393) ∧ Aside0 (Kd.S (Kd.slice 50 k50) 23 w' w.heap.size (fun k_ => some k_ ≠ ((.slice Ao8 t393.length co8) : Value).ownBlock) u397001 x397001_1) ∧ Aside0 (w'.heap[gb391]? = some (.cells #[(.slice A0_0 l0_0.length c0_0), (.slice A0_1 l0_1.length c0_1)] 27 (0, 0))) ∧ Aside0 (w'.heap[gb392]? = some (.cells #[(.slice none 0 0), (.slice none 0 0)] 27 (0, 0))) ∧ Aside0 (w'.heap[gb396]? = some (.cells #[(.slice Ao8 t393.length co8), u397001] 27 (0, 0))) ∧ Aside0 (Below w.heap.size w w'))
 case atStart => exact ⟨(0), (([] : List (List (S50)))), (.slice none 0 0), (by first | rfl | (simp; done) | (simp [*]; done)), H', ⟨Nat.le_refl _⟩, ⟨by (with_reducible repeat (first | apply Kd.R_alloc | apply Kd.R_drewN | apply Kd.R_drew)); exact Kd.R_mono (Kd.R_far (p := ⟨gb396, 1, none⟩) (Kd.R_far (p := ⟨gb396, 0, none⟩) (Kd.R_types HO395.out BK396.out (by decide)) (fun _ hk => hk.2) (.slice Ao8 t393.length co8)) (fun _ hk => hk.2) (.slice none 0 0)) (fun _ hk => trivial)⟩, ⟨by first | exact Kd.S_nil _ _ _ _ _ | exact Kd.N_nil _ _ _ _ _ | exact Kd.V_nil _ _ _ _ _ | exact Kd.Q_nil _ _ _ _ _ | exact Kd.R_nil _ _ _ _ _⟩, ⟨by refine blk_far ?_ NB391_396.out _; refine blk_far ?_ NB391_396.out _; (with_reducible repeat (first | refine blk_drewN ?_ _ | refine blk_drew ?_ | refine blk_alloc ?_ _)); exact BK391.out⟩, ⟨by refine blk_far ?_ NB392_396.out _; refine blk_far ?_ NB392_396.out _; (with_reducible repeat (first | refine blk_drewN ?_ _ | refine blk_drew ?_ | refine blk_alloc ?_ _)); exact BK392.out⟩, ⟨by refine blk_put (cs := #[.slice Ao8 t393.length co8, .slice none 0 0]) ?_ 1 _ rfl; refine blk_put (cs := #[.slice none 0 0, .slice none 0 0]) ?_ 0 _ rfl; (with_reducible repeat (first | refine blk_drewN ?_ _ | refine blk_drew ?_ | refine blk_alloc ?_ _)); exact BK396.out⟩, ⟨by repeat (first | (with_reducible first | exact HB.out | apply below_alloc | apply pw_below_drewN | apply below_drew1 | refine below_set ?_ (Aside0.out (by assumption))) | exact HB.out)⟩⟩
 case round =>
  clear H'
  try clear c1
  try clear p2
  try clear c4
  try clear c5
  try clear c10
  try clear c11
  try clear hcz12_0
  try clear hcz12_1
  try clear hcz13_0
  try clear hcz13_1
  try clear hcz6_0
  try clear hcz6_1
  try clear hfz12_0
  try clear hfz12_1
  try clear hfz13_0
  try clear hfz13_1
  try clear hfz6_0
  try clear hfz6_1
  obtain ⟨x13_1, x397001_1, u397001, rfl, HA, HK1, HO_397000, HO_397001, BK391, BK392, BK396, HB⟩ := hrel
  cases gk with
  | zero => exact absurd HA.out (by simp [impl_copyDesk.l0])
  | succ k1 =>
   have H := HA.out
   clear HA
   simp only [impl_copyDesk.l0] at H
   by_cases c14 : x13_1 < (l0_1.length : Int)
   ·rw [if_pos c14] at H
    have c14b0 : decide (x13_1 < (l0_1.length : Int)) = true := decide_eq_true c14
    clear c14
    by_cases c15 : 0 ≤ x13_1
    ·rw [if_pos c15] at H
     have c15b0 : decide (0 ≤ x13_1) = true := decide_eq_true c15
     clear c15
     by_cases c16 : x13_1 < (l0_1.length : Int)
     ·rw [if_pos c16] at H
      have c16b0 : decide (x13_1 < (l0_1.length : Int)) = true := decide_eq_true c16
      clear c16
      replace H := Option.bind_eq_some_iff.mp H
      obtain ⟨t398, A170, H⟩ := H
      replace H : (if x397001_1.length < 5864062014805 then (impl_copyDesk.l0 k1 l0_1 (l0_1.length : Int) (wrap64 (x13_1 + 1)) t393 (x397001_1 ++ [t398])) else (none)) = some (r1, r2) := H
      have A17 := Aside0.mk A170
      clear A170
      by_cases c18 : x397001_1.length < 5864062014805
      ·rw [if_pos c18] at H
       have LMc18 := Aside0.mk c18
       clear c18
       obtain ⟨y401, hy401⟩ : ∃ y_ : List (List (S50)), y_ = (x397001_1 ++ [t398]) := ⟨_, rfl⟩
       replace H : (impl_copyDesk.l0 k1 l0_1 (l0_1.length : Int) (wrap64 (x13_1 + 1)) t393 y401) = some (r1, r2) := by first | (rw [hy401]; with_reducible exact H) | (have H2_ := (Option.bind_some _ _).symm.trans H; rw [hy401]; with_reducible exact H2_) | (have H2_ := (Option.bind_some _ _).symm.trans H; with_reducible exact H2_) | with_reducible exact H | (rw [hy401]; exact H) | exact H
       have Ny401 := Aside0.mk hy401
       clear hy401
       have H' := Aside0.mk H
       clear H
       have p397 : 0 ≤ (x13_1 : Int) := of_decide_eq_true (by first | (with_reducible assumption) | assumption)
       have q397 : x13_1 < (l0_1.length : Int) := of_decide_eq_true (by first | (with_reducible assumption) | assumption)
       obtain ⟨ad397, A397_0, c397_0, e397, hx397_0, hl397_0, hi397_0⟩ := at_L2 HR0_1.out x13_1 p397 q397
       cases e397
       replace hx397_0 := (HB.out.cell (World.block_lt_of_cell? w _ hx397_0)).trans hx397_0
       have HR397_0 := Aside0.mk hi397_0
       have HC397_0 := Aside0.mk hl397_0
       clear hi397_0 hl397_0
       replace p397 := eq_true p397
       replace q397 := eq_true q397
       try go_wp2
       have n0_ := Aside0.mk (Kd.R_drew HO_397000.out)
       have n1_ := Aside0.mk (Kd.S_drew HO_397001.out)
       have n2_ := Aside0.mk (blk_drew BK391.out)
       have n3_ := Aside0.mk (blk_drew BK392.out)
       have n4_ := Aside0.mk (blk_drew BK396.out)
       have n5_ := Aside0.mk (below_drew1 HB.out)
       clear HO_397000
       clear HO_397001
       clear BK391
       clear BK392
       clear BK396
       clear HB
       have HO_397000 := n0_
       have HO_397001 := n1_
       have BK391 := n2_
       have BK392 := n3_
       have BK396 := n4_
       have HB := n5_
       clear n0_ n1_ n2_ n3_ n4_ n5_
       refine start_ (n := 8) (S := fun w' => w'.cell? ⟨gb396, 0, none⟩ = some (.slice Ao8 t393.length co8) ∧ w'.cell? ⟨gb396, 1, none⟩ = some (u397001)) (ds := [7]) #[false, false, false, false, false, false, false, false] (by kernel_rfl) rfl rfl ⟨(blk_cell BK396.out 0).trans rfl, (blk_cell BK396.out 1).trans rfl⟩ (fun hHeld => ?_); refine with_tabW impl_copyDesk.tab5 impl_copyDesk.bits5 (fun HT_ HW_ => ?_)
       generalize wr.drew = w19 at HO_397000 HO_397001 BK391 BK392 BK396 HB hHeld ⊢
       refine pure_ (i := 0) (N := some 17) (v := ?_) (a' := ?_) #[true, false, false, false, false, false, false, false] rfl rfl (any_of HT_.out (by kernel_rfl)) (fun _ _ _ h => h) (Or.inl ⟨by rfl, ?_⟩) ?_ ?_
       rotate_left
       ·intro w'
        go_simp
        with_reducible rfl
       rotate_left
       ·simp only [Act.put, List.setIfInBounds_toArray, List.set_cons_zero, List.set_cons_succ, i64_w, i32_w]
        rfl
       refine pure_ (i := 2) (N := some 19) (v := ?_) (a' := ?_) #[true, false, true, false, false, false, false, false] rfl rfl (any_of HT_.out (by kernel_rfl)) (fun _ _ _ h => h) (Or.inl ⟨by rfl, ?_⟩) ?_ ?_
       rotate_left
       ·intro w'
        go_simp
        with_reducible rfl
       rotate_left
       ·simp only [Act.put, List.setIfInBounds_toArray, List.set_cons_zero, List.set_cons_succ, i64_w, i32_w]
        rfl
       refine take_ (i := 1) (N := some 18) (v := ?_) (a' := ?_) #[true, true, true, false, false, false, false, false] rfl rfl (take_ofW HT_.out HW_.out (by kernel_rfl)) (fun _ _ _ h => h) (Or.inl ⟨by rfl, ?_⟩) hHeld ?_ ?_
       rotate_left
       ·rintro w' ⟨s0, s1⟩
        go_simp
        with_reducible rfl
       rotate_left
       ·simp only [Act.put, List.setIfInBounds_toArray, List.set_cons_zero, List.set_cons_succ, i64_w, i32_w]
        rfl
       refine one_ (i := 3) (N := some 20) #[true, true, true, true, false, false, false, false] rfl rfl (one_of HT_.out (by kernel_rfl)) (by decide) (fun K hK => ?_)
       refine goes_ Try.func45 (by kernel_rfl) rfl #[.slice A397_0 (rd_L2 l0_1 x13_1).length c397_0] (by rfl) rfl rfl (by (try simp only [List.map_toArray, List.map_cons, List.map_nil]); first | done | rfl | (simp only [List.length_drop, List.length_take]; rfl)) ?_
       with_reducible refine (impl_Customer_45.calls _ _ (rd_L2 l0_1 x13_1) t398 _ ?side1 ?side2 A17.out).mono ?_
       (case side1 => repeat (first | exact (Kd.C_below HR397_0.out HB.out) | (with_reducible refine Kd.C_alloc ?_ _) | (with_reducible refine Kd.C_drewN ?_ _) | (with_reducible refine Kd.C_drew ?_)))
       (case side2 => exact HC397_0.out)
       rintro e w20 ⟨v399, rfl, ho0, hb⟩
       refine ⟨_, rfl, ?_⟩
       have n0_ := Aside0.mk (Kd.R_elder' (rkR HO_397000) (Kd.R_base ho0) hb)
       have n1_ := Aside0.mk (Kd.S_elder' (rkS HO_397001) (Kd.R_base ho0) hb)
       have n2_ := Aside0.mk (Kd.R_lower (Kd.R_new' ho0 (Kd.R_lt (rkR HO_397000))) (below_size (blg HB)))
       have n3_ := Aside0.mk (blk_below (g := gb391) (o := .cells #[.slice A0_0 l0_0.length c0_0, .slice (some ad397) l0_1.length c0_1] 27 (0, 0)) (pk BK391) hb)
       have n4_ := Aside0.mk (blk_below (g := gb392) (o := .cells #[.slice none 0 0, .slice none 0 0] 27 (0, 0)) (pk BK392) hb)
       have n5_ := Aside0.mk (blk_below (g := gb396) (o := .cells #[.slice Ao8 t393.length co8, u397001] 27 (0, 0)) (pk BK396) hb)
       have n6_ := Aside0.mk (below_step (blg HB) hb)
       clear HO_397000
       clear HO_397001
       clear BK391
       clear BK392
       clear BK396
       clear HB
       have HO_397000 := n0_
       have HO_397001 := n1_
       have HO400 := n2_
       have BK391 := n3_
       have BK392 := n4_
       have BK396 := n5_
       have HB := n6_
       clear n0_ n1_ n2_ n3_ n4_ n5_ n6_
       (try clear hb)
       (try clear hb2)
       (try clear hk)
       (try clear hi)
       (try clear ho0)
       obtain ⟨Ao22, co22, eo22⟩ := Kd.R_slice HO400.out
       (first | subst eo22 | (injection eo22 with f1_ f2_ f3_; have f4_ := f1_.symm; have f5_ := f3_.symm; clear f1_ f2_ f3_; subst f4_; subst f5_))
       refine hK.out _ _ ⟨(blk_cell BK396.out 0).trans rfl, (blk_cell BK396.out 1).trans rfl⟩ (fun hHeld => ?_)
       clear hK K
       refine norm_ (a' := ?_) ?_ ?_
       rotate_left
       ·show Act.put _ (some 20) _ = _
        simp only [Act.put, List.setIfInBounds_toArray, List.set_cons_zero, List.set_cons_succ, i64_w, i32_w]
        rfl
       refine one_ (i := 4) (N := some 21) #[true, true, true, true, true, false, false, false] rfl rfl (one_of HT_.out (by kernel_rfl)) (by decide) (fun K hK => ?_)
       refine value_ (w1 := ?_) (v := ?_) (by rfl) rfl ?_ ?_
       rotate_left 2
       ·go_simp
        constructor
        ·rfl
        ·rfl
       refine hK.out _ _ ⟨(blk_cell (blk_alloc BK396.out _) 0).trans rfl, (blk_cell (blk_alloc BK396.out _) 1).trans rfl⟩ (fun hHeld => ?_)
       clear hK K
       refine norm_ (a' := ?_) ?_ ?_
       rotate_left
       ·show Act.put _ (some 21) _ = _
        simp only [Act.put, List.setIfInBounds_toArray, List.set_cons_zero, List.set_cons_succ, i64_w, i32_w]
        rfl
       refine one_ (i := 5) (N := some 22) #[true, true, true, true, true, true, false, false] rfl rfl (one_of HT_.out (by kernel_rfl)) (by decide) (fun K hK => ?_)
       refine Kd.S_append_step (Kd.slice 50 k50) (w0 := w) w.heap.size (by rfl) (.tmp 18) (.tmp 21) 25 23 (.slice none 0 0) 24 rfl Try.underlying25 info23 rfl (by decide) (by omega) u397001 x397001_1 t398 [.slice Ao22 t398.length co22] (fun k_ => some k_ ≠ (.slice Ao8 t393.length co8 : Value).ownBlock) (fun k_ => some k_ = (.slice Ao22 t398.length co22 : Value).ownBlock) rfl rfl ?aP (fun k_ hk_ => ((Kd.R_mono (ok' := fun k_ => ((fun k_ => some k_ ≠ (.slice Ao8 t393.length co8 : Value).ownBlock)) k_ ∧ some k_ ≠ (u397001 : Value).ownBlock) (Kd.R_apart' (HO400.out) (Kd.S_typed HO_397001.out) (by decide)) (fun k_ hk => ⟨hk.1.2, hk.2⟩))).1 k_ hk_.symm) ?aF ?aO ?aB ?aS ?aL ?_
       (case aP => exact Kd.M_row (Kd.R_mono (Kd.R_tight rfl (Kd.R_mono (ok' := fun k_ => ((fun k_ => some k_ ≠ (.slice Ao8 t393.length co8 : Value).ownBlock)) k_ ∧ some k_ ≠ (u397001 : Value).ownBlock) (Kd.R_apart' (HO400.out) (Kd.S_typed HO_397001.out) (by decide)) (fun k_ hk => ⟨hk.1.2, hk.2⟩))) (fun _ h_ => h_)))
       (case aB => exact (blg HB))
       (case aF => exact (fun k_ hk => Kd.fresh' (Kd.R_lt (rkR HO_397000)) k_ hk))
       (case aO => exact (by (with_reducible repeat (first | apply Kd.S_alloc | apply Kd.S_drewN | apply Kd.S_drew)); exact Kd.S_mono HO_397001.out (fun k_ hk => ⟨hk.1, fun e_ => hk.2 e_⟩)))
       (case aS => exact (below_size (blg HB)))
       (case aL => have := LMc18.out; omega)
       intro v402 w21 ho hb hg hat
       rw [← Ny401.out] at ho
       have n0_ := Aside0.mk (Kd.R_over' (rkR HO_397000) (Kd.S_typed (rkS HO_397001)) (by decide) hg)
       have n1_ := Aside0.mk (blk_grown (g := gb391) (o := .cells #[.slice A0_0 l0_0.length c0_0, .slice (some ad397) l0_1.length c0_1] 27 (0, 0)) (pk BK391) hg (Kd.S_ne HO_397001.out BK391.out (by decide)))
       have n2_ := Aside0.mk (blk_grown (g := gb392) (o := .cells #[.slice none 0 0, .slice none 0 0] 27 (0, 0)) (pk BK392) hg (Kd.S_ne HO_397001.out BK392.out (by decide)))
       have n3_ := Aside0.mk (blk_grown (g := gb396) (o := .cells #[.slice Ao8 t393.length co8, u397001] 27 (0, 0)) (pk BK396) hg (Kd.S_ne HO_397001.out BK396.out (by decide)))
       have n4_ := Aside0.mk (hb)
       have n5_ := Aside0.mk (ho)
       clear HO_397000
       clear BK391
       clear BK392
       clear BK396
       clear HB
       clear HO_397001
       clear HO400
       have HO_397000 := n0_
       have BK391 := n1_
       have BK392 := n2_
       have BK396 := n3_
       have HB := n4_
       have HO403 := n5_
       clear n0_ n1_ n2_ n3_ n4_ n5_
       clear ho hb hg hat
       obtain ⟨Ao23, co23, eo23⟩ := Kd.S_slice HO403.out
       (first | subst eo23 | (injection eo23 with f1_ f2_ f3_; have f4_ := f1_.symm; have f5_ := f3_.symm; clear f1_ f2_ f3_; subst f4_; subst f5_))
       refine hK.out _ _ ⟨(blk_cell BK396.out 0).trans rfl, (blk_cell BK396.out 1).trans rfl⟩ (fun hHeld => ?_)
       clear hK K
       refine norm_ (a' := ?_) ?_ ?_
       rotate_left
       ·show Act.put _ (some 22) _ = _
        simp only [Act.put, List.setIfInBounds_toArray, List.set_cons_zero, List.set_cons_succ, i64_w, i32_w]
        rfl
       refine pure_ (i := 6) (N := some 23) (v := ?_) (a' := ?_) #[true, true, true, true, true, true, true, false] rfl rfl (any_of HT_.out (by kernel_rfl)) (fun _ _ _ h => h) (Or.inl ⟨by rfl, ?_⟩) ?_ ?_
       rotate_left
       ·intro w'
        go_simp
        with_reducible rfl
       rotate_left
       ·simp only [Act.put, List.setIfInBounds_toArray, List.set_cons_zero, List.set_cons_succ, i64_w, i32_w]
        rfl
       refine last_ (i := 7) (N := none) #[true, true, true, true, true, true, true, true] rfl rfl (one_of HT_.out (by kernel_rfl)) (by decide) (fun K hK => ?_)
       have hs24 : w21.cell? ⟨gb396, 1, none⟩ = some (u397001) := (blk_cell BK396.out 1).trans rfl
       have hfs24 := blk_frozen BK396.out 1
       have hns24_0 := NB391_396.out
       have hns24_1 := NB392_396.out
       have hms24_0 := NB396_391.out
       have hms24_1 := NB396_392.out
       refine skip_ (w1 := ?_) (by rfl) rfl ?_ ?_
       rotate_left
       ·go_simp
        rfl
       refine hK.out _ _ ?_
       clear hK K
       refine done_ (done_of HT_.out (by kernel_rfl)) ?_
       try go_wp2
       go_roundg k1
       case measure => have := HK1.out; omega
       case rel => exact ⟨(wrap64 (x13_1 + 1)), (y401), (.slice Ao23 y401.length co23), (by first | rfl | (simp; done) | (simp [*]; done)), H', ⟨by have := HK1.out; omega⟩, ⟨by (with_reducible repeat (first | apply Kd.R_alloc | apply Kd.R_drewN | apply Kd.R_drew)); exact Kd.R_mono (Kd.R_far (p := ⟨gb396, 1, none⟩) (Kd.R_types HO_397000.out BK396.out (by decide)) (fun _ hk => hk.2) (.slice Ao23 y401.length co23)) (fun _ hk => trivial)⟩, ⟨by (with_reducible repeat (first | apply Kd.S_alloc | apply Kd.S_drewN | apply Kd.S_drew)); exact Kd.S_mono (Kd.S_far (p := ⟨gb396, 1, none⟩) (Kd.S_types HO403.out BK396.out (by decide)) (fun _ hk => hk.2) (.slice Ao23 y401.length co23)) (fun _ hk => hk.1)⟩, ⟨by refine blk_far ?_ NB391_396.out _; (with_reducible repeat (first | refine blk_drewN ?_ _ | refine blk_drew ?_ | refine blk_alloc ?_ _)); exact BK391.out⟩, ⟨by refine blk_far ?_ NB392_396.out _; (with_reducible repeat (first | refine blk_drewN ?_ _ | refine blk_drew ?_ | refine blk_alloc ?_ _)); exact BK392.out⟩, ⟨by refine blk_put (cs := #[.slice Ao8 t393.length co8, u397001]) ?_ 1 _ rfl; (with_reducible repeat (first | refine blk_drewN ?_ _ | refine blk_drew ?_ | refine blk_alloc ?_ _)); exact BK396.out⟩, ⟨by repeat (first | (with_reducible first | exact HB.out | apply below_alloc | apply pw_below_drewN | apply below_drew1 | refine below_set ?_ (Aside0.out (by assumption))) | exact HB.out)⟩⟩
      ·rw [if_neg c18] at H
       exact absurd H (by simp)
     ·rw [if_neg c16] at H
      exact absurd H (by simp)
    ·rw [if_neg c15] at H
     exact absurd H (by simp)
   ·rw [if_neg c14] at H
    have c14b0 : decide (x13_1 < (l0_1.length : Int)) = false := decide_eq_false c14
    clear c14
    simp only [Option.some.injEq, Prod.mk.injEq] at H
    obtain ⟨rfl, rfl⟩ := H
    have hnb25 := NB396_391.out
    have hnc25 := NB391_396.out
    have hnb26 := NB396_392.out
    have hnc26 := NB392_396.out
    have hcz27_0 : wr.cell? ⟨gb396, 0, none⟩ = some (.slice Ao8 t393.length co8) := (blk_cell BK396.out 0).trans rfl
    have hcz27_1 : wr.cell? ⟨gb396, 1, none⟩ = some (u397001) := (blk_cell BK396.out 1).trans rfl
    have hfz27_0 := blk_frozen BK396.out 0
    have hfz27_1 := blk_frozen BK396.out 1
    have hnb28 := NB392_391.out
    have hnc28 := NB391_392.out
    have hcz29_0 : wr.cell? ⟨gb392, 0, none⟩ = some (.slice none 0 0) := (blk_cell BK392.out 0).trans rfl
    have hcz29_1 : wr.cell? ⟨gb392, 1, none⟩ = some (.slice none 0 0) := (blk_cell BK392.out 1).trans rfl
    have hfz29_0 := blk_frozen BK392.out 0
    have hfz29_1 := blk_frozen BK392.out 1
    obtain ⟨Ao30, co30, eo30⟩ := Kd.S_slice HO_397001.out
    subst eo30
    go_wp2
    refine bodyPost_ret (results_cell_row rfl _ _ gb392 27 #[.slice Ao8 t393.length co8, .slice Ao30 x397001_1.length co30] (0, 0) _ rfl (by refine blk_put (cs := #[.slice Ao8 t393.length co8, .slice none 0 0]) ?_ 1 _ rfl; refine blk_put (cs := #[.slice none 0 0, .slice none 0 0]) ?_ 0 _ rfl; (with_reducible repeat (first | refine blk_drewN ?_ _ | refine blk_drew ?_ | refine blk_alloc ?_ _)); exact BK392.out) Try.underlying27 rfl (by kernel_rfl)) rfl ?_
    exact ⟨_, _, by first | rfl | (simp [errW_none, errW_some] <;> rfl) | (simp [*, errW_none, errW_some] <;> rfl), by (with_reducible repeat (first | apply Kd.R_alloc | apply Kd.R_drewN | apply Kd.R_drew)); exact Kd.R_mono (Kd.R_far (p := ⟨gb392, 1, none⟩) (Kd.R_far (p := ⟨gb392, 0, none⟩) (Kd.R_types HO_397000.out BK392.out (by decide)) (fun _ hk => hk.2) (.slice Ao8 t393.length co8)) (fun _ hk => hk.2) (.slice Ao30 x397001_1.length co30)) (fun _ hk => trivial), by (with_reducible repeat (first | apply Kd.S_alloc | apply Kd.S_drewN | apply Kd.S_drew)); exact Kd.S_mono (Kd.S_far (p := ⟨gb392, 1, none⟩) (Kd.S_far (p := ⟨gb392, 0, none⟩) (Kd.S_types HO_397001.out BK392.out (by decide)) (fun _ hk => hk.2) (.slice Ao8 t393.length co8)) (fun _ hk => hk.2) (.slice Ao30 x397001_1.length co30)) (fun _ hk => hk.1), by repeat (first | (with_reducible first | exact HB.out | apply below_alloc | apply pw_below_drewN | apply below_drew1 | refine below_set ?_ (Aside0.out (by assumption))) | exact HB.out)⟩

/-! ### impl_NeedingMore: function 58 -/
def impl_NeedingMore.f (k : Nat) (l0 : List (S50)) (a1 : Int) : Option ((List (S50)) × Bool) := (impl_CustomersOk.f k l0).bind fun t404 => (if t404 = true then (if a1 < 0 then (some (([] : List (S50)), false)) else (if a1 ≥ (l0.length : Int) then (some (([] : List (S50)), false)) else (if 0 ≤ a1 then (if a1 < (l0.length : Int) then (if ((rd_T50 l0 a1).f1) = 9 then (some (([] : List (S50)), false)) else ((impl_Customer_45.f l0).bind fun t406 => (if a1 < (t406.length : Int) then (some ((t406.set (a1 : Int).toNat (⟨(rd_T50 t406 a1).f0, wrap64 (((rd_T50 t406 a1).f1) + 1)⟩ : S50)), true)) else (none)))) else (none)) else (none)))) else (some (([] : List (S50)), false)))
set_option maxHeartbeats 8000000 in
set_option maxRecDepth 100000 in
theorem impl_NeedingMore.calls (k : Nat) (A0 : Option Addr) (c0 : Nat) (l0 : List (S50)) (a1 : Int) (r1 : List (S50)) (r2 : Bool) (w : World) (hr0 : Kd.C k50 w A0 l0.length l0) (hc0 : l0.length ≤ c0) (h : impl_NeedingMore.f k l0 a1 = some (r1, r2)) :
 Calls Try.prog 58 #[.slice A0 l0.length c0, .int .i64 a1] w fun e w' => ∃ v0_ : Value, e = .returned (.tuple #[v0_, .bool r2]) ∧ Kd.R k50 50 w' w.heap.size (fun _ => True) v0_ r1 ∧ Below w.heap.size w w' := by
 have HR0 := Aside0.mk hr0
 have HC0 := Aside0.mk hc0
 clear hr0 hc0
 have HB := Aside0.mk (Below.refl w.heap.size w)
 have H : ((impl_CustomersOk.f k l0).bind fun t404 => (if t404 = true then (if a1 < 0 then (some (([] : List (S50)), false)) else (if a1 ≥ (l0.length : Int) then (some (([] : List (S50)), false)) else (if 0 ≤ a1 then (if a1 < (l0.length : Int) then (if ((rd_T50 l0 a1).f1) = 9 then (some (([] : List (S50)), false)) else ((impl_Customer_45.f l0).bind fun t406 => (if a1 < (t406.length : Int) then (some ((t406.set (a1 : Int).toNat (⟨(rd_T50 t406 a1).f0, wrap64 (((rd_T50 t406 a1).f1) + 1)⟩ : S50)), true)) else (none)))) else (none)) else (none)))) else (some (([] : List (S50)), false)))) = some (r1, r2) := h
 clear h
 replace H := Option.bind_eq_some_iff.mp H
 obtain ⟨t404, A30, H⟩ := H
 replace H : (if t404 = true then (if a1 < 0 then (some (([] : List (S50)), false)) else (if a1 ≥ (l0.length : Int) then (some (([] : List (S50)), false)) else (if 0 ≤ a1 then (if a1 < (l0.length : Int) then (if ((rd_T50 l0 a1).f1) = 9 then (some (([] : List (S50)), false)) else ((impl_Customer_45.f l0).bind fun t406 => (if a1 < (t406.length : Int) then (some ((t406.set (a1 : Int).toNat (⟨(rd_T50 t406 a1).f0, wrap64 (((rd_T50 t406 a1).f1) + 1)⟩ : S50)), true)) else (none)))) else (none)) else (none)))) else (some (([] : List (S50)), false))) = some (r1, r2) := H
 have A3 := Aside0.mk A30
 clear A30
 by_cases c4 : t404 = true
 ·subst c4
  have H1 : (if a1 < 0 then (some (([] : List (S50)), false)) else (if a1 ≥ (l0.length : Int) then (some (([] : List (S50)), false)) else (if 0 ≤ a1 then (if a1 < (l0.length : Int) then (if ((rd_T50 l0 a1).f1) = 9 then (some (([] : List (S50)), false)) else ((impl_Customer_45.f l0).bind fun t406 => (if a1 < (t406.length : Int) then (some ((t406.set (a1 : Int).toNat (⟨(rd_T50 t406 a1).f0, wrap64 (((rd_T50 t406 a1).f1) + 1)⟩ : S50)), true)) else (none)))) else (none)) else (none)))) = some (r1, r2) := by rw [if_pos rfl] at H; exact H
  clear H
  have H := H1
  clear H1
  by_cases c5 : a1 < 0
  ·rw [if_pos c5] at H
   have c5b0 : decide (a1 < 0) = true := decide_eq_true c5
   clear c5
   simp only [Option.some.injEq, Prod.mk.injEq] at H
   obtain ⟨rfl, rfl⟩ := H
   go_enter Try.func58, Try.ntmps58
   go_wp2_with (first | ((with_reducible refine gate_callee (f := 16) rfl ?_); refine goesL_ (some 8) rfl rfl Try.func16 (by kernel_rfl) rfl #[.slice A0 l0.length c0] rfl (by (try simp only [List.map_toArray, List.map_cons, List.map_nil]); first | done | rfl | (simp only [List.length_drop, List.length_take]; rfl)) ?_; (with_reducible refine (impl_CustomersOk.calls k _ _ l0 true _ ?side1 ?side2 A3.out).mono ?_); (case side1 => repeat (first | exact HR0.out | (with_reducible refine Kd.C_alloc ?_ _) | (with_reducible refine Kd.C_drewN ?_ _) | (with_reducible refine Kd.C_drew ?_))); (case side2 => exact HC0.out); rintro e w6 ⟨rfl, hb⟩; refine ⟨_, rfl, ?_⟩; have n0_ := Aside0.mk (below_step (bl0 HB) hb); clear HB; have HB := n0_; clear n0_; (try clear hb); (try clear hb2); (try clear hk); (try clear hi)))
   go_ret2
   exact ⟨_, by first | rfl | (simp [errW_none, errW_some] <;> rfl) | (simp [*, errW_none, errW_some] <;> rfl), by first | exact Kd.R_nil _ _ _ _ _ | exact Kd.N_nil _ _ _ _ _ | exact Kd.V_nil _ _ _ _ _ | exact Kd.Q_nil _ _ _ _ _ | exact Kd.S_nil _ _ _ _ _, by repeat (first | (with_reducible first | exact HB.out | apply below_alloc | apply pw_below_drewN | apply below_drew1) | exact HB.out)⟩
  ·rw [if_neg c5] at H
   have c5b0 : decide (a1 < 0) = false := decide_eq_false c5
   clear c5
   by_cases c7 : a1 ≥ (l0.length : Int)
   ·rw [if_pos c7] at H
    have c7b0 : decide ((l0.length : Int) ≤ a1) = true := decide_eq_true c7
    clear c7
    simp only [Option.some.injEq, Prod.mk.injEq] at H
    obtain ⟨rfl, rfl⟩ := H
    go_enter Try.func58, Try.ntmps58
    go_wp2_with (first | ((with_reducible refine gate_callee (f := 16) rfl ?_); refine goesL_ (some 8) rfl rfl Try.func16 (by kernel_rfl) rfl #[.slice A0 l0.length c0] rfl (by (try simp only [List.map_toArray, List.map_cons, List.map_nil]); first | done | rfl | (simp only [List.length_drop, List.length_take]; rfl)) ?_; (with_reducible refine (impl_CustomersOk.calls k _ _ l0 true _ ?side1 ?side2 A3.out).mono ?_); (case side1 => repeat (first | exact HR0.out | (with_reducible refine Kd.C_alloc ?_ _) | (with_reducible refine Kd.C_drewN ?_ _) | (with_reducible refine Kd.C_drew ?_))); (case side2 => exact HC0.out); rintro e w8 ⟨rfl, hb⟩; refine ⟨_, rfl, ?_⟩; have n0_ := Aside0.mk (below_step (bl0 HB) hb); clear HB; have HB := n0_; clear n0_; (try clear hb); (try clear hb2); (try clear hk); (try clear hi)))
    go_ret2
    exact ⟨_, by first | rfl | (simp [errW_none, errW_some] <;> rfl) | (simp [*, errW_none, errW_some] <;> rfl), by first | exact Kd.R_nil _ _ _ _ _ | exact Kd.N_nil _ _ _ _ _ | exact Kd.V_nil _ _ _ _ _ | exact Kd.Q_nil _ _ _ _ _ | exact Kd.S_nil _ _ _ _ _, by repeat (first | (with_reducible first | exact HB.out | apply below_alloc | apply pw_below_drewN | apply below_drew1) | exact HB.out)⟩
   ·rw [if_neg c7] at H
    have c7b0 : decide ((l0.length : Int) ≤ a1) = false := decide_eq_false c7
    clear c7
    by_cases c9 : 0 ≤ a1
    ·rw [if_pos c9] at H
     have c9b0 : decide (0 ≤ a1) = true := decide_eq_true c9
     clear c9
     by_cases c10 : a1 < (l0.length : Int)
     ·rw [if_pos c10] at H
      have c10b0 : decide (a1 < (l0.length : Int)) = true := decide_eq_true c10
      clear c10
      by_cases c11 : ((rd_T50 l0 a1).f1) = 9
      ·rw [if_pos c11] at H
       have c11b0 : (((rd_T50 l0 a1).f1) == 9) = true := beq_iff_eq.mpr c11
       have c11b1 : (((rd_T50 l0 a1).f1) != 9) = false := bne_eq_false_iff_eq.mpr c11
       clear c11
       simp only [Option.some.injEq, Prod.mk.injEq] at H
       obtain ⟨rfl, rfl⟩ := H
       go_enter Try.func58, Try.ntmps58
       go_wp2_with (first | ((with_reducible refine gate_callee (f := 16) rfl ?_); refine goesL_ (some 8) rfl rfl Try.func16 (by kernel_rfl) rfl #[.slice A0 l0.length c0] rfl (by (try simp only [List.map_toArray, List.map_cons, List.map_nil]); first | done | rfl | (simp only [List.length_drop, List.length_take]; rfl)) ?_; (with_reducible refine (impl_CustomersOk.calls k _ _ l0 true _ ?side1 ?side2 A3.out).mono ?_); (case side1 => repeat (first | exact HR0.out | (with_reducible refine Kd.C_alloc ?_ _) | (with_reducible refine Kd.C_drewN ?_ _) | (with_reducible refine Kd.C_drew ?_))); (case side2 => exact HC0.out); rintro e w12 ⟨rfl, hb⟩; refine ⟨_, rfl, ?_⟩; have n0_ := Aside0.mk (below_step (bl0 HB) hb); clear HB; have HB := n0_; clear n0_; (try clear hb); (try clear hb2); (try clear hk); (try clear hi); have p405 : 0 ≤ (a1 : Int) := of_decide_eq_true (by first | (with_reducible assumption) | assumption); have q405 : a1 < (l0.length : Int) := of_decide_eq_true (by first | (with_reducible assumption) | assumption); obtain ⟨ad405, e405, hx405_0, hx405_1⟩ := at_T50 HR0.out a1 p405 q405; cases e405; replace hx405_0 := (HB.out.cell (World.block_lt_of_cell? w _ hx405_0)).trans hx405_0; replace hx405_1 := (HB.out.cell (World.block_lt_of_cell? w _ hx405_1)).trans hx405_1; replace p405 := eq_true p405; replace q405 := eq_true q405))
       go_ret2
       exact ⟨_, by first | rfl | (simp [errW_none, errW_some] <;> rfl) | (simp [*, errW_none, errW_some] <;> rfl), by first | exact Kd.R_nil _ _ _ _ _ | exact Kd.N_nil _ _ _ _ _ | exact Kd.V_nil _ _ _ _ _ | exact Kd.Q_nil _ _ _ _ _ | exact Kd.S_nil _ _ _ _ _, by repeat (first | (with_reducible first | exact HB.out | apply below_alloc | apply pw_below_drewN | apply below_drew1) | exact HB.out)⟩
      ·rw [if_neg c11] at H
       have c11b0 : (((rd_T50 l0 a1).f1) == 9) = false := beq_eq_false_iff_ne.mpr c11
       have c11b1 : (((rd_T50 l0 a1).f1) != 9) = true := bne_iff_ne.mpr c11
       replace H := Option.bind_eq_some_iff.mp H
       obtain ⟨t406, A130, H⟩ := H
       replace H : (if a1 < (t406.length : Int) then (some ((t406.set (a1 : Int).toNat (⟨(rd_T50 t406 a1).f0, wrap64 (((rd_T50 t406 a1).f1) + 1)⟩ : S50)), true)) else (none)) = some (r1, r2) := H
       have A13 := Aside0.mk A130
       clear A130
       by_cases c14 : a1 < (t406.length : Int)
       ·rw [if_pos c14] at H
        have c14b0 : decide (a1 < (t406.length : Int)) = true := decide_eq_true c14
        clear c14
        obtain ⟨y410, hy410⟩ : ∃ y_ : List (S50), y_ = (t406.set (a1 : Int).toNat (⟨(rd_T50 t406 a1).f0, wrap64 (((rd_T50 t406 a1).f1) + 1)⟩ : S50)) := ⟨_, rfl⟩
        replace H : (some (y410, true)) = some (r1, r2) := by first | (rw [hy410]; with_reducible exact H) | (have H2_ := (Option.bind_some _ _).symm.trans H; rw [hy410]; with_reducible exact H2_) | (have H2_ := (Option.bind_some _ _).symm.trans H; with_reducible exact H2_) | with_reducible exact H | (rw [hy410]; exact H) | exact H
        have Ny410 := Aside0.mk hy410
        clear hy410
        simp only [Option.some.injEq, Prod.mk.injEq] at H
        obtain ⟨rfl, rfl⟩ := H
        go_enter Try.func58, Try.ntmps58
        go_wp2_with (first | ((with_reducible refine gate_callee (f := 16) rfl ?_); refine goesL_ (some 8) rfl rfl Try.func16 (by kernel_rfl) rfl #[.slice A0 l0.length c0] rfl (by (try simp only [List.map_toArray, List.map_cons, List.map_nil]); first | done | rfl | (simp only [List.length_drop, List.length_take]; rfl)) ?_; (with_reducible refine (impl_CustomersOk.calls k _ _ l0 true _ ?side1 ?side2 A3.out).mono ?_); (case side1 => repeat (first | exact HR0.out | (with_reducible refine Kd.C_alloc ?_ _) | (with_reducible refine Kd.C_drewN ?_ _) | (with_reducible refine Kd.C_drew ?_))); (case side2 => exact HC0.out); rintro e w16 ⟨rfl, hb⟩; refine ⟨_, rfl, ?_⟩; have n0_ := Aside0.mk (below_step (bl0 HB) hb); clear HB; have HB := n0_; clear n0_; (try clear hb); (try clear hb2); (try clear hk); (try clear hi); have p405 : 0 ≤ (a1 : Int) := of_decide_eq_true (by first | (with_reducible assumption) | assumption); have q405 : a1 < (l0.length : Int) := of_decide_eq_true (by first | (with_reducible assumption) | assumption); obtain ⟨ad405, e405, hx405_0, hx405_1⟩ := at_T50 HR0.out a1 p405 q405; cases e405; replace hx405_0 := (HB.out.cell (World.block_lt_of_cell? w _ hx405_0)).trans hx405_0; replace hx405_1 := (HB.out.cell (World.block_lt_of_cell? w _ hx405_1)).trans hx405_1; replace p405 := eq_true p405; replace q405 := eq_true q405) | ((with_reducible refine gate_callee (f := 45) rfl ?_); refine goesL_ (some 29) rfl rfl Try.func45 (by kernel_rfl) rfl #[.slice (some ad405) l0.length c0] rfl (by (try simp only [List.map_toArray, List.map_cons, List.map_nil]); first | done | rfl | (simp only [List.length_drop, List.length_take]; rfl)) ?_; (with_reducible refine (impl_Customer_45.calls _ _ l0 t406 _ ?side1 ?side2 A13.out).mono ?_); (case side1 => repeat (first | exact (Kd.C_below HR0.out HB.out) | (with_reducible refine Kd.C_alloc ?_ _) | (with_reducible refine Kd.C_drewN ?_ _) | (with_reducible refine Kd.C_drew ?_))); (case side2 => exact HC0.out); rintro e w17 ⟨v407, rfl, ho0, hb⟩; refine ⟨_, rfl, ?_⟩; have n0_ := Aside0.mk (Kd.R_lower ho0 (below_size (bl0 HB))); have n1_ := Aside0.mk (below_step (bl0 HB) hb); clear HB; have HO408 := n0_; have HB := n1_; clear n0_ n1_; (try clear hb); (try clear hb2); (try clear hk); (try clear hi); (try clear ho0); obtain ⟨Ao18, co18, eo18⟩ := Kd.R_slice HO408.out; subst eo18; have p409 : 0 ≤ (a1 : Int) := of_decide_eq_true (by first | (with_reducible assumption) | assumption); have q409 : a1 < (t406.length : Int) := of_decide_eq_true (by first | (with_reducible assumption) | assumption); obtain ⟨ad409, e409, hx409_0, hx409_1⟩ := at_T50 (Kd.R_reads' HO408.out).2.2 a1 p409 q409; cases e409; replace p409 := eq_true p409; replace q409 := eq_true q409; have p15 : 0 ≤ (a1 : Int) := of_decide_eq_true (by first | (with_reducible assumption) | assumption); have q15 : (a1 : Int) < ((t406.length : Int) : Int) := of_decide_eq_true (by first | (with_reducible assumption) | assumption); obtain ⟨go15, co15, eo15, gb15, gl15, cl15, HG15⟩ := Kd.R_form HO408.out (by omega); (first | cases eo15 | (injection eo15 with ea_ en_ ec_; (first | subst ea_ | (injection ea_ with ea_; subst ea_)); subst ec_; clear en_)); have GB15 := Aside0.mk gb15; have GG15 := Aside0.mk HG15; clear gb15 gl15 HG15; (first | simp only [add_plain] at hx409_0 | skip); (first | simp only [add_plain] at hx409_1 | skip); obtain ⟨ce15, hcl15, hM15, hcc15, hfr15⟩ := Kd.R_elem HO408.out z50 (a1 : Int) p15 q15; obtain rfl := k50_openM hM15; have hx15_0 : w17.cell? ⟨go15, (a1 : Int).toNat * 2, none⟩ = some (.int .i64 ((rd_T50 t406 a1).f0)) := hcc15 0 _ rfl; have hx15_1 : w17.cell? ⟨go15, (a1 : Int).toNat * 2 + 1, none⟩ = some (.int .i64 ((rd_T50 t406 a1).f1)) := hcc15 1 _ rfl; have hf15_0 : w17.frozen? ⟨go15, (a1 : Int).toNat * 2, none⟩ = false := hfr15 0; have hf15_1 : w17.frozen? ⟨go15, (a1 : Int).toNat * 2 + 1, none⟩ = false := hfr15 1; (try clear hM15); clear hcl15 hcc15 hfr15; replace p15 := eq_true p15; replace q15 := eq_true q15; have HX19 := Aside0.mk (show Kd.R k50 50 w17 w.heap.size (fun _ => True) (.slice (some ⟨go15, 0, none⟩) t406.length co18) t406 from (rkR HO408)); obtain ⟨ce19, hcl19, hM19, hcc19, hfr19⟩ := Kd.R_elem HX19.out z50 (a1 : Int) (of_decide_eq_true (by first | (with_reducible assumption) | assumption)) (by have h_ : (a1 : Int) < ((t406.length : Int) : Int) := of_decide_eq_true (by first | (with_reducible assumption) | assumption); first | exact h_ | (have e_ := (Kd.R_reads' HO408.out).1; omega) | simpa using h_); obtain rfl := k50_openM hM19; have HP19 := Kd.R_seg HX19.out (a1 : Int) (of_decide_eq_true (by first | (with_reducible assumption) | assumption)) (by have h_ : (a1 : Int) < ((t406.length : Int) : Int) := of_decide_eq_true (by first | (with_reducible assumption) | assumption); first | exact h_ | (have e_ := (Kd.R_reads' HO408.out).1; omega) | simpa using h_) (seg := [.int .i64 (wrap64 (((rd_T50 t406 a1).f1) + 1))]) (j := 1) hcl19 hcc19 (show 2 ≤ 2 from by decide) (x' := (⟨(rd_T50 t406 a1).f0, wrap64 (((rd_T50 t406 a1).f1) + 1)⟩ : S50)) (k50_mkM _ _ _ (⟨(rd_T50 t406 a1).f0, wrap64 (((rd_T50 t406 a1).f1) + 1)⟩ : S50) ) (fun _ hk => hk); have hx19_1 := hcc19 1 _ rfl; (try simp only [show (k50).sz = 2 from rfl, Nat.mul_one, Nat.add_zero] at hx19_1); have hf19_1 := hfr19 1; (try simp only [show (k50).sz = 2 from rfl, Nat.mul_one, Nat.add_zero] at hf19_1); (try clear hM19); clear hcl19 hcc19 hfr19) | ((with_reducible refine gate_store (t := 3) (p := 37) rfl ?_); refine store_event (t := 3) (p := 37) (v := ?vo_w20) (w1 := (w17.setCell ⟨go15, (a1 : Int).toNat * 2 + 1, none⟩ (.int .i64 (wrap64 (((rd_T50 t406 a1).f1) + 1))))) ?hg ?ho ?hn ?hr ?_; (case ho => rfl); (case hg => rfl); (case hn => rfl); (case hr => first | (go_simp; done) | (go_simp; rfl)); intro w20 hw; have hg : w17.grownBy w20 (some go15) := (by rw [hw]; exact HP19.2); have hp_ : Kd.R k50 50 w20 w.heap.size (fun _ => True) (.slice (some ⟨go15, 0, none⟩) t406.length co18) y410 := (by rw [hw, Ny410.out]; exact HP19.1); clear HP19; have n0_ := Aside0.mk (hp_); have n1_ := Aside0.mk ((by rw [hw]; exact below_set (HB.out) GB15.out : Below w.heap.size w w20)); clear HO408; clear HB; have HO408 := n0_; have HB := n1_; clear n0_ n1_; clear hg hw hp_))
        go_ret2
        exact ⟨_, by first | rfl | (simp [errW_none, errW_some] <;> rfl) | (simp [*, errW_none, errW_some] <;> rfl), by (with_reducible repeat (first | apply Kd.R_alloc | apply Kd.R_drewN | apply Kd.R_drew)); exact HO408.out, by repeat (first | (with_reducible first | exact HB.out | apply below_alloc | apply pw_below_drewN | apply below_drew1) | exact HB.out)⟩
       ·rw [if_neg c14] at H
        exact absurd H (by simp)
     ·rw [if_neg c10] at H
      exact absurd H (by simp)
    ·rw [if_neg c9] at H
     exact absurd H (by simp)
 ·replace c4 := Bool.eq_false_iff.mpr c4
  subst c4
  have H1 : (some (([] : List (S50)), false)) = some (r1, r2) := by rw [if_neg (show ¬ (false = true) by decide)] at H; exact H
  clear H
  have H := H1
  clear H1
  simp only [Option.some.injEq, Prod.mk.injEq] at H
  obtain ⟨rfl, rfl⟩ := H
  go_enter Try.func58, Try.ntmps58
  go_wp2_with (first | ((with_reducible refine gate_callee (f := 16) rfl ?_); refine goesL_ (some 8) rfl rfl Try.func16 (by kernel_rfl) rfl #[.slice A0 l0.length c0] rfl (by (try simp only [List.map_toArray, List.map_cons, List.map_nil]); first | done | rfl | (simp only [List.length_drop, List.length_take]; rfl)) ?_; (with_reducible refine (impl_CustomersOk.calls k _ _ l0 false _ ?side1 ?side2 A3.out).mono ?_); (case side1 => repeat (first | exact HR0.out | (with_reducible refine Kd.C_alloc ?_ _) | (with_reducible refine Kd.C_drewN ?_ _) | (with_reducible refine Kd.C_drew ?_))); (case side2 => exact HC0.out); rintro e w21 ⟨rfl, hb⟩; refine ⟨_, rfl, ?_⟩; have n0_ := Aside0.mk (below_step (bl0 HB) hb); clear HB; have HB := n0_; clear n0_; (try clear hb); (try clear hb2); (try clear hk); (try clear hi)))
  go_ret2
  exact ⟨_, by first | rfl | (simp [errW_none, errW_some] <;> rfl) | (simp [*, errW_none, errW_some] <;> rfl), by first | exact Kd.R_nil _ _ _ _ _ | exact Kd.N_nil _ _ _ _ _ | exact Kd.V_nil _ _ _ _ _ | exact Kd.Q_nil _ _ _ _ _ | exact Kd.S_nil _ _ _ _ _, by repeat (first | (with_reducible first | exact HB.out | apply below_alloc | apply pw_below_drewN | apply below_drew1) | exact HB.out)⟩

end Go.Proofs.Ytocnifoohecmeaa.PFnDeskDo
