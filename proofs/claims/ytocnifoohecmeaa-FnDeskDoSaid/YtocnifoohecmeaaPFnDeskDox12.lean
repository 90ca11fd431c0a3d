-- Printed by this claim's own program; Lean checks it.
import Derived.Test.YtocnifoohecmeaaPFnDeskDox0
import Derived.Test.YtocnifoohecmeaaPFnDeskDox4
import Derived.Test.YtocnifoohecmeaaPFnDeskDox5
import Derived.Test.YtocnifoohecmeaaPFnDeskDox9
import Derived.Test.YtocnifoohecmeaaPFnDeskDox10
import Derived.Test.YtocnifoohecmeaaPFnDeskDox11
namespace Go.Proofs.Ytocnifoohecmeaa.PFnDeskDo
open Go.RowKit Go.Proofs.YtocnifoohecmeaaW.PrintWords Go.Proofs.YtocnifoohecmeaaW.PrintLast Go.Proofs.YtocnifoohecmeaaW.PrintMore
attribute [local go_sem] max2_int min2_int max_two min_two max_three min_three max_four min_four   -- for this text's walks alone
set_option linter.unusedVariables false
set_option linter.unusedSimpArgs false

/-! ### spec_l20Desk: function 55 -/
def spec_l20Desk.l0 : Nat → Int → Int → List Int → Int → List (S50) → List (List (S50)) → Option ((List (S50)) × (List (List (S50))) × Int)
  | 0, _, _, _, _, _, _ => none
  | k + 1, x1, x7, x1000, x1001, x341000, x341001 => if x7 > 0 then ((spec_l20Deed.f k x1000 x1001 x341000).bind fun bt343 => ((spec_DeskDo.f k x341000 x341001 bt343.1 bt343.2.1 bt343.2.2.1).bind fun bt347 => (if bt347.2.2 = true then (spec_l20Desk.l0 k x1 (wrap64 (x7 - 1)) x1000 bt343.2.2.2 bt347.1 bt347.2.1) else (spec_l20Desk.l0 k x1 (wrap64 (x7 - 1)) x1000 bt343.2.2.2 x341000 x341001)))) else ((spec_l20Rd_odd.f k x1000 x1001 x1).bind fun bt355 => (if bt355.1 = true then ((spec_l20Rd_pick.f k x1000 bt355.2 2).bind fun bt357 => (if bt357.1 = 0 then (some ((([(⟨0, 10⟩ : S50)] : List (S50))), x341001, bt357.2)) else (if x341001.length < 5864062014805 then (some (x341000, (x341001 ++ [(([(⟨0, 0⟩ : S50)] : List (S50)))]), bt357.2)) else (none)))) else (some (x341000, x341001, bt355.2))))
def spec_l20Desk.f (k : Nat) (s0_0 : List Int) (s0_1 : Int) (a1 : Int) : Option ((List (S50)) × (List (List (S50))) × Int) := (spec_l20Customers.f k s0_0 s0_1 0).bind fun bt329 => ((spec_DeskNew.f k bt329.1).bind fun bt333 => ((spec_l20Rd_pick.f k s0_0 bt329.2 6).bind fun bt341 => (spec_l20Desk.l0 k a1 bt341.1 s0_0 bt341.2 bt333.1 bt333.2.1)))
def spec_l20Desk.T5 : Bool × List (List Nat × List Nat) := (true, [([], []), ([], []), ([], []), ([2], [2]), ([1, 3], [1, 3]), ([0, 4, 4], [0, 4]), ([5], [5]), ([6], [6]), ([6], [6]), ([], []), ([9, 7, 5, 0, 1, 2, 3, 4, 5, 6, 7, 9], [7, 9]), ([8, 10, 0, 1, 2, 3, 4, 5, 6, 7, 8, 9, 10], [8])])
def spec_l20Desk.B5 : List Nat := [0, 0, 0, 4, 14, 31, 63, 127, 127, 0, 767, 2047]
theorem spec_l20Desk.tab5 : rtab .any (opsOf Try.f55 5) = spec_l20Desk.T5 := by kernel_rfl
theorem spec_l20Desk.bits5 : waitsOk spec_l20Desk.T5.2 spec_l20Desk.B5 = true := by kernel_rfl
set_option maxHeartbeats 8000000 in
set_option maxRecDepth 100000 in
theorem spec_l20Desk.calls (k : Nat) (g : Nat) (s0_0 : List Int) (s0_1 : Int) (a1 : Int) (r1 : List (S50)) (r2 : List (List (S50))) (r3 : Int) (w0 w : World) (hI : IsS95 w0 w g s0_0 s0_1) (hB : Below w0.heap.size w0 w) (h : spec_l20Desk.f k s0_0 s0_1 a1 = some (r1, r2, r3)) :
 Calls Try.prog 55 #[.pointer (some ⟨g, 0, none⟩), .int .i64 a1] w fun e w' => ∃ v0_ v1_ : Value, e = .returned (.agg #[v0_, v1_]) ∧ Kd.V k50 50 w' w.heap.size (fun k_ => (w.heap.size ≤ k_) ∧ some k_ ≠ (v1_ : Value).ownBlock) v0_ r1 ∧ Kd.S (Kd.slice 50 k50) 23 w' w.heap.size (fun k_ => (w.heap.size ≤ k_)) v1_ r2 ∧ IsS95 w0 w' g s0_0 r3 ∧ Below w0.heap.size w0 w' ∧ KeepBut w w' g none := by
 have hu27 := Try.underlying27
 have hu50 := Try.underlying50
 have HI0 := Aside0.mk hI
 have HK := Aside0.mk (KeepBut.refl w g none)
 have HL := Aside0.mk hB.size
 clear hI
 have HW0 := Aside0.mk hB.size
 have HB := Aside0.mk hB
 clear hB
 have H : ((spec_l20Customers.f k s0_0 s0_1 0).bind fun bt329 => ((spec_DeskNew.f k bt329.1).bind fun bt333 => ((spec_l20Rd_pick.f k s0_0 bt329.2 6).bind fun bt341 => (spec_l20Desk.l0 k a1 bt341.1 s0_0 bt341.2 bt333.1 bt333.2.1)))) = some (r1, r2, r3) := h
 clear h
 replace H := Option.bind_eq_some_iff.mp H
 obtain ⟨⟨t329, t332⟩, A30, H⟩ := H
 replace H : ((spec_DeskNew.f k t329).bind fun bt333 => ((spec_l20Rd_pick.f k s0_0 t332 6).bind fun bt341 => (spec_l20Desk.l0 k a1 bt341.1 s0_0 bt341.2 bt333.1 bt333.2.1))) = some (r1, r2, r3) := H
 have A3 := Aside0.mk A30
 clear A30
 replace H := Option.bind_eq_some_iff.mp H
 obtain ⟨⟨t333, t336, t339⟩, A40, H⟩ := H
 replace H : ((spec_l20Rd_pick.f k s0_0 t332 6).bind fun bt341 => (spec_l20Desk.l0 k a1 bt341.1 s0_0 bt341.2 t333 t336)) = some (r1, r2, r3) := H
 have A4 := Aside0.mk A40
 clear A40
 replace H := Option.bind_eq_some_iff.mp H
 obtain ⟨⟨t341, t342⟩, A50, H⟩ := H
 replace H : (spec_l20Desk.l0 k a1 t341 s0_0 t342 t333 t336) = some (r1, r2, r3) := H
 have A5 := Aside0.mk A50
 clear A50
 have H' := Aside0.mk H
 clear H
 go_enter Try.func55, Try.ntmps55
 go_wp2_with (first | ((with_reducible refine gate_dst (N := 4) rfl ?_); refine box_event ?hg (N := 4) ?hd (cs := #[.slice none 0 0, .slice none 0 0]) (t := 27) ?hr ?_; (case hd => rfl); (case hg => rfl); (case hr => first | (go_simp; done) | (go_simp; rfl)); intro gb328 hg w6 hbox hb; have n0_ := Aside0.mk (IsS95.below (by repeat (first | (with_reducible first | exact HI0.out | apply IsS95.alloc | apply IsS95.drewN | apply IsS95.drew | apply IsS95.set_1) | exact HI0.out)) hb); have n1_ := Aside0.mk (KeepBut.trans (by repeat (first | (with_reducible first | exact HK.out | apply KeepBut.set_ | apply keep_drewN | apply keep_drew | apply keep_alloc) | exact HK.out)) (KeepBut.of_below hb g none) (.inl rfl)); have n2_ := Aside0.mk (below_step (by repeat (first | (with_reducible first | exact HB.out | apply below_alloc | apply pw_below_drewN | apply below_drew1 | refine below_set ?_ (IsS95.ge HI0.out)) | exact HB.out)) hb); have n3_ := Aside0.mk (hbox); have n4_ := Aside0.mk ((by rw [hg]; exact (keep_size (w := w) (g := g) (row := none) (by repeat (first | (with_reducible first | exact HK.out | apply KeepBut.set_ | apply keep_drewN | apply keep_drew | apply keep_alloc) | exact HK.out))) : w.heap.size ≤ gb328)); have n5_ := Aside0.mk ((Nat.le_trans HW0.out (by rw [hg]; exact (keep_size (w := w) (g := g) (row := none) (by repeat (first | (with_reducible first | exact HK.out | apply KeepBut.set_ | apply keep_drewN | apply keep_drew | apply keep_alloc) | exact HK.out))) : w.heap.size ≤ gb328) : w0.heap.size ≤ gb328)); have n6_ := Aside0.mk ((by rw [hg]; exact Nat.ne_of_lt (IsS95.lt (show IsS95 w0 _ g s0_0 s0_1 from by repeat (first | (with_reducible first | exact HI0.out | apply IsS95.alloc | apply IsS95.drewN | apply IsS95.drew | apply IsS95.set_1) | exact HI0.out))) : g ≠ gb328)); have n7_ := Aside0.mk ((by rw [hg]; exact Nat.ne_of_gt (IsS95.lt (show IsS95 w0 _ g s0_0 s0_1 from by repeat (first | (with_reducible first | exact HI0.out | apply IsS95.alloc | apply IsS95.drewN | apply IsS95.drew | apply IsS95.set_1) | exact HI0.out))) : gb328 ≠ g)); clear HI0; clear HK; clear HB; have HI0 := n0_; have HK := n1_; have HB := n2_; have BK328 := n3_; have GW328 := n4_; have GE328 := n5_; have NB0_328 := n6_; have NB328_0 := n7_; clear n0_ n1_ n2_ n3_ n4_ n5_ n6_ n7_; clear hb hbox hg) | ((with_reducible refine gate_callee (f := 43) rfl ?_); refine goesL_ (some 12) rfl rfl Try.func43 (by kernel_rfl) rfl #[.pointer (some ⟨g, 0, none⟩), .int .i64 0] rfl (by (try simp only [List.map_toArray, List.map_cons, List.map_nil]); first | done | rfl | (simp only [List.length_drop, List.length_take]; rfl)) ?_; (with_reducible refine (spec_l20Customers.calls k g s0_0 s0_1 0 t329 t332 w0 _ ?side1 ?side2 A3.out).mono ?_); (case side1 => repeat (first | (with_reducible first | exact HI0.out | apply IsS95.alloc | apply IsS95.drewN | apply IsS95.drew | apply IsS95.set_1 | refine IsS95.far ?_ NB0_328.out _) | exact HI0.out)); (case side2 => repeat (first | (with_reducible first | exact HB.out | apply below_alloc | apply pw_below_drewN | apply below_drew1 | refine below_set ?_ (IsS95.ge HI0.out) | refine below_set ?_ GE328.out) | exact HB.out)); rintro e w7 ⟨v330, rfl, ho0, hi, hb, hk⟩; refine ⟨_, rfl, ?_⟩; have n0_ := Aside0.mk (KeepBut.blk hk (g' := gb328) (o := .cells #[.slice none 0 0, .slice none 0 0] 27 (0, 0)) (pk BK328) NB328_0.out (by simp)); have n1_ := Aside0.mk (Kd.R_lower (Kd.R_newM (M := fun k_ => (w.heap.size ≤ k_)) ho0 (keep_size (w := w) (g := g) (row := none) (by repeat (first | (with_reducible first | exact HK.out | apply KeepBut.set_ | apply keep_drewN | apply keep_drew | apply keep_alloc | refine keep_far ?_ GW328.out _) | exact HK.out))) (fun k_ h_ => h_)) (keep_size (w := w) (g := g) (row := none) (by repeat (first | (with_reducible first | exact HK.out | apply KeepBut.set_ | apply keep_drewN | apply keep_drew | apply keep_alloc | refine keep_far ?_ GW328.out _) | exact HK.out)))); have n2_ := Aside0.mk (KeepBut.trans (by repeat (first | (with_reducible first | exact HK.out | apply KeepBut.set_ | apply keep_drewN | apply keep_drew | apply keep_alloc | refine keep_far ?_ GW328.out _) | exact HK.out)) hk (.inl rfl)); have n3_ := Aside0.mk (hb); have n4_ := Aside0.mk (hi); clear BK328; clear HK; clear HB; clear HI0; have BK328 := n0_; have HO331 := n1_; have HK := n2_; have HB := n3_; have HI0 := n4_; clear n0_ n1_ n2_ n3_ n4_; (try clear hb); (try clear hb2); (try clear hk); (try clear hi); (try clear ho0); obtain ⟨Ao8, co8, eo8⟩ := Kd.R_slice HO331.out; subst eo8) | ((with_reducible refine gate_callee (f := 13) rfl ?_); refine goesL_ (some 13) rfl rfl Try.func13 (by kernel_rfl) rfl #[.slice Ao8 t329.length co8] rfl (by (try simp only [List.map_toArray, List.map_cons, List.map_nil]); first | done | rfl | (simp only [List.length_drop, List.length_take]; rfl)) ?_; (with_reducible refine (spec_DeskNew.calls k _ _ t329 t333 t336 t339 _ ?side1 ?side2 A4.out).mono ?_); (case side1 => repeat (first | exact (Kd.R_reads' HO331.out).2.2 | (with_reducible refine Kd.C_alloc ?_ _) | (with_reducible refine Kd.C_drewN ?_ _) | (with_reducible refine Kd.C_drew ?_))); (case side2 => exact (Kd.R_reads' HO331.out).2.1); rintro e w9 ⟨v334, v337, rfl, ho0, ho1, hb⟩; refine ⟨_, rfl, ?_⟩; have n0_ := Aside0.mk (Kd.R_elder' (rkR HO331) (Kd.R_base ho0) hb); have n1_ := Aside0.mk (Kd.R_lower (Kd.R_new' (Kd.R_newM (M := fun k_ => (w.heap.size ≤ k_)) ho0 (keep_size (w := w) (g := g) (row := none) (by repeat (first | (with_reducible first | exact HK.out | apply KeepBut.set_ | apply keep_drewN | apply keep_drew | apply keep_alloc | refine keep_far ?_ GW328.out _) | exact HK.out))) (fun k_ h_ => h_)) (Kd.R_lt (rkR HO331))) (keep_size (w := w) (g := g) (row := none) (by repeat (first | (with_reducible first | exact HK.out | apply KeepBut.set_ | apply keep_drewN | apply keep_drew | apply keep_alloc | refine keep_far ?_ GW328.out _) | exact HK.out)))); have n2_ := Aside0.mk (Kd.S_lower (Kd.S_new' (Kd.S_newM (M := fun k_ => (w.heap.size ≤ k_)) ho1 (keep_size (w := w) (g := g) (row := none) (by repeat (first | (with_reducible first | exact HK.out | apply KeepBut.set_ | apply keep_drewN | apply keep_drew | apply keep_alloc | refine keep_far ?_ GW328.out _) | exact HK.out))) (fun k_ h_ => h_)) (Kd.R_lt (rkR HO331))) (keep_size (w := w) (g := g) (row := none) (by repeat (first | (with_reducible first | exact HK.out | apply KeepBut.set_ | apply keep_drewN | apply keep_drew | apply keep_alloc | refine keep_far ?_ GW328.out _) | exact HK.out)))); have n3_ := Aside0.mk (IsS95.below (by repeat (first | (with_reducible first | exact HI0.out | apply IsS95.alloc | apply IsS95.drewN | apply IsS95.drew | apply IsS95.set_1 | refine IsS95.far ?_ NB0_328.out _) | exact HI0.out)) hb); have n4_ := Aside0.mk (blk_below (g := gb328) (o := .cells #[.slice none 0 0, .slice none 0 0] 27 (0, 0)) (pk BK328) hb); have n5_ := Aside0.mk (KeepBut.trans (by repeat (first | (with_reducible first | exact HK.out | apply KeepBut.set_ | apply keep_drewN | apply keep_drew | apply keep_alloc | refine keep_far ?_ GW328.out _) | exact HK.out)) (KeepBut.of_below hb g none) (.inl rfl)); have n6_ := Aside0.mk (below_step (by repeat (first | (with_reducible first | exact HB.out | apply below_alloc | apply pw_below_drewN | apply below_drew1 | refine below_set ?_ (IsS95.ge HI0.out) | refine below_set ?_ GE328.out) | exact HB.out)) hb); clear HO331; clear HI0; clear BK328; clear HK; clear HB; have HO331 := n0_; have HO335 := n1_; have HO338 := n2_; have HI0 := n3_; have BK328 := n4_; have HK := n5_; have HB := n6_; clear n0_ n1_ n2_ n3_ n4_ n5_ n6_; (try clear hb); (try clear hb2); (try clear hk); (try clear hi); (try clear ho0); (try clear ho1)) | ((with_reducible refine gate_dst (N := 5) rfl ?_); refine box_event ?hg (N := 5) ?hd (cs := #[.slice none 0 0, .slice none 0 0]) (t := 27) ?hr ?_; (case hd => rfl); (case hg => rfl); (case hr => first | (go_simp; done) | (go_simp; rfl)); intro gb340 hg w10 hbox hb; have n0_ := Aside0.mk (Kd.R_below (rkR HO331) hb); have n1_ := Aside0.mk (Kd.R_below (rkR HO335) hb); have n2_ := Aside0.mk (Kd.S_below (rkS HO338) hb); have n3_ := Aside0.mk (IsS95.below (by repeat (first | (with_reducible first | exact HI0.out | apply IsS95.alloc | apply IsS95.drewN | apply IsS95.drew | apply IsS95.set_1 | refine IsS95.far ?_ NB0_328.out _) | exact HI0.out)) hb); have n4_ := Aside0.mk (blk_below (g := gb328) (o := .cells #[.slice none 0 0, .slice none 0 0] 27 (0, 0)) (pk BK328) hb); have n5_ := Aside0.mk (KeepBut.trans (by repeat (first | (with_reducible first | exact HK.out | apply KeepBut.set_ | apply keep_drewN | apply keep_drew | apply keep_alloc | refine keep_far ?_ GW328.out _) | exact HK.out)) (KeepBut.of_below hb g none) (.inl rfl)); have n6_ := Aside0.mk (below_step (by repeat (first | (with_reducible first | exact HB.out | apply below_alloc | apply pw_below_drewN | apply below_drew1 | refine below_set ?_ (IsS95.ge HI0.out) | refine below_set ?_ GE328.out) | exact HB.out)) hb); have n7_ := Aside0.mk (hbox); have n8_ := Aside0.mk ((by rw [hg]; exact (keep_size (w := w) (g := g) (row := none) (by repeat (first | (with_reducible first | exact HK.out | apply KeepBut.set_ | apply keep_drewN | apply keep_drew | apply keep_alloc | refine keep_far ?_ GW328.out _) | exact HK.out))) : w.heap.size ≤ gb340)); have n9_ := Aside0.mk ((Nat.le_trans HW0.out (by rw [hg]; exact (keep_size (w := w) (g := g) (row := none) (by repeat (first | (with_reducible first | exact HK.out | apply KeepBut.set_ | apply keep_drewN | apply keep_drew | apply keep_alloc | refine keep_far ?_ GW328.out _) | exact HK.out))) : w.heap.size ≤ gb340) : w0.heap.size ≤ gb340)); have n10_ := Aside0.mk ((by rw [hg]; exact Nat.ne_of_lt (blk_lt (g := gb328) (o := .cells #[.slice none 0 0, .slice none 0 0] 27 (0, 0)) (pk BK328)) : gb328 ≠ gb340)); have n11_ := Aside0.mk ((by rw [hg]; exact Nat.ne_of_gt (blk_lt (g := gb328) (o := .cells #[.slice none 0 0, .slice none 0 0] 27 (0, 0)) (pk BK328)) : gb340 ≠ gb328)); have n12_ := Aside0.mk ((by rw [hg]; exact Nat.ne_of_lt (IsS95.lt (show IsS95 w0 _ g s0_0 t332 from by repeat (first | (with_reducible first | exact HI0.out | apply IsS95.alloc | apply IsS95.drewN | apply IsS95.drew | apply IsS95.set_1 | refine IsS95.far ?_ NB0_328.out _) | exact HI0.out))) : g ≠ gb340)); have n13_ := Aside0.mk ((by rw [hg]; exact Nat.ne_of_gt (IsS95.lt (show IsS95 w0 _ g s0_0 t332 from by repeat (first | (with_reducible first | exact HI0.out | apply IsS95.alloc | apply IsS95.drewN | apply IsS95.drew | apply IsS95.set_1 | refine IsS95.far ?_ NB0_328.out _) | exact HI0.out))) : gb340 ≠ g)); clear HO331; clear HO335; clear HO338; clear HI0; clear BK328; clear HK; clear HB; have HO331 := n0_; have HO335 := n1_; have HO338 := n2_; have HI0 := n3_; have BK328 := n4_; have HK := n5_; have HB := n6_; have BK340 := n7_; have GW340 := n8_; have GE340 := n9_; have NB328_340 := n10_; have NB340_328 := n11_; have NB0_340 := n12_; have NB340_0 := n13_; clear n0_ n1_ n2_ n3_ n4_ n5_ n6_ n7_ n8_ n9_ n10_ n11_ n12_ n13_; clear hb hbox hg; obtain ⟨Ao11, co11, eo11⟩ := Kd.R_slice HO335.out; subst eo11; have hnb12 := NB340_328.out; have hnc12 := NB328_340.out; have hnb13 := NB340_0.out; have hnc13 := NB0_340.out; have hcz14_0 : w10.cell? ⟨gb340, 0, none⟩ = some (.slice none 0 0) := (blk_cell BK340.out 0).trans rfl; have hcz14_1 : w10.cell? ⟨gb340, 1, none⟩ = some (.slice none 0 0) := (blk_cell BK340.out 1).trans rfl; have hfz14_0 := blk_frozen BK340.out 0; have hfz14_1 := blk_frozen BK340.out 1; obtain ⟨Ao15, co15, eo15⟩ := Kd.S_slice HO338.out; subst eo15) | ((with_reducible refine gate_callee (f := 67) rfl ?_); refine goesL_ (some 17) rfl rfl Try.func67 (by kernel_rfl) rfl #[.pointer (some ⟨g, 0, none⟩), .int .i64 6] rfl (by (try simp only [List.map_toArray, List.map_cons, List.map_nil]); first | done | rfl | (simp only [List.length_drop, List.length_take]; rfl)) ?_; (with_reducible refine (spec_l20Rd_pick.calls k g s0_0 t332 6 t341 t342 w0 _ ?side1 ?side2 A5.out).mono ?_); (case side1 => repeat (first | (with_reducible first | exact HI0.out | apply IsS95.alloc | apply IsS95.drewN | apply IsS95.drew | apply IsS95.set_1 | refine IsS95.far ?_ NB0_328.out _ | refine IsS95.far ?_ NB0_340.out _) | exact HI0.out)); (case side2 => repeat (first | (with_reducible first | exact HB.out | apply below_alloc | apply pw_below_drewN | apply below_drew1 | refine below_set ?_ (IsS95.ge HI0.out) | refine below_set ?_ (Aside0.out (by assumption))) | exact HB.out)); rintro e w16 ⟨rfl, hi, hb, hk⟩; refine ⟨_, rfl, ?_⟩; have n0_ := Aside0.mk (KeepBut.blk hk (g' := gb328) (o := .cells #[.slice none 0 0, .slice none 0 0] 27 (0, 0)) (by refine blk_far ?_ NB328_340.out _; refine blk_far ?_ NB328_340.out _; (with_reducible repeat (first | refine blk_drewN ?_ _ | refine blk_drew ?_ | refine blk_alloc ?_ _)); exact BK328.out) NB328_0.out (by simp)); have n1_ := Aside0.mk (Kd.R_mono (Kd.R_keep (IsS95.apart (show IsS95 w0 _ g s0_0 t332 from by repeat (first | (with_reducible first | exact HI0.out | apply IsS95.alloc | apply IsS95.drewN | apply IsS95.drew | apply IsS95.set_1 | refine IsS95.far ?_ NB0_328.out _ | refine IsS95.far ?_ NB0_340.out _) | exact HI0.out)) (by (with_reducible repeat (first | apply Kd.R_alloc | apply Kd.R_drewN | apply Kd.R_drew)); exact (Kd.R_mono (Kd.R_far (p := ⟨gb340, 1, none⟩) (Kd.R_far (p := ⟨gb340, 0, none⟩) (Kd.R_types HO331.out BK340.out (by decide)) (fun _ hk => hk.2) (.slice Ao11 t333.length co11)) (fun _ hk => hk.2) (.slice Ao15 t336.length co15)) (fun _ h_ => h_.1))) (by decide)) hk (fun _ h => h.2)) (fun _ h => h.1)); have n2_ := Aside0.mk (Kd.R_mono (Kd.R_keep (IsS95.apart (show IsS95 w0 _ g s0_0 t332 from by repeat (first | (with_reducible first | exact HI0.out | apply IsS95.alloc | apply IsS95.drewN | apply IsS95.drew | apply IsS95.set_1 | refine IsS95.far ?_ NB0_328.out _ | refine IsS95.far ?_ NB0_340.out _) | exact HI0.out)) (by (with_reducible repeat (first | apply Kd.R_alloc | apply Kd.R_drewN | apply Kd.R_drew)); exact (Kd.R_mono (Kd.R_far (p := ⟨gb340, 1, none⟩) (Kd.R_far (p := ⟨gb340, 0, none⟩) (Kd.R_types HO335.out BK340.out (by decide)) (fun _ hk => hk.2) (.slice Ao11 t333.length co11)) (fun _ hk => hk.2) (.slice Ao15 t336.length co15)) (fun _ h_ => h_.1))) (by decide)) hk (fun _ h => h.2)) (fun _ h => h.1)); have n3_ := Aside0.mk (Kd.S_mono (Kd.S_keep (IsS95.apartS (show IsS95 w0 _ g s0_0 t332 from by repeat (first | (with_reducible first | exact HI0.out | apply IsS95.alloc | apply IsS95.drewN | apply IsS95.drew | apply IsS95.set_1 | refine IsS95.far ?_ NB0_328.out _ | refine IsS95.far ?_ NB0_340.out _) | exact HI0.out)) (by (with_reducible repeat (first | apply Kd.S_alloc | apply Kd.S_drewN | apply Kd.S_drew)); exact (Kd.S_mono (Kd.S_far (p := ⟨gb340, 1, none⟩) (Kd.S_far (p := ⟨gb340, 0, none⟩) (Kd.S_types HO338.out BK340.out (by decide)) (fun _ hk => hk.2) (.slice Ao11 t333.length co11)) (fun _ hk => hk.2) (.slice Ao15 t336.length co15)) (fun _ h_ => h_.1))) (by decide)) hk (fun _ h => h.2)) (fun _ h => h.1)); have n4_ := Aside0.mk (KeepBut.blk hk (g' := gb340) (o := .cells #[.slice Ao11 t333.length co11, .slice Ao15 t336.length co15] 27 (0, 0)) (by refine blk_put (cs := #[.slice Ao11 t333.length co11, .slice none 0 0]) ?_ 1 _ rfl; refine blk_put (cs := #[.slice none 0 0, .slice none 0 0]) ?_ 0 _ rfl; (with_reducible repeat (first | refine blk_drewN ?_ _ | refine blk_drew ?_ | refine blk_alloc ?_ _)); exact BK340.out) NB340_0.out (by simp)); have n5_ := Aside0.mk (KeepBut.trans (by repeat (first | (with_reducible first | exact HK.out | apply KeepBut.set_ | apply keep_drewN | apply keep_drew | apply keep_alloc | refine keep_far ?_ GW328.out _ | refine keep_far ?_ GW340.out _) | exact HK.out)) hk (.inl rfl)); have n6_ := Aside0.mk (hb); have n7_ := Aside0.mk (hi); clear BK328; clear HO331; clear HO335; clear HO338; clear BK340; clear HK; clear HB; clear HI0; have BK328 := n0_; have HO331 := n1_; have HO335 := n2_; have HO338 := n3_; have BK340 := n4_; have HK := n5_; have HB := n6_; have HI0 := n7_; clear n0_ n1_ n2_ n3_ n4_ n5_ n6_ n7_; (try clear hb); (try clear hb2); (try clear hk); (try clear hi)))
 go_loopg [7] k (fun kq v7 w' => ∃ (x7_1 : Int) (x1001_1 : Int) (x341000_1 : List (S50)) (x341001_1 : List (List (S50))) (u341000 : Value) (u341001 : Value), v7 = .int .i64 x7_1 ∧ Aside0 (spec_l20Desk.l0 kq a1 x7_1 s0_0 x1001_1 x341000_1 x341001_1 = some (r1, r2, r3)) ∧ Aside0 (kq ≤ k) ∧ Aside0 (Kd.V k50 50 w' w.heap.size (fun k_ => (w.heap.size ≤ k_) ∧ some k_ ≠ (u341001 : Value).ownBlock ∧ k_ ≠ gb328 ∧ k_ ≠ gb340 ∧ k_ ≠ g) u341000 x341000_1) ∧ Aside0 (Kd.S (Kd.slice 50 k50) 23 w' w.heap.size (fun k_ => (w.heap.size ≤ k_)) u341001 x341001_1) ∧ Aside0 (w'.heap[gb328]? = some (.cells #[(.slice none 0 0), (.slice none 0 0)] 27 (0, 0))) ∧ Aside0 (w'.heap[gb340]? = some (.cells #[u341000, u341001] 27 (0, 0))) ∧ Aside0 (IsS95 w0 w' g s0_0 x1001_1) ∧ Aside0 (KeepBut w w' g none) ∧ Aside0 (Below w0.heap.size w0 w'))
 case atStart => exact ⟨(t341), (t342), (t333), (t336), (.slice Ao11 t333.length co11), (.slice Ao15 t336.length co15), (by first | rfl | (simp; done) | (simp [*]; done)), H', ⟨Nat.le_refl _⟩, ⟨Kd.R_V (by (with_reducible repeat (first | apply Kd.R_alloc | apply Kd.R_drewN | apply Kd.R_drew)); exact Kd.R_mono (IsS95.apart HI0.out (Kd.R_types (Kd.R_types (Kd.R_apart' HO335.out (Kd.S_typed HO338.out) (by decide)) BK328.out (by decide)) BK340.out (by decide)) (by decide)) (fun _ hk => ⟨hk.1.1.1.1.1.1, ⟨hk.1.1.1.2, ⟨hk.1.1.2, ⟨hk.1.2, hk.2⟩⟩⟩⟩))⟩, ⟨by (with_reducible repeat (first | apply Kd.S_alloc | apply Kd.S_drewN | apply Kd.S_drew)); exact Kd.S_mono HO338.out (fun _ hk => hk.1.1)⟩, ⟨by (with_reducible repeat (first | refine blk_drewN ?_ _ | refine blk_drew ?_ | refine blk_alloc ?_ _)); exact BK328.out⟩, ⟨by (with_reducible repeat (first | refine blk_drewN ?_ _ | refine blk_drew ?_ | refine blk_alloc ?_ _)); exact BK340.out⟩, ⟨by repeat (first | (with_reducible first | exact HI0.out | apply IsS95.alloc | apply IsS95.drewN | apply IsS95.drew | apply IsS95.set_1 | refine IsS95.far ?_ NB0_328.out _ | refine IsS95.far ?_ NB0_340.out _) | exact HI0.out)⟩, ⟨by repeat (first | (with_reducible first | exact HK.out | apply KeepBut.set_ | apply keep_drewN | apply keep_drew | apply keep_alloc | refine keep_far ?_ GW328.out _ | refine keep_far ?_ GW340.out _) | exact HK.out)⟩, ⟨by repeat (first | (with_reducible first | exact HB.out | apply below_alloc | apply pw_below_drewN | apply below_drew1 | refine below_set ?_ (IsS95.ge HI0.out) | refine below_set ?_ (Aside0.out (by assumption))) | exact HB.out)⟩⟩
 case round =>
  clear H'
  try clear c1
  try clear p2
  try clear c4
  try clear c5
  try clear c6
  try clear c12
  try clear c13
  try clear hcz14_0
  try clear hcz14_1
  try clear hfz14_0
  try clear hfz14_1
  obtain ⟨x7_1, x1001_1, x341000_1, x341001_1, u341000, u341001, rfl, HA, HK1, HO_341000, HO_341001, BK328, BK340, HI0, HK, HB⟩ := hrel
  cases gk with
  | zero => exact absurd HA.out (by simp [spec_l20Desk.l0])
  | succ k1 =>
   have H := HA.out
   clear HA
   simp only [spec_l20Desk.l0] at H
   by_cases c17 : x7_1 > 0
   ·rw [if_pos c17] at H
    have c17b0 : decide (0 < x7_1) = true := decide_eq_true c17
    clear c17
    replace H := Option.bind_eq_some_iff.mp H
    obtain ⟨⟨t343, t344, t345, t346⟩, A180, H⟩ := H
    replace H : ((spec_DeskDo.f k1 x341000_1 x341001_1 t343 t344 t345).bind fun bt347 => (if bt347.2.2 = true then (spec_l20Desk.l0 k1 a1 (wrap64 (x7_1 - 1)) s0_0 t346 bt347.1 bt347.2.1) else (spec_l20Desk.l0 k1 a1 (wrap64 (x7_1 - 1)) s0_0 t346 x341000_1 x341001_1))) = some (r1, r2, r3) := H
    have A18 := Aside0.mk A180
    clear A180
    replace H := Option.bind_eq_some_iff.mp H
    obtain ⟨⟨t347, t350, t353⟩, A190, H⟩ := H
    replace H : (if t353 = true then (spec_l20Desk.l0 k1 a1 (wrap64 (x7_1 - 1)) s0_0 t346 t347 t350) else (spec_l20Desk.l0 k1 a1 (wrap64 (x7_1 - 1)) s0_0 t346 x341000_1 x341001_1)) = some (r1, r2, r3) := H
    have A19 := Aside0.mk A190
    clear A190
    by_cases c20 : t353 = true
    ·subst c20
     have H1 : (spec_l20Desk.l0 k1 a1 (wrap64 (x7_1 - 1)) s0_0 t346 t347 t350) = some (r1, r2, r3) := by rw [if_pos rfl] at H; exact H
     clear H
     have H := H1
     clear H1
     have H' := Aside0.mk H
     clear H
     obtain ⟨Ao21, co21, eo21⟩ := Kd.V_slice HO_341000.out
     subst eo21
     obtain ⟨Ao22, co22, eo22⟩ := Kd.S_slice HO_341001.out
     subst eo22
     try go_wp2
     have n0_ := Aside0.mk (Kd.V_drew HO_341000.out)
     have n1_ := Aside0.mk (Kd.S_drew HO_341001.out)
     have n2_ := Aside0.mk (blk_drew BK328.out)
     have n3_ := Aside0.mk (blk_drew BK340.out)
     have n4_ := Aside0.mk (IsS95.drew HI0.out)
     have n5_ := Aside0.mk (keep_drew HK.out)
     have n6_ := Aside0.mk (below_drew1 HB.out)
     clear HO_341000
     clear HO_341001
     clear BK328
     clear BK340
     clear HI0
     clear HK
     clear HB
     have HO_341000 := n0_
     have HO_341001 := n1_
     have BK328 := n2_
     have BK340 := n3_
     have HI0 := n4_
     have HK := n5_
     have HB := n6_
     clear n0_ n1_ n2_ n3_ n4_ n5_ n6_
     refine start_ (n := 12) (S := fun w' => w'.cell? ⟨gb340, 0, none⟩ = some (.slice Ao21 x341000_1.length co21) ∧ w'.cell? ⟨gb340, 1, none⟩ = some (.slice Ao22 x341001_1.length co22)) (ds := []) #[false, false, false, false, false, false, false, false, false, false, false, false] (by kernel_rfl) rfl rfl ⟨(blk_cell BK340.out 0).trans rfl, (blk_cell BK340.out 1).trans rfl⟩ (fun hHeld => ?_); refine with_tabW spec_l20Desk.tab5 spec_l20Desk.bits5 (fun HT_ HW_ => ?_)
     generalize wr.drew = w23 at HO_341000 HO_341001 BK328 BK340 HI0 HK HB hHeld ⊢
     refine pure_ (i := 1) (N := some 24) (v := ?_) (a' := ?_) #[false, true, false, false, false, false, false, false, false, false, false, false] rfl rfl (any_of HT_.out (by kernel_rfl)) (fun _ _ _ h => h) (Or.inl ⟨by rfl, ?_⟩) ?_ ?_
     rotate_left
     ·intro w'
      go_simp
      with_reducible rfl
     rotate_left
     ·simp only [Act.put, List.setIfInBounds_toArray, List.set_cons_zero, List.set_cons_succ, i64_w, i32_w]
      rfl
     refine pure_ (i := 2) (N := some 25) (v := ?_) (a' := ?_) #[false, true, true, false, false, false, false, false, false, false, false, false] rfl rfl (any_of HT_.out (by kernel_rfl)) (fun _ _ _ h => h) (Or.inl ⟨by rfl, ?_⟩) ?_ ?_
     rotate_left
     ·intro w'
      go_simp
      with_reducible rfl
     rotate_left
     ·simp only [Act.put, List.setIfInBounds_toArray, List.set_cons_zero, List.set_cons_succ, i64_w, i32_w]
      rfl
     refine take_ (i := 0) (N := some 23) (v := ?_) (a' := ?_) #[true, true, true, false, false, false, false, false, false, false, false, false] rfl rfl (take_ofW HT_.out HW_.out (by kernel_rfl)) (fun _ _ _ h => h) (Or.inl ⟨by rfl, ?_⟩) hHeld ?_ ?_
     rotate_left
     ·rintro w' ⟨s0, s1⟩
      go_simp
      with_reducible rfl
     rotate_left
     ·simp only [Act.put, List.setIfInBounds_toArray, List.set_cons_zero, List.set_cons_succ, i64_w, i32_w]
      rfl
     refine take_ (i := 3) (N := some 26) (v := ?_) (a' := ?_) #[true, true, true, true, false, false, false, false, false, false, false, false] rfl rfl (take_ofW HT_.out HW_.out (by kernel_rfl)) (fun _ _ _ h => h) (Or.inl ⟨by rfl, ?_⟩) hHeld ?_ ?_
     rotate_left
     ·rintro w' ⟨s0, s1⟩
      go_simp
      with_reducible rfl
     rotate_left
     ·simp only [Act.put, List.setIfInBounds_toArray, List.set_cons_zero, List.set_cons_succ, i64_w, i32_w]
      rfl
     refine join_ (σ := Value × Value × Nat) 2 #[true, true, true, true, true, true, true, true, true, true, false, false] (fun s_ => [(27, .agg #[.int .i64 t343, .int .i64 t344, .int .i64 t345]), (28, .tuple #[.agg #[s_.1, s_.2.1], .bool true]), (8, .pointer (some ⟨s_.2.2, 0, none⟩)), (22, .tuple #[.agg #[s_.1, s_.2.1], .bool true]), (29, .agg #[s_.1, s_.2.1]), (30, .bool true)]) (fun s_ w' => (w'.cell? ⟨gb340, 0, none⟩ = some (.slice Ao21 x341000_1.length co21) ∧ w'.cell? ⟨gb340, 1, none⟩ = some (.slice Ao22 x341001_1.length co22)) ∧ (Kd.V k50 50 w' w.heap.size (fun k_ => (w.heap.size ≤ k_) ∧ some k_ ≠ (s_.2.1 : Value).ownBlock ∧ some k_ ≠ (.slice Ao22 x341001_1.length co22 : Value).ownBlock ∧ k_ ≠ g ∧ k_ ≠ gb328 ∧ k_ ≠ gb340 ∧ k_ ≠ s_.2.2) s_.1 t347) ∧ (Kd.S (Kd.slice 50 k50) 23 w' w.heap.size (fun k_ => (w.heap.size ≤ k_) ∧ some k_ ≠ (.slice Ao22 x341001_1.length co22 : Value).ownBlock) s_.2.1 t350) ∧ (Kd.V k50 50 w' w.heap.size (fun k_ => (w.heap.size ≤ k_) ∧ some k_ ≠ (s_.2.1 : Value).ownBlock ∧ some k_ ≠ (.slice Ao22 x341001_1.length co22 : Value).ownBlock ∧ k_ ≠ g ∧ k_ ≠ gb328 ∧ k_ ≠ gb340 ∧ k_ ≠ s_.2.2) (.slice Ao21 x341000_1.length co21) x341000_1) ∧ (Kd.S (Kd.slice 50 k50) 23 w' w.heap.size (fun k_ => (w.heap.size ≤ k_) ∧ some k_ ≠ (s_.2.1 : Value).ownBlock) (.slice Ao22 x341001_1.length co22) x341001_1) ∧ (w'.heap[gb328]? = some (.cells #[.slice none 0 0, .slice none 0 0] 27 (0, 0))) ∧ (w'.heap[gb340]? = some (.cells #[.slice Ao21 x341000_1.length co21, .slice Ao22 x341001_1.length co22] 27 (0, 0))) ∧ (w'.heap[s_.2.2]? = some (.cells #[.slice none 0 0, .slice none 0 0] 27 (0, 0))) ∧ (w.heap.size ≤ s_.2.2) ∧ (w0.heap.size ≤ s_.2.2) ∧ (g ≠ s_.2.2) ∧ (s_.2.2 ≠ g) ∧ (gb328 ≠ s_.2.2) ∧ (s_.2.2 ≠ gb328) ∧ (gb340 ≠ s_.2.2) ∧ (s_.2.2 ≠ gb340) ∧ (IsS95 w0 w' g s0_0 t346) ∧ (KeepBut w w' g none) ∧ (Below w0.heap.size w0 w')) ?_ ?_
     rotate_left
     ·intro hCont
      refine two_ (i := 4) (j := 9) (Ni := some 27) (Nj := some 8) #[true, true, true, true, true, false, false, false, false, false, false, false] #[true, true, true, true, false, false, false, false, false, true, false, false] rfl rfl rfl rfl (two_of HT_.out (by kernel_rfl)) (by decide) (by decide) (fun K hK => ?_) (fun K hK => ?_)
      ·skip
       refine goes_ Try.func56 (by kernel_rfl) rfl #[.pointer (some ⟨g, 0, none⟩), .slice Ao21 x341000_1.length co21] (by rfl) rfl rfl (by (try simp only [List.map_toArray, List.map_cons, List.map_nil]); first | done | rfl | (simp only [List.length_drop, List.length_take]; rfl)) ?_
       with_reducible refine (spec_l20Deed.calls k1 g s0_0 x1001_1 _ _ x341000_1 t343 t344 t345 t346 w0 _ ?side1 ?side2 ?side3 ?side4 A18.out).mono ?_
       (case side1 => repeat (first | (with_reducible first | exact HI0.out | apply IsS95.alloc | apply IsS95.drewN | apply IsS95.drew | apply IsS95.set_1 | refine IsS95.far ?_ NB0_328.out _ | refine IsS95.far ?_ NB0_340.out _) | exact HI0.out))
       (case side2 => repeat (first | (with_reducible first | exact HB.out | apply below_alloc | apply pw_below_drewN | apply below_drew1 | refine below_set ?_ (IsS95.ge HI0.out) | refine below_set ?_ (Aside0.out (by assumption))) | exact HB.out))
       (case side3 => exact Kd.C_foot_ownV (e := 50) (base := 0) (Kd.V_mono (ok := fun k_ => (((w.heap.size ≤ k_)) ∧ (some k_ ≠ (.slice Ao22 x341001_1.length co22 : Value).ownBlock ∧ (k_ ≠ gb328 ∧ (k_ ≠ gb340 ∧ k_ ≠ g))))) (rkV HO_341000) (fun k_ hk_ => (⟨hk_, hk_.2.2.2.2⟩ : _ ∧ k_ ≠ g))) (fun _ h_ => h_.2))
       (case side4 => exact (Kd.V_reads' HO_341000.out).2.1)
       rintro e w24 ⟨rfl, hi, hb, hk⟩
       refine ⟨_, rfl, ?_⟩
       have n0_ := Aside0.mk (Kd.V_mono (Kd.V_keep (Kd.V_mono (ok := fun k_ => (((w.heap.size ≤ k_)) ∧ (some k_ ≠ (.slice Ao22 x341001_1.length co22 : Value).ownBlock ∧ (k_ ≠ gb328 ∧ (k_ ≠ gb340 ∧ k_ ≠ g))))) (rkV HO_341000) (fun k_ hk_ => (⟨hk_, hk_.2.2.2.2⟩ : _ ∧ k_ ≠ g))) hk (fun _ h => h.2)) (fun _ h => h.1))
       have n1_ := Aside0.mk (Kd.S_mono (Kd.S_keep (IsS95.apartS (show IsS95 w0 _ g s0_0 x1001_1 from by repeat (first | (with_reducible first | exact HI0.out | apply IsS95.alloc | apply IsS95.drewN | apply IsS95.drew | apply IsS95.set_1 | refine IsS95.far ?_ NB0_328.out _ | refine IsS95.far ?_ NB0_340.out _) | exact HI0.out)) (rkS HO_341001) (by decide)) hk (fun _ h => h.2)) (fun _ h => h.1))
       have n2_ := Aside0.mk (KeepBut.blk hk (g' := gb328) (o := .cells #[.slice none 0 0, .slice none 0 0] 27 (0, 0)) (pk BK328) NB328_0.out (by simp))
       have n3_ := Aside0.mk (KeepBut.blk hk (g' := gb340) (o := .cells #[.slice Ao21 x341000_1.length co21, .slice Ao22 x341001_1.length co22] 27 (0, 0)) (pk BK340) NB340_0.out (by simp))
       have n4_ := Aside0.mk (KeepBut.trans (by repeat (first | (with_reducible first | exact HK.out | apply KeepBut.set_ | apply keep_drewN | apply keep_drew | apply keep_alloc | refine keep_far ?_ GW328.out _ | refine keep_far ?_ GW340.out _) | exact HK.out)) hk (.inl rfl))
       have n5_ := Aside0.mk (hb)
       have n6_ := Aside0.mk (hi)
       clear HO_341000
       clear HO_341001
       clear BK328
       clear BK340
       clear HK
       clear HB
       clear HI0
       have HO_341000 := n0_
       have HO_341001 := n1_
       have BK328 := n2_
       have BK340 := n3_
       have HK := n4_
       have HB := n5_
       have HI0 := n6_
       clear n0_ n1_ n2_ n3_ n4_ n5_ n6_
       (try clear hb)
       (try clear hb2)
       (try clear hk)
       (try clear hi)
       refine hK.out _ _ ⟨(blk_cell BK340.out 0).trans rfl, (blk_cell BK340.out 1).trans rfl⟩ (fun hHeld => ?_)
       clear hK K
       refine norm_ (a' := ?_) ?_ ?_
       rotate_left
       ·show Act.put _ (some 27) _ = _
        simp only [Act.put, List.setIfInBounds_toArray, List.set_cons_zero, List.set_cons_succ, i64_w, i32_w]
        rfl
       refine two_ (i := 5) (j := 9) (Ni := some 28) (Nj := some 8) #[true, true, true, true, true, true, false, false, false, false, false, false] #[true, true, true, true, true, false, false, false, false, true, false, false] rfl rfl rfl rfl (two_of HT_.out (by kernel_rfl)) (by decide) (by decide) (fun K hK => ?_) (fun K hK => ?_)
       ·skip
        refine goes_ Try.func33 (by kernel_rfl) rfl #[.agg #[.slice Ao21 x341000_1.length co21, .slice Ao22 x341001_1.length co22], .agg #[.int .i64 t343, .int .i64 t344, .int .i64 t345]] (by rfl) rfl rfl (by (try simp only [List.map_toArray, List.map_cons, List.map_nil]); first | done | rfl | (simp only [List.length_drop, List.length_take]; rfl)) ?_
        with_reducible refine (spec_DeskDo.calls k1 (fun k_ => ((w.heap.size ≤ k_) ∧ (some k_ ≠ (.slice Ao22 x341001_1.length co22 : Value).ownBlock ∧ (k_ ≠ gb328 ∧ (k_ ≠ gb340 ∧ k_ ≠ g))))) _ _ x341000_1 _ _ x341001_1 t343 t344 t345 t347 t350 true _ ?side1 ?side2 ?side3 A19.out).mono ?_
        (case side1 => exact HO_341000.out)
        (case side2 => repeat (first | exact (Kd.S_reads' HO_341001.out).2.2 | (with_reducible refine Kd.C_alloc ?_ _) | (with_reducible refine Kd.C_drewN ?_ _) | (with_reducible refine Kd.C_drew ?_)))
        (case side3 => exact (Kd.S_reads' HO_341001.out).2.1)
        rintro e w25 ⟨v348, v351, rfl, ho0, ho1, hb⟩
        refine ⟨_, rfl, ?_⟩
        have n0_ := Aside0.mk (Kd.V_elder' (rkV HO_341000) (Kd.S_base ho1) hb)
        have n1_ := Aside0.mk (Kd.S_elder' (rkS HO_341001) (Kd.S_base ho1) hb)
        have n2_ := Aside0.mk (Kd.V_lower (Kd.V_mono (ok' := fun k_ => (w.heap.size ≤ k_) ∧ some k_ ≠ (v351 : Value).ownBlock ∧ some k_ ≠ (.slice Ao22 x341001_1.length co22 : Value).ownBlock ∧ k_ ≠ gb328 ∧ k_ ≠ gb340 ∧ k_ ≠ g) ho0 (fun k_ hk_ => ⟨Or.elim hk_.1 (fun hs_ => hs_.1) (fun hn_ => (Nat.le_trans (keep_size (w := w) (g := g) (row := none) (by repeat (first | (with_reducible first | exact HK.out | apply KeepBut.set_ | apply keep_drewN | apply keep_drew | apply keep_alloc | refine keep_far ?_ GW328.out _ | refine keep_far ?_ GW340.out _) | exact HK.out))) hn_)), hk_.2, Or.elim hk_.1 (fun hs_ => hs_.2.1) (fun hn_ => (Kd.fresh' (Kd.S_lt (rkS HO_341001)) k_ hn_)), Or.elim hk_.1 (fun hs_ => hs_.2.2.1) (fun hn_ => (Kd.freshB (g := gb328) (o := .cells #[.slice none 0 0, .slice none 0 0] 27 (0, 0)) (pk BK328) k_ hn_)), Or.elim hk_.1 (fun hs_ => hs_.2.2.2.1) (fun hn_ => (Kd.freshB (g := gb340) (o := .cells #[.slice Ao21 x341000_1.length co21, .slice Ao22 x341001_1.length co22] 27 (0, 0)) (pk BK340) k_ hn_)), Or.elim hk_.1 (fun hs_ => hs_.2.2.2.2) (fun hn_ => (IsS95.fresh (by repeat (first | (with_reducible first | exact HI0.out | apply IsS95.alloc | apply IsS95.drewN | apply IsS95.drew | apply IsS95.set_1 | refine IsS95.far ?_ NB0_328.out _ | refine IsS95.far ?_ NB0_340.out _) | exact HI0.out)) k_ hn_))⟩)) (keep_size (w := w) (g := g) (row := none) (by repeat (first | (with_reducible first | exact HK.out | apply KeepBut.set_ | apply keep_drewN | apply keep_drew | apply keep_alloc | refine keep_far ?_ GW328.out _ | refine keep_far ?_ GW340.out _) | exact HK.out))))
        have n3_ := Aside0.mk (Kd.S_lower (Kd.S_new' (Kd.S_newM (M := fun k_ => (w.heap.size ≤ k_)) (Kd.S_mono (ok' := fun k_ => True) ho1 (fun _ hk_ => trivial)) (keep_size (w := w) (g := g) (row := none) (by repeat (first | (with_reducible first | exact HK.out | apply KeepBut.set_ | apply keep_drewN | apply keep_drew | apply keep_alloc | refine keep_far ?_ GW328.out _ | refine keep_far ?_ GW340.out _) | exact HK.out))) (fun k_ h_ => h_)) (Kd.S_lt (rkS HO_341001))) (keep_size (w := w) (g := g) (row := none) (by repeat (first | (with_reducible first | exact HK.out | apply KeepBut.set_ | apply keep_drewN | apply keep_drew | apply keep_alloc | refine keep_far ?_ GW328.out _ | refine keep_far ?_ GW340.out _) | exact HK.out))))
        have n4_ := Aside0.mk (blk_below (g := gb328) (o := .cells #[.slice none 0 0, .slice none 0 0] 27 (0, 0)) (pk BK328) hb)
        have n5_ := Aside0.mk (blk_below (g := gb340) (o := .cells #[.slice Ao21 x341000_1.length co21, .slice Ao22 x341001_1.length co22] 27 (0, 0)) (pk BK340) hb)
        have n6_ := Aside0.mk (IsS95.below (by repeat (first | (with_reducible first | exact HI0.out | apply IsS95.alloc | apply IsS95.drewN | apply IsS95.drew | apply IsS95.set_1 | refine IsS95.far ?_ NB0_328.out _ | refine IsS95.far ?_ NB0_340.out _) | exact HI0.out)) hb)
        have n7_ := Aside0.mk (KeepBut.trans (by repeat (first | (with_reducible first | exact HK.out | apply KeepBut.set_ | apply keep_drewN | apply keep_drew | apply keep_alloc | refine keep_far ?_ GW328.out _ | refine keep_far ?_ GW340.out _) | exact HK.out)) (KeepBut.of_below hb g none) (.inl rfl))
        have n8_ := Aside0.mk (below_step (by repeat (first | (with_reducible first | exact HB.out | apply below_alloc | apply pw_below_drewN | apply below_drew1 | refine below_set ?_ (IsS95.ge HI0.out) | refine below_set ?_ (Aside0.out (by assumption))) | exact HB.out)) hb)
        clear HO_341000
        clear HO_341001
        clear BK328
        clear BK340
        clear HI0
        clear HK
        clear HB
        have HO_341000 := n0_
        have HO_341001 := n1_
        have HO349 := n2_
        have HO352 := n3_
        have BK328 := n4_
        have BK340 := n5_
        have HI0 := n6_
        have HK := n7_
        have HB := n8_
        clear n0_ n1_ n2_ n3_ n4_ n5_ n6_ n7_ n8_
        (try clear hb)
        (try clear hb2)
        (try clear hk)
        (try clear hi)
        (try clear ho0)
        (try clear ho1)
        refine hK.out _ _ ⟨(blk_cell BK340.out 0).trans rfl, (blk_cell BK340.out 1).trans rfl⟩ (fun hHeld => ?_)
        clear hK K
        refine norm_ (a' := ?_) ?_ ?_
        rotate_left
        ·show Act.put _ (some 28) _ = _
         simp only [Act.put, List.setIfInBounds_toArray, List.set_cons_zero, List.set_cons_succ, i64_w, i32_w]
         rfl
        refine pure_ (i := 6) (N := some 22) (v := ?_) (a' := ?_) #[true, true, true, true, true, true, true, false, false, false, false, false] rfl rfl (any_of HT_.out (by kernel_rfl)) (fun _ _ _ h => h) (Or.inl ⟨by rfl, ?_⟩) ?_ ?_
        rotate_left
        ·intro w'
         go_simp
         with_reducible rfl
        rotate_left
        ·simp only [Act.put, List.setIfInBounds_toArray, List.set_cons_zero, List.set_cons_succ, i64_w, i32_w]
         rfl
        refine pure_ (i := 7) (N := some 29) (v := ?_) (a' := ?_) #[true, true, true, true, true, true, true, true, false, false, false, false] rfl rfl (any_of HT_.out (by kernel_rfl)) (fun _ _ _ h => h) (Or.inl ⟨by rfl, ?_⟩) ?_ ?_
        rotate_left
        ·intro w'
         go_simp
         with_reducible rfl
        rotate_left
        ·simp only [Act.put, List.setIfInBounds_toArray, List.set_cons_zero, List.set_cons_succ, i64_w, i32_w]
         rfl
        refine pure_ (i := 8) (N := some 30) (v := ?_) (a' := ?_) #[true, true, true, true, true, true, true, true, true, false, false, false] rfl rfl (any_of HT_.out (by kernel_rfl)) (fun _ _ _ h => h) (Or.inl ⟨by rfl, ?_⟩) ?_ ?_
        rotate_left
        ·intro w'
         go_simp
         with_reducible rfl
        rotate_left
        ·simp only [Act.put, List.setIfInBounds_toArray, List.set_cons_zero, List.set_cons_succ, i64_w, i32_w]
         rfl
        refine one_ (i := 9) (N := some 8) #[true, true, true, true, true, true, true, true, true, true, false, false] rfl rfl (one_of HT_.out (by kernel_rfl)) (by decide) (fun K hK => ?_)
        refine box_step ?hg (N := 8) ?hd (cs := #[.slice none 0 0, .slice none 0 0]) (t := 27) ?hr ?_; (case hd => rfl); (case hg => rfl); (case hr => first | (go_simp; done) | (go_simp; rfl))
        intro gb354 hg w26 hbox hb
        have n0_ := Aside0.mk (Kd.V_below (Kd.V_elderB (rkV HO_341000) gb354 (Nat.le_of_eq hg.symm)) hb)
        have n1_ := Aside0.mk (Kd.S_below (rkS HO_341001) hb)
        have n2_ := Aside0.mk (Kd.V_below (Kd.V_elderB (rkV HO349) gb354 (Nat.le_of_eq hg.symm)) hb)
        have n3_ := Aside0.mk (Kd.S_below (rkS HO352) hb)
        have n4_ := Aside0.mk (blk_below (g := gb328) (o := .cells #[.slice none 0 0, .slice none 0 0] 27 (0, 0)) (pk BK328) hb)
        have n5_ := Aside0.mk (blk_below (g := gb340) (o := .cells #[.slice Ao21 x341000_1.length co21, .slice Ao22 x341001_1.length co22] 27 (0, 0)) (pk BK340) hb)
        have n6_ := Aside0.mk (IsS95.below (by repeat (first | (with_reducible first | exact HI0.out | apply IsS95.alloc | apply IsS95.drewN | apply IsS95.drew | apply IsS95.set_1 | refine IsS95.far ?_ NB0_328.out _ | refine IsS95.far ?_ NB0_340.out _) | exact HI0.out)) hb)
        have n7_ := Aside0.mk (KeepBut.trans (by repeat (first | (with_reducible first | exact HK.out | apply KeepBut.set_ | apply keep_drewN | apply keep_drew | apply keep_alloc | refine keep_far ?_ GW328.out _ | refine keep_far ?_ GW340.out _) | exact HK.out)) (KeepBut.of_below hb g none) (.inl rfl))
        have n8_ := Aside0.mk (below_step (by repeat (first | (with_reducible first | exact HB.out | apply below_alloc | apply pw_below_drewN | apply below_drew1 | refine below_set ?_ (IsS95.ge HI0.out) | refine below_set ?_ (Aside0.out (by assumption))) | exact HB.out)) hb)
        have n9_ := Aside0.mk (hbox)
        have n10_ := Aside0.mk ((by rw [hg]; exact (keep_size (w := w) (g := g) (row := none) (by repeat (first | (with_reducible first | exact HK.out | apply KeepBut.set_ | apply keep_drewN | apply keep_drew | apply keep_alloc | refine keep_far ?_ GW328.out _ | refine keep_far ?_ GW340.out _) | exact HK.out))) : w.heap.size ≤ gb354))
        have n11_ := Aside0.mk ((Nat.le_trans HW0.out (by rw [hg]; exact (keep_size (w := w) (g := g) (row := none) (by repeat (first | (with_reducible first | exact HK.out | apply KeepBut.set_ | apply keep_drewN | apply keep_drew | apply keep_alloc | refine keep_far ?_ GW328.out _ | refine keep_far ?_ GW340.out _) | exact HK.out))) : w.heap.size ≤ gb354) : w0.heap.size ≤ gb354))
        have n12_ := Aside0.mk ((by rw [hg]; exact Nat.ne_of_lt (blk_lt (g := gb328) (o := .cells #[.slice none 0 0, .slice none 0 0] 27 (0, 0)) (pk BK328)) : gb328 ≠ gb354))
        have n13_ := Aside0.mk ((by rw [hg]; exact Nat.ne_of_gt (blk_lt (g := gb328) (o := .cells #[.slice none 0 0, .slice none 0 0] 27 (0, 0)) (pk BK328)) : gb354 ≠ gb328))
        have n14_ := Aside0.mk ((by rw [hg]; exact Nat.ne_of_lt (blk_lt (g := gb340) (o := .cells #[.slice Ao21 x341000_1.length co21, .slice Ao22 x341001_1.length co22] 27 (0, 0)) (pk BK340)) : gb340 ≠ gb354))
        have n15_ := Aside0.mk ((by rw [hg]; exact Nat.ne_of_gt (blk_lt (g := gb340) (o := .cells #[.slice Ao21 x341000_1.length co21, .slice Ao22 x341001_1.length co22] 27 (0, 0)) (pk BK340)) : gb354 ≠ gb340))
        have n16_ := Aside0.mk ((by rw [hg]; exact Nat.ne_of_lt (IsS95.lt (show IsS95 w0 _ g s0_0 t346 from by repeat (first | (with_reducible first | exact HI0.out | apply IsS95.alloc | apply IsS95.drewN | apply IsS95.drew | apply IsS95.set_1 | refine IsS95.far ?_ NB0_328.out _ | refine IsS95.far ?_ NB0_340.out _) | exact HI0.out))) : g ≠ gb354))
        have n17_ := Aside0.mk ((by rw [hg]; exact Nat.ne_of_gt (IsS95.lt (show IsS95 w0 _ g s0_0 t346 from by repeat (first | (with_reducible first | exact HI0.out | apply IsS95.alloc | apply IsS95.drewN | apply IsS95.drew | apply IsS95.set_1 | refine IsS95.far ?_ NB0_328.out _ | refine IsS95.far ?_ NB0_340.out _) | exact HI0.out))) : gb354 ≠ g))
        clear HO_341000
        clear HO_341001
        clear HO349
        clear HO352
        clear BK328
        clear BK340
        clear HI0
        clear HK
        clear HB
        have HO_341000 := n0_
        have HO_341001 := n1_
        have HO349 := n2_
        have HO352 := n3_
        have BK328 := n4_
        have BK340 := n5_
        have HI0 := n6_
        have HK := n7_
        have HB := n8_
        have BK354 := n9_
        have GW354 := n10_
        have GE354 := n11_
        have NB328_354 := n12_
        have NB354_328 := n13_
        have NB340_354 := n14_
        have NB354_340 := n15_
        have NB0_354 := n16_
        have NB354_0 := n17_
        clear n0_ n1_ n2_ n3_ n4_ n5_ n6_ n7_ n8_ n9_ n10_ n11_ n12_ n13_ n14_ n15_ n16_ n17_
        clear hb hbox hg
        refine hK.out _ _ ⟨(blk_cell BK340.out 0).trans rfl, (blk_cell BK340.out 1).trans rfl⟩ (fun hHeld => ?_)
        clear hK K
        refine norm_ (a' := ?_) ?_ ?_
        rotate_left
        ·show Act.put _ (some 8) _ = _
         simp only [Act.put, List.setIfInBounds_toArray, List.set_cons_zero, List.set_cons_succ, i64_w, i32_w]
         rfl
        exact norm_ (by simp only [putAll, Act.put, List.setIfInBounds_toArray, List.set_cons_zero, List.set_cons_succ]) (hCont (v348, v351, gb354) _ ⟨hHeld, (by (with_reducible repeat (first | apply Kd.V_alloc | apply Kd.V_drewN | apply Kd.V_drew)); exact Kd.V_mono HO349.out (fun _ hk => ⟨hk.1.1, ⟨hk.1.2.1, ⟨hk.1.2.2.1, ⟨hk.1.2.2.2.2.2, ⟨hk.1.2.2.2.1, ⟨hk.1.2.2.2.2.1, hk.2⟩⟩⟩⟩⟩⟩)), (by (with_reducible repeat (first | apply Kd.S_alloc | apply Kd.S_drewN | apply Kd.S_drew)); exact Kd.S_mono HO352.out (fun _ hk => ⟨hk.1.1, hk.2⟩)), (by (with_reducible repeat (first | apply Kd.V_alloc | apply Kd.V_drewN | apply Kd.V_drew)); exact Kd.V_mono HO_341000.out (fun _ hk => ⟨hk.1.1.1, ⟨hk.1.2, ⟨hk.1.1.2.1, ⟨hk.1.1.2.2.2.2, ⟨hk.1.1.2.2.1, ⟨hk.1.1.2.2.2.1, hk.2⟩⟩⟩⟩⟩⟩)), (rkS HO_341001), (pk BK328), (pk BK340), (pk BK354), GW354.out, GE354.out, NB0_354.out, NB354_0.out, NB328_354.out, NB354_328.out, NB340_354.out, NB354_340.out, (by repeat (first | (with_reducible first | exact HI0.out | apply IsS95.alloc | apply IsS95.drewN | apply IsS95.drew | apply IsS95.set_1 | refine IsS95.far ?_ NB0_328.out _ | refine IsS95.far ?_ NB0_340.out _ | refine IsS95.far ?_ NB0_354.out _) | exact HI0.out)), (by repeat (first | (with_reducible first | exact HK.out | apply KeepBut.set_ | apply keep_drewN | apply keep_drew | apply keep_alloc | refine keep_far ?_ GW328.out _ | refine keep_far ?_ GW340.out _ | refine keep_far ?_ GW354.out _) | exact HK.out)), (by repeat (first | (with_reducible first | exact HB.out | apply below_alloc | apply pw_below_drewN | apply below_drew1 | refine below_set ?_ (IsS95.ge HI0.out) | refine below_set ?_ (Aside0.out (by assumption))) | exact HB.out))⟩)
       ·skip
        refine box_step ?hg (N := 8) ?hd (cs := #[.slice none 0 0, .slice none 0 0]) (t := 27) ?hr ?_; (case hd => rfl); (case hg => rfl); (case hr => first | (go_simp; done) | (go_simp; rfl))
        intro gb354 hg w25 hbox hb
        have n0_ := Aside0.mk (Kd.V_below (Kd.V_elderB (rkV HO_341000) gb354 (Nat.le_of_eq hg.symm)) hb)
        have n1_ := Aside0.mk (Kd.S_below (rkS HO_341001) hb)
        have n2_ := Aside0.mk (blk_below (g := gb328) (o := .cells #[.slice none 0 0, .slice none 0 0] 27 (0, 0)) (pk BK328) hb)
        have n3_ := Aside0.mk (blk_below (g := gb340) (o := .cells #[.slice Ao21 x341000_1.length co21, .slice Ao22 x341001_1.length co22] 27 (0, 0)) (pk BK340) hb)
        have n4_ := Aside0.mk (IsS95.below (by repeat (first | (with_reducible first | exact HI0.out | apply IsS95.alloc | apply IsS95.drewN | apply IsS95.drew | apply IsS95.set_1 | refine IsS95.far ?_ NB0_328.out _ | refine IsS95.far ?_ NB0_340.out _) | exact HI0.out)) hb)
        have n5_ := Aside0.mk (KeepBut.trans (by repeat (first | (with_reducible first | exact HK.out | apply KeepBut.set_ | apply keep_drewN | apply keep_drew | apply keep_alloc | refine keep_far ?_ GW328.out _ | refine keep_far ?_ GW340.out _) | exact HK.out)) (KeepBut.of_below hb g none) (.inl rfl))
        have n6_ := Aside0.mk (below_step (by repeat (first | (with_reducible first | exact HB.out | apply below_alloc | apply pw_below_drewN | apply below_drew1 | refine below_set ?_ (IsS95.ge HI0.out) | refine below_set ?_ (Aside0.out (by assumption))) | exact HB.out)) hb)
        have n7_ := Aside0.mk (hbox)
        have n8_ := Aside0.mk ((by rw [hg]; exact (keep_size (w := w) (g := g) (row := none) (by repeat (first | (with_reducible first | exact HK.out | apply KeepBut.set_ | apply keep_drewN | apply keep_drew | apply keep_alloc | refine keep_far ?_ GW328.out _ | refine keep_far ?_ GW340.out _) | exact HK.out))) : w.heap.size ≤ gb354))
        have n9_ := Aside0.mk ((Nat.le_trans HW0.out (by rw [hg]; exact (keep_size (w := w) (g := g) (row := none) (by repeat (first | (with_reducible first | exact HK.out | apply KeepBut.set_ | apply keep_drewN | apply keep_drew | apply keep_alloc | refine keep_far ?_ GW328.out _ | refine keep_far ?_ GW340.out _) | exact HK.out))) : w.heap.size ≤ gb354) : w0.heap.size ≤ gb354))
        have n10_ := Aside0.mk ((by rw [hg]; exact Nat.ne_of_lt (blk_lt (g := gb328) (o := .cells #[.slice none 0 0, .slice none 0 0] 27 (0, 0)) (pk BK328)) : gb328 ≠ gb354))
        have n11_ := Aside0.mk ((by rw [hg]; exact Nat.ne_of_gt (blk_lt (g := gb328) (o := .cells #[.slice none 0 0, .slice none 0 0] 27 (0, 0)) (pk BK328)) : gb354 ≠ gb328))
        have n12_ := Aside0.mk ((by rw [hg]; exact Nat.ne_of_lt (blk_lt (g := gb340) (o := .cells #[.slice Ao21 x341000_1.length co21, .slice Ao22 x341001_1.length co22] 27 (0, 0)) (pk BK340)) : gb340 ≠ gb354))
        have n13_ := Aside0.mk ((by rw [hg]; exact Nat.ne_of_gt (blk_lt (g := gb340) (o := .cells #[.slice Ao21 x341000_1.length co21, .slice Ao22 x341001_1.length co22] 27 (0, 0)) (pk BK340)) : gb354 ≠ gb340))
        have n14_ := Aside0.mk ((by rw [hg]; exact Nat.ne_of_lt (IsS95.lt (show IsS95 w0 _ g s0_0 t346 from by repeat (first | (with_reducible first | exact HI0.out | apply IsS95.alloc | apply IsS95.drewN | apply IsS95.drew | apply IsS95.set_1 | refine IsS95.far ?_ NB0_328.out _ | refine IsS95.far ?_ NB0_340.out _) | exact HI0.out))) : g ≠ gb354))
        have n15_ := Aside0.mk ((by rw [hg]; exact Nat.ne_of_gt (IsS95.lt (show IsS95 w0 _ g s0_0 t346 from by repeat (first | (with_reducible first | exact HI0.out | apply IsS95.alloc | apply IsS95.drewN | apply IsS95.drew | apply IsS95.set_1 | refine IsS95.far ?_ NB0_328.out _ | refine IsS95.far ?_ NB0_340.out _) | exact HI0.out))) : gb354 ≠ g))
        clear HO_341000
        clear HO_341001
        clear BK328
        clear BK340
        clear HI0
        clear HK
        clear HB
        have HO_341000 := n0_
        have HO_341001 := n1_
        have BK328 := n2_
        have BK340 := n3_
        have HI0 := n4_
        have HK := n5_
        have HB := n6_
        have BK354 := n7_
        have GW354 := n8_
        have GE354 := n9_
        have NB328_354 := n10_
        have NB354_328 := n11_
        have NB340_354 := n12_
        have NB354_340 := n13_
        have NB0_354 := n14_
        have NB354_0 := n15_
        clear n0_ n1_ n2_ n3_ n4_ n5_ n6_ n7_ n8_ n9_ n10_ n11_ n12_ n13_ n14_ n15_
        clear hb hbox hg
        refine hK.out _ _ ⟨(blk_cell BK340.out 0).trans rfl, (blk_cell BK340.out 1).trans rfl⟩ (fun hHeld => ?_)
        clear hK K
        refine norm_ (a' := ?_) ?_ ?_
        rotate_left
        ·show Act.put _ (some 8) _ = _
         simp only [Act.put, List.setIfInBounds_toArray, List.set_cons_zero, List.set_cons_succ, i64_w, i32_w]
         rfl
        refine one_ (i := 5) (N := some 28) #[true, true, true, true, true, true, false, false, false, true, false, false] rfl rfl (one_of HT_.out (by kernel_rfl)) (by decide) (fun K hK => ?_)
        refine goes_ Try.func33 (by kernel_rfl) rfl #[.agg #[.slice Ao21 x341000_1.length co21, .slice Ao22 x341001_1.length co22], .agg #[.int .i64 t343, .int .i64 t344, .int .i64 t345]] (by rfl) rfl rfl (by (try simp only [List.map_toArray, List.map_cons, List.map_nil]); first | done | rfl | (simp only [List.length_drop, List.length_take]; rfl)) ?_
        with_reducible refine (spec_DeskDo.calls k1 (fun k_ => (((w.heap.size ≤ k_) ∧ (some k_ ≠ (.slice Ao22 x341001_1.length co22 : Value).ownBlock ∧ (k_ ≠ gb328 ∧ (k_ ≠ gb340 ∧ k_ ≠ g)))) ∧ k_ ≠ gb354)) _ _ x341000_1 _ _ x341001_1 t343 t344 t345 t347 t350 true _ ?side1 ?side2 ?side3 A19.out).mono ?_
        (case side1 => exact HO_341000.out)
        (case side2 => repeat (first | exact (Kd.S_reads' HO_341001.out).2.2 | (with_reducible refine Kd.C_alloc ?_ _) | (with_reducible refine Kd.C_drewN ?_ _) | (with_reducible refine Kd.C_drew ?_)))
        (case side3 => exact (Kd.S_reads' HO_341001.out).2.1)
        rintro e w26 ⟨v348, v351, rfl, ho0, ho1, hb⟩
        refine ⟨_, rfl, ?_⟩
        have n0_ := Aside0.mk (Kd.V_elder' (rkV HO_341000) (Kd.S_base ho1) hb)
        have n1_ := Aside0.mk (Kd.S_elder' (rkS HO_341001) (Kd.S_base ho1) hb)
        have n2_ := Aside0.mk (Kd.V_lower (Kd.V_mono (ok' := fun k_ => (w.heap.size ≤ k_) ∧ some k_ ≠ (v351 : Value).ownBlock ∧ some k_ ≠ (.slice Ao22 x341001_1.length co22 : Value).ownBlock ∧ k_ ≠ gb328 ∧ k_ ≠ gb340 ∧ k_ ≠ gb354 ∧ k_ ≠ g) ho0 (fun k_ hk_ => ⟨Or.elim hk_.1 (fun hs_ => hs_.1.1) (fun hn_ => (Nat.le_trans (keep_size (w := w) (g := g) (row := none) (by repeat (first | (with_reducible first | exact HK.out | apply KeepBut.set_ | apply keep_drewN | apply keep_drew | apply keep_alloc | refine keep_far ?_ GW328.out _ | refine keep_far ?_ GW340.out _ | refine keep_far ?_ GW354.out _) | exact HK.out))) hn_)), hk_.2, Or.elim hk_.1 (fun hs_ => hs_.1.2.1) (fun hn_ => (Kd.fresh' (Kd.S_lt (rkS HO_341001)) k_ hn_)), Or.elim hk_.1 (fun hs_ => hs_.1.2.2.1) (fun hn_ => (Kd.freshB (g := gb328) (o := .cells #[.slice none 0 0, .slice none 0 0] 27 (0, 0)) (pk BK328) k_ hn_)), Or.elim hk_.1 (fun hs_ => hs_.1.2.2.2.1) (fun hn_ => (Kd.freshB (g := gb340) (o := .cells #[.slice Ao21 x341000_1.length co21, .slice Ao22 x341001_1.length co22] 27 (0, 0)) (pk BK340) k_ hn_)), Or.elim hk_.1 (fun hs_ => hs_.2) (fun hn_ => (Kd.freshB (g := gb354) (o := .cells #[.slice none 0 0, .slice none 0 0] 27 (0, 0)) (pk BK354) k_ hn_)), Or.elim hk_.1 (fun hs_ => hs_.1.2.2.2.2) (fun hn_ => (IsS95.fresh (by repeat (first | (with_reducible first | exact HI0.out | apply IsS95.alloc | apply IsS95.drewN | apply IsS95.drew | apply IsS95.set_1 | refine IsS95.far ?_ NB0_328.out _ | refine IsS95.far ?_ NB0_340.out _ | refine IsS95.far ?_ NB0_354.out _) | exact HI0.out)) k_ hn_))⟩)) (keep_size (w := w) (g := g) (row := none) (by repeat (first | (with_reducible first | exact HK.out | apply KeepBut.set_ | apply keep_drewN | apply keep_drew | apply keep_alloc | refine keep_far ?_ GW328.out _ | refine keep_far ?_ GW340.out _ | refine keep_far ?_ GW354.out _) | exact HK.out))))
        have n3_ := Aside0.mk (Kd.S_lower (Kd.S_new' (Kd.S_newM (M := fun k_ => (w.heap.size ≤ k_)) (Kd.S_mono (ok' := fun k_ => True) ho1 (fun _ hk_ => trivial)) (keep_size (w := w) (g := g) (row := none) (by repeat (first | (with_reducible first | exact HK.out | apply KeepBut.set_ | apply keep_drewN | apply keep_drew | apply keep_alloc | refine keep_far ?_ GW328.out _ | refine keep_far ?_ GW340.out _ | refine keep_far ?_ GW354.out _) | exact HK.out))) (fun k_ h_ => h_)) (Kd.S_lt (rkS HO_341001))) (keep_size (w := w) (g := g) (row := none) (by repeat (first | (with_reducible first | exact HK.out | apply KeepBut.set_ | apply keep_drewN | apply keep_drew | apply keep_alloc | refine keep_far ?_ GW328.out _ | refine keep_far ?_ GW340.out _ | refine keep_far ?_ GW354.out _) | exact HK.out))))
        have n4_ := Aside0.mk (blk_below (g := gb328) (o := .cells #[.slice none 0 0, .slice none 0 0] 27 (0, 0)) (pk BK328) hb)
        have n5_ := Aside0.mk (blk_below (g := gb340) (o := .cells #[.slice Ao21 x341000_1.length co21, .slice Ao22 x341001_1.length co22] 27 (0, 0)) (pk BK340) hb)
        have n6_ := Aside0.mk (IsS95.below (by repeat (first | (with_reducible first | exact HI0.out | apply IsS95.alloc | apply IsS95.drewN | apply IsS95.drew | apply IsS95.set_1 | refine IsS95.far ?_ NB0_328.out _ | refine IsS95.far ?_ NB0_340.out _ | refine IsS95.far ?_ NB0_354.out _) | exact HI0.out)) hb)
        have n7_ := Aside0.mk (blk_below (g := gb354) (o := .cells #[.slice none 0 0, .slice none 0 0] 27 (0, 0)) (pk BK354) hb)
        have n8_ := Aside0.mk (KeepBut.trans (by repeat (first | (with_reducible first | exact HK.out | apply KeepBut.set_ | apply keep_drewN | apply keep_drew | apply keep_alloc | refine keep_far ?_ GW328.out _ | refine keep_far ?_ GW340.out _ | refine keep_far ?_ GW354.out _) | exact HK.out)) (KeepBut.of_below hb g none) (.inl rfl))
        have n9_ := Aside0.mk (below_step (by repeat (first | (with_reducible first | exact HB.out | apply below_alloc | apply pw_below_drewN | apply below_drew1 | refine below_set ?_ (IsS95.ge HI0.out) | refine below_set ?_ (Aside0.out (by assumption))) | exact HB.out)) hb)
        clear HO_341000
        clear HO_341001
        clear BK328
        clear BK340
        clear HI0
        clear BK354
        clear HK
        clear HB
        have HO_341000 := n0_
        have HO_341001 := n1_
        have HO349 := n2_
        have HO352 := n3_
        have BK328 := n4_
        have BK340 := n5_
        have HI0 := n6_
        have BK354 := n7_
        have HK := n8_
        have HB := n9_
        clear n0_ n1_ n2_ n3_ n4_ n5_ n6_ n7_ n8_ n9_
        (try clear hb)
        (try clear hb2)
        (try clear hk)
        (try clear hi)
        (try clear ho0)
        (try clear ho1)
        refine hK.out _ _ ⟨(blk_cell BK340.out 0).trans rfl, (blk_cell BK340.out 1).trans rfl⟩ (fun hHeld => ?_)
        clear hK K
        refine norm_ (a' := ?_) ?_ ?_
        rotate_left
        ·show Act.put _ (some 28) _ = _
         simp only [Act.put, List.setIfInBounds_toArray, List.set_cons_zero, List.set_cons_succ, i64_w, i32_w]
         rfl
        refine pure_ (i := 6) (N := some 22) (v := ?_) (a' := ?_) #[true, true, true, true, true, true, true, false, false, true, false, false] rfl rfl (any_of HT_.out (by kernel_rfl)) (fun _ _ _ h => h) (Or.inl ⟨by rfl, ?_⟩) ?_ ?_
        rotate_left
        ·intro w'
         go_simp
         with_reducible rfl
        rotate_left
        ·simp only [Act.put, List.setIfInBounds_toArray, List.set_cons_zero, List.set_cons_succ, i64_w, i32_w]
         rfl
        refine pure_ (i := 7) (N := some 29) (v := ?_) (a' := ?_) #[true, true, true, true, true, true, true, true, false, true, false, false] rfl rfl (any_of HT_.out (by kernel_rfl)) (fun _ _ _ h => h) (Or.inl ⟨by rfl, ?_⟩) ?_ ?_
        rotate_left
        ·intro w'
         go_simp
         with_reducible rfl
        rotate_left
        ·simp only [Act.put, List.setIfInBounds_toArray, List.set_cons_zero, List.set_cons_succ, i64_w, i32_w]
         rfl
        refine pure_ (i := 8) (N := some 30) (v := ?_) (a' := ?_) #[true, true, true, true, true, true, true, true, true, true, false, false] rfl rfl (any_of HT_.out (by kernel_rfl)) (fun _ _ _ h => h) (Or.inl ⟨by rfl, ?_⟩) ?_ ?_
        rotate_left
        ·intro w'
         go_simp
         with_reducible rfl
        rotate_left
        ·simp only [Act.put, List.setIfInBounds_toArray, List.set_cons_zero, List.set_cons_succ, i64_w, i32_w]
         rfl
        exact norm_ (by simp only [putAll, Act.put, List.setIfInBounds_toArray, List.set_cons_zero, List.set_cons_succ]) (hCont (v348, v351, gb354) _ ⟨hHeld, (by (with_reducible repeat (first | apply Kd.V_alloc | apply Kd.V_drewN | apply Kd.V_drew)); exact Kd.V_mono HO349.out (fun _ hk => ⟨hk.1, ⟨hk.2.1, ⟨hk.2.2.1, ⟨hk.2.2.2.2.2.2, ⟨hk.2.2.2.1, ⟨hk.2.2.2.2.1, hk.2.2.2.2.2.1⟩⟩⟩⟩⟩⟩)), (by (with_reducible repeat (first | apply Kd.S_alloc | apply Kd.S_drewN | apply Kd.S_drew)); exact Kd.S_mono HO352.out (fun _ hk => ⟨hk.1.1, hk.2⟩)), (by (with_reducible repeat (first | apply Kd.V_alloc | apply Kd.V_drewN | apply Kd.V_drew)); exact Kd.V_mono HO_341000.out (fun _ hk => ⟨hk.1.1.1, ⟨hk.2, ⟨hk.1.1.2.1, ⟨hk.1.1.2.2.2.2, ⟨hk.1.1.2.2.1, ⟨hk.1.1.2.2.2.1, hk.1.2⟩⟩⟩⟩⟩⟩)), (rkS HO_341001), (pk BK328), (pk BK340), (pk BK354), GW354.out, GE354.out, NB0_354.out, NB354_0.out, NB328_354.out, NB354_328.out, NB340_354.out, NB354_340.out, (by repeat (first | (with_reducible first | exact HI0.out | apply IsS95.alloc | apply IsS95.drewN | apply IsS95.drew | apply IsS95.set_1 | refine IsS95.far ?_ NB0_328.out _ | refine IsS95.far ?_ NB0_340.out _ | refine IsS95.far ?_ NB0_354.out _) | exact HI0.out)), (by repeat (first | (with_reducible first | exact HK.out | apply KeepBut.set_ | apply keep_drewN | apply keep_drew | apply keep_alloc | refine keep_far ?_ GW328.out _ | refine keep_far ?_ GW340.out _ | refine keep_far ?_ GW354.out _) | exact HK.out)), (by repeat (first | (with_reducible first | exact HB.out | apply below_alloc | apply pw_below_drewN | apply below_drew1 | refine below_set ?_ (IsS95.ge HI0.out) | refine below_set ?_ (Aside0.out (by assumption))) | exact HB.out))⟩)
      ·skip
       refine box_step ?hg (N := 8) ?hd (cs := #[.slice none 0 0, .slice none 0 0]) (t := 27) ?hr ?_; (case hd => rfl); (case hg => rfl); (case hr => first | (go_simp; done) | (go_simp; rfl))
       intro gb354 hg w24 hbox hb
       have n0_ := Aside0.mk (Kd.V_below (Kd.V_elderB (rkV HO_341000) gb354 (Nat.le_of_eq hg.symm)) hb)
       have n1_ := Aside0.mk (Kd.S_below (rkS HO_341001) hb)
       have n2_ := Aside0.mk (blk_below (g := gb328) (o := .cells #[.slice none 0 0, .slice none 0 0] 27 (0, 0)) (pk BK328) hb)
       have n3_ := Aside0.mk (blk_below (g := gb340) (o := .cells #[.slice Ao21 x341000_1.length co21, .slice Ao22 x341001_1.length co22] 27 (0, 0)) (pk BK340) hb)
       have n4_ := Aside0.mk (IsS95.below (by repeat (first | (with_reducible first | exact HI0.out | apply IsS95.alloc | apply IsS95.drewN | apply IsS95.drew | apply IsS95.set_1 | refine IsS95.far ?_ NB0_328.out _ | refine IsS95.far ?_ NB0_340.out _) | exact HI0.out)) hb)
       have n5_ := Aside0.mk (KeepBut.trans (by repeat (first | (with_reducible first | exact HK.out | apply KeepBut.set_ | apply keep_drewN | apply keep_drew | apply keep_alloc | refine keep_far ?_ GW328.out _ | refine keep_far ?_ GW340.out _) | exact HK.out)) (KeepBut.of_below hb g none) (.inl rfl))
       have n6_ := Aside0.mk (below_step (by repeat (first | (with_reducible first | exact HB.out | apply below_alloc | apply pw_below_drewN | apply below_drew1 | refine below_set ?_ (IsS95.ge HI0.out) | refine below_set ?_ (Aside0.out (by assumption))) | exact HB.out)) hb)
       have n7_ := Aside0.mk (hbox)
       have n8_ := Aside0.mk ((by rw [hg]; exact (keep_size (w := w) (g := g) (row := none) (by repeat (first | (with_reducible first | exact HK.out | apply KeepBut.set_ | apply keep_drewN | apply keep_drew | apply keep_alloc | refine keep_far ?_ GW328.out _ | refine keep_far ?_ GW340.out _) | exact HK.out))) : w.heap.size ≤ gb354))
       have n9_ := Aside0.mk ((Nat.le_trans HW0.out (by rw [hg]; exact (keep_size (w := w) (g := g) (row := none) (by repeat (first | (with_reducible first | exact HK.out | apply KeepBut.set_ | apply keep_drewN | apply keep_drew | apply keep_alloc | refine keep_far ?_ GW328.out _ | refine keep_far ?_ GW340.out _) | exact HK.out))) : w.heap.size ≤ gb354) : w0.heap.size ≤ gb354))
       have n10_ := Aside0.mk ((by rw [hg]; exact Nat.ne_of_lt (blk_lt (g := gb328) (o := .cells #[.slice none 0 0, .slice none 0 0] 27 (0, 0)) (pk BK328)) : gb328 ≠ gb354))
       have n11_ := Aside0.mk ((by rw [hg]; exact Nat.ne_of_gt (blk_lt (g := gb328) (o := .cells #[.slice none 0 0, .slice none 0 0] 27 (0, 0)) (pk BK328)) : gb354 ≠ gb328))
       have n12_ := Aside0.mk ((by rw [hg]; exact Nat.ne_of_lt (blk_lt (g := gb340) (o := .cells #[.slice Ao21 x341000_1.length co21, .slice Ao22 x341001_1.length co22] 27 (0, 0)) (pk BK340)) : gb340 ≠ gb354))
       have n13_ := Aside0.mk ((by rw [hg]; exact Nat.ne_of_gt (blk_lt (g := gb340) (o := .cells #[.slice Ao21 x341000_1.length co21, .slice Ao22 x341001_1.length co22] 27 (0, 0)) (pk BK340)) : gb354 ≠ gb340))
       have n14_ := Aside0.mk ((by rw [hg]; exact Nat.ne_of_lt (IsS95.lt (show IsS95 w0 _ g s0_0 x1001_1 from by repeat (first | (with_reducible first | exact HI0.out | apply IsS95.alloc | apply IsS95.drewN | apply IsS95.drew | apply IsS95.set_1 | refine IsS95.far ?_ NB0_328.out _ | refine IsS95.far ?_ NB0_340.out _) | exact HI0.out))) : g ≠ gb354))
       have n15_ := Aside0.mk ((by rw [hg]; exact Nat.ne_of_gt (IsS95.lt (show IsS95 w0 _ g s0_0 x1001_1 from by repeat (first | (with_reducible first | exact HI0.out | apply IsS95.alloc | apply IsS95.drewN | apply IsS95.drew | apply IsS95.set_1 | refine IsS95.far ?_ NB0_328.out _ | refine IsS95.far ?_ NB0_340.out _) | exact HI0.out))) : gb354 ≠ g))
       clear HO_341000
       clear HO_341001
       clear BK328
       clear BK340
       clear HI0
       clear HK
       clear HB
       have HO_341000 := n0_
       have HO_341001 := n1_
       have BK328 := n2_
       have BK340 := n3_
       have HI0 := n4_
       have HK := n5_
       have HB := n6_
       have BK354 := n7_
       have GW354 := n8_
       have GE354 := n9_
       have NB328_354 := n10_
       have NB354_328 := n11_
       have NB340_354 := n12_
       have NB354_340 := n13_
       have NB0_354 := n14_
       have NB354_0 := n15_
       clear n0_ n1_ n2_ n3_ n4_ n5_ n6_ n7_ n8_ n9_ n10_ n11_ n12_ n13_ n14_ n15_
       clear hb hbox hg
       refine hK.out _ _ ⟨(blk_cell BK340.out 0).trans rfl, (blk_cell BK340.out 1).trans rfl⟩ (fun hHeld => ?_)
       clear hK K
       refine norm_ (a' := ?_) ?_ ?_
       rotate_left
       ·show Act.put _ (some 8) _ = _
        simp only [Act.put, List.setIfInBounds_toArray, List.set_cons_zero, List.set_cons_succ, i64_w, i32_w]
        rfl
       refine one_ (i := 4) (N := some 27) #[true, true, true, true, true, false, false, false, false, true, false, false] rfl rfl (one_of HT_.out (by kernel_rfl)) (by decide) (fun K hK => ?_)
       refine goes_ Try.func56 (by kernel_rfl) rfl #[.pointer (some ⟨g, 0, none⟩), .slice Ao21 x341000_1.length co21] (by rfl) rfl rfl (by (try simp only [List.map_toArray, List.map_cons, List.map_nil]); first | done | rfl | (simp only [List.length_drop, List.length_take]; rfl)) ?_
       with_reducible refine (spec_l20Deed.calls k1 g s0_0 x1001_1 _ _ x341000_1 t343 t344 t345 t346 w0 _ ?side1 ?side2 ?side3 ?side4 A18.out).mono ?_
       (case side1 => repeat (first | (with_reducible first | exact HI0.out | apply IsS95.alloc | apply IsS95.drewN | apply IsS95.drew | apply IsS95.set_1 | refine IsS95.far ?_ NB0_328.out _ | refine IsS95.far ?_ NB0_340.out _ | refine IsS95.far ?_ NB0_354.out _) | exact HI0.out))
       (case side2 => repeat (first | (with_reducible first | exact HB.out | apply below_alloc | apply pw_below_drewN | apply below_drew1 | refine below_set ?_ (IsS95.ge HI0.out) | refine below_set ?_ (Aside0.out (by assumption))) | exact HB.out))
       (case side3 => exact Kd.C_foot_ownV (e := 50) (base := 0) (Kd.V_mono (ok := fun k_ => ((((w.heap.size ≤ k_)) ∧ (some k_ ≠ (.slice Ao22 x341001_1.length co22 : Value).ownBlock ∧ (k_ ≠ gb328 ∧ (k_ ≠ gb340 ∧ k_ ≠ g)))) ∧ k_ ≠ gb354)) (rkV HO_341000) (fun k_ hk_ => (⟨hk_, hk_.1.2.2.2.2⟩ : _ ∧ k_ ≠ g))) (fun _ h_ => h_.2))
       (case side4 => exact (Kd.V_reads' HO_341000.out).2.1)
       rintro e w25 ⟨rfl, hi, hb, hk⟩
       refine ⟨_, rfl, ?_⟩
       have n0_ := Aside0.mk (Kd.V_mono (Kd.V_keep (Kd.V_mono (ok := fun k_ => ((((w.heap.size ≤ k_)) ∧ (some k_ ≠ (.slice Ao22 x341001_1.length co22 : Value).ownBlock ∧ (k_ ≠ gb328 ∧ (k_ ≠ gb340 ∧ k_ ≠ g)))) ∧ k_ ≠ gb354)) (rkV HO_341000) (fun k_ hk_ => (⟨hk_, hk_.1.2.2.2.2⟩ : _ ∧ k_ ≠ g))) hk (fun _ h => h.2)) (fun _ h => h.1))
       have n1_ := Aside0.mk (Kd.S_mono (Kd.S_keep (IsS95.apartS (show IsS95 w0 _ g s0_0 x1001_1 from by repeat (first | (with_reducible first | exact HI0.out | apply IsS95.alloc | apply IsS95.drewN | apply IsS95.drew | apply IsS95.set_1 | refine IsS95.far ?_ NB0_328.out _ | refine IsS95.far ?_ NB0_340.out _ | refine IsS95.far ?_ NB0_354.out _) | exact HI0.out)) (rkS HO_341001) (by decide)) hk (fun _ h => h.2)) (fun _ h => h.1))
       have n2_ := Aside0.mk (KeepBut.blk hk (g' := gb328) (o := .cells #[.slice none 0 0, .slice none 0 0] 27 (0, 0)) (pk BK328) NB328_0.out (by simp))
       have n3_ := Aside0.mk (KeepBut.blk hk (g' := gb340) (o := .cells #[.slice Ao21 x341000_1.length co21, .slice Ao22 x341001_1.length co22] 27 (0, 0)) (pk BK340) NB340_0.out (by simp))
       have n4_ := Aside0.mk (KeepBut.blk hk (g' := gb354) (o := .cells #[.slice none 0 0, .slice none 0 0] 27 (0, 0)) (pk BK354) NB354_0.out (by simp))
       have n5_ := Aside0.mk (KeepBut.trans (by repeat (first | (with_reducible first | exact HK.out | apply KeepBut.set_ | apply keep_drewN | apply keep_drew | apply keep_alloc | refine keep_far ?_ GW328.out _ | refine keep_far ?_ GW340.out _ | refine keep_far ?_ GW354.out _) | exact HK.out)) hk (.inl rfl))
       have n6_ := Aside0.mk (hb)
       have n7_ := Aside0.mk (hi)
       clear HO_341000
       clear HO_341001
       clear BK328
       clear BK340
       clear BK354
       clear HK
       clear HB
       clear HI0
       have HO_341000 := n0_
       have HO_341001 := n1_
       have BK328 := n2_
       have BK340 := n3_
       have BK354 := n4_
       have HK := n5_
       have HB := n6_
       have HI0 := n7_
       clear n0_ n1_ n2_ n3_ n4_ n5_ n6_ n7_
       (try clear hb)
       (try clear hb2)
       (try clear hk)
       (try clear hi)
       refine hK.out _ _ ⟨(blk_cell BK340.out 0).trans rfl, (blk_cell BK340.out 1).trans rfl⟩ (fun hHeld => ?_)
       clear hK K
       refine norm_ (a' := ?_) ?_ ?_
       rotate_left
       ·show Act.put _ (some 27) _ = _
        simp only [Act.put, List.setIfInBounds_toArray, List.set_cons_zero, List.set_cons_succ, i64_w, i32_w]
        rfl
       refine one_ (i := 5) (N := some 28) #[true, true, true, true, true, true, false, false, false, true, false, false] rfl rfl (one_of HT_.out (by kernel_rfl)) (by decide) (fun K hK => ?_)
       refine goes_ Try.func33 (by kernel_rfl) rfl #[.agg #[.slice Ao21 x341000_1.length co21, .slice Ao22 x341001_1.length co22], .agg #[.int .i64 t343, .int .i64 t344, .int .i64 t345]] (by rfl) rfl rfl (by (try simp only [List.map_toArray, List.map_cons, List.map_nil]); first | done | rfl | (simp only [List.length_drop, List.length_take]; rfl)) ?_
       with_reducible refine (spec_DeskDo.calls k1 (fun k_ => (((w.heap.size ≤ k_) ∧ (some k_ ≠ (.slice Ao22 x341001_1.length co22 : Value).ownBlock ∧ (k_ ≠ gb328 ∧ (k_ ≠ gb340 ∧ k_ ≠ g)))) ∧ k_ ≠ gb354)) _ _ x341000_1 _ _ x341001_1 t343 t344 t345 t347 t350 true _ ?side1 ?side2 ?side3 A19.out).mono ?_
       (case side1 => exact HO_341000.out)
       (case side2 => repeat (first | exact (Kd.S_reads' HO_341001.out).2.2 | (with_reducible refine Kd.C_alloc ?_ _) | (with_reducible refine Kd.C_drewN ?_ _) | (with_reducible refine Kd.C_drew ?_)))
       (case side3 => exact (Kd.S_reads' HO_341001.out).2.1)
       rintro e w26 ⟨v348, v351, rfl, ho0, ho1, hb⟩
       refine ⟨_, rfl, ?_⟩
       have n0_ := Aside0.mk (Kd.V_elder' (rkV HO_341000) (Kd.S_base ho1) hb)
       have n1_ := Aside0.mk (Kd.S_elder' (rkS HO_341001) (Kd.S_base ho1) hb)
       have n2_ := Aside0.mk (Kd.V_lower (Kd.V_mono (ok' := fun k_ => (w.heap.size ≤ k_) ∧ some k_ ≠ (v351 : Value).ownBlock ∧ some k_ ≠ (.slice Ao22 x341001_1.length co22 : Value).ownBlock ∧ k_ ≠ gb328 ∧ k_ ≠ gb340 ∧ k_ ≠ gb354 ∧ k_ ≠ g) ho0 (fun k_ hk_ => ⟨Or.elim hk_.1 (fun hs_ => hs_.1.1) (fun hn_ => (Nat.le_trans (keep_size (w := w) (g := g) (row := none) (by repeat (first | (with_reducible first | exact HK.out | apply KeepBut.set_ | apply keep_drewN | apply keep_drew | apply keep_alloc | refine keep_far ?_ GW328.out _ | refine keep_far ?_ GW340.out _ | refine keep_far ?_ GW354.out _) | exact HK.out))) hn_)), hk_.2, Or.elim hk_.1 (fun hs_ => hs_.1.2.1) (fun hn_ => (Kd.fresh' (Kd.S_lt (rkS HO_341001)) k_ hn_)), Or.elim hk_.1 (fun hs_ => hs_.1.2.2.1) (fun hn_ => (Kd.freshB (g := gb328) (o := .cells #[.slice none 0 0, .slice none 0 0] 27 (0, 0)) (pk BK328) k_ hn_)), Or.elim hk_.1 (fun hs_ => hs_.1.2.2.2.1) (fun hn_ => (Kd.freshB (g := gb340) (o := .cells #[.slice Ao21 x341000_1.length co21, .slice Ao22 x341001_1.length co22] 27 (0, 0)) (pk BK340) k_ hn_)), Or.elim hk_.1 (fun hs_ => hs_.2) (fun hn_ => (Kd.freshB (g := gb354) (o := .cells #[.slice none 0 0, .slice none 0 0] 27 (0, 0)) (pk BK354) k_ hn_)), Or.elim hk_.1 (fun hs_ => hs_.1.2.2.2.2) (fun hn_ => (IsS95.fresh (by repeat (first | (with_reducible first | exact HI0.out | apply IsS95.alloc | apply IsS95.drewN | apply IsS95.drew | apply IsS95.set_1 | refine IsS95.far ?_ NB0_328.out _ | refine IsS95.far ?_ NB0_340.out _ | refine IsS95.far ?_ NB0_354.out _) | exact HI0.out)) k_ hn_))⟩)) (keep_size (w := w) (g := g) (row := none) (by repeat (first | (with_reducible first | exact HK.out | apply KeepBut.set_ | apply keep_drewN | apply keep_drew | apply keep_alloc | refine keep_far ?_ GW328.out _ | refine keep_far ?_ GW340.out _ | refine keep_far ?_ GW354.out _) | exact HK.out))))
       have n3_ := Aside0.mk (Kd.S_lower (Kd.S_new' (Kd.S_newM (M := fun k_ => (w.heap.size ≤ k_)) (Kd.S_mono (ok' := fun k_ => True) ho1 (fun _ hk_ => trivial)) (keep_size (w := w) (g := g) (row := none) (by repeat (first | (with_reducible first | exact HK.out | apply KeepBut.set_ | apply keep_drewN | apply keep_drew | apply keep_alloc | refine keep_far ?_ GW328.out _ | refine keep_far ?_ GW340.out _ | refine keep_far ?_ GW354.out _) | exact HK.out))) (fun k_ h_ => h_)) (Kd.S_lt (rkS HO_341001))) (keep_size (w := w) (g := g) (row := none) (by repeat (first | (with_reducible first | exact HK.out | apply KeepBut.set_ | apply keep_drewN | apply keep_drew | apply keep_alloc | refine keep_far ?_ GW328.out _ | refine keep_far ?_ GW340.out _ | refine keep_far ?_ GW354.out _) | exact HK.out))))
       have n4_ := Aside0.mk (blk_below (g := gb328) (o := .cells #[.slice none 0 0, .slice none 0 0] 27 (0, 0)) (pk BK328) hb)
       have n5_ := Aside0.mk (blk_below (g := gb340) (o := .cells #[.slice Ao21 x341000_1.length co21, .slice Ao22 x341001_1.length co22] 27 (0, 0)) (pk BK340) hb)
       have n6_ := Aside0.mk (IsS95.below (by repeat (first | (with_reducible first | exact HI0.out | apply IsS95.alloc | apply IsS95.drewN | apply IsS95.drew | apply IsS95.set_1 | refine IsS95.far ?_ NB0_328.out _ | refine IsS95.far ?_ NB0_340.out _ | refine IsS95.far ?_ NB0_354.out _) | exact HI0.out)) hb)
       have n7_ := Aside0.mk (blk_below (g := gb354) (o := .cells #[.slice none 0 0, .slice none 0 0] 27 (0, 0)) (pk BK354) hb)
       have n8_ := Aside0.mk (KeepBut.trans (by repeat (first | (with_reducible first | exact HK.out | apply KeepBut.set_ | apply keep_drewN | apply keep_drew | apply keep_alloc | refine keep_far ?_ GW328.out _ | refine keep_far ?_ GW340.out _ | refine keep_far ?_ GW354.out _) | exact HK.out)) (KeepBut.of_below hb g none) (.inl rfl))
       have n9_ := Aside0.mk (below_step (by repeat (first | (with_reducible first | exact HB.out | apply below_alloc | apply pw_below_drewN | apply below_drew1 | refine below_set ?_ (IsS95.ge HI0.out) | refine below_set ?_ (Aside0.out (by assumption))) | exact HB.out)) hb)
       clear HO_341000
       clear HO_341001
       clear BK328
       clear BK340
       clear HI0
       clear BK354
       clear HK
       clear HB
       have HO_341000 := n0_
       have HO_341001 := n1_
       have HO349 := n2_
       have HO352 := n3_
       have BK328 := n4_
       have BK340 := n5_
       have HI0 := n6_
       have BK354 := n7_
       have HK := n8_
       have HB := n9_
       clear n0_ n1_ n2_ n3_ n4_ n5_ n6_ n7_ n8_ n9_
       (try clear hb)
       (try clear hb2)
       (try clear hk)
       (try clear hi)
       (try clear ho0)
       (try clear ho1)
       refine hK.out _ _ ⟨(blk_cell BK340.out 0).trans rfl, (blk_cell BK340.out 1).trans rfl⟩ (fun hHeld => ?_)
       clear hK K
       refine norm_ (a' := ?_) ?_ ?_
       rotate_left
       ·show Act.put _ (some 28) _ = _
        simp only [Act.put, List.setIfInBounds_toArray, List.set_cons_zero, List.set_cons_succ, i64_w, i32_w]
        rfl
       refine pure_ (i := 6) (N := some 22) (v := ?_) (a' := ?_) #[true, true, true, true, true, true, true, false, false, true, false, false] rfl rfl (any_of HT_.out (by kernel_rfl)) (fun _ _ _ h => h) (Or.inl ⟨by rfl, ?_⟩) ?_ ?_
       rotate_left
       ·intro w'
        go_simp
        with_reducible rfl
       rotate_left
       ·simp only [Act.put, List.setIfInBounds_toArray, List.set_cons_zero, List.set_cons_succ, i64_w, i32_w]
        rfl
       refine pure_ (i := 7) (N := some 29) (v := ?_) (a' := ?_) #[true, true, true, true, true, true, true, true, false, true, false, false] rfl rfl (any_of HT_.out (by kernel_rfl)) (fun _ _ _ h => h) (Or.inl ⟨by rfl, ?_⟩) ?_ ?_
       rotate_left
       ·intro w'
        go_simp
        with_reducible rfl
       rotate_left
       ·simp only [Act.put, List.setIfInBounds_toArray, List.set_cons_zero, List.set_cons_succ, i64_w, i32_w]
        rfl
       refine pure_ (i := 8) (N := some 30) (v := ?_) (a' := ?_) #[true, true, true, true, true, true, true, true, true, true, false, false] rfl rfl (any_of HT_.out (by kernel_rfl)) (fun _ _ _ h => h) (Or.inl ⟨by rfl, ?_⟩) ?_ ?_
       rotate_left
       ·intro w'
        go_simp
        with_reducible rfl
       rotate_left
       ·simp only [Act.put, List.setIfInBounds_toArray, List.set_cons_zero, List.set_cons_succ, i64_w, i32_w]
        rfl
       exact norm_ (by simp only [putAll, Act.put, List.setIfInBounds_toArray, List.set_cons_zero, List.set_cons_succ]) (hCont (v348, v351, gb354) _ ⟨hHeld, (by (with_reducible repeat (first | apply Kd.V_alloc | apply Kd.V_drewN | apply Kd.V_drew)); exact Kd.V_mono HO349.out (fun _ hk => ⟨hk.1, ⟨hk.2.1, ⟨hk.2.2.1, ⟨hk.2.2.2.2.2.2, ⟨hk.2.2.2.1, ⟨hk.2.2.2.2.1, hk.2.2.2.2.2.1⟩⟩⟩⟩⟩⟩)), (by (with_reducible repeat (first | apply Kd.S_alloc | apply Kd.S_drewN | apply Kd.S_drew)); exact Kd.S_mono HO352.out (fun _ hk => ⟨hk.1.1, hk.2⟩)), (by (with_reducible repeat (first | apply Kd.V_alloc | apply Kd.V_drewN | apply Kd.V_drew)); exact Kd.V_mono HO_341000.out (fun _ hk => ⟨hk.1.1.1, ⟨hk.2, ⟨hk.1.1.2.1, ⟨hk.1.1.2.2.2.2, ⟨hk.1.1.2.2.1, ⟨hk.1.1.2.2.2.1, hk.1.2⟩⟩⟩⟩⟩⟩)), (rkS HO_341001), (pk BK328), (pk BK340), (pk BK354), GW354.out, GE354.out, NB0_354.out, NB354_0.out, NB328_354.out, NB354_328.out, NB340_354.out, NB354_340.out, (by repeat (first | (with_reducible first | exact HI0.out | apply IsS95.alloc | apply IsS95.drewN | apply IsS95.drew | apply IsS95.set_1 | refine IsS95.far ?_ NB0_328.out _ | refine IsS95.far ?_ NB0_340.out _ | refine IsS95.far ?_ NB0_354.out _) | exact HI0.out)), (by repeat (first | (with_reducible first | exact HK.out | apply KeepBut.set_ | apply keep_drewN | apply keep_drew | apply keep_alloc | refine keep_far ?_ GW328.out _ | refine keep_far ?_ GW340.out _ | refine keep_far ?_ GW354.out _) | exact HK.out)), (by repeat (first | (with_reducible first | exact HB.out | apply below_alloc | apply pw_below_drewN | apply below_drew1 | refine below_set ?_ (IsS95.ge HI0.out) | refine below_set ?_ (Aside0.out (by assumption))) | exact HB.out))⟩)
     rintro ⟨v348, v351, gb354⟩ w27 ⟨hS_, h0_, h1_, h2_, h3_, h4_, h5_, h6_, h7_, h8_, h9_, h10_, h11_, h12_, h13_, h14_, h15_, h16_, h17_⟩
     have n0_ : Aside0 (Kd.V k50 50 w27 w.heap.size (fun k_ => (w.heap.size ≤ k_) ∧ some k_ ≠ (v351 : Value).ownBlock ∧ some k_ ≠ (.slice Ao22 x341001_1.length co22 : Value).ownBlock ∧ k_ ≠ g ∧ k_ ≠ gb328 ∧ k_ ≠ gb340 ∧ k_ ≠ gb354) v348 t347) := ⟨h0_⟩
     have n1_ : Aside0 (Kd.S (Kd.slice 50 k50) 23 w27 w.heap.size (fun k_ => (w.heap.size ≤ k_) ∧ some k_ ≠ (.slice Ao22 x341001_1.length co22 : Value).ownBlock) v351 t350) := ⟨h1_⟩
     have n2_ : Aside0 (Kd.V k50 50 w27 w.heap.size (fun k_ => (w.heap.size ≤ k_) ∧ some k_ ≠ (v351 : Value).ownBlock ∧ some k_ ≠ (.slice Ao22 x341001_1.length co22 : Value).ownBlock ∧ k_ ≠ g ∧ k_ ≠ gb328 ∧ k_ ≠ gb340 ∧ k_ ≠ gb354) (.slice Ao21 x341000_1.length co21) x341000_1) := ⟨h2_⟩
     have n3_ : Aside0 (Kd.S (Kd.slice 50 k50) 23 w27 w.heap.size (fun k_ => (w.heap.size ≤ k_) ∧ some k_ ≠ (v351 : Value).ownBlock) (.slice Ao22 x341001_1.length co22) x341001_1) := ⟨h3_⟩
     have n4_ : Aside0 (w27.heap[gb328]? = some (.cells #[.slice none 0 0, .slice none 0 0] 27 (0, 0))) := ⟨h4_⟩
     have n5_ : Aside0 (w27.heap[gb340]? = some (.cells #[.slice Ao21 x341000_1.length co21, .slice Ao22 x341001_1.length co22] 27 (0, 0))) := ⟨h5_⟩
     have n6_ : Aside0 (w27.heap[gb354]? = some (.cells #[.slice none 0 0, .slice none 0 0] 27 (0, 0))) := ⟨h6_⟩
     have n7_ : Aside0 (w.heap.size ≤ gb354) := ⟨h7_⟩
     have n8_ : Aside0 (w0.heap.size ≤ gb354) := ⟨h8_⟩
     have n9_ : Aside0 (g ≠ gb354) := ⟨h9_⟩
     have n10_ : Aside0 (gb354 ≠ g) := ⟨h10_⟩
     have n11_ : Aside0 (gb328 ≠ gb354) := ⟨h11_⟩
     have n12_ : Aside0 (gb354 ≠ gb328) := ⟨h12_⟩
     have n13_ : Aside0 (gb340 ≠ gb354) := ⟨h13_⟩
     have n14_ : Aside0 (gb354 ≠ gb340) := ⟨h14_⟩
     have n15_ : Aside0 (IsS95 w0 w27 g s0_0 t346) := ⟨h15_⟩
     have n16_ : Aside0 (KeepBut w w27 g none) := ⟨h16_⟩
     have n17_ : Aside0 (Below w0.heap.size w0 w27) := ⟨h17_⟩
     clear HO_341000
     clear HO_341001
     clear BK328
     clear BK340
     clear HI0
     clear HK
     clear HB
     clear h0_ h1_ h2_ h3_ h4_ h5_ h6_ h7_ h8_ h9_ h10_ h11_ h12_ h13_ h14_ h15_ h16_ h17_
     have HO349 := n0_
     have HO352 := n1_
     have HO_341000 := n2_
     have HO_341001 := n3_
     have BK328 := n4_
     have BK340 := n5_
     have BK354 := n6_
     have GW354 := n7_
     have GE354 := n8_
     have NB0_354 := n9_
     have NB354_0 := n10_
     have NB328_354 := n11_
     have NB354_328 := n12_
     have NB340_354 := n13_
     have NB354_340 := n14_
     have HI0 := n15_
     have HK := n16_
     have HB := n17_
     clear n0_ n1_ n2_ n3_ n4_ n5_ n6_ n7_ n8_ n9_ n10_ n11_ n12_ n13_ n14_ n15_ n16_ n17_
     have hHeld : w27.cell? ⟨gb340, 0, none⟩ = some (.slice Ao21 x341000_1.length co21) ∧ w27.cell? ⟨gb340, 1, none⟩ = some (.slice Ao22 x341001_1.length co22) := hS_
     obtain ⟨Ao28, co28, eo28⟩ := Kd.V_slice HO349.out
     (first | subst eo28 | (injection eo28 with f1_ f2_ f3_; have f4_ := f1_.symm; have f5_ := f3_.symm; clear f1_ f2_ f3_; subst f4_; subst f5_))
     obtain ⟨Ao30, co30, eo30⟩ := Kd.S_slice HO352.out
     (first | subst eo30 | (injection eo30 with f1_ f2_ f3_; have f4_ := f1_.symm; have f5_ := f3_.symm; clear f1_ f2_ f3_; subst f4_; subst f5_))
     refine norm_ (a' := ?_) ?_ ?_
     rotate_left
     ·simp only [putAll, Act.put, List.setIfInBounds_toArray, List.set_cons_zero, List.set_cons_succ]
      rfl
     refine one_ (i := 10) (N := none) #[true, true, true, true, true, true, true, true, true, true, true, false] rfl rfl (one_of HT_.out (by kernel_rfl)) (by decide) (fun K hK => ?_)
     have hs29 : w27.cell? ⟨gb354, 0, none⟩ = some (.slice none 0 0) := (blk_cell BK354.out 0).trans rfl
     have hfs29 := blk_frozen BK354.out 0
     have hns29_0 := NB328_354.out
     have hns29_1 := NB340_354.out
     have hms29_0 := NB354_328.out
     have hms29_1 := NB354_340.out
     have hs31 : w27.cell? ⟨gb354, 1, none⟩ = some (.slice none 0 0) := (blk_cell BK354.out 1).trans rfl
     have hfs31 := blk_frozen BK354.out 1
     have hns31_0 := NB328_354.out
     have hns31_1 := NB340_354.out
     have hms31_0 := NB354_328.out
     have hms31_1 := NB354_340.out
     refine skip_ (w1 := ?_) (by rfl) rfl ?_ ?_
     rotate_left
     ·go_simp
      rfl
     refine hK.out _ _ ⟨((cell_far (p := ⟨gb354, _, none⟩) NB340_354.out _).trans (((cell_far (p := ⟨gb354, _, none⟩) NB340_354.out _).trans (hHeld.1)))), ((cell_far (p := ⟨gb354, _, none⟩) NB340_354.out _).trans (((cell_far (p := ⟨gb354, _, none⟩) NB340_354.out _).trans (hHeld.2))))⟩ (fun hHeld => ?_)
     clear hK K
     refine pure_ (i := 11) (N := some 9) (v := ?_) (a' := ?_) #[true, true, true, true, true, true, true, true, true, true, true, true] rfl rfl (any_of HT_.out (by kernel_rfl)) (fun _ _ _ h => h) (Or.inl ⟨by rfl, ?_⟩) ?_ ?_
     rotate_left
     ·intro w'
      go_simp
      with_reducible rfl
     rotate_left
     ·simp only [Act.put, List.setIfInBounds_toArray, List.set_cons_zero, List.set_cons_succ, i64_w, i32_w]
      rfl
     refine done_ (done_of HT_.out (by kernel_rfl)) ?_
     have hnb32 := NB354_328.out
     have hnc32 := NB328_354.out
     have hnb33 := NB354_340.out
     have hnc33 := NB340_354.out
     have hnb34 := NB354_0.out
     have hnc34 := NB0_354.out
     have hcz35_0 : w27.cell? ⟨gb354, 0, none⟩ = some (.slice none 0 0) := (blk_cell BK354.out 0).trans rfl
     have hcz35_1 : w27.cell? ⟨gb354, 1, none⟩ = some (.slice none 0 0) := (blk_cell BK354.out 1).trans rfl
     have hfz35_0 := blk_frozen BK354.out 0
     have hfz35_1 := blk_frozen BK354.out 1
     have hnb36 := NB340_328.out
     have hnc36 := NB328_340.out
     have hnb37 := NB340_0.out
     have hnc37 := NB0_340.out
     have hcz38_0 : w27.cell? ⟨gb340, 0, none⟩ = some (.slice Ao21 x341000_1.length co21) := (blk_cell BK340.out 0).trans rfl
     have hcz38_1 : w27.cell? ⟨gb340, 1, none⟩ = some (.slice Ao22 x341001_1.length co22) := (blk_cell BK340.out 1).trans rfl
     have hfz38_0 := blk_frozen BK340.out 0
     have hfz38_1 := blk_frozen BK340.out 1
     try go_wp2
     go_roundg k1
     case measure => have := HK1.out; omega
     case rel => exact ⟨(wrap64 (x7_1 - 1)), (t346), (t347), (t350), (.slice Ao28 t347.length co28), (.slice Ao30 t350.length co30), (by first | rfl | (simp; done) | (simp [*]; done)), H', ⟨by have := HK1.out; omega⟩, ⟨by (with_reducible repeat (first | apply Kd.V_alloc | apply Kd.V_drewN | apply Kd.V_drew)); exact Kd.V_mono (Kd.V_far (p := ⟨gb340, 1, none⟩) (Kd.V_far (p := ⟨gb340, 0, none⟩) (Kd.V_far (p := ⟨gb354, 1, none⟩) (Kd.V_far (p := ⟨gb354, 0, none⟩) (Kd.V_mono (Kd.V_mono HO349.out (fun k_ hk => (⟨hk, hk.2.2.2.2.2.2⟩ : _ ∧ k_ ≠ gb354))) (fun k_ hk => (⟨hk, hk.1.2.2.2.2.2.1⟩ : _ ∧ k_ ≠ gb340))) (fun _ hk => hk.1.2) (.slice Ao28 t347.length co28)) (fun _ hk => hk.1.2) (.slice Ao30 t350.length co30)) (fun _ hk => hk.2) (.slice Ao28 t347.length co28)) (fun _ hk => hk.2) (.slice Ao30 t350.length co30)) (fun _ hk => ⟨hk.1.1.1, ⟨hk.1.1.2.1, ⟨hk.1.1.2.2.2.2.1, ⟨hk.1.1.2.2.2.2.2.1, hk.1.1.2.2.2.1⟩⟩⟩⟩)⟩, ⟨by (with_reducible repeat (first | apply Kd.S_alloc | apply Kd.S_drewN | apply Kd.S_drew)); exact Kd.S_mono (Kd.S_far (p := ⟨gb340, 1, none⟩) (Kd.S_far (p := ⟨gb340, 0, none⟩) (Kd.S_far (p := ⟨gb354, 1, none⟩) (Kd.S_far (p := ⟨gb354, 0, none⟩) (Kd.S_types (Kd.S_types HO352.out BK354.out (by decide)) BK340.out (by decide)) (fun _ hk => hk.1.2) (.slice Ao28 t347.length co28)) (fun _ hk => hk.1.2) (.slice Ao30 t350.length co30)) (fun _ hk => hk.2) (.slice Ao28 t347.length co28)) (fun _ hk => hk.2) (.slice Ao30 t350.length co30)) (fun _ hk => hk.1.1.1)⟩, ⟨by refine blk_far ?_ NB328_340.out _; refine blk_far ?_ NB328_340.out _; refine blk_far ?_ NB328_354.out _; refine blk_far ?_ NB328_354.out _; (with_reducible repeat (first | refine blk_drewN ?_ _ | refine blk_drew ?_ | refine blk_alloc ?_ _)); exact BK328.out⟩, ⟨by refine blk_put (cs := #[.slice Ao28 t347.length co28, .slice Ao22 x341001_1.length co22]) ?_ 1 _ rfl; refine blk_put (cs := #[.slice Ao21 x341000_1.length co21, .slice Ao22 x341001_1.length co22]) ?_ 0 _ rfl; refine blk_far ?_ NB340_354.out _; refine blk_far ?_ NB340_354.out _; (with_reducible repeat (first | refine blk_drewN ?_ _ | refine blk_drew ?_ | refine blk_alloc ?_ _)); exact BK340.out⟩, ⟨by repeat (first | (with_reducible first | exact HI0.out | apply IsS95.alloc | apply IsS95.drewN | apply IsS95.drew | apply IsS95.set_1 | refine IsS95.far ?_ NB0_328.out _ | refine IsS95.far ?_ NB0_340.out _ | refine IsS95.far ?_ NB0_354.out _) | exact HI0.out)⟩, ⟨by repeat (first | (with_reducible first | exact HK.out | apply KeepBut.set_ | apply keep_drewN | apply keep_drew | apply keep_alloc | refine keep_far ?_ GW328.out _ | refine keep_far ?_ GW340.out _ | refine keep_far ?_ GW354.out _) | exact HK.out)⟩, ⟨by repeat (first | (with_reducible first | exact HB.out | apply below_alloc | apply pw_below_drewN | apply below_drew1 | refine below_set ?_ (IsS95.ge HI0.out) | refine below_set ?_ (Aside0.out (by assumption))) | exact HB.out)⟩⟩
    ·replace c20 := Bool.eq_false_iff.mpr c20
     subst c20
     have H1 : (spec_l20Desk.l0 k1 a1 (wrap64 (x7_1 - 1)) s0_0 t346 x341000_1 x341001_1) = some (r1, r2, r3) := by rw [if_neg (show ¬ (false = true) by decide)] at H; exact H
     clear H
     have H := H1
     clear H1
     have H' := Aside0.mk H
     clear H
     obtain ⟨Ao39, co39, eo39⟩ := Kd.V_slice HO_341000.out
     subst eo39
     obtain ⟨Ao40, co40, eo40⟩ := Kd.S_slice HO_341001.out
     subst eo40
     try go_wp2
     have n0_ := Aside0.mk (Kd.V_drew HO_341000.out)
     have n1_ := Aside0.mk (Kd.S_drew HO_341001.out)
     have n2_ := Aside0.mk (blk_drew BK328.out)
     have n3_ := Aside0.mk (blk_drew BK340.out)
     have n4_ := Aside0.mk (IsS95.drew HI0.out)
     have n5_ := Aside0.mk (keep_drew HK.out)
     have n6_ := Aside0.mk (below_drew1 HB.out)
     clear HO_341000
     clear HO_341001
     clear BK328
     clear BK340
     clear HI0
     clear HK
     clear HB
     have HO_341000 := n0_
     have HO_341001 := n1_
     have BK328 := n2_
     have BK340 := n3_
     have HI0 := n4_
     have HK := n5_
     have HB := n6_
     clear n0_ n1_ n2_ n3_ n4_ n5_ n6_
     refine start_ (n := 12) (S := fun w' => w'.cell? ⟨gb340, 0, none⟩ = some (.slice Ao39 x341000_1.length co39) ∧ w'.cell? ⟨gb340, 1, none⟩ = some (.slice Ao40 x341001_1.length co40)) (ds := []) #[false, false, false, false, false, false, false, false, false, false, false, false] (by kernel_rfl) rfl rfl ⟨(blk_cell BK340.out 0).trans rfl, (blk_cell BK340.out 1).trans rfl⟩ (fun hHeld => ?_); refine with_tabW spec_l20Desk.tab5 spec_l20Desk.bits5 (fun HT_ HW_ => ?_)
     generalize wr.drew = w41 at HO_341000 HO_341001 BK328 BK340 HI0 HK HB hHeld ⊢
     refine pure_ (i := 1) (N := some 24) (v := ?_) (a' := ?_) #[false, true, false, false, false, false, false, false, false, false, false, false] rfl rfl (any_of HT_.out (by kernel_rfl)) (fun _ _ _ h => h) (Or.inl ⟨by rfl, ?_⟩) ?_ ?_
     rotate_left
     ·intro w'
      go_simp
      with_reducible rfl
     rotate_left
     ·simp only [Act.put, List.setIfInBounds_toArray, List.set_cons_zero, List.set_cons_succ, i64_w, i32_w]
      rfl
     refine pure_ (i := 2) (N := some 25) (v := ?_) (a' := ?_) #[false, true, true, false, false, false, false, false, false, false, false, false] rfl rfl (any_of HT_.out (by kernel_rfl)) (fun _ _ _ h => h) (Or.inl ⟨by rfl, ?_⟩) ?_ ?_
     rotate_left
     ·intro w'
      go_simp
      with_reducible rfl
     rotate_left
     ·simp only [Act.put, List.setIfInBounds_toArray, List.set_cons_zero, List.set_cons_succ, i64_w, i32_w]
      rfl
     refine take_ (i := 0) (N := some 23) (v := ?_) (a' := ?_) #[true, true, true, false, false, false, false, false, false, false, false, false] rfl rfl (take_ofW HT_.out HW_.out (by kernel_rfl)) (fun _ _ _ h => h) (Or.inl ⟨by rfl, ?_⟩) hHeld ?_ ?_
     rotate_left
     ·rintro w' ⟨s0, s1⟩
      go_simp
      with_reducible rfl
     rotate_left
     ·simp only [Act.put, List.setIfInBounds_toArray, List.set_cons_zero, List.set_cons_succ, i64_w, i32_w]
      rfl
     refine take_ (i := 3) (N := some 26) (v := ?_) (a' := ?_) #[true, true, true, true, false, false, false, false, false, false, false, false] rfl rfl (take_ofW HT_.out HW_.out (by kernel_rfl)) (fun _ _ _ h => h) (Or.inl ⟨by rfl, ?_⟩) hHeld ?_ ?_
     rotate_left
     ·rintro w' ⟨s0, s1⟩
      go_simp
      with_reducible rfl
     rotate_left
     ·simp only [Act.put, List.setIfInBounds_toArray, List.set_cons_zero, List.set_cons_succ, i64_w, i32_w]
      rfl
     refine join_ (σ := Value × Value × Nat) 2 #[true, true, true, true, true, true, true, true, true, true, false, false] (fun s_ => [(27, .agg #[.int .i64 t343, .int .i64 t344, .int .i64 t345]), (28, .tuple #[.agg #[s_.1, s_.2.1], .bool false]), (8, .pointer (some ⟨s_.2.2, 0, none⟩)), (22, .tuple #[.agg #[s_.1, s_.2.1], .bool false]), (29, .agg #[s_.1, s_.2.1]), (30, .bool false)]) (fun s_ w' => (w'.cell? ⟨gb340, 0, none⟩ = some (.slice Ao39 x341000_1.length co39) ∧ w'.cell? ⟨gb340, 1, none⟩ = some (.slice Ao40 x341001_1.length co40)) ∧ (Kd.V k50 50 w' w.heap.size (fun k_ => (w.heap.size ≤ k_) ∧ some k_ ≠ (s_.2.1 : Value).ownBlock ∧ some k_ ≠ (.slice Ao40 x341001_1.length co40 : Value).ownBlock ∧ k_ ≠ g ∧ k_ ≠ gb328 ∧ k_ ≠ gb340 ∧ k_ ≠ s_.2.2) s_.1 t347) ∧ (Kd.S (Kd.slice 50 k50) 23 w' w.heap.size (fun k_ => (w.heap.size ≤ k_) ∧ some k_ ≠ (.slice Ao40 x341001_1.length co40 : Value).ownBlock) s_.2.1 t350) ∧ (Kd.V k50 50 w' w.heap.size (fun k_ => (w.heap.size ≤ k_) ∧ some k_ ≠ (s_.2.1 : Value).ownBlock ∧ some k_ ≠ (.slice Ao40 x341001_1.length co40 : Value).ownBlock ∧ k_ ≠ g ∧ k_ ≠ gb328 ∧ k_ ≠ gb340 ∧ k_ ≠ s_.2.2) (.slice Ao39 x341000_1.length co39) x341000_1) ∧ (Kd.S (Kd.slice 50 k50) 23 w' w.heap.size (fun k_ => (w.heap.size ≤ k_) ∧ some k_ ≠ (s_.2.1 : Value).ownBlock) (.slice Ao40 x341001_1.length co40) x341001_1) ∧ (w'.heap[gb328]? = some (.cells #[.slice none 0 0, .slice none 0 0] 27 (0, 0))) ∧ (w'.heap[gb340]? = some (.cells #[.slice Ao39 x341000_1.length co39, .slice Ao40 x341001_1.length co40] 27 (0, 0))) ∧ (w'.heap[s_.2.2]? = some (.cells #[.slice none 0 0, .slice none 0 0] 27 (0, 0))) ∧ (w.heap.size ≤ s_.2.2) ∧ (w0.heap.size ≤ s_.2.2) ∧ (g ≠ s_.2.2) ∧ (s_.2.2 ≠ g) ∧ (gb328 ≠ s_.2.2) ∧ (s_.2.2 ≠ gb328) ∧ (gb340 ≠ s_.2.2) ∧ (s_.2.2 ≠ gb340) ∧ (IsS95 w0 w' g s0_0 t346) ∧ (KeepBut w w' g none) ∧ (Below w0.heap.size w0 w')) ?_ ?_
     rotate_left
     ·intro hCont
      refine two_ (i := 4) (j := 9) (Ni := some 27) (Nj := some 8) #[true, true, true, true, true, false, false, false, false, false, false, false] #[true, true, true, true, false, false, false, false, false, true, false, false] rfl rfl rfl rfl (two_of HT_.out (by kernel_rfl)) (by decide) (by decide) (fun K hK => ?_) (fun K hK => ?_)
      ·skip
       refine goes_ Try.func56 (by kernel_rfl) rfl #[.pointer (some ⟨g, 0, none⟩), .slice Ao39 x341000_1.length co39] (by rfl) rfl rfl (by (try simp only [List.map_toArray, List.map_cons, List.map_nil]); first | done | rfl | (simp only [List.length_drop, List.length_take]; rfl)) ?_
       with_reducible refine (spec_l20Deed.calls k1 g s0_0 x1001_1 _ _ x341000_1 t343 t344 t345 t346 w0 _ ?side1 ?side2 ?side3 ?side4 A18.out).mono ?_
       (case side1 => repeat (first | (with_reducible first | exact HI0.out | apply IsS95.alloc | apply IsS95.drewN | apply IsS95.drew | apply IsS95.set_1 | refine IsS95.far ?_ NB0_328.out _ | refine IsS95.far ?_ NB0_340.out _) | exact HI0.out))
       (case side2 => repeat (first | (with_reducible first | exact HB.out | apply below_alloc | apply pw_below_drewN | apply below_drew1 | refine below_set ?_ (IsS95.ge HI0.out) | refine below_set ?_ (Aside0.out (by assumption))) | exact HB.out))
       (case side3 => exact Kd.C_foot_ownV (e := 50) (base := 0) (Kd.V_mono (ok := fun k_ => (((w.heap.size ≤ k_)) ∧ (some k_ ≠ (.slice Ao40 x341001_1.length co40 : Value).ownBlock ∧ (k_ ≠ gb328 ∧ (k_ ≠ gb340 ∧ k_ ≠ g))))) (rkV HO_341000) (fun k_ hk_ => (⟨hk_, hk_.2.2.2.2⟩ : _ ∧ k_ ≠ g))) (fun _ h_ => h_.2))
       (case side4 => exact (Kd.V_reads' HO_341000.out).2.1)
       rintro e w42 ⟨rfl, hi, hb, hk⟩
       refine ⟨_, rfl, ?_⟩
       have n0_ := Aside0.mk (Kd.V_mono (Kd.V_keep (Kd.V_mono (ok := fun k_ => (((w.heap.size ≤ k_)) ∧ (some k_ ≠ (.slice Ao40 x341001_1.length co40 : Value).ownBlock ∧ (k_ ≠ gb328 ∧ (k_ ≠ gb340 ∧ k_ ≠ g))))) (rkV HO_341000) (fun k_ hk_ => (⟨hk_, hk_.2.2.2.2⟩ : _ ∧ k_ ≠ g))) hk (fun _ h => h.2)) (fun _ h => h.1))
       have n1_ := Aside0.mk (Kd.S_mono (Kd.S_keep (IsS95.apartS (show IsS95 w0 _ g s0_0 x1001_1 from by repeat (first | (with_reducible first | exact HI0.out | apply IsS95.alloc | apply IsS95.drewN | apply IsS95.drew | apply IsS95.set_1 | refine IsS95.far ?_ NB0_328.out _ | refine IsS95.far ?_ NB0_340.out _) | exact HI0.out)) (rkS HO_341001) (by decide)) hk (fun _ h => h.2)) (fun _ h => h.1))
       have n2_ := Aside0.mk (KeepBut.blk hk (g' := gb328) (o := .cells #[.slice none 0 0, .slice none 0 0] 27 (0, 0)) (pk BK328) NB328_0.out (by simp))
       have n3_ := Aside0.mk (KeepBut.blk hk (g' := gb340) (o := .cells #[.slice Ao39 x341000_1.length co39, .slice Ao40 x341001_1.length co40] 27 (0, 0)) (pk BK340) NB340_0.out (by simp))
       have n4_ := Aside0.mk (KeepBut.trans (by repeat (first | (with_reducible first | exact HK.out | apply KeepBut.set_ | apply keep_drewN | apply keep_drew | apply keep_alloc | refine keep_far ?_ GW328.out _ | refine keep_far ?_ GW340.out _) | exact HK.out)) hk (.inl rfl))
       have n5_ := Aside0.mk (hb)
       have n6_ := Aside0.mk (hi)
       clear HO_341000
       clear HO_341001
       clear BK328
       clear BK340
       clear HK
       clear HB
       clear HI0
       have HO_341000 := n0_
       have HO_341001 := n1_
       have BK328 := n2_
       have BK340 := n3_
       have HK := n4_
       have HB := n5_
       have HI0 := n6_
       clear n0_ n1_ n2_ n3_ n4_ n5_ n6_
       (try clear hb)
       (try clear hb2)
       (try clear hk)
       (try clear hi)
       refine hK.out _ _ ⟨(blk_cell BK340.out 0).trans rfl, (blk_cell BK340.out 1).trans rfl⟩ (fun hHeld => ?_)
       clear hK K
       refine norm_ (a' := ?_) ?_ ?_
       rotate_left
       ·show Act.put _ (some 27) _ = _
        simp only [Act.put, List.setIfInBounds_toArray, List.set_cons_zero, List.set_cons_succ, i64_w, i32_w]
        rfl
       refine two_ (i := 5) (j := 9) (Ni := some 28) (Nj := some 8) #[true, true, true, true, true, true, false, false, false, false, false, false] #[true, true, true, true, true, false, false, false, false, true, false, false] rfl rfl rfl rfl (two_of HT_.out (by kernel_rfl)) (by decide) (by decide) (fun K hK => ?_) (fun K hK => ?_)
       ·skip
        refine goes_ Try.func33 (by kernel_rfl) rfl #[.agg #[.slice Ao39 x341000_1.length co39, .slice Ao40 x341001_1.length co40], .agg #[.int .i64 t343, .int .i64 t344, .int .i64 t345]] (by rfl) rfl rfl (by (try simp only [List.map_toArray, List.map_cons, List.map_nil]); first | done | rfl | (simp only [List.length_drop, List.length_take]; rfl)) ?_
        with_reducible refine (spec_DeskDo.calls k1 (fun k_ => ((w.heap.size ≤ k_) ∧ (some k_ ≠ (.slice Ao40 x341001_1.length co40 : Value).ownBlock ∧ (k_ ≠ gb328 ∧ (k_ ≠ gb340 ∧ k_ ≠ g))))) _ _ x341000_1 _ _ x341001_1 t343 t344 t345 t347 t350 false _ ?side1 ?side2 ?side3 A19.out).mono ?_
        (case side1 => exact HO_341000.out)
        (case side2 => repeat (first | exact (Kd.S_reads' HO_341001.out).2.2 | (with_reducible refine Kd.C_alloc ?_ _) | (with_reducible refine Kd.C_drewN ?_ _) | (with_reducible refine Kd.C_drew ?_)))
        (case side3 => exact (Kd.S_reads' HO_341001.out).2.1)
        rintro e w43 ⟨v348, v351, rfl, ho0, ho1, hb⟩
        refine ⟨_, rfl, ?_⟩
        have n0_ := Aside0.mk (Kd.V_elder' (rkV HO_341000) (Kd.S_base ho1) hb)
        have n1_ := Aside0.mk (Kd.S_elder' (rkS HO_341001) (Kd.S_base ho1) hb)
        have n2_ := Aside0.mk (Kd.V_lower (Kd.V_mono (ok' := fun k_ => (w.heap.size ≤ k_) ∧ some k_ ≠ (v351 : Value).ownBlock ∧ some k_ ≠ (.slice Ao40 x341001_1.length co40 : Value).ownBlock ∧ k_ ≠ gb328 ∧ k_ ≠ gb340 ∧ k_ ≠ g) ho0 (fun k_ hk_ => ⟨Or.elim hk_.1 (fun hs_ => hs_.1) (fun hn_ => (Nat.le_trans (keep_size (w := w) (g := g) (row := none) (by repeat (first | (with_reducible first | exact HK.out | apply KeepBut.set_ | apply keep_drewN | apply keep_drew | apply keep_alloc | refine keep_far ?_ GW328.out _ | refine keep_far ?_ GW340.out _) | exact HK.out))) hn_)), hk_.2, Or.elim hk_.1 (fun hs_ => hs_.2.1) (fun hn_ => (Kd.fresh' (Kd.S_lt (rkS HO_341001)) k_ hn_)), Or.elim hk_.1 (fun hs_ => hs_.2.2.1) (fun hn_ => (Kd.freshB (g := gb328) (o := .cells #[.slice none 0 0, .slice none 0 0] 27 (0, 0)) (pk BK328) k_ hn_)), Or.elim hk_.1 (fun hs_ => hs_.2.2.2.1) (fun hn_ => (Kd.freshB (g := gb340) (o := .cells #[.slice Ao39 x341000_1.length co39, .slice Ao40 x341001_1.length co40] 27 (0, 0)) (pk BK340) k_ hn_)), Or.elim hk_.1 (fun hs_ => hs_.2.2.2.2) (fun hn_ => (IsS95.fresh (by repeat (first | (with_reducible first | exact HI0.out | apply IsS95.alloc | apply IsS95.drewN | apply IsS95.drew | apply IsS95.set_1 | refine IsS95.far ?_ NB0_328.out _ | refine IsS95.far ?_ NB0_340.out _) | exact HI0.out)) k_ hn_))⟩)) (keep_size (w := w) (g := g) (row := none) (by repeat (first | (with_reducible first | exact HK.out | apply KeepBut.set_ | apply keep_drewN | apply keep_drew | apply keep_alloc | refine keep_far ?_ GW328.out _ | refine keep_far ?_ GW340.out _) | exact HK.out))))
        have n3_ := Aside0.mk (Kd.S_lower (Kd.S_new' (Kd.S_newM (M := fun k_ => (w.heap.size ≤ k_)) (Kd.S_mono (ok' := fun k_ => True) ho1 (fun _ hk_ => trivial)) (keep_size (w := w) (g := g) (row := none) (by repeat (first | (with_reducible first | exact HK.out | apply KeepBut.set_ | apply keep_drewN | apply keep_drew | apply keep_alloc | refine keep_far ?_ GW328.out _ | refine keep_far ?_ GW340.out _) | exact HK.out))) (fun k_ h_ => h_)) (Kd.S_lt (rkS HO_341001))) (keep_size (w := w) (g := g) (row := none) (by repeat (first | (with_reducible first | exact HK.out | apply KeepBut.set_ | apply keep_drewN | apply keep_drew | apply keep_alloc | refine keep_far ?_ GW328.out _ | refine keep_far ?_ GW340.out _) | exact HK.out))))
        have n4_ := Aside0.mk (blk_below (g := gb328) (o := .cells #[.slice none 0 0, .slice none 0 0] 27 (0, 0)) (pk BK328) hb)
        have n5_ := Aside0.mk (blk_below (g := gb340) (o := .cells #[.slice Ao39 x341000_1.length co39, .slice Ao40 x341001_1.length co40] 27 (0, 0)) (pk BK340) hb)
        have n6_ := Aside0.mk (IsS95.below (by repeat (first | (with_reducible first | exact HI0.out | apply IsS95.alloc | apply IsS95.drewN | apply IsS95.drew | apply IsS95.set_1 | refine IsS95.far ?_ NB0_328.out _ | refine IsS95.far ?_ NB0_340.out _) | exact HI0.out)) hb)
        have n7_ := Aside0.mk (KeepBut.trans (by repeat (first | (with_reducible first | exact HK.out | apply KeepBut.set_ | apply keep_drewN | apply keep_drew | apply keep_alloc | refine keep_far ?_ GW328.out _ | refine keep_far ?_ GW340.out _) | exact HK.out)) (KeepBut.of_below hb g none) (.inl rfl))
        have n8_ := Aside0.mk (below_step (by repeat (first | (with_reducible first | exact HB.out | apply below_alloc | apply pw_below_drewN | apply below_drew1 | refine below_set ?_ (IsS95.ge HI0.out) | refine below_set ?_ (Aside0.out (by assumption))) | exact HB.out)) hb)
        clear HO_341000
        clear HO_341001
        clear BK328
        clear BK340
        clear HI0
        clear HK
        clear HB
        have HO_341000 := n0_
        have HO_341001 := n1_
        have HO349 := n2_
        have HO352 := n3_
        have BK328 := n4_
        have BK340 := n5_
        have HI0 := n6_
        have HK := n7_
        have HB := n8_
        clear n0_ n1_ n2_ n3_ n4_ n5_ n6_ n7_ n8_
        (try clear hb)
        (try clear hb2)
        (try clear hk)
        (try clear hi)
        (try clear ho0)
        (try clear ho1)
        refine hK.out _ _ ⟨(blk_cell BK340.out 0).trans rfl, (blk_cell BK340.out 1).trans rfl⟩ (fun hHeld => ?_)
        clear hK K
        refine norm_ (a' := ?_) ?_ ?_
        rotate_left
        ·show Act.put _ (some 28) _ = _
         simp only [Act.put, List.setIfInBounds_toArray, List.set_cons_zero, List.set_cons_succ, i64_w, i32_w]
         rfl
        refine pure_ (i := 6) (N := some 22) (v := ?_) (a' := ?_) #[true, true, true, true, true, true, true, false, false, false, false, false] rfl rfl (any_of HT_.out (by kernel_rfl)) (fun _ _ _ h => h) (Or.inl ⟨by rfl, ?_⟩) ?_ ?_
        rotate_left
        ·intro w'
         go_simp
         with_reducible rfl
        rotate_left
        ·simp only [Act.put, List.setIfInBounds_toArray, List.set_cons_zero, List.set_cons_succ, i64_w, i32_w]
         rfl
        refine pure_ (i := 7) (N := some 29) (v := ?_) (a' := ?_) #[true, true, true, true, true, true, true, true, false, false, false, false] rfl rfl (any_of HT_.out (by kernel_rfl)) (fun _ _ _ h => h) (Or.inl ⟨by rfl, ?_⟩) ?_ ?_
        rotate_left
        ·intro w'
         go_simp
         with_reducible rfl
        rotate_left
        ·simp only [Act.put, List.setIfInBounds_toArray, List.set_cons_zero, List.set_cons_succ, i64_w, i32_w]
         rfl
        refine pure_ (i := 8) (N := some 30) (v := ?_) (a' := ?_) #[true, true, true, true, true, true, true, true, true, false, false, false] rfl rfl (any_of HT_.out (by kernel_rfl)) (fun _ _ _ h => h) (Or.inl ⟨by rfl, ?_⟩) ?_ ?_
        rotate_left
        ·intro w'
         go_simp
         with_reducible rfl
        rotate_left
        ·simp only [Act.put, List.setIfInBounds_toArray, List.set_cons_zero, List.set_cons_succ, i64_w, i32_w]
         rfl
        refine one_ (i := 9) (N := some 8) #[true, true, true, true, true, true, true, true, true, true, false, false] rfl rfl (one_of HT_.out (by kernel_rfl)) (by decide) (fun K hK => ?_)
        refine box_step ?hg (N := 8) ?hd (cs := #[.slice none 0 0, .slice none 0 0]) (t := 27) ?hr ?_; (case hd => rfl); (case hg => rfl); (case hr => first | (go_simp; done) | (go_simp; rfl))
        intro gb354 hg w44 hbox hb
        have n0_ := Aside0.mk (Kd.V_below (Kd.V_elderB (rkV HO_341000) gb354 (Nat.le_of_eq hg.symm)) hb)
        have n1_ := Aside0.mk (Kd.S_below (rkS HO_341001) hb)
        have n2_ := Aside0.mk (Kd.V_below (Kd.V_elderB (rkV HO349) gb354 (Nat.le_of_eq hg.symm)) hb)
        have n3_ := Aside0.mk (Kd.S_below (rkS HO352) hb)
        have n4_ := Aside0.mk (blk_below (g := gb328) (o := .cells #[.slice none 0 0, .slice none 0 0] 27 (0, 0)) (pk BK328) hb)
        have n5_ := Aside0.mk (blk_below (g := gb340) (o := .cells #[.slice Ao39 x341000_1.length co39, .slice Ao40 x341001_1.length co40] 27 (0, 0)) (pk BK340) hb)
        have n6_ := Aside0.mk (IsS95.below (by repeat (first | (with_reducible first | exact HI0.out | apply IsS95.alloc | apply IsS95.drewN | apply IsS95.drew | apply IsS95.set_1 | refine IsS95.far ?_ NB0_328.out _ | refine IsS95.far ?_ NB0_340.out _) | exact HI0.out)) hb)
        have n7_ := Aside0.mk (KeepBut.trans (by repeat (first | (with_reducible first | exact HK.out | apply KeepBut.set_ | apply keep_drewN | apply keep_drew | apply keep_alloc | refine keep_far ?_ GW328.out _ | refine keep_far ?_ GW340.out _) | exact HK.out)) (KeepBut.of_below hb g none) (.inl rfl))
        have n8_ := Aside0.mk (below_step (by repeat (first | (with_reducible first | exact HB.out | apply below_alloc | apply pw_below_drewN | apply below_drew1 | refine below_set ?_ (IsS95.ge HI0.out) | refine below_set ?_ (Aside0.out (by assumption))) | exact HB.out)) hb)
        have n9_ := Aside0.mk (hbox)
        have n10_ := Aside0.mk ((by rw [hg]; exact (keep_size (w := w) (g := g) (row := none) (by repeat (first | (with_reducible first | exact HK.out | apply KeepBut.set_ | apply keep_drewN | apply keep_drew | apply keep_alloc | refine keep_far ?_ GW328.out _ | refine keep_far ?_ GW340.out _) | exact HK.out))) : w.heap.size ≤ gb354))
        have n11_ := Aside0.mk ((Nat.le_trans HW0.out (by rw [hg]; exact (keep_size (w := w) (g := g) (row := none) (by repeat (first | (with_reducible first | exact HK.out | apply KeepBut.set_ | apply keep_drewN | apply keep_drew | apply keep_alloc | refine keep_far ?_ GW328.out _ | refine keep_far ?_ GW340.out _) | exact HK.out))) : w.heap.size ≤ gb354) : w0.heap.size ≤ gb354))
        have n12_ := Aside0.mk ((by rw [hg]; exact Nat.ne_of_lt (blk_lt (g := gb328) (o := .cells #[.slice none 0 0, .slice none 0 0] 27 (0, 0)) (pk BK328)) : gb328 ≠ gb354))
        have n13_ := Aside0.mk ((by rw [hg]; exact Nat.ne_of_gt (blk_lt (g := gb328) (o := .cells #[.slice none 0 0, .slice none 0 0] 27 (0, 0)) (pk BK328)) : gb354 ≠ gb328))
        have n14_ := Aside0.mk ((by rw [hg]; exact Nat.ne_of_lt (blk_lt (g := gb340) (o := .cells #[.slice Ao39 x341000_1.length co39, .slice Ao40 x341001_1.length co40] 27 (0, 0)) (pk BK340)) : gb340 ≠ gb354))
        have n15_ := Aside0.mk ((by rw [hg]; exact Nat.ne_of_gt (blk_lt (g := gb340) (o := .cells #[.slice Ao39 x341000_1.length co39, .slice Ao40 x341001_1.length co40] 27 (0, 0)) (pk BK340)) : gb354 ≠ gb340))
        have n16_ := Aside0.mk ((by rw [hg]; exact Nat.ne_of_lt (IsS95.lt (show IsS95 w0 _ g s0_0 t346 from by repeat (first | (with_reducible first | exact HI0.out | apply IsS95.alloc | apply IsS95.drewN | apply IsS95.drew | apply IsS95.set_1 | refine IsS95.far ?_ NB0_328.out _ | refine IsS95.far ?_ NB0_340.out _) | exact HI0.out))) : g ≠ gb354))
        have n17_ := Aside0.mk ((by rw [hg]; exact Nat.ne_of_gt (IsS95.lt (show IsS95 w0 _ g s0_0 t346 from by repeat (first | (with_reducible first | exact HI0.out | apply IsS95.alloc | apply IsS95.drewN | apply IsS95.drew | apply IsS95.set_1 | refine IsS95.far ?_ NB0_328.out _ | refine IsS95.far ?_ NB0_340.out _) | exact HI0.out))) : gb354 ≠ g))
        clear HO_341000
        clear HO_341001
        clear HO349
        clear HO352
        clear BK328
        clear BK340
        clear HI0
        clear HK
        clear HB
        have HO_341000 := n0_
        have HO_341001 := n1_
        have HO349 := n2_
        have HO352 := n3_
        have BK328 := n4_
        have BK340 := n5_
        have HI0 := n6_
        have HK := n7_
        have HB := n8_
        have BK354 := n9_
        have GW354 := n10_
        have GE354 := n11_
        have NB328_354 := n12_
        have NB354_328 := n13_
        have NB340_354 := n14_
        have NB354_340 := n15_
        have NB0_354 := n16_
        have NB354_0 := n17_
        clear n0_ n1_ n2_ n3_ n4_ n5_ n6_ n7_ n8_ n9_ n10_ n11_ n12_ n13_ n14_ n15_ n16_ n17_
        clear hb hbox hg
        refine hK.out _ _ ⟨(blk_cell BK340.out 0).trans rfl, (blk_cell BK340.out 1).trans rfl⟩ (fun hHeld => ?_)
        clear hK K
        refine norm_ (a' := ?_) ?_ ?_
        rotate_left
        ·show Act.put _ (some 8) _ = _
         simp only [Act.put, List.setIfInBounds_toArray, List.set_cons_zero, List.set_cons_succ, i64_w, i32_w]
         rfl
        exact norm_ (by simp only [putAll, Act.put, List.setIfInBounds_toArray, List.set_cons_zero, List.set_cons_succ]) (hCont (v348, v351, gb354) _ ⟨hHeld, (by (with_reducible repeat (first | apply Kd.V_alloc | apply Kd.V_drewN | apply Kd.V_drew)); exact Kd.V_mono HO349.out (fun _ hk => ⟨hk.1.1, ⟨hk.1.2.1, ⟨hk.1.2.2.1, ⟨hk.1.2.2.2.2.2, ⟨hk.1.2.2.2.1, ⟨hk.1.2.2.2.2.1, hk.2⟩⟩⟩⟩⟩⟩)), (by (with_reducible repeat (first | apply Kd.S_alloc | apply Kd.S_drewN | apply Kd.S_drew)); exact Kd.S_mono HO352.out (fun _ hk => ⟨hk.1.1, hk.2⟩)), (by (with_reducible repeat (first | apply Kd.V_alloc | apply Kd.V_drewN | apply Kd.V_drew)); exact Kd.V_mono HO_341000.out (fun _ hk => ⟨hk.1.1.1, ⟨hk.1.2, ⟨hk.1.1.2.1, ⟨hk.1.1.2.2.2.2, ⟨hk.1.1.2.2.1, ⟨hk.1.1.2.2.2.1, hk.2⟩⟩⟩⟩⟩⟩)), (rkS HO_341001), (pk BK328), (pk BK340), (pk BK354), GW354.out, GE354.out, NB0_354.out, NB354_0.out, NB328_354.out, NB354_328.out, NB340_354.out, NB354_340.out, (by repeat (first | (with_reducible first | exact HI0.out | apply IsS95.alloc | apply IsS95.drewN | apply IsS95.drew | apply IsS95.set_1 | refine IsS95.far ?_ NB0_328.out _ | refine IsS95.far ?_ NB0_340.out _ | refine IsS95.far ?_ NB0_354.out _) | exact HI0.out)), (by repeat (first | (with_reducible first | exact HK.out | apply KeepBut.set_ | apply keep_drewN | apply keep_drew | apply keep_alloc | refine keep_far ?_ GW328.out _ | refine keep_far ?_ GW340.out _ | refine keep_far ?_ GW354.out _) | exact HK.out)), (by repeat (first | (with_reducible first | exact HB.out | apply below_alloc | apply pw_below_drewN | apply below_drew1 | refine below_set ?_ (IsS95.ge HI0.out) | refine below_set ?_ (Aside0.out (by assumption))) | exact HB.out))⟩)
       ·skip
        refine box_step ?hg (N := 8) ?hd (cs := #[.slice none 0 0, .slice none 0 0]) (t := 27) ?hr ?_; (case hd => rfl); (case hg => rfl); (case hr => first | (go_simp; done) | (go_simp; rfl))
        intro gb354 hg w43 hbox hb
        have n0_ := Aside0.mk (Kd.V_below (Kd.V_elderB (rkV HO_341000) gb354 (Nat.le_of_eq hg.symm)) hb)
        have n1_ := Aside0.mk (Kd.S_below (rkS HO_341001) hb)
        have n2_ := Aside0.mk (blk_below (g := gb328) (o := .cells #[.slice none 0 0, .slice none 0 0] 27 (0, 0)) (pk BK328) hb)
        have n3_ := Aside0.mk (blk_below (g := gb340) (o := .cells #[.slice Ao39 x341000_1.length co39, .slice Ao40 x341001_1.length co40] 27 (0, 0)) (pk BK340) hb)
        have n4_ := Aside0.mk (IsS95.below (by repeat (first | (with_reducible first | exact HI0.out | apply IsS95.alloc | apply IsS95.drewN | apply IsS95.drew | apply IsS95.set_1 | refine IsS95.far ?_ NB0_328.out _ | refine IsS95.far ?_ NB0_340.out _) | exact HI0.out)) hb)
        have n5_ := Aside0.mk (KeepBut.trans (by repeat (first | (with_reducible first | exact HK.out | apply KeepBut.set_ | apply keep_drewN | apply keep_drew | apply keep_alloc | refine keep_far ?_ GW328.out _ | refine keep_far ?_ GW340.out _) | exact HK.out)) (KeepBut.of_below hb g none) (.inl rfl))
        have n6_ := Aside0.mk (below_step (by repeat (first | (with_reducible first | exact HB.out | apply below_alloc | apply pw_below_drewN | apply below_drew1 | refine below_set ?_ (IsS95.ge HI0.out) | refine below_set ?_ (Aside0.out (by assumption))) | exact HB.out)) hb)
        have n7_ := Aside0.mk (hbox)
        have n8_ := Aside0.mk ((by rw [hg]; exact (keep_size (w := w) (g := g) (row := none) (by repeat (first | (with_reducible first | exact HK.out | apply KeepBut.set_ | apply keep_drewN | apply keep_drew | apply keep_alloc | refine keep_far ?_ GW328.out _ | refine keep_far ?_ GW340.out _) | exact HK.out))) : w.heap.size ≤ gb354))
        have n9_ := Aside0.mk ((Nat.le_trans HW0.out (by rw [hg]; exact (keep_size (w := w) (g := g) (row := none) (by repeat (first | (with_reducible first | exact HK.out | apply KeepBut.set_ | apply keep_drewN | apply keep_drew | apply keep_alloc | refine keep_far ?_ GW328.out _ | refine keep_far ?_ GW340.out _) | exact HK.out))) : w.heap.size ≤ gb354) : w0.heap.size ≤ gb354))
        have n10_ := Aside0.mk ((by rw [hg]; exact Nat.ne_of_lt (blk_lt (g := gb328) (o := .cells #[.slice none 0 0, .slice none 0 0] 27 (0, 0)) (pk BK328)) : gb328 ≠ gb354))
        have n11_ := Aside0.mk ((by rw [hg]; exact Nat.ne_of_gt (blk_lt (g := gb328) (o := .cells #[.slice none 0 0, .slice none 0 0] 27 (0, 0)) (pk BK328)) : gb354 ≠ gb328))
        have n12_ := Aside0.mk ((by rw [hg]; exact Nat.ne_of_lt (blk_lt (g := gb340) (o := .cells #[.slice Ao39 x341000_1.length co39, .slice Ao40 x341001_1.length co40] 27 (0, 0)) (pk BK340)) : gb340 ≠ gb354))
        have n13_ := Aside0.mk ((by rw [hg]; exact Nat.ne_of_gt (blk_lt (g := gb340) (o := .cells #[.slice Ao39 x341000_1.length co39, .slice Ao40 x341001_1.length co40] 27 (0, 0)) (pk BK340)) : gb354 ≠ gb340))
        have n14_ := Aside0.mk ((by rw [hg]; exact Nat.ne_of_lt (IsS95.lt (show IsS95 w0 _ g s0_0 t346 from by repeat (first | (with_reducible first | exact HI0.out | apply IsS95.alloc | apply IsS95.drewN | apply IsS95.drew | apply IsS95.set_1 | refine IsS95.far ?_ NB0_328.out _ | refine IsS95.far ?_ NB0_340.out _) | exact HI0.out))) : g ≠ gb354))
        have n15_ := Aside0.mk ((by rw [hg]; exact Nat.ne_of_gt (IsS95.lt (show IsS95 w0 _ g s0_0 t346 from by repeat (first | (with_reducible first | exact HI0.out | apply IsS95.alloc | apply IsS95.drewN | apply IsS95.drew | apply IsS95.set_1 | refine IsS95.far ?_ NB0_328.out _ | refine IsS95.far ?_ NB0_340.out _) | exact HI0.out))) : gb354 ≠ g))
        clear HO_341000
        clear HO_341001
        clear BK328
        clear BK340
        clear HI0
        clear HK
        clear HB
        have HO_341000 := n0_
        have HO_341001 := n1_
        have BK328 := n2_
        have BK340 := n3_
        have HI0 := n4_
        have HK := n5_
        have HB := n6_
        have BK354 := n7_
        have GW354 := n8_
        have GE354 := n9_
        have NB328_354 := n10_
        have NB354_328 := n11_
        have NB340_354 := n12_
        have NB354_340 := n13_
        have NB0_354 := n14_
        have NB354_0 := n15_
        clear n0_ n1_ n2_ n3_ n4_ n5_ n6_ n7_ n8_ n9_ n10_ n11_ n12_ n13_ n14_ n15_
        clear hb hbox hg
        refine hK.out _ _ ⟨(blk_cell BK340.out 0).trans rfl, (blk_cell BK340.out 1).trans rfl⟩ (fun hHeld => ?_)
        clear hK K
        refine norm_ (a' := ?_) ?_ ?_
        rotate_left
        ·show Act.put _ (some 8) _ = _
         simp only [Act.put, List.setIfInBounds_toArray, List.set_cons_zero, List.set_cons_succ, i64_w, i32_w]
         rfl
        refine one_ (i := 5) (N := some 28) #[true, true, true, true, true, true, false, false, false, true, false, false] rfl rfl (one_of HT_.out (by kernel_rfl)) (by decide) (fun K hK => ?_)
        refine goes_ Try.func33 (by kernel_rfl) rfl #[.agg #[.slice Ao39 x341000_1.length co39, .slice Ao40 x341001_1.length co40], .agg #[.int .i64 t343, .int .i64 t344, .int .i64 t345]] (by rfl) rfl rfl (by (try simp only [List.map_toArray, List.map_cons, List.map_nil]); first | done | rfl | (simp only [List.length_drop, List.length_take]; rfl)) ?_
        with_reducible refine (spec_DeskDo.calls k1 (fun k_ => (((w.heap.size ≤ k_) ∧ (some k_ ≠ (.slice Ao40 x341001_1.length co40 : Value).ownBlock ∧ (k_ ≠ gb328 ∧ (k_ ≠ gb340 ∧ k_ ≠ g)))) ∧ k_ ≠ gb354)) _ _ x341000_1 _ _ x341001_1 t343 t344 t345 t347 t350 false _ ?side1 ?side2 ?side3 A19.out).mono ?_
        (case side1 => exact HO_341000.out)
        (case side2 => repeat (first | exact (Kd.S_reads' HO_341001.out).2.2 | (with_reducible refine Kd.C_alloc ?_ _) | (with_reducible refine Kd.C_drewN ?_ _) | (with_reducible refine Kd.C_drew ?_)))
        (case side3 => exact (Kd.S_reads' HO_341001.out).2.1)
        rintro e w44 ⟨v348, v351, rfl, ho0, ho1, hb⟩
        refine ⟨_, rfl, ?_⟩
        have n0_ := Aside0.mk (Kd.V_elder' (rkV HO_341000) (Kd.S_base ho1) hb)
        have n1_ := Aside0.mk (Kd.S_elder' (rkS HO_341001) (Kd.S_base ho1) hb)
        have n2_ := Aside0.mk (Kd.V_lower (Kd.V_mono (ok' := fun k_ => (w.heap.size ≤ k_) ∧ some k_ ≠ (v351 : Value).ownBlock ∧ some k_ ≠ (.slice Ao40 x341001_1.length co40 : Value).ownBlock ∧ k_ ≠ gb328 ∧ k_ ≠ gb340 ∧ k_ ≠ gb354 ∧ k_ ≠ g) ho0 (fun k_ hk_ => ⟨Or.elim hk_.1 (fun hs_ => hs_.1.1) (fun hn_ => (Nat.le_trans (keep_size (w := w) (g := g) (row := none) (by repeat (first | (with_reducible first | exact HK.out | apply KeepBut.set_ | apply keep_drewN | apply keep_drew | apply keep_alloc | refine keep_far ?_ GW328.out _ | refine keep_far ?_ GW340.out _ | refine keep_far ?_ GW354.out _) | exact HK.out))) hn_)), hk_.2, Or.elim hk_.1 (fun hs_ => hs_.1.2.1) (fun hn_ => (Kd.fresh' (Kd.S_lt (rkS HO_341001)) k_ hn_)), Or.elim hk_.1 (fun hs_ => hs_.1.2.2.1) (fun hn_ => (Kd.freshB (g := gb328) (o := .cells #[.slice none 0 0, .slice none 0 0] 27 (0, 0)) (pk BK328) k_ hn_)), Or.elim hk_.1 (fun hs_ => hs_.1.2.2.2.1) (fun hn_ => (Kd.freshB (g := gb340) (o := .cells #[.slice Ao39 x341000_1.length co39, .slice Ao40 x341001_1.length co40] 27 (0, 0)) (pk BK340) k_ hn_)), Or.elim hk_.1 (fun hs_ => hs_.2) (fun hn_ => (Kd.freshB (g := gb354) (o := .cells #[.slice none 0 0, .slice none 0 0] 27 (0, 0)) (pk BK354) k_ hn_)), Or.elim hk_.1 (fun hs_ => hs_.1.2.2.2.2) (fun hn_ => (IsS95.fresh (by repeat (first | (with_reducible first | exact HI0.out | apply IsS95.alloc | apply IsS95.drewN | apply IsS95.drew | apply IsS95.set_1 | refine IsS95.far ?_ NB0_328.out _ | refine IsS95.far ?_ NB0_340.out _ | refine IsS95.far ?_ NB0_354.out _) | exact HI0.out)) k_ hn_))⟩)) (keep_size (w := w) (g := g) (row := none) (by repeat (first | (with_reducible first | exact HK.out | apply KeepBut.set_ | apply keep_drewN | apply keep_drew | apply keep_alloc | refine keep_far ?_ GW328.out _ | refine keep_far ?_ GW340.out _ | refine keep_far ?_ GW354.out _) | exact HK.out))))
        have n3_ := Aside0.mk (Kd.S_lower (Kd.S_new' (Kd.S_newM (M := fun k_ => (w.heap.size ≤ k_)) (Kd.S_mono (ok' := fun k_ => True) ho1 (fun _ hk_ => trivial)) (keep_size (w := w) (g := g) (row := none) (by repeat (first | (with_reducible first | exact HK.out | apply KeepBut.set_ | apply keep_drewN | apply keep_drew | apply keep_alloc | refine keep_far ?_ GW328.out _ | refine keep_far ?_ GW340.out _ | refine keep_far ?_ GW354.out _) | exact HK.out))) (fun k_ h_ => h_)) (Kd.S_lt (rkS HO_341001))) (keep_size (w := w) (g := g) (row := none) (by repeat (first | (with_reducible first | exact HK.out | apply KeepBut.set_ | apply keep_drewN | apply keep_drew | apply keep_alloc | refine keep_far ?_ GW328.out _ | refine keep_far ?_ GW340.out _ | refine keep_far ?_ GW354.out _) | exact HK.out))))
        have n4_ := Aside0.mk (blk_below (g := gb328) (o := .cells #[.slice none 0 0, .slice none 0 0] 27 (0, 0)) (pk BK328) hb)
        have n5_ := Aside0.mk (blk_below (g := gb340) (o := .cells #[.slice Ao39 x341000_1.length co39, .slice Ao40 x341001_1.length co40] 27 (0, 0)) (pk BK340) hb)
        have n6_ := Aside0.mk (IsS95.below (by repeat (first | (with_reducible first | exact HI0.out | apply IsS95.alloc | apply IsS95.drewN | apply IsS95.drew | apply IsS95.set_1 | refine IsS95.far ?_ NB0_328.out _ | refine IsS95.far ?_ NB0_340.out _ | refine IsS95.far ?_ NB0_354.out _) | exact HI0.out)) hb)
        have n7_ := Aside0.mk (blk_below (g := gb354) (o := .cells #[.slice none 0 0, .slice none 0 0] 27 (0, 0)) (pk BK354) hb)
        have n8_ := Aside0.mk (KeepBut.trans (by repeat (first | (with_reducible first | exact HK.out | apply KeepBut.set_ | apply keep_drewN | apply keep_drew | apply keep_alloc | refine keep_far ?_ GW328.out _ | refine keep_far ?_ GW340.out _ | refine keep_far ?_ GW354.out _) | exact HK.out)) (KeepBut.of_below hb g none) (.inl rfl))
        have n9_ := Aside0.mk (below_step (by repeat (first | (with_reducible first | exact HB.out | apply below_alloc | apply pw_below_drewN | apply below_drew1 | refine below_set ?_ (IsS95.ge HI0.out) | refine below_set ?_ (Aside0.out (by assumption))) | exact HB.out)) hb)
        clear HO_341000
        clear HO_341001
        clear BK328
        clear BK340
        clear HI0
        clear BK354
        clear HK
        clear HB
        have HO_341000 := n0_
        have HO_341001 := n1_
        have HO349 := n2_
        have HO352 := n3_
        have BK328 := n4_
        have BK340 := n5_
        have HI0 := n6_
        have BK354 := n7_
        have HK := n8_
        have HB := n9_
        clear n0_ n1_ n2_ n3_ n4_ n5_ n6_ n7_ n8_ n9_
        (try clear hb)
        (try clear hb2)
        (try clear hk)
        (try clear hi)
        (try clear ho0)
        (try clear ho1)
        refine hK.out _ _ ⟨(blk_cell BK340.out 0).trans rfl, (blk_cell BK340.out 1).trans rfl⟩ (fun hHeld => ?_)
        clear hK K
        refine norm_ (a' := ?_) ?_ ?_
        rotate_left
        ·show Act.put _ (some 28) _ = _
         simp only [Act.put, List.setIfInBounds_toArray, List.set_cons_zero, List.set_cons_succ, i64_w, i32_w]
         rfl
        refine pure_ (i := 6) (N := some 22) (v := ?_) (a' := ?_) #[true, true, true, true, true, true, true, false, false, true, false, false] rfl rfl (any_of HT_.out (by kernel_rfl)) (fun _ _ _ h => h) (Or.inl ⟨by rfl, ?_⟩) ?_ ?_
        rotate_left
        ·intro w'
         go_simp
         with_reducible rfl
        rotate_left
        ·simp only [Act.put, List.setIfInBounds_toArray, List.set_cons_zero, List.set_cons_succ, i64_w, i32_w]
         rfl
        refine pure_ (i := 7) (N := some 29) (v := ?_) (a' := ?_) #[true, true, true, true, true, true, true, true, false, true, false, false] rfl rfl (any_of HT_.out (by kernel_rfl)) (fun _ _ _ h => h) (Or.inl ⟨by rfl, ?_⟩) ?_ ?_
        rotate_left
        ·intro w'
         go_simp
         with_reducible rfl
        rotate_left
        ·simp only [Act.put, List.setIfInBounds_toArray, List.set_cons_zero, List.set_cons_succ, i64_w, i32_w]
         rfl
        refine pure_ (i := 8) (N := some 30) (v := ?_) (a' := ?_) #[true, true, true, true, true, true, true, true, true, true, false, false] rfl rfl (any_of HT_.out (by kernel_rfl)) (fun _ _ _ h => h) (Or.inl ⟨by rfl, ?_⟩) ?_ ?_
        rotate_left
        ·intro w'
         go_simp
         with_reducible rfl
        rotate_left
        ·simp only [Act.put, List.setIfInBounds_toArray, List.set_cons_zero, List.set_cons_succ, i64_w, i32_w]
         rfl
        exact norm_ (by simp only [putAll, Act.put, List.setIfInBounds_toArray, List.set_cons_zero, List.set_cons_succ]) (hCont (v348, v351, gb354) _ ⟨hHeld, (by (with_reducible repeat (first | apply Kd.V_alloc | apply Kd.V_drewN | apply Kd.V_drew)); exact Kd.V_mono HO349.out (fun _ hk => ⟨hk.1, ⟨hk.2.1, ⟨hk.2.2.1, ⟨hk.2.2.2.2.2.2, ⟨hk.2.2.2.1, ⟨hk.2.2.2.2.1, hk.2.2.2.2.2.1⟩⟩⟩⟩⟩⟩)), (by (with_reducible repeat (first | apply Kd.S_alloc | apply Kd.S_drewN | apply Kd.S_drew)); exact Kd.S_mono HO352.out (fun _ hk => ⟨hk.1.1, hk.2⟩)), (by (with_reducible repeat (first | apply Kd.V_alloc | apply Kd.V_drewN | apply Kd.V_drew)); exact Kd.V_mono HO_341000.out (fun _ hk => ⟨hk.1.1.1, ⟨hk.2, ⟨hk.1.1.2.1, ⟨hk.1.1.2.2.2.2, ⟨hk.1.1.2.2.1, ⟨hk.1.1.2.2.2.1, hk.1.2⟩⟩⟩⟩⟩⟩)), (rkS HO_341001), (pk BK328), (pk BK340), (pk BK354), GW354.out, GE354.out, NB0_354.out, NB354_0.out, NB328_354.out, NB354_328.out, NB340_354.out, NB354_340.out, (by repeat (first | (with_reducible first | exact HI0.out | apply IsS95.alloc | apply IsS95.drewN | apply IsS95.drew | apply IsS95.set_1 | refine IsS95.far ?_ NB0_328.out _ | refine IsS95.far ?_ NB0_340.out _ | refine IsS95.far ?_ NB0_354.out _) | exact HI0.out)), (by repeat (first | (with_reducible first | exact HK.out | apply KeepBut.set_ | apply keep_drewN | apply keep_drew | apply keep_alloc | refine keep_far ?_ GW328.out _ | refine keep_far ?_ GW340.out _ | refine keep_far ?_ GW354.out _) | exact HK.out)), (by repeat (first | (with_reducible first | exact HB.out | apply below_alloc | apply pw_below_drewN | apply below_drew1 | refine below_set ?_ (IsS95.ge HI0.out) | refine below_set ?_ (Aside0.out (by assumption))) | exact HB.out))⟩)
      ·skip
       refine box_step ?hg (N := 8) ?hd (cs := #[.slice none 0 0, .slice none 0 0]) (t := 27) ?hr ?_; (case hd => rfl); (case hg => rfl); (case hr => first | (go_simp; done) | (go_simp; rfl))
       intro gb354 hg w42 hbox hb
       have n0_ := Aside0.mk (Kd.V_below (Kd.V_elderB (rkV HO_341000) gb354 (Nat.le_of_eq hg.symm)) hb)
       have n1_ := Aside0.mk (Kd.S_below (rkS HO_341001) hb)
       have n2_ := Aside0.mk (blk_below (g := gb328) (o := .cells #[.slice none 0 0, .slice none 0 0] 27 (0, 0)) (pk BK328) hb)
       have n3_ := Aside0.mk (blk_below (g := gb340) (o := .cells #[.slice Ao39 x341000_1.length co39, .slice Ao40 x341001_1.length co40] 27 (0, 0)) (pk BK340) hb)
       have n4_ := Aside0.mk (IsS95.below (by repeat (first | (with_reducible first | exact HI0.out | apply IsS95.alloc | apply IsS95.drewN | apply IsS95.drew | apply IsS95.set_1 | refine IsS95.far ?_ NB0_328.out _ | refine IsS95.far ?_ NB0_340.out _) | exact HI0.out)) hb)
       have n5_ := Aside0.mk (KeepBut.trans (by repeat (first | (with_reducible first | exact HK.out | apply KeepBut.set_ | apply keep_drewN | apply keep_drew | apply keep_alloc | refine keep_far ?_ GW328.out _ | refine keep_far ?_ GW340.out _) | exact HK.out)) (KeepBut.of_below hb g none) (.inl rfl))
       have n6_ := Aside0.mk (below_step (by repeat (first | (with_reducible first | exact HB.out | apply below_alloc | apply pw_below_drewN | apply below_drew1 | refine below_set ?_ (IsS95.ge HI0.out) | refine below_set ?_ (Aside0.out (by assumption))) | exact HB.out)) hb)
       have n7_ := Aside0.mk (hbox)
       have n8_ := Aside0.mk ((by rw [hg]; exact (keep_size (w := w) (g := g) (row := none) (by repeat (first | (with_reducible first | exact HK.out | apply KeepBut.set_ | apply keep_drewN | apply keep_drew | apply keep_alloc | refine keep_far ?_ GW328.out _ | refine keep_far ?_ GW340.out _) | exact HK.out))) : w.heap.size ≤ gb354))
       have n9_ := Aside0.mk ((Nat.le_trans HW0.out (by rw [hg]; exact (keep_size (w := w) (g := g) (row := none) (by repeat (first | (with_reducible first | exact HK.out | apply KeepBut.set_ | apply keep_drewN | apply keep_drew | apply keep_alloc | refine keep_far ?_ GW328.out _ | refine keep_far ?_ GW340.out _) | exact HK.out))) : w.heap.size ≤ gb354) : w0.heap.size ≤ gb354))
       have n10_ := Aside0.mk ((by rw [hg]; exact Nat.ne_of_lt (blk_lt (g := gb328) (o := .cells #[.slice none 0 0, .slice none 0 0] 27 (0, 0)) (pk BK328)) : gb328 ≠ gb354))
       have n11_ := Aside0.mk ((by rw [hg]; exact Nat.ne_of_gt (blk_lt (g := gb328) (o := .cells #[.slice none 0 0, .slice none 0 0] 27 (0, 0)) (pk BK328)) : gb354 ≠ gb328))
       have n12_ := Aside0.mk ((by rw [hg]; exact Nat.ne_of_lt (blk_lt (g := gb340) (o := .cells #[.slice Ao39 x341000_1.length co39, .slice Ao40 x341001_1.length co40] 27 (0, 0)) (pk BK340)) : gb340 ≠ gb354))
       have n13_ := Aside0.mk ((by rw [hg]; exact Nat.ne_of_gt (blk_lt (g := gb340) (o := .cells #[.slice Ao39 x341000_1.length co39, .slice Ao40 x341001_1.length co40] 27 (0, 0)) (pk BK340)) : gb354 ≠ gb340))
       have n14_ := Aside0.mk ((by rw [hg]; exact Nat.ne_of_lt (IsS95.lt (show IsS95 w0 _ g s0_0 x1001_1 from by repeat (first | (with_reducible first | exact HI0.out | apply IsS95.alloc | apply IsS95.drewN | apply IsS95.drew | apply IsS95.set_1 | refine IsS95.far ?_ NB0_328.out _ | refine IsS95.far ?_ NB0_340.out _) | exact HI0.out))) : g ≠ gb354))
       have n15_ := Aside0.mk ((by rw [hg]; exact Nat.ne_of_gt (IsS95.lt (show IsS95 w0 _ g s0_0 x1001_1 from by repeat (first | (with_reducible first | exact HI0.out | apply IsS95.alloc | apply IsS95.drewN | apply IsS95.drew | apply IsS95.set_1 | refine IsS95.far ?_ NB0_328.out _ | refine IsS95.far ?_ NB0_340.out _) | exact HI0.out))) : gb354 ≠ g))
       clear HO_341000
       clear HO_341001
       clear BK328
       clear BK340
       clear HI0
       clear HK
       clear HB
       have HO_341000 := n0_
       have HO_341001 := n1_
       have BK328 := n2_
       have BK340 := n3_
       have HI0 := n4_
       have HK := n5_
       have HB := n6_
       have BK354 := n7_
       have GW354 := n8_
       have GE354 := n9_
       have NB328_354 := n10_
       have NB354_328 := n11_
       have NB340_354 := n12_
       have NB354_340 := n13_
       have NB0_354 := n14_
       have NB354_0 := n15_
       clear n0_ n1_ n2_ n3_ n4_ n5_ n6_ n7_ n8_ n9_ n10_ n11_ n12_ n13_ n14_ n15_
       clear hb hbox hg
       refine hK.out _ _ ⟨(blk_cell BK340.out 0).trans rfl, (blk_cell BK340.out 1).trans rfl⟩ (fun hHeld => ?_)
       clear hK K
       refine norm_ (a' := ?_) ?_ ?_
       rotate_left
       ·show Act.put _ (some 8) _ = _
        simp only [Act.put, List.setIfInBounds_toArray, List.set_cons_zero, List.set_cons_succ, i64_w, i32_w]
        rfl
       refine one_ (i := 4) (N := some 27) #[true, true, true, true, true, false, false, false, false, true, false, false] rfl rfl (one_of HT_.out (by kernel_rfl)) (by decide) (fun K hK => ?_)
       refine goes_ Try.func56 (by kernel_rfl) rfl #[.pointer (some ⟨g, 0, none⟩), .slice Ao39 x341000_1.length co39] (by rfl) rfl rfl (by (try simp only [List.map_toArray, List.map_cons, List.map_nil]); first | done | rfl | (simp only [List.length_drop, List.length_take]; rfl)) ?_
       with_reducible refine (spec_l20Deed.calls k1 g s0_0 x1001_1 _ _ x341000_1 t343 t344 t345 t346 w0 _ ?side1 ?side2 ?side3 ?side4 A18.out).mono ?_
       (case side1 => repeat (first | (with_reducible first | exact HI0.out | apply IsS95.alloc | apply IsS95.drewN | apply IsS95.drew | apply IsS95.set_1 | refine IsS95.far ?_ NB0_328.out _ | refine IsS95.far ?_ NB0_340.out _ | refine IsS95.far ?_ NB0_354.out _) | exact HI0.out))
       (case side2 => repeat (first | (with_reducible first | exact HB.out | apply below_alloc | apply pw_below_drewN | apply below_drew1 | refine below_set ?_ (IsS95.ge HI0.out) | refine below_set ?_ (Aside0.out (by assumption))) | exact HB.out))
       (case side3 => exact Kd.C_foot_ownV (e := 50) (base := 0) (Kd.V_mono (ok := fun k_ => ((((w.heap.size ≤ k_)) ∧ (some k_ ≠ (.slice Ao40 x341001_1.length co40 : Value).ownBlock ∧ (k_ ≠ gb328 ∧ (k_ ≠ gb340 ∧ k_ ≠ g)))) ∧ k_ ≠ gb354)) (rkV HO_341000) (fun k_ hk_ => (⟨hk_, hk_.1.2.2.2.2⟩ : _ ∧ k_ ≠ g))) (fun _ h_ => h_.2))
       (case side4 => exact (Kd.V_reads' HO_341000.out).2.1)
       rintro e w43 ⟨rfl, hi, hb, hk⟩
       refine ⟨_, rfl, ?_⟩
       have n0_ := Aside0.mk (Kd.V_mono (Kd.V_keep (Kd.V_mono (ok := fun k_ => ((((w.heap.size ≤ k_)) ∧ (some k_ ≠ (.slice Ao40 x341001_1.length co40 : Value).ownBlock ∧ (k_ ≠ gb328 ∧ (k_ ≠ gb340 ∧ k_ ≠ g)))) ∧ k_ ≠ gb354)) (rkV HO_341000) (fun k_ hk_ => (⟨hk_, hk_.1.2.2.2.2⟩ : _ ∧ k_ ≠ g))) hk (fun _ h => h.2)) (fun _ h => h.1))
       have n1_ := Aside0.mk (Kd.S_mono (Kd.S_keep (IsS95.apartS (show IsS95 w0 _ g s0_0 x1001_1 from by repeat (first | (with_reducible first | exact HI0.out | apply IsS95.alloc | apply IsS95.drewN | apply IsS95.drew | apply IsS95.set_1 | refine IsS95.far ?_ NB0_328.out _ | refine IsS95.far ?_ NB0_340.out _ | refine IsS95.far ?_ NB0_354.out _) | exact HI0.out)) (rkS HO_341001) (by decide)) hk (fun _ h => h.2)) (fun _ h => h.1))
       have n2_ := Aside0.mk (KeepBut.blk hk (g' := gb328) (o := .cells #[.slice none 0 0, .slice none 0 0] 27 (0, 0)) (pk BK328) NB328_0.out (by simp))
       have n3_ := Aside0.mk (KeepBut.blk hk (g' := gb340) (o := .cells #[.slice Ao39 x341000_1.length co39, .slice Ao40 x341001_1.length co40] 27 (0, 0)) (pk BK340) NB340_0.out (by simp))
       have n4_ := Aside0.mk (KeepBut.blk hk (g' := gb354) (o := .cells #[.slice none 0 0, .slice none 0 0] 27 (0, 0)) (pk BK354) NB354_0.out (by simp))
       have n5_ := Aside0.mk (KeepBut.trans (by repeat (first | (with_reducible first | exact HK.out | apply KeepBut.set_ | apply keep_drewN | apply keep_drew | apply keep_alloc | refine keep_far ?_ GW328.out _ | refine keep_far ?_ GW340.out _ | refine keep_far ?_ GW354.out _) | exact HK.out)) hk (.inl rfl))
       have n6_ := Aside0.mk (hb)
       have n7_ := Aside0.mk (hi)
       clear HO_341000
       clear HO_341001
       clear BK328
       clear BK340
       clear BK354
       clear HK
       clear HB
       clear HI0
       have HO_341000 := n0_
       have HO_341001 := n1_
       have BK328 := n2_
       have BK340 := n3_
       have BK354 := n4_
       have HK := n5_
       have HB := n6_
       have HI0 := n7_
       clear n0_ n1_ n2_ n3_ n4_ n5_ n6_ n7_
       (try clear hb)
       (try clear hb2)
       (try clear hk)
       (try clear hi)
       refine hK.out _ _ ⟨(blk_cell BK340.out 0).trans rfl, (blk_cell BK340.out 1).trans rfl⟩ (fun hHeld => ?_)
       clear hK K
       refine norm_ (a' := ?_) ?_ ?_
       rotate_left
       ·show Act.put _ (some 27) _ = _
        simp only [Act.put, List.setIfInBounds_toArray, List.set_cons_zero, List.set_cons_succ, i64_w, i32_w]
        rfl
       refine one_ (i := 5) (N := some 28) #[true, true, true, true, true, true, false, false, false, true, false, false] rfl rfl (one_of HT_.out (by kernel_rfl)) (by decide) (fun K hK => ?_)
       refine goes_ Try.func33 (by kernel_rfl) rfl #[.agg #[.slice Ao39 x341000_1.length co39, .slice Ao40 x341001_1.length co40], .agg #[.int .i64 t343, .int .i64 t344, .int .i64 t345]] (by rfl) rfl rfl (by (try simp only [List.map_toArray, List.map_cons, List.map_nil]); first | done | rfl | (simp only [List.length_drop, List.length_take]; rfl)) ?_
       with_reducible refine (spec_DeskDo.calls k1 (fun k_ => (((w.heap.size ≤ k_) ∧ (some k_ ≠ (.slice Ao40 x341001_1.length co40 : Value).ownBlock ∧ (k_ ≠ gb328 ∧ (k_ ≠ gb340 ∧ k_ ≠ g)))) ∧ k_ ≠ gb354)) _ _ x341000_1 _ _ x341001_1 t343 t344 t345 t347 t350 false _ ?side1 ?side2 ?side3 A19.out).mono ?_
       (case side1 => exact HO_341000.out)
       (case side2 => repeat (first | exact (Kd.S_reads' HO_341001.out).2.2 | (with_reducible refine Kd.C_alloc ?_ _) | (with_reducible refine Kd.C_drewN ?_ _) | (with_reducible refine Kd.C_drew ?_)))
       (case side3 => exact (Kd.S_reads' HO_341001.out).2.1)
       rintro e w44 ⟨v348, v351, rfl, ho0, ho1, hb⟩
       refine ⟨_, rfl, ?_⟩
       have n0_ := Aside0.mk (Kd.V_elder' (rkV HO_341000) (Kd.S_base ho1) hb)
       have n1_ := Aside0.mk (Kd.S_elder' (rkS HO_341001) (Kd.S_base ho1) hb)
       have n2_ := Aside0.mk (Kd.V_lower (Kd.V_mono (ok' := fun k_ => (w.heap.size ≤ k_) ∧ some k_ ≠ (v351 : Value).ownBlock ∧ some k_ ≠ (.slice Ao40 x341001_1.length co40 : Value).ownBlock ∧ k_ ≠ gb328 ∧ k_ ≠ gb340 ∧ k_ ≠ gb354 ∧ k_ ≠ g) ho0 (fun k_ hk_ => ⟨Or.elim hk_.1 (fun hs_ => hs_.1.1) (fun hn_ => (Nat.le_trans (keep_size (w := w) (g := g) (row := none) (by repeat (first | (with_reducible first | exact HK.out | apply KeepBut.set_ | apply keep_drewN | apply keep_drew | apply keep_alloc | refine keep_far ?_ GW328.out _ | refine keep_far ?_ GW340.out _ | refine keep_far ?_ GW354.out _) | exact HK.out))) hn_)), hk_.2, Or.elim hk_.1 (fun hs_ => hs_.1.2.1) (fun hn_ => (Kd.fresh' (Kd.S_lt (rkS HO_341001)) k_ hn_)), Or.elim hk_.1 (fun hs_ => hs_.1.2.2.1) (fun hn_ => (Kd.freshB (g := gb328) (o := .cells #[.slice none 0 0, .slice none 0 0] 27 (0, 0)) (pk BK328) k_ hn_)), Or.elim hk_.1 (fun hs_ => hs_.1.2.2.2.1) (fun hn_ => (Kd.freshB (g := gb340) (o := .cells #[.slice Ao39 x341000_1.length co39, .slice Ao40 x341001_1.length co40] 27 (0, 0)) (pk BK340) k_ hn_)), Or.elim hk_.1 (fun hs_ => hs_.2) (fun hn_ => (Kd.freshB (g := gb354) (o := .cells #[.slice none 0 0, .slice none 0 0] 27 (0, 0)) (pk BK354) k_ hn_)), Or.elim hk_.1 (fun hs_ => hs_.1.2.2.2.2) (fun hn_ => (IsS95.fresh (by repeat (first | (with_reducible first | exact HI0.out | apply IsS95.alloc | apply IsS95.drewN | apply IsS95.drew | apply IsS95.set_1 | refine IsS95.far ?_ NB0_328.out _ | refine IsS95.far ?_ NB0_340.out _ | refine IsS95.far ?_ NB0_354.out _) | exact HI0.out)) k_ hn_))⟩)) (keep_size (w := w) (g := g) (row := none) (by repeat (first | (with_reducible first | exact HK.out | apply KeepBut.set_ | apply keep_drewN | apply keep_drew | apply keep_alloc | refine keep_far ?_ GW328.out _ | refine keep_far ?_ GW340.out _ | refine keep_far ?_ GW354.out _) | exact HK.out))))
       have n3_ := Aside0.mk (Kd.S_lower (Kd.S_new' (Kd.S_newM (M := fun k_ => (w.heap.size ≤ k_)) (Kd.S_mono (ok' := fun k_ => True) ho1 (fun _ hk_ => trivial)) (keep_size (w := w) (g := g) (row := none) (by repeat (first | (with_reducible first | exact HK.out | apply KeepBut.set_ | apply keep_drewN | apply keep_drew | apply keep_alloc | refine keep_far ?_ GW328.out _ | refine keep_far ?_ GW340.out _ | refine keep_far ?_ GW354.out _) | exact HK.out))) (fun k_ h_ => h_)) (Kd.S_lt (rkS HO_341001))) (keep_size (w := w) (g := g) (row := none) (by repeat (first | (with_reducible first | exact HK.out | apply KeepBut.set_ | apply keep_drewN | apply keep_drew | apply keep_alloc | refine keep_far ?_ GW328.out _ | refine keep_far ?_ GW340.out _ | refine keep_far ?_ GW354.out _) | exact HK.out))))
       have n4_ := Aside0.mk (blk_below (g := gb328) (o := .cells #[.slice none 0 0, .slice none 0 0] 27 (0, 0)) (pk BK328) hb)
       have n5_ := Aside0.mk (blk_below (g := gb340) (o := .cells #[.slice Ao39 x341000_1.length co39, .slice Ao40 x341001_1.length co40] 27 (0, 0)) (pk BK340) hb)
       have n6_ := Aside0.mk (IsS95.below (by repeat (first | (with_reducible first | exact HI0.out | apply IsS95.alloc | apply IsS95.drewN | apply IsS95.drew | apply IsS95.set_1 | refine IsS95.far ?_ NB0_328.out _ | refine IsS95.far ?_ NB0_340.out _ | refine IsS95.far ?_ NB0_354.out _) | exact HI0.out)) hb)
       have n7_ := Aside0.mk (blk_below (g := gb354) (o := .cells #[.slice none 0 0, .slice none 0 0] 27 (0, 0)) (pk BK354) hb)
       have n8_ := Aside0.mk (KeepBut.trans (by repeat (first | (with_reducible first | exact HK.out | apply KeepBut.set_ | apply keep_drewN | apply keep_drew | apply keep_alloc | refine keep_far ?_ GW328.out _ | refine keep_far ?_ GW340.out _ | refine keep_far ?_ GW354.out _) | exact HK.out)) (KeepBut.of_below hb g none) (.inl rfl))
       have n9_ := Aside0.mk (below_step (by repeat (first | (with_reducible first | exact HB.out | apply below_alloc | apply pw_below_drewN | apply below_drew1 | refine below_set ?_ (IsS95.ge HI0.out) | refine below_set ?_ (Aside0.out (by assumption))) | exact HB.out)) hb)
       clear HO_341000
       clear HO_341001
       clear BK328
       clear BK340
       clear HI0
       clear BK354
       clear HK
       clear HB
       have HO_341000 := n0_
       have HO_341001 := n1_
       have HO349 := n2_
       have HO352 := n3_
       have BK328 := n4_
       have BK340 := n5_
       have HI0 := n6_
       have BK354 := n7_
       have HK := n8_
       have HB := n9_
       clear n0_ n1_ n2_ n3_ n4_ n5_ n6_ n7_ n8_ n9_
       (try clear hb)
       (try clear hb2)
       (try clear hk)
       (try clear hi)
       (try clear ho0)
       (try clear ho1)
       refine hK.out _ _ ⟨(blk_cell BK340.out 0).trans rfl, (blk_cell BK340.out 1).trans rfl⟩ (fun hHeld => ?_)
       clear hK K
       refine norm_ (a' := ?_) ?_ ?_
       rotate_left
       ·show Act.put _ (some 28) _ = _
        simp only [Act.put, List.setIfInBounds_toArray, List.set_cons_zero, List.set_cons_succ, i64_w, i32_w]
        rfl
       refine pure_ (i := 6) (N := some 22) (v := ?_) (a' := ?_) #[true, true, true, true, true, true, true, false, false, true, false, false] rfl rfl (any_of HT_.out (by kernel_rfl)) (fun _ _ _ h => h) (Or.inl ⟨by rfl, ?_⟩) ?_ ?_
       rotate_left
       ·intro w'
        go_simp
        with_reducible rfl
       rotate_left
       ·simp only [Act.put, List.setIfInBounds_toArray, List.set_cons_zero, List.set_cons_succ, i64_w, i32_w]
        rfl
       refine pure_ (i := 7) (N := some 29) (v := ?_) (a' := ?_) #[true, true, true, true, true, true, true, true, false, true, false, false] rfl rfl (any_of HT_.out (by kernel_rfl)) (fun _ _ _ h => h) (Or.inl ⟨by rfl, ?_⟩) ?_ ?_
       rotate_left
       ·intro w'
        go_simp
        with_reducible rfl
       rotate_left
       ·simp only [Act.put, List.setIfInBounds_toArray, List.set_cons_zero, List.set_cons_succ, i64_w, i32_w]
        rfl
       refine pure_ (i := 8) (N := some 30) (v := ?_) (a' := ?_) #[true, true, true, true, true, true, true, true, true, true, false, false] rfl rfl (any_of HT_.out (by kernel_rfl)) (fun _ _ _ h => h) (Or.inl ⟨by rfl, ?_⟩) ?_ ?_
       rotate_left
       ·intro w'
        go_simp
        with_reducible rfl
       rotate_left
       ·simp only [Act.put, List.setIfInBounds_toArray, List.set_cons_zero, List.set_cons_succ, i64_w, i32_w]
        rfl
       exact norm_ (by simp only [putAll, Act.put, List.setIfInBounds_toArray, List.set_cons_zero, List.set_cons_succ]) (hCont (v348, v351, gb354) _ ⟨hHeld, (by (with_reducible repeat (first | apply Kd.V_alloc | apply Kd.V_drewN | apply Kd.V_drew)); exact Kd.V_mono HO349.out (fun _ hk => ⟨hk.1, ⟨hk.2.1, ⟨hk.2.2.1, ⟨hk.2.2.2.2.2.2, ⟨hk.2.2.2.1, ⟨hk.2.2.2.2.1, hk.2.2.2.2.2.1⟩⟩⟩⟩⟩⟩)), (by (with_reducible repeat (first | apply Kd.S_alloc | apply Kd.S_drewN | apply Kd.S_drew)); exact Kd.S_mono HO352.out (fun _ hk => ⟨hk.1.1, hk.2⟩)), (by (with_reducible repeat (first | apply Kd.V_alloc | apply Kd.V_drewN | apply Kd.V_drew)); exact Kd.V_mono HO_341000.out (fun _ hk => ⟨hk.1.1.1, ⟨hk.2, ⟨hk.1.1.2.1, ⟨hk.1.1.2.2.2.2, ⟨hk.1.1.2.2.1, ⟨hk.1.1.2.2.2.1, hk.1.2⟩⟩⟩⟩⟩⟩)), (rkS HO_341001), (pk BK328), (pk BK340), (pk BK354), GW354.out, GE354.out, NB0_354.out, NB354_0.out, NB328_354.out, NB354_328.out, NB340_354.out, NB354_340.out, (by repeat (first | (with_reducible first | exact HI0.out | apply IsS95.alloc | apply IsS95.drewN | apply IsS95.drew | apply IsS95.set_1 | refine IsS95.far ?_ NB0_328.out _ | refine IsS95.far ?_ NB0_340.out _ | refine IsS95.far ?_ NB0_354.out _) | exact HI0.out)), (by repeat (first | (with_reducible first | exact HK.out | apply KeepBut.set_ | apply keep_drewN | apply keep_drew | apply keep_alloc | refine keep_far ?_ GW328.out _ | refine keep_far ?_ GW340.out _ | refine keep_far ?_ GW354.out _) | exact HK.out)), (by repeat (first | (with_reducible first | exact HB.out | apply below_alloc | apply pw_below_drewN | apply below_drew1 | refine below_set ?_ (IsS95.ge HI0.out) | refine below_set ?_ (Aside0.out (by assumption))) | exact HB.out))⟩)
     rintro ⟨v348, v351, gb354⟩ w45 ⟨hS_, h0_, h1_, h2_, h3_, h4_, h5_, h6_, h7_, h8_, h9_, h10_, h11_, h12_, h13_, h14_, h15_, h16_, h17_⟩
     have n0_ : Aside0 (Kd.V k50 50 w45 w.heap.size (fun k_ => (w.heap.size ≤ k_) ∧ some k_ ≠ (v351 : Value).ownBlock ∧ some k_ ≠ (.slice Ao40 x341001_1.length co40 : Value).ownBlock ∧ k_ ≠ g ∧ k_ ≠ gb328 ∧ k_ ≠ gb340 ∧ k_ ≠ gb354) v348 t347) := ⟨h0_⟩
     have n1_ : Aside0 (Kd.S (Kd.slice 50 k50) 23 w45 w.heap.size (fun k_ => (w.heap.size ≤ k_) ∧ some k_ ≠ (.slice Ao40 x341001_1.length co40 : Value).ownBlock) v351 t350) := ⟨h1_⟩
     have n2_ : Aside0 (Kd.V k50 50 w45 w.heap.size (fun k_ => (w.heap.size ≤ k_) ∧ some k_ ≠ (v351 : Value).ownBlock ∧ some k_ ≠ (.slice Ao40 x341001_1.length co40 : Value).ownBlock ∧ k_ ≠ g ∧ k_ ≠ gb328 ∧ k_ ≠ gb340 ∧ k_ ≠ gb354) (.slice Ao39 x341000_1.length co39) x341000_1) := ⟨h2_⟩
     have n3_ : Aside0 (Kd.S (Kd.slice 50 k50) 23 w45 w.heap.size (fun k_ => (w.heap.size ≤ k_) ∧ some k_ ≠ (v351 : Value).ownBlock) (.slice Ao40 x341001_1.length co40) x341001_1) := ⟨h3_⟩
     have n4_ : Aside0 (w45.heap[gb328]? = some (.cells #[.slice none 0 0, .slice none 0 0] 27 (0, 0))) := ⟨h4_⟩
     have n5_ : Aside0 (w45.heap[gb340]? = some (.cells #[.slice Ao39 x341000_1.length co39, .slice Ao40 x341001_1.length co40] 27 (0, 0))) := ⟨h5_⟩
     have n6_ : Aside0 (w45.heap[gb354]? = some (.cells #[.slice none 0 0, .slice none 0 0] 27 (0, 0))) := ⟨h6_⟩
     have n7_ : Aside0 (w.heap.size ≤ gb354) := ⟨h7_⟩
     have n8_ : Aside0 (w0.heap.size ≤ gb354) := ⟨h8_⟩
     have n9_ : Aside0 (g ≠ gb354) := ⟨h9_⟩
     have n10_ : Aside0 (gb354 ≠ g) := ⟨h10_⟩
     have n11_ : Aside0 (gb328 ≠ gb354) := ⟨h11_⟩
     have n12_ : Aside0 (gb354 ≠ gb328) := ⟨h12_⟩
     have n13_ : Aside0 (gb340 ≠ gb354) := ⟨h13_⟩
     have n14_ : Aside0 (gb354 ≠ gb340) := ⟨h14_⟩
     have n15_ : Aside0 (IsS95 w0 w45 g s0_0 t346) := ⟨h15_⟩
     have n16_ : Aside0 (KeepBut w w45 g none) := ⟨h16_⟩
     have n17_ : Aside0 (Below w0.heap.size w0 w45) := ⟨h17_⟩
     clear HO_341000
     clear HO_341001
     clear BK328
     clear BK340
     clear HI0
     clear HK
     clear HB
     clear h0_ h1_ h2_ h3_ h4_ h5_ h6_ h7_ h8_ h9_ h10_ h11_ h12_ h13_ h14_ h15_ h16_ h17_
     have HO349 := n0_
     have HO352 := n1_
     have HO_341000 := n2_
     have HO_341001 := n3_
     have BK328 := n4_
     have BK340 := n5_
     have BK354 := n6_
     have GW354 := n7_
     have GE354 := n8_
     have NB0_354 := n9_
     have NB354_0 := n10_
     have NB328_354 := n11_
     have NB354_328 := n12_
     have NB340_354 := n13_
     have NB354_340 := n14_
     have HI0 := n15_
     have HK := n16_
     have HB := n17_
     clear n0_ n1_ n2_ n3_ n4_ n5_ n6_ n7_ n8_ n9_ n10_ n11_ n12_ n13_ n14_ n15_ n16_ n17_
     have hHeld : w45.cell? ⟨gb340, 0, none⟩ = some (.slice Ao39 x341000_1.length co39) ∧ w45.cell? ⟨gb340, 1, none⟩ = some (.slice Ao40 x341001_1.length co40) := hS_
     obtain ⟨Ao46, co46, eo46⟩ := Kd.V_slice HO349.out
     (first | subst eo46 | (injection eo46 with f1_ f2_ f3_; have f4_ := f1_.symm; have f5_ := f3_.symm; clear f1_ f2_ f3_; subst f4_; subst f5_))
     obtain ⟨Ao48, co48, eo48⟩ := Kd.S_slice HO352.out
     (first | subst eo48 | (injection eo48 with f1_ f2_ f3_; have f4_ := f1_.symm; have f5_ := f3_.symm; clear f1_ f2_ f3_; subst f4_; subst f5_))
     refine norm_ (a' := ?_) ?_ ?_
     rotate_left
     ·simp only [putAll, Act.put, List.setIfInBounds_toArray, List.set_cons_zero, List.set_cons_succ]
      rfl
     refine one_ (i := 10) (N := none) #[true, true, true, true, true, true, true, true, true, true, true, false] rfl rfl (one_of HT_.out (by kernel_rfl)) (by decide) (fun K hK => ?_)
     have hs47 : w45.cell? ⟨gb354, 0, none⟩ = some (.slice none 0 0) := (blk_cell BK354.out 0).trans rfl
     have hfs47 := blk_frozen BK354.out 0
     have hns47_0 := NB328_354.out
     have hns47_1 := NB340_354.out
     have hms47_0 := NB354_328.out
     have hms47_1 := NB354_340.out
     have hs49 : w45.cell? ⟨gb354, 1, none⟩ = some (.slice none 0 0) := (blk_cell BK354.out 1).trans rfl
     have hfs49 := blk_frozen BK354.out 1
     have hns49_0 := NB328_354.out
     have hns49_1 := NB340_354.out
     have hms49_0 := NB354_328.out
     have hms49_1 := NB354_340.out
     refine skip_ (w1 := ?_) (by rfl) rfl ?_ ?_
     rotate_left
     ·go_simp
      rfl
     refine hK.out _ _ ⟨((cell_far (p := ⟨gb354, _, none⟩) NB340_354.out _).trans (((cell_far (p := ⟨gb354, _, none⟩) NB340_354.out _).trans (hHeld.1)))), ((cell_far (p := ⟨gb354, _, none⟩) NB340_354.out _).trans (((cell_far (p := ⟨gb354, _, none⟩) NB340_354.out _).trans (hHeld.2))))⟩ (fun hHeld => ?_)
     clear hK K
     refine pure_ (i := 11) (N := some 9) (v := ?_) (a' := ?_) #[true, true, true, true, true, true, true, true, true, true, true, true] rfl rfl (any_of HT_.out (by kernel_rfl)) (fun _ _ _ h => h) (Or.inl ⟨by rfl, ?_⟩) ?_ ?_
     rotate_left
     ·intro w'
      go_simp
      with_reducible rfl
     rotate_left
     ·simp only [Act.put, List.setIfInBounds_toArray, List.set_cons_zero, List.set_cons_succ, i64_w, i32_w]
      rfl
     refine done_ (done_of HT_.out (by kernel_rfl)) ?_
     try go_wp2
     go_roundg k1
     case measure => have := HK1.out; omega
     case rel => exact ⟨(wrap64 (x7_1 - 1)), (t346), (x341000_1), (x341001_1), (.slice Ao39 x341000_1.length co39), (.slice Ao40 x341001_1.length co40), (by first | rfl | (simp; done) | (simp [*]; done)), H', ⟨by have := HK1.out; omega⟩, ⟨by (with_reducible repeat (first | apply Kd.V_alloc | apply Kd.V_drewN | apply Kd.V_drew)); exact Kd.V_mono (Kd.V_far (p := ⟨gb354, 1, none⟩) (Kd.V_far (p := ⟨gb354, 0, none⟩) (Kd.V_mono HO_341000.out (fun k_ hk => (⟨hk, hk.2.2.2.2.2.2⟩ : _ ∧ k_ ≠ gb354))) (fun _ hk => hk.2) (.slice Ao46 t347.length co46)) (fun _ hk => hk.2) (.slice Ao48 t350.length co48)) (fun _ hk => ⟨hk.1.1, ⟨hk.1.2.2.1, ⟨hk.1.2.2.2.2.1, ⟨hk.1.2.2.2.2.2.1, hk.1.2.2.2.1⟩⟩⟩⟩)⟩, ⟨by (with_reducible repeat (first | apply Kd.S_alloc | apply Kd.S_drewN | apply Kd.S_drew)); exact Kd.S_mono (Kd.S_far (p := ⟨gb354, 1, none⟩) (Kd.S_far (p := ⟨gb354, 0, none⟩) (Kd.S_types HO_341001.out BK354.out (by decide)) (fun _ hk => hk.2) (.slice Ao46 t347.length co46)) (fun _ hk => hk.2) (.slice Ao48 t350.length co48)) (fun _ hk => hk.1.1)⟩, ⟨by refine blk_far ?_ NB328_354.out _; refine blk_far ?_ NB328_354.out _; (with_reducible repeat (first | refine blk_drewN ?_ _ | refine blk_drew ?_ | refine blk_alloc ?_ _)); exact BK328.out⟩, ⟨by refine blk_far ?_ NB340_354.out _; refine blk_far ?_ NB340_354.out _; (with_reducible repeat (first | refine blk_drewN ?_ _ | refine blk_drew ?_ | refine blk_alloc ?_ _)); exact BK340.out⟩, ⟨by repeat (first | (with_reducible first | exact HI0.out | apply IsS95.alloc | apply IsS95.drewN | apply IsS95.drew | apply IsS95.set_1 | refine IsS95.far ?_ NB0_328.out _ | refine IsS95.far ?_ NB0_340.out _ | refine IsS95.far ?_ NB0_354.out _) | exact HI0.out)⟩, ⟨by repeat (first | (with_reducible first | exact HK.out | apply KeepBut.set_ | apply keep_drewN | apply keep_drew | apply keep_alloc | refine keep_far ?_ GW328.out _ | refine keep_far ?_ GW340.out _ | refine keep_far ?_ GW354.out _) | exact HK.out)⟩, ⟨by repeat (first | (with_reducible first | exact HB.out | apply below_alloc | apply pw_below_drewN | apply below_drew1 | refine below_set ?_ (IsS95.ge HI0.out) | refine below_set ?_ (Aside0.out (by assumption))) | exact HB.out)⟩⟩
   ·rw [if_neg c17] at H
    have c17b0 : decide (0 < x7_1) = false := decide_eq_false c17
    clear c17
    replace H := Option.bind_eq_some_iff.mp H
    obtain ⟨⟨t355, t356⟩, A500, H⟩ := H
    replace H : (if t355 = true then ((spec_l20Rd_pick.f k1 s0_0 t356 2).bind fun bt357 => (if bt357.1 = 0 then (some ((([(⟨0, 10⟩ : S50)] : List (S50))), x341001_1, bt357.2)) else (if x341001_1.length < 5864062014805 then (some (x341000_1, (x341001_1 ++ [(([(⟨0, 0⟩ : S50)] : List (S50)))]), bt357.2)) else (none)))) else (some (x341000_1, x341001_1, t356))) = some (r1, r2, r3) := H
    have A50 := Aside0.mk A500
    clear A500
    by_cases c51 : t355 = true
    ·subst c51
     have H1 : ((spec_l20Rd_pick.f k1 s0_0 t356 2).bind fun bt357 => (if bt357.1 = 0 then (some ((([(⟨0, 10⟩ : S50)] : List (S50))), x341001_1, bt357.2)) else (if x341001_1.length < 5864062014805 then (some (x341000_1, (x341001_1 ++ [(([(⟨0, 0⟩ : S50)] : List (S50)))]), bt357.2)) else (none)))) = some (r1, r2, r3) := by rw [if_pos rfl] at H; exact H
     clear H
     have H := H1
     clear H1
     replace H := Option.bind_eq_some_iff.mp H
     obtain ⟨⟨t357, t358⟩, A520, H⟩ := H
     replace H : (if t357 = 0 then (some ((([(⟨0, 10⟩ : S50)] : List (S50))), x341001_1, t358)) else (if x341001_1.length < 5864062014805 then (some (x341000_1, (x341001_1 ++ [(([(⟨0, 0⟩ : S50)] : List (S50)))]), t358)) else (none))) = some (r1, r2, r3) := H
     have A52 := Aside0.mk A520
     clear A520
     by_cases c53 : t357 = 0
     ·rw [if_pos c53] at H
      have c53b0 : (t357 == 0) = true := beq_iff_eq.mpr c53
      have c53b1 : (t357 != 0) = false := bne_eq_false_iff_eq.mpr c53
      clear c53
      obtain ⟨y359, hy359⟩ : ∃ y_ : List (S50), y_ = (([(⟨0, 10⟩ : S50)] : List (S50))) := ⟨_, rfl⟩
      replace H : (some (y359, x341001_1, t358)) = some (r1, r2, r3) := by first | (rw [hy359]; with_reducible exact H) | (have H2_ := (Option.bind_some _ _).symm.trans H; rw [hy359]; with_reducible exact H2_) | (have H2_ := (Option.bind_some _ _).symm.trans H; with_reducible exact H2_) | with_reducible exact H | (rw [hy359]; exact H) | exact H
      have Ny359 := Aside0.mk hy359
      clear hy359
      simp only [Option.some.injEq, Prod.mk.injEq] at H
      obtain ⟨rfl, rfl, rfl⟩ := H
      go_wp2_with (first | ((with_reducible refine gate_callee (f := 64) rfl ?_); refine goesL_ (some 35) rfl rfl Try.func64 (by kernel_rfl) rfl #[.pointer (some ⟨g, 0, none⟩), .int .i64 a1] rfl (by (try simp only [List.map_toArray, List.map_cons, List.map_nil]); first | done | rfl | (simp only [List.length_drop, List.length_take]; rfl)) ?_; (with_reducible refine (spec_l20Rd_odd.calls k1 g s0_0 x1001_1 a1 true t356 w0 _ ?side1 ?side2 A50.out).mono ?_); (case side1 => repeat (first | (with_reducible first | exact HI0.out | apply IsS95.alloc | apply IsS95.drewN | apply IsS95.drew | apply IsS95.set_1 | refine IsS95.far ?_ NB0_328.out _ | refine IsS95.far ?_ NB0_340.out _) | exact HI0.out)); (case side2 => repeat (first | (with_reducible first | exact HB.out | apply below_alloc | apply pw_below_drewN | apply below_drew1 | refine below_set ?_ (IsS95.ge HI0.out) | refine below_set ?_ (Aside0.out (by assumption))) | exact HB.out)); rintro e w54 ⟨rfl, hi, hb, hk⟩; refine ⟨_, rfl, ?_⟩; have n0_ := Aside0.mk (Kd.V_mono (Kd.V_keep (Kd.V_mono (ok := fun k_ => (((w.heap.size ≤ k_)) ∧ (some k_ ≠ (u341001 : Value).ownBlock ∧ (k_ ≠ gb328 ∧ (k_ ≠ gb340 ∧ k_ ≠ g))))) (rkV HO_341000) (fun k_ hk_ => (⟨hk_, hk_.2.2.2.2⟩ : _ ∧ k_ ≠ g))) hk (fun _ h => h.2)) (fun _ h => h.1)); have n1_ := Aside0.mk (Kd.S_mono (Kd.S_keep (IsS95.apartS (show IsS95 w0 _ g s0_0 x1001_1 from by repeat (first | (with_reducible first | exact HI0.out | apply IsS95.alloc | apply IsS95.drewN | apply IsS95.drew | apply IsS95.set_1 | refine IsS95.far ?_ NB0_328.out _ | refine IsS95.far ?_ NB0_340.out _) | exact HI0.out)) (rkS HO_341001) (by decide)) hk (fun _ h => h.2)) (fun _ h => h.1)); have n2_ := Aside0.mk (KeepBut.blk hk (g' := gb328) (o := .cells #[.slice none 0 0, .slice none 0 0] 27 (0, 0)) (pk BK328) NB328_0.out (by simp)); have n3_ := Aside0.mk (KeepBut.blk hk (g' := gb340) (o := .cells #[u341000, u341001] 27 (0, 0)) (pk BK340) NB340_0.out (by simp)); have n4_ := Aside0.mk (KeepBut.trans (by repeat (first | (with_reducible first | exact HK.out | apply KeepBut.set_ | apply keep_drewN | apply keep_drew | apply keep_alloc | refine keep_far ?_ GW328.out _ | refine keep_far ?_ GW340.out _) | exact HK.out)) hk (.inl rfl)); have n5_ := Aside0.mk (hb); have n6_ := Aside0.mk (hi); clear HO_341000; clear HO_341001; clear BK328; clear BK340; clear HK; clear HB; clear HI0; have HO_341000 := n0_; have HO_341001 := n1_; have BK328 := n2_; have BK340 := n3_; have HK := n4_; have HB := n5_; have HI0 := n6_; clear n0_ n1_ n2_ n3_ n4_ n5_ n6_; (try clear hb); (try clear hb2); (try clear hk); (try clear hi)) | ((with_reducible refine gate_callee (f := 67) rfl ?_); refine goesL_ (some 37) rfl rfl Try.func67 (by kernel_rfl) rfl #[.pointer (some ⟨g, 0, none⟩), .int .i64 2] rfl (by (try simp only [List.map_toArray, List.map_cons, List.map_nil]); first | done | rfl | (simp only [List.length_drop, List.length_take]; rfl)) ?_; (with_reducible refine (spec_l20Rd_pick.calls k1 g s0_0 t356 2 t357 t358 w0 _ ?side1 ?side2 A52.out).mono ?_); (case side1 => repeat (first | (with_reducible first | exact HI0.out | apply IsS95.alloc | apply IsS95.drewN | apply IsS95.drew | apply IsS95.set_1 | refine IsS95.far ?_ NB0_328.out _ | refine IsS95.far ?_ NB0_340.out _) | exact HI0.out)); (case side2 => repeat (first | (with_reducible first | exact HB.out | apply below_alloc | apply pw_below_drewN | apply below_drew1 | refine below_set ?_ (IsS95.ge HI0.out) | refine below_set ?_ (Aside0.out (by assumption))) | exact HB.out)); rintro e w55 ⟨rfl, hi, hb, hk⟩; refine ⟨_, rfl, ?_⟩; have n0_ := Aside0.mk (Kd.V_mono (Kd.V_keep (Kd.V_mono (ok := fun k_ => (((w.heap.size ≤ k_)) ∧ (some k_ ≠ (u341001 : Value).ownBlock ∧ (k_ ≠ gb328 ∧ (k_ ≠ gb340 ∧ k_ ≠ g))))) (rkV HO_341000) (fun k_ hk_ => (⟨hk_, hk_.2.2.2.2⟩ : _ ∧ k_ ≠ g))) hk (fun _ h => h.2)) (fun _ h => h.1)); have n1_ := Aside0.mk (Kd.S_mono (Kd.S_keep (IsS95.apartS (show IsS95 w0 _ g s0_0 t356 from by repeat (first | (with_reducible first | exact HI0.out | apply IsS95.alloc | apply IsS95.drewN | apply IsS95.drew | apply IsS95.set_1 | refine IsS95.far ?_ NB0_328.out _ | refine IsS95.far ?_ NB0_340.out _) | exact HI0.out)) (rkS HO_341001) (by decide)) hk (fun _ h => h.2)) (fun _ h => h.1)); have n2_ := Aside0.mk (KeepBut.blk hk (g' := gb328) (o := .cells #[.slice none 0 0, .slice none 0 0] 27 (0, 0)) (pk BK328) NB328_0.out (by simp)); have n3_ := Aside0.mk (KeepBut.blk hk (g' := gb340) (o := .cells #[u341000, u341001] 27 (0, 0)) (pk BK340) NB340_0.out (by simp)); have n4_ := Aside0.mk (KeepBut.trans (by repeat (first | (with_reducible first | exact HK.out | apply KeepBut.set_ | apply keep_drewN | apply keep_drew | apply keep_alloc | refine keep_far ?_ GW328.out _ | refine keep_far ?_ GW340.out _) | exact HK.out)) hk (.inl rfl)); have n5_ := Aside0.mk (hb); have n6_ := Aside0.mk (hi); clear HO_341000; clear HO_341001; clear BK328; clear BK340; clear HK; clear HB; clear HI0; have HO_341000 := n0_; have HO_341001 := n1_; have BK328 := n2_; have BK340 := n3_; have HK := n4_; have HB := n5_; have HI0 := n6_; clear n0_ n1_ n2_ n3_ n4_ n5_ n6_; (try clear hb); (try clear hb2); (try clear hk); (try clear hi)) | ((with_reducible refine gate_dst (N := 40) rfl ?_); refine Kd.R_lit k50 _ 50 ?hg (N := 40) ?hd (xs := ([(⟨0, 10⟩ : S50)] : List (S50))) (inner := [.int .i64 0, .int .i64 10]) (ok := fun _ => True) (okp := fun _ => True) ?hr ?hp (fun _ hk => hk) trivial (Below.refl _ _) (Nat.le_refl _) (by simp) ?_; (case hd => rfl); (case hg => rfl); (case hr => first | (go_simp; done) | (go_simp; rfl)); (case hp => exact (Reps.c2 (show Kd.M k50 _ _ _ (⟨0, 10⟩ : S50) [.int .i64 0, .int .i64 10] from (k50_mkM _ _ _ (⟨0, 10⟩ : S50) )) (Reps.none _ _))); intro v360 w56 ho57 hb hg_ hnew_; clear hg_ hnew_; (first | rw [← Ny359.out] at ho57 | (simp only [Int.reduceToNat] at ho57; rw [← Ny359.out] at ho57)); have n0_ := Aside0.mk (Kd.V_elder' (rkV HO_341000) (Kd.R_base ho57) hb); have n1_ := Aside0.mk (Kd.S_elder' (rkS HO_341001) (Kd.R_base ho57) hb); have n2_ := Aside0.mk (Kd.R_lower (Kd.R_newM (M := fun k_ => (w.heap.size ≤ k_)) ho57 (keep_size (w := w) (g := g) (row := none) (by repeat (first | (with_reducible first | exact HK.out | apply KeepBut.set_ | apply keep_drewN | apply keep_drew | apply keep_alloc | refine keep_far ?_ GW328.out _ | refine keep_far ?_ GW340.out _) | exact HK.out))) (fun k_ h_ => h_)) (keep_size (w := w) (g := g) (row := none) (by repeat (first | (with_reducible first | exact HK.out | apply KeepBut.set_ | apply keep_drewN | apply keep_drew | apply keep_alloc | refine keep_far ?_ GW328.out _ | refine keep_far ?_ GW340.out _) | exact HK.out)))); have n3_ := Aside0.mk (blk_below (g := gb328) (o := .cells #[.slice none 0 0, .slice none 0 0] 27 (0, 0)) (pk BK328) hb); have n4_ := Aside0.mk (blk_below (g := gb340) (o := .cells #[u341000, u341001] 27 (0, 0)) (pk BK340) hb); have n5_ := Aside0.mk (IsS95.below (by repeat (first | (with_reducible first | exact HI0.out | apply IsS95.alloc | apply IsS95.drewN | apply IsS95.drew | apply IsS95.set_1 | refine IsS95.far ?_ NB0_328.out _ | refine IsS95.far ?_ NB0_340.out _) | exact HI0.out)) hb); have n6_ := Aside0.mk (KeepBut.trans (by repeat (first | (with_reducible first | exact HK.out | apply KeepBut.set_ | apply keep_drewN | apply keep_drew | apply keep_alloc | refine keep_far ?_ GW328.out _ | refine keep_far ?_ GW340.out _) | exact HK.out)) (KeepBut.of_below hb g none) (.inl rfl)); have n7_ := Aside0.mk (below_step (by repeat (first | (with_reducible first | exact HB.out | apply below_alloc | apply pw_below_drewN | apply below_drew1 | refine below_set ?_ (IsS95.ge HI0.out) | refine below_set ?_ (Aside0.out (by assumption))) | exact HB.out)) hb); clear HO_341000; clear HO_341001; clear BK328; clear BK340; clear HI0; clear HK; clear HB; have HO_341000 := n0_; have HO_341001 := n1_; have HO361 := n2_; have BK328 := n3_; have BK340 := n4_; have HI0 := n5_; have HK := n6_; have HB := n7_; clear n0_ n1_ n2_ n3_ n4_ n5_ n6_ n7_; clear hb ho57; obtain ⟨Ao58, co58, eo58⟩ := Kd.R_slice HO361.out; subst eo58; have hnb59 := NB340_328.out; have hnc59 := NB328_340.out; have hnb60 := NB340_0.out; have hnc60 := NB0_340.out; have hcz61_0 : w56.cell? ⟨gb340, 0, none⟩ = some (u341000) := (blk_cell BK340.out 0).trans rfl; have hcz61_1 : w56.cell? ⟨gb340, 1, none⟩ = some (u341001) := (blk_cell BK340.out 1).trans rfl; have hfz61_0 := blk_frozen BK340.out 0; have hfz61_1 := blk_frozen BK340.out 1; have hnb62 := NB328_0.out; have hnc62 := NB0_328.out; have hcz63_0 : w56.cell? ⟨gb328, 0, none⟩ = some (.slice none 0 0) := (blk_cell BK328.out 0).trans rfl; have hcz63_1 : w56.cell? ⟨gb328, 1, none⟩ = some (.slice none 0 0) := (blk_cell BK328.out 1).trans rfl; have hfz63_0 := blk_frozen BK328.out 0; have hfz63_1 := blk_frozen BK328.out 1; obtain ⟨Ao64, co64, eo64⟩ := Kd.S_slice HO_341001.out; subst eo64))
      refine bodyPost_ret (results_cell_row rfl _ _ gb328 27 #[.slice Ao58 y359.length co58, .slice Ao64 x341001_1.length co64] (0, 0) _ rfl (by refine blk_put (cs := #[.slice Ao58 y359.length co58, .slice none 0 0]) ?_ 1 _ rfl; refine blk_put (cs := #[.slice none 0 0, .slice none 0 0]) ?_ 0 _ rfl; refine blk_far ?_ NB328_340.out _; (with_reducible repeat (first | refine blk_drewN ?_ _ | refine blk_drew ?_ | refine blk_alloc ?_ _)); exact BK328.out) Try.underlying27 rfl (by kernel_rfl)) rfl ?_
      exact ⟨_, _, by first | rfl | (simp [errW_none, errW_some] <;> rfl) | (simp [*, errW_none, errW_some] <;> rfl), Kd.R_V (by (with_reducible repeat (first | apply Kd.R_alloc | apply Kd.R_drewN | apply Kd.R_drew)); exact Kd.R_mono (Kd.R_far (p := ⟨gb328, 1, none⟩) (Kd.R_far (p := ⟨gb328, 0, none⟩) (Kd.R_far (p := ⟨gb340, 0, none⟩) (Kd.R_types (Kd.R_types (Kd.R_apart' HO361.out (Kd.S_typed HO_341001.out) (by decide)) BK340.out (by decide)) BK328.out (by decide)) (fun _ hk => hk.1.2) (.slice Ao58 y359.length co58)) (fun _ hk => hk.2) (.slice Ao58 y359.length co58)) (fun _ hk => hk.2) (.slice Ao64 x341001_1.length co64)) (fun _ hk => ⟨hk.1.1.1.1, hk.1.1.2⟩)), by (with_reducible repeat (first | apply Kd.S_alloc | apply Kd.S_drewN | apply Kd.S_drew)); exact Kd.S_mono (Kd.S_far (p := ⟨gb328, 1, none⟩) (Kd.S_far (p := ⟨gb328, 0, none⟩) (Kd.S_far (p := ⟨gb340, 0, none⟩) (Kd.S_types (Kd.S_types HO_341001.out BK340.out (by decide)) BK328.out (by decide)) (fun _ hk => hk.1.2) (.slice Ao58 y359.length co58)) (fun _ hk => hk.2) (.slice Ao58 y359.length co58)) (fun _ hk => hk.2) (.slice Ao64 x341001_1.length co64)) (fun _ hk => hk.1.1.1), by repeat (first | (with_reducible first | exact HI0.out | apply IsS95.alloc | apply IsS95.drewN | apply IsS95.drew | apply IsS95.set_1 | refine IsS95.far ?_ NB0_328.out _ | refine IsS95.far ?_ NB0_340.out _) | exact HI0.out), by repeat (first | (with_reducible first | exact HB.out | apply below_alloc | apply pw_below_drewN | apply below_drew1 | refine below_set ?_ (IsS95.ge HI0.out) | refine below_set ?_ (Aside0.out (by assumption))) | exact HB.out), by repeat (first | (with_reducible first | exact HK.out | apply KeepBut.set_ | apply keep_drewN | apply keep_drew | apply keep_alloc | refine keep_far ?_ GW328.out _ | refine keep_far ?_ GW340.out _) | exact HK.out)⟩
     ·rw [if_neg c53] at H
      have c53b0 : (t357 == 0) = false := beq_eq_false_iff_ne.mpr c53
      have c53b1 : (t357 != 0) = true := bne_iff_ne.mpr c53
      obtain ⟨y362, hy362⟩ : ∃ y_ : List (S50), y_ = (([(⟨0, 0⟩ : S50)] : List (S50))) := ⟨_, rfl⟩
      replace H : (if x341001_1.length < 5864062014805 then (some (x341000_1, (x341001_1 ++ [y362]), t358)) else (none)) = some (r1, r2, r3) := by first | (rw [hy362]; with_reducible exact H) | (have H2_ := (Option.bind_some _ _).symm.trans H; rw [hy362]; with_reducible exact H2_) | (have H2_ := (Option.bind_some _ _).symm.trans H; with_reducible exact H2_) | with_reducible exact H | (rw [hy362]; exact H) | exact H
      have Ny362 := Aside0.mk hy362
      clear hy362
      by_cases c65 : x341001_1.length < 5864062014805
      ·rw [if_pos c65] at H
       have LMc65 := Aside0.mk c65
       clear c65
       obtain ⟨y365, hy365⟩ : ∃ y_ : List (List (S50)), y_ = (x341001_1 ++ [y362]) := ⟨_, rfl⟩
       replace H : (some (x341000_1, y365, t358)) = some (r1, r2, r3) := by first | (rw [hy365]; with_reducible exact H) | (have H2_ := (Option.bind_some _ _).symm.trans H; rw [hy365]; with_reducible exact H2_) | (have H2_ := (Option.bind_some _ _).symm.trans H; with_reducible exact H2_) | with_reducible exact H | (rw [hy365]; exact H) | exact H
       have Ny365 := Aside0.mk hy365
       clear hy365
       simp only [Option.some.injEq, Prod.mk.injEq] at H
       obtain ⟨rfl, rfl, rfl⟩ := H
       go_wp2_with (first | ((with_reducible refine gate_callee (f := 64) rfl ?_); refine goesL_ (some 35) rfl rfl Try.func64 (by kernel_rfl) rfl #[.pointer (some ⟨g, 0, none⟩), .int .i64 a1] rfl (by (try simp only [List.map_toArray, List.map_cons, List.map_nil]); first | done | rfl | (simp only [List.length_drop, List.length_take]; rfl)) ?_; (with_reducible refine (spec_l20Rd_odd.calls k1 g s0_0 x1001_1 a1 true t356 w0 _ ?side1 ?side2 A50.out).mono ?_); (case side1 => repeat (first | (with_reducible first | exact HI0.out | apply IsS95.alloc | apply IsS95.drewN | apply IsS95.drew | apply IsS95.set_1 | refine IsS95.far ?_ NB0_328.out _ | refine IsS95.far ?_ NB0_340.out _) | exact HI0.out)); (case side2 => repeat (first | (with_reducible first | exact HB.out | apply below_alloc | apply pw_below_drewN | apply below_drew1 | refine below_set ?_ (IsS95.ge HI0.out) | refine below_set ?_ (Aside0.out (by assumption))) | exact HB.out)); rintro e w66 ⟨rfl, hi, hb, hk⟩; refine ⟨_, rfl, ?_⟩; have n0_ := Aside0.mk (Kd.V_mono (Kd.V_keep (Kd.V_mono (ok := fun k_ => (((w.heap.size ≤ k_)) ∧ (some k_ ≠ (u341001 : Value).ownBlock ∧ (k_ ≠ gb328 ∧ (k_ ≠ gb340 ∧ k_ ≠ g))))) (rkV HO_341000) (fun k_ hk_ => (⟨hk_, hk_.2.2.2.2⟩ : _ ∧ k_ ≠ g))) hk (fun _ h => h.2)) (fun _ h => h.1)); have n1_ := Aside0.mk (Kd.S_mono (Kd.S_keep (IsS95.apartS (show IsS95 w0 _ g s0_0 x1001_1 from by repeat (first | (with_reducible first | exact HI0.out | apply IsS95.alloc | apply IsS95.drewN | apply IsS95.drew | apply IsS95.set_1 | refine IsS95.far ?_ NB0_328.out _ | refine IsS95.far ?_ NB0_340.out _) | exact HI0.out)) (rkS HO_341001) (by decide)) hk (fun _ h => h.2)) (fun _ h => h.1)); have n2_ := Aside0.mk (KeepBut.blk hk (g' := gb328) (o := .cells #[.slice none 0 0, .slice none 0 0] 27 (0, 0)) (pk BK328) NB328_0.out (by simp)); have n3_ := Aside0.mk (KeepBut.blk hk (g' := gb340) (o := .cells #[u341000, u341001] 27 (0, 0)) (pk BK340) NB340_0.out (by simp)); have n4_ := Aside0.mk (KeepBut.trans (by repeat (first | (with_reducible first | exact HK.out | apply KeepBut.set_ | apply keep_drewN | apply keep_drew | apply keep_alloc | refine keep_far ?_ GW328.out _ | refine keep_far ?_ GW340.out _) | exact HK.out)) hk (.inl rfl)); have n5_ := Aside0.mk (hb); have n6_ := Aside0.mk (hi); clear HO_341000; clear HO_341001; clear BK328; clear BK340; clear HK; clear HB; clear HI0; have HO_341000 := n0_; have HO_341001 := n1_; have BK328 := n2_; have BK340 := n3_; have HK := n4_; have HB := n5_; have HI0 := n6_; clear n0_ n1_ n2_ n3_ n4_ n5_ n6_; (try clear hb); (try clear hb2); (try clear hk); (try clear hi)) | ((with_reducible refine gate_callee (f := 67) rfl ?_); refine goesL_ (some 37) rfl rfl Try.func67 (by kernel_rfl) rfl #[.pointer (some ⟨g, 0, none⟩), .int .i64 2] rfl (by (try simp only [List.map_toArray, List.map_cons, List.map_nil]); first | done | rfl | (simp only [List.length_drop, List.length_take]; rfl)) ?_; (with_reducible refine (spec_l20Rd_pick.calls k1 g s0_0 t356 2 t357 t358 w0 _ ?side1 ?side2 A52.out).mono ?_); (case side1 => repeat (first | (with_reducible first | exact HI0.out | apply IsS95.alloc | apply IsS95.drewN | apply IsS95.drew | apply IsS95.set_1 | refine IsS95.far ?_ NB0_328.out _ | refine IsS95.far ?_ NB0_340.out _) | exact HI0.out)); (case side2 => repeat (first | (with_reducible first | exact HB.out | apply below_alloc | apply pw_below_drewN | apply below_drew1 | refine below_set ?_ (IsS95.ge HI0.out) | refine below_set ?_ (Aside0.out (by assumption))) | exact HB.out)); rintro e w67 ⟨rfl, hi, hb, hk⟩; refine ⟨_, rfl, ?_⟩; have n0_ := Aside0.mk (Kd.V_mono (Kd.V_keep (Kd.V_mono (ok := fun k_ => (((w.heap.size ≤ k_)) ∧ (some k_ ≠ (u341001 : Value).ownBlock ∧ (k_ ≠ gb328 ∧ (k_ ≠ gb340 ∧ k_ ≠ g))))) (rkV HO_341000) (fun k_ hk_ => (⟨hk_, hk_.2.2.2.2⟩ : _ ∧ k_ ≠ g))) hk (fun _ h => h.2)) (fun _ h => h.1)); have n1_ := Aside0.mk (Kd.S_mono (Kd.S_keep (IsS95.apartS (show IsS95 w0 _ g s0_0 t356 from by repeat (first | (with_reducible first | exact HI0.out | apply IsS95.alloc | apply IsS95.drewN | apply IsS95.drew | apply IsS95.set_1 | refine IsS95.far ?_ NB0_328.out _ | refine IsS95.far ?_ NB0_340.out _) | exact HI0.out)) (rkS HO_341001) (by decide)) hk (fun _ h => h.2)) (fun _ h => h.1)); have n2_ := Aside0.mk (KeepBut.blk hk (g' := gb328) (o := .cells #[.slice none 0 0, .slice none 0 0] 27 (0, 0)) (pk BK328) NB328_0.out (by simp)); have n3_ := Aside0.mk (KeepBut.blk hk (g' := gb340) (o := .cells #[u341000, u341001] 27 (0, 0)) (pk BK340) NB340_0.out (by simp)); have n4_ := Aside0.mk (KeepBut.trans (by repeat (first | (with_reducible first | exact HK.out | apply KeepBut.set_ | apply keep_drewN | apply keep_drew | apply keep_alloc | refine keep_far ?_ GW328.out _ | refine keep_far ?_ GW340.out _) | exact HK.out)) hk (.inl rfl)); have n5_ := Aside0.mk (hb); have n6_ := Aside0.mk (hi); clear HO_341000; clear HO_341001; clear BK328; clear BK340; clear HK; clear HB; clear HI0; have HO_341000 := n0_; have HO_341001 := n1_; have BK328 := n2_; have BK340 := n3_; have HK := n4_; have HB := n5_; have HI0 := n6_; clear n0_ n1_ n2_ n3_ n4_ n5_ n6_; (try clear hb); (try clear hb2); (try clear hk); (try clear hi); have hnb68 := NB340_328.out; have hnc68 := NB328_340.out; have hnb69 := NB340_0.out; have hnc69 := NB0_340.out; have hcz70_0 : w67.cell? ⟨gb340, 0, none⟩ = some (u341000) := (blk_cell BK340.out 0).trans rfl; have hcz70_1 : w67.cell? ⟨gb340, 1, none⟩ = some (u341001) := (blk_cell BK340.out 1).trans rfl; have hfz70_0 := blk_frozen BK340.out 0; have hfz70_1 := blk_frozen BK340.out 1) | ((with_reducible refine gate_dst (N := 45) rfl ?_); refine Kd.R_lit k50 _ 50 ?hg (N := 45) ?hd (xs := ([(⟨0, 0⟩ : S50)] : List (S50))) (inner := [.int .i64 0, .int .i64 0]) (ok := fun _ => True) (okp := fun _ => True) ?hr ?hp (fun _ hk => hk) trivial (Below.refl _ _) (Nat.le_refl _) (by simp) ?_; (case hd => rfl); (case hg => rfl); (case hr => first | (go_simp; done) | (go_simp; rfl)); (case hp => exact (Reps.c2 (show Kd.M k50 _ _ _ (⟨0, 0⟩ : S50) [.int .i64 0, .int .i64 0] from (k50_mkM _ _ _ (⟨0, 0⟩ : S50) )) (Reps.none _ _))); intro v363 w71 ho72 hb hg_ hnew_; clear hg_ hnew_; (first | rw [← Ny362.out] at ho72 | (simp only [Int.reduceToNat] at ho72; rw [← Ny362.out] at ho72)); have n0_ := Aside0.mk (Kd.V_elder' (rkV HO_341000) (Kd.R_base ho72) hb); have n1_ := Aside0.mk (Kd.S_elder' (rkS HO_341001) (Kd.R_base ho72) hb); have n2_ := Aside0.mk (Kd.R_lower (Kd.R_newM (M := fun k_ => (w.heap.size ≤ k_)) ho72 (keep_size (w := w) (g := g) (row := none) (by repeat (first | (with_reducible first | exact HK.out | apply KeepBut.set_ | apply keep_drewN | apply keep_drew | apply keep_alloc | refine keep_far ?_ GW328.out _ | refine keep_far ?_ GW340.out _) | exact HK.out))) (fun k_ h_ => h_)) (keep_size (w := w) (g := g) (row := none) (by repeat (first | (with_reducible first | exact HK.out | apply KeepBut.set_ | apply keep_drewN | apply keep_drew | apply keep_alloc | refine keep_far ?_ GW328.out _ | refine keep_far ?_ GW340.out _) | exact HK.out)))); have n3_ := Aside0.mk (blk_below (g := gb328) (o := .cells #[.slice none 0 0, .slice none 0 0] 27 (0, 0)) (pk BK328) hb); have n4_ := Aside0.mk (blk_below (g := gb340) (o := .cells #[u341000, u341001] 27 (0, 0)) (pk BK340) hb); have n5_ := Aside0.mk (IsS95.below (by repeat (first | (with_reducible first | exact HI0.out | apply IsS95.alloc | apply IsS95.drewN | apply IsS95.drew | apply IsS95.set_1 | refine IsS95.far ?_ NB0_328.out _ | refine IsS95.far ?_ NB0_340.out _) | exact HI0.out)) hb); have n6_ := Aside0.mk (KeepBut.trans (by repeat (first | (with_reducible first | exact HK.out | apply KeepBut.set_ | apply keep_drewN | apply keep_drew | apply keep_alloc | refine keep_far ?_ GW328.out _ | refine keep_far ?_ GW340.out _) | exact HK.out)) (KeepBut.of_below hb g none) (.inl rfl)); have n7_ := Aside0.mk (below_step (by repeat (first | (with_reducible first | exact HB.out | apply below_alloc | apply pw_below_drewN | apply below_drew1 | refine below_set ?_ (IsS95.ge HI0.out) | refine below_set ?_ (Aside0.out (by assumption))) | exact HB.out)) hb); clear HO_341000; clear HO_341001; clear BK328; clear BK340; clear HI0; clear HK; clear HB; have HO_341000 := n0_; have HO_341001 := n1_; have HO364 := n2_; have BK328 := n3_; have BK340 := n4_; have HI0 := n5_; have HK := n6_; have HB := n7_; clear n0_ n1_ n2_ n3_ n4_ n5_ n6_ n7_; clear hb ho72; obtain ⟨Ao74, co74, eo74⟩ := Kd.R_slice HO364.out; subst eo74) | ((with_reducible refine gate_builtin (b := .append) (xs := #[.tmp 43, .tmp 46]) rfl ?_); at_builtin; refine Kd.S_append (Kd.slice 50 k50) w.heap.size rfl (.tmp 43) (.tmp 46) 25 23 (.slice none 0 0) 24 rfl Try.underlying25 info23 rfl (by decide) (by omega) u341001 x341001_1 y362 [.slice Ao74 y362.length co74] (fun k_ => (w.heap.size ≤ k_)) (fun k_ => some k_ = (.slice Ao74 y362.length co74 : Value).ownBlock) rfl rfl ?aP (fun k_ hk_ => ((Kd.R_mono (ok' := fun k_ => ((fun k_ => (w.heap.size ≤ k_))) k_ ∧ some k_ ≠ (u341001 : Value).ownBlock) (Kd.R_apart' (HO364.out) (Kd.S_typed HO_341001.out) (by decide)) (fun k_ hk => ⟨hk.1.1, hk.2⟩))).1 k_ hk_.symm) ?aF ?aO (Below.refl _ _) ?aS ?aL ?_; (case aP => exact Kd.M_row (Kd.R_mono (Kd.R_tight rfl (Kd.R_mono (ok' := fun k_ => ((fun k_ => (w.heap.size ≤ k_))) k_ ∧ some k_ ≠ (u341001 : Value).ownBlock) (Kd.R_apart' (HO364.out) (Kd.S_typed HO_341001.out) (by decide)) (fun k_ hk => ⟨hk.1.1, hk.2⟩))) (fun _ h_ => h_))); (case aF => exact (fun k_ hk => (Nat.le_trans (keep_size (w := w) (g := g) (row := none) (by repeat (first | (with_reducible first | exact HK.out | apply KeepBut.set_ | apply keep_drewN | apply keep_drew | apply keep_alloc | refine keep_far ?_ GW328.out _ | refine keep_far ?_ GW340.out _) | exact HK.out))) hk))); (case aO => exact (by (with_reducible repeat (first | apply Kd.S_alloc | apply Kd.S_drewN | apply Kd.S_drew)); exact Kd.S_mono HO_341001.out (fun k_ hk => ⟨hk.1, fun e_ => hk.2 e_⟩))); (case aS => exact (keep_size (w := w) (g := g) (row := none) (by repeat (first | (with_reducible first | exact HK.out | apply KeepBut.set_ | apply keep_drewN | apply keep_drew | apply keep_alloc | refine keep_far ?_ GW328.out _ | refine keep_far ?_ GW340.out _) | exact HK.out)))); (case aL => have := LMc65.out; omega); intro v366 w73 ho hb hg hat; rw [← Ny365.out] at ho; have n0_ := Aside0.mk (Kd.V_afterv (ok := (fun k_ => (w.heap.size ≤ k_) ∧ some k_ ≠ (.slice Ao74 y362.length co74 : Value).ownBlock ∧ k_ ≠ gb328 ∧ k_ ≠ gb340 ∧ k_ ≠ g)) (by (with_reducible repeat (first | apply Kd.V_alloc | apply Kd.V_drewN | apply Kd.V_drew)); exact Kd.V_mono HO_341000.out (fun _ hk => ⟨⟨hk.1.1, ⟨hk.2, ⟨hk.1.2.2.1, ⟨hk.1.2.2.2.1, hk.1.2.2.2.2⟩⟩⟩⟩, hk.1.2.1⟩)) hg hat); have n1_ := Aside0.mk (blk_grown (g := gb328) (o := .cells #[.slice none 0 0, .slice none 0 0] 27 (0, 0)) (pk BK328) hg (Kd.S_ne HO_341001.out BK328.out (by decide))); have n2_ := Aside0.mk (blk_grown (g := gb340) (o := .cells #[u341000, u341001] 27 (0, 0)) (pk BK340) hg (Kd.S_ne HO_341001.out BK340.out (by decide))); have n3_ := Aside0.mk (IsS95.grown (by repeat (first | (with_reducible first | exact HI0.out | apply IsS95.alloc | apply IsS95.drewN | apply IsS95.drew | apply IsS95.set_1 | refine IsS95.far ?_ NB0_328.out _ | refine IsS95.far ?_ NB0_340.out _) | exact HI0.out)) hg (IsS95.own_neS HI0.out HO_341001.out (by decide))); have n4_ := Aside0.mk (below_weaken (by repeat (first | (with_reducible first | exact HB.out | apply below_alloc | apply pw_below_drewN | apply below_drew1 | refine below_set ?_ (IsS95.ge HI0.out) | refine below_set ?_ (Aside0.out (by assumption))) | exact HB.out)) HL.out hb); have n5_ := Aside0.mk (KeepBut.trans (by repeat (first | (with_reducible first | exact HK.out | apply KeepBut.set_ | apply keep_drewN | apply keep_drew | apply keep_alloc | refine keep_far ?_ GW328.out _ | refine keep_far ?_ GW340.out _) | exact HK.out)) (KeepBut.of_grown hg g) (Kd.S_base2 HO_341001.out)); have n6_ := Aside0.mk (ho); clear HO_341000; clear BK328; clear BK340; clear HI0; clear HB; clear HK; clear HO_341001; clear HO364; have HO_341000 := n0_; have BK328 := n1_; have BK340 := n2_; have HI0 := n3_; have HB := n4_; have HK := n5_; have HO367 := n6_; clear n0_ n1_ n2_ n3_ n4_ n5_ n6_; clear ho hb hg hat; obtain ⟨Ao75, co75, eo75⟩ := Kd.S_slice HO367.out; subst eo75; have hcz76_0 : w73.cell? ⟨gb340, 0, none⟩ = some (u341000) := (blk_cell BK340.out 0).trans rfl; have hcz76_1 : w73.cell? ⟨gb340, 1, none⟩ = some (u341001) := (blk_cell BK340.out 1).trans rfl; have hfz76_0 := blk_frozen BK340.out 0; have hfz76_1 := blk_frozen BK340.out 1; obtain ⟨Ao77, co77, eo77⟩ := Kd.V_slice HO_341000.out; subst eo77; have hnb78 := NB328_0.out; have hnc78 := NB0_328.out; have hcz79_0 : w73.cell? ⟨gb328, 0, none⟩ = some (.slice none 0 0) := (blk_cell BK328.out 0).trans rfl; have hcz79_1 : w73.cell? ⟨gb328, 1, none⟩ = some (.slice none 0 0) := (blk_cell BK328.out 1).trans rfl; have hfz79_0 := blk_frozen BK328.out 0; have hfz79_1 := blk_frozen BK328.out 1))
       refine bodyPost_ret (results_cell_row rfl _ _ gb328 27 #[.slice Ao77 x341000_1.length co77, .slice Ao75 y365.length co75] (0, 0) _ rfl (by refine blk_put (cs := #[.slice Ao77 x341000_1.length co77, .slice none 0 0]) ?_ 1 _ rfl; refine blk_put (cs := #[.slice none 0 0, .slice none 0 0]) ?_ 0 _ rfl; refine blk_far ?_ NB328_340.out _; (with_reducible repeat (first | refine blk_drewN ?_ _ | refine blk_drew ?_ | refine blk_alloc ?_ _)); exact BK328.out) Try.underlying27 rfl (by kernel_rfl)) rfl ?_
       exact ⟨_, _, by first | rfl | (simp [errW_none, errW_some] <;> rfl) | (simp [*, errW_none, errW_some] <;> rfl), by (with_reducible repeat (first | apply Kd.V_alloc | apply Kd.V_drewN | apply Kd.V_drew)); exact Kd.V_mono (Kd.V_far (p := ⟨gb328, 1, none⟩) (Kd.V_far (p := ⟨gb328, 0, none⟩) (Kd.V_far (p := ⟨gb340, 1, none⟩) (Kd.V_mono (Kd.V_mono HO_341000.out (fun k_ hk => (⟨hk, hk.1.2.2.2.1⟩ : _ ∧ k_ ≠ gb340))) (fun k_ hk => (⟨hk, hk.1.1.2.2.1⟩ : _ ∧ k_ ≠ gb328))) (fun _ hk => hk.1.2) (.slice Ao75 y365.length co75)) (fun _ hk => hk.2) (.slice Ao77 x341000_1.length co77)) (fun _ hk => hk.2) (.slice Ao75 y365.length co75)) (fun _ hk => ⟨hk.1.1.1.1, hk.1.1.2⟩), by (with_reducible repeat (first | apply Kd.S_alloc | apply Kd.S_drewN | apply Kd.S_drew)); exact Kd.S_mono (Kd.S_far (p := ⟨gb328, 1, none⟩) (Kd.S_far (p := ⟨gb328, 0, none⟩) (Kd.S_far (p := ⟨gb340, 1, none⟩) (Kd.S_types (Kd.S_types HO367.out BK340.out (by decide)) BK328.out (by decide)) (fun _ hk => hk.1.2) (.slice Ao75 y365.length co75)) (fun _ hk => hk.2) (.slice Ao77 x341000_1.length co77)) (fun _ hk => hk.2) (.slice Ao75 y365.length co75)) (fun _ hk => hk.1.1), by repeat (first | (with_reducible first | exact HI0.out | apply IsS95.alloc | apply IsS95.drewN | apply IsS95.drew | apply IsS95.set_1 | refine IsS95.far ?_ NB0_328.out _ | refine IsS95.far ?_ NB0_340.out _) | exact HI0.out), by repeat (first | (with_reducible first | exact HB.out | apply below_alloc | apply pw_below_drewN | apply below_drew1 | refine below_set ?_ (IsS95.ge HI0.out) | refine below_set ?_ (Aside0.out (by assumption))) | exact HB.out), by repeat (first | (with_reducible first | exact HK.out | apply KeepBut.set_ | apply keep_drewN | apply keep_drew | apply keep_alloc | refine keep_far ?_ GW328.out _ | refine keep_far ?_ GW340.out _) | exact HK.out)⟩
      ·rw [if_neg c65] at H
       exact absurd H (by simp)
    ·replace c51 := Bool.eq_false_iff.mpr c51
     subst c51
     have H1 : (some (x341000_1, x341001_1, t356)) = some (r1, r2, r3) := by rw [if_neg (show ¬ (false = true) by decide)] at H; exact H
     clear H
     have H := H1
     clear H1
     simp only [Option.some.injEq, Prod.mk.injEq] at H
     obtain ⟨rfl, rfl, rfl⟩ := H
     go_wp2_with (first | ((with_reducible refine gate_callee (f := 64) rfl ?_); refine goesL_ (some 35) rfl rfl Try.func64 (by kernel_rfl) rfl #[.pointer (some ⟨g, 0, none⟩), .int .i64 a1] rfl (by (try simp only [List.map_toArray, List.map_cons, List.map_nil]); first | done | rfl | (simp only [List.length_drop, List.length_take]; rfl)) ?_; (with_reducible refine (spec_l20Rd_odd.calls k1 g s0_0 x1001_1 a1 false t356 w0 _ ?side1 ?side2 A50.out).mono ?_); (case side1 => repeat (first | (with_reducible first | exact HI0.out | apply IsS95.alloc | apply IsS95.drewN | apply IsS95.drew | apply IsS95.set_1 | refine IsS95.far ?_ NB0_328.out _ | refine IsS95.far ?_ NB0_340.out _) | exact HI0.out)); (case side2 => repeat (first | (with_reducible first | exact HB.out | apply below_alloc | apply pw_below_drewN | apply below_drew1 | refine below_set ?_ (IsS95.ge HI0.out) | refine below_set ?_ (Aside0.out (by assumption))) | exact HB.out)); rintro e w80 ⟨rfl, hi, hb, hk⟩; refine ⟨_, rfl, ?_⟩; have n0_ := Aside0.mk (Kd.V_mono (Kd.V_keep (Kd.V_mono (ok := fun k_ => (((w.heap.size ≤ k_)) ∧ (some k_ ≠ (u341001 : Value).ownBlock ∧ (k_ ≠ gb328 ∧ (k_ ≠ gb340 ∧ k_ ≠ g))))) (rkV HO_341000) (fun k_ hk_ => (⟨hk_, hk_.2.2.2.2⟩ : _ ∧ k_ ≠ g))) hk (fun _ h => h.2)) (fun _ h => h.1)); have n1_ := Aside0.mk (Kd.S_mono (Kd.S_keep (IsS95.apartS (show IsS95 w0 _ g s0_0 x1001_1 from by repeat (first | (with_reducible first | exact HI0.out | apply IsS95.alloc | apply IsS95.drewN | apply IsS95.drew | apply IsS95.set_1 | refine IsS95.far ?_ NB0_328.out _ | refine IsS95.far ?_ NB0_340.out _) | exact HI0.out)) (rkS HO_341001) (by decide)) hk (fun _ h => h.2)) (fun _ h => h.1)); have n2_ := Aside0.mk (KeepBut.blk hk (g' := gb328) (o := .cells #[.slice none 0 0, .slice none 0 0] 27 (0, 0)) (pk BK328) NB328_0.out (by simp)); have n3_ := Aside0.mk (KeepBut.blk hk (g' := gb340) (o := .cells #[u341000, u341001] 27 (0, 0)) (pk BK340) NB340_0.out (by simp)); have n4_ := Aside0.mk (KeepBut.trans (by repeat (first | (with_reducible first | exact HK.out | apply KeepBut.set_ | apply keep_drewN | apply keep_drew | apply keep_alloc | refine keep_far ?_ GW328.out _ | refine keep_far ?_ GW340.out _) | exact HK.out)) hk (.inl rfl)); have n5_ := Aside0.mk (hb); have n6_ := Aside0.mk (hi); clear HO_341000; clear HO_341001; clear BK328; clear BK340; clear HK; clear HB; clear HI0; have HO_341000 := n0_; have HO_341001 := n1_; have BK328 := n2_; have BK340 := n3_; have HK := n4_; have HB := n5_; have HI0 := n6_; clear n0_ n1_ n2_ n3_ n4_ n5_ n6_; (try clear hb); (try clear hb2); (try clear hk); (try clear hi); have hnb81 := NB340_328.out; have hnc81 := NB328_340.out; have hnb82 := NB340_0.out; have hnc82 := NB0_340.out; have hcz83_0 : w80.cell? ⟨gb340, 0, none⟩ = some (u341000) := (blk_cell BK340.out 0).trans rfl; have hcz83_1 : w80.cell? ⟨gb340, 1, none⟩ = some (u341001) := (blk_cell BK340.out 1).trans rfl; have hfz83_0 := blk_frozen BK340.out 0; have hfz83_1 := blk_frozen BK340.out 1; obtain ⟨Ao84, co84, eo84⟩ := Kd.V_slice HO_341000.out; subst eo84; have hnb85 := NB328_0.out; have hnc85 := NB0_328.out; have hcz86_0 : w80.cell? ⟨gb328, 0, none⟩ = some (.slice none 0 0) := (blk_cell BK328.out 0).trans rfl; have hcz86_1 : w80.cell? ⟨gb328, 1, none⟩ = some (.slice none 0 0) := (blk_cell BK328.out 1).trans rfl; have hfz86_0 := blk_frozen BK328.out 0; have hfz86_1 := blk_frozen BK328.out 1; obtain ⟨Ao87, co87, eo87⟩ := Kd.S_slice HO_341001.out; subst eo87))
     refine bodyPost_ret (results_cell_row rfl _ _ gb328 27 #[.slice Ao84 x341000_1.length co84, .slice Ao87 x341001_1.length co87] (0, 0) _ rfl (by refine blk_put (cs := #[.slice Ao84 x341000_1.length co84, .slice none 0 0]) ?_ 1 _ rfl; refine blk_put (cs := #[.slice none 0 0, .slice none 0 0]) ?_ 0 _ rfl; (with_reducible repeat (first | refine blk_drewN ?_ _ | refine blk_drew ?_ | refine blk_alloc ?_ _)); exact BK328.out) Try.underlying27 rfl (by kernel_rfl)) rfl ?_
     exact ⟨_, _, by first | rfl | (simp [errW_none, errW_some] <;> rfl) | (simp [*, errW_none, errW_some] <;> rfl), by (with_reducible repeat (first | apply Kd.V_alloc | apply Kd.V_drewN | apply Kd.V_drew)); exact Kd.V_mono (Kd.V_far (p := ⟨gb328, 1, none⟩) (Kd.V_far (p := ⟨gb328, 0, none⟩) (Kd.V_mono HO_341000.out (fun k_ hk => (⟨hk, hk.2.2.1⟩ : _ ∧ k_ ≠ gb328))) (fun _ hk => hk.2) (.slice Ao84 x341000_1.length co84)) (fun _ hk => hk.2) (.slice Ao87 x341001_1.length co87)) (fun _ hk => ⟨hk.1.1, hk.1.2.1⟩), by (with_reducible repeat (first | apply Kd.S_alloc | apply Kd.S_drewN | apply Kd.S_drew)); exact Kd.S_mono (Kd.S_far (p := ⟨gb328, 1, none⟩) (Kd.S_far (p := ⟨gb328, 0, none⟩) (Kd.S_types HO_341001.out BK328.out (by decide)) (fun _ hk => hk.2) (.slice Ao84 x341000_1.length co84)) (fun _ hk => hk.2) (.slice Ao87 x341001_1.length co87)) (fun _ hk => hk.1), by repeat (first | (with_reducible first | exact HI0.out | apply IsS95.alloc | apply IsS95.drewN | apply IsS95.drew | apply IsS95.set_1 | refine IsS95.far ?_ NB0_328.out _ | refine IsS95.far ?_ NB0_340.out _) | exact HI0.out), by repeat (first | (with_reducible first | exact HB.out | apply below_alloc | apply pw_below_drewN | apply below_drew1 | refine below_set ?_ (IsS95.ge HI0.out) | refine below_set ?_ (Aside0.out (by assumption))) | exact HB.out), by repeat (first | (with_reducible first | exact HK.out | apply KeepBut.set_ | apply keep_drewN | apply keep_drew | apply keep_alloc | refine keep_far ?_ GW328.out _ | refine keep_far ?_ GW340.out _) | exact HK.out)⟩

end Go.Proofs.Ytocnifoohecmeaa.PFnDeskDo
