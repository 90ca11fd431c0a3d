-- Printed by this claim's own program; Lean checks it.
import Derived.Test.YtmmoojkhlkjdkaaGreatDoorPFnReadJournalx0
import Derived.Test.YtmmoojkhlkjdkaaGreatDoorPFnReadJournalx3
import Derived.Test.YtmmoojkhlkjdkaaGreatDoorPFnReadJournalx5
import Derived.Test.YtmmoojkhlkjdkaaGreatDoorPFnReadJournalx7
import Derived.Test.YtmmoojkhlkjdkaaGreatDoorPFnReadJournalx18
namespace Go.Proofs.YtmmoojkhlkjdkaaGreatDoor.PFnReadJournal
open Go.RowKit Go.Proofs.YtmmoojkhlkjdkaaGreatDoorW.PrintWords Go.Proofs.YtmmoojkhlkjdkaaGreatDoorW.PrintLast Go.Proofs.YtmmoojkhlkjdkaaGreatDoorW.PrintMore
attribute [local go_sem] max2_int min2_int max_two min_two max_three min_three max_four min_four   -- for this text's walks alone
set_option linter.unusedVariables false
set_option linter.unusedSimpArgs false

/-! ### spec_DrawDeskRun: function 12 -/
def spec_DrawDeskRun.f (k : Nat) (l0 : List Int) : Option ((List (S84)) × (List (List (S84))) × (List (S39))) := (spec_l20Open.f l0).bind fun bt482 => ((spec_l20Desk.f k bt482.1 bt482.2 12).bind fun bt485 => ((spec_l20Rd_odd.f k bt482.1 bt485.2.2 30).bind fun bt493 => (if bt493.1 = true then (if 41 ≤ 11728124029610 then (some (bt485.1, bt485.2.1, (List.replicate 41 z39))) else (none)) else ((spec_l20Deeds.f k bt482.1 bt493.2 bt485.1).bind fun bt498 => (some (bt485.1, bt485.2.1, bt498.1))))))
set_option maxHeartbeats 8000000 in
set_option maxRecDepth 100000 in
theorem spec_DrawDeskRun.calls (k : Nat) (A0 : Option Addr) (c0 : Nat) (l0 : List Int) (r1 : List (S84)) (r2 : List (List (S84))) (r3 : List (S39)) (w : World) (hr0 : Kd.C (Kd.int .u8) w A0 l0.length l0) (hc0 : l0.length ≤ c0) (h : spec_DrawDeskRun.f k l0 = some (r1, r2, r3)) :
 Calls Tryz.prog 12 #[.slice A0 l0.length c0] w fun e w' => ∃ v0_ v1_ v2_ : Value, e = .returned (.tuple #[.agg #[v0_, v1_], v2_]) ∧ Kd.V k84 84 w' w.heap.size (fun k_ => (w.heap.size ≤ k_) ∧ some k_ ≠ (v1_ : Value).ownBlock ∧ some k_ ≠ (v2_ : Value).ownBlock) v0_ r1 ∧ Kd.S (Kd.slice 84 k84) 28 w' w.heap.size (fun k_ => (w.heap.size ≤ k_)) v1_ r2 ∧ Kd.R k39 39 w' w.heap.size (fun k_ => (w.heap.size ≤ k_)) v2_ r3 ∧ Below w.heap.size w w' := by
 have hu31 := Tryz.underlying31
 have HR0 := Aside0.mk hr0
 have HC0 := Aside0.mk hc0
 clear hr0 hc0
 have HB := Aside0.mk (Below.refl w.heap.size w)
 have H : ((spec_l20Open.f l0).bind fun bt482 => ((spec_l20Desk.f k bt482.1 bt482.2 12).bind fun bt485 => ((spec_l20Rd_odd.f k bt482.1 bt485.2.2 30).bind fun bt493 => (if bt493.1 = true then (if 41 ≤ 11728124029610 then (some (bt485.1, bt485.2.1, (List.replicate 41 z39))) else (none)) else ((spec_l20Deeds.f k bt482.1 bt493.2 bt485.1).bind fun bt498 => (some (bt485.1, bt485.2.1, bt498.1))))))) = some (r1, r2, r3) := h
 clear h
 replace H := Option.bind_eq_some_iff.mp H
 obtain ⟨⟨t482, t483⟩, A20, H⟩ := H
 replace H : ((spec_l20Desk.f k t482 t483 12).bind fun bt485 => ((spec_l20Rd_odd.f k t482 bt485.2.2 30).bind fun bt493 => (if bt493.1 = true then (if 41 ≤ 11728124029610 then (some (bt485.1, bt485.2.1, (List.replicate 41 z39))) else (none)) else ((spec_l20Deeds.f k t482 bt493.2 bt485.1).bind fun bt498 => (some (bt485.1, bt485.2.1, bt498.1)))))) = some (r1, r2, r3) := H
 have A2 := Aside0.mk A20
 clear A20
 replace H := Option.bind_eq_some_iff.mp H
 obtain ⟨⟨t485, t488, t491⟩, A30, H⟩ := H
 replace H : ((spec_l20Rd_odd.f k t482 t491 30).bind fun bt493 => (if bt493.1 = true then (if 41 ≤ 11728124029610 then (some (t485, t488, (List.replicate 41 z39))) else (none)) else ((spec_l20Deeds.f k t482 bt493.2 t485).bind fun bt498 => (some (t485, t488, bt498.1))))) = some (r1, r2, r3) := H
 have A3 := Aside0.mk A30
 clear A30
 replace H := Option.bind_eq_some_iff.mp H
 obtain ⟨⟨t493, t494⟩, A40, H⟩ := H
 replace H : (if t493 = true then (if 41 ≤ 11728124029610 then (some (t485, t488, (List.replicate 41 z39))) else (none)) else ((spec_l20Deeds.f k t482 t494 t485).bind fun bt498 => (some (t485, t488, bt498.1)))) = some (r1, r2, r3) := H
 have A4 := Aside0.mk A40
 clear A40
 by_cases c5 : t493 = true
 ·subst c5
  have H1 : (if 41 ≤ 11728124029610 then (some (t485, t488, (List.replicate 41 z39))) else (none)) = some (r1, r2, r3) := Z37
  clear H
  have H := H1
  clear H1
  by_cases c6 : 41 ≤ 11728124029610
  ·rw [if_pos c6] at H
   have c6b0 := eq_true c6
   have c6b1 : decide (41 ≤ 11728124029610) = true := decide_eq_true c6
   clear c6
   obtain ⟨y495, hy495⟩ : ∃ y_ : List (S39), y_ = (List.replicate 41 z39) := ⟨_, rfl⟩
   replace H : (some (t485, t488, y495)) = some (r1, r2, r3) := Z5 hy495
   have Ny495 := Aside0.mk hy495
   clear hy495
   simp only [Option.some.injEq, Prod.mk.injEq] at H
   obtain ⟨rfl, rfl, rfl⟩ := H
   go_enter Tryz.func12, Tryz.ntmps12
   try go_wp2_with (first | ((with_reducible refine gate_dst (N := 2) rfl ?_); refine bE_ 2 #[.slice none 0 0, .slice none 0 0] 31 ?_; intro gb481 hg w7 hbox hb; have BK481 := Aside0.mk (hbox); have GW481 := Aside0.mk ((by rw [hg]; exact (below_size (Z0 HB)) : w.heap.size ≤ gb481)); have GE481 := Aside0.mk ((by rw [hg]; exact (below_size (Z0 HB)) : w.heap.size ≤ gb481)); replace HB := Aside0.mk (below_step (Z0 HB) hb); clear hb hbox hg) | ((with_reducible refine gate_callee (f := 38) rfl ?_); refine gL_ 7 Tryz.func38 #[.slice A0 l0.length c0] ?_; (with_reducible refine (spec_l20Open.calls _ _ l0 t482 t483 w _ ?side1 ?side2 ?side3 A2.out).mono ?_); (case side1 => exact Z1 HB GE481); (case side2 => exact HR0.out); (case side3 => exact HC0.out); rintro e w8 ⟨g484, rfl, hi, hb, hb2⟩; refine ⟨_, rfl, ?_⟩; replace HB := Aside0.mk (hb); have HI484 := Aside0.mk (hi); have NB484_481 := Aside0.mk (IsS104.ne_blk hi (blk_below (g := gb481) (o := .cells #[.slice none 0 0, .slice none 0 0] 31 (0, 0)) (Z2 BK481) hb2) Z28); have NB481_484 := Aside0.mk (Ne.symm (IsS104.ne_blk hi (blk_below (g := gb481) (o := .cells #[.slice none 0 0, .slice none 0 0] 31 (0, 0)) (Z2 BK481) hb2) Z28)); replace BK481 := Aside0.mk (blk_below (g := gb481) (o := .cells #[.slice none 0 0, .slice none 0 0] 31 (0, 0)) (Z2 BK481) hb2); (try clear hb); (try clear hb2); (try clear hi)) | ((with_reducible refine gate_callee (f := 46) rfl ?_); refine gL_ 9 Tryz.func46 #[.pointer (some ⟨g484, 0, none⟩), .int .i64 12] ?_; (with_reducible refine (spec_l20Desk.calls k g484 t482 t483 12 t485 t488 t491 w _ ?side1 ?side2 A3.out).mono ?_); (case side1 => exact Z31 HI484 NB484_481); (case side2 => exact Z20 HB HI484 GE481); rintro e w9 ⟨v486, v489, rfl, ho0, ho1, hi, hb, hk⟩; refine ⟨_, rfl, ?_⟩; have HO487 := Aside0.mk (Kd.V_lower (Kd.V_mono (ok' := fun k_ => (w.heap.size ≤ k_) ∧ some k_ ≠ (v489 : Value).ownBlock ∧ k_ ≠ gb481 ∧ k_ ≠ g484) ho0 (fun k_ hk_ => ⟨(Nat.le_trans (below_size (Z20 HB HI484 GE481)) hk_.1), hk_.2, (Kd.freshB (g := gb481) (o := .cells #[.slice none 0 0, .slice none 0 0] 31 (0, 0)) (Z2 BK481) k_ hk_.1), (IsS104.fresh (Z31 HI484 NB484_481) k_ hk_.1)⟩)) (below_size (Z20 HB HI484 GE481))); replace BK481 := Aside0.mk (KeepBut.blk hk (g' := gb481) (o := .cells #[.slice none 0 0, .slice none 0 0] 31 (0, 0)) (Z2 BK481) NB481_484.out Z33); have HO490 := Aside0.mk (Kd.S_lower (Kd.S_newM (M := fun k_ => (w.heap.size ≤ k_)) (Kd.S_mono (ok' := fun k_ => True) ho1 (fun _ hk_ => trivial)) (below_size (Z20 HB HI484 GE481)) (fun k_ h_ => h_)) (below_size (Z20 HB HI484 GE481))); replace HB := Aside0.mk (hb); replace HI484 := Aside0.mk (hi); (try clear hb); (try clear hb2); (try clear hk); (try clear hi); (try clear ho0); (try clear ho1)) | ((with_reducible refine gate_dst (N := 5) rfl ?_); refine bE_ 5 #[.slice none 0 0, .slice none 0 0] 31 ?_; intro gb492 hg w10 hbox hb; replace HO487 := Aside0.mk (Kd.V_below (Kd.V_elderB (Z25 HO487) gb492 (Nat.le_of_eq hg.symm)) hb); replace HO490 := Aside0.mk (Kd.S_below (Z42 HO490) hb); have BK492 := Aside0.mk (hbox); have GW492 := Aside0.mk ((by rw [hg]; exact (below_size (Z20 HB HI484 GE481)) : w.heap.size ≤ gb492)); have GE492 := Aside0.mk ((by rw [hg]; exact (below_size (Z20 HB HI484 GE481)) : w.heap.size ≤ gb492)); replace HB := Aside0.mk (below_step (Z20 HB HI484 GE481) hb); have NB481_492 := Aside0.mk ((by rw [hg]; exact Nat.ne_of_lt (blk_lt (g := gb481) (o := .cells #[.slice none 0 0, .slice none 0 0] 31 (0, 0)) (Z2 BK481)) : gb481 ≠ gb492)); have NB492_481 := Aside0.mk ((by rw [hg]; exact Nat.ne_of_gt (blk_lt (g := gb481) (o := .cells #[.slice none 0 0, .slice none 0 0] 31 (0, 0)) (Z2 BK481)) : gb492 ≠ gb481)); replace BK481 := Aside0.mk (blk_below (g := gb481) (o := .cells #[.slice none 0 0, .slice none 0 0] 31 (0, 0)) (Z2 BK481) hb); have NB484_492 := Aside0.mk ((by rw [hg]; exact Nat.ne_of_lt (IsS104.lt (show IsS104 w _ g484 t482 t491 from Z31 HI484 NB484_481)) : g484 ≠ gb492)); have NB492_484 := Aside0.mk ((by rw [hg]; exact Nat.ne_of_gt (IsS104.lt (show IsS104 w _ g484 t482 t491 from Z31 HI484 NB484_481)) : gb492 ≠ g484)); replace HI484 := Aside0.mk (IsS104.below (Z31 HI484 NB484_481) hb); clear hb hbox hg; obtain ⟨Ao11, co11, eo11⟩ := Kd.V_slice HO487.out; subst eo11; have hnb12 := NB492_481.out; have hnc12 := NB481_492.out; have hnb13 := NB492_484.out; have hnc13 := NB484_492.out; have hcz14_0 : w10.cell? ⟨gb492, 0, none⟩ = some (.slice none 0 0) := (blk_cell BK492.out 0).trans rfl; have hcz14_1 : w10.cell? ⟨gb492, 1, none⟩ = some (.slice none 0 0) := (blk_cell BK492.out 1).trans rfl; have hfz14_0 := blk_frozen BK492.out 0; have hfz14_1 := blk_frozen BK492.out 1; obtain ⟨Ao15, co15, eo15⟩ := Kd.S_slice HO490.out; subst eo15) | ((with_reducible refine gate_callee (f := 47) rfl ?_); refine gL_ 11 Tryz.func47 #[.pointer (some ⟨g484, 0, none⟩), .int .i64 30] ?_; (with_reducible refine (spec_l20Rd_odd.calls k g484 t482 t491 30 true t494 w _ ?side1 ?side2 A4.out).mono ?_); (case side1 => exact Z13 HI484 NB484_481 NB484_492); (case side2 => exact Z12 HB HI484 GE481 GE492); rintro e w16 ⟨rfl, hi, hb, hk⟩; refine ⟨_, rfl, ?_⟩; replace BK481 := Aside0.mk (KeepBut.blk hk (g' := gb481) (o := .cells #[.slice none 0 0, .slice none 0 0] 31 (0, 0)) (Z22 NB481_492 BK481) NB481_484.out Z33); replace HO487 := Aside0.mk (Kd.V_mono (Kd.V_keep (Kd.V_mono (ok := fun k_ => ((((w.heap.size ≤ k_)) ∧ (some k_ ≠ (.slice Ao15 t488.length co15 : Value).ownBlock ∧ (k_ ≠ gb481 ∧ k_ ≠ g484))) ∧ k_ ≠ gb492)) (by (with_reducible repeat (first | apply Kd.V_alloc | apply Kd.V_drewN | apply Kd.V_drew)); exact (Kd.V_mono (Kd.V_far (p := ⟨gb492, 1, none⟩) (Kd.V_far (p := ⟨gb492, 0, none⟩) (Kd.V_mono HO487.out (fun k_ hk => (⟨hk, hk.2⟩ : _ ∧ k_ ≠ gb492))) (fun _ hk => hk.2) (.slice Ao11 t485.length co11)) (fun _ hk => hk.2) (.slice Ao15 t488.length co15)) (fun _ h_ => h_.1))) (fun k_ hk_ => (⟨hk_, hk_.1.2.2.2⟩ : _ ∧ k_ ≠ g484))) hk (fun _ h => h.2)) (fun _ h => h.1)); replace HO490 := Aside0.mk (Kd.S_mono (Kd.S_keep (IsS104.apartS (show IsS104 w _ g484 t482 t491 from Z13 HI484 NB484_481 NB484_492) (by (with_reducible repeat (first | apply Kd.S_alloc | apply Kd.S_drewN | apply Kd.S_drew)); exact (Kd.S_mono (Kd.S_far (p := ⟨gb492, 1, none⟩) (Kd.S_far (p := ⟨gb492, 0, none⟩) (Kd.S_types HO490.out BK492.out Z28) (fun _ hk => hk.2) (.slice Ao11 t485.length co11)) (fun _ hk => hk.2) (.slice Ao15 t488.length co15)) (fun _ h_ => h_.1))) Z28) hk (fun _ h => h.2)) (fun _ h => h.1)); replace BK492 := Aside0.mk (KeepBut.blk hk (g' := gb492) (o := .cells #[.slice Ao11 t485.length co11, .slice Ao15 t488.length co15] 31 (0, 0)) (Z41 BK492) NB492_484.out Z33); replace HB := Aside0.mk (hb); replace HI484 := Aside0.mk (hi); (try clear hb); (try clear hk); (try clear hi)))
   replace HO487 := Aside0.mk (Kd.V_drew HO487.out)
   replace HO490 := Aside0.mk (Kd.S_drew HO490.out)
   replace BK481 := Aside0.mk (blk_drew BK481.out)
   replace BK492 := Aside0.mk (blk_drew BK492.out)
   replace HI484 := Aside0.mk (IsS104.drew HI484.out)
   replace HB := Aside0.mk (below_drew1 HB.out)
   refine start_ (n := 4) (S := fun w' => w'.cell? ⟨gb492, 0, none⟩ = some (.slice Ao11 t485.length co11) ∧ w'.cell? ⟨gb492, 1, none⟩ = some (.slice Ao15 t488.length co15)) (ds := []) (bB 4 0) Z15 rfl Z15 ⟨(blk_cell BK492.out 0).trans rfl, (blk_cell BK492.out 1).trans rfl⟩ (fun hHeld => ?_)
   generalize w16.drew = w17 at HO487 HO490 BK481 BK492 HI484 HB hHeld ⊢
   refine take_ (i := 0) (N := some 12) (v := ?_) (a' := ?_) (bB 4 1) rfl rfl Z15 (fun _ _ _ h => h) (Or.inl ⟨Z90, ?_⟩) hHeld ?_ ?_
   rotate_left
   ·rintro w' ⟨s0, s1⟩
    go_simp
    with_reducible rfl
   rotate_left
   ·simp only [Act.put, List.setIfInBounds_toArray, List.set_cons_zero, List.set_cons_succ, i64_w, i32_w]
    rfl
   refine join_ (σ := Value) 1 (bB 4 7) (fun s_ => [(13, s_)]) (fun s_ w' => (w'.cell? ⟨gb492, 0, none⟩ = some (.slice Ao11 t485.length co11) ∧ w'.cell? ⟨gb492, 1, none⟩ = some (.slice Ao15 t488.length co15)) ∧ (Kd.V k84 84 w' w.heap.size (fun k_ => (w.heap.size ≤ k_) ∧ some k_ ≠ (.slice Ao15 t488.length co15 : Value).ownBlock ∧ some k_ ≠ (s_ : Value).ownBlock ∧ k_ ≠ gb481 ∧ k_ ≠ g484 ∧ k_ ≠ gb492) (.slice Ao11 t485.length co11) t485) ∧ (Kd.S (Kd.slice 84 k84) 28 w' w.heap.size (fun k_ => (w.heap.size ≤ k_)) (.slice Ao15 t488.length co15) t488) ∧ (Kd.R k39 39 w' w.heap.size (fun k_ => (w.heap.size ≤ k_)) s_ y495) ∧ (w'.heap[gb481]? = some (.cells #[.slice Ao11 t485.length co11, .slice Ao15 t488.length co15] 31 (0, 0))) ∧ (w'.heap[gb492]? = some (.cells #[.slice Ao11 t485.length co11, .slice Ao15 t488.length co15] 31 (0, 0))) ∧ (IsS104 w w' g484 t482 t494) ∧ (Below w.heap.size w w')) ?_ ?_
   rotate_left
   ·intro hCont
    refine two_ (i := 1) (j := 2) (Ni := some 13) (Nj := none) (bB 4 3) (bB 4 5) rfl rfl rfl rfl Z15 Z28 Z28 (fun K hK => ?_) (fun K hK => ?_)
    ·skip
     refine Kd.R_make_step k39 _ 39 Z90 (N := 13) rfl 24 _ _ rfl 41 rfl rfl Tryz.underlying24 (.agg #[(.int .i64 0), (.int .i64 0), (.int .i64 0)]) 24 info39 rfl Z28 Z32 z39 (ok := fun _ => True) (okp := fun _ => True) (k39_mkM _ _ _ z39 ) (fun _ hk => hk) trivial Z32 Z32 (Below.refl _ _) (Nat.le_refl _) ?_
     intro v496 w18 ho19 hb hg_ hnew_
     clear hg_ hnew_
     (first | rw [← Ny495.out] at ho19 | (simp only [Int.reduceToNat] at ho19; rw [← Ny495.out] at ho19))
     replace HO487 := Aside0.mk (Kd.V_elder' (Z25 HO487) (Kd.R_base ho19) hb)
     replace HO490 := Aside0.mk (Kd.S_below (Z42 HO490) hb)
     have HO497 := Aside0.mk (Kd.R_lower (Kd.R_newM (M := fun k_ => (w.heap.size ≤ k_)) ho19 (below_size (Z12 HB HI484 GE481 GE492)) (fun k_ h_ => h_)) (below_size (Z12 HB HI484 GE481 GE492)))
     replace BK481 := Aside0.mk (blk_below (g := gb481) (o := .cells #[.slice none 0 0, .slice none 0 0] 31 (0, 0)) (Z2 BK481) hb)
     replace BK492 := Aside0.mk (blk_below (g := gb492) (o := .cells #[.slice Ao11 t485.length co11, .slice Ao15 t488.length co15] 31 (0, 0)) (Z2 BK492) hb)
     replace HB := Aside0.mk (below_step (Z12 HB HI484 GE481 GE492) hb)
     replace HI484 := Aside0.mk (IsS104.below (Z13 HI484 NB484_481 NB484_492) hb)
     clear hb ho19
     refine hK.out _ _ ⟨(blk_cell BK492.out 0).trans rfl, (blk_cell BK492.out 1).trans rfl⟩ (fun hHeld => ?_)
     clear hK K
     refine nr_ ?_
     refine one_ (i := 2) (N := none) (bB 4 7) rfl rfl Z15 Z28 (fun K hK => ?_)
     have hs20 : w18.cell? ⟨gb481, 0, none⟩ = some (.slice none 0 0) := (blk_cell BK481.out 0).trans rfl
     have hfs20 := blk_frozen BK481.out 0
     have hns20_1 := NB492_481.out
     have hms20_1 := NB481_492.out
     have hs21 : w18.cell? ⟨gb481, 1, none⟩ = some (.slice none 0 0) := (blk_cell BK481.out 1).trans rfl
     have hfs21 := blk_frozen BK481.out 1
     have hns21_1 := NB492_481.out
     have hms21_1 := NB481_492.out
     refine skip_ (w1 := ?_) Z90 rfl ?_ ?_
     rotate_left
     ·go_simp
      rfl
     refine hK.out _ _ ⟨((cell_far (p := ⟨gb481, _, none⟩) NB492_481.out _).trans (((cell_far (p := ⟨gb481, _, none⟩) NB492_481.out _).trans (hHeld.1)))), ((cell_far (p := ⟨gb481, _, none⟩) NB492_481.out _).trans (((cell_far (p := ⟨gb481, _, none⟩) NB492_481.out _).trans (hHeld.2))))⟩ (fun hHeld => ?_)
     clear hK K
     exact norm_ Z48 (hCont (v496) _ ⟨hHeld, (by (with_reducible repeat (first | apply Kd.V_alloc | apply Kd.V_drewN | apply Kd.V_drew)); exact Kd.V_mono (Kd.V_far (p := ⟨gb481, 1, none⟩) (Kd.V_far (p := ⟨gb481, 0, none⟩) (Kd.V_mono HO487.out (fun k_ hk => (⟨hk, hk.1.1.2.2.1⟩ : _ ∧ k_ ≠ gb481))) (fun _ hk => hk.2) (.slice Ao11 t485.length co11)) (fun _ hk => hk.2) (.slice Ao15 t488.length co15)) (fun _ hk => ⟨hk.1.1.1.1, ⟨hk.1.1.1.2.1, ⟨hk.1.2, ⟨hk.1.1.1.2.2.1, ⟨hk.1.1.1.2.2.2, hk.1.1.2⟩⟩⟩⟩⟩)), (by (with_reducible repeat (first | apply Kd.S_alloc | apply Kd.S_drewN | apply Kd.S_drew)); exact Kd.S_mono (Kd.S_far (p := ⟨gb481, 1, none⟩) (Kd.S_far (p := ⟨gb481, 0, none⟩) (Kd.S_types HO490.out BK481.out Z28) (fun _ hk => hk.2) (.slice Ao11 t485.length co11)) (fun _ hk => hk.2) (.slice Ao15 t488.length co15)) (fun _ hk => hk.1.1)), (by (with_reducible repeat (first | apply Kd.R_alloc | apply Kd.R_drewN | apply Kd.R_drew)); exact Kd.R_mono (Kd.R_far (p := ⟨gb481, 1, none⟩) (Kd.R_far (p := ⟨gb481, 0, none⟩) (Kd.R_types HO497.out BK481.out Z28) (fun _ hk => hk.2) (.slice Ao11 t485.length co11)) (fun _ hk => hk.2) (.slice Ao15 t488.length co15)) (fun _ hk => hk.1.1)), (Z41 BK481), (Z22 NB492_481 BK492), (Z13 HI484 NB484_481 NB484_492), (Z12 HB HI484 GE481 GE492)⟩)
    ·skip
     have hs18 : w17.cell? ⟨gb481, 0, none⟩ = some (.slice none 0 0) := (blk_cell BK481.out 0).trans rfl
     have hfs18 := blk_frozen BK481.out 0
     have hns18_1 := NB492_481.out
     have hms18_1 := NB481_492.out
     have hs19 : w17.cell? ⟨gb481, 1, none⟩ = some (.slice none 0 0) := (blk_cell BK481.out 1).trans rfl
     have hfs19 := blk_frozen BK481.out 1
     have hns19_1 := NB492_481.out
     have hms19_1 := NB481_492.out
     refine skip_ (w1 := ?_) Z90 rfl ?_ ?_
     rotate_left
     ·go_simp
      rfl
     refine hK.out _ _ ⟨((cell_far (p := ⟨gb481, _, none⟩) NB492_481.out _).trans (((cell_far (p := ⟨gb481, _, none⟩) NB492_481.out _).trans (hHeld.1)))), ((cell_far (p := ⟨gb481, _, none⟩) NB492_481.out _).trans (((cell_far (p := ⟨gb481, _, none⟩) NB492_481.out _).trans (hHeld.2))))⟩ (fun hHeld => ?_)
     clear hK K
     refine one_ (i := 1) (N := some 13) (bB 4 7) rfl rfl Z15 Z28 (fun K hK => ?_)
     refine Kd.R_make_step k39 _ 39 Z90 (N := 13) rfl 24 _ _ rfl 41 rfl rfl Tryz.underlying24 (.agg #[(.int .i64 0), (.int .i64 0), (.int .i64 0)]) 24 info39 rfl Z28 Z32 z39 (ok := fun _ => True) (okp := fun _ => True) (k39_mkM _ _ _ z39 ) (fun _ hk => hk) trivial Z32 Z32 (Below.refl _ _) (Nat.le_refl _) ?_
     intro v496 w20 ho21 hb hg_ hnew_
     clear hg_ hnew_
     (first | rw [← Ny495.out] at ho21 | (simp only [Int.reduceToNat] at ho21; rw [← Ny495.out] at ho21))
     replace HO487 := Aside0.mk (Kd.V_elder' (by (with_reducible repeat (first | apply Kd.V_alloc | apply Kd.V_drewN | apply Kd.V_drew)); exact (Kd.V_mono (Kd.V_far (p := ⟨gb481, 1, none⟩) (Kd.V_far (p := ⟨gb481, 0, none⟩) (Kd.V_mono HO487.out (fun k_ hk => (⟨hk, hk.1.2.2.1⟩ : _ ∧ k_ ≠ gb481))) (fun _ hk => hk.2) (.slice Ao11 t485.length co11)) (fun _ hk => hk.2) (.slice Ao15 t488.length co15)) (fun _ h_ => h_.1))) (Kd.R_base ho21) hb)
     replace HO490 := Aside0.mk (Kd.S_below (by (with_reducible repeat (first | apply Kd.S_alloc | apply Kd.S_drewN | apply Kd.S_drew)); exact (Kd.S_mono (Kd.S_far (p := ⟨gb481, 1, none⟩) (Kd.S_far (p := ⟨gb481, 0, none⟩) (Kd.S_types HO490.out BK481.out Z28) (fun _ hk => hk.2) (.slice Ao11 t485.length co11)) (fun _ hk => hk.2) (.slice Ao15 t488.length co15)) (fun _ h_ => h_.1))) hb)
     have HO497 := Aside0.mk (Kd.R_lower (Kd.R_newM (M := fun k_ => (w.heap.size ≤ k_)) ho21 (below_size (Z12 HB HI484 GE481 GE492)) (fun k_ h_ => h_)) (below_size (Z12 HB HI484 GE481 GE492)))
     replace BK481 := Aside0.mk (blk_below (g := gb481) (o := .cells #[.slice Ao11 t485.length co11, .slice Ao15 t488.length co15] 31 (0, 0)) (Z41 BK481) hb)
     replace BK492 := Aside0.mk (blk_below (g := gb492) (o := .cells #[.slice Ao11 t485.length co11, .slice Ao15 t488.length co15] 31 (0, 0)) (Z22 NB492_481 BK492) hb)
     replace HB := Aside0.mk (below_step (Z12 HB HI484 GE481 GE492) hb)
     replace HI484 := Aside0.mk (IsS104.below (show IsS104 w ((w17.setCell ⟨gb481, 0, none⟩ (.slice Ao11 t485.length co11)).setCell ⟨gb481, 1, none⟩ (.slice Ao15 t488.length co15)) g484 t482 t494 from Z13 HI484 NB484_481 NB484_492) hb)
     clear hb ho21
     refine hK.out _ _ ⟨(blk_cell BK492.out 0).trans rfl, (blk_cell BK492.out 1).trans rfl⟩ (fun hHeld => ?_)
     clear hK K
     refine nr_ ?_
     exact norm_ Z48 (hCont (v496) _ ⟨hHeld, (by (with_reducible repeat (first | apply Kd.V_alloc | apply Kd.V_drewN | apply Kd.V_drew)); exact Kd.V_mono HO487.out (fun _ hk => ⟨hk.1.1.1, ⟨hk.1.1.2.1, ⟨hk.2, ⟨hk.1.1.2.2.1, ⟨hk.1.1.2.2.2, hk.1.2⟩⟩⟩⟩⟩)), (by (with_reducible repeat (first | apply Kd.S_alloc | apply Kd.S_drewN | apply Kd.S_drew)); exact Kd.S_mono HO490.out (fun _ hk => hk.1)), (Z53 HO497), (Z2 BK481), (Z2 BK492), (Z13 HI484 NB484_481 NB484_492), (Z12 HB HI484 GE481 GE492)⟩)
   rintro v496 w22 ⟨hS_, h0_, h1_, h2_, h3_, h4_, h5_, h6_⟩
   have n0_ : Aside0 (Kd.V k84 84 w22 w.heap.size (fun k_ => (w.heap.size ≤ k_) ∧ some k_ ≠ (.slice Ao15 t488.length co15 : Value).ownBlock ∧ some k_ ≠ (v496 : Value).ownBlock ∧ k_ ≠ gb481 ∧ k_ ≠ g484 ∧ k_ ≠ gb492) (.slice Ao11 t485.length co11) t485) := ⟨h0_⟩
   have n1_ : Aside0 (Kd.S (Kd.slice 84 k84) 28 w22 w.heap.size (fun k_ => (w.heap.size ≤ k_)) (.slice Ao15 t488.length co15) t488) := ⟨h1_⟩
   have n2_ : Aside0 (Kd.R k39 39 w22 w.heap.size (fun k_ => (w.heap.size ≤ k_)) v496 y495) := ⟨h2_⟩
   have n3_ : Aside0 (w22.heap[gb481]? = some (.cells #[.slice Ao11 t485.length co11, .slice Ao15 t488.length co15] 31 (0, 0))) := ⟨h3_⟩
   have n4_ : Aside0 (w22.heap[gb492]? = some (.cells #[.slice Ao11 t485.length co11, .slice Ao15 t488.length co15] 31 (0, 0))) := ⟨h4_⟩
   have n5_ : Aside0 (IsS104 w w22 g484 t482 t494) := ⟨h5_⟩
   have n6_ : Aside0 (Below w.heap.size w w22) := ⟨h6_⟩
   clear HO487
   clear HO490
   clear BK481
   clear BK492
   clear HI484
   clear HB
   clear h0_ h1_ h2_ h3_ h4_ h5_ h6_
   have HO487 := n0_
   have HO490 := n1_
   have HO497 := n2_
   have BK481 := n3_
   have BK492 := n4_
   have HI484 := n5_
   have HB := n6_
   clear n0_ n1_ n2_ n3_ n4_ n5_ n6_
   have hHeld : w22.cell? ⟨gb492, 0, none⟩ = some (.slice Ao11 t485.length co11) ∧ w22.cell? ⟨gb492, 1, none⟩ = some (.slice Ao15 t488.length co15) := hS_
   refine norm_ (a' := ?_) ?_ ?_
   rotate_left
   ·simp only [putAll, Act.put, List.setIfInBounds_toArray, List.set_cons_zero, List.set_cons_succ]
    rfl
   refine pure_ (i := 3) (N := some 3) (v := ?_) (a' := ?_) (bB 4 15) rfl rfl Z15 (fun _ _ _ h => h) (Or.inl ⟨Z90, ?_⟩) ?_ ?_
   rotate_left
   ·intro w'
    go_simp
    with_reducible rfl
   rotate_left
   ·simp only [Act.put, List.setIfInBounds_toArray, List.set_cons_zero, List.set_cons_succ, i64_w, i32_w]
    rfl
   refine done_ Z15 ?_
   try go_wp2
   refine bodyPost_ret (results_ct rfl _ _ gb481 31 #[.slice Ao11 t485.length co11, .slice Ao15 t488.length co15] (0, 0) _ rfl (Z2 BK481) Tryz.underlying31 rfl Z15) rfl ?_
   exact ⟨_, _, _, Z11, by (with_reducible repeat (first | apply Kd.V_alloc | apply Kd.V_drewN | apply Kd.V_drew)); exact Kd.V_mono HO487.out (fun _ hk => ⟨hk.1, ⟨hk.2.1, hk.2.2.1⟩⟩), Z42 HO490, Z4 HO497, Z12 HB HI484 GE481 GE492⟩
  ·rw [if_neg c6] at H
   exact absurd H Z33
 ·replace c5 := Bool.eq_false_iff.mpr c5
  subst c5
  have H1 : ((spec_l20Deeds.f k t482 t494 t485).bind fun bt498 => (some (t485, t488, bt498.1))) = some (r1, r2, r3) := Z24
  clear H
  have H := H1
  clear H1
  replace H := Option.bind_eq_some_iff.mp H
  obtain ⟨⟨t498, t501⟩, A230, H⟩ := H
  replace H : (some (t485, t488, t498)) = some (r1, r2, r3) := H
  have A23 := Aside0.mk A230
  clear A230
  simp only [Option.some.injEq, Prod.mk.injEq] at H
  obtain ⟨rfl, rfl, rfl⟩ := H
  go_enter Tryz.func12, Tryz.ntmps12
  try go_wp2_with (first | ((with_reducible refine gate_dst (N := 2) rfl ?_); refine bE_ 2 #[.slice none 0 0, .slice none 0 0] 31 ?_; intro gb481 hg w24 hbox hb; have BK481 := Aside0.mk (hbox); have GW481 := Aside0.mk ((by rw [hg]; exact (below_size (Z0 HB)) : w.heap.size ≤ gb481)); have GE481 := Aside0.mk ((by rw [hg]; exact (below_size (Z0 HB)) : w.heap.size ≤ gb481)); replace HB := Aside0.mk (below_step (Z0 HB) hb); clear hb hbox hg) | ((with_reducible refine gate_callee (f := 38) rfl ?_); refine gL_ 7 Tryz.func38 #[.slice A0 l0.length c0] ?_; (with_reducible refine (spec_l20Open.calls _ _ l0 t482 t483 w _ ?side1 ?side2 ?side3 A2.out).mono ?_); (case side1 => exact Z1 HB GE481); (case side2 => exact HR0.out); (case side3 => exact HC0.out); rintro e w25 ⟨g484, rfl, hi, hb, hb2⟩; refine ⟨_, rfl, ?_⟩; replace HB := Aside0.mk (hb); have HI484 := Aside0.mk (hi); have NB484_481 := Aside0.mk (IsS104.ne_blk hi (blk_below (g := gb481) (o := .cells #[.slice none 0 0, .slice none 0 0] 31 (0, 0)) (Z2 BK481) hb2) Z28); have NB481_484 := Aside0.mk (Ne.symm (IsS104.ne_blk hi (blk_below (g := gb481) (o := .cells #[.slice none 0 0, .slice none 0 0] 31 (0, 0)) (Z2 BK481) hb2) Z28)); replace BK481 := Aside0.mk (blk_below (g := gb481) (o := .cells #[.slice none 0 0, .slice none 0 0] 31 (0, 0)) (Z2 BK481) hb2); (try clear hb); (try clear hb2); (try clear hi)) | ((with_reducible refine gate_callee (f := 46) rfl ?_); refine gL_ 9 Tryz.func46 #[.pointer (some ⟨g484, 0, none⟩), .int .i64 12] ?_; (with_reducible refine (spec_l20Desk.calls k g484 t482 t483 12 t485 t488 t491 w _ ?side1 ?side2 A3.out).mono ?_); (case side1 => exact Z31 HI484 NB484_481); (case side2 => exact Z20 HB HI484 GE481); rintro e w26 ⟨v486, v489, rfl, ho0, ho1, hi, hb, hk⟩; refine ⟨_, rfl, ?_⟩; have HO487 := Aside0.mk (Kd.V_lower (Kd.V_mono (ok' := fun k_ => (w.heap.size ≤ k_) ∧ some k_ ≠ (v489 : Value).ownBlock ∧ k_ ≠ gb481 ∧ k_ ≠ g484) ho0 (fun k_ hk_ => ⟨(Nat.le_trans (below_size (Z20 HB HI484 GE481)) hk_.1), hk_.2, (Kd.freshB (g := gb481) (o := .cells #[.slice none 0 0, .slice none 0 0] 31 (0, 0)) (Z2 BK481) k_ hk_.1), (IsS104.fresh (Z31 HI484 NB484_481) k_ hk_.1)⟩)) (below_size (Z20 HB HI484 GE481))); replace BK481 := Aside0.mk (KeepBut.blk hk (g' := gb481) (o := .cells #[.slice none 0 0, .slice none 0 0] 31 (0, 0)) (Z2 BK481) NB481_484.out Z33); have HO490 := Aside0.mk (Kd.S_lower (Kd.S_newM (M := fun k_ => (w.heap.size ≤ k_)) (Kd.S_mono (ok' := fun k_ => True) ho1 (fun _ hk_ => trivial)) (below_size (Z20 HB HI484 GE481)) (fun k_ h_ => h_)) (below_size (Z20 HB HI484 GE481))); replace HB := Aside0.mk (hb); replace HI484 := Aside0.mk (hi); (try clear hb); (try clear hb2); (try clear hk); (try clear hi); (try clear ho0); (try clear ho1)) | ((with_reducible refine gate_dst (N := 5) rfl ?_); refine bE_ 5 #[.slice none 0 0, .slice none 0 0] 31 ?_; intro gb492 hg w27 hbox hb; replace HO487 := Aside0.mk (Kd.V_below (Kd.V_elderB (Z25 HO487) gb492 (Nat.le_of_eq hg.symm)) hb); replace HO490 := Aside0.mk (Kd.S_below (Z42 HO490) hb); have BK492 := Aside0.mk (hbox); have GW492 := Aside0.mk ((by rw [hg]; exact (below_size (Z20 HB HI484 GE481)) : w.heap.size ≤ gb492)); have GE492 := Aside0.mk ((by rw [hg]; exact (below_size (Z20 HB HI484 GE481)) : w.heap.size ≤ gb492)); replace HB := Aside0.mk (below_step (Z20 HB HI484 GE481) hb); have NB481_492 := Aside0.mk ((by rw [hg]; exact Nat.ne_of_lt (blk_lt (g := gb481) (o := .cells #[.slice none 0 0, .slice none 0 0] 31 (0, 0)) (Z2 BK481)) : gb481 ≠ gb492)); have NB492_481 := Aside0.mk ((by rw [hg]; exact Nat.ne_of_gt (blk_lt (g := gb481) (o := .cells #[.slice none 0 0, .slice none 0 0] 31 (0, 0)) (Z2 BK481)) : gb492 ≠ gb481)); replace BK481 := Aside0.mk (blk_below (g := gb481) (o := .cells #[.slice none 0 0, .slice none 0 0] 31 (0, 0)) (Z2 BK481) hb); have NB484_492 := Aside0.mk ((by rw [hg]; exact Nat.ne_of_lt (IsS104.lt (show IsS104 w _ g484 t482 t491 from Z31 HI484 NB484_481)) : g484 ≠ gb492)); have NB492_484 := Aside0.mk ((by rw [hg]; exact Nat.ne_of_gt (IsS104.lt (show IsS104 w _ g484 t482 t491 from Z31 HI484 NB484_481)) : gb492 ≠ g484)); replace HI484 := Aside0.mk (IsS104.below (Z31 HI484 NB484_481) hb); clear hb hbox hg; obtain ⟨Ao28, co28, eo28⟩ := Kd.V_slice HO487.out; subst eo28; have hnb29 := NB492_481.out; have hnc29 := NB481_492.out; have hnb30 := NB492_484.out; have hnc30 := NB484_492.out; have hcz31_0 : w27.cell? ⟨gb492, 0, none⟩ = some (.slice none 0 0) := (blk_cell BK492.out 0).trans rfl; have hcz31_1 : w27.cell? ⟨gb492, 1, none⟩ = some (.slice none 0 0) := (blk_cell BK492.out 1).trans rfl; have hfz31_0 := blk_frozen BK492.out 0; have hfz31_1 := blk_frozen BK492.out 1; obtain ⟨Ao32, co32, eo32⟩ := Kd.S_slice HO490.out; subst eo32) | ((with_reducible refine gate_callee (f := 47) rfl ?_); refine gL_ 11 Tryz.func47 #[.pointer (some ⟨g484, 0, none⟩), .int .i64 30] ?_; (with_reducible refine (spec_l20Rd_odd.calls k g484 t482 t491 30 false t494 w _ ?side1 ?side2 A4.out).mono ?_); (case side1 => exact Z13 HI484 NB484_481 NB484_492); (case side2 => exact Z12 HB HI484 GE481 GE492); rintro e w33 ⟨rfl, hi, hb, hk⟩; refine ⟨_, rfl, ?_⟩; replace BK481 := Aside0.mk (KeepBut.blk hk (g' := gb481) (o := .cells #[.slice none 0 0, .slice none 0 0] 31 (0, 0)) (Z22 NB481_492 BK481) NB481_484.out Z33); replace HO487 := Aside0.mk (Kd.V_mono (Kd.V_keep (Kd.V_mono (ok := fun k_ => ((((w.heap.size ≤ k_)) ∧ (some k_ ≠ (.slice Ao32 t488.length co32 : Value).ownBlock ∧ (k_ ≠ gb481 ∧ k_ ≠ g484))) ∧ k_ ≠ gb492)) (by (with_reducible repeat (first | apply Kd.V_alloc | apply Kd.V_drewN | apply Kd.V_drew)); exact (Kd.V_mono (Kd.V_far (p := ⟨gb492, 1, none⟩) (Kd.V_far (p := ⟨gb492, 0, none⟩) (Kd.V_mono HO487.out (fun k_ hk => (⟨hk, hk.2⟩ : _ ∧ k_ ≠ gb492))) (fun _ hk => hk.2) (.slice Ao28 t485.length co28)) (fun _ hk => hk.2) (.slice Ao32 t488.length co32)) (fun _ h_ => h_.1))) (fun k_ hk_ => (⟨hk_, hk_.1.2.2.2⟩ : _ ∧ k_ ≠ g484))) hk (fun _ h => h.2)) (fun _ h => h.1)); replace HO490 := Aside0.mk (Kd.S_mono (Kd.S_keep (IsS104.apartS (show IsS104 w _ g484 t482 t491 from Z13 HI484 NB484_481 NB484_492) (by (with_reducible repeat (first | apply Kd.S_alloc | apply Kd.S_drewN | apply Kd.S_drew)); exact (Kd.S_mono (Kd.S_far (p := ⟨gb492, 1, none⟩) (Kd.S_far (p := ⟨gb492, 0, none⟩) (Kd.S_types HO490.out BK492.out Z28) (fun _ hk => hk.2) (.slice Ao28 t485.length co28)) (fun _ hk => hk.2) (.slice Ao32 t488.length co32)) (fun _ h_ => h_.1))) Z28) hk (fun _ h => h.2)) (fun _ h => h.1)); replace BK492 := Aside0.mk (KeepBut.blk hk (g' := gb492) (o := .cells #[.slice Ao28 t485.length co28, .slice Ao32 t488.length co32] 31 (0, 0)) (Z59 BK492) NB492_484.out Z33); replace HB := Aside0.mk (hb); replace HI484 := Aside0.mk (hi); (try clear hb); (try clear hk); (try clear hi)))
  replace HO487 := Aside0.mk (Kd.V_drew HO487.out)
  replace HO490 := Aside0.mk (Kd.S_drew HO490.out)
  replace BK481 := Aside0.mk (blk_drew BK481.out)
  replace BK492 := Aside0.mk (blk_drew BK492.out)
  replace HI484 := Aside0.mk (IsS104.drew HI484.out)
  replace HB := Aside0.mk (below_drew1 HB.out)
  refine start_ (n := 7) (S := fun w' => w'.cell? ⟨gb492, 0, none⟩ = some (.slice Ao28 t485.length co28) ∧ w'.cell? ⟨gb492, 1, none⟩ = some (.slice Ao32 t488.length co32)) (ds := []) (bB 7 0) Z15 rfl Z15 ⟨(blk_cell BK492.out 0).trans rfl, (blk_cell BK492.out 1).trans rfl⟩ (fun hHeld => ?_)
  generalize w33.drew = w34 at HO487 HO490 BK481 BK492 HI484 HB hHeld ⊢
  refine pure_ (i := 1) (N := some 15) (v := ?_) (a' := ?_) (bB 7 2) rfl rfl Z15 (fun _ _ _ h => h) (Or.inl ⟨Z90, ?_⟩) ?_ ?_
  rotate_left
  ·intro w'
   go_simp
   with_reducible rfl
  rotate_left
  ·simp only [Act.put, List.setIfInBounds_toArray, List.set_cons_zero, List.set_cons_succ, i64_w, i32_w]
   rfl
  refine pure_ (i := 2) (N := some 16) (v := ?_) (a' := ?_) (bB 7 6) rfl rfl Z15 (fun _ _ _ h => h) (Or.inl ⟨Z90, ?_⟩) ?_ ?_
  rotate_left
  ·intro w'
   go_simp
   with_reducible rfl
  rotate_left
  ·simp only [Act.put, List.setIfInBounds_toArray, List.set_cons_zero, List.set_cons_succ, i64_w, i32_w]
   rfl
  refine take_ (i := 0) (N := some 14) (v := ?_) (a' := ?_) (bB 7 7) rfl rfl Z15 (fun _ _ _ h => h) (Or.inl ⟨Z90, ?_⟩) hHeld ?_ ?_
  rotate_left
  ·rintro w' ⟨s0, s1⟩
   go_simp
   with_reducible rfl
  rotate_left
  ·simp only [Act.put, List.setIfInBounds_toArray, List.set_cons_zero, List.set_cons_succ, i64_w, i32_w]
   rfl
  refine take_ (i := 3) (N := some 17) (v := ?_) (a' := ?_) (bB 7 15) rfl rfl Z15 (fun _ _ _ h => h) (Or.inl ⟨Z90, ?_⟩) hHeld ?_ ?_
  rotate_left
  ·rintro w' ⟨s0, s1⟩
   go_simp
   with_reducible rfl
  rotate_left
  ·simp only [Act.put, List.setIfInBounds_toArray, List.set_cons_zero, List.set_cons_succ, i64_w, i32_w]
   rfl
  refine one_ (i := 4) (N := some 18) (bB 7 31) rfl rfl Z15 Z28 (fun K hK => ?_)
  refine goes_ Tryz.func48 Z15 rfl #[.pointer (some ⟨g484, 0, none⟩), .slice Ao28 t485.length co28] Z90 rfl rfl Z23 ?_
  with_reducible refine (spec_l20Deeds.calls k g484 t482 t494 _ _ t485 t498 t501 w _ ?side1 ?side2 ?side3 ?side4 A23.out).mono ?_
  (case side1 => exact Z13 HI484 NB484_481 NB484_492)
  (case side2 => exact Z12 HB HI484 GE481 GE492)
  (case side3 => exact Kd.C_foot_ownV (e := 84) (base := 0) (Kd.V_mono (ok := fun k_ => ((((w.heap.size ≤ k_)) ∧ (some k_ ≠ (.slice Ao32 t488.length co32 : Value).ownBlock ∧ (k_ ≠ gb481 ∧ k_ ≠ g484))) ∧ k_ ≠ gb492)) (Z25 HO487) (fun k_ hk_ => (⟨hk_, hk_.1.2.2.2⟩ : _ ∧ k_ ≠ g484))) (fun _ h_ => h_.2))
  (case side4 => exact (Kd.V_reads' HO487.out).2.1)
  rintro e w35 ⟨v499, rfl, ho0, hi, hb, hk⟩
  refine ⟨_, rfl, ?_⟩
  replace BK481 := Aside0.mk (KeepBut.blk hk (g' := gb481) (o := .cells #[.slice none 0 0, .slice none 0 0] 31 (0, 0)) (Z2 BK481) NB481_484.out Z33)
  replace HO487 := Aside0.mk (Kd.V_mono (Kd.V_told (Kd.V_oldK (Kd.V_mono (ok := fun k_ => ((((w.heap.size ≤ k_)) ∧ (some k_ ≠ (.slice Ao32 t488.length co32 : Value).ownBlock ∧ (k_ ≠ gb481 ∧ k_ ≠ g484))) ∧ k_ ≠ gb492)) (Z25 HO487) (fun k_ hk_ => (⟨hk_, hk_.1.2.2.2⟩ : _ ∧ k_ ≠ g484))) hk) (Kd.R_base ho0)) (fun _ h_ => h_.1))
  replace HO490 := Aside0.mk (Kd.S_mono (Kd.S_keep (IsS104.apartS (show IsS104 w _ g484 t482 t494 from Z13 HI484 NB484_481 NB484_492) (Z42 HO490) Z28) hk (fun _ h => h.2)) (fun _ h => h.1))
  replace BK492 := Aside0.mk (KeepBut.blk hk (g' := gb492) (o := .cells #[.slice Ao28 t485.length co28, .slice Ao32 t488.length co32] 31 (0, 0)) (Z2 BK492) NB492_484.out Z33)
  have HO500 := Aside0.mk (Kd.R_lower (Kd.R_newM (M := fun k_ => (w.heap.size ≤ k_)) ho0 (below_size (Z12 HB HI484 GE481 GE492)) (fun k_ h_ => h_)) (below_size (Z12 HB HI484 GE481 GE492)))
  replace HB := Aside0.mk (hb)
  replace HI484 := Aside0.mk (hi)
  (try clear hb)
  (try clear hb2)
  (try clear hk)
  (try clear hi)
  (try clear ho0)
  refine hK.out _ _ ⟨(blk_cell BK492.out 0).trans rfl, (blk_cell BK492.out 1).trans rfl⟩ (fun hHeld => ?_)
  clear hK K
  refine nr_ ?_
  refine one_ (i := 5) (N := none) (bB 7 63) rfl rfl Z15 Z28 (fun K hK => ?_)
  have hs36 : w35.cell? ⟨gb481, 0, none⟩ = some (.slice none 0 0) := (blk_cell BK481.out 0).trans rfl
  have hfs36 := blk_frozen BK481.out 0
  have hns36_1 := NB492_481.out
  have hms36_1 := NB481_492.out
  have hs37 : w35.cell? ⟨gb481, 1, none⟩ = some (.slice none 0 0) := (blk_cell BK481.out 1).trans rfl
  have hfs37 := blk_frozen BK481.out 1
  have hns37_1 := NB492_481.out
  have hms37_1 := NB481_492.out
  refine skip_ (w1 := ?_) Z90 rfl ?_ ?_
  rotate_left
  ·go_simp
   rfl
  refine hK.out _ _ ⟨((cell_far (p := ⟨gb481, _, none⟩) NB492_481.out _).trans (((cell_far (p := ⟨gb481, _, none⟩) NB492_481.out _).trans (hHeld.1)))), ((cell_far (p := ⟨gb481, _, none⟩) NB492_481.out _).trans (((cell_far (p := ⟨gb481, _, none⟩) NB492_481.out _).trans (hHeld.2))))⟩ (fun hHeld => ?_)
  clear hK K
  refine pure_ (i := 6) (N := some 3) (v := ?_) (a' := ?_) (bB 7 127) rfl rfl Z15 (fun _ _ _ h => h) (Or.inl ⟨Z90, ?_⟩) ?_ ?_
  rotate_left
  ·intro w'
   go_simp
   with_reducible rfl
  rotate_left
  ·simp only [Act.put, List.setIfInBounds_toArray, List.set_cons_zero, List.set_cons_succ, i64_w, i32_w]
   rfl
  refine done_ Z15 ?_
  try go_wp2
  refine bodyPost_ret (results_ct rfl _ _ gb481 31 #[.slice Ao28 t485.length co28, .slice Ao32 t488.length co32] (0, 0) _ rfl (Z59 BK481) Tryz.underlying31 rfl Z15) rfl ?_
  exact ⟨_, _, _, Z11, by (with_reducible repeat (first | apply Kd.V_alloc | apply Kd.V_drewN | apply Kd.V_drew)); exact Kd.V_mono (Kd.V_far (p := ⟨gb481, 1, none⟩) (Kd.V_far (p := ⟨gb481, 0, none⟩) (Kd.V_mono HO487.out (fun k_ hk => (⟨hk, hk.1.1.2.2.1⟩ : _ ∧ k_ ≠ gb481))) (fun _ hk => hk.2) (.slice Ao28 t485.length co28)) (fun _ hk => hk.2) (.slice Ao32 t488.length co32)) (fun _ hk => ⟨hk.1.1.1.1, ⟨hk.1.1.1.2.1, hk.1.2⟩⟩), by (with_reducible repeat (first | apply Kd.S_alloc | apply Kd.S_drewN | apply Kd.S_drew)); exact Kd.S_mono (Kd.S_far (p := ⟨gb481, 1, none⟩) (Kd.S_far (p := ⟨gb481, 0, none⟩) (Kd.S_types HO490.out BK481.out Z28) (fun _ hk => hk.2) (.slice Ao28 t485.length co28)) (fun _ hk => hk.2) (.slice Ao32 t488.length co32)) (fun _ hk => hk.1.1), by (with_reducible repeat (first | apply Kd.R_alloc | apply Kd.R_drewN | apply Kd.R_drew)); exact Kd.R_mono (Kd.R_far (p := ⟨gb481, 1, none⟩) (Kd.R_far (p := ⟨gb481, 0, none⟩) (Kd.R_types HO500.out BK481.out Z28) (fun _ hk => hk.2) (.slice Ao28 t485.length co28)) (fun _ hk => hk.2) (.slice Ao32 t488.length co32)) (fun _ hk => hk.1.1), Z12 HB HI484 GE481 GE492⟩

/-! ### impl_CustomersOk: function 55 -/
mutual
def impl_CustomersOk.l0 : Nat → List (S84) → List (S84) → Int → Int → Option (Bool)
  | 0, _, _, _, _ => none
  | k + 1, x0, x5, x6, x7 => if x7 < x6 then (if 0 ≤ x7 then (if x7 < (x5.length : Int) then (if ((rd_T84 x5 x7).f0) < 0 then (impl_CustomersOk.j1 k x0 x5 x6 x7 true) else (if ((rd_T84 x5 x7).f0) > 60 then (impl_CustomersOk.j1 k x0 x5 x6 x7 true) else (if x7 > 0 then (if 0 ≤ (wrap64 (x7 - 1)) then (if (wrap64 (x7 - 1)) < (x0.length : Int) then (if ((rd_T84 x5 x7).f0) < ((rd_T84 x0 (wrap64 (x7 - 1))).f0) then (impl_CustomersOk.j1 k x0 x5 x6 x7 true) else (if ((rd_T84 x5 x7).f1) < 1 then (impl_CustomersOk.j1 k x0 x5 x6 x7 true) else (impl_CustomersOk.j1 k x0 x5 x6 x7 (decide (((rd_T84 x5 x7).f1) > 9))))) else (none)) else (none)) else (if ((rd_T84 x5 x7).f1) < 1 then (impl_CustomersOk.j1 k x0 x5 x6 x7 true) else (impl_CustomersOk.j1 k x0 x5 x6 x7 (decide (((rd_T84 x5 x7).f1) > 9))))))) else (none)) else (none)) else (some (decide ((x0.length : Int) ≤ 8)))
def impl_CustomersOk.j1 : Nat → List (S84) → List (S84) → Int → Int → Bool → Option (Bool)
  | 0, _, _, _, _, _ => none
  | k + 1, x0, x5, x6, x7, x44 => if x44 = true then (some false) else (impl_CustomersOk.l0 k x0 x5 x6 (wrap64 (x7 + 1)))
end
def impl_CustomersOk.f (k : Nat) (l0 : List (S84)) : Option (Bool) := impl_CustomersOk.l0 k l0 l0 (l0.length : Int) 0
theorem impl_CustomersOk.mono_l : ∀ k, (∀ y0 y1 y2 y3, LeO (impl_CustomersOk.l0 k y0 y1 y2 y3) (impl_CustomersOk.l0 (k + 1) y0 y1 y2 y3)) ∧ (∀ y0 y1 y2 y3 y4, LeO (impl_CustomersOk.j1 k y0 y1 y2 y3 y4) (impl_CustomersOk.j1 (k + 1) y0 y1 y2 y3 y4))
 | 0 => ⟨fun _ _ _ _ r h => by simp [impl_CustomersOk.l0] at h, fun _ _ _ _ _ r h => by simp [impl_CustomersOk.j1] at h⟩
 | k + 1 => by
  obtain ⟨ih0, ih1⟩ := impl_CustomersOk.mono_l k
  refine ⟨?_, ?_⟩
  ·intro y0 y1 y2 y3
   unfold impl_CustomersOk.l0
   repeat' first
   | (with_reducible exact ih0 _ _ _ _)
   | (with_reducible exact ih1 _ _ _ _ _)
   | (with_reducible exact LeO.refl _)
   | (with_reducible exact LeO.none _)
   | (with_reducible refine LeO.ite ?_ ?_)
   | (with_reducible refine LeO.bind ?_ (fun _ => ?_))
   | exact ih0 _ _ _ _
   | exact ih1 _ _ _ _ _
   | exact LeO.none _
   | refine LeO.ite ?_ ?_
   | refine LeO.bind ?_ (fun _ => ?_)
  ·intro y0 y1 y2 y3 y4
   unfold impl_CustomersOk.j1
   repeat' first
   | (with_reducible exact ih0 _ _ _ _)
   | (with_reducible exact ih1 _ _ _ _ _)
   | (with_reducible exact LeO.refl _)
   | (with_reducible exact LeO.none _)
   | (with_reducible refine LeO.ite ?_ ?_)
   | (with_reducible refine LeO.bind ?_ (fun _ => ?_))
   | exact ih0 _ _ _ _
   | exact ih1 _ _ _ _ _
   | exact LeO.none _
   | refine LeO.ite ?_ ?_
   | refine LeO.bind ?_ (fun _ => ?_)
theorem impl_CustomersOk.mono : ∀ a0 k, LeO (impl_CustomersOk.f k a0) (impl_CustomersOk.f (k + 1) a0) := by
 intro a0 k
 obtain ⟨ih0, ih1⟩ := impl_CustomersOk.mono_l k
 unfold impl_CustomersOk.f
 repeat' first
  | (with_reducible exact ih0 _ _ _ _)
  | (with_reducible exact ih1 _ _ _ _ _)
  | (with_reducible exact LeO.refl _)
  | (with_reducible exact LeO.none _)
  | (with_reducible refine LeO.ite ?_ ?_)
  | (with_reducible refine LeO.bind ?_ (fun _ => ?_))
  | exact ih0 _ _ _ _
  | exact ih1 _ _ _ _ _
  | exact LeO.none _
  | refine LeO.ite ?_ ?_
  | refine LeO.bind ?_ (fun _ => ?_)
set_option maxHeartbeats 8000000 in
set_option maxRecDepth 100000 in
theorem impl_CustomersOk.calls (k : Nat) (A0 : Option Addr) (c0 : Nat) (l0 : List (S84)) (r : Bool) (w : World) (hr0 : Kd.C k84 w A0 l0.length l0) (hc0 : l0.length ≤ c0) (h : impl_CustomersOk.f k l0 = some r) :
 Calls Tryz.prog 55 #[.slice A0 l0.length c0] w fun e w' => e = .returned (.bool r) ∧ Below w.heap.size w w' := by
 have hu84 := Tryz.underlying84
 have HR0 := Aside0.mk hr0
 have HC0 := Aside0.mk hc0
 clear hr0 hc0
 have HB := Aside0.mk (Below.refl w.heap.size w)
 have H : (impl_CustomersOk.l0 k l0 l0 (l0.length : Int) 0) = some r := h
 clear h
 have H' := Aside0.mk H
 clear H
 go_enter Tryz.func55, Tryz.ntmps55
 go_wp2
 repeat (go_quiet (fail); try go_wp2)
 go_loopg [7] k (fun kq v7 w' => ∃ (x7_1 : Int), v7 = .int .i64 x7_1 ∧ Aside0 (impl_CustomersOk.l0 kq l0 l0 (l0.length : Int) x7_1 = some r) ∧ Aside0 (kq ≤ k) ∧ Aside0 (Below w.heap.size w w'))
 case atStart => exact ⟨(0), Z14, H', ⟨Nat.le_refl _⟩, ⟨Z0 HB⟩⟩
 case round =>
  clear H'
  obtain ⟨x7_1, rfl, HA, HK1, HB⟩ := hrel
  cases gk with
  | zero => exact absurd HA.out (by simp [impl_CustomersOk.l0])
  | succ k1 =>
   have H := HA.out
   clear HA
   simp only [impl_CustomersOk.l0] at H
   by_cases c2 : x7_1 < (l0.length : Int)
   ·rw [if_pos c2] at H
    have c2b0 : decide (x7_1 < (l0.length : Int)) = true := decide_eq_true c2
    clear c2
    by_cases c3 : 0 ≤ x7_1
    ·rw [if_pos c3] at H
     have c3b0 : decide (0 ≤ x7_1) = true := decide_eq_true c3
     clear c3
     by_cases c4 : x7_1 < (l0.length : Int)
     ·rw [if_pos c4] at H
      have c4b0 : decide (x7_1 < (l0.length : Int)) = true := decide_eq_true c4
      clear c4
      have HC5 := Aside0.mk H
      clear H
      have p502 : 0 ≤ (x7_1 : Int) := of_decide_eq_true Z10
      have q502 : x7_1 < (l0.length : Int) := of_decide_eq_true Z10
      obtain ⟨ad502, e502, hx502_0, hx502_1⟩ := at_T84 HR0.out x7_1 p502 q502
      cases e502
      replace hx502_0 := (HB.out.cell (World.block_lt_of_cell? w _ hx502_0)).trans hx502_0
      replace hx502_1 := (HB.out.cell (World.block_lt_of_cell? w _ hx502_1)).trans hx502_1
      replace p502 := eq_true p502
      replace q502 := eq_true q502
      go_upto_region 4 with (first | ((with_reducible refine gate_dst (N := 4) rfl ?_); refine bE_ 4 #[.int .i64 0, .int .i64 0] 84 ?_; intro gb503 hg w6 hbox hb; have BK503 := Aside0.mk (hbox); have GW503 := Aside0.mk ((by rw [hg]; exact (below_size (Z0 HB)) : w.heap.size ≤ gb503)); have GE503 := Aside0.mk ((by rw [hg]; exact (below_size (Z0 HB)) : w.heap.size ≤ gb503)); replace HB := Aside0.mk (below_step (Z0 HB) hb); clear hb hbox hg; have hcz7_0 : w6.cell? ⟨gb503, 0, none⟩ = some (.int .i64 0) := (blk_cell BK503.out 0).trans rfl; have hcz7_1 : w6.cell? ⟨gb503, 1, none⟩ = some (.int .i64 0) := (blk_cell BK503.out 1).trans rfl; have hfz7_0 := blk_frozen BK503.out 0; have hfz7_1 := blk_frozen BK503.out 1))
      repeat (go_quiet (first | ((with_reducible refine gate_dst (N := 4) rfl ?_); refine bE_ 4 #[.int .i64 0, .int .i64 0] 84 ?_; intro gb503 hg w6 hbox hb; have BK503 := Aside0.mk (hbox); have GW503 := Aside0.mk ((by rw [hg]; exact (below_size (Z0 HB)) : w.heap.size ≤ gb503)); have GE503 := Aside0.mk ((by rw [hg]; exact (below_size (Z0 HB)) : w.heap.size ≤ gb503)); replace HB := Aside0.mk (below_step (Z0 HB) hb); clear hb hbox hg; have hcz7_0 : w6.cell? ⟨gb503, 0, none⟩ = some (.int .i64 0) := (blk_cell BK503.out 0).trans rfl; have hcz7_1 : w6.cell? ⟨gb503, 1, none⟩ = some (.int .i64 0) := (blk_cell BK503.out 1).trans rfl; have hfz7_0 := blk_frozen BK503.out 0; have hfz7_1 := blk_frozen BK503.out 1)); go_upto_region 4 with (first | ((with_reducible refine gate_dst (N := 4) rfl ?_); refine box_event ?hg (N := 4) ?hd (cs := #[.int .i64 0, .int .i64 0]) (t := 84) ?hr ?_; (case hd => exact Z90); (case hg => exact Z90); (case hr => exact Z29); intro gb503 hg w6 hbox hb; have n0_ := Aside0.mk (below_step (Z0 HB) hb); have n1_ := Aside0.mk (hbox); have n2_ := Aside0.mk ((by rw [hg]; exact (below_size (Z0 HB)) : w.heap.size ≤ gb503)); have n3_ := Aside0.mk ((by rw [hg]; exact (below_size (Z0 HB)) : w.heap.size ≤ gb503)); clear HB; have HB := n0_; have BK503 := n1_; have GW503 := n2_; have GE503 := n3_; clear n0_ n1_ n2_ n3_; clear hb hbox hg; have hcz7_0 : w6.cell? ⟨gb503, 0, none⟩ = some (.int .i64 0) := (blk_cell BK503.out 0).trans rfl; have hcz7_1 : w6.cell? ⟨gb503, 1, none⟩ = some (.int .i64 0) := (blk_cell BK503.out 1).trans rfl; have hfz7_0 := blk_frozen BK503.out 0; have hfz7_1 := blk_frozen BK503.out 1)))
      (try simp only [Act.put, List.setIfInBounds_toArray, List.set_cons_zero, List.set_cons_succ])
      go_cut [44] (fun v44 wc => ∃ (kq : Nat) (x44_4 : Bool), v44 = .bool x44_4 ∧ Aside0 (impl_CustomersOk.j1 kq l0 l0 (l0.length : Int) x7_1 x44_4 = some r) ∧ Aside0 (kq ≤ k1) ∧ Aside0 (wc.heap[gb503]? = some (.cells #[.int .i64 ((rd_T84 l0 x7_1).f0), .int .i64 ((rd_T84 l0 x7_1).f1)] 84 (0, 0))) ∧ Aside0 (Below w.heap.size w wc))
      case first =>
       have H := HC5.out
       clear HC5
       by_cases c8 : ((rd_T84 l0 x7_1).f0) < 0
       ·rw [if_pos c8] at H
        have c8b0 : decide (((rd_T84 l0 x7_1).f0) < 0) = true := decide_eq_true c8
        clear c8
        (first | rw [c8b0] | (simp only [i64_w, i32_w]; rw [c8b0]) | skip)
        have H' := Aside0.mk H
        clear H
        have hcz9_0 : w6.cell? ⟨gb503, 0, none⟩ = some (.int .i64 0) := (blk_cell BK503.out 0).trans rfl
        have hcz9_1 : w6.cell? ⟨gb503, 1, none⟩ = some (.int .i64 0) := (blk_cell BK503.out 1).trans rfl
        have hfz9_0 := blk_frozen BK503.out 0
        have hfz9_1 := blk_frozen BK503.out 1
        go_wp2
        repeat (go_quiet (fail); try go_wp2)
        go_meet
        case rel => exact ⟨_, (true), Z14, H', ⟨Z50 HK1⟩, ⟨Z21 BK503⟩, ⟨Z1 HB GE503⟩⟩
       ·rw [if_neg c8] at H
        have c8b0 : decide (((rd_T84 l0 x7_1).f0) < 0) = false := decide_eq_false c8
        clear c8
        (first | rw [c8b0] | (simp only [i64_w, i32_w]; rw [c8b0]) | skip)
        by_cases c10 : ((rd_T84 l0 x7_1).f0) > 60
        ·rw [if_pos c10] at H
         have c10b0 : decide (60 < ((rd_T84 l0 x7_1).f0)) = true := decide_eq_true c10
         clear c10
         have H' := Aside0.mk H
         clear H
         have hcz11_0 : w6.cell? ⟨gb503, 0, none⟩ = some (.int .i64 0) := (blk_cell BK503.out 0).trans rfl
         have hcz11_1 : w6.cell? ⟨gb503, 1, none⟩ = some (.int .i64 0) := (blk_cell BK503.out 1).trans rfl
         have hfz11_0 := blk_frozen BK503.out 0
         have hfz11_1 := blk_frozen BK503.out 1
         go_wp2
         repeat (go_quiet (fail); try go_wp2)
         go_meet
         case rel => exact ⟨_, (true), Z14, H', ⟨Z50 HK1⟩, ⟨Z21 BK503⟩, ⟨Z1 HB GE503⟩⟩
        ·rw [if_neg c10] at H
         have c10b0 : decide (60 < ((rd_T84 l0 x7_1).f0)) = false := decide_eq_false c10
         clear c10
         by_cases c12 : x7_1 > 0
         ·rw [if_pos c12] at H
          have c12b0 : decide (0 < x7_1) = true := decide_eq_true c12
          clear c12
          obtain ⟨ji13, hji13⟩ : ∃ j_ : Int, (wrap64 (x7_1 - 1)) = j_ := ⟨_, rfl⟩
          replace H : (if 0 ≤ (ji13) then (if (ji13) < (l0.length : Int) then (if ((rd_T84 l0 x7_1).f0) < ((rd_T84 l0 (ji13)).f0) then (impl_CustomersOk.j1 k1 l0 l0 (l0.length : Int) x7_1 true) else (if ((rd_T84 l0 x7_1).f1) < 1 then (impl_CustomersOk.j1 k1 l0 l0 (l0.length : Int) x7_1 true) else (impl_CustomersOk.j1 k1 l0 l0 (l0.length : Int) x7_1 (decide (((rd_T84 l0 x7_1).f1) > 9))))) else (none)) else (none)) = some r := Z54 hji13
          have hji13w : (IntKind.i64.wrap (x7_1 - 1)) = ji13 := (i64_w _).trans hji13
          by_cases c14 : 0 ≤ (ji13)
          ·rw [if_pos c14] at H
           have c14b0 : decide (0 ≤ (ji13)) = true := decide_eq_true c14
           clear c14
           by_cases c15 : (ji13) < (l0.length : Int)
           ·rw [if_pos c15] at H
            have c15b0 : decide ((ji13) < (l0.length : Int)) = true := decide_eq_true c15
            clear c15
            by_cases c16 : ((rd_T84 l0 x7_1).f0) < ((rd_T84 l0 (ji13)).f0)
            ·rw [if_pos c16] at H
             have c16b0 : decide (((rd_T84 l0 x7_1).f0) < ((rd_T84 l0 (ji13)).f0)) = true := decide_eq_true c16
             clear c16
             have H' := Aside0.mk H
             clear H
             have hcz17_0 : w6.cell? ⟨gb503, 0, none⟩ = some (.int .i64 0) := (blk_cell BK503.out 0).trans rfl
             have hcz17_1 : w6.cell? ⟨gb503, 1, none⟩ = some (.int .i64 0) := (blk_cell BK503.out 1).trans rfl
             have hfz17_0 := blk_frozen BK503.out 0
             have hfz17_1 := blk_frozen BK503.out 1
             have p504 : 0 ≤ ((ji13) : Int) := of_decide_eq_true Z10
             have q504 : (ji13) < (l0.length : Int) := of_decide_eq_true Z10
             obtain ⟨ad504, e504, hx504_0, hx504_1⟩ := at_T84 HR0.out (ji13) p504 q504
             obtain rfl : ad502 = ad504 := (by injection e504)
             have hn504_0 : ad502.block ≠ gb503 := Nat.ne_of_lt (Nat.lt_of_lt_of_le (Z63 hx504_0) GW503.out)
             have hn504_1 : ad502.block ≠ gb503 := Nat.ne_of_lt (Nat.lt_of_lt_of_le (Z63 hx504_0) GW503.out)
             replace hx504_0 := (HB.out.cell (World.block_lt_of_cell? w _ hx504_0)).trans hx504_0
             replace hx504_1 := (HB.out.cell (World.block_lt_of_cell? w _ hx504_1)).trans hx504_1
             replace hx504_0 := (cell_far (p := ⟨gb503, 0, none⟩) (Z34 hn504_0) (.int .i64 ((rd_T84 l0 x7_1).f0))).trans hx504_0
             replace hx504_1 := (cell_far (p := ⟨gb503, 0, none⟩) (Z34 hn504_0) (.int .i64 ((rd_T84 l0 x7_1).f0))).trans hx504_1
             replace hx504_0 := (cell_far (p := ⟨gb503, 1, none⟩) (Z34 hn504_1) (.int .i64 ((rd_T84 l0 x7_1).f1))).trans hx504_0
             replace hx504_1 := (cell_far (p := ⟨gb503, 1, none⟩) (Z34 hn504_1) (.int .i64 ((rd_T84 l0 x7_1).f1))).trans hx504_1
             (try have hy504_0 := fun (n_ : Nat) => (show ((((w6.drewN n_).setCell ⟨gb503, 0, none⟩ (.int .i64 ((rd_T84 l0 x7_1).f0))).setCell ⟨gb503, 1, none⟩ (.int .i64 ((rd_T84 l0 x7_1).f1)))).cell? _ = some _ from hx504_0))
             (try have hy504_1 := fun (n_ : Nat) => (show ((((w6.drewN n_).setCell ⟨gb503, 0, none⟩ (.int .i64 ((rd_T84 l0 x7_1).f0))).setCell ⟨gb503, 1, none⟩ (.int .i64 ((rd_T84 l0 x7_1).f1)))).cell? _ = some _ from hx504_1))
             clear hn504_0
             clear hn504_1
             replace p504 := eq_true p504
             replace q504 := eq_true q504
             go_wp2
             repeat (go_quiet (fail); try go_wp2)
             go_meet
             case rel => exact ⟨_, (true), Z14, H', ⟨Z50 HK1⟩, ⟨Z21 BK503⟩, ⟨Z1 HB GE503⟩⟩
            ·rw [if_neg c16] at H
             have c16b0 : decide (((rd_T84 l0 x7_1).f0) < ((rd_T84 l0 (ji13)).f0)) = false := decide_eq_false c16
             clear c16
             by_cases c18 : ((rd_T84 l0 x7_1).f1) < 1
             ·rw [if_pos c18] at H
              have c18b0 : decide (((rd_T84 l0 x7_1).f1) < 1) = true := decide_eq_true c18
              clear c18
              have H' := Aside0.mk H
              clear H
              have hcz19_0 : w6.cell? ⟨gb503, 0, none⟩ = some (.int .i64 0) := (blk_cell BK503.out 0).trans rfl
              have hcz19_1 : w6.cell? ⟨gb503, 1, none⟩ = some (.int .i64 0) := (blk_cell BK503.out 1).trans rfl
              have hfz19_0 := blk_frozen BK503.out 0
              have hfz19_1 := blk_frozen BK503.out 1
              have p504 : 0 ≤ ((ji13) : Int) := of_decide_eq_true Z10
              have q504 : (ji13) < (l0.length : Int) := of_decide_eq_true Z10
              obtain ⟨ad504, e504, hx504_0, hx504_1⟩ := at_T84 HR0.out (ji13) p504 q504
              obtain rfl : ad502 = ad504 := (by injection e504)
              have hn504_0 : ad502.block ≠ gb503 := Nat.ne_of_lt (Nat.lt_of_lt_of_le (Z63 hx504_0) GW503.out)
              have hn504_1 : ad502.block ≠ gb503 := Nat.ne_of_lt (Nat.lt_of_lt_of_le (Z63 hx504_0) GW503.out)
              replace hx504_0 := (HB.out.cell (World.block_lt_of_cell? w _ hx504_0)).trans hx504_0
              replace hx504_1 := (HB.out.cell (World.block_lt_of_cell? w _ hx504_1)).trans hx504_1
              replace hx504_0 := (cell_far (p := ⟨gb503, 0, none⟩) (Z34 hn504_0) (.int .i64 ((rd_T84 l0 x7_1).f0))).trans hx504_0
              replace hx504_1 := (cell_far (p := ⟨gb503, 0, none⟩) (Z34 hn504_0) (.int .i64 ((rd_T84 l0 x7_1).f0))).trans hx504_1
              replace hx504_0 := (cell_far (p := ⟨gb503, 1, none⟩) (Z34 hn504_1) (.int .i64 ((rd_T84 l0 x7_1).f1))).trans hx504_0
              replace hx504_1 := (cell_far (p := ⟨gb503, 1, none⟩) (Z34 hn504_1) (.int .i64 ((rd_T84 l0 x7_1).f1))).trans hx504_1
              (try have hy504_0 := fun (n_ : Nat) => (show ((((w6.drewN n_).setCell ⟨gb503, 0, none⟩ (.int .i64 ((rd_T84 l0 x7_1).f0))).setCell ⟨gb503, 1, none⟩ (.int .i64 ((rd_T84 l0 x7_1).f1)))).cell? _ = some _ from hx504_0))
              (try have hy504_1 := fun (n_ : Nat) => (show ((((w6.drewN n_).setCell ⟨gb503, 0, none⟩ (.int .i64 ((rd_T84 l0 x7_1).f0))).setCell ⟨gb503, 1, none⟩ (.int .i64 ((rd_T84 l0 x7_1).f1)))).cell? _ = some _ from hx504_1))
              clear hn504_0
              clear hn504_1
              replace p504 := eq_true p504
              replace q504 := eq_true q504
              go_wp2
              repeat (go_quiet (fail); try go_wp2)
              go_meet
              case rel => exact ⟨_, (true), Z14, H', ⟨Z50 HK1⟩, ⟨Z21 BK503⟩, ⟨Z1 HB GE503⟩⟩
             ·rw [if_neg c18] at H
              have c18b0 : decide (((rd_T84 l0 x7_1).f1) < 1) = false := decide_eq_false c18
              clear c18
              have H' := Aside0.mk H
              clear H
              have hcz20_0 : w6.cell? ⟨gb503, 0, none⟩ = some (.int .i64 0) := (blk_cell BK503.out 0).trans rfl
              have hcz20_1 : w6.cell? ⟨gb503, 1, none⟩ = some (.int .i64 0) := (blk_cell BK503.out 1).trans rfl
              have hfz20_0 := blk_frozen BK503.out 0
              have hfz20_1 := blk_frozen BK503.out 1
              have p504 : 0 ≤ ((ji13) : Int) := of_decide_eq_true Z10
              have q504 : (ji13) < (l0.length : Int) := of_decide_eq_true Z10
              obtain ⟨ad504, e504, hx504_0, hx504_1⟩ := at_T84 HR0.out (ji13) p504 q504
              obtain rfl : ad502 = ad504 := (by injection e504)
              have hn504_0 : ad502.block ≠ gb503 := Nat.ne_of_lt (Nat.lt_of_lt_of_le (Z63 hx504_0) GW503.out)
              have hn504_1 : ad502.block ≠ gb503 := Nat.ne_of_lt (Nat.lt_of_lt_of_le (Z63 hx504_0) GW503.out)
              replace hx504_0 := (HB.out.cell (World.block_lt_of_cell? w _ hx504_0)).trans hx504_0
              replace hx504_1 := (HB.out.cell (World.block_lt_of_cell? w _ hx504_1)).trans hx504_1
              replace hx504_0 := (cell_far (p := ⟨gb503, 0, none⟩) (Z34 hn504_0) (.int .i64 ((rd_T84 l0 x7_1).f0))).trans hx504_0
              replace hx504_1 := (cell_far (p := ⟨gb503, 0, none⟩) (Z34 hn504_0) (.int .i64 ((rd_T84 l0 x7_1).f0))).trans hx504_1
              replace hx504_0 := (cell_far (p := ⟨gb503, 1, none⟩) (Z34 hn504_1) (.int .i64 ((rd_T84 l0 x7_1).f1))).trans hx504_0
              replace hx504_1 := (cell_far (p := ⟨gb503, 1, none⟩) (Z34 hn504_1) (.int .i64 ((rd_T84 l0 x7_1).f1))).trans hx504_1
              (try have hy504_0 := fun (n_ : Nat) => (show ((((w6.drewN n_).setCell ⟨gb503, 0, none⟩ (.int .i64 ((rd_T84 l0 x7_1).f0))).setCell ⟨gb503, 1, none⟩ (.int .i64 ((rd_T84 l0 x7_1).f1)))).cell? _ = some _ from hx504_0))
              (try have hy504_1 := fun (n_ : Nat) => (show ((((w6.drewN n_).setCell ⟨gb503, 0, none⟩ (.int .i64 ((rd_T84 l0 x7_1).f0))).setCell ⟨gb503, 1, none⟩ (.int .i64 ((rd_T84 l0 x7_1).f1)))).cell? _ = some _ from hx504_1))
              clear hn504_0
              clear hn504_1
              replace p504 := eq_true p504
              replace q504 := eq_true q504
              go_wp2
              repeat (go_quiet (fail); try go_wp2)
              go_meet
              case rel => exact ⟨_, (decide (((rd_T84 l0 x7_1).f1) > 9)), Z14, H', ⟨Z50 HK1⟩, ⟨Z21 BK503⟩, ⟨Z1 HB GE503⟩⟩
           ·rw [if_neg c15] at H
            exact absurd H Z33
          ·rw [if_neg c14] at H
           exact absurd H Z33
         ·rw [if_neg c12] at H
          have c12b0 : decide (0 < x7_1) = false := decide_eq_false c12
          clear c12
          by_cases c21 : ((rd_T84 l0 x7_1).f1) < 1
          ·rw [if_pos c21] at H
           have c21b0 : decide (((rd_T84 l0 x7_1).f1) < 1) = true := decide_eq_true c21
           clear c21
           have H' := Aside0.mk H
           clear H
           have hcz22_0 : w6.cell? ⟨gb503, 0, none⟩ = some (.int .i64 0) := (blk_cell BK503.out 0).trans rfl
           have hcz22_1 : w6.cell? ⟨gb503, 1, none⟩ = some (.int .i64 0) := (blk_cell BK503.out 1).trans rfl
           have hfz22_0 := blk_frozen BK503.out 0
           have hfz22_1 := blk_frozen BK503.out 1
           go_wp2
           repeat (go_quiet (fail); try go_wp2)
           go_meet
           case rel => exact ⟨_, (true), Z14, H', ⟨Z50 HK1⟩, ⟨Z21 BK503⟩, ⟨Z1 HB GE503⟩⟩
          ·rw [if_neg c21] at H
           have c21b0 : decide (((rd_T84 l0 x7_1).f1) < 1) = false := decide_eq_false c21
           clear c21
           have H' := Aside0.mk H
           clear H
           have hcz23_0 : w6.cell? ⟨gb503, 0, none⟩ = some (.int .i64 0) := (blk_cell BK503.out 0).trans rfl
           have hcz23_1 : w6.cell? ⟨gb503, 1, none⟩ = some (.int .i64 0) := (blk_cell BK503.out 1).trans rfl
           have hfz23_0 := blk_frozen BK503.out 0
           have hfz23_1 := blk_frozen BK503.out 1
           go_wp2
           repeat (go_quiet (fail); try go_wp2)
           go_meet
           case rel => exact ⟨_, (decide (((rd_T84 l0 x7_1).f1) > 9)), Z14, H', ⟨Z50 HK1⟩, ⟨Z21 BK503⟩, ⟨Z1 HB GE503⟩⟩
      case rest =>
       clear HC5
       try clear c1
       try clear c2
       try clear c2b0
       try clear p2
       try clear c3
       try clear c3b0
       try clear c4
       try clear c4b0
       try clear c5
       try clear p5
       try clear q5
       try clear hx5
       try clear p6
       try clear c8
       try clear c8b0
       try clear c10
       try clear c10b0
       try clear c12
       try clear c12b0
       try clear c14
       try clear c14b0
       try clear c15
       try clear c15b0
       try clear c16
       try clear c16b0
       try clear c18
       try clear c18b0
       try clear c21
       try clear c21b0
       try clear hcz11_0
       try clear hcz11_1
       try clear hcz17_0
       try clear hcz17_1
       try clear hcz19_0
       try clear hcz19_1
       try clear hcz20_0
       try clear hcz20_1
       try clear hcz22_0
       try clear hcz22_1
       try clear hcz23_0
       try clear hcz23_1
       try clear hcz7_0
       try clear hcz7_1
       try clear hcz9_0
       try clear hcz9_1
       try clear hfz11_0
       try clear hfz11_1
       try clear hfz17_0
       try clear hfz17_1
       try clear hfz19_0
       try clear hfz19_1
       try clear hfz20_0
       try clear hfz20_1
       try clear hfz22_0
       try clear hfz22_1
       try clear hfz23_0
       try clear hfz23_1
       try clear hfz7_0
       try clear hfz7_1
       try clear hfz9_0
       try clear hfz9_1
       try clear hx502_0
       try clear hx502_1
       try clear hx504_0
       try clear hx504_1
       try clear p502
       try clear p504
       try clear q502
       try clear q504
       obtain ⟨kq, x44_4, rfl, HA, HJ4, BK503, HB⟩ := hcut
       cases kq with
       | zero => exact absurd HA.out (by simp [impl_CustomersOk.j1])
       | succ kj4 =>
        have H := HA.out
        clear HA
        simp only [impl_CustomersOk.j1] at H
        by_cases c24 : x44_4 = true
        ·subst c24
         have H1 : (some false) = some r := Z37
         clear H
         have H := H1
         clear H1
         obtain rfl := Option.some.inj H
         go_wp2
         repeat (go_quiet (fail); try go_wp2)
         go_ret
         exact ⟨Z11, Z1 HB GE503⟩
        ·replace c24 := Bool.eq_false_iff.mpr c24
         subst c24
         have H1 : (impl_CustomersOk.l0 kj4 l0 l0 (l0.length : Int) (wrap64 (x7_1 + 1))) = some r := Z24
         clear H
         have H := H1
         clear H1
         have H' := Aside0.mk H
         clear H
         go_wp2
         repeat (go_quiet (fail); try go_wp2)
         go_roundg kj4
         case measure => have := HK1.out; have := HJ4.out; omega
         case rel => exact ⟨(wrap64 (x7_1 + 1)), Z14, H', ⟨Z69 HK1 HJ4⟩, ⟨Z1 HB GE503⟩⟩
     ·rw [if_neg c4] at H
      exact absurd H Z33
    ·rw [if_neg c3] at H
     exact absurd H Z33
   ·rw [if_neg c2] at H
    have c2b0 : decide (x7_1 < (l0.length : Int)) = false := decide_eq_false c2
    clear c2
    obtain rfl := Option.some.inj H
    go_wp2
    repeat (go_quiet (fail); try go_wp2)
    go_ret
    exact ⟨Z11, Z0 HB⟩

end Go.Proofs.YtmmoojkhlkjdkaaGreatDoor.PFnReadJournal
