-- Printed by this claim's own program; Lean checks it.
import Derived.Test.YtmmoojkhlkjdkaaGreatDoorPFnReadJournalx0
import Derived.Test.YtmmoojkhlkjdkaaGreatDoorPFnReadJournalx3
import Derived.Test.YtmmoojkhlkjdkaaGreatDoorPFnReadJournalx12
namespace Go.Proofs.YtmmoojkhlkjdkaaGreatDoor.PFnReadJournal
open Go.RowKit Go.Proofs.YtmmoojkhlkjdkaaGreatDoorW.PrintWords Go.Proofs.YtmmoojkhlkjdkaaGreatDoorW.PrintLast Go.Proofs.YtmmoojkhlkjdkaaGreatDoorW.PrintMore
attribute [local go_sem] max2_int min2_int max_two min_two max_three min_three max_four min_four   -- for this text's walks alone
set_option linter.unusedVariables false
set_option linter.unusedSimpArgs false

/-! ### spec_LaterBy: function 140 -/
def spec_LaterBy.l0 : Nat → List (S84) → Int → List (S84) → Int → Option ((List (S84)) × Bool)
  | 0, _, _, _, _ => none
  | k + 1, x0, x1, x6, x7 => if x7 < (x0.length : Int) then (if 0 ≤ x7 then (if x6.length < 8796093022208 then (spec_LaterBy.l0 k x0 x1 (x6 ++ [(⟨wrap64 (((rd_T84 x0 x7).f0) + x1), (rd_T84 x0 x7).f1⟩ : S84)]) (wrap64 (x7 + 1))) else (none)) else (none)) else ((spec_CustomersOk.f k x0).bind fun t366 => (if t366 = true then ((spec_CustomersOk.f k x6).bind fun t367 => (if t367 = true then ((spec_l1In.f x1 0 60).bind fun t368 => (if t368 = true then (some (x6, true)) else (some ((([] : List (S84))), false)))) else (some ((([] : List (S84))), false)))) else (some ((([] : List (S84))), false))))
def spec_LaterBy.f (k : Nat) (l0 : List (S84)) (a1 : Int) : Option ((List (S84)) × Bool) := spec_LaterBy.l0 k l0 a1 (([] : List (S84))) 0
def spec_LaterBy.T5 : Bool × List (List Nat × List Nat) := (true, [([], []), ([], []), ([], []), ([1, 2], [1, 2]), ([3], [3]), ([4], [4]), ([], []), ([5, 6], [5, 6]), ([], []), ([], []), ([8, 9], [8, 9]), ([10], [10]), ([11], [11]), ([7, 12], [7, 12]), ([13], [13]), ([0, 14], [0, 14]), ([15, 15, 0, 1, 2, 3, 4, 5, 6, 7, 8, 9, 10, 11, 12, 13, 14, 15], [0, 15])])
def spec_LaterBy.B5 : List Nat := [0, 0, 0, 6, 14, 30, 0, 126, 0, 0, 768, 1792, 3840, 8190, 16382, 32767, 65535]
theorem spec_LaterBy.tab5 : rtab .any (opsOf Tryz.f140 5) = spec_LaterBy.T5 := by kernel_rfl
theorem spec_LaterBy.bits5 : waitsOk spec_LaterBy.T5.2 spec_LaterBy.B5 = true := by kernel_rfl
set_option maxHeartbeats 8000000 in
set_option maxRecDepth 100000 in
theorem spec_LaterBy.calls (k : Nat) (A0 : Option Addr) (c0 : Nat) (l0 : List (S84)) (a1 : Int) (r1 : List (S84)) (r2 : Bool) (w : World) (hr0 : Kd.C k84 w A0 l0.length l0) (hc0 : l0.length ≤ c0) (h : spec_LaterBy.f k l0 a1 = some (r1, r2)) :
 Calls Tryz.prog 140 #[.slice A0 l0.length c0, .int .i64 a1] w fun e w' => ∃ v0_ : Value, e = .returned (.tuple #[v0_, .bool r2]) ∧ Kd.R k84 84 w' w.heap.size (fun _ => True) v0_ r1 ∧ Below w.heap.size w w' := by
 have hu84 := Tryz.underlying84
 have HR0 := Aside0.mk hr0
 have HC0 := Aside0.mk hc0
 clear hr0 hc0
 have HB := Aside0.mk (Below.refl w.heap.size w)
 have H : (spec_LaterBy.l0 k l0 a1 (([] : List (S84))) 0) = some (r1, r2) := h
 clear h
 obtain ⟨y358, hy358⟩ : ∃ y_ : List (S84), y_ = (([] : List (S84))) := ⟨_, rfl⟩
 replace H : (spec_LaterBy.l0 k l0 a1 y358 0) = some (r1, r2) := Z5 hy358
 have Ny358 := Aside0.mk hy358
 clear hy358
 have H' := Aside0.mk H
 clear H
 go_enter Tryz.func140, Tryz.ntmps140
 go_wp2_with (first | ((with_reducible refine gate_dst (N := 8) rfl ?_); refine Kd.R_lit k84 _ 84 ?hg (N := 8) ?hd (xs := ([] : List (S84))) (inner := []) (ok := fun _ => True) (okp := fun _ => True) ?hr ?hp (fun _ hk => hk) trivial (Below.refl _ _) (Nat.le_refl _) Z33 ?_; (case hd => exact Z90); (case hg => exact Z90); (case hr => exact Z29); (case hp => exact Z67); intro v359 w3 ho4 hb hg_ hnew_; clear hg_ hnew_; (first | rw [← Ny358.out] at ho4 | (simp only [Int.reduceToNat] at ho4; rw [← Ny358.out] at ho4)); have HO360 := Aside0.mk (Kd.R_lower ho4 (below_size (Z0 HB))); replace HB := Aside0.mk (below_step (Z0 HB) hb); clear hb ho4))
 go_loopg [6, 7] k (fun kq v6 v7 w' => ∃ (x6_1 : List (S84)) (x7_1 : Int), v7 = .int .i64 x7_1 ∧ Aside0 (spec_LaterBy.l0 kq l0 a1 x6_1 x7_1 = some (r1, r2)) ∧ Aside0 (kq ≤ k) ∧ Aside0 (Kd.R k84 84 w' w.heap.size (fun _ => True) v6 x6_1) ∧ Aside0 (Below w.heap.size w w'))
 case atStart => exact ⟨(y358), (0), Z14, H', ⟨Nat.le_refl _⟩, ⟨Z4 HO360⟩, ⟨Z0 HB⟩⟩
 case round =>
  clear H'
  try clear c1
  try clear p2
  obtain ⟨x6_1, x7_1, rfl, HA, HK1, HO_6, HB⟩ := hrel
  cases gk with
  | zero => exact absurd HA.out (by simp [spec_LaterBy.l0])
  | succ k1 =>
   have H := HA.out
   clear HA
   simp only [spec_LaterBy.l0] at H
   by_cases c5 : x7_1 < (l0.length : Int)
   ·rw [if_pos c5] at H
    have c5b0 : decide (x7_1 < (l0.length : Int)) = true := decide_eq_true c5
    clear c5
    by_cases c6 : 0 ≤ x7_1
    ·rw [if_pos c6] at H
     have c6b0 : decide (0 ≤ x7_1) = true := decide_eq_true c6
     clear c6
     by_cases c7 : x6_1.length < 8796093022208
     ·rw [if_pos c7] at H
      have LMc7 := Aside0.mk c7
      clear c7
      obtain ⟨y363, hy363⟩ : ∃ y_ : List (S84), y_ = (x6_1 ++ [(⟨wrap64 (((rd_T84 l0 x7_1).f0) + a1), (rd_T84 l0 x7_1).f1⟩ : S84)]) := ⟨_, rfl⟩
      replace H : (spec_LaterBy.l0 k1 l0 a1 y363 (wrap64 (x7_1 + 1))) = some (r1, r2) := Z5 hy363
      have Ny363 := Aside0.mk hy363
      clear hy363
      have H' := Aside0.mk H
      clear H
      try go_wp2
      replace HO_6 := Aside0.mk (Kd.R_drew HO_6.out)
      replace HB := Aside0.mk (below_drew1 HB.out)
      have p361 : 0 ≤ (x7_1 : Int) := of_decide_eq_true Z10
      have q361 : x7_1 < (l0.length : Int) := of_decide_eq_true Z10
      obtain ⟨ad361, e361, hx361_0, hx361_1⟩ := at_T84 HR0.out x7_1 p361 q361
      have hw361_1 := hx361_1
      have hw361_0 := hx361_0
      cases e361
      replace hx361_0 := (HB.out.cell (World.block_lt_of_cell? w _ hx361_0)).trans hx361_0
      replace hx361_1 := (HB.out.cell (World.block_lt_of_cell? w _ hx361_1)).trans hx361_1
      replace p361 := eq_true p361
      replace q361 := eq_true q361
      have p362 : 0 ≤ (x7_1 : Int) := of_decide_eq_true Z10
      have q362 : x7_1 < (l0.length : Int) := of_decide_eq_true Z10
      obtain ⟨ad362, e362, hx362_0, hx362_1⟩ := at_T84 HR0.out x7_1 p362 q362
      have hw362_1 := hx362_1
      have hw362_0 := hx362_0
      obtain rfl : ad361 = ad362 := (by injection e362)
      replace hx362_0 := (HB.out.cell (World.block_lt_of_cell? w _ hx362_0)).trans hx362_0
      replace hx362_1 := (HB.out.cell (World.block_lt_of_cell? w _ hx362_1)).trans hx362_1
      replace p362 := eq_true p362
      replace q362 := eq_true q362
      refine start_ (n := 17) (S := fun w' => w'.cell? (ad361.add ((x7_1).toNat * 2)) = some (.int .i64 ((rd_T84 l0 x7_1).f0)) ∧ w'.cell? ⟨(ad361.add ((x7_1).toNat * 2)).block, (ad361.add ((x7_1).toNat * 2)).off + 1, none⟩ = some (.int .i64 ((rd_T84 l0 x7_1).f1)) ∧ w'.cell? (ad361.add ((x7_1).toNat * 2)) = some (.int .i64 ((rd_T84 l0 x7_1).f0)) ∧ w'.cell? ⟨(ad361.add ((x7_1).toNat * 2)).block, (ad361.add ((x7_1).toNat * 2)).off + 1, none⟩ = some (.int .i64 ((rd_T84 l0 x7_1).f1))) (ds := []) (bB 17 0) Z15 rfl Z15 ⟨((HB.out.cell (World.block_lt_of_cell? w _ hw361_0)).trans hw361_0), ((HB.out.cell (World.block_lt_of_cell? w _ hw361_1)).trans hw361_1), ((HB.out.cell (World.block_lt_of_cell? w _ hw362_0)).trans hw362_0), ((HB.out.cell (World.block_lt_of_cell? w _ hw362_1)).trans hw362_1)⟩ (fun hHeld => ?_); refine with_tabW spec_LaterBy.tab5 spec_LaterBy.bits5 (fun HT_ HW_ => ?_)
      generalize wr.drew = w8 at HO_6 HB hx361_0 hx361_1 hx362_0 hx362_1 hHeld ⊢
      refine pu_ 0 (some 15) (bB 17 1) ?_
      refine pu_ 1 (some 16) (bB 17 3) ?_
      refine pu_ 2 (some 17) (bB 17 7) ?_
      refine pu_ 3 (some 18) (bB 17 15) ?_
      refine pu_ 4 (some 19) (bB 17 31) ?_
      refine pu_ 6 (some 21) (bB 17 95) ?_
      refine pu_ 8 (some 23) (bB 17 351) ?_
      refine pu_ 9 (some 24) (bB 17 863) ?_
      refine pu_ 10 (some 25) (bB 17 1887) ?_
      refine pu_ 11 (some 26) (bB 17 3935) ?_
      refine take_ (i := 5) (N := some 20) (v := ?_) (a' := ?_) (bB 17 3967) rfl rfl (take_ofW HT_.out HW_.out Z15) (fun _ _ _ h => h) (Or.inl ⟨Z90, ?_⟩) hHeld ?_ ?_
      rotate_left
      ·rintro w' ⟨s0, s1, s2, s3⟩
       go_simp
       with_reducible rfl
      rotate_left
      ·simp only [Act.put, List.setIfInBounds_toArray, List.set_cons_zero, List.set_cons_succ, i64_w, i32_w]
       rfl
      refine pu_ 7 (some 22) (bB 17 4095) ?_
      refine take_ (i := 12) (N := some 27) (v := ?_) (a' := ?_) (bB 17 8191) rfl rfl (take_ofW HT_.out HW_.out Z15) (fun _ _ _ h => h) (Or.inl ⟨Z90, ?_⟩) hHeld ?_ ?_
      rotate_left
      ·rintro w' ⟨s0, s1, s2, s3⟩
       go_simp
       with_reducible rfl
      rotate_left
      ·simp only [Act.put, List.setIfInBounds_toArray, List.set_cons_zero, List.set_cons_succ, i64_w, i32_w]
       rfl
      refine pu_ 13 (some 28) (bB 17 16383) ?_
      refine one_ (i := 14) (N := some 29) (bB 17 32767) rfl rfl (one_of HT_.out Z15) Z28 (fun K hK => ?_)
      refine value_ (w1 := ?_) (v := ?_) Z90 rfl ?_ ?_
      rotate_left 2
      ·go_simp
       constructor
       ·rfl
       ·rfl
      refine hK.out _ _ ⟨(World.cell?_alloc_lt _ _ _ (World.block_lt_of_cell? _ _ (((HB.out.cell (World.block_lt_of_cell? w _ hw361_0)).trans hw361_0)))).trans (((HB.out.cell (World.block_lt_of_cell? w _ hw361_0)).trans hw361_0)), (World.cell?_alloc_lt _ _ _ (World.block_lt_of_cell? _ _ (((HB.out.cell (World.block_lt_of_cell? w _ hw361_1)).trans hw361_1)))).trans (((HB.out.cell (World.block_lt_of_cell? w _ hw361_1)).trans hw361_1)), (World.cell?_alloc_lt _ _ _ (World.block_lt_of_cell? _ _ (((HB.out.cell (World.block_lt_of_cell? w _ hw362_0)).trans hw362_0)))).trans (((HB.out.cell (World.block_lt_of_cell? w _ hw362_0)).trans hw362_0)), (World.cell?_alloc_lt _ _ _ (World.block_lt_of_cell? _ _ (((HB.out.cell (World.block_lt_of_cell? w _ hw362_1)).trans hw362_1)))).trans (((HB.out.cell (World.block_lt_of_cell? w _ hw362_1)).trans hw362_1))⟩ (fun hHeld => ?_)
      clear hK K
      refine nr_ ?_
      refine one_ (i := 15) (N := some 30) (bB 17 65535) rfl rfl (one_of HT_.out Z15) Z28 (fun K hK => ?_)
      refine Kd.R_append_step k84 (w0 := w) w.heap.size Z90 (.tmp 15) (.tmp 29) 28 84 (.agg #[(.int .i64 0), (.int .i64 0)]) 16 rfl Tryz.underlying28 info84 rfl Z28 Z32 u6 x6_1 (⟨wrap64 (((rd_T84 l0 x7_1).f0) + a1), (rd_T84 l0 x7_1).f1⟩ : S84) [.int .i64 (wrap64 (((rd_T84 l0 x7_1).f0) + a1)), .int .i64 ((rd_T84 l0 x7_1).f1)] (fun _ => True) (fun _ => False) rfl rfl ?aP (fun _ hk => hk.elim) ?aF ?aO ?aB ?aS ?aL ?_
      (case aP => exact k84_mkM _ _ _ (⟨wrap64 (((rd_T84 l0 x7_1).f0) + a1), (rd_T84 l0 x7_1).f1⟩ : S84))
      (case aB => exact (Z0 HB))
      (case aF => exact Z77)
      (case aO => exact (Z4 HO_6))
      (case aS => exact (below_size (Z0 HB)))
      (case aL => exact Z35 LMc7)
      intro v364 w9 ho hb hg hat
      rw [← Ny363.out] at ho
      replace HB := Aside0.mk (hb)
      have HO365 := Aside0.mk (ho)
      clear HO_6
      clear ho hb hg hat
      refine hK.out _ _ ⟨((HB.out.cell (World.block_lt_of_cell? w _ hw361_0)).trans hw361_0), ((HB.out.cell (World.block_lt_of_cell? w _ hw361_1)).trans hw361_1), ((HB.out.cell (World.block_lt_of_cell? w _ hw362_0)).trans hw362_0), ((HB.out.cell (World.block_lt_of_cell? w _ hw362_1)).trans hw362_1)⟩ (fun hHeld => ?_)
      clear hK K
      refine nr_ ?_
      refine pu_ 16 (some 6) (bB 17 131071) ?_
      refine done_ (done_of HT_.out Z15) ?_
      try go_wp2
      go_roundg k1
      case measure => have := HK1.out; omega
      case rel => exact ⟨(y363), (wrap64 (x7_1 + 1)), Z14, H', ⟨Z35 HK1⟩, ⟨Z4 HO365⟩, ⟨Z0 HB⟩⟩
     ·rw [if_neg c7] at H
      exact absurd H Z33
    ·rw [if_neg c6] at H
     exact absurd H Z33
   ·rw [if_neg c5] at H
    have c5b0 : decide (x7_1 < (l0.length : Int)) = false := decide_eq_false c5
    clear c5
    replace H := Option.bind_eq_some_iff.mp H
    obtain ⟨t366, A100, H⟩ := H
    replace H : (if t366 = true then ((spec_CustomersOk.f k1 x6_1).bind fun t367 => (if t367 = true then ((spec_l1In.f a1 0 60).bind fun t368 => (if t368 = true then (some (x6_1, true)) else (some ((([] : List (S84))), false)))) else (some ((([] : List (S84))), false)))) else (some ((([] : List (S84))), false))) = some (r1, r2) := H
    have A10 := Aside0.mk A100
    clear A100
    by_cases c11 : t366 = true
    ·subst c11
     have H1 : ((spec_CustomersOk.f k1 x6_1).bind fun t367 => (if t367 = true then ((spec_l1In.f a1 0 60).bind fun t368 => (if t368 = true then (some (x6_1, true)) else (some ((([] : List (S84))), false)))) else (some ((([] : List (S84))), false)))) = some (r1, r2) := Z37
     clear H
     have H := H1
     clear H1
     replace H := Option.bind_eq_some_iff.mp H
     obtain ⟨t367, A120, H⟩ := H
     replace H : (if t367 = true then ((spec_l1In.f a1 0 60).bind fun t368 => (if t368 = true then (some (x6_1, true)) else (some ((([] : List (S84))), false)))) else (some ((([] : List (S84))), false))) = some (r1, r2) := H
     have A12 := Aside0.mk A120
     clear A120
     by_cases c13 : t367 = true
     ·subst c13
      have H1 : ((spec_l1In.f a1 0 60).bind fun t368 => (if t368 = true then (some (x6_1, true)) else (some ((([] : List (S84))), false)))) = some (r1, r2) := Z37
      clear H
      have H := H1
      clear H1
      replace H := Option.bind_eq_some_iff.mp H
      obtain ⟨t368, A140, H⟩ := H
      replace H : (if t368 = true then (some (x6_1, true)) else (some ((([] : List (S84))), false))) = some (r1, r2) := H
      have A14 := Aside0.mk A140
      clear A140
      by_cases c15 : t368 = true
      ·subst c15
       have H1 : (some (x6_1, true)) = some (r1, r2) := Z37
       clear H
       have H := H1
       clear H1
       simp only [Option.some.injEq, Prod.mk.injEq] at H
       obtain ⟨rfl, rfl⟩ := H
       go_wp2_with (first | ((with_reducible refine gate_callee (f := 49) rfl ?_); refine gL_ 32 Tryz.func49 #[.slice A0 l0.length c0] ?_; (with_reducible refine (spec_CustomersOk.calls k1 _ _ l0 true _ ?side1 ?side2 A10.out).mono ?_); (case side1 => exact Z9 HR0 HB); (case side2 => exact HC0.out); rintro e w16 ⟨rfl, hb⟩; refine ⟨_, rfl, ?_⟩; replace HO_6 := Aside0.mk (Kd.R_below (Z4 HO_6) hb); replace HB := Aside0.mk (below_step (Z0 HB) hb); (try clear hb); (try clear hb2); (try clear hk); (try clear hi); obtain ⟨Ao17, co17, eo17⟩ := Kd.R_slice HO_6.out; subst eo17) | (go_at_call 49; (with_reducible refine (spec_CustomersOk.calls k1 _ _ x6_1 true _ ?side1 ?side2 A12.out).mono ?_); (case side1 => exact Z26 HO_6); (case side2 => exact Z74 HO_6); rintro e w18 ⟨rfl, hb⟩; replace HO_6 := Aside0.mk (Kd.R_below (Z4 HO_6) hb); replace HB := Aside0.mk (below_step (Z0 HB) hb); (try clear hb)) | (go_at_call 94; (with_reducible refine (spec_l1In.calls a1 0 60 true _ A14.out).mono ?_); rintro e w' ⟨rfl, ⟨nd, rfl⟩⟩))
       go_ret2
       exact ⟨_, Z11, Z4 HO_6, Z0 HB⟩
      ·replace c15 := Bool.eq_false_iff.mpr c15
       subst c15
       have H1 : (some ((([] : List (S84))), false)) = some (r1, r2) := Z24
       clear H
       have H := H1
       clear H1
       obtain ⟨y369, hy369⟩ : ∃ y_ : List (S84), y_ = (([] : List (S84))) := ⟨_, rfl⟩
       replace H : (some (y369, false)) = some (r1, r2) := Z5 hy369
       have Ny369 := Aside0.mk hy369
       clear hy369
       simp only [Option.some.injEq, Prod.mk.injEq] at H
       obtain ⟨rfl, rfl⟩ := H
       go_wp2_with (first | ((with_reducible refine gate_callee (f := 49) rfl ?_); refine gL_ 32 Tryz.func49 #[.slice A0 l0.length c0] ?_; (with_reducible refine (spec_CustomersOk.calls k1 _ _ l0 true _ ?side1 ?side2 A10.out).mono ?_); (case side1 => exact Z9 HR0 HB); (case side2 => exact HC0.out); rintro e w19 ⟨rfl, hb⟩; refine ⟨_, rfl, ?_⟩; replace HO_6 := Aside0.mk (Kd.R_below (Z4 HO_6) hb); replace HB := Aside0.mk (below_step (Z0 HB) hb); (try clear hb); (try clear hb2); (try clear hk); (try clear hi); obtain ⟨Ao20, co20, eo20⟩ := Kd.R_slice HO_6.out; subst eo20) | (go_at_call 49; (with_reducible refine (spec_CustomersOk.calls k1 _ _ x6_1 true _ ?side1 ?side2 A12.out).mono ?_); (case side1 => exact Z26 HO_6); (case side2 => exact Z74 HO_6); rintro e w21 ⟨rfl, hb⟩; replace HO_6 := Aside0.mk (Kd.R_below (Z4 HO_6) hb); replace HB := Aside0.mk (below_step (Z0 HB) hb); (try clear hb)) | (go_at_call 94; (with_reducible refine (spec_l1In.calls a1 0 60 false _ A14.out).mono ?_); rintro e w' ⟨rfl, ⟨nd, rfl⟩⟩) | ((with_reducible refine gate_dst (N := 44) rfl ?_); refine Kd.R_lit k84 _ 84 ?hg (N := 44) ?hd (xs := ([] : List (S84))) (inner := []) (ok := fun _ => True) (okp := fun _ => True) ?hr ?hp (fun _ hk => hk) trivial (Below.refl _ _) (Nat.le_refl _) Z33 ?_; (case hd => exact Z90); (case hg => exact Z90); (case hr => exact Z29); (case hp => exact Z67); intro v370 w22 ho23 hb hg_ hnew_; clear hg_ hnew_; (first | rw [← Ny369.out] at ho23 | (simp only [Int.reduceToNat] at ho23; rw [← Ny369.out] at ho23)); have HO371 := Aside0.mk (Kd.R_lower (Kd.R_new' ho23 (Kd.R_lt (Z4 HO_6))) (below_size (Z0 HB))); replace HO_6 := Aside0.mk (Kd.R_elder' (Z4 HO_6) (Kd.R_base ho23) hb); replace HB := Aside0.mk (below_step (Z0 HB) hb); clear hb ho23))
       go_ret2
       exact ⟨_, Z11, Z38 HO371, Z0 HB⟩
     ·replace c13 := Bool.eq_false_iff.mpr c13
      subst c13
      have H1 : (some ((([] : List (S84))), false)) = some (r1, r2) := Z24
      clear H
      have H := H1
      clear H1
      obtain ⟨y372, hy372⟩ : ∃ y_ : List (S84), y_ = (([] : List (S84))) := ⟨_, rfl⟩
      replace H : (some (y372, false)) = some (r1, r2) := Z5 hy372
      have Ny372 := Aside0.mk hy372
      clear hy372
      simp only [Option.some.injEq, Prod.mk.injEq] at H
      obtain ⟨rfl, rfl⟩ := H
      go_wp2_with (first | ((with_reducible refine gate_callee (f := 49) rfl ?_); refine gL_ 32 Tryz.func49 #[.slice A0 l0.length c0] ?_; (with_reducible refine (spec_CustomersOk.calls k1 _ _ l0 true _ ?side1 ?side2 A10.out).mono ?_); (case side1 => exact Z9 HR0 HB); (case side2 => exact HC0.out); rintro e w24 ⟨rfl, hb⟩; refine ⟨_, rfl, ?_⟩; replace HO_6 := Aside0.mk (Kd.R_below (Z4 HO_6) hb); replace HB := Aside0.mk (below_step (Z0 HB) hb); (try clear hb); (try clear hb2); (try clear hk); (try clear hi); obtain ⟨Ao25, co25, eo25⟩ := Kd.R_slice HO_6.out; subst eo25) | (go_at_call 49; (with_reducible refine (spec_CustomersOk.calls k1 _ _ x6_1 false _ ?side1 ?side2 A12.out).mono ?_); (case side1 => exact Z26 HO_6); (case side2 => exact Z74 HO_6); rintro e w26 ⟨rfl, hb⟩; replace HO_6 := Aside0.mk (Kd.R_below (Z4 HO_6) hb); replace HB := Aside0.mk (below_step (Z0 HB) hb); (try clear hb)) | ((with_reducible refine gate_dst (N := 44) rfl ?_); refine Kd.R_lit k84 _ 84 ?hg (N := 44) ?hd (xs := ([] : List (S84))) (inner := []) (ok := fun _ => True) (okp := fun _ => True) ?hr ?hp (fun _ hk => hk) trivial (Below.refl _ _) (Nat.le_refl _) Z33 ?_; (case hd => exact Z90); (case hg => exact Z90); (case hr => exact Z29); (case hp => exact Z67); intro v373 w27 ho28 hb hg_ hnew_; clear hg_ hnew_; (first | rw [← Ny372.out] at ho28 | (simp only [Int.reduceToNat] at ho28; rw [← Ny372.out] at ho28)); have HO374 := Aside0.mk (Kd.R_lower (Kd.R_new' ho28 (Kd.R_lt (Z4 HO_6))) (below_size (Z0 HB))); replace HO_6 := Aside0.mk (Kd.R_elder' (Z4 HO_6) (Kd.R_base ho28) hb); replace HB := Aside0.mk (below_step (Z0 HB) hb); clear hb ho28))
      go_ret2
      exact ⟨_, Z11, Z38 HO374, Z0 HB⟩
    ·replace c11 := Bool.eq_false_iff.mpr c11
     subst c11
     have H1 : (some ((([] : List (S84))), false)) = some (r1, r2) := Z24
     clear H
     have H := H1
     clear H1
     obtain ⟨y375, hy375⟩ : ∃ y_ : List (S84), y_ = (([] : List (S84))) := ⟨_, rfl⟩
     replace H : (some (y375, false)) = some (r1, r2) := Z5 hy375
     have Ny375 := Aside0.mk hy375
     clear hy375
     simp only [Option.some.injEq, Prod.mk.injEq] at H
     obtain ⟨rfl, rfl⟩ := H
     go_wp2_with (first | ((with_reducible refine gate_callee (f := 49) rfl ?_); refine gL_ 32 Tryz.func49 #[.slice A0 l0.length c0] ?_; (with_reducible refine (spec_CustomersOk.calls k1 _ _ l0 false _ ?side1 ?side2 A10.out).mono ?_); (case side1 => exact Z9 HR0 HB); (case side2 => exact HC0.out); rintro e w29 ⟨rfl, hb⟩; refine ⟨_, rfl, ?_⟩; replace HO_6 := Aside0.mk (Kd.R_below (Z4 HO_6) hb); replace HB := Aside0.mk (below_step (Z0 HB) hb); (try clear hb)) | ((with_reducible refine gate_dst (N := 44) rfl ?_); refine Kd.R_lit k84 _ 84 ?hg (N := 44) ?hd (xs := ([] : List (S84))) (inner := []) (ok := fun _ => True) (okp := fun _ => True) ?hr ?hp (fun _ hk => hk) trivial (Below.refl _ _) (Nat.le_refl _) Z33 ?_; (case hd => exact Z90); (case hg => exact Z90); (case hr => exact Z29); (case hp => exact Z67); intro v376 w30 ho31 hb hg_ hnew_; clear hg_ hnew_; (first | rw [← Ny375.out] at ho31 | (simp only [Int.reduceToNat] at ho31; rw [← Ny375.out] at ho31)); have HO377 := Aside0.mk (Kd.R_lower (Kd.R_new' ho31 (Kd.R_lt (Z4 HO_6))) (below_size (Z0 HB))); replace HO_6 := Aside0.mk (Kd.R_elder' (Z4 HO_6) (Kd.R_base ho31) hb); replace HB := Aside0.mk (below_step (Z0 HB) hb); clear hb ho31))
     go_ret2
     exact ⟨_, Z11, Z38 HO377, Z0 HB⟩

end Go.Proofs.YtmmoojkhlkjdkaaGreatDoor.PFnReadJournal
