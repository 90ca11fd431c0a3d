-- Printed by this claim's own program; Lean checks it.
import Derived.Test.YtmmoojkhlkjdkaaGreatDoorPFnReadJournalx0
import Derived.Test.YtmmoojkhlkjdkaaGreatDoorPFnReadJournalx1
import Derived.Test.YtmmoojkhlkjdkaaGreatDoorPFnReadJournalx12
import Derived.Test.YtmmoojkhlkjdkaaGreatDoorPFnReadJournalx14
import Derived.Test.YtmmoojkhlkjdkaaGreatDoorPFnReadJournalx15
namespace Go.Proofs.YtmmoojkhlkjdkaaGreatDoor.PFnReadJournal
open Go.RowKit Go.Proofs.YtmmoojkhlkjdkaaGreatDoorW.PrintWords Go.Proofs.YtmmoojkhlkjdkaaGreatDoorW.PrintLast Go.Proofs.YtmmoojkhlkjdkaaGreatDoorW.PrintMore
attribute [local go_sem] max2_int min2_int max_two min_two max_three min_three max_four min_four   -- for this text's walks alone
set_option linter.unusedVariables false
set_option linter.unusedSimpArgs false

attribute [local go_sem high] eqA39
/-! ### spec_l12Made: function 115 -/
mutual
def spec_l12Made.j0 : Nat → List (S84) → Bool → Int → Int → Int → Option ((List (S84)) × Bool)
  | 0, _, _, _, _, _ => none
  | k + 1, x0, x24, x379000, x379001, x379002 => if x24 = true then ((some (([] : List (S84)) : List (S84))).bind fun y392 => (if 0 ≤ (wrap64 ((x0.length : Int) - 1)) then (if (wrap64 ((x0.length : Int) - 1)) ≤ (x0.length : Int) then ((some (x0.take ((wrap64 ((x0.length : Int) - 1)) : Int).toNat : List (S84))).bind fun y395 => (if y392.length + y395.length < 8796093022208 then (some ((y392 ++ y395), true)) else (none))) else (none)) else (none))) else (if x379000 = 2 then (spec_l12Made.j1 k x0 (x379002 == 0) x379000 x379001 x379002) else (spec_l12Made.j1 k x0 false x379000 x379001 x379002))
def spec_l12Made.j1 : Nat → List (S84) → Bool → Int → Int → Int → Option ((List (S84)) × Bool)
  | 0, _, _, _, _, _ => none
  | k + 1, x0, x40, x379000, x379001, x379002 => if x40 = true then ((spec_NeedingMore.f k x0 x379001).bind fun bt403 => (some (bt403.1, bt403.2))) else (if x379000 = 3 then (if x379002 = 0 then (if x379001 > 0 then (if (x0.length : Int) > 0 then ((spec_LaterBy.f k x0 x379001).bind fun bt407 => (some (bt407.1, bt407.2))) else (some (x0, false))) else (some (x0, false))) else (some (x0, false))) else (some (x0, false)))
end
def spec_l12Made.f (k : Nat) (l0 : List (S84)) (a1_0 : Int) (a1_1 : Int) (a1_2 : Int) : Option ((List (S84)) × Bool) := if a1_0 = 0 then ((some (([] : List (S84)) : List (S84))).bind fun y379 => (if y379.length + l0.length < 8796093022208 then ((some (y379 ++ l0 : List (S84))).bind fun y382 => ((some (([(⟨a1_1, a1_2⟩ : S84)] : List (S84)) : List (S84))).bind fun y385 => (if y382.length + y385.length < 8796093022208 then ((some (y382 ++ y385 : List (S84))).bind fun y388 => ((spec_CustomersOk.f k y388).bind fun t391 => (some (y388, t391)))) else (none)))) else (none))) else (if (a1_0 == 1 && (a1_1 == 0 && (a1_2 == 0))) = true then (spec_l12Made.j0 k l0 (decide ((l0.length : Int) > 0)) a1_0 a1_1 a1_2) else (spec_l12Made.j0 k l0 false a1_0 a1_1 a1_2))
def spec_l12Made.T2 : Bool × List (List Nat × List Nat) := (true, [([], []), ([], []), ([0, 1], [0, 1]), ([], []), ([3], [3]), ([], []), ([5], [5]), ([4, 6], [4, 6]), ([7], [7]), ([2, 8, 2], [2, 8]), ([9, 9, 0, 1, 2, 3, 4, 5, 6, 7, 8, 9], [9])])
def spec_l12Made.B2 : List Nat := [0, 0, 3, 0, 8, 0, 32, 120, 248, 511, 1023]
theorem spec_l12Made.tab2 : rtab .any (opsOf Tryz.f115 2) = spec_l12Made.T2 := by kernel_rfl
theorem spec_l12Made.bits2 : waitsOk spec_l12Made.T2.2 spec_l12Made.B2 = true := by kernel_rfl
set_option maxHeartbeats 8000000 in
set_option maxRecDepth 100000 in
theorem spec_l12Made.calls (k : Nat) (P0_ : Nat → Prop) (A0 : Option Addr) (c0 : Nat) (l0 : List (S84)) (a1_0 : Int) (a1_1 : Int) (a1_2 : Int) (r1 : List (S84)) (r2 : Bool) (w : World) (hs0 : Kd.V k84 84 w w.heap.size (fun k_ => P0_ k_) (.slice A0 l0.length c0) l0) (h : spec_l12Made.f k l0 a1_0 a1_1 a1_2 = some (r1, r2)) :
 Calls Tryz.prog 115 #[.slice A0 l0.length c0, .agg #[.int .i64 a1_0, .int .i64 a1_1, .int .i64 a1_2]] w fun e w' => ∃ v0_ : Value, e = .returned (.tuple #[v0_, .bool r2]) ∧ Kd.V k84 84 w' w.heap.size (fun k_ => (P0_ k_ ∨ w.heap.size ≤ k_)) v0_ r1 ∧ Below w.heap.size w w' := by
 have hu39 := Tryz.underlying39
 have hu84 := Tryz.underlying84
 have HO0 := Aside0.mk (show Kd.V k84 84 w w.heap.size (fun k_ => (P0_ k_ ∨ w.heap.size ≤ k_)) (.slice A0 l0.length c0) l0 from Kd.V_mono hs0 (fun k_ hk => .inl hk))
 have HB := Aside0.mk (Below.refl w.heap.size w)
 have H : (if a1_0 = 0 then ((some (([] : List (S84)) : List (S84))).bind fun y379 => (if y379.length + l0.length < 8796093022208 then ((some (y379 ++ l0 : List (S84))).bind fun y382 => ((some (([(⟨a1_1, a1_2⟩ : S84)] : List (S84)) : List (S84))).bind fun y385 => (if y382.length + y385.length < 8796093022208 then ((some (y382 ++ y385 : List (S84))).bind fun y388 => ((spec_CustomersOk.f k y388).bind fun t391 => (some (y388, t391)))) else (none)))) else (none))) else (if (a1_0 == 1 && (a1_1 == 0 && (a1_2 == 0))) = true then (spec_l12Made.j0 k l0 (decide ((l0.length : Int) > 0)) a1_0 a1_1 a1_2) else (spec_l12Made.j0 k l0 false a1_0 a1_1 a1_2))) = some (r1, r2) := h
 clear h
 by_cases c3 : a1_0 = 0
 ·rw [if_pos c3] at H
  have c3b0 : (a1_0 == 0) = true := beq_iff_eq.mpr c3
  have c3b1 : (a1_0 != 0) = false := bne_eq_false_iff_eq.mpr c3
  clear c3
  obtain ⟨y379, hy379⟩ : ∃ y_ : List (S84), y_ = (([] : List (S84))) := ⟨_, rfl⟩
  replace H : (if y379.length + l0.length < 8796093022208 then ((some (y379 ++ l0 : List (S84))).bind fun y382 => ((some (([(⟨a1_1, a1_2⟩ : S84)] : List (S84)) : List (S84))).bind fun y385 => (if y382.length + y385.length < 8796093022208 then ((some (y382 ++ y385 : List (S84))).bind fun y388 => ((spec_CustomersOk.f k y388).bind fun t391 => (some (y388, t391)))) else (none)))) else (none)) = some (r1, r2) := Z5 hy379
  have Ny379 := Aside0.mk hy379
  clear hy379
  by_cases c4 : y379.length + l0.length < 8796093022208
  ·rw [if_pos c4] at H
   have LMc4 := Aside0.mk c4
   clear c4
   obtain ⟨y382, hy382⟩ : ∃ y_ : List (S84), y_ = (y379 ++ l0) := ⟨_, rfl⟩
   replace H : ((some (([(⟨a1_1, a1_2⟩ : S84)] : List (S84)) : List (S84))).bind fun y385 => (if y382.length + y385.length < 8796093022208 then ((some (y382 ++ y385 : List (S84))).bind fun y388 => ((spec_CustomersOk.f k y388).bind fun t391 => (some (y388, t391)))) else (none))) = some (r1, r2) := Z5 hy382
   have Ny382 := Aside0.mk hy382
   clear hy382
   obtain ⟨y385, hy385⟩ : ∃ y_ : List (S84), y_ = (([(⟨a1_1, a1_2⟩ : S84)] : List (S84))) := ⟨_, rfl⟩
   replace H : (if y382.length + y385.length < 8796093022208 then ((some (y382 ++ y385 : List (S84))).bind fun y388 => ((spec_CustomersOk.f k y388).bind fun t391 => (some (y388, t391)))) else (none)) = some (r1, r2) := Z5 hy385
   have Ny385 := Aside0.mk hy385
   clear hy385
   by_cases c5 : y382.length + y385.length < 8796093022208
   ·rw [if_pos c5] at H
    have LMc5 := Aside0.mk c5
    clear c5
    obtain ⟨y388, hy388⟩ : ∃ y_ : List (S84), y_ = (y382 ++ y385) := ⟨_, rfl⟩
    replace H : ((spec_CustomersOk.f k y388).bind fun t391 => (some (y388, t391))) = some (r1, r2) := Z5 hy388
    have Ny388 := Aside0.mk hy388
    clear hy388
    replace H := Option.bind_eq_some_iff.mp H
    obtain ⟨t391, A60, H⟩ := H
    replace H : (some (y388, t391)) = some (r1, r2) := H
    have A6 := Aside0.mk A60
    clear A60
    simp only [Option.some.injEq, Prod.mk.injEq] at H
    obtain ⟨rfl, rfl⟩ := H
    go_enter Tryz.func115, Tryz.ntmps115
    try go_wp2_with (first | ((with_reducible refine gate_dst (N := 3) rfl ?_); (try (refine gate_guard Z90 ?_; dsimp only)); refine bE_ 3 #[.int .i64 a1_0, .int .i64 a1_1, .int .i64 a1_2] 39 ?_; intro gb378 hg w7 hbox hb; replace HO0 := Aside0.mk (Kd.V_below (Kd.V_elderB (Z25 HO0) gb378 (Nat.le_of_eq hg.symm)) hb); have BK378 := Aside0.mk (hbox); have GW378 := Aside0.mk ((by rw [hg]; exact (below_size (Z0 HB)) : w.heap.size ≤ gb378)); have GE378 := Aside0.mk ((by rw [hg]; exact (below_size (Z0 HB)) : w.heap.size ≤ gb378)); replace HB := Aside0.mk (below_step (Z0 HB) hb); clear hb hbox hg; have hcz8_0 : w7.cell? ⟨gb378, 0, none⟩ = some (.int .i64 a1_0) := (blk_cell BK378.out 0).trans rfl; have hcz8_1 : w7.cell? ⟨gb378, 1, none⟩ = some (.int .i64 a1_1) := (blk_cell BK378.out 1).trans rfl; have hcz8_2 : w7.cell? ⟨gb378, 2, none⟩ = some (.int .i64 a1_2) := (blk_cell BK378.out 2).trans rfl; have hfz8_0 := blk_frozen BK378.out 0; have hfz8_1 := blk_frozen BK378.out 1; have hfz8_2 := blk_frozen BK378.out 2))
    replace HO0 := Aside0.mk (Kd.V_drew HO0.out)
    replace BK378 := Aside0.mk (blk_drew BK378.out)
    replace HB := Aside0.mk (below_drew1 HB.out)
    refine start_ (n := 11) (S := fun w' => w'.cell? ⟨gb378, 0, none⟩ = some (.int .i64 a1_0) ∧ w'.cell? ⟨gb378, 1, none⟩ = some (.int .i64 a1_1) ∧ w'.cell? ⟨gb378, 2, none⟩ = some (.int .i64 a1_2)) (ds := []) (bB 11 0) Z15 rfl Z15 ⟨(blk_cell BK378.out 0).trans rfl, (blk_cell BK378.out 1).trans rfl, (blk_cell BK378.out 2).trans rfl⟩ (fun hHeld => ?_); refine with_tabW spec_l12Made.tab2 spec_l12Made.bits2 (fun HT_ HW_ => ?_)
    generalize w7.drew = w9 at HO0 BK378 HB hHeld ⊢
    refine pu_ 1 (some 12) (bB 11 2) ?_
    refine pu_ 3 (some 14) (bB 11 10) ?_
    refine pu_ 5 (some 16) (bB 11 42) ?_
    refine take_ (i := 4) (N := some 15) (v := ?_) (a' := ?_) (bB 11 58) rfl rfl (take_ofW HT_.out HW_.out Z15) (fun _ _ _ h => h) (Or.inl ⟨Z90, ?_⟩) hHeld ?_ ?_
    rotate_left
    ·rintro w' ⟨s0, s1, s2⟩
     go_simp
     with_reducible rfl
    rotate_left
    ·simp only [Act.put, List.setIfInBounds_toArray, List.set_cons_zero, List.set_cons_succ, i64_w, i32_w]
     rfl
    refine take_ (i := 6) (N := some 17) (v := ?_) (a' := ?_) (bB 11 122) rfl rfl (take_ofW HT_.out HW_.out Z15) (fun _ _ _ h => h) (Or.inl ⟨Z90, ?_⟩) hHeld ?_ ?_
    rotate_left
    ·rintro w' ⟨s0, s1, s2⟩
     go_simp
     with_reducible rfl
    rotate_left
    ·simp only [Act.put, List.setIfInBounds_toArray, List.set_cons_zero, List.set_cons_succ, i64_w, i32_w]
     rfl
    refine pu_ 7 (some 18) (bB 11 250) ?_
    refine join_ (σ := Value × Value × Value) 2 (bB 11 511) (fun s_ => [(11, s_.1), (13, s_.2.1), (19, s_.2.2)]) (fun s_ w' => (w'.cell? ⟨gb378, 0, none⟩ = some (.int .i64 a1_0) ∧ w'.cell? ⟨gb378, 1, none⟩ = some (.int .i64 a1_1) ∧ w'.cell? ⟨gb378, 2, none⟩ = some (.int .i64 a1_2)) ∧ (Kd.V k84 84 w' w.heap.size (fun k_ => (P0_ k_ ∨ w.heap.size ≤ k_) ∧ some k_ ≠ (s_.2.1 : Value).ownBlock ∧ some k_ ≠ (s_.2.2 : Value).ownBlock ∧ k_ ≠ gb378) (.slice A0 l0.length c0) l0) ∧ (Kd.R k84 84 w' w.heap.size (fun k_ => (w.heap.size ≤ k_) ∧ some k_ ≠ (s_.2.2 : Value).ownBlock) s_.2.1 y382) ∧ (Kd.R k84 84 w' w.heap.size (fun k_ => (w.heap.size ≤ k_) ∧ some k_ ≠ (s_.2.1 : Value).ownBlock) s_.2.2 y385) ∧ (w'.heap[gb378]? = some (.cells #[.int .i64 a1_0, .int .i64 a1_1, .int .i64 a1_2] 39 (0, 0))) ∧ (Below w.heap.size w w')) ?_ ?_
    rotate_left
    ·intro hCont
     refine two_ (i := 0) (j := 8) (Ni := some 11) (Nj := some 19) (bB 11 251) (bB 11 506) rfl rfl rfl rfl (two_of HT_.out Z15) Z28 Z28 (fun K hK => ?_) (fun K hK => ?_)
     ·skip
      refine Kd.R_lit_step k84 _ 84 ?hg (N := 11) ?hd (xs := ([] : List (S84))) (inner := []) (ok := fun _ => True) (okp := fun _ => True) ?hr ?hp (fun _ hk => hk) trivial (Below.refl _ _) (Nat.le_refl _) Z33 ?_; (case hd => exact Z90); (case hg => exact Z90); (case hr => exact Z29); (case hp => exact Z67)
      intro v380 w10 ho11 hb hg_ hnew_
      clear hg_ hnew_
      (first | rw [← Ny379.out] at ho11 | (simp only [Int.reduceToNat] at ho11; rw [← Ny379.out] at ho11))
      replace HO0 := Aside0.mk (Kd.V_elder' (Z25 HO0) (Kd.R_base ho11) hb)
      have HO381 := Aside0.mk (Kd.R_lower (Kd.R_newM (M := fun k_ => (w.heap.size ≤ k_)) ho11 (below_size (Z1 HB GE378)) (fun k_ h_ => h_)) (below_size (Z1 HB GE378)))
      replace BK378 := Aside0.mk (blk_below (g := gb378) (o := .cells #[.int .i64 a1_0, .int .i64 a1_1, .int .i64 a1_2] 39 (0, 0)) (Z2 BK378) hb)
      replace HB := Aside0.mk (below_step (Z1 HB GE378) hb)
      clear hb ho11
      refine hK.out _ _ ⟨(blk_cell BK378.out 0).trans rfl, (blk_cell BK378.out 1).trans rfl, (blk_cell BK378.out 2).trans rfl⟩ (fun hHeld => ?_)
      clear hK K
      refine nr_ ?_
      refine two_ (i := 2) (j := 8) (Ni := some 13) (Nj := some 19) (bB 11 255) (bB 11 507) rfl rfl rfl rfl (two_of HT_.out Z15) Z28 Z28 (fun K hK => ?_) (fun K hK => ?_)
      ·skip
       refine Kd.R_append_rows_step k84 (w0 := w) w.heap.size Z90 (.tmp 11) (.tmp 12) 28 84 (.agg #[(.int .i64 0), (.int .i64 0)]) 16 rfl Tryz.underlying28 info84 rfl Z28 Z32 v380 y379 l0 _ _ _ (fun k_ => (w.heap.size ≤ k_)) (fun _ => False) rfl rfl ?aO ?aR (fun _ _ h => h) (fun _ h => h.elim) ?aF ?aB ?aS ?aL ?_
       (case aR => exact Z45 HO0)
       (case aB => exact (Z1 HB GE378))
       (case aF => exact (fun k_ hk => (Nat.le_trans (below_size (Z1 HB GE378)) hk)))
       (case aO => exact (Z53 HO381))
       (case aS => exact (below_size (Z1 HB GE378)))
       (case aL => exact Z35 LMc4)
       intro v383 w12 ho hb hg hat
       rw [← Ny382.out] at ho
       replace HO0 := Aside0.mk (Kd.V_afterv (ok := (fun k_ => (P0_ k_ ∨ w.heap.size ≤ k_) ∧ k_ ≠ gb378)) (Z25 HO0) hg hat)
       replace BK378 := Aside0.mk (blk_grown (g := gb378) (o := .cells #[.int .i64 a1_0, .int .i64 a1_1, .int .i64 a1_2] 39 (0, 0)) (Z2 BK378) hg (Kd.R_ne HO381.out BK378.out Z28))
       replace HB := Aside0.mk (hb)
       have HO384 := Aside0.mk (ho)
       clear HO381
       clear ho hb hg hat
       refine hK.out _ _ ⟨(blk_cell BK378.out 0).trans rfl, (blk_cell BK378.out 1).trans rfl, (blk_cell BK378.out 2).trans rfl⟩ (fun hHeld => ?_)
       clear hK K
       refine nr_ ?_
       refine one_ (i := 8) (N := some 19) (bB 11 511) rfl rfl (one_of HT_.out Z15) Z28 (fun K hK => ?_)
       refine Kd.R_lit_step k84 _ 84 ?hg (N := 19) ?hd (xs := ([(⟨a1_1, a1_2⟩ : S84)] : List (S84))) (inner := [.int .i64 a1_1, .int .i64 a1_2]) (ok := fun _ => True) (okp := fun _ => True) ?hr ?hp (fun _ hk => hk) trivial (Below.refl _ _) (Nat.le_refl _) Z33 ?_; (case hd => exact Z90); (case hg => exact Z90); (case hr => exact Z29); (case hp => exact Z65)
       intro v386 w13 ho14 hb hg_ hnew_
       clear hg_ hnew_
       (first | rw [← Ny385.out] at ho14 | (simp only [Int.reduceToNat] at ho14; rw [← Ny385.out] at ho14))
       replace HO0 := Aside0.mk (Kd.V_elder' (Z25 HO0) (Kd.R_base ho14) hb)
       have HO387 := Aside0.mk (Kd.R_lower (Kd.R_new' (Kd.R_newM (M := fun k_ => (w.heap.size ≤ k_)) ho14 (below_size (Z1 HB GE378)) (fun k_ h_ => h_)) (Kd.R_lt (Z4 HO384))) (below_size (Z1 HB GE378)))
       replace HO384 := Aside0.mk (Kd.R_elder' (Z4 HO384) (Kd.R_base ho14) hb)
       replace BK378 := Aside0.mk (blk_below (g := gb378) (o := .cells #[.int .i64 a1_0, .int .i64 a1_1, .int .i64 a1_2] 39 (0, 0)) (Z2 BK378) hb)
       replace HB := Aside0.mk (below_step (Z1 HB GE378) hb)
       clear hb ho14
       refine hK.out _ _ ⟨(blk_cell BK378.out 0).trans rfl, (blk_cell BK378.out 1).trans rfl, (blk_cell BK378.out 2).trans rfl⟩ (fun hHeld => ?_)
       clear hK K
       refine nr_ ?_
       exact norm_ Z48 (hCont (v380, v383, v386) _ ⟨hHeld, (by (with_reducible repeat (first | apply Kd.V_alloc | apply Kd.V_drewN | apply Kd.V_drew)); exact Kd.V_mono HO0.out (fun _ hk => ⟨hk.1.1.1, ⟨hk.1.2, ⟨hk.2, hk.1.1.2⟩⟩⟩)), (Z4 HO384), (Z55 HO387), (Z2 BK378), (Z1 HB GE378)⟩)
      ·skip
       refine Kd.R_lit_step k84 _ 84 ?hg (N := 19) ?hd (xs := ([(⟨a1_1, a1_2⟩ : S84)] : List (S84))) (inner := [.int .i64 a1_1, .int .i64 a1_2]) (ok := fun _ => True) (okp := fun _ => True) ?hr ?hp (fun _ hk => hk) trivial (Below.refl _ _) (Nat.le_refl _) Z33 ?_; (case hd => exact Z90); (case hg => exact Z90); (case hr => exact Z29); (case hp => exact Z65)
       intro v386 w12 ho13 hb hg_ hnew_
       clear hg_ hnew_
       (first | rw [← Ny385.out] at ho13 | (simp only [Int.reduceToNat] at ho13; rw [← Ny385.out] at ho13))
       replace HO0 := Aside0.mk (Kd.V_elder' (Z25 HO0) (Kd.R_base ho13) hb)
       have HO387 := Aside0.mk (Kd.R_lower (Kd.R_new' (Kd.R_newM (M := fun k_ => (w.heap.size ≤ k_)) ho13 (below_size (Z1 HB GE378)) (fun k_ h_ => h_)) (Kd.R_lt (Z4 HO381))) (below_size (Z1 HB GE378)))
       replace HO381 := Aside0.mk (Kd.R_elder' (Z4 HO381) (Kd.R_base ho13) hb)
       replace BK378 := Aside0.mk (blk_below (g := gb378) (o := .cells #[.int .i64 a1_0, .int .i64 a1_1, .int .i64 a1_2] 39 (0, 0)) (Z2 BK378) hb)
       replace HB := Aside0.mk (below_step (Z1 HB GE378) hb)
       clear hb ho13
       refine hK.out _ _ ⟨(blk_cell BK378.out 0).trans rfl, (blk_cell BK378.out 1).trans rfl, (blk_cell BK378.out 2).trans rfl⟩ (fun hHeld => ?_)
       clear hK K
       refine nr_ ?_
       refine one_ (i := 2) (N := some 13) (bB 11 511) rfl rfl (one_of HT_.out Z15) Z28 (fun K hK => ?_)
       refine Kd.R_append_rows_step k84 (w0 := w) w.heap.size Z90 (.tmp 11) (.tmp 12) 28 84 (.agg #[(.int .i64 0), (.int .i64 0)]) 16 rfl Tryz.underlying28 info84 rfl Z28 Z32 v380 y379 l0 _ _ _ (fun k_ => (w.heap.size ≤ k_) ∧ some k_ ≠ (v386 : Value).ownBlock) (fun _ => False) rfl rfl ?aO ?aR (fun _ _ h => h) (fun _ h => h.elim) ?aF ?aB ?aS ?aL ?_
       (case aR => exact Z45 HO0)
       (case aB => exact (Z1 HB GE378))
       (case aF => exact Z92)
       (case aO => exact (Z55 HO381))
       (case aS => exact (below_size (Z1 HB GE378)))
       (case aL => exact Z35 LMc4)
       intro v383 w14 ho hb hg hat
       rw [← Ny382.out] at ho
       replace HO0 := Aside0.mk (Kd.V_afterv (ok := (fun k_ => (P0_ k_ ∨ w.heap.size ≤ k_) ∧ some k_ ≠ (v386 : Value).ownBlock ∧ k_ ≠ gb378)) (by (with_reducible repeat (first | apply Kd.V_alloc | apply Kd.V_drewN | apply Kd.V_drew)); exact Kd.V_mono HO0.out (fun _ hk => ⟨⟨hk.1.1.1, ⟨hk.2, hk.1.1.2⟩⟩, hk.1.2⟩)) hg hat)
       replace BK378 := Aside0.mk (blk_grown (g := gb378) (o := .cells #[.int .i64 a1_0, .int .i64 a1_1, .int .i64 a1_2] 39 (0, 0)) (Z2 BK378) hg (Kd.R_ne HO381.out BK378.out Z28))
       replace HO387 := Aside0.mk (Kd.R_after (ok := (fun k_ => (w.heap.size ≤ k_))) (Z55 HO387) hg hat)
       replace HB := Aside0.mk (hb)
       have HO384 := Aside0.mk (ho)
       clear HO381
       clear ho hb hg hat
       refine hK.out _ _ ⟨(blk_cell BK378.out 0).trans rfl, (blk_cell BK378.out 1).trans rfl, (blk_cell BK378.out 2).trans rfl⟩ (fun hHeld => ?_)
       clear hK K
       refine nr_ ?_
       exact norm_ Z48 (hCont (v380, v383, v386) _ ⟨hHeld, (Z80 HO0), (Z4 HO384), (Z4 HO387), (Z2 BK378), (Z1 HB GE378)⟩)
     ·skip
      refine Kd.R_lit_step k84 _ 84 ?hg (N := 19) ?hd (xs := ([(⟨a1_1, a1_2⟩ : S84)] : List (S84))) (inner := [.int .i64 a1_1, .int .i64 a1_2]) (ok := fun _ => True) (okp := fun _ => True) ?hr ?hp (fun _ hk => hk) trivial (Below.refl _ _) (Nat.le_refl _) Z33 ?_; (case hd => exact Z90); (case hg => exact Z90); (case hr => exact Z29); (case hp => exact Z65)
      intro v386 w10 ho11 hb hg_ hnew_
      clear hg_ hnew_
      (first | rw [← Ny385.out] at ho11 | (simp only [Int.reduceToNat] at ho11; rw [← Ny385.out] at ho11))
      replace HO0 := Aside0.mk (Kd.V_elder' (Z25 HO0) (Kd.R_base ho11) hb)
      have HO387 := Aside0.mk (Kd.R_lower (Kd.R_newM (M := fun k_ => (w.heap.size ≤ k_)) ho11 (below_size (Z1 HB GE378)) (fun k_ h_ => h_)) (below_size (Z1 HB GE378)))
      replace BK378 := Aside0.mk (blk_below (g := gb378) (o := .cells #[.int .i64 a1_0, .int .i64 a1_1, .int .i64 a1_2] 39 (0, 0)) (Z2 BK378) hb)
      replace HB := Aside0.mk (below_step (Z1 HB GE378) hb)
      clear hb ho11
      refine hK.out _ _ ⟨(blk_cell BK378.out 0).trans rfl, (blk_cell BK378.out 1).trans rfl, (blk_cell BK378.out 2).trans rfl⟩ (fun hHeld => ?_)
      clear hK K
      refine nr_ ?_
      refine one_ (i := 0) (N := some 11) (bB 11 507) rfl rfl (one_of HT_.out Z15) Z28 (fun K hK => ?_)
      refine Kd.R_lit_step k84 _ 84 ?hg (N := 11) ?hd (xs := ([] : List (S84))) (inner := []) (ok := fun _ => True) (okp := fun _ => True) ?hr ?hp (fun _ hk => hk) trivial (Below.refl _ _) (Nat.le_refl _) Z33 ?_; (case hd => exact Z90); (case hg => exact Z90); (case hr => exact Z29); (case hp => exact Z67)
      intro v380 w12 ho13 hb hg_ hnew_
      clear hg_ hnew_
      (first | rw [← Ny379.out] at ho13 | (simp only [Int.reduceToNat] at ho13; rw [← Ny379.out] at ho13))
      replace HO0 := Aside0.mk (Kd.V_elder' (Z25 HO0) (Kd.R_base ho13) hb)
      have HO381 := Aside0.mk (Kd.R_lower (Kd.R_new' (Kd.R_newM (M := fun k_ => (w.heap.size ≤ k_)) ho13 (below_size (Z1 HB GE378)) (fun k_ h_ => h_)) (Kd.R_lt (Z4 HO387))) (below_size (Z1 HB GE378)))
      replace HO387 := Aside0.mk (Kd.R_elder' (Z4 HO387) (Kd.R_base ho13) hb)
      replace BK378 := Aside0.mk (blk_below (g := gb378) (o := .cells #[.int .i64 a1_0, .int .i64 a1_1, .int .i64 a1_2] 39 (0, 0)) (Z2 BK378) hb)
      replace HB := Aside0.mk (below_step (Z1 HB GE378) hb)
      clear hb ho13
      refine hK.out _ _ ⟨(blk_cell BK378.out 0).trans rfl, (blk_cell BK378.out 1).trans rfl, (blk_cell BK378.out 2).trans rfl⟩ (fun hHeld => ?_)
      clear hK K
      refine nr_ ?_
      refine one_ (i := 2) (N := some 13) (bB 11 511) rfl rfl (one_of HT_.out Z15) Z28 (fun K hK => ?_)
      refine Kd.R_append_rows_step k84 (w0 := w) w.heap.size Z90 (.tmp 11) (.tmp 12) 28 84 (.agg #[(.int .i64 0), (.int .i64 0)]) 16 rfl Tryz.underlying28 info84 rfl Z28 Z32 v380 y379 l0 _ _ _ (fun k_ => (w.heap.size ≤ k_) ∧ some k_ ≠ (v386 : Value).ownBlock) (fun _ => False) rfl rfl ?aO ?aR (fun _ _ h => h) (fun _ h => h.elim) ?aF ?aB ?aS ?aL ?_
      (case aR => exact Z45 HO0)
      (case aB => exact (Z1 HB GE378))
      (case aF => exact Z92)
      (case aO => exact (Z55 HO381))
      (case aS => exact (below_size (Z1 HB GE378)))
      (case aL => exact Z35 LMc4)
      intro v383 w14 ho hb hg hat
      rw [← Ny382.out] at ho
      replace HO0 := Aside0.mk (Kd.V_afterv (ok := (fun k_ => (P0_ k_ ∨ w.heap.size ≤ k_) ∧ some k_ ≠ (v386 : Value).ownBlock ∧ k_ ≠ gb378)) (by (with_reducible repeat (first | apply Kd.V_alloc | apply Kd.V_drewN | apply Kd.V_drew)); exact Kd.V_mono HO0.out (fun _ hk => ⟨⟨hk.1.1.1, ⟨hk.1.2, hk.1.1.2⟩⟩, hk.2⟩)) hg hat)
      replace BK378 := Aside0.mk (blk_grown (g := gb378) (o := .cells #[.int .i64 a1_0, .int .i64 a1_1, .int .i64 a1_2] 39 (0, 0)) (Z2 BK378) hg (Kd.R_ne HO381.out BK378.out Z28))
      replace HO387 := Aside0.mk (Kd.R_after (ok := (fun k_ => (w.heap.size ≤ k_))) (Z55 HO387) hg hat)
      replace HB := Aside0.mk (hb)
      have HO384 := Aside0.mk (ho)
      clear HO381
      clear ho hb hg hat
      refine hK.out _ _ ⟨(blk_cell BK378.out 0).trans rfl, (blk_cell BK378.out 1).trans rfl, (blk_cell BK378.out 2).trans rfl⟩ (fun hHeld => ?_)
      clear hK K
      refine nr_ ?_
      exact norm_ Z48 (hCont (v380, v383, v386) _ ⟨hHeld, (Z80 HO0), (Z4 HO384), (Z4 HO387), (Z2 BK378), (Z1 HB GE378)⟩)
    rintro ⟨v380, v383, v386⟩ w15 ⟨hS_, h0_, h1_, h2_, h3_, h4_⟩
    have n0_ : Aside0 (Kd.V k84 84 w15 w.heap.size (fun k_ => (P0_ k_ ∨ w.heap.size ≤ k_) ∧ some k_ ≠ (v383 : Value).ownBlock ∧ some k_ ≠ (v386 : Value).ownBlock ∧ k_ ≠ gb378) (.slice A0 l0.length c0) l0) := ⟨h0_⟩
    have n1_ : Aside0 (Kd.R k84 84 w15 w.heap.size (fun k_ => (w.heap.size ≤ k_) ∧ some k_ ≠ (v386 : Value).ownBlock) v383 y382) := ⟨h1_⟩
    have n2_ : Aside0 (Kd.R k84 84 w15 w.heap.size (fun k_ => (w.heap.size ≤ k_) ∧ some k_ ≠ (v383 : Value).ownBlock) v386 y385) := ⟨h2_⟩
    have n3_ : Aside0 (w15.heap[gb378]? = some (.cells #[.int .i64 a1_0, .int .i64 a1_1, .int .i64 a1_2] 39 (0, 0))) := ⟨h3_⟩
    have n4_ : Aside0 (Below w.heap.size w w15) := ⟨h4_⟩
    clear HO0
    clear BK378
    clear HB
    clear h0_ h1_ h2_ h3_ h4_
    have HO0 := n0_
    have HO384 := n1_
    have HO387 := n2_
    have BK378 := n3_
    have HB := n4_
    clear n0_ n1_ n2_ n3_ n4_
    have hHeld : w15.cell? ⟨gb378, 0, none⟩ = some (.int .i64 a1_0) ∧ w15.cell? ⟨gb378, 1, none⟩ = some (.int .i64 a1_1) ∧ w15.cell? ⟨gb378, 2, none⟩ = some (.int .i64 a1_2) := hS_
    obtain ⟨Ao17, co17, eo17⟩ := Kd.R_slice HO387.out
    (first | subst eo17 | (injection eo17 with f1_ f2_ f3_; have f4_ := f1_.symm; have f5_ := f3_.symm; clear f1_ f2_ f3_; subst f4_; subst f5_))
    refine norm_ (a' := ?_) ?_ ?_
    rotate_left
    ·simp only [putAll, Act.put, List.setIfInBounds_toArray, List.set_cons_zero, List.set_cons_succ]
     rfl
    refine one_ (i := 9) (N := some 20) (bB 11 1023) rfl rfl (one_of HT_.out Z15) Z28 (fun K hK => ?_)
    refine Kd.R_append_rows_step k84 (w0 := w) w.heap.size Z90 (.tmp 13) (.tmp 19) 28 84 (.agg #[(.int .i64 0), (.int .i64 0)]) 16 rfl Tryz.underlying28 info84 rfl Z28 Z32 v383 y382 y385 _ _ _ (fun k_ => (w.heap.size ≤ k_) ∧ some k_ ≠ (.slice Ao17 y385.length co17 : Value).ownBlock) (fun _ => False) rfl rfl ?aO ?aR (fun _ _ h => h) (fun _ h => h.elim) ?aF ?aB ?aS ?aL ?_
    (case aR => exact Z26 HO387)
    (case aB => exact (Z1 HB GE378))
    (case aF => exact Z92)
    (case aO => exact (Z4 HO384))
    (case aS => exact (below_size (Z1 HB GE378)))
    (case aL => exact Z35 LMc5)
    intro v389 w16 ho hb hg hat
    rw [← Ny388.out] at ho
    replace HO0 := Aside0.mk (Kd.V_afterv (ok := (fun k_ => (P0_ k_ ∨ w.heap.size ≤ k_) ∧ some k_ ≠ (.slice Ao17 y385.length co17 : Value).ownBlock ∧ k_ ≠ gb378)) (by (with_reducible repeat (first | apply Kd.V_alloc | apply Kd.V_drewN | apply Kd.V_drew)); exact Kd.V_mono HO0.out (fun _ hk => ⟨⟨hk.1, ⟨hk.2.2.1, hk.2.2.2⟩⟩, hk.2.1⟩)) hg hat)
    replace BK378 := Aside0.mk (blk_grown (g := gb378) (o := .cells #[.int .i64 a1_0, .int .i64 a1_1, .int .i64 a1_2] 39 (0, 0)) (Z2 BK378) hg (Kd.R_ne HO384.out BK378.out Z28))
    replace HO387 := Aside0.mk (Kd.R_after (ok := (fun k_ => (w.heap.size ≤ k_))) (Z4 HO387) hg hat)
    replace HB := Aside0.mk (hb)
    have HO390 := Aside0.mk (ho)
    clear HO384
    clear ho hb hg hat
    refine hK.out _ _ ⟨(blk_cell BK378.out 0).trans rfl, (blk_cell BK378.out 1).trans rfl, (blk_cell BK378.out 2).trans rfl⟩ (fun hHeld => ?_)
    clear hK K
    refine nr_ ?_
    refine pu_ 10 (some 6) (bB 11 2047) ?_
    refine done_ (done_of HT_.out Z15) ?_
    obtain ⟨Ao18, co18, eo18⟩ := Kd.R_slice HO390.out
    subst eo18
    try go_wp2_with (first | ((with_reducible refine gate_callee (f := 49) rfl ?_); refine gL_ 23 Tryz.func49 #[.slice Ao18 y388.length co18] ?_; (with_reducible refine (spec_CustomersOk.calls k _ _ y388 t391 _ ?side1 ?side2 A6.out).mono ?_); (case side1 => exact Z26 HO390); (case side2 => exact Z74 HO390); rintro e w19 ⟨rfl, hb⟩; refine ⟨_, rfl, ?_⟩; replace HO0 := Aside0.mk (Kd.V_below (Z25 HO0) hb); replace HO387 := Aside0.mk (Kd.R_below (Z4 HO387) hb); replace HO390 := Aside0.mk (Kd.R_below (Z4 HO390) hb); replace BK378 := Aside0.mk (blk_below (g := gb378) (o := .cells #[.int .i64 a1_0, .int .i64 a1_1, .int .i64 a1_2] 39 (0, 0)) (Z2 BK378) hb); replace HB := Aside0.mk (below_step (Z1 HB GE378) hb); (try clear hb)))
    go_ret2
    exact ⟨_, Z11, Kd.V_mono (Kd.R_V (Z53 HO390)) (fun k_ hk => Z73), Z1 HB GE378⟩
   ·rw [if_neg c5] at H
    exact absurd H Z33
  ·rw [if_neg c4] at H
   exact absurd H Z33
 ·rw [if_neg c3] at H
  have c3b0 : (a1_0 == 0) = false := beq_eq_false_iff_ne.mpr c3
  have c3b1 : (a1_0 != 0) = true := bne_iff_ne.mpr c3
  have HC20 := Aside0.mk H
  clear H
  go_enter Tryz.func115, Tryz.ntmps115
  go_upto_region 4 with (first | ((with_reducible refine gate_dst (N := 3) rfl ?_); (try (refine gate_guard Z90 ?_; dsimp only)); refine bE_ 3 #[.int .i64 a1_0, .int .i64 a1_1, .int .i64 a1_2] 39 ?_; intro gb378 hg w21 hbox hb; replace HO0 := Aside0.mk (Kd.V_below (Kd.V_elderB (Z25 HO0) gb378 (Nat.le_of_eq hg.symm)) hb); have BK378 := Aside0.mk (hbox); have GW378 := Aside0.mk ((by rw [hg]; exact (below_size (Z0 HB)) : w.heap.size ≤ gb378)); have GE378 := Aside0.mk ((by rw [hg]; exact (below_size (Z0 HB)) : w.heap.size ≤ gb378)); replace HB := Aside0.mk (below_step (Z0 HB) hb); clear hb hbox hg; have hcz22_0 : w21.cell? ⟨gb378, 0, none⟩ = some (.int .i64 a1_0) := (blk_cell BK378.out 0).trans rfl; have hcz22_1 : w21.cell? ⟨gb378, 1, none⟩ = some (.int .i64 a1_1) := (blk_cell BK378.out 1).trans rfl; have hcz22_2 : w21.cell? ⟨gb378, 2, none⟩ = some (.int .i64 a1_2) := (blk_cell BK378.out 2).trans rfl; have hfz22_0 := blk_frozen BK378.out 0; have hfz22_1 := blk_frozen BK378.out 1; have hfz22_2 := blk_frozen BK378.out 2))
  (try simp only [Act.put, List.setIfInBounds_toArray, List.set_cons_zero, List.set_cons_succ])
  go_cut [24] (fun v24 wc => ∃ (kq : Nat) (x24_19 : Bool), v24 = .bool x24_19 ∧ Aside0 (spec_l12Made.j0 kq l0 x24_19 a1_0 a1_1 a1_2 = some (r1, r2)) ∧ Aside0 (kq ≤ k) ∧ Aside0 (Kd.V k84 84 wc w.heap.size (fun k_ => (P0_ k_ ∨ w.heap.size ≤ k_) ∧ k_ ≠ gb378) (.slice A0 l0.length c0) l0) ∧ Aside0 (wc.heap[gb378]? = some (.cells #[.int .i64 a1_0, .int .i64 a1_1, .int .i64 a1_2] 39 (0, 0))) ∧ Aside0 (Below w.heap.size w wc))
  case first =>
   have H := HC20.out
   clear HC20
   by_cases c23 : (a1_0 == 1 && (a1_1 == 0 && (a1_2 == 0))) = true
   ·rw [if_pos c23] at H
    have c23b0 : (a1_0 == 1 && (a1_1 == 0 && (a1_2 == 0))) = true := c23
    (try (have c23b1 : decide (a1_0 = 1 && (a1_1 == 0 && (a1_2 == 0))) = true := by simpa using c23))
    (try (have c23b2 : (a1_0 == 1 && (a1_1 == 0 && (a1_2 == 0))) = true := by simpa using c23))
    clear c23
    (first | rw [c23b0] | (simp only [i64_w, i32_w]; rw [c23b0]) | skip)
    have H' := Aside0.mk H
    clear H
    have hcz24_0 : w21.cell? ⟨gb378, 0, none⟩ = some (.int .i64 a1_0) := (blk_cell BK378.out 0).trans rfl
    have hcz24_1 : w21.cell? ⟨gb378, 1, none⟩ = some (.int .i64 a1_1) := (blk_cell BK378.out 1).trans rfl
    have hcz24_2 : w21.cell? ⟨gb378, 2, none⟩ = some (.int .i64 a1_2) := (blk_cell BK378.out 2).trans rfl
    have hfz24_0 := blk_frozen BK378.out 0
    have hfz24_1 := blk_frozen BK378.out 1
    have hfz24_2 := blk_frozen BK378.out 2
    go_wp2
    go_meet
    case rel => exact ⟨_, (decide ((l0.length : Int) > 0)), Z14, H', ⟨Z39⟩, ⟨Z25 HO0⟩, ⟨Z2 BK378⟩, ⟨Z1 HB GE378⟩⟩
   ·rw [if_neg c23] at H
    have c23b0 : (a1_0 == 1 && (a1_1 == 0 && (a1_2 == 0))) = false := by simpa using c23
    (try (have c23b1 : decide (a1_0 = 1 && (a1_1 == 0 && (a1_2 == 0))) = false := by simpa using c23))
    (try (have c23b2 : (a1_0 == 1 && (a1_1 == 0 && (a1_2 == 0))) = false := by simpa using c23))
    (try (have c23b3 : ¬ (a1_0 = 1 && (a1_1 == 0 && (a1_2 == 0))) := by simpa using c23))
    clear c23
    (first | rw [c23b0] | (simp only [i64_w, i32_w]; rw [c23b0]) | skip)
    have H' := Aside0.mk H
    clear H
    have hcz25_0 : w21.cell? ⟨gb378, 0, none⟩ = some (.int .i64 a1_0) := (blk_cell BK378.out 0).trans rfl
    have hcz25_1 : w21.cell? ⟨gb378, 1, none⟩ = some (.int .i64 a1_1) := (blk_cell BK378.out 1).trans rfl
    have hcz25_2 : w21.cell? ⟨gb378, 2, none⟩ = some (.int .i64 a1_2) := (blk_cell BK378.out 2).trans rfl
    have hfz25_0 := blk_frozen BK378.out 0
    have hfz25_1 := blk_frozen BK378.out 1
    have hfz25_2 := blk_frozen BK378.out 2
    go_wp2
    go_meet
    case rel => exact ⟨_, (false), Z14, H', ⟨Z39⟩, ⟨Z25 HO0⟩, ⟨Z2 BK378⟩, ⟨Z1 HB GE378⟩⟩
  case rest =>
   clear HC20
   try clear c1
   try clear c2
   try clear p2
   try clear c3
   try clear c3b0
   try clear c3b1
   try clear c4
   try clear c5
   try clear c11
   try clear c23
   try clear c23b0
   try clear c23b1
   try clear c23b2
   try clear hcz22_0
   try clear hcz22_1
   try clear hcz22_2
   try clear hcz24_0
   try clear hcz24_1
   try clear hcz24_2
   try clear hcz25_0
   try clear hcz25_1
   try clear hcz25_2
   try clear hcz8_0
   try clear hcz8_1
   try clear hcz8_2
   try clear hfz22_0
   try clear hfz22_1
   try clear hfz22_2
   try clear hfz24_0
   try clear hfz24_1
   try clear hfz24_2
   try clear hfz25_0
   try clear hfz25_1
   try clear hfz25_2
   try clear hfz8_0
   try clear hfz8_1
   try clear hfz8_2
   obtain ⟨kq, x24_19, rfl, HA, HJ19, HO_0, BK378, HB⟩ := hcut
   cases kq with
   | zero => exact absurd HA.out (by simp [spec_l12Made.j0])
   | succ kj19 =>
    have H := HA.out
    clear HA
    simp only [spec_l12Made.j0] at H
    by_cases c26 : x24_19 = true
    ·subst c26
     have H1 : ((some (([] : List (S84)) : List (S84))).bind fun y392 => (if 0 ≤ (wrap64 ((l0.length : Int) - 1)) then (if (wrap64 ((l0.length : Int) - 1)) ≤ (l0.length : Int) then ((some (l0.take ((wrap64 ((l0.length : Int) - 1)) : Int).toNat : List (S84))).bind fun y395 => (if y392.length + y395.length < 8796093022208 then (some ((y392 ++ y395), true)) else (none))) else (none)) else (none))) = some (r1, r2) := Z37
     clear H
     have H := H1
     clear H1
     obtain ⟨y392, hy392⟩ : ∃ y_ : List (S84), y_ = (([] : List (S84))) := ⟨_, rfl⟩
     replace H : (if 0 ≤ (wrap64 ((l0.length : Int) - 1)) then (if (wrap64 ((l0.length : Int) - 1)) ≤ (l0.length : Int) then ((some (l0.take ((wrap64 ((l0.length : Int) - 1)) : Int).toNat : List (S84))).bind fun y395 => (if y392.length + y395.length < 8796093022208 then (some ((y392 ++ y395), true)) else (none))) else (none)) else (none)) = some (r1, r2) := Z5 hy392
     have Ny392 := Aside0.mk hy392
     clear hy392
     obtain ⟨ji27, hji27⟩ : ∃ j_ : Int, (wrap64 ((l0.length : Int) - 1)) = j_ := ⟨_, rfl⟩
     replace H : (if 0 ≤ (ji27) then (if (ji27) ≤ (l0.length : Int) then ((some (l0.take ((ji27) : Int).toNat : List (S84))).bind fun y395 => (if y392.length + y395.length < 8796093022208 then (some ((y392 ++ y395), true)) else (none))) else (none)) else (none)) = some (r1, r2) := Z54 hji27
     have hji27w : (IntKind.i64.wrap ((l0.length : Int) - 1)) = ji27 := (i64_w _).trans hji27
     by_cases c28 : 0 ≤ (ji27)
     ·rw [if_pos c28] at H
      have c28b0 := eq_true c28
      have c28b1 : decide (0 ≤ (ji27)) = true := decide_eq_true c28
      clear c28
      by_cases c29 : (ji27) ≤ (l0.length : Int)
      ·rw [if_pos c29] at H
       have c29b0 := eq_true c29
       have c29b1 : decide ((ji27) ≤ (l0.length : Int)) = true := decide_eq_true c29
       clear c29
       obtain ⟨y395, hy395⟩ : ∃ y_ : List (S84), y_ = (l0.take ((ji27) : Int).toNat) := ⟨_, rfl⟩
       replace H : (if y392.length + y395.length < 8796093022208 then (some ((y392 ++ y395), true)) else (none)) = some (r1, r2) := Z5 hy395
       have Ny395 := Aside0.mk hy395
       clear hy395
       by_cases c30 : y392.length + y395.length < 8796093022208
       ·rw [if_pos c30] at H
        have LMc30 := Aside0.mk c30
        clear c30
        obtain ⟨y400, hy400⟩ : ∃ y_ : List (S84), y_ = (y392 ++ y395) := ⟨_, rfl⟩
        replace H : (some (y400, true)) = some (r1, r2) := Z5 hy400
        have Ny400 := Aside0.mk hy400
        clear hy400
        simp only [Option.some.injEq, Prod.mk.injEq] at H
        obtain ⟨rfl, rfl⟩ := H
        go_wp2_with (first | ((with_reducible refine gate_dst (N := 33) rfl ?_); (try (refine gate_guard Z90 ?_; dsimp only)); refine Kd.R_lit k84 _ 84 ?hg (N := 33) ?hd (xs := ([] : List (S84))) (inner := []) (ok := fun _ => True) (okp := fun _ => True) ?hr ?hp (fun _ hk => hk) trivial (Below.refl _ _) (Nat.le_refl _) Z33 ?_; (case hd => exact Z90); (case hg => exact Z90); (case hr => exact Z29); (case hp => exact Z67); intro v393 w31 ho32 hb hg_ hnew_; clear hg_ hnew_; (first | rw [← Ny392.out] at ho32 | (simp only [Int.reduceToNat] at ho32; rw [← Ny392.out] at ho32)); replace HO_0 := Aside0.mk (Kd.V_elder' (Z25 HO_0) (Kd.R_base ho32) hb); have HO394 := Aside0.mk (Kd.R_lower (Kd.R_newM (M := fun k_ => (w.heap.size ≤ k_)) ho32 (below_size (Z1 HB GE378)) (fun k_ h_ => h_)) (below_size (Z1 HB GE378))); replace BK378 := Aside0.mk (blk_below (g := gb378) (o := .cells #[.int .i64 a1_0, .int .i64 a1_1, .int .i64 a1_2] 39 (0, 0)) (Z2 BK378) hb); replace HB := Aside0.mk (below_step (Z1 HB GE378) hb); clear hb ho32; have q33 : ((ji27) : Int) ≤ ((l0.length : Int) : Int) := of_decide_eq_true Z10; obtain ⟨i033, hi033, _, hsz33, _⟩ := info_parts info84; have hroom33 : l0.length ≤ c0 := (Kd.V_reads' HO_0.out).2.1; have hC33 : Kd.F k84 _ _ A0 l0.length l0 := (Kd.V_at (base := w.heap.size) HO_0.out).2.2; have hcut33 := cut_to (P := Tryz.prog) 28 84 .i64 Tryz.underlying28 hi033 A0 l0.length c0 (ji27) (of_decide_eq_true Z10) q33 hroom33; have hr33 := Kd.F_take (m := ((ji27) : Int).toNat) hC33 Z32; have hy33 : y395.length = ((ji27) : Int).toNat := (by rw [Ny395.out, List.length_take]; omega); rw [← Ny395.out] at hr33; rw [← hy33] at hcut33; have HO399 := Aside0.mk (show Kd.V k84 84 _ w.heap.size _ (.slice A0 y395.length c0) y395 from Kd.V_mk Z32 hr33); have HC399 := Aside0.mk (show y395.length ≤ c0 from Z32); clear hr33 hC33 hroom33 hi033 hsz33; have KY33 := Aside0.mk hy33; clear hy33; replace q33 := eq_true q33) | ((with_reducible refine gate_builtin (b := .append) (xs := #[.tmp 33, .tmp 38]) rfl ?_); (try (refine gate_guard Z90 ?_; dsimp only)); at_builtin; refine Kd.R_append_rows k84 (w0 := w) w.heap.size rfl (.tmp 33) (.tmp 38) 28 84 (.agg #[(.int .i64 0), (.int .i64 0)]) 16 rfl Tryz.underlying28 info84 rfl Z28 Z32 v393 y392 y395 _ _ _ (fun k_ => (w.heap.size ≤ k_)) (fun _ => False) rfl rfl ?aO ?aR (fun _ _ h => h) (fun _ h => h.elim) ?aF ?aB ?aS ?aL ?_; (case aR => exact Z45 HO399); (case aB => exact (Z1 HB GE378)); (case aF => exact (fun k_ hk => (Nat.le_trans (below_size (Z1 HB GE378)) hk))); (case aO => exact (Z53 HO394)); (case aS => exact (below_size (Z1 HB GE378))); (case aL => exact Z35 LMc30); intro v401 w34 ho hb hg hat; rw [← Ny400.out] at ho; replace HO_0 := Aside0.mk (Kd.V_afterv (ok := (fun k_ => (P0_ k_ ∨ w.heap.size ≤ k_) ∧ k_ ≠ gb378)) (Z25 HO_0) hg hat); replace BK378 := Aside0.mk (blk_grown (g := gb378) (o := .cells #[.int .i64 a1_0, .int .i64 a1_1, .int .i64 a1_2] 39 (0, 0)) (Z2 BK378) hg (Kd.R_ne HO394.out BK378.out Z28)); replace HO399 := Aside0.mk (Kd.V_afterv (ok := (fun k_ => (P0_ k_ ∨ w.heap.size ≤ k_) ∧ k_ ≠ gb378)) (Z25 HO399) hg hat); replace HB := Aside0.mk (hb); have HO402 := Aside0.mk (ho); clear HO394; clear ho hb hg hat))
        go_ret2
        exact ⟨_, Z57 hji27, Kd.V_mono (Kd.R_V (Z4 HO402)) (fun k_ hk => Z73), Z1 HB GE378⟩
       ·rw [if_neg c30] at H
        exact absurd H Z33
      ·rw [if_neg c29] at H
       exact absurd H Z33
     ·rw [if_neg c28] at H
      exact absurd H Z33
    ·replace c26 := Bool.eq_false_iff.mpr c26
     subst c26
     have H1 : (if a1_0 = 2 then (spec_l12Made.j1 kj19 l0 (a1_2 == 0) a1_0 a1_1 a1_2) else (spec_l12Made.j1 kj19 l0 false a1_0 a1_1 a1_2)) = some (r1, r2) := Z24
     clear H
     have H := H1
     clear H1
     have HC35 := Aside0.mk H
     clear H
     go_upto_region 6 with (fail)
     go_cut [40] (fun v40 wc => ∃ (kq : Nat) (x40_34 : Bool), v40 = .bool x40_34 ∧ Aside0 (spec_l12Made.j1 kq l0 x40_34 a1_0 a1_1 a1_2 = some (r1, r2)) ∧ Aside0 (kq ≤ kj19) ∧ Aside0 (Kd.V k84 84 wc w.heap.size (fun k_ => (P0_ k_ ∨ w.heap.size ≤ k_) ∧ k_ ≠ gb378) (.slice A0 l0.length c0) l0) ∧ Aside0 (wc.heap[gb378]? = some (.cells #[.int .i64 a1_0, .int .i64 a1_1, .int .i64 a1_2] 39 (0, 0))) ∧ Aside0 (Below w.heap.size w wc))
     case first =>
      have H := HC35.out
      clear HC35
      by_cases c36 : a1_0 = 2
      ·rw [if_pos c36] at H
       have c36b0 : (a1_0 == 2) = true := beq_iff_eq.mpr c36
       have c36b1 : (a1_0 != 2) = false := bne_eq_false_iff_eq.mpr c36
       clear c36
       (first | rw [c36b0] | (simp only [i64_w, i32_w]; rw [c36b0]) | skip)
       have H' := Aside0.mk H
       clear H
       have hcz37_0 : wc.cell? ⟨gb378, 0, none⟩ = some (.int .i64 a1_0) := (blk_cell BK378.out 0).trans rfl
       have hcz37_1 : wc.cell? ⟨gb378, 1, none⟩ = some (.int .i64 a1_1) := (blk_cell BK378.out 1).trans rfl
       have hcz37_2 : wc.cell? ⟨gb378, 2, none⟩ = some (.int .i64 a1_2) := (blk_cell BK378.out 2).trans rfl
       have hfz37_0 := blk_frozen BK378.out 0
       have hfz37_1 := blk_frozen BK378.out 1
       have hfz37_2 := blk_frozen BK378.out 2
       go_wp2
       go_meet
       case rel => exact ⟨_, ((a1_2 == 0)), Z14, H', ⟨Z50 HJ19⟩, ⟨Z25 HO_0⟩, ⟨Z2 BK378⟩, ⟨Z1 HB GE378⟩⟩
      ·rw [if_neg c36] at H
       have c36b0 : (a1_0 == 2) = false := beq_eq_false_iff_ne.mpr c36
       have c36b1 : (a1_0 != 2) = true := bne_iff_ne.mpr c36
       (first | rw [c36b0] | (simp only [i64_w, i32_w]; rw [c36b0]) | skip)
       have H' := Aside0.mk H
       clear H
       have hcz38_0 : wc.cell? ⟨gb378, 0, none⟩ = some (.int .i64 a1_0) := (blk_cell BK378.out 0).trans rfl
       have hcz38_1 : wc.cell? ⟨gb378, 1, none⟩ = some (.int .i64 a1_1) := (blk_cell BK378.out 1).trans rfl
       have hcz38_2 : wc.cell? ⟨gb378, 2, none⟩ = some (.int .i64 a1_2) := (blk_cell BK378.out 2).trans rfl
       have hfz38_0 := blk_frozen BK378.out 0
       have hfz38_1 := blk_frozen BK378.out 1
       have hfz38_2 := blk_frozen BK378.out 2
       go_wp2
       go_meet
       case rel => exact ⟨_, (false), Z14, H', ⟨Z50 HJ19⟩, ⟨Z25 HO_0⟩, ⟨Z2 BK378⟩, ⟨Z1 HB GE378⟩⟩
     case rest =>
      clear HC35
      try clear c1
      try clear c2
      try clear p2
      try clear c3
      try clear c3b0
      try clear c3b1
      try clear q3
      try clear c4
      try clear c5
      try clear p6
      try clear c11
      try clear c23
      try clear c23b0
      try clear c23b1
      try clear c23b2
      try clear c26
      try clear c28
      try clear c28b0
      try clear c28b1
      try clear c29
      try clear c29b0
      try clear c29b1
      try clear c30
      try clear q33
      try clear c36
      try clear c36b0
      try clear c36b1
      try clear hcz22_0
      try clear hcz22_1
      try clear hcz22_2
      try clear hcz24_0
      try clear hcz24_1
      try clear hcz24_2
      try clear hcz25_0
      try clear hcz25_1
      try clear hcz25_2
      try clear hcz37_0
      try clear hcz37_1
      try clear hcz37_2
      try clear hcz38_0
      try clear hcz38_1
      try clear hcz38_2
      try clear hcz8_0
      try clear hcz8_1
      try clear hcz8_2
      try clear hfz22_0
      try clear hfz22_1
      try clear hfz22_2
      try clear hfz24_0
      try clear hfz24_1
      try clear hfz24_2
      try clear hfz25_0
      try clear hfz25_1
      try clear hfz25_2
      try clear hfz37_0
      try clear hfz37_1
      try clear hfz37_2
      try clear hfz38_0
      try clear hfz38_1
      try clear hfz38_2
      try clear hfz8_0
      try clear hfz8_1
      try clear hfz8_2
      try clear p2
      try clear q33
      obtain ⟨kq, x40_34, rfl, HA, HJ34, HO_0, BK378, HB⟩ := hcut
      cases kq with
      | zero => exact absurd HA.out (by simp [spec_l12Made.j1])
      | succ kj34 =>
       have H := HA.out
       clear HA
       simp only [spec_l12Made.j1] at H
       by_cases c39 : x40_34 = true
       ·subst c39
        have H1 : ((spec_NeedingMore.f kj34 l0 a1_1).bind fun bt403 => (some (bt403.1, bt403.2))) = some (r1, r2) := Z37
        clear H
        have H := H1
        clear H1
        replace H := Option.bind_eq_some_iff.mp H
        obtain ⟨⟨t403, t404⟩, A400, H⟩ := H
        replace H : (some (t403, t404)) = some (r1, r2) := H
        have A40 := Aside0.mk A400
        clear A400
        simp only [Option.some.injEq, Prod.mk.injEq] at H
        obtain ⟨rfl, rfl⟩ := H
        have hcz41_0 : wc.cell? ⟨gb378, 0, none⟩ = some (.int .i64 a1_0) := (blk_cell BK378.out 0).trans rfl
        have hcz41_1 : wc.cell? ⟨gb378, 1, none⟩ = some (.int .i64 a1_1) := (blk_cell BK378.out 1).trans rfl
        have hcz41_2 : wc.cell? ⟨gb378, 2, none⟩ = some (.int .i64 a1_2) := (blk_cell BK378.out 2).trans rfl
        have hfz41_0 := blk_frozen BK378.out 0
        have hfz41_1 := blk_frozen BK378.out 1
        have hfz41_2 := blk_frozen BK378.out 2
        go_wp2_with (first | ((with_reducible refine gate_callee (f := 139) rfl ?_); refine gL_ 52 Tryz.func139 #[.slice A0 l0.length c0, .int .i64 a1_1] ?_; (with_reducible refine (spec_NeedingMore.calls kj34 _ _ l0 a1_1 t403 t404 _ ?side1 ?side2 A40.out).mono ?_); (case side1 => exact Z45 HO_0); (case side2 => exact (Kd.V_reads' HO_0.out).2.1); rintro e w42 ⟨v405, rfl, ho0, hb⟩; refine ⟨_, rfl, ?_⟩; replace HO_0 := Aside0.mk (Kd.V_elder' (Z25 HO_0) (Kd.R_base ho0) hb); have HO406 := Aside0.mk (Kd.R_lower (Kd.R_newM (M := fun k_ => (w.heap.size ≤ k_)) ho0 (below_size (Z1 HB GE378)) (fun k_ h_ => h_)) (below_size (Z1 HB GE378))); replace BK378 := Aside0.mk (blk_below (g := gb378) (o := .cells #[.int .i64 a1_0, .int .i64 a1_1, .int .i64 a1_2] 39 (0, 0)) (Z2 BK378) hb); replace HB := Aside0.mk (below_step (Z1 HB GE378) hb); (try clear hb); (try clear hb2); (try clear hk); (try clear hi); (try clear ho0)))
        go_ret2
        exact ⟨_, Z11, Kd.V_mono (Kd.R_V (Z53 HO406)) (fun k_ hk => Z73), Z1 HB GE378⟩
       ·replace c39 := Bool.eq_false_iff.mpr c39
        subst c39
        have H1 : (if a1_0 = 3 then (if a1_2 = 0 then (if a1_1 > 0 then (if (l0.length : Int) > 0 then ((spec_LaterBy.f kj34 l0 a1_1).bind fun bt407 => (some (bt407.1, bt407.2))) else (some (l0, false))) else (some (l0, false))) else (some (l0, false))) else (some (l0, false))) = some (r1, r2) := Z24
        clear H
        have H := H1
        clear H1
        by_cases c43 : a1_0 = 3
        ·rw [if_pos c43] at H
         have c43b0 : (a1_0 == 3) = true := beq_iff_eq.mpr c43
         have c43b1 : (a1_0 != 3) = false := bne_eq_false_iff_eq.mpr c43
         clear c43
         by_cases c44 : a1_2 = 0
         ·rw [if_pos c44] at H
          have c44b0 : (a1_2 == 0) = true := beq_iff_eq.mpr c44
          have c44b1 : (a1_2 != 0) = false := bne_eq_false_iff_eq.mpr c44
          clear c44
          by_cases c45 : a1_1 > 0
          ·rw [if_pos c45] at H
           have c45b0 : decide (0 < a1_1) = true := decide_eq_true c45
           clear c45
           by_cases c46 : (l0.length : Int) > 0
           ·rw [if_pos c46] at H
            have c46b0 : decide (0 < (l0.length : Int)) = true := decide_eq_true c46
            have c46b1 : decide (0 < l0.length) = true := decide_eq_true Z32
            clear c46
            replace H := Option.bind_eq_some_iff.mp H
            obtain ⟨⟨t407, t408⟩, A470, H⟩ := H
            replace H : (some (t407, t408)) = some (r1, r2) := H
            have A47 := Aside0.mk A470
            clear A470
            simp only [Option.some.injEq, Prod.mk.injEq] at H
            obtain ⟨rfl, rfl⟩ := H
            have hcz48_0 : wc.cell? ⟨gb378, 0, none⟩ = some (.int .i64 a1_0) := (blk_cell BK378.out 0).trans rfl
            have hcz48_1 : wc.cell? ⟨gb378, 1, none⟩ = some (.int .i64 a1_1) := (blk_cell BK378.out 1).trans rfl
            have hcz48_2 : wc.cell? ⟨gb378, 2, none⟩ = some (.int .i64 a1_2) := (blk_cell BK378.out 2).trans rfl
            have hfz48_0 := blk_frozen BK378.out 0
            have hfz48_1 := blk_frozen BK378.out 1
            have hfz48_2 := blk_frozen BK378.out 2
            go_wp2_with (first | ((with_reducible refine gate_callee (f := 140) rfl ?_); refine gL_ 77 Tryz.func140 #[.slice A0 l0.length c0, .int .i64 a1_1] ?_; (with_reducible refine (spec_LaterBy.calls kj34 _ _ l0 a1_1 t407 t408 _ ?side1 ?side2 A47.out).mono ?_); (case side1 => exact Z45 HO_0); (case side2 => exact (Kd.V_reads' HO_0.out).2.1); rintro e w49 ⟨v409, rfl, ho0, hb⟩; refine ⟨_, rfl, ?_⟩; replace HO_0 := Aside0.mk (Kd.V_elder' (Z25 HO_0) (Kd.R_base ho0) hb); have HO410 := Aside0.mk (Kd.R_lower (Kd.R_newM (M := fun k_ => (w.heap.size ≤ k_)) ho0 (below_size (Z1 HB GE378)) (fun k_ h_ => h_)) (below_size (Z1 HB GE378))); replace BK378 := Aside0.mk (blk_below (g := gb378) (o := .cells #[.int .i64 a1_0, .int .i64 a1_1, .int .i64 a1_2] 39 (0, 0)) (Z2 BK378) hb); replace HB := Aside0.mk (below_step (Z1 HB GE378) hb); (try clear hb); (try clear hb2); (try clear hk); (try clear hi); (try clear ho0)))
            go_ret2
            exact ⟨_, Z11, Kd.V_mono (Kd.R_V (Z53 HO410)) (fun k_ hk => Z73), Z1 HB GE378⟩
           ·rw [if_neg c46] at H
            have c46b0 : decide (0 < (l0.length : Int)) = false := decide_eq_false c46
            have c46b1 : decide (0 < l0.length) = false := decide_eq_false Z32
            clear c46
            simp only [Option.some.injEq, Prod.mk.injEq] at H
            obtain ⟨rfl, rfl⟩ := H
            have hcz50_0 : wc.cell? ⟨gb378, 0, none⟩ = some (.int .i64 a1_0) := (blk_cell BK378.out 0).trans rfl
            have hcz50_1 : wc.cell? ⟨gb378, 1, none⟩ = some (.int .i64 a1_1) := (blk_cell BK378.out 1).trans rfl
            have hcz50_2 : wc.cell? ⟨gb378, 2, none⟩ = some (.int .i64 a1_2) := (blk_cell BK378.out 2).trans rfl
            have hfz50_0 := blk_frozen BK378.out 0
            have hfz50_1 := blk_frozen BK378.out 1
            have hfz50_2 := blk_frozen BK378.out 2
            go_wp2
            go_ret2
            exact ⟨_, Z11, Z64 HO_0, Z1 HB GE378⟩
          ·rw [if_neg c45] at H
           have c45b0 : decide (0 < a1_1) = false := decide_eq_false c45
           clear c45
           simp only [Option.some.injEq, Prod.mk.injEq] at H
           obtain ⟨rfl, rfl⟩ := H
           have hcz51_0 : wc.cell? ⟨gb378, 0, none⟩ = some (.int .i64 a1_0) := (blk_cell BK378.out 0).trans rfl
           have hcz51_1 : wc.cell? ⟨gb378, 1, none⟩ = some (.int .i64 a1_1) := (blk_cell BK378.out 1).trans rfl
           have hcz51_2 : wc.cell? ⟨gb378, 2, none⟩ = some (.int .i64 a1_2) := (blk_cell BK378.out 2).trans rfl
           have hfz51_0 := blk_frozen BK378.out 0
           have hfz51_1 := blk_frozen BK378.out 1
           have hfz51_2 := blk_frozen BK378.out 2
           go_wp2
           go_ret2
           exact ⟨_, Z11, Z64 HO_0, Z1 HB GE378⟩
         ·rw [if_neg c44] at H
          have c44b0 : (a1_2 == 0) = false := beq_eq_false_iff_ne.mpr c44
          have c44b1 : (a1_2 != 0) = true := bne_iff_ne.mpr c44
          simp only [Option.some.injEq, Prod.mk.injEq] at H
          obtain ⟨rfl, rfl⟩ := H
          have hcz52_0 : wc.cell? ⟨gb378, 0, none⟩ = some (.int .i64 a1_0) := (blk_cell BK378.out 0).trans rfl
          have hcz52_1 : wc.cell? ⟨gb378, 1, none⟩ = some (.int .i64 a1_1) := (blk_cell BK378.out 1).trans rfl
          have hcz52_2 : wc.cell? ⟨gb378, 2, none⟩ = some (.int .i64 a1_2) := (blk_cell BK378.out 2).trans rfl
          have hfz52_0 := blk_frozen BK378.out 0
          have hfz52_1 := blk_frozen BK378.out 1
          have hfz52_2 := blk_frozen BK378.out 2
          go_wp2
          go_ret2
          exact ⟨_, Z11, Z64 HO_0, Z1 HB GE378⟩
        ·rw [if_neg c43] at H
         have c43b0 : (a1_0 == 3) = false := beq_eq_false_iff_ne.mpr c43
         have c43b1 : (a1_0 != 3) = true := bne_iff_ne.mpr c43
         simp only [Option.some.injEq, Prod.mk.injEq] at H
         obtain ⟨rfl, rfl⟩ := H
         have hcz53_0 : wc.cell? ⟨gb378, 0, none⟩ = some (.int .i64 a1_0) := (blk_cell BK378.out 0).trans rfl
         have hcz53_1 : wc.cell? ⟨gb378, 1, none⟩ = some (.int .i64 a1_1) := (blk_cell BK378.out 1).trans rfl
         have hcz53_2 : wc.cell? ⟨gb378, 2, none⟩ = some (.int .i64 a1_2) := (blk_cell BK378.out 2).trans rfl
         have hfz53_0 := blk_frozen BK378.out 0
         have hfz53_1 := blk_frozen BK378.out 1
         have hfz53_2 := blk_frozen BK378.out 2
         go_wp2
         go_ret2
         exact ⟨_, Z11, Z64 HO_0, Z1 HB GE378⟩

end Go.Proofs.YtmmoojkhlkjdkaaGreatDoor.PFnReadJournal
