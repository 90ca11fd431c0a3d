-- Printed by this claim's own program; Lean checks it.
import Derived.Test.YtmmoojkhlkjdkaaGreatDoorPFnReadJournalx0
import Derived.Test.YtmmoojkhlkjdkaaGreatDoorPFnReadJournalx4
import Derived.Test.YtmmoojkhlkjdkaaGreatDoorPFnReadJournalx10
namespace Go.Proofs.YtmmoojkhlkjdkaaGreatDoor.PFnReadJournal
open Go.RowKit Go.Proofs.YtmmoojkhlkjdkaaGreatDoorW.PrintWords Go.Proofs.YtmmoojkhlkjdkaaGreatDoorW.PrintLast Go.Proofs.YtmmoojkhlkjdkaaGreatDoorW.PrintMore
attribute [local go_sem] max2_int min2_int max_two min_two max_three min_three max_four min_four   -- for this text's walks alone
set_option linter.unusedVariables false
set_option linter.unusedSimpArgs false

/-! ### spec_ReadDeed: function 45 -/
mutual
def spec_ReadDeed.j0 : Nat → ByteArray → List ByteArray → List (S39) → Option (Int × Int × Int × Bool)
  | 0, _, _, _ => none
  | k + 1, x0, x4, x5 => if (x4.length : Int) = 2 then (if 1 < (x4.length : Int) then ((spec_l1Digits.f k (rdOf ByteArray.empty x4 1)).bind fun t294 => ((some (([(⟨2, t294, 0⟩ : S39), (⟨3, t294, 0⟩ : S39)] : List (S39)) : List (S39))).bind fun y295 => (if x5.length + y295.length < 5864062014805 then (spec_ReadDeed.j1 k x0 (x5 ++ y295)) else (none)))) else (none)) else (spec_ReadDeed.j1 k x0 x5)
def spec_ReadDeed.j1 : Nat → ByteArray → List (S39) → Option (Int × Int × Int × Bool)
  | 0, _, _ => none
  | k + 1, x0, x5 => spec_ReadDeed.l0 k x0 x5 0
def spec_ReadDeed.l0 : Nat → ByteArray → List (S39) → Int → Option (Int × Int × Int × Bool)
  | 0, _, _, _ => none
  | k + 1, x0, x5, x7 => if x7 < (x5.length : Int) then (if x0.toList = ([] : List UInt8) then (spec_ReadDeed.l0 k x0 x5 (wrap64 (x7 + 1))) else (if 0 ≤ x7 then ((spec_DeedText.f k ((rd_T39 x5 x7).f0) ((rd_T39 x5 x7).f1) ((rd_T39 x5 x7).f2)).bind fun t302 => (if t302.toList = x0.toList then (some ((rd_T39 x5 x7).f0, (rd_T39 x5 x7).f1, (rd_T39 x5 x7).f2, true)) else (spec_ReadDeed.l0 k x0 x5 (wrap64 (x7 + 1))))) else (none))) else (some (0, 0, 0, false))
end
def spec_ReadDeed.f (k : Nat) (a0 : ByteArray) : Option (Int × Int × Int × Bool) := (spec_l1Cut.f k a0 32).bind fun t280 => ((some (([(⟨1, 0, 0⟩ : S39), (⟨4, 0, 0⟩ : S39)] : List (S39)) : List (S39))).bind fun y283 => (if (t280.length : Int) = 3 then (if 1 < (t280.length : Int) then ((spec_l1Digits.f k (rdOf ByteArray.empty t280 1)).bind fun t287 => (if 2 < (t280.length : Int) then ((spec_l1Digits.f k (rdOf ByteArray.empty t280 2)).bind fun t289 => (if y283.length < 5864062014805 then (spec_ReadDeed.j0 k a0 t280 (y283 ++ [(⟨0, t287, t289⟩ : S39)])) else (none))) else (none))) else (none)) else (spec_ReadDeed.j0 k a0 t280 y283)))
def spec_ReadDeed.T4 : Bool × List (List Nat × List Nat) := (true, [([], []), ([], []), ([1], [1]), ([2], [2]), ([3], [3]), ([], []), ([5], [5]), ([6], [6]), ([7, 4], [7]), ([4, 8], [4, 8]), ([9], [9]), ([0, 10, 8], [0, 10]), ([11, 11, 0, 1, 2, 3, 4, 5, 6, 7, 8, 9, 10, 11], [0, 11])])
def spec_ReadDeed.B4 : List Nat := [0, 0, 2, 6, 14, 0, 32, 96, 254, 510, 1022, 2047, 4095]
theorem spec_ReadDeed.tab4 : rtab .any (opsOf Tryz.f45 4) = spec_ReadDeed.T4 := by kernel_rfl
theorem spec_ReadDeed.bits4 : waitsOk spec_ReadDeed.T4.2 spec_ReadDeed.B4 = true := by kernel_rfl
set_option maxHeartbeats 8000000 in
set_option maxRecDepth 100000 in
theorem spec_ReadDeed.calls (k : Nat) (a0 : ByteArray) (r1 : Int) (r2 : Int) (r3 : Int) (r4 : Bool) (w : World) (h : spec_ReadDeed.f k a0 = some (r1, r2, r3, r4)) :
 Calls Tryz.prog 45 #[.string a0] w fun e w' => e = .returned (.tuple #[.agg #[.int .i64 r1, .int .i64 r2, .int .i64 r3], .bool r4]) ∧ Below w.heap.size w w' := by
 have hu39 := Tryz.underlying39
 have HB := Aside0.mk (Below.refl w.heap.size w)
 have H : ((spec_l1Cut.f k a0 32).bind fun t280 => ((some (([(⟨1, 0, 0⟩ : S39), (⟨4, 0, 0⟩ : S39)] : List (S39)) : List (S39))).bind fun y283 => (if (t280.length : Int) = 3 then (if 1 < (t280.length : Int) then ((spec_l1Digits.f k (rdOf ByteArray.empty t280 1)).bind fun t287 => (if 2 < (t280.length : Int) then ((spec_l1Digits.f k (rdOf ByteArray.empty t280 2)).bind fun t289 => (if y283.length < 5864062014805 then (spec_ReadDeed.j0 k a0 t280 (y283 ++ [(⟨0, t287, t289⟩ : S39)])) else (none))) else (none))) else (none)) else (spec_ReadDeed.j0 k a0 t280 y283)))) = some (r1, r2, r3, r4) := h
 clear h
 replace H := Option.bind_eq_some_iff.mp H
 obtain ⟨t280, A20, H⟩ := H
 replace H : ((some (([(⟨1, 0, 0⟩ : S39), (⟨4, 0, 0⟩ : S39)] : List (S39)) : List (S39))).bind fun y283 => (if (t280.length : Int) = 3 then (if 1 < (t280.length : Int) then ((spec_l1Digits.f k (rdOf ByteArray.empty t280 1)).bind fun t287 => (if 2 < (t280.length : Int) then ((spec_l1Digits.f k (rdOf ByteArray.empty t280 2)).bind fun t289 => (if y283.length < 5864062014805 then (spec_ReadDeed.j0 k a0 t280 (y283 ++ [(⟨0, t287, t289⟩ : S39)])) else (none))) else (none))) else (none)) else (spec_ReadDeed.j0 k a0 t280 y283))) = some (r1, r2, r3, r4) := H
 have A2 := Aside0.mk A20
 clear A20
 obtain ⟨y283, hy283⟩ : ∃ y_ : List (S39), y_ = (([(⟨1, 0, 0⟩ : S39), (⟨4, 0, 0⟩ : S39)] : List (S39))) := ⟨_, rfl⟩
 replace H : (if (t280.length : Int) = 3 then (if 1 < (t280.length : Int) then ((spec_l1Digits.f k (rdOf ByteArray.empty t280 1)).bind fun t287 => (if 2 < (t280.length : Int) then ((spec_l1Digits.f k (rdOf ByteArray.empty t280 2)).bind fun t289 => (if y283.length < 5864062014805 then (spec_ReadDeed.j0 k a0 t280 (y283 ++ [(⟨0, t287, t289⟩ : S39)])) else (none))) else (none))) else (none)) else (spec_ReadDeed.j0 k a0 t280 y283)) = some (r1, r2, r3, r4) := Z5 hy283
 have Ny283 := Aside0.mk hy283
 clear hy283
 have HC3 := Aside0.mk H
 clear H
 go_enter Tryz.func45, Tryz.ntmps45
 go_upto_if 15 with (first | ((with_reducible refine gate_dst (N := 2) rfl ?_); refine bE_ 2 #[.int .i64 0, .int .i64 0, .int .i64 0] 39 ?_; intro gb279 hg w4 hbox hb; have BK279 := Aside0.mk (hbox); have GW279 := Aside0.mk ((by rw [hg]; exact (below_size (Z0 HB)) : w.heap.size ≤ gb279)); have GE279 := Aside0.mk ((by rw [hg]; exact (below_size (Z0 HB)) : w.heap.size ≤ gb279)); replace HB := Aside0.mk (below_step (Z0 HB) hb); clear hb hbox hg) | ((with_reducible refine gate_callee (f := 69) rfl ?_); refine gL_ 9 Tryz.func69 #[.string a0, .int .u8 32] ?_; (with_reducible refine (spec_l1Cut.calls k a0 32 t280 _ A2.out).mono ?_); rintro e w5 ⟨v281, rfl, ho0, hb⟩; refine ⟨_, rfl, ?_⟩; have HO282 := Aside0.mk (Kd.R_lower ho0 (below_size (Z1 HB GE279))); replace BK279 := Aside0.mk (blk_below (g := gb279) (o := .cells #[.int .i64 0, .int .i64 0, .int .i64 0] 39 (0, 0)) (Z2 BK279) hb); replace HB := Aside0.mk (below_step (Z1 HB GE279) hb); (try clear hb); (try clear hb2); (try clear hk); (try clear hi); (try clear ho0)) | ((with_reducible refine gate_dst (N := 12) rfl ?_); refine Kd.R_lit k39 _ 39 ?hg (N := 12) ?hd (xs := ([(⟨1, 0, 0⟩ : S39), (⟨4, 0, 0⟩ : S39)] : List (S39))) (inner := [.int .i64 1, .int .i64 0, .int .i64 0, .int .i64 4, .int .i64 0, .int .i64 0]) (ok := fun _ => True) (okp := fun _ => True) ?hr ?hp (fun _ hk => hk) trivial (Below.refl _ _) (Nat.le_refl _) Z33 ?_; (case hd => exact Z90); (case hg => exact Z90); (case hr => exact Z29); (case hp => exact (Reps.c3 (show Kd.M k39 _ _ _ (⟨1, 0, 0⟩ : S39) [.int .i64 1, .int .i64 0, .int .i64 0] from (k39_mkM _ _ _ (⟨1, 0, 0⟩ : S39) )) (Reps.c3 (show Kd.M k39 _ _ _ (⟨4, 0, 0⟩ : S39) [.int .i64 4, .int .i64 0, .int .i64 0] from (k39_mkM _ _ _ (⟨4, 0, 0⟩ : S39) )) (Reps.none _ _)))); intro v284 w6 ho7 hb hg_ hnew_; clear hg_ hnew_; (first | rw [← Ny283.out] at ho7 | (simp only [Int.reduceToNat] at ho7; rw [← Ny283.out] at ho7)); replace HO282 := Aside0.mk (Kd.R_below (Z4 HO282) hb); have HO285 := Aside0.mk (Kd.R_lower (Kd.R_newB ho7 (g := gb279) (o := .cells #[.int .i64 0, .int .i64 0, .int .i64 0] 39 (0, 0)) (Z2 BK279)) (below_size (Z1 HB GE279))); replace BK279 := Aside0.mk (blk_below (g := gb279) (o := .cells #[.int .i64 0, .int .i64 0, .int .i64 0] 39 (0, 0)) (Z2 BK279) hb); replace HB := Aside0.mk (below_step (Z1 HB GE279) hb); clear hb ho7; obtain ⟨Ao8, co8, eo8⟩ := Kd.R_slice HO282.out; subst eo8))
 (try simp only [Act.put, List.setIfInBounds_toArray, List.set_cons_zero, List.set_cons_succ])
 go_cut [5] (fun v5 wc => ∃ (kq : Nat) (x5_2 : List (S39)), Aside0 (spec_ReadDeed.j0 kq a0 t280 x5_2 = some (r1, r2, r3, r4)) ∧ Aside0 (kq ≤ k) ∧ Aside0 (Kd.R Kd.string 9 wc w.heap.size (fun _ => True) (.slice Ao8 t280.length co8) t280) ∧ Aside0 (Kd.R k39 39 wc w.heap.size (fun k_ => k_ ≠ gb279) v5 x5_2) ∧ Aside0 (wc.heap[gb279]? = some (.cells #[.int .i64 0, .int .i64 0, .int .i64 0] 39 (0, 0))) ∧ Aside0 (Below w.heap.size w wc))
 case first =>
  have H := HC3.out
  clear HC3
  by_cases c9 : (t280.length : Int) = 3
  ·rw [if_pos c9] at H
   have c9b0 : ((t280.length : Int) == 3) = true := beq_iff_eq.mpr c9
   have c9b1 : ((t280.length : Int) != 3) = false := bne_eq_false_iff_eq.mpr c9
   clear c9
   (first | rw [c9b0] | (simp only [i64_w, i32_w]; rw [c9b0]) | skip)
   by_cases c10 : 1 < (t280.length : Int)
   ·rw [if_pos c10] at H
    have c10b0 : decide (1 < (t280.length : Int)) = true := decide_eq_true c10
    have c10b1 : decide (1 < t280.length) = true := decide_eq_true Z32
    clear c10
    replace H := Option.bind_eq_some_iff.mp H
    obtain ⟨t287, A110, H⟩ := H
    replace H : (if 2 < (t280.length : Int) then ((spec_l1Digits.f k (rdOf ByteArray.empty t280 2)).bind fun t289 => (if y283.length < 5864062014805 then (spec_ReadDeed.j0 k a0 t280 (y283 ++ [(⟨0, t287, t289⟩ : S39)])) else (none))) else (none)) = some (r1, r2, r3, r4) := H
    have A11 := Aside0.mk A110
    clear A110
    by_cases c12 : 2 < (t280.length : Int)
    ·rw [if_pos c12] at H
     have c12b0 : decide (2 < (t280.length : Int)) = true := decide_eq_true c12
     have c12b1 : decide (2 < t280.length) = true := decide_eq_true Z32
     clear c12
     replace H := Option.bind_eq_some_iff.mp H
     obtain ⟨t289, A130, H⟩ := H
     replace H : (if y283.length < 5864062014805 then (spec_ReadDeed.j0 k a0 t280 (y283 ++ [(⟨0, t287, t289⟩ : S39)])) else (none)) = some (r1, r2, r3, r4) := H
     have A13 := Aside0.mk A130
     clear A130
     by_cases c14 : y283.length < 5864062014805
     ·rw [if_pos c14] at H
      have LMc14 := Aside0.mk c14
      clear c14
      obtain ⟨y290, hy290⟩ : ∃ y_ : List (S39), y_ = (y283 ++ [(⟨0, t287, t289⟩ : S39)]) := ⟨_, rfl⟩
      replace H : (spec_ReadDeed.j0 k a0 t280 y290) = some (r1, r2, r3, r4) := Z5 hy290
      have Ny290 := Aside0.mk hy290
      clear hy290
      have H' := Aside0.mk H
      clear H
      try go_wp2
      replace HO282 := Aside0.mk (Kd.R_drew HO282.out)
      replace HO285 := Aside0.mk (Kd.R_drew HO285.out)
      replace BK279 := Aside0.mk (blk_drew BK279.out)
      replace HB := Aside0.mk (below_drew1 HB.out)
      have p286 : 0 ≤ (1 : Int) := Z32
      have q286 : 1 < (t280.length : Int) := of_decide_eq_true Z10
      obtain ⟨ad286, e286, hx286_0⟩ := Kd.at_string (Kd.R_reads' HO282.out).2.2 1 p286 q286
      cases e286
      (try simp only [show (1 : Int).toNat = 1 from rfl, Nat.reduceMul, Nat.reduceEqDiff, Go.Addr.add, ↓reduceIte] at hx286_0)
      have qi286 : (1 < t280.length) = True := eq_true Z32
      (try rw [show ((1 : Int)).toNat = 1 from rfl] at hx286_0)
      replace p286 := eq_true p286
      replace q286 := eq_true q286
      have p288 : 0 ≤ (2 : Int) := Z32
      have q288 : 2 < (t280.length : Int) := of_decide_eq_true Z10
      obtain ⟨ad288, e288, hx288_0⟩ := Kd.at_string (Kd.R_reads' HO282.out).2.2 2 p288 q288
      obtain rfl : ad286 = ad288 := (by injection e288)
      (try simp only [show (2 : Int).toNat = 2 from rfl, Nat.reduceMul, Nat.reduceEqDiff, Go.Addr.add, ↓reduceIte] at hx288_0)
      have qi288 : (2 < t280.length) = True := eq_true Z32
      (try rw [show ((2 : Int)).toNat = 2 from rfl] at hx288_0)
      replace p288 := eq_true p288
      replace q288 := eq_true q288
      refine start_ (n := 13) (S := fun w' => w'.cell? ⟨ad286.block, ad286.off + 1, none⟩ = some (.string (rdOf ByteArray.empty t280 1)) ∧ w'.cell? ⟨ad286.block, ad286.off + 2, none⟩ = some (.string (rdOf ByteArray.empty t280 2))) (ds := [10, 11]) (bB 13 0) Z15 rfl Z15 ⟨hx286_0, hx288_0⟩ (fun hHeld => ?_); refine with_tabW spec_ReadDeed.tab4 spec_ReadDeed.bits4 (fun HT_ HW_ => ?_)
      generalize w6.drew = w15 at HO282 HO285 BK279 HB hx286_0 hx288_0 hHeld ⊢
      refine pu_ 0 (some 16) (bB 13 1) ?_
      refine pu_ 1 (some 17) (bB 13 3) ?_
      refine pu_ 2 (some 18) (bB 13 7) ?_
      refine pu_ 5 (some 21) (bB 13 39) ?_
      refine pu_ 6 (some 22) (bB 13 103) ?_
      refine take_ (i := 3) (N := some 19) (v := ?_) (a' := ?_) (bB 13 111) rfl rfl (take_ofW HT_.out HW_.out Z15) (fun _ _ _ h => h) (Or.inl ⟨Z90, ?_⟩) hHeld ?_ ?_
      rotate_left
      ·rintro w' ⟨s0, s1⟩
       go_simp
       with_reducible rfl
      rotate_left
      ·simp only [Act.put, List.setIfInBounds_toArray, List.set_cons_zero, List.set_cons_succ, i64_w, i32_w]
       rfl
      refine take_ (i := 7) (N := some 23) (v := ?_) (a' := ?_) (bB 13 239) rfl rfl (take_ofW HT_.out HW_.out Z15) (fun _ _ _ h => h) (Or.inl ⟨Z90, ?_⟩) hHeld ?_ ?_
      rotate_left
      ·rintro w' ⟨s0, s1⟩
       go_simp
       with_reducible rfl
      rotate_left
      ·simp only [Act.put, List.setIfInBounds_toArray, List.set_cons_zero, List.set_cons_succ, i64_w, i32_w]
       rfl
      refine one_ (i := 4) (N := some 20) (bB 13 255) rfl rfl (one_of HT_.out Z15) Z28 (fun K hK => ?_)
      refine goes_ Tryz.func70 Z15 rfl #[.string (rdOf ByteArray.empty t280 1)] Z90 rfl rfl Z23 ?_
      with_reducible refine (spec_l1Digits.calls k (rdOf ByteArray.empty t280 1) t287 _ A11.out).mono ?_
      rintro e w' ⟨rfl, ⟨nd, rfl⟩⟩
      refine ⟨_, rfl, ?_⟩
      refine hK.out _ _ ⟨hHeld.1, hHeld.2⟩ (fun hHeld => ?_)
      clear hK K
      refine nr_ ?_
      refine one_ (i := 8) (N := some 24) (bB 13 511) rfl rfl (one_of HT_.out Z15) Z28 (fun K hK => ?_)
      refine goes_ Tryz.func70 Z15 rfl #[.string (rdOf ByteArray.empty t280 2)] Z90 rfl rfl Z23 ?_
      with_reducible refine (spec_l1Digits.calls k (rdOf ByteArray.empty t280 2) t289 _ A13.out).mono ?_
      rintro e w' ⟨rfl, ⟨nd, rfl⟩⟩
      refine ⟨_, rfl, ?_⟩
      refine hK.out _ _ ⟨hHeld.1, hHeld.2⟩ (fun hHeld => ?_)
      clear hK K
      refine nr_ ?_
      refine pu_ 9 (some 25) (bB 13 1023) ?_
      refine last_ (i := 10) (N := some 26) (bB 13 2047) rfl rfl (one_of HT_.out Z15) Z28 (fun K hK => ?_)
      refine value_ (w1 := ?_) (v := ?_) Z90 rfl ?_ ?_
      rotate_left 2
      ·go_simp
       constructor
       ·rfl
       ·rfl
      refine hK.out _ _ ?_
      clear hK K
      refine nr_ ?_
      refine last_ (i := 11) (N := some 27) (bB 13 4095) rfl rfl (one_of HT_.out Z15) Z28 (fun K hK => ?_)
      refine Kd.R_append_step k39 (w0 := w) w.heap.size Z90 (.tmp 16) (.tmp 26) 24 39 (.agg #[(.int .i64 0), (.int .i64 0), (.int .i64 0)]) 24 rfl Tryz.underlying24 info39 rfl Z28 Z32 v284 y283 (⟨0, t287, t289⟩ : S39) [.int .i64 0, .int .i64 t287, .int .i64 t289] (fun k_ => k_ ≠ gb279) (fun _ => False) rfl rfl ?aP (fun _ hk => hk.elim) ?aF ?aO ?aB ?aS ?aL ?_
      (case aP => exact k39_mkM _ _ _ (⟨0, t287, t289⟩ : S39))
      (case aB => exact (Z1 HB GE279))
      (case aF => exact (fun k_ hk => Kd.freshB (g := gb279) (o := .cells #[.int .i64 0, .int .i64 0, .int .i64 0] 39 (0, 0)) (Z2 BK279) k_ hk))
      (case aO => exact (Z46 HO285))
      (case aS => exact (below_size (Z1 HB GE279)))
      (case aL => exact Z35 LMc14)
      intro v291 w16 ho hb hg hat
      rw [← Ny290.out] at ho
      replace BK279 := Aside0.mk (blk_grown (g := gb279) (o := .cells #[.int .i64 0, .int .i64 0, .int .i64 0] 39 (0, 0)) (Z2 BK279) hg (Kd.R_away HO285.out (fun _ hk => hk.2)))
      replace HO282 := Aside0.mk (Kd.R_over' (Z4 HO282) (Kd.R_typed (Z4 HO285)) Z28 hg)
      replace HB := Aside0.mk (hb)
      have HO292 := Aside0.mk (ho)
      clear HO285
      clear ho hb hg hat
      refine hK.out _ _ ?_
      clear hK K
      refine nr_ ?_
      refine pu_ 12 (some 5) (bB 13 8191) ?_
      refine done_ (done_of HT_.out Z15) ?_
      try go_wp2
      go_meet
      case rel => exact ⟨_, (y290), H', ⟨Z39⟩, ⟨Z4 HO282⟩, ⟨Z4 HO292⟩, ⟨Z2 BK279⟩, ⟨Z1 HB GE279⟩⟩
     ·rw [if_neg c14] at H
      exact absurd H Z33
    ·rw [if_neg c12] at H
     exact absurd H Z33
   ·rw [if_neg c10] at H
    exact absurd H Z33
  ·rw [if_neg c9] at H
   have c9b0 : ((t280.length : Int) == 3) = false := beq_eq_false_iff_ne.mpr c9
   have c9b1 : ((t280.length : Int) != 3) = true := bne_iff_ne.mpr c9
   (first | rw [c9b0] | (simp only [i64_w, i32_w]; rw [c9b0]) | skip)
   have H' := Aside0.mk H
   clear H
   go_wp2
   go_meet
   case rel => exact ⟨_, (y283), H', ⟨Z39⟩, ⟨Z4 HO282⟩, ⟨Z46 HO285⟩, ⟨Z2 BK279⟩, ⟨Z1 HB GE279⟩⟩
 case rest =>
  clear HC3
  try clear c1
  try clear p2
  try clear q2
  try clear hx2
  try clear qi2
  try clear c3
  try clear c4
  try clear c6
  try clear c7
  try clear c9
  try clear c9b0
  try clear c9b1
  try clear c10
  try clear c10b0
  try clear c10b1
  try clear c12
  try clear c12b0
  try clear c12b1
  try clear c14
  try clear hx286_0
  try clear hx288_0
  try clear p286
  try clear p288
  try clear q286
  try clear q288
  obtain ⟨kq, x5_2, HA, HJ2, HO_4, HO_5, BK279, HB⟩ := hcut
  cases kq with
  | zero => exact absurd HA.out (by simp [spec_ReadDeed.j0])
  | succ kj2 =>
   have H := HA.out
   clear HA
   simp only [spec_ReadDeed.j0] at H
   have HC17 := Aside0.mk H
   clear H
   go_upto_if 30 with (fail)
   go_cut [5] (fun v5 wc => ∃ (kq : Nat) (x5_16 : List (S39)), Aside0 (spec_ReadDeed.j1 kq a0 x5_16 = some (r1, r2, r3, r4)) ∧ Aside0 (kq ≤ kj2) ∧ Aside0 (Kd.R k39 39 wc w.heap.size (fun k_ => k_ ≠ gb279) v5 x5_16) ∧ Aside0 (wc.heap[gb279]? = some (.cells #[.int .i64 0, .int .i64 0, .int .i64 0] 39 (0, 0))) ∧ Aside0 (Below w.heap.size w wc))
   case first =>
    have H := HC17.out
    clear HC17
    by_cases c18 : (t280.length : Int) = 2
    ·rw [if_pos c18] at H
     have c18b0 : ((t280.length : Int) == 2) = true := beq_iff_eq.mpr c18
     have c18b1 : ((t280.length : Int) != 2) = false := bne_eq_false_iff_eq.mpr c18
     clear c18
     (first | rw [c18b0] | (simp only [i64_w, i32_w]; rw [c18b0]) | skip)
     by_cases c19 : 1 < (t280.length : Int)
     ·rw [if_pos c19] at H
      have c19b0 : decide (1 < (t280.length : Int)) = true := decide_eq_true c19
      have c19b1 : decide (1 < t280.length) = true := decide_eq_true Z32
      clear c19
      replace H := Option.bind_eq_some_iff.mp H
      obtain ⟨t294, A200, H⟩ := H
      replace H : ((some (([(⟨2, t294, 0⟩ : S39), (⟨3, t294, 0⟩ : S39)] : List (S39)) : List (S39))).bind fun y295 => (if x5_2.length + y295.length < 5864062014805 then (spec_ReadDeed.j1 kj2 a0 (x5_2 ++ y295)) else (none))) = some (r1, r2, r3, r4) := H
      have A20 := Aside0.mk A200
      clear A200
      obtain ⟨y295, hy295⟩ : ∃ y_ : List (S39), y_ = (([(⟨2, t294, 0⟩ : S39), (⟨3, t294, 0⟩ : S39)] : List (S39))) := ⟨_, rfl⟩
      replace H : (if x5_2.length + y295.length < 5864062014805 then (spec_ReadDeed.j1 kj2 a0 (x5_2 ++ y295)) else (none)) = some (r1, r2, r3, r4) := Z5 hy295
      have Ny295 := Aside0.mk hy295
      clear hy295
      by_cases c21 : x5_2.length + y295.length < 5864062014805
      ·rw [if_pos c21] at H
       have LMc21 := Aside0.mk c21
       clear c21
       obtain ⟨y298, hy298⟩ : ∃ y_ : List (S39), y_ = (x5_2 ++ y295) := ⟨_, rfl⟩
       replace H : (spec_ReadDeed.j1 kj2 a0 y298) = some (r1, r2, r3, r4) := Z5 hy298
       have Ny298 := Aside0.mk hy298
       clear hy298
       have H' := Aside0.mk H
       clear H
       have p293 : 0 ≤ (1 : Int) := Z32
       have q293 : 1 < (t280.length : Int) := of_decide_eq_true Z10
       obtain ⟨ad293, e293, hx293_0⟩ := Kd.at_string (Kd.R_reads' HO_4.out).2.2 1 p293 q293
       cases e293
       (try simp only [show (1 : Int).toNat = 1 from rfl, Nat.reduceMul, Nat.reduceEqDiff, Go.Addr.add, ↓reduceIte] at hx293_0)
       have qi293 : (1 < t280.length) = True := eq_true Z32
       (try rw [show ((1 : Int)).toNat = 1 from rfl] at hx293_0)
       replace p293 := eq_true p293
       replace q293 := eq_true q293
       go_wp2_with (first | ((with_reducible refine gate_callee (f := 70) rfl ?_); refine gL_ 34 Tryz.func70 #[.string (rdOf ByteArray.empty t280 1)] ?_; (with_reducible refine (spec_l1Digits.calls kj2 (rdOf ByteArray.empty t280 1) t294 _ A20.out).mono ?_); rintro e w' ⟨rfl, ⟨nd, rfl⟩⟩; refine ⟨_, rfl, ?_⟩) | ((with_reducible refine gate_dst (N := 40) rfl ?_); refine Kd.R_lit k39 _ 39 ?hg (N := 40) ?hd (xs := ([(⟨2, t294, 0⟩ : S39), (⟨3, t294, 0⟩ : S39)] : List (S39))) (inner := [.int .i64 2, .int .i64 t294, .int .i64 0, .int .i64 3, .int .i64 t294, .int .i64 0]) (ok := fun _ => True) (okp := fun _ => True) ?hr ?hp (fun _ hk => hk) trivial (Below.refl _ _) (Nat.le_refl _) Z33 ?_; (case hd => exact Z90); (case hg => exact Z90); (case hr => exact Z29); (case hp => exact (Reps.c3 (show Kd.M k39 _ _ _ (⟨2, t294, 0⟩ : S39) [.int .i64 2, .int .i64 t294, .int .i64 0] from (k39_mkM _ _ _ (⟨2, t294, 0⟩ : S39) )) (Reps.c3 (show Kd.M k39 _ _ _ (⟨3, t294, 0⟩ : S39) [.int .i64 3, .int .i64 t294, .int .i64 0] from (k39_mkM _ _ _ (⟨3, t294, 0⟩ : S39) )) (Reps.none _ _)))); intro v296 w22 ho23 hb hg_ hnew_; clear hg_ hnew_; (first | rw [← Ny295.out] at ho23 | (simp only [Int.reduceToNat] at ho23; rw [← Ny295.out] at ho23)); replace HO_4 := Aside0.mk (Kd.R_below (Z4 HO_4) hb); have HO297 := Aside0.mk (Kd.R_lower (Kd.R_newB (Kd.R_new' ho23 (Kd.R_lt (Z4 HO_5))) (g := gb279) (o := .cells #[.int .i64 0, .int .i64 0, .int .i64 0] 39 (0, 0)) (Z2 BK279)) (below_size (Z1 HB GE279))); replace HO_5 := Aside0.mk (Kd.R_elder' (Z4 HO_5) (Kd.R_base ho23) hb); replace BK279 := Aside0.mk (blk_below (g := gb279) (o := .cells #[.int .i64 0, .int .i64 0, .int .i64 0] 39 (0, 0)) (Z2 BK279) hb); replace HB := Aside0.mk (below_step (Z1 HB GE279) hb); clear hb ho23; obtain ⟨Ao25, co25, eo25⟩ := Kd.R_slice HO297.out; subst eo25) | ((with_reducible refine gate_builtin (b := .append) (xs := #[.tmp 35, .tmp 40]) rfl ?_); at_builtin; refine Kd.R_append_rows k39 (w0 := w) w.heap.size rfl (.tmp 35) (.tmp 40) 24 39 (.agg #[(.int .i64 0), (.int .i64 0), (.int .i64 0)]) 24 rfl Tryz.underlying24 info39 rfl Z28 Z32 u5 x5_2 y295 _ _ _ (fun k_ => some k_ ≠ (.slice Ao25 y295.length co25 : Value).ownBlock ∧ k_ ≠ gb279) (fun _ => False) rfl rfl ?aO ?aR (fun _ _ h => h) (fun _ h => h.elim) ?aF ?aB ?aS ?aL ?_; (case aR => exact Z26 HO297); (case aB => exact (Z1 HB GE279)); (case aF => exact (fun k_ hk => ⟨Kd.fresh' (Kd.R_lt (Z4 HO297)) k_ hk, Kd.freshB (g := gb279) (o := .cells #[.int .i64 0, .int .i64 0, .int .i64 0] 39 (0, 0)) (Z2 BK279) k_ hk⟩)); (case aO => exact (by (with_reducible repeat (first | apply Kd.R_alloc | apply Kd.R_drewN | apply Kd.R_drew)); exact Kd.R_mono HO_5.out (fun _ hk => ⟨hk.2, hk.1⟩))); (case aS => exact (below_size (Z1 HB GE279))); (case aL => exact Z35 LMc21); intro v299 w24 ho hb hg hat; rw [← Ny298.out] at ho; replace HO_4 := Aside0.mk (Kd.R_over' (Z4 HO_4) (Kd.R_typed (Z4 HO_5)) Z28 hg); replace BK279 := Aside0.mk (blk_grown (g := gb279) (o := .cells #[.int .i64 0, .int .i64 0, .int .i64 0] 39 (0, 0)) (Z2 BK279) hg (Kd.R_away HO_5.out (fun _ hk => hk.1))); replace HO297 := Aside0.mk (Kd.R_after (ok := (fun k_ => k_ ≠ gb279)) (by (with_reducible repeat (first | apply Kd.R_alloc | apply Kd.R_drewN | apply Kd.R_drew)); exact Kd.R_mono HO297.out (fun _ hk => ⟨hk.2, hk.1.2⟩)) hg hat); replace HB := Aside0.mk (hb); have HO300 := Aside0.mk (ho); clear HO_5; clear ho hb hg hat))
       go_meet
       case rel => exact ⟨_, (y298), H', ⟨Z50 HJ2⟩, ⟨Z46 HO300⟩, ⟨Z2 BK279⟩, ⟨Z1 HB GE279⟩⟩
      ·rw [if_neg c21] at H
       exact absurd H Z33
     ·rw [if_neg c19] at H
      exact absurd H Z33
    ·rw [if_neg c18] at H
     have c18b0 : ((t280.length : Int) == 2) = false := beq_eq_false_iff_ne.mpr c18
     have c18b1 : ((t280.length : Int) != 2) = true := bne_iff_ne.mpr c18
     (first | rw [c18b0] | (simp only [i64_w, i32_w]; rw [c18b0]) | skip)
     have H' := Aside0.mk H
     clear H
     go_wp2
     go_meet
     case rel => exact ⟨_, (x5_2), H', ⟨Z50 HJ2⟩, ⟨Z4 HO_5⟩, ⟨Z2 BK279⟩, ⟨Z1 HB GE279⟩⟩
   case rest =>
    clear HC17
    try clear c1
    try clear c2
    try clear p2
    try clear q2
    try clear hx2
    try clear qi2
    try clear c3
    try clear c4
    try clear c6
    try clear c7
    try clear c9
    try clear c9b0
    try clear c9b1
    try clear c10
    try clear c10b0
    try clear c10b1
    try clear c12
    try clear c12b0
    try clear c12b1
    try clear c14
    try clear c18
    try clear c18b0
    try clear c18b1
    try clear c19
    try clear c19b0
    try clear c19b1
    try clear c21
    try clear hx286_0
    try clear hx288_0
    try clear hx293_0
    try clear p2
    try clear p286
    try clear p288
    try clear p293
    try clear q2
    try clear q286
    try clear q288
    try clear q293
    obtain ⟨kq, x5_16, HA, HJ16, HO_5, BK279, HB⟩ := hcut
    cases kq with
    | zero => exact absurd HA.out (by simp [spec_ReadDeed.j1])
    | succ kj16 =>
     have H := HA.out
     clear HA
     simp only [spec_ReadDeed.j1] at H
     have H' := Aside0.mk H
     clear H
     go_wp2
     go_loopg [7] kj16 (fun kq v7 w' => ∃ (x7_3 : Int) (x280000_3 : Int) (x280001_3 : Int) (x280002_3 : Int), v7 = .int .i64 x7_3 ∧ Aside0 (spec_ReadDeed.l0 kq a0 x5_16 x7_3 = some (r1, r2, r3, r4)) ∧ Aside0 (kq ≤ kj16) ∧ Aside0 (Kd.R k39 39 w' w.heap.size (fun k_ => k_ ≠ gb279) u5 x5_16) ∧ Aside0 (w'.heap[gb279]? = some (.cells #[.int .i64 x280000_3, .int .i64 x280001_3, .int .i64 x280002_3] 39 (0, 0))) ∧ Aside0 (Below w.heap.size w w'))
     case atStart => exact ⟨(0), (0), (0), (0), Z14, H', ⟨Nat.le_refl _⟩, ⟨Z4 HO_5⟩, ⟨Z2 BK279⟩, ⟨Z1 HB GE279⟩⟩
     case round =>
      clear H'
      try clear c1
      try clear c2
      try clear p2
      try clear q2
      try clear hx2
      try clear qi2
      try clear c3
      try clear c4
      try clear c6
      try clear c7
      try clear c9
      try clear c9b0
      try clear c9b1
      try clear c10
      try clear c10b0
      try clear c10b1
      try clear c12
      try clear c12b0
      try clear c12b1
      try clear c14
      try clear c18
      try clear c18b0
      try clear c18b1
      try clear c19
      try clear c19b0
      try clear c19b1
      try clear c21
      try clear hx286_0
      try clear hx288_0
      try clear hx293_0
      try clear p2
      try clear p286
      try clear p288
      try clear p293
      try clear q2
      try clear q286
      try clear q288
      try clear q293
      obtain ⟨x7_3, x280000_3, x280001_3, x280002_3, rfl, HA, HK3, HO_5, BK279, HB⟩ := hrel
      cases gk with
      | zero => exact absurd HA.out (by simp [spec_ReadDeed.l0])
      | succ k3 =>
       have H := HA.out
       clear HA
       simp only [spec_ReadDeed.l0] at H
       by_cases c26 : x7_3 < (x5_16.length : Int)
       ·rw [if_pos c26] at H
        have c26b0 : decide (x7_3 < (x5_16.length : Int)) = true := decide_eq_true c26
        clear c26
        by_cases c27 : a0.toList = ([] : List UInt8)
        ·rw [if_pos c27] at H
         have c27b0 : (a0.toList == ([] : List UInt8)) = true := beq_iff_eq.mpr c27
         have c27b1 : (a0.toList != ([] : List UInt8)) = false := bne_eq_false_iff_eq.mpr c27
         clear c27
         have H' := Aside0.mk H
         clear H
         obtain ⟨Ao28, co28, eo28⟩ := Kd.R_slice HO_5.out
         subst eo28
         go_wp2
         go_roundg k3
         case measure => have := HJ2.out; have := HJ16.out; have := HK3.out; omega
         case rel => exact ⟨(wrap64 (x7_3 + 1)), (x280000_3), (x280001_3), (x280002_3), Z14, H', ⟨Z71 HJ2 HJ16 HK3⟩, ⟨Z4 HO_5⟩, ⟨Z2 BK279⟩, ⟨Z1 HB GE279⟩⟩
        ·rw [if_neg c27] at H
         have c27b0 : (a0.toList == ([] : List UInt8)) = false := beq_eq_false_iff_ne.mpr c27
         have c27b1 : (a0.toList != ([] : List UInt8)) = true := bne_iff_ne.mpr c27
         by_cases c29 : 0 ≤ x7_3
         ·rw [if_pos c29] at H
          have c29b0 : decide (0 ≤ x7_3) = true := decide_eq_true c29
          clear c29
          replace H := Option.bind_eq_some_iff.mp H
          obtain ⟨t302, A300, H⟩ := H
          replace H : (if t302.toList = a0.toList then (some ((rd_T39 x5_16 x7_3).f0, (rd_T39 x5_16 x7_3).f1, (rd_T39 x5_16 x7_3).f2, true)) else (spec_ReadDeed.l0 k3 a0 x5_16 (wrap64 (x7_3 + 1)))) = some (r1, r2, r3, r4) := H
          have A30 := Aside0.mk A300
          clear A300
          by_cases c31 : t302.toList = a0.toList
          ·rw [if_pos c31] at H
           have c31b0 : (t302.toList == a0.toList) = true := beq_iff_eq.mpr c31
           have c31b1 : (t302.toList != a0.toList) = false := bne_eq_false_iff_eq.mpr c31
           clear c31
           simp only [Option.some.injEq, Prod.mk.injEq] at H
           obtain ⟨rfl, rfl, rfl, rfl⟩ := H
           obtain ⟨Ao32, co32, eo32⟩ := Kd.R_slice HO_5.out
           subst eo32
           have p301 : 0 ≤ (x7_3 : Int) := of_decide_eq_true Z10
           have q301 : x7_3 < (x5_16.length : Int) := of_decide_eq_true Z10
           obtain ⟨ad301, e301, hx301_0, hx301_1, hx301_2⟩ := at_T39 (Kd.R_reads' HO_5.out).2.2 x7_3 p301 q301
           cases e301
           replace p301 := eq_true p301
           replace q301 := eq_true q301
           go_wp2_with (first | (go_at_call 86; (with_reducible refine (spec_DeedText.calls k3 ((rd_T39 x5_16 x7_3).f0) ((rd_T39 x5_16 x7_3).f1) ((rd_T39 x5_16 x7_3).f2) t302 _ A30.out).mono ?_); rintro e w33 ⟨rfl, hb⟩; replace HO_5 := Aside0.mk (Kd.R_below (Z4 HO_5) hb); replace BK279 := Aside0.mk (blk_below (g := gb279) (o := .cells #[.int .i64 x280000_3, .int .i64 x280001_3, .int .i64 x280002_3] 39 (0, 0)) (Z2 BK279) hb); replace HB := Aside0.mk (below_step (Z1 HB GE279) hb); (try clear hb); (try clear hb2); (try clear hk); (try clear hi); have p303 : 0 ≤ (x7_3 : Int) := of_decide_eq_true Z10; have q303 : x7_3 < (x5_16.length : Int) := of_decide_eq_true Z10; obtain ⟨ad303, e303, hx303_0, hx303_1, hx303_2⟩ := at_T39 (Kd.R_reads' HO_5.out).2.2 x7_3 p303 q303; obtain rfl : ad301 = ad303 := (by injection e303); replace p303 := eq_true p303; replace q303 := eq_true q303; have hcz34_0 : w33.cell? ⟨gb279, 0, none⟩ = some (.int .i64 x280000_3) := (blk_cell BK279.out 0).trans rfl; have hcz34_1 : w33.cell? ⟨gb279, 1, none⟩ = some (.int .i64 x280001_3) := (blk_cell BK279.out 1).trans rfl; have hcz34_2 : w33.cell? ⟨gb279, 2, none⟩ = some (.int .i64 x280002_3) := (blk_cell BK279.out 2).trans rfl; have hfz34_0 := blk_frozen BK279.out 0; have hfz34_1 := blk_frozen BK279.out 1; have hfz34_2 := blk_frozen BK279.out 2))
           refine bodyPost_ret (results_ct rfl _ _ gb279 39 #[.int .i64 ((rd_T39 x5_16 x7_3).f0), .int .i64 ((rd_T39 x5_16 x7_3).f1), .int .i64 ((rd_T39 x5_16 x7_3).f2)] (0, 0) _ rfl (by refine blk_put (cs := #[.int .i64 ((rd_T39 x5_16 x7_3).f0), .int .i64 ((rd_T39 x5_16 x7_3).f1), .int .i64 x280002_3]) ?_ 2 _ rfl; refine blk_put (cs := #[.int .i64 ((rd_T39 x5_16 x7_3).f0), .int .i64 x280001_3, .int .i64 x280002_3]) ?_ 1 _ rfl; refine blk_put (cs := #[.int .i64 x280000_3, .int .i64 x280001_3, .int .i64 x280002_3]) ?_ 0 _ rfl; (with_reducible repeat (first | refine blk_drewN ?_ _ | refine blk_drew ?_ | refine blk_alloc ?_ _)); exact BK279.out) Tryz.underlying39 rfl Z15) rfl ?_
           exact ⟨Z11, Z1 HB GE279⟩
          ·rw [if_neg c31] at H
           have c31b0 : (t302.toList == a0.toList) = false := beq_eq_false_iff_ne.mpr c31
           have c31b1 : (t302.toList != a0.toList) = true := bne_iff_ne.mpr c31
           have H' := Aside0.mk H
           clear H
           obtain ⟨Ao35, co35, eo35⟩ := Kd.R_slice HO_5.out
           subst eo35
           have p301 : 0 ≤ (x7_3 : Int) := of_decide_eq_true Z10
           have q301 : x7_3 < (x5_16.length : Int) := of_decide_eq_true Z10
           obtain ⟨ad301, e301, hx301_0, hx301_1, hx301_2⟩ := at_T39 (Kd.R_reads' HO_5.out).2.2 x7_3 p301 q301
           cases e301
           replace p301 := eq_true p301
           replace q301 := eq_true q301
           go_wp2_with (first | (go_at_call 86; (with_reducible refine (spec_DeedText.calls k3 ((rd_T39 x5_16 x7_3).f0) ((rd_T39 x5_16 x7_3).f1) ((rd_T39 x5_16 x7_3).f2) t302 _ A30.out).mono ?_); rintro e w36 ⟨rfl, hb⟩; replace HO_5 := Aside0.mk (Kd.R_below (Z4 HO_5) hb); replace BK279 := Aside0.mk (blk_below (g := gb279) (o := .cells #[.int .i64 x280000_3, .int .i64 x280001_3, .int .i64 x280002_3] 39 (0, 0)) (Z2 BK279) hb); replace HB := Aside0.mk (below_step (Z1 HB GE279) hb); (try clear hb)))
           go_roundg k3
           case measure => have := HJ2.out; have := HJ16.out; have := HK3.out; omega
           case rel => exact ⟨(wrap64 (x7_3 + 1)), (x280000_3), (x280001_3), (x280002_3), Z14, H', ⟨Z71 HJ2 HJ16 HK3⟩, ⟨Z4 HO_5⟩, ⟨Z2 BK279⟩, ⟨Z1 HB GE279⟩⟩
         ·rw [if_neg c29] at H
          exact absurd H Z33
       ·rw [if_neg c26] at H
        have c26b0 : decide (x7_3 < (x5_16.length : Int)) = false := decide_eq_false c26
        clear c26
        simp only [Option.some.injEq, Prod.mk.injEq] at H
        obtain ⟨rfl, rfl, rfl, rfl⟩ := H
        obtain ⟨Ao37, co37, eo37⟩ := Kd.R_slice HO_5.out
        subst eo37
        have hcz38_0 : wr.cell? ⟨gb279, 0, none⟩ = some (.int .i64 x280000_3) := (blk_cell BK279.out 0).trans rfl
        have hcz38_1 : wr.cell? ⟨gb279, 1, none⟩ = some (.int .i64 x280001_3) := (blk_cell BK279.out 1).trans rfl
        have hcz38_2 : wr.cell? ⟨gb279, 2, none⟩ = some (.int .i64 x280002_3) := (blk_cell BK279.out 2).trans rfl
        have hfz38_0 := blk_frozen BK279.out 0
        have hfz38_1 := blk_frozen BK279.out 1
        have hfz38_2 := blk_frozen BK279.out 2
        go_wp2
        refine bodyPost_ret (results_ct rfl _ _ gb279 39 #[.int .i64 0, .int .i64 0, .int .i64 0] (0, 0) _ rfl (by refine blk_put (cs := #[.int .i64 0, .int .i64 0, .int .i64 x280002_3]) ?_ 2 _ rfl; refine blk_put (cs := #[.int .i64 0, .int .i64 x280001_3, .int .i64 x280002_3]) ?_ 1 _ rfl; refine blk_put (cs := #[.int .i64 x280000_3, .int .i64 x280001_3, .int .i64 x280002_3]) ?_ 0 _ rfl; (with_reducible repeat (first | refine blk_drewN ?_ _ | refine blk_drew ?_ | refine blk_alloc ?_ _)); exact BK279.out) Tryz.underlying39 rfl Z15) rfl ?_
        exact ⟨Z11, Z1 HB GE279⟩

/-! ### spec_ReadJournal: function 10 -/
def spec_ReadJournal.l0 : Nat → ByteArray → List (S39) → Int → Int → Option ((List (S39)) × Int)
  | 0, _, _, _, _ => none
  | k + 1, x0, x4, x5, x6 => if x6 < (x0.size : Int) then (if 0 ≤ x6 then (if (bt x0 x6) = 10 then (if 0 ≤ x5 then (if x5 ≤ x6 then (if x6 ≤ (x0.size : Int) then ((spec_ReadDeed.f k (x0.extract (x5 : Int).toNat (x6 : Int).toNat)).bind fun bt307 => (if bt307.2.2.2 = true then (if x4.length < 5864062014805 then (spec_ReadJournal.l0 k x0 (x4 ++ [(⟨bt307.1, bt307.2.1, bt307.2.2.1⟩ : S39)]) (wrap64 (x6 + 1)) (wrap64 (x6 + 1))) else (none)) else (some (x4, x5)))) else (none)) else (none)) else (none)) else (spec_ReadJournal.l0 k x0 x4 x5 (wrap64 (x6 + 1)))) else (none)) else (some (x4, x5))
def spec_ReadJournal.f (k : Nat) (a0 : ByteArray) : Option ((List (S39)) × Int) := spec_ReadJournal.l0 k a0 (([] : List (S39))) 0 0
set_option maxHeartbeats 8000000 in
set_option maxRecDepth 100000 in
theorem spec_ReadJournal.calls (k : Nat) (a0 : ByteArray) (r1 : List (S39)) (r2 : Int) (w : World) (h : spec_ReadJournal.f k a0 = some (r1, r2)) :
 Calls Tryz.prog 10 #[.string a0] w fun e w' => ∃ v0_ : Value, e = .returned (.tuple #[v0_, .int .i64 r2]) ∧ Kd.R k39 39 w' w.heap.size (fun _ => True) v0_ r1 ∧ Below w.heap.size w w' := by
 have hu39 := Tryz.underlying39
 have HB := Aside0.mk (Below.refl w.heap.size w)
 have H : (spec_ReadJournal.l0 k a0 (([] : List (S39))) 0 0) = some (r1, r2) := h
 clear h
 obtain ⟨y304, hy304⟩ : ∃ y_ : List (S39), y_ = (([] : List (S39))) := ⟨_, rfl⟩
 replace H : (spec_ReadJournal.l0 k a0 y304 0 0) = some (r1, r2) := Z5 hy304
 have Ny304 := Aside0.mk hy304
 clear hy304
 have H' := Aside0.mk H
 clear H
 go_enter Tryz.func10, Tryz.ntmps10
 go_wp2_with (first | ((with_reducible refine gate_dst (N := 9) rfl ?_); refine Kd.R_lit k39 _ 39 ?hg (N := 9) ?hd (xs := ([] : List (S39))) (inner := []) (ok := fun _ => True) (okp := fun _ => True) ?hr ?hp (fun _ hk => hk) trivial (Below.refl _ _) (Nat.le_refl _) Z33 ?_; (case hd => exact Z90); (case hg => exact Z90); (case hr => exact Z29); (case hp => exact Z67); intro v305 w2 ho3 hb hg_ hnew_; clear hg_ hnew_; (first | rw [← Ny304.out] at ho3 | (simp only [Int.reduceToNat] at ho3; rw [← Ny304.out] at ho3)); have HO306 := Aside0.mk (Kd.R_lower ho3 (below_size (Z0 HB))); replace HB := Aside0.mk (below_step (Z0 HB) hb); clear hb ho3))
 go_loopg [4, 5, 6] k (fun kq v4 v5 v6 w' => ∃ (x4_1 : List (S39)) (x5_1 : Int) (x6_1 : Int), v5 = .int .i64 x5_1 ∧ v6 = .int .i64 x6_1 ∧ Aside0 (spec_ReadJournal.l0 kq a0 x4_1 x5_1 x6_1 = some (r1, r2)) ∧ Aside0 (kq ≤ k) ∧ Aside0 (Kd.R k39 39 w' w.heap.size (fun _ => True) v4 x4_1) ∧ Aside0 (Below w.heap.size w w'))
 case atStart => exact ⟨(y304), (0), (0), Z14, Z14, H', ⟨Nat.le_refl _⟩, ⟨Z4 HO306⟩, ⟨Z0 HB⟩⟩
 case round =>
  clear H'
  try clear c1
  try clear p2
  obtain ⟨x4_1, x5_1, x6_1, rfl, rfl, HA, HK1, HO_4, HB⟩ := hrel
  cases gk with
  | zero => exact absurd HA.out (by simp [spec_ReadJournal.l0])
  | succ k1 =>
   have H := HA.out
   clear HA
   simp only [spec_ReadJournal.l0] at H
   by_cases c4 : x6_1 < (a0.size : Int)
   ·rw [if_pos c4] at H
    have c4b0 : decide (x6_1 < (a0.size : Int)) = true := decide_eq_true c4
    clear c4
    by_cases c5 : 0 ≤ x6_1
    ·rw [if_pos c5] at H
     have c5b0 : decide (0 ≤ x6_1) = true := decide_eq_true c5
     clear c5
     by_cases c7 : (bt a0 x6_1) = 10
     ·rw [if_pos c7] at H
      have c7b0 : ((bt a0 x6_1) == 10) = true := beq_iff_eq.mpr c7
      have c7b1 : ((bt a0 x6_1) != 10) = false := bne_eq_false_iff_eq.mpr c7
      clear c7
      by_cases c8 : 0 ≤ x5_1
      ·rw [if_pos c8] at H
       have c8b0 := eq_true c8
       have c8b1 : decide (0 ≤ x5_1) = true := decide_eq_true c8
       clear c8
       by_cases c9 : x5_1 ≤ x6_1
       ·rw [if_pos c9] at H
        have c9b0 := eq_true c9
        have c9b1 : decide (x5_1 ≤ x6_1) = true := decide_eq_true c9
        clear c9
        by_cases c10 : x6_1 ≤ (a0.size : Int)
        ·rw [if_pos c10] at H
         have c10b0 := eq_true c10
         have c10b1 : decide (x6_1 ≤ (a0.size : Int)) = true := decide_eq_true c10
         clear c10
         replace H := Option.bind_eq_some_iff.mp H
         obtain ⟨⟨t307, t308, t309, t310⟩, A110, H⟩ := H
         replace H : (if t310 = true then (if x4_1.length < 5864062014805 then (spec_ReadJournal.l0 k1 a0 (x4_1 ++ [(⟨t307, t308, t309⟩ : S39)]) (wrap64 (x6_1 + 1)) (wrap64 (x6_1 + 1))) else (none)) else (some (x4_1, x5_1))) = some (r1, r2) := H
         have A11 := Aside0.mk A110
         clear A110
         by_cases c12 : t310 = true
         ·subst c12
          have H1 : (if x4_1.length < 5864062014805 then (spec_ReadJournal.l0 k1 a0 (x4_1 ++ [(⟨t307, t308, t309⟩ : S39)]) (wrap64 (x6_1 + 1)) (wrap64 (x6_1 + 1))) else (none)) = some (r1, r2) := Z37
          clear H
          have H := H1
          clear H1
          by_cases c13 : x4_1.length < 5864062014805
          ·rw [if_pos c13] at H
           have LMc13 := Aside0.mk c13
           clear c13
           obtain ⟨y312, hy312⟩ : ∃ y_ : List (S39), y_ = (x4_1 ++ [(⟨t307, t308, t309⟩ : S39)]) := ⟨_, rfl⟩
           replace H : (spec_ReadJournal.l0 k1 a0 y312 (wrap64 (x6_1 + 1)) (wrap64 (x6_1 + 1))) = some (r1, r2) := Z5 hy312
           have Ny312 := Aside0.mk hy312
           clear hy312
           have H' := Aside0.mk H
           clear H
           have p6 : 0 ≤ (x6_1 : Int) := of_decide_eq_true Z10
           have q6 : x6_1 < (a0.size : Int) := of_decide_eq_true Z10
           have hx6 := bt_at a0 x6_1
           replace p6 := eq_true p6
           replace q6 := eq_true q6
           go_wp2_with (first | ((with_reducible refine gate_callee (f := 45) rfl ?_); refine gL_ 25 Tryz.func45 #[.string (a0.extract (x5_1 : Int).toNat (x6_1 : Int).toNat)] ?_; (with_reducible refine (spec_ReadDeed.calls k1 (a0.extract (x5_1 : Int).toNat (x6_1 : Int).toNat) t307 t308 t309 true _ A11.out).mono ?_); rintro e w14 ⟨rfl, hb⟩; refine ⟨_, rfl, ?_⟩; replace HO_4 := Aside0.mk (Kd.R_below (Z4 HO_4) hb); replace HB := Aside0.mk (below_step (Z0 HB) hb); (try clear hb)) | ((with_reducible refine gate_dst (N := 7) rfl ?_); refine bE_ 7 #[.int .i64 0, .int .i64 0, .int .i64 0] 39 ?_; intro gb311 hg w15 hbox hb; replace HO_4 := Aside0.mk (Kd.R_below (Kd.R_elderB (Z4 HO_4) gb311 (Nat.le_of_eq hg.symm)) hb); have BK311 := Aside0.mk (hbox); have GW311 := Aside0.mk ((by rw [hg]; exact (below_size (Z0 HB)) : w.heap.size ≤ gb311)); have GE311 := Aside0.mk ((by rw [hg]; exact (below_size (Z0 HB)) : w.heap.size ≤ gb311)); replace HB := Aside0.mk (below_step (Z0 HB) hb); clear hb hbox hg; have hcz16_0 : w15.cell? ⟨gb311, 0, none⟩ = some (.int .i64 0) := (blk_cell BK311.out 0).trans rfl; have hcz16_1 : w15.cell? ⟨gb311, 1, none⟩ = some (.int .i64 0) := (blk_cell BK311.out 1).trans rfl; have hcz16_2 : w15.cell? ⟨gb311, 2, none⟩ = some (.int .i64 0) := (blk_cell BK311.out 2).trans rfl; have hfz16_0 := blk_frozen BK311.out 0; have hfz16_1 := blk_frozen BK311.out 1; have hfz16_2 := blk_frozen BK311.out 2) | ((with_reducible refine gate_builtin (b := .append) (xs := #[.tmp 32, .tmp 34]) rfl ?_); at_builtin; refine Kd.R_append k39 (w0 := w) w.heap.size rfl (.tmp 32) (.tmp 34) 24 39 (.agg #[(.int .i64 0), (.int .i64 0), (.int .i64 0)]) 24 rfl Tryz.underlying24 info39 rfl Z28 Z32 u4 x4_1 (⟨t307, t308, t309⟩ : S39) [.int .i64 t307, .int .i64 t308, .int .i64 t309] (fun k_ => k_ ≠ gb311) (fun _ => False) rfl Z29 ?aP (fun _ hk => hk.elim) ?aF ?aO ?aB ?aS ?aL ?_; (case aP => exact k39_mkM _ _ _ (⟨t307, t308, t309⟩ : S39)); (case aB => exact (Z1 HB GE311)); (case aF => exact (fun k_ hk => Kd.freshB (g := gb311) (o := .cells #[.int .i64 t307, .int .i64 t308, .int .i64 t309] 39 (0, 0)) (Z52 BK311) k_ hk)); (case aO => exact (by (with_reducible repeat (first | apply Kd.R_alloc | apply Kd.R_drewN | apply Kd.R_drew)); exact Kd.R_mono (Kd.R_far (p := ⟨gb311, 2, none⟩) (Kd.R_far (p := ⟨gb311, 1, none⟩) (Kd.R_far (p := ⟨gb311, 0, none⟩) (Kd.R_mono HO_4.out (fun k_ hk => (⟨hk, hk.2⟩ : _ ∧ k_ ≠ gb311))) (fun _ hk => hk.2) (.int .i64 t307)) (fun _ hk => hk.2) (.int .i64 t308)) (fun _ hk => hk.2) (.int .i64 t309)) (fun _ hk => hk.1.2))); (case aS => exact (below_size (Z1 HB GE311))); (case aL => exact Z35 LMc13); intro v313 w17 ho hb hg hat; rw [← Ny312.out] at ho; replace BK311 := Aside0.mk (blk_grown (g := gb311) (o := .cells #[.int .i64 t307, .int .i64 t308, .int .i64 t309] 39 (0, 0)) (Z52 BK311) hg (Kd.R_away HO_4.out (fun _ hk => hk.2))); replace HB := Aside0.mk (hb); have HO314 := Aside0.mk (ho); clear HO_4; clear ho hb hg hat))
           go_roundg k1
           case measure => have := HK1.out; omega
           case rel => exact ⟨(y312), (wrap64 (x6_1 + 1)), (wrap64 (x6_1 + 1)), Z14, Z14, H', ⟨Z35 HK1⟩, ⟨Z38 HO314⟩, ⟨Z1 HB GE311⟩⟩
          ·rw [if_neg c13] at H
           exact absurd H Z33
         ·replace c12 := Bool.eq_false_iff.mpr c12
          subst c12
          have H1 : (some (x4_1, x5_1)) = some (r1, r2) := Z24
          clear H
          have H := H1
          clear H1
          simp only [Option.some.injEq, Prod.mk.injEq] at H
          obtain ⟨rfl, rfl⟩ := H
          have p6 : 0 ≤ (x6_1 : Int) := of_decide_eq_true Z10
          have q6 : x6_1 < (a0.size : Int) := of_decide_eq_true Z10
          have hx6 := bt_at a0 x6_1
          replace p6 := eq_true p6
          replace q6 := eq_true q6
          go_wp2_with (first | ((with_reducible refine gate_callee (f := 45) rfl ?_); refine gL_ 25 Tryz.func45 #[.string (a0.extract (x5_1 : Int).toNat (x6_1 : Int).toNat)] ?_; (with_reducible refine (spec_ReadDeed.calls k1 (a0.extract (x5_1 : Int).toNat (x6_1 : Int).toNat) t307 t308 t309 false _ A11.out).mono ?_); rintro e w18 ⟨rfl, hb⟩; refine ⟨_, rfl, ?_⟩; replace HO_4 := Aside0.mk (Kd.R_below (Z4 HO_4) hb); replace HB := Aside0.mk (below_step (Z0 HB) hb); (try clear hb)) | ((with_reducible refine gate_dst (N := 7) rfl ?_); refine bE_ 7 #[.int .i64 0, .int .i64 0, .int .i64 0] 39 ?_; intro gb311 hg w19 hbox hb; replace HO_4 := Aside0.mk (Kd.R_below (Kd.R_elderB (Z4 HO_4) gb311 (Nat.le_of_eq hg.symm)) hb); have BK311 := Aside0.mk (hbox); have GW311 := Aside0.mk ((by rw [hg]; exact (below_size (Z0 HB)) : w.heap.size ≤ gb311)); have GE311 := Aside0.mk ((by rw [hg]; exact (below_size (Z0 HB)) : w.heap.size ≤ gb311)); replace HB := Aside0.mk (below_step (Z0 HB) hb); clear hb hbox hg; have hcz20_0 : w19.cell? ⟨gb311, 0, none⟩ = some (.int .i64 0) := (blk_cell BK311.out 0).trans rfl; have hcz20_1 : w19.cell? ⟨gb311, 1, none⟩ = some (.int .i64 0) := (blk_cell BK311.out 1).trans rfl; have hcz20_2 : w19.cell? ⟨gb311, 2, none⟩ = some (.int .i64 0) := (blk_cell BK311.out 2).trans rfl; have hfz20_0 := blk_frozen BK311.out 0; have hfz20_1 := blk_frozen BK311.out 1; have hfz20_2 := blk_frozen BK311.out 2))
          go_ret2
          exact ⟨_, Z11, by (with_reducible repeat (first | apply Kd.R_alloc | apply Kd.R_drewN | apply Kd.R_drew)); exact Kd.R_mono (Kd.R_far (p := ⟨gb311, 2, none⟩) (Kd.R_far (p := ⟨gb311, 1, none⟩) (Kd.R_far (p := ⟨gb311, 0, none⟩) (Kd.R_mono HO_4.out (fun k_ hk => (⟨hk, hk.2⟩ : _ ∧ k_ ≠ gb311))) (fun _ hk => hk.2) (.int .i64 t307)) (fun _ hk => hk.2) (.int .i64 t308)) (fun _ hk => hk.2) (.int .i64 t309)) (fun _ hk => trivial), Z1 HB GE311⟩
        ·rw [if_neg c10] at H
         exact absurd H Z33
       ·rw [if_neg c9] at H
        exact absurd H Z33
      ·rw [if_neg c8] at H
       exact absurd H Z33
     ·rw [if_neg c7] at H
      have c7b0 : ((bt a0 x6_1) == 10) = false := beq_eq_false_iff_ne.mpr c7
      have c7b1 : ((bt a0 x6_1) != 10) = true := bne_iff_ne.mpr c7
      have H' := Aside0.mk H
      clear H
      have p6 : 0 ≤ (x6_1 : Int) := of_decide_eq_true Z10
      have q6 : x6_1 < (a0.size : Int) := of_decide_eq_true Z10
      have hx6 := bt_at a0 x6_1
      replace p6 := eq_true p6
      replace q6 := eq_true q6
      go_wp2
      go_roundg k1
      case measure => have := HK1.out; omega
      case rel => exact ⟨(x4_1), (x5_1), (wrap64 (x6_1 + 1)), Z14, Z14, H', ⟨Z35 HK1⟩, ⟨Z4 HO_4⟩, ⟨Z0 HB⟩⟩
    ·rw [if_neg c5] at H
     exact absurd H Z33
   ·rw [if_neg c4] at H
    have c4b0 : decide (x6_1 < (a0.size : Int)) = false := decide_eq_false c4
    clear c4
    simp only [Option.some.injEq, Prod.mk.injEq] at H
    obtain ⟨rfl, rfl⟩ := H
    go_wp2
    go_ret2
    exact ⟨_, Z11, Z4 HO_4, Z0 HB⟩

end Go.Proofs.YtmmoojkhlkjdkaaGreatDoor.PFnReadJournal
