-- Printed by this claim's own program; Lean checks it.
import Derived.Test.YtmmoojkhlkjdkaaGreatDoorPFnReadJournalx0
import Derived.Test.YtmmoojkhlkjdkaaGreatDoorPFnReadJournalx3
import Derived.Test.YtmmoojkhlkjdkaaGreatDoorPFnReadJournalx12
namespace Go.Proofs.YtmmoojkhlkjdkaaGreatDoor.PFnReadJournal
open Go.RowKit Go.Proofs.YtmmoojkhlkjdkaaGreatDoorW.PrintWords Go.Proofs.YtmmoojkhlkjdkaaGreatDoorW.PrintLast Go.Proofs.YtmmoojkhlkjdkaaGreatDoorW.PrintMore
attribute [local go_sem] max2_int min2_int max_two min_two max_three min_three max_four min_four   -- for this text's walks alone
set_option linter.unusedVariables false
set_option linter.unusedSimpArgs false

/-! ### spec_NeedingMore: function 139 -/
def spec_NeedingMore.j0 : Nat → List (S84) → Int → Bool → Option ((List (S84)) × Bool)
  | 0, _, _, _ => none
  | k + 1, x0, x1, x17 => if x17 = true then (some ((([] : List (S84))), false)) else ((some (([] : List (S84)) : List (S84))).bind fun y345 => (if y345.length + x0.length < 8796093022208 then ((some (y345 ++ x0 : List (S84))).bind fun y348 => (if 0 ≤ x1 then (if x1 < (y348.length : Int) then ((some (y348.set (x1 : Int).toNat (⟨(rd_T84 y348 x1).f0, wrap64 (((rd_T84 y348 x1).f1) + 1)⟩ : S84) : List (S84))).bind fun y353 => ((spec_CustomersOk.f k y353).bind fun t354 => (if t354 = true then (some (y353, true)) else (some ((([] : List (S84))), false))))) else (none)) else (none))) else (none)))
def spec_NeedingMore.f (k : Nat) (l0 : List (S84)) (a1 : Int) : Option ((List (S84)) × Bool) := (spec_CustomersOk.f k l0).bind fun t340 => (if t340 = true then ((spec_l1In.f a1 0 (wrap64 ((l0.length : Int) - 1))).bind fun t341 => (spec_NeedingMore.j0 k l0 a1 (!t341))) else (spec_NeedingMore.j0 k l0 a1 true))
def spec_NeedingMore.T4 : Bool × List (List Nat × List Nat) := (true, [([], []), ([], []), ([], []), ([], []), ([2, 3], [2, 3]), ([4], [4]), ([5], [5]), ([], []), ([], []), ([7, 8], [7, 8]), ([9], [9]), ([10], [10]), ([11], [11]), ([6, 12], [6, 12]), ([0, 1, 0, 1, 2, 3, 4, 5, 6, 7, 8, 9, 10, 11, 12, 13], [0, 1]), ([14, 13, 0, 1, 2, 3, 4, 5, 6, 7, 8, 9, 10, 11, 12, 13], [13, 14])])
def spec_NeedingMore.B4 : List Nat := [0, 0, 0, 0, 12, 28, 60, 0, 0, 384, 896, 1920, 3968, 8188, 16383, 32767]
theorem spec_NeedingMore.tab4 : rtab .any (opsOf Tryz.f139 4) = spec_NeedingMore.T4 := by kernel_rfl
theorem spec_NeedingMore.bits4 : waitsOk spec_NeedingMore.T4.2 spec_NeedingMore.B4 = true := by kernel_rfl
set_option maxHeartbeats 8000000 in
set_option maxRecDepth 100000 in
theorem spec_NeedingMore.calls (k : Nat) (A0 : Option Addr) (c0 : Nat) (l0 : List (S84)) (a1 : Int) (r1 : List (S84)) (r2 : Bool) (w : World) (hr0 : Kd.C k84 w A0 l0.length l0) (hc0 : l0.length ≤ c0) (h : spec_NeedingMore.f k l0 a1 = some (r1, r2)) :
 Calls Tryz.prog 139 #[.slice A0 l0.length c0, .int .i64 a1] w fun e w' => ∃ v0_ : Value, e = .returned (.tuple #[v0_, .bool r2]) ∧ Kd.R k84 84 w' w.heap.size (fun _ => True) v0_ r1 ∧ Below w.heap.size w w' := by
 have hu84 := Tryz.underlying84
 have HR0 := Aside0.mk hr0
 have HC0 := Aside0.mk hc0
 clear hr0 hc0
 have HB := Aside0.mk (Below.refl w.heap.size w)
 have H : ((spec_CustomersOk.f k l0).bind fun t340 => (if t340 = true then ((spec_l1In.f a1 0 (wrap64 ((l0.length : Int) - 1))).bind fun t341 => (spec_NeedingMore.j0 k l0 a1 (!t341))) else (spec_NeedingMore.j0 k l0 a1 true))) = some (r1, r2) := h
 clear h
 have HC3 := Aside0.mk H
 clear H
 go_enter Tryz.func139, Tryz.ntmps139
 go_upto_region 1 with (fail)
 go_cut [17] (fun v17 wc => ∃ (kq : Nat) (x17_2 : Bool), v17 = .bool x17_2 ∧ Aside0 (spec_NeedingMore.j0 kq l0 a1 x17_2 = some (r1, r2)) ∧ Aside0 (kq ≤ k) ∧ Aside0 (Below w.heap.size w wc))
 case first =>
  have H := HC3.out
  clear HC3
  replace H := Option.bind_eq_some_iff.mp H
  obtain ⟨t340, A40, H⟩ := H
  replace H : (if t340 = true then ((spec_l1In.f a1 0 (wrap64 ((l0.length : Int) - 1))).bind fun t341 => (spec_NeedingMore.j0 k l0 a1 (!t341))) else (spec_NeedingMore.j0 k l0 a1 true)) = some (r1, r2) := H
  have A4 := Aside0.mk A40
  clear A40
  by_cases c5 : t340 = true
  ·subst c5
   have H1 : ((spec_l1In.f a1 0 (wrap64 ((l0.length : Int) - 1))).bind fun t341 => (spec_NeedingMore.j0 k l0 a1 (!t341))) = some (r1, r2) := Z37
   clear H
   have H := H1
   clear H1
   replace H := Option.bind_eq_some_iff.mp H
   obtain ⟨t341, A60, H⟩ := H
   replace H : (spec_NeedingMore.j0 k l0 a1 (!t341)) = some (r1, r2) := H
   have A6 := Aside0.mk A60
   clear A60
   have H' := Aside0.mk H
   clear H
   go_wp2_with (first | ((with_reducible refine gate_callee (f := 49) rfl ?_); refine gL_ 8 Tryz.func49 #[.slice A0 l0.length c0] ?_; (with_reducible refine (spec_CustomersOk.calls k _ _ l0 true _ ?side1 ?side2 A4.out).mono ?_); (case side1 => exact Z9 HR0 HB); (case side2 => exact HC0.out); rintro e w7 ⟨rfl, hb⟩; refine ⟨_, rfl, ?_⟩; replace HB := Aside0.mk (below_step (Z0 HB) hb); (try clear hb)) | (go_at_call 94; (with_reducible refine (spec_l1In.calls a1 0 (wrap64 ((l0.length : Int) - 1)) t341 _ A6.out).mono ?_); rintro e w' ⟨rfl, ⟨nd, rfl⟩⟩))
   go_meet
   case rel => exact ⟨_, (!t341), Z14, H', ⟨Z39⟩, ⟨Z0 HB⟩⟩
  ·replace c5 := Bool.eq_false_iff.mpr c5
   subst c5
   have H1 : (spec_NeedingMore.j0 k l0 a1 true) = some (r1, r2) := Z24
   clear H
   have H := H1
   clear H1
   have H' := Aside0.mk H
   clear H
   go_wp2_with (first | ((with_reducible refine gate_callee (f := 49) rfl ?_); refine gL_ 8 Tryz.func49 #[.slice A0 l0.length c0] ?_; (with_reducible refine (spec_CustomersOk.calls k _ _ l0 false _ ?side1 ?side2 A4.out).mono ?_); (case side1 => exact Z9 HR0 HB); (case side2 => exact HC0.out); rintro e w8 ⟨rfl, hb⟩; refine ⟨_, rfl, ?_⟩; replace HB := Aside0.mk (below_step (Z0 HB) hb); (try clear hb)))
   go_meet
   case rel => exact ⟨_, (true), Z14, H', ⟨Z39⟩, ⟨Z0 HB⟩⟩
 case rest =>
  clear HC3
  try clear c1
  try clear p2
  try clear c4
  try clear c5
  try clear p6
  obtain ⟨kq, x17_2, rfl, HA, HJ2, HB⟩ := hcut
  cases kq with
  | zero => exact absurd HA.out (by simp [spec_NeedingMore.j0])
  | succ kj2 =>
   have H := HA.out
   clear HA
   simp only [spec_NeedingMore.j0] at H
   by_cases c9 : x17_2 = true
   ·subst c9
    have H1 : (some ((([] : List (S84))), false)) = some (r1, r2) := Z37
    clear H
    have H := H1
    clear H1
    obtain ⟨y342, hy342⟩ : ∃ y_ : List (S84), y_ = (([] : List (S84))) := ⟨_, rfl⟩
    replace H : (some (y342, false)) = some (r1, r2) := Z5 hy342
    have Ny342 := Aside0.mk hy342
    clear hy342
    simp only [Option.some.injEq, Prod.mk.injEq] at H
    obtain ⟨rfl, rfl⟩ := H
    go_wp2_with (first | ((with_reducible refine gate_dst (N := 18) rfl ?_); (try (refine gate_guard Z90 ?_; dsimp only)); refine Kd.R_lit k84 _ 84 ?hg (N := 18) ?hd (xs := ([] : List (S84))) (inner := []) (ok := fun _ => True) (okp := fun _ => True) ?hr ?hp (fun _ hk => hk) trivial (Below.refl _ _) (Nat.le_refl _) Z33 ?_; (case hd => exact Z90); (case hg => exact Z90); (case hr => exact Z29); (case hp => exact Z67); intro v343 w10 ho11 hb hg_ hnew_; clear hg_ hnew_; (first | rw [← Ny342.out] at ho11 | (simp only [Int.reduceToNat] at ho11; rw [← Ny342.out] at ho11)); have HO344 := Aside0.mk (Kd.R_lower ho11 (below_size (Z0 HB))); replace HB := Aside0.mk (below_step (Z0 HB) hb); clear hb ho11))
    go_ret2
    exact ⟨_, Z11, Z4 HO344, Z0 HB⟩
   ·replace c9 := Bool.eq_false_iff.mpr c9
    subst c9
    have H1 : ((some (([] : List (S84)) : List (S84))).bind fun y345 => (if y345.length + l0.length < 8796093022208 then ((some (y345 ++ l0 : List (S84))).bind fun y348 => (if 0 ≤ a1 then (if a1 < (y348.length : Int) then ((some (y348.set (a1 : Int).toNat (⟨(rd_T84 y348 a1).f0, wrap64 (((rd_T84 y348 a1).f1) + 1)⟩ : S84) : List (S84))).bind fun y353 => ((spec_CustomersOk.f kj2 y353).bind fun t354 => (if t354 = true then (some (y353, true)) else (some ((([] : List (S84))), false))))) else (none)) else (none))) else (none))) = some (r1, r2) := Z24
    clear H
    have H := H1
    clear H1
    obtain ⟨y345, hy345⟩ : ∃ y_ : List (S84), y_ = (([] : List (S84))) := ⟨_, rfl⟩
    replace H : (if y345.length + l0.length < 8796093022208 then ((some (y345 ++ l0 : List (S84))).bind fun y348 => (if 0 ≤ a1 then (if a1 < (y348.length : Int) then ((some (y348.set (a1 : Int).toNat (⟨(rd_T84 y348 a1).f0, wrap64 (((rd_T84 y348 a1).f1) + 1)⟩ : S84) : List (S84))).bind fun y353 => ((spec_CustomersOk.f kj2 y353).bind fun t354 => (if t354 = true then (some (y353, true)) else (some ((([] : List (S84))), false))))) else (none)) else (none))) else (none)) = some (r1, r2) := Z5 hy345
    have Ny345 := Aside0.mk hy345
    clear hy345
    by_cases c12 : y345.length + l0.length < 8796093022208
    ·rw [if_pos c12] at H
     have LMc12 := Aside0.mk c12
     clear c12
     obtain ⟨y348, hy348⟩ : ∃ y_ : List (S84), y_ = (y345 ++ l0) := ⟨_, rfl⟩
     replace H : (if 0 ≤ a1 then (if a1 < (y348.length : Int) then ((some (y348.set (a1 : Int).toNat (⟨(rd_T84 y348 a1).f0, wrap64 (((rd_T84 y348 a1).f1) + 1)⟩ : S84) : List (S84))).bind fun y353 => ((spec_CustomersOk.f kj2 y353).bind fun t354 => (if t354 = true then (some (y353, true)) else (some ((([] : List (S84))), false))))) else (none)) else (none)) = some (r1, r2) := Z5 hy348
     have Ny348 := Aside0.mk hy348
     clear hy348
     by_cases c13 : 0 ≤ a1
     ·rw [if_pos c13] at H
      have c13b0 : decide (0 ≤ a1) = true := decide_eq_true c13
      clear c13
      by_cases c14 : a1 < (y348.length : Int)
      ·rw [if_pos c14] at H
       have c14b0 : decide (a1 < (y348.length : Int)) = true := decide_eq_true c14
       clear c14
       obtain ⟨y353, hy353⟩ : ∃ y_ : List (S84), y_ = (y348.set (a1 : Int).toNat (⟨(rd_T84 y348 a1).f0, wrap64 (((rd_T84 y348 a1).f1) + 1)⟩ : S84)) := ⟨_, rfl⟩
       replace H : ((spec_CustomersOk.f kj2 y353).bind fun t354 => (if t354 = true then (some (y353, true)) else (some ((([] : List (S84))), false)))) = some (r1, r2) := Z5 hy353
       have Ny353 := Aside0.mk hy353
       clear hy353
       replace H := Option.bind_eq_some_iff.mp H
       obtain ⟨t354, A160, H⟩ := H
       replace H : (if t354 = true then (some (y353, true)) else (some ((([] : List (S84))), false))) = some (r1, r2) := H
       have A16 := Aside0.mk A160
       clear A160
       by_cases c17 : t354 = true
       ·subst c17
        have H1 : (some (y353, true)) = some (r1, r2) := Z37
        clear H
        have H := H1
        clear H1
        simp only [Option.some.injEq, Prod.mk.injEq] at H
        obtain ⟨rfl, rfl⟩ := H
        try go_wp2_with (first | ((with_reducible refine gate_dst (N := 19) rfl ?_); (try (refine gate_guard Z90 ?_; dsimp only)); refine Kd.R_lit k84 _ 84 ?hg (N := 19) ?hd (xs := ([] : List (S84))) (inner := []) (ok := fun _ => True) (okp := fun _ => True) ?hr ?hp (fun _ hk => hk) trivial (Below.refl _ _) (Nat.le_refl _) Z33 ?_; (case hd => exact Z90); (case hg => exact Z90); (case hr => exact Z29); (case hp => exact Z67); intro v346 w18 ho19 hb hg_ hnew_; clear hg_ hnew_; (first | rw [← Ny345.out] at ho19 | (simp only [Int.reduceToNat] at ho19; rw [← Ny345.out] at ho19)); have HO347 := Aside0.mk (Kd.R_lower ho19 (below_size (Z0 HB))); replace HB := Aside0.mk (below_step (Z0 HB) hb); clear hb ho19) | ((with_reducible refine gate_builtin (b := .append) (xs := #[.tmp 19, .tmp 20]) rfl ?_); (try (refine gate_guard Z90 ?_; dsimp only)); at_builtin; refine Kd.R_append_rows k84 (w0 := w) w.heap.size rfl (.tmp 19) (.tmp 20) 28 84 (.agg #[(.int .i64 0), (.int .i64 0)]) 16 rfl Tryz.underlying28 info84 rfl Z28 Z32 v346 y345 l0 _ _ _ (fun _ => True) (fun _ => False) rfl rfl ?aO ?aR (fun _ _ h => h) (fun _ h => h.elim) ?aF ?aB ?aS ?aL ?_; (case aR => exact Z9 HR0 HB); (case aB => exact (Z0 HB)); (case aF => exact Z77); (case aO => exact (Z4 HO347)); (case aS => exact (below_size (Z0 HB))); (case aL => exact Z35 LMc12); intro v349 w20 ho hb hg hat; rw [← Ny348.out] at ho; replace HB := Aside0.mk (hb); have HO350 := Aside0.mk (ho); clear HO347; clear ho hb hg hat))
        replace HO350 := Aside0.mk (Kd.R_drew HO350.out)
        replace HB := Aside0.mk (below_drew1 HB.out)
        obtain ⟨Ao22, co22, eo22⟩ := Kd.R_slice HO350.out
        (first | subst eo22 | (injection eo22 with f1_ f2_ f3_; have f4_ := f1_.symm; have f5_ := f3_.symm; clear f1_ f2_ f3_; subst f4_; subst f5_))
        have p351 : 0 ≤ (a1 : Int) := of_decide_eq_true Z10
        have q351 : a1 < (y348.length : Int) := of_decide_eq_true Z10
        obtain ⟨ad351, e351, hx351_0, hx351_1⟩ := at_T84 (Kd.R_reads' HO350.out).2.2 a1 p351 q351
        cases e351
        replace p351 := eq_true p351
        replace q351 := eq_true q351
        have p352 : 0 ≤ (a1 : Int) := of_decide_eq_true Z10
        have q352 : a1 < (y348.length : Int) := of_decide_eq_true Z10
        obtain ⟨ad352, e352, hx352_0, hx352_1⟩ := at_T84 (Kd.R_reads' HO350.out).2.2 a1 p352 q352
        obtain rfl : ad351 = ad352 := (by injection e352)
        replace p352 := eq_true p352
        replace q352 := eq_true q352
        have p15 : 0 ≤ (a1 : Int) := of_decide_eq_true Z10
        have q15 : (a1 : Int) < ((y348.length : Int) : Int) := of_decide_eq_true Z10
        obtain ⟨go15, co15, eo15, gb15, gl15, cl15, HG15⟩ := Kd.R_form HO350.out Z32
        (first | cases eo15 | (injection eo15 with ea_ en_ ec_; (first | subst ea_ | (injection ea_ with ea_; subst ea_)); subst ec_; clear en_))
        have GB15 := Aside0.mk gb15
        have GG15 := Aside0.mk HG15
        clear gb15 gl15 HG15
        (first | simp only [add_plain] at hx351_0 | skip)
        (first | simp only [add_plain] at hx351_1 | skip)
        (first | simp only [add_plain] at hx352_0 | skip)
        (first | simp only [add_plain] at hx352_1 | skip)
        obtain ⟨ce15, hcl15, hM15, hcc15, hfr15⟩ := Kd.R_elem HO350.out z84 (a1 : Int) p15 q15
        obtain rfl := k84_openM hM15
        have hx15_0 : World.cell? _ ⟨go15, (a1 : Int).toNat * 2, none⟩ = some (.int .i64 ((rd_T84 y348 a1).f0)) := hcc15 0 _ rfl
        have hx15_1 : World.cell? _ ⟨go15, (a1 : Int).toNat * 2 + 1, none⟩ = some (.int .i64 ((rd_T84 y348 a1).f1)) := hcc15 1 _ rfl
        have hf15_0 : World.frozen? _ ⟨go15, (a1 : Int).toNat * 2, none⟩ = false := hfr15 0
        have hf15_1 : World.frozen? _ ⟨go15, (a1 : Int).toNat * 2 + 1, none⟩ = false := hfr15 1
        (try clear hM15); clear hcl15 hcc15 hfr15
        replace p15 := eq_true p15
        replace q15 := eq_true q15
        obtain ⟨ce23, hcl23, hM23, hcc23, hfr23⟩ := Kd.R_elem HO350.out z84 (a1 : Int) (of_decide_eq_true Z10) (by have h_ : (a1 : Int) < ((y348.length : Int) : Int) := of_decide_eq_true Z10; first | exact h_ | (have e_ := (Kd.R_reads' HO350.out).1; omega) | simpa using h_)
        obtain rfl := k84_openM hM23
        have HP23 := (Kd.R_seg HO350.out (a1 : Int) (of_decide_eq_true Z10) (by have h_ : (a1 : Int) < ((y348.length : Int) : Int) := of_decide_eq_true Z10; first | exact h_ | (have e_ := (Kd.R_reads' HO350.out).1; omega) | simpa using h_) (seg := [.int .i64 ((rd_T84 y348 a1).f0), .int .i64 (wrap64 (((rd_T84 y348 a1).f1) + 1))]) (j := 0) hcl23 hcc23 (show 2 ≤ 2 from Z28) (x' := (⟨(rd_T84 y348 a1).f0, wrap64 (((rd_T84 y348 a1).f1) + 1)⟩ : S84)) (k84_mkM _ _ _ (⟨(rd_T84 y348 a1).f0, wrap64 (((rd_T84 y348 a1).f1) + 1)⟩ : S84) ) (fun _ hk => hk)).1
        rw [← Ny353.out] at HP23
        have HQ23 := Aside0.mk HP23
        (try clear hM23); clear hcl23 hcc23 hfr23 HP23
        refine start_ (n := 16) (S := fun w' => w'.cell? ⟨go15, ((a1).toNat * 2), none⟩ = some (.int .i64 ((rd_T84 y348 a1).f0)) ∧ w'.cell? ⟨go15, ((a1).toNat * 2) + 1, none⟩ = some (.int .i64 ((rd_T84 y348 a1).f1)) ∧ w'.cell? ⟨go15, ((a1).toNat * 2), none⟩ = some (.int .i64 ((rd_T84 y348 a1).f0)) ∧ w'.cell? ⟨go15, ((a1).toNat * 2) + 1, none⟩ = some (.int .i64 ((rd_T84 y348 a1).f1))) (ds := [15]) (bB 16 0) Z15 rfl Z15 ⟨hx351_0, hx351_1, hx352_0, hx352_1⟩ (fun hHeld => ?_); refine with_tabW spec_NeedingMore.tab4 spec_NeedingMore.bits4 (fun HT_ HW_ => ?_)
        generalize w20.drew = w21 at HO350 HB GG15 HQ23 hf15_0 hf15_1 hx15_0 hx15_1 hx351_0 hx351_1 hx352_0 hx352_1 hHeld ⊢
        refine pu_ 0 (some 22) (bB 16 1) ?_
        refine pu_ 1 (some 23) (bB 16 3) ?_
        refine pu_ 2 (some 24) (bB 16 7) ?_
        refine pu_ 3 (some 25) (bB 16 15) ?_
        refine pu_ 4 (some 26) (bB 16 31) ?_
        refine pu_ 5 (some 27) (bB 16 63) ?_
        refine pu_ 7 (some 29) (bB 16 191) ?_
        refine pu_ 8 (some 30) (bB 16 447) ?_
        refine pu_ 9 (some 31) (bB 16 959) ?_
        refine pu_ 10 (some 32) (bB 16 1983) ?_
        refine take_ (i := 6) (N := some 28) (v := ?_) (a' := ?_) (bB 16 2047) rfl rfl (take_ofW HT_.out HW_.out Z15) (fun _ _ _ h => h) (Or.inl ⟨Z90, ?_⟩) hHeld ?_ ?_
        rotate_left
        ·rintro w' ⟨s0, s1, s2, s3⟩
         go_simp
         with_reducible rfl
        rotate_left
        ·simp only [Act.put, List.setIfInBounds_toArray, List.set_cons_zero, List.set_cons_succ, i64_w, i32_w]
         rfl
        refine take_ (i := 11) (N := some 33) (v := ?_) (a' := ?_) (bB 16 4095) rfl rfl (take_ofW HT_.out HW_.out Z15) (fun _ _ _ h => h) (Or.inl ⟨Z90, ?_⟩) hHeld ?_ ?_
        rotate_left
        ·rintro w' ⟨s0, s1, s2, s3⟩
         go_simp
         with_reducible rfl
        rotate_left
        ·simp only [Act.put, List.setIfInBounds_toArray, List.set_cons_zero, List.set_cons_succ, i64_w, i32_w]
         rfl
        refine pu_ 12 (some 34) (bB 16 8191) ?_
        refine pu_ 13 (some 35) (bB 16 16383) ?_
        refine pu_ 14 (some 36) (bB 16 32767) ?_
        refine last_ (i := 15) (N := none) (bB 16 65535) rfl rfl (one_of HT_.out Z15) Z28 (fun K hK => ?_)
        refine skip_ (w1 := ?_) Z90 rfl ?_ ?_
        rotate_left
        ·go_simp
         rfl
        refine hK.out _ _ ?_
        clear hK K
        refine done_ (done_of HT_.out Z15) ?_
        try go_wp2_with (first | ((with_reducible refine gate_callee (f := 49) rfl ?_); refine goesL_ (some 38) rfl rfl Tryz.func49 Z15 rfl #[.slice (some ⟨go15, 0, none⟩) y353.length co22] rfl (Z72 HQ23) ?_; (with_reducible refine (spec_CustomersOk.calls kj2 _ _ y353 true _ ?side1 ?side2 A16.out).mono ?_); (case side1 => refine (Kd.R_reads' (e := 84) (base := w.heap.size) (ok := fun k_ => True) (n := y348.length) (c := co22) ?_).2.2; exact (Z4 HQ23)); (case side2 => rw [show y353.length = y348.length from (Kd.R_reads' HQ23.out).1.symm]; exact (Kd.R_reads' HO350.out).2.1); rintro e w24 ⟨rfl, hb⟩; refine ⟨_, rfl, ?_⟩; replace HO350 := Aside0.mk (Kd.R_below (Z4 HQ23) hb); replace HB := Aside0.mk (below_step (Z86 HB GB15) hb); (try clear hb)))
        go_ret2
        exact ⟨_, Z11, Z4 HO350, Z0 HB⟩
       ·replace c17 := Bool.eq_false_iff.mpr c17
        subst c17
        have H1 : (some ((([] : List (S84))), false)) = some (r1, r2) := Z24
        clear H
        have H := H1
        clear H1
        obtain ⟨y355, hy355⟩ : ∃ y_ : List (S84), y_ = (([] : List (S84))) := ⟨_, rfl⟩
        replace H : (some (y355, false)) = some (r1, r2) := Z5 hy355
        have Ny355 := Aside0.mk hy355
        clear hy355
        simp only [Option.some.injEq, Prod.mk.injEq] at H
        obtain ⟨rfl, rfl⟩ := H
        try go_wp2_with (first | ((with_reducible refine gate_dst (N := 19) rfl ?_); (try (refine gate_guard Z90 ?_; dsimp only)); refine Kd.R_lit k84 _ 84 ?hg (N := 19) ?hd (xs := ([] : List (S84))) (inner := []) (ok := fun _ => True) (okp := fun _ => True) ?hr ?hp (fun _ hk => hk) trivial (Below.refl _ _) (Nat.le_refl _) Z33 ?_; (case hd => exact Z90); (case hg => exact Z90); (case hr => exact Z29); (case hp => exact Z67); intro v346 w25 ho26 hb hg_ hnew_; clear hg_ hnew_; (first | rw [← Ny345.out] at ho26 | (simp only [Int.reduceToNat] at ho26; rw [← Ny345.out] at ho26)); have HO347 := Aside0.mk (Kd.R_lower ho26 (below_size (Z0 HB))); replace HB := Aside0.mk (below_step (Z0 HB) hb); clear hb ho26) | ((with_reducible refine gate_builtin (b := .append) (xs := #[.tmp 19, .tmp 20]) rfl ?_); (try (refine gate_guard Z90 ?_; dsimp only)); at_builtin; refine Kd.R_append_rows k84 (w0 := w) w.heap.size rfl (.tmp 19) (.tmp 20) 28 84 (.agg #[(.int .i64 0), (.int .i64 0)]) 16 rfl Tryz.underlying28 info84 rfl Z28 Z32 v346 y345 l0 _ _ _ (fun _ => True) (fun _ => False) rfl rfl ?aO ?aR (fun _ _ h => h) (fun _ h => h.elim) ?aF ?aB ?aS ?aL ?_; (case aR => exact Z9 HR0 HB); (case aB => exact (Z0 HB)); (case aF => exact Z77); (case aO => exact (Z4 HO347)); (case aS => exact (below_size (Z0 HB))); (case aL => exact Z35 LMc12); intro v349 w27 ho hb hg hat; rw [← Ny348.out] at ho; replace HB := Aside0.mk (hb); have HO350 := Aside0.mk (ho); clear HO347; clear ho hb hg hat))
        replace HO350 := Aside0.mk (Kd.R_drew HO350.out)
        replace HB := Aside0.mk (below_drew1 HB.out)
        obtain ⟨Ao29, co29, eo29⟩ := Kd.R_slice HO350.out
        (first | subst eo29 | (injection eo29 with f1_ f2_ f3_; have f4_ := f1_.symm; have f5_ := f3_.symm; clear f1_ f2_ f3_; subst f4_; subst f5_))
        have p351 : 0 ≤ (a1 : Int) := of_decide_eq_true Z10
        have q351 : a1 < (y348.length : Int) := of_decide_eq_true Z10
        obtain ⟨ad351, e351, hx351_0, hx351_1⟩ := at_T84 (Kd.R_reads' HO350.out).2.2 a1 p351 q351
        cases e351
        replace p351 := eq_true p351
        replace q351 := eq_true q351
        have p352 : 0 ≤ (a1 : Int) := of_decide_eq_true Z10
        have q352 : a1 < (y348.length : Int) := of_decide_eq_true Z10
        obtain ⟨ad352, e352, hx352_0, hx352_1⟩ := at_T84 (Kd.R_reads' HO350.out).2.2 a1 p352 q352
        obtain rfl : ad351 = ad352 := (by injection e352)
        replace p352 := eq_true p352
        replace q352 := eq_true q352
        have p15 : 0 ≤ (a1 : Int) := of_decide_eq_true Z10
        have q15 : (a1 : Int) < ((y348.length : Int) : Int) := of_decide_eq_true Z10
        obtain ⟨go15, co15, eo15, gb15, gl15, cl15, HG15⟩ := Kd.R_form HO350.out Z32
        (first | cases eo15 | (injection eo15 with ea_ en_ ec_; (first | subst ea_ | (injection ea_ with ea_; subst ea_)); subst ec_; clear en_))
        have GB15 := Aside0.mk gb15
        have GG15 := Aside0.mk HG15
        clear gb15 gl15 HG15
        (first | simp only [add_plain] at hx351_0 | skip)
        (first | simp only [add_plain] at hx351_1 | skip)
        (first | simp only [add_plain] at hx352_0 | skip)
        (first | simp only [add_plain] at hx352_1 | skip)
        obtain ⟨ce15, hcl15, hM15, hcc15, hfr15⟩ := Kd.R_elem HO350.out z84 (a1 : Int) p15 q15
        obtain rfl := k84_openM hM15
        have hx15_0 : World.cell? _ ⟨go15, (a1 : Int).toNat * 2, none⟩ = some (.int .i64 ((rd_T84 y348 a1).f0)) := hcc15 0 _ rfl
        have hx15_1 : World.cell? _ ⟨go15, (a1 : Int).toNat * 2 + 1, none⟩ = some (.int .i64 ((rd_T84 y348 a1).f1)) := hcc15 1 _ rfl
        have hf15_0 : World.frozen? _ ⟨go15, (a1 : Int).toNat * 2, none⟩ = false := hfr15 0
        have hf15_1 : World.frozen? _ ⟨go15, (a1 : Int).toNat * 2 + 1, none⟩ = false := hfr15 1
        (try clear hM15); clear hcl15 hcc15 hfr15
        replace p15 := eq_true p15
        replace q15 := eq_true q15
        obtain ⟨ce30, hcl30, hM30, hcc30, hfr30⟩ := Kd.R_elem HO350.out z84 (a1 : Int) (of_decide_eq_true Z10) (by have h_ : (a1 : Int) < ((y348.length : Int) : Int) := of_decide_eq_true Z10; first | exact h_ | (have e_ := (Kd.R_reads' HO350.out).1; omega) | simpa using h_)
        obtain rfl := k84_openM hM30
        have HP30 := (Kd.R_seg HO350.out (a1 : Int) (of_decide_eq_true Z10) (by have h_ : (a1 : Int) < ((y348.length : Int) : Int) := of_decide_eq_true Z10; first | exact h_ | (have e_ := (Kd.R_reads' HO350.out).1; omega) | simpa using h_) (seg := [.int .i64 ((rd_T84 y348 a1).f0), .int .i64 (wrap64 (((rd_T84 y348 a1).f1) + 1))]) (j := 0) hcl30 hcc30 (show 2 ≤ 2 from Z28) (x' := (⟨(rd_T84 y348 a1).f0, wrap64 (((rd_T84 y348 a1).f1) + 1)⟩ : S84)) (k84_mkM _ _ _ (⟨(rd_T84 y348 a1).f0, wrap64 (((rd_T84 y348 a1).f1) + 1)⟩ : S84) ) (fun _ hk => hk)).1
        rw [← Ny353.out] at HP30
        have HQ30 := Aside0.mk HP30
        (try clear hM30); clear hcl30 hcc30 hfr30 HP30
        refine start_ (n := 16) (S := fun w' => w'.cell? ⟨go15, ((a1).toNat * 2), none⟩ = some (.int .i64 ((rd_T84 y348 a1).f0)) ∧ w'.cell? ⟨go15, ((a1).toNat * 2) + 1, none⟩ = some (.int .i64 ((rd_T84 y348 a1).f1)) ∧ w'.cell? ⟨go15, ((a1).toNat * 2), none⟩ = some (.int .i64 ((rd_T84 y348 a1).f0)) ∧ w'.cell? ⟨go15, ((a1).toNat * 2) + 1, none⟩ = some (.int .i64 ((rd_T84 y348 a1).f1))) (ds := [15]) (bB 16 0) Z15 rfl Z15 ⟨hx351_0, hx351_1, hx352_0, hx352_1⟩ (fun hHeld => ?_); refine with_tabW spec_NeedingMore.tab4 spec_NeedingMore.bits4 (fun HT_ HW_ => ?_)
        generalize w27.drew = w28 at HO350 HB GG15 HQ30 hf15_0 hf15_1 hx15_0 hx15_1 hx351_0 hx351_1 hx352_0 hx352_1 hHeld ⊢
        refine pu_ 0 (some 22) (bB 16 1) ?_
        refine pu_ 1 (some 23) (bB 16 3) ?_
        refine pu_ 2 (some 24) (bB 16 7) ?_
        refine pu_ 3 (some 25) (bB 16 15) ?_
        refine pu_ 4 (some 26) (bB 16 31) ?_
        refine pu_ 5 (some 27) (bB 16 63) ?_
        refine pu_ 7 (some 29) (bB 16 191) ?_
        refine pu_ 8 (some 30) (bB 16 447) ?_
        refine pu_ 9 (some 31) (bB 16 959) ?_
        refine pu_ 10 (some 32) (bB 16 1983) ?_
        refine take_ (i := 6) (N := some 28) (v := ?_) (a' := ?_) (bB 16 2047) rfl rfl (take_ofW HT_.out HW_.out Z15) (fun _ _ _ h => h) (Or.inl ⟨Z90, ?_⟩) hHeld ?_ ?_
        rotate_left
        ·rintro w' ⟨s0, s1, s2, s3⟩
         go_simp
         with_reducible rfl
        rotate_left
        ·simp only [Act.put, List.setIfInBounds_toArray, List.set_cons_zero, List.set_cons_succ, i64_w, i32_w]
         rfl
        refine take_ (i := 11) (N := some 33) (v := ?_) (a' := ?_) (bB 16 4095) rfl rfl (take_ofW HT_.out HW_.out Z15) (fun _ _ _ h => h) (Or.inl ⟨Z90, ?_⟩) hHeld ?_ ?_
        rotate_left
        ·rintro w' ⟨s0, s1, s2, s3⟩
         go_simp
         with_reducible rfl
        rotate_left
        ·simp only [Act.put, List.setIfInBounds_toArray, List.set_cons_zero, List.set_cons_succ, i64_w, i32_w]
         rfl
        refine pu_ 12 (some 34) (bB 16 8191) ?_
        refine pu_ 13 (some 35) (bB 16 16383) ?_
        refine pu_ 14 (some 36) (bB 16 32767) ?_
        refine last_ (i := 15) (N := none) (bB 16 65535) rfl rfl (one_of HT_.out Z15) Z28 (fun K hK => ?_)
        refine skip_ (w1 := ?_) Z90 rfl ?_ ?_
        rotate_left
        ·go_simp
         rfl
        refine hK.out _ _ ?_
        clear hK K
        refine done_ (done_of HT_.out Z15) ?_
        try go_wp2_with (first | ((with_reducible refine gate_callee (f := 49) rfl ?_); refine goesL_ (some 38) rfl rfl Tryz.func49 Z15 rfl #[.slice (some ⟨go15, 0, none⟩) y353.length co29] rfl (Z72 HQ30) ?_; (with_reducible refine (spec_CustomersOk.calls kj2 _ _ y353 false _ ?side1 ?side2 A16.out).mono ?_); (case side1 => refine (Kd.R_reads' (e := 84) (base := w.heap.size) (ok := fun k_ => True) (n := y348.length) (c := co29) ?_).2.2; exact (Z4 HQ30)); (case side2 => rw [show y353.length = y348.length from (Kd.R_reads' HQ30.out).1.symm]; exact (Kd.R_reads' HO350.out).2.1); rintro e w31 ⟨rfl, hb⟩; refine ⟨_, rfl, ?_⟩; replace HO350 := Aside0.mk (Kd.R_below (Z4 HQ30) hb); replace HB := Aside0.mk (below_step (Z86 HB GB15) hb); (try clear hb)) | ((with_reducible refine gate_dst (N := 40) rfl ?_); (try (refine gate_guard Z90 ?_; dsimp only)); refine Kd.R_lit k84 _ 84 ?hg (N := 40) ?hd (xs := ([] : List (S84))) (inner := []) (ok := fun _ => True) (okp := fun _ => True) ?hr ?hp (fun _ hk => hk) trivial (Below.refl _ _) (Nat.le_refl _) Z33 ?_; (case hd => exact Z90); (case hg => exact Z90); (case hr => exact Z29); (case hp => exact Z67); intro v356 w32 ho33 hb hg_ hnew_; clear hg_ hnew_; (first | rw [← Ny355.out] at ho33 | (simp only [Int.reduceToNat] at ho33; rw [← Ny355.out] at ho33)); have HO357 := Aside0.mk (Kd.R_lower (Kd.R_new' ho33 (Kd.R_lt (Z4 HO350))) (below_size (Z0 HB))); replace HO350 := Aside0.mk (Kd.R_elder' (Z4 HO350) (Kd.R_base ho33) hb); replace HB := Aside0.mk (below_step (Z0 HB) hb); clear hb ho33))
        go_ret2
        exact ⟨_, Z11, Z38 HO357, Z0 HB⟩
      ·rw [if_neg c14] at H
       exact absurd H Z33
     ·rw [if_neg c13] at H
      exact absurd H Z33
    ·rw [if_neg c12] at H
     exact absurd H Z33

end Go.Proofs.YtmmoojkhlkjdkaaGreatDoor.PFnReadJournal
