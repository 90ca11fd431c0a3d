-- Printed by this claim's own program; Lean checks it.
import Derived.Test.YtmmoojkhlkjdkaaGreatDoorShelfFnReadJournal
import Derived.Test.YtmmoojkhlkjdkaaGreatDoorPFnReadJournalx0
import Derived.Test.YtmmoojkhlkjdkaaGreatDoorPFnReadJournalx8
import Derived.Test.YtmmoojkhlkjdkaaGreatDoorPFnReadJournalx12
namespace Go.Proofs.YtmmoojkhlkjdkaaGreatDoor.PFnReadJournal
open Go.RowKit Go.Proofs.YtmmoojkhlkjdkaaGreatDoorW.PrintWords Go.Proofs.YtmmoojkhlkjdkaaGreatDoorW.PrintLast Go.Proofs.YtmmoojkhlkjdkaaGreatDoorW.PrintMore
attribute [local go_sem] max2_int min2_int max_two min_two max_three min_three max_four min_four   -- for this text's walks alone
set_option linter.unusedVariables false
set_option linter.unusedSimpArgs false

/-! ### impl_DeedText: function 15 -/
def impl_DeedText.j0 : Nat → Bool → Int → Int → Int → Option (ByteArray)
  | 0, _, _, _, _ => none
  | k + 1, x21, x253000, x253001, x253002 => if x21 = true then (some (⟨#[]⟩ : ByteArray)) else ((strconv_Itoa_53.f x253001).bind fun t253 => (if 1 + t253.size ≤ 9223372036854775807 then (if x253000 = 0 then (if 4 + ((⟨#[32]⟩ : ByteArray) ++ t253).size ≤ 9223372036854775807 then (if ((⟨#[99, 111, 109, 101]⟩ : ByteArray) ++ ((⟨#[32]⟩ : ByteArray) ++ t253)).size + 1 ≤ 9223372036854775807 then ((strconv_Itoa_53.f x253002).bind fun t254 => (if (((⟨#[99, 111, 109, 101]⟩ : ByteArray) ++ ((⟨#[32]⟩ : ByteArray) ++ t253)) ++ (⟨#[32]⟩ : ByteArray)).size + t254.size ≤ 9223372036854775807 then (some ((((⟨#[99, 111, 109, 101]⟩ : ByteArray) ++ ((⟨#[32]⟩ : ByteArray) ++ t253)) ++ (⟨#[32]⟩ : ByteArray)) ++ t254)) else (none))) else (none)) else (none)) else (if x253002 = 0 then (if x253000 = 2 then (if 4 + ((⟨#[32]⟩ : ByteArray) ++ t253).size ≤ 9223372036854775807 then (some ((⟨#[110, 101, 101, 100]⟩ : ByteArray) ++ ((⟨#[32]⟩ : ByteArray) ++ t253))) else (none)) else (if x253000 = 3 then (if 5 + ((⟨#[32]⟩ : ByteArray) ++ t253).size ≤ 9223372036854775807 then (some ((⟨#[108, 97, 116, 101, 114]⟩ : ByteArray) ++ ((⟨#[32]⟩ : ByteArray) ++ t253))) else (none)) else (if x253001 = 0 then (if x253000 = 1 then (some (⟨#[103, 111]⟩ : ByteArray)) else (if x253000 = 4 then (some (⟨#[98, 97, 99, 107]⟩ : ByteArray)) else (some (⟨#[]⟩ : ByteArray)))) else (some (⟨#[]⟩ : ByteArray))))) else (some (⟨#[]⟩ : ByteArray)))) else (none)))
def impl_DeedText.f (k : Nat) (a0_0 : Int) (a0_1 : Int) (a0_2 : Int) : Option (ByteArray) := if a0_1 < 0 then (impl_DeedText.j0 k true a0_0 a0_1 a0_2) else (if a0_1 > 99 then (impl_DeedText.j0 k true a0_0 a0_1 a0_2) else (if a0_2 < 0 then (impl_DeedText.j0 k true a0_0 a0_1 a0_2) else (impl_DeedText.j0 k (decide (a0_2 > 99)) a0_0 a0_1 a0_2)))
set_option maxHeartbeats 8000000 in
set_option maxRecDepth 100000 in
theorem impl_DeedText.calls (k : Nat) (a0_0 : Int) (a0_1 : Int) (a0_2 : Int) (r : ByteArray) (w : World) (h : impl_DeedText.f k a0_0 a0_1 a0_2 = some r) :
 Calls Tryz.prog 15 #[.agg #[.int .i64 a0_0, .int .i64 a0_1, .int .i64 a0_2]] w fun e w' => e = .returned (.string r) ∧ Below w.heap.size w w' := by
 have hu39 := Tryz.underlying39
 have HB := Aside0.mk (Below.refl w.heap.size w)
 have H : (if a0_1 < 0 then (impl_DeedText.j0 k true a0_0 a0_1 a0_2) else (if a0_1 > 99 then (impl_DeedText.j0 k true a0_0 a0_1 a0_2) else (if a0_2 < 0 then (impl_DeedText.j0 k true a0_0 a0_1 a0_2) else (impl_DeedText.j0 k (decide (a0_2 > 99)) a0_0 a0_1 a0_2)))) = some r := h
 clear h
 have HC2 := Aside0.mk H
 clear H
 go_enter Tryz.func15, Tryz.ntmps15
 go_upto_region 1 with (first | ((with_reducible refine gate_dst (N := 1) rfl ?_); refine bE_ 1 #[.int .i64 a0_0, .int .i64 a0_1, .int .i64 a0_2] 39 ?_; intro gb252 hg w3 hbox hb; have BK252 := Aside0.mk (hbox); have GW252 := Aside0.mk ((by rw [hg]; exact (below_size (Z0 HB)) : w.heap.size ≤ gb252)); have GE252 := Aside0.mk ((by rw [hg]; exact (below_size (Z0 HB)) : w.heap.size ≤ gb252)); replace HB := Aside0.mk (below_step (Z0 HB) hb); clear hb hbox hg))
 (try simp only [Act.put, List.setIfInBounds_toArray, List.set_cons_zero, List.set_cons_succ])
 go_cut [21] (fun v21 wc => ∃ (kq : Nat) (x21_1 : Bool), v21 = .bool x21_1 ∧ Aside0 (impl_DeedText.j0 kq x21_1 a0_0 a0_1 a0_2 = some r) ∧ Aside0 (kq ≤ k) ∧ Aside0 (wc.heap[gb252]? = some (.cells #[.int .i64 a0_0, .int .i64 a0_1, .int .i64 a0_2] 39 (0, 0))) ∧ Aside0 (Below w.heap.size w wc))
 case first =>
  have H := HC2.out
  clear HC2
  by_cases c4 : a0_1 < 0
  ·rw [if_pos c4] at H
   have c4b0 : decide (a0_1 < 0) = true := decide_eq_true c4
   clear c4
   (first | rw [c4b0] | (simp only [i64_w, i32_w]; rw [c4b0]) | skip)
   have H' := Aside0.mk H
   clear H
   have hcz5_0 : w3.cell? ⟨gb252, 0, none⟩ = some (.int .i64 a0_0) := (blk_cell BK252.out 0).trans rfl
   have hcz5_1 : w3.cell? ⟨gb252, 1, none⟩ = some (.int .i64 a0_1) := (blk_cell BK252.out 1).trans rfl
   have hcz5_2 : w3.cell? ⟨gb252, 2, none⟩ = some (.int .i64 a0_2) := (blk_cell BK252.out 2).trans rfl
   have hfz5_0 := blk_frozen BK252.out 0
   have hfz5_1 := blk_frozen BK252.out 1
   have hfz5_2 := blk_frozen BK252.out 2
   go_wp2
   go_meet
   case rel => exact ⟨_, (true), Z14, H', ⟨Z39⟩, ⟨Z2 BK252⟩, ⟨Z1 HB GE252⟩⟩
  ·rw [if_neg c4] at H
   have c4b0 : decide (a0_1 < 0) = false := decide_eq_false c4
   clear c4
   (first | rw [c4b0] | (simp only [i64_w, i32_w]; rw [c4b0]) | skip)
   by_cases c6 : a0_1 > 99
   ·rw [if_pos c6] at H
    have c6b0 : decide (99 < a0_1) = true := decide_eq_true c6
    clear c6
    have H' := Aside0.mk H
    clear H
    have hcz7_0 : w3.cell? ⟨gb252, 0, none⟩ = some (.int .i64 a0_0) := (blk_cell BK252.out 0).trans rfl
    have hcz7_1 : w3.cell? ⟨gb252, 1, none⟩ = some (.int .i64 a0_1) := (blk_cell BK252.out 1).trans rfl
    have hcz7_2 : w3.cell? ⟨gb252, 2, none⟩ = some (.int .i64 a0_2) := (blk_cell BK252.out 2).trans rfl
    have hfz7_0 := blk_frozen BK252.out 0
    have hfz7_1 := blk_frozen BK252.out 1
    have hfz7_2 := blk_frozen BK252.out 2
    go_wp2
    go_meet
    case rel => exact ⟨_, (true), Z14, H', ⟨Z39⟩, ⟨Z2 BK252⟩, ⟨Z1 HB GE252⟩⟩
   ·rw [if_neg c6] at H
    have c6b0 : decide (99 < a0_1) = false := decide_eq_false c6
    clear c6
    by_cases c8 : a0_2 < 0
    ·rw [if_pos c8] at H
     have c8b0 : decide (a0_2 < 0) = true := decide_eq_true c8
     clear c8
     have H' := Aside0.mk H
     clear H
     have hcz9_0 : w3.cell? ⟨gb252, 0, none⟩ = some (.int .i64 a0_0) := (blk_cell BK252.out 0).trans rfl
     have hcz9_1 : w3.cell? ⟨gb252, 1, none⟩ = some (.int .i64 a0_1) := (blk_cell BK252.out 1).trans rfl
     have hcz9_2 : w3.cell? ⟨gb252, 2, none⟩ = some (.int .i64 a0_2) := (blk_cell BK252.out 2).trans rfl
     have hfz9_0 := blk_frozen BK252.out 0
     have hfz9_1 := blk_frozen BK252.out 1
     have hfz9_2 := blk_frozen BK252.out 2
     go_wp2
     go_meet
     case rel => exact ⟨_, (true), Z14, H', ⟨Z39⟩, ⟨Z2 BK252⟩, ⟨Z1 HB GE252⟩⟩
    ·rw [if_neg c8] at H
     have c8b0 : decide (a0_2 < 0) = false := decide_eq_false c8
     clear c8
     have H' := Aside0.mk H
     clear H
     have hcz10_0 : w3.cell? ⟨gb252, 0, none⟩ = some (.int .i64 a0_0) := (blk_cell BK252.out 0).trans rfl
     have hcz10_1 : w3.cell? ⟨gb252, 1, none⟩ = some (.int .i64 a0_1) := (blk_cell BK252.out 1).trans rfl
     have hcz10_2 : w3.cell? ⟨gb252, 2, none⟩ = some (.int .i64 a0_2) := (blk_cell BK252.out 2).trans rfl
     have hfz10_0 := blk_frozen BK252.out 0
     have hfz10_1 := blk_frozen BK252.out 1
     have hfz10_2 := blk_frozen BK252.out 2
     go_wp2
     go_meet
     case rel => exact ⟨_, (decide (a0_2 > 99)), Z14, H', ⟨Z39⟩, ⟨Z2 BK252⟩, ⟨Z1 HB GE252⟩⟩
 case rest =>
  clear HC2
  try clear c1
  try clear p2
  try clear c4
  try clear c4b0
  try clear c6
  try clear c6b0
  try clear c8
  try clear c8b0
  try clear hcz10_0
  try clear hcz10_1
  try clear hcz10_2
  try clear hcz5_0
  try clear hcz5_1
  try clear hcz5_2
  try clear hcz7_0
  try clear hcz7_1
  try clear hcz7_2
  try clear hcz9_0
  try clear hcz9_1
  try clear hcz9_2
  try clear hfz10_0
  try clear hfz10_1
  try clear hfz10_2
  try clear hfz5_0
  try clear hfz5_1
  try clear hfz5_2
  try clear hfz7_0
  try clear hfz7_1
  try clear hfz7_2
  try clear hfz9_0
  try clear hfz9_1
  try clear hfz9_2
  obtain ⟨kq, x21_1, rfl, HA, HJ1, BK252, HB⟩ := hcut
  cases kq with
  | zero => exact absurd HA.out (by simp [impl_DeedText.j0])
  | succ kj1 =>
   have H := HA.out
   clear HA
   simp only [impl_DeedText.j0] at H
   by_cases c11 : x21_1 = true
   ·subst c11
    have H1 : (some (⟨#[]⟩ : ByteArray)) = some r := Z37
    clear H
    have H := H1
    clear H1
    obtain rfl := Option.some.inj H
    go_wp2
    go_ret
    exact ⟨Z11, Z1 HB GE252⟩
   ·replace c11 := Bool.eq_false_iff.mpr c11
    subst c11
    have H1 : ((strconv_Itoa_53.f a0_1).bind fun t253 => (if 1 + t253.size ≤ 9223372036854775807 then (if a0_0 = 0 then (if 4 + ((⟨#[32]⟩ : ByteArray) ++ t253).size ≤ 9223372036854775807 then (if ((⟨#[99, 111, 109, 101]⟩ : ByteArray) ++ ((⟨#[32]⟩ : ByteArray) ++ t253)).size + 1 ≤ 9223372036854775807 then ((strconv_Itoa_53.f a0_2).bind fun t254 => (if (((⟨#[99, 111, 109, 101]⟩ : ByteArray) ++ ((⟨#[32]⟩ : ByteArray) ++ t253)) ++ (⟨#[32]⟩ : ByteArray)).size + t254.size ≤ 9223372036854775807 then (some ((((⟨#[99, 111, 109, 101]⟩ : ByteArray) ++ ((⟨#[32]⟩ : ByteArray) ++ t253)) ++ (⟨#[32]⟩ : ByteArray)) ++ t254)) else (none))) else (none)) else (none)) else (if a0_2 = 0 then (if a0_0 = 2 then (if 4 + ((⟨#[32]⟩ : ByteArray) ++ t253).size ≤ 9223372036854775807 then (some ((⟨#[110, 101, 101, 100]⟩ : ByteArray) ++ ((⟨#[32]⟩ : ByteArray) ++ t253))) else (none)) else (if a0_0 = 3 then (if 5 + ((⟨#[32]⟩ : ByteArray) ++ t253).size ≤ 9223372036854775807 then (some ((⟨#[108, 97, 116, 101, 114]⟩ : ByteArray) ++ ((⟨#[32]⟩ : ByteArray) ++ t253))) else (none)) else (if a0_1 = 0 then (if a0_0 = 1 then (some (⟨#[103, 111]⟩ : ByteArray)) else (if a0_0 = 4 then (some (⟨#[98, 97, 99, 107]⟩ : ByteArray)) else (some (⟨#[]⟩ : ByteArray)))) else (some (⟨#[]⟩ : ByteArray))))) else (some (⟨#[]⟩ : ByteArray)))) else (none))) = some r := Z24
    clear H
    have H := H1
    clear H1
    replace H := Option.bind_eq_some_iff.mp H
    obtain ⟨t253, A120, H⟩ := H
    replace H : (if 1 + t253.size ≤ 9223372036854775807 then (if a0_0 = 0 then (if 4 + ((⟨#[32]⟩ : ByteArray) ++ t253).size ≤ 9223372036854775807 then (if ((⟨#[99, 111, 109, 101]⟩ : ByteArray) ++ ((⟨#[32]⟩ : ByteArray) ++ t253)).size + 1 ≤ 9223372036854775807 then ((strconv_Itoa_53.f a0_2).bind fun t254 => (if (((⟨#[99, 111, 109, 101]⟩ : ByteArray) ++ ((⟨#[32]⟩ : ByteArray) ++ t253)) ++ (⟨#[32]⟩ : ByteArray)).size + t254.size ≤ 9223372036854775807 then (some ((((⟨#[99, 111, 109, 101]⟩ : ByteArray) ++ ((⟨#[32]⟩ : ByteArray) ++ t253)) ++ (⟨#[32]⟩ : ByteArray)) ++ t254)) else (none))) else (none)) else (none)) else (if a0_2 = 0 then (if a0_0 = 2 then (if 4 + ((⟨#[32]⟩ : ByteArray) ++ t253).size ≤ 9223372036854775807 then (some ((⟨#[110, 101, 101, 100]⟩ : ByteArray) ++ ((⟨#[32]⟩ : ByteArray) ++ t253))) else (none)) else (if a0_0 = 3 then (if 5 + ((⟨#[32]⟩ : ByteArray) ++ t253).size ≤ 9223372036854775807 then (some ((⟨#[108, 97, 116, 101, 114]⟩ : ByteArray) ++ ((⟨#[32]⟩ : ByteArray) ++ t253))) else (none)) else (if a0_1 = 0 then (if a0_0 = 1 then (some (⟨#[103, 111]⟩ : ByteArray)) else (if a0_0 = 4 then (some (⟨#[98, 97, 99, 107]⟩ : ByteArray)) else (some (⟨#[]⟩ : ByteArray)))) else (some (⟨#[]⟩ : ByteArray))))) else (some (⟨#[]⟩ : ByteArray)))) else (none)) = some r := H
    have A12 := Aside0.mk A120
    clear A120
    by_cases c13 : 1 + t253.size ≤ 9223372036854775807
    ·rw [if_pos c13] at H
     have c13b0 := eq_true c13
     have c13b1 : decide (1 + t253.size ≤ 9223372036854775807) = true := decide_eq_true c13
     try have c13b2 : (9223372036854775807 < 1 + t253.size) = False := eq_false (Nat.not_lt.2 c13)
     by_cases c14 : a0_0 = 0
     ·rw [if_pos c14] at H
      have c14b0 : (a0_0 == 0) = true := beq_iff_eq.mpr c14
      have c14b1 : (a0_0 != 0) = false := bne_eq_false_iff_eq.mpr c14
      clear c14
      by_cases c15 : 4 + ((⟨#[32]⟩ : ByteArray) ++ t253).size ≤ 9223372036854775807
      ·rw [if_pos c15] at H
       have c15b0 := eq_true c15
       have c15b1 : decide (4 + ((⟨#[32]⟩ : ByteArray) ++ t253).size ≤ 9223372036854775807) = true := decide_eq_true c15
       try have c15b2 : (9223372036854775807 < 4 + ((⟨#[32]⟩ : ByteArray) ++ t253).size) = False := eq_false (Nat.not_lt.2 c15)
       try have c15b3 : (9223372036854775807 < 4 + (1 + t253.size)) = False := eq_false (Nat.not_lt.2 (by have h_ := c15; simp only [ByteArray.size_append] at h_; exact h_))
       by_cases c16 : ((⟨#[99, 111, 109, 101]⟩ : ByteArray) ++ ((⟨#[32]⟩ : ByteArray) ++ t253)).size + 1 ≤ 9223372036854775807
       ·rw [if_pos c16] at H
        have c16b0 := eq_true c16
        have c16b1 : decide (((⟨#[99, 111, 109, 101]⟩ : ByteArray) ++ ((⟨#[32]⟩ : ByteArray) ++ t253)).size + 1 ≤ 9223372036854775807) = true := decide_eq_true c16
        try have c16b2 : (9223372036854775807 < ((⟨#[99, 111, 109, 101]⟩ : ByteArray) ++ ((⟨#[32]⟩ : ByteArray) ++ t253)).size + 1) = False := eq_false (Nat.not_lt.2 c16)
        try have c16b3 : (9223372036854775807 < 4 + (1 + t253.size) + 1) = False := eq_false (Nat.not_lt.2 (by have h_ := c16; simp only [ByteArray.size_append] at h_; exact h_))
        replace H := Option.bind_eq_some_iff.mp H
        obtain ⟨t254, A170, H⟩ := H
        replace H : (if (((⟨#[99, 111, 109, 101]⟩ : ByteArray) ++ ((⟨#[32]⟩ : ByteArray) ++ t253)) ++ (⟨#[32]⟩ : ByteArray)).size + t254.size ≤ 9223372036854775807 then (some ((((⟨#[99, 111, 109, 101]⟩ : ByteArray) ++ ((⟨#[32]⟩ : ByteArray) ++ t253)) ++ (⟨#[32]⟩ : ByteArray)) ++ t254)) else (none)) = some r := H
        have A17 := Aside0.mk A170
        clear A170
        by_cases c18 : (((⟨#[99, 111, 109, 101]⟩ : ByteArray) ++ ((⟨#[32]⟩ : ByteArray) ++ t253)) ++ (⟨#[32]⟩ : ByteArray)).size + t254.size ≤ 9223372036854775807
        ·rw [if_pos c18] at H
         have c18b0 := eq_true c18
         have c18b1 : decide ((((⟨#[99, 111, 109, 101]⟩ : ByteArray) ++ ((⟨#[32]⟩ : ByteArray) ++ t253)) ++ (⟨#[32]⟩ : ByteArray)).size + t254.size ≤ 9223372036854775807) = true := decide_eq_true c18
         try have c18b2 : (9223372036854775807 < (((⟨#[99, 111, 109, 101]⟩ : ByteArray) ++ ((⟨#[32]⟩ : ByteArray) ++ t253)) ++ (⟨#[32]⟩ : ByteArray)).size + t254.size) = False := eq_false (Nat.not_lt.2 c18)
         try have c18b3 : (9223372036854775807 < 4 + (1 + t253.size) + 1 + t254.size) = False := eq_false (Nat.not_lt.2 (by have h_ := c18; simp only [ByteArray.size_append] at h_; exact h_))
         obtain rfl := Option.some.inj H
         have hcz19_0 : wc.cell? ⟨gb252, 0, none⟩ = some (.int .i64 a0_0) := (blk_cell BK252.out 0).trans rfl
         have hcz19_1 : wc.cell? ⟨gb252, 1, none⟩ = some (.int .i64 a0_1) := (blk_cell BK252.out 1).trans rfl
         have hcz19_2 : wc.cell? ⟨gb252, 2, none⟩ = some (.int .i64 a0_2) := (blk_cell BK252.out 2).trans rfl
         have hfz19_0 := blk_frozen BK252.out 0
         have hfz19_1 := blk_frozen BK252.out 1
         have hfz19_2 := blk_frozen BK252.out 2
         go_wp2_with (first | ((with_reducible refine gate_callee (f := 53) rfl ?_); refine gL_ 24 Tryz.func53 #[.int .i64 a0_1] ?_; (with_reducible refine (strconv_Itoa_53.calls a0_1 t253 _ A12.out).mono ?_); rintro e w' ⟨rfl, ⟨nd, rfl⟩⟩; refine ⟨_, rfl, ?_⟩) | ((with_reducible refine gate_callee (f := 53) rfl ?_); refine gL_ 35 Tryz.func53 #[.int .i64 a0_2] ?_; (with_reducible refine (strconv_Itoa_53.calls a0_2 t254 _ A17.out).mono ?_); rintro e w' ⟨rfl, ⟨nd, rfl⟩⟩; refine ⟨_, rfl, ?_⟩))
         go_ret
         exact ⟨Z11, Z1 HB GE252⟩
        ·rw [if_neg c18] at H
         exact absurd H Z33
       ·rw [if_neg c16] at H
        exact absurd H Z33
      ·rw [if_neg c15] at H
       exact absurd H Z33
     ·rw [if_neg c14] at H
      have c14b0 : (a0_0 == 0) = false := beq_eq_false_iff_ne.mpr c14
      have c14b1 : (a0_0 != 0) = true := bne_iff_ne.mpr c14
      by_cases c20 : a0_2 = 0
      ·rw [if_pos c20] at H
       have c20b0 : (a0_2 == 0) = true := beq_iff_eq.mpr c20
       have c20b1 : (a0_2 != 0) = false := bne_eq_false_iff_eq.mpr c20
       clear c20
       by_cases c21 : a0_0 = 2
       ·rw [if_pos c21] at H
        have c21b0 : (a0_0 == 2) = true := beq_iff_eq.mpr c21
        have c21b1 : (a0_0 != 2) = false := bne_eq_false_iff_eq.mpr c21
        clear c21
        by_cases c22 : 4 + ((⟨#[32]⟩ : ByteArray) ++ t253).size ≤ 9223372036854775807
        ·rw [if_pos c22] at H
         have c22b0 := eq_true c22
         have c22b1 : decide (4 + ((⟨#[32]⟩ : ByteArray) ++ t253).size ≤ 9223372036854775807) = true := decide_eq_true c22
         try have c22b2 : (9223372036854775807 < 4 + ((⟨#[32]⟩ : ByteArray) ++ t253).size) = False := eq_false (Nat.not_lt.2 c22)
         try have c22b3 : (9223372036854775807 < 4 + (1 + t253.size)) = False := eq_false (Nat.not_lt.2 (by have h_ := c22; simp only [ByteArray.size_append] at h_; exact h_))
         obtain rfl := Option.some.inj H
         have hcz23_0 : wc.cell? ⟨gb252, 0, none⟩ = some (.int .i64 a0_0) := (blk_cell BK252.out 0).trans rfl
         have hcz23_1 : wc.cell? ⟨gb252, 1, none⟩ = some (.int .i64 a0_1) := (blk_cell BK252.out 1).trans rfl
         have hcz23_2 : wc.cell? ⟨gb252, 2, none⟩ = some (.int .i64 a0_2) := (blk_cell BK252.out 2).trans rfl
         have hfz23_0 := blk_frozen BK252.out 0
         have hfz23_1 := blk_frozen BK252.out 1
         have hfz23_2 := blk_frozen BK252.out 2
         go_wp2_with (first | ((with_reducible refine gate_callee (f := 53) rfl ?_); refine gL_ 24 Tryz.func53 #[.int .i64 a0_1] ?_; (with_reducible refine (strconv_Itoa_53.calls a0_1 t253 _ A12.out).mono ?_); rintro e w' ⟨rfl, ⟨nd, rfl⟩⟩; refine ⟨_, rfl, ?_⟩))
         go_ret
         exact ⟨Z11, Z1 HB GE252⟩
        ·rw [if_neg c22] at H
         exact absurd H Z33
       ·rw [if_neg c21] at H
        have c21b0 : (a0_0 == 2) = false := beq_eq_false_iff_ne.mpr c21
        have c21b1 : (a0_0 != 2) = true := bne_iff_ne.mpr c21
        by_cases c24 : a0_0 = 3
        ·rw [if_pos c24] at H
         have c24b0 : (a0_0 == 3) = true := beq_iff_eq.mpr c24
         have c24b1 : (a0_0 != 3) = false := bne_eq_false_iff_eq.mpr c24
         clear c24
         by_cases c25 : 5 + ((⟨#[32]⟩ : ByteArray) ++ t253).size ≤ 9223372036854775807
         ·rw [if_pos c25] at H
          have c25b0 := eq_true c25
          have c25b1 : decide (5 + ((⟨#[32]⟩ : ByteArray) ++ t253).size ≤ 9223372036854775807) = true := decide_eq_true c25
          try have c25b2 : (9223372036854775807 < 5 + ((⟨#[32]⟩ : ByteArray) ++ t253).size) = False := eq_false (Nat.not_lt.2 c25)
          try have c25b3 : (9223372036854775807 < 5 + (1 + t253.size)) = False := eq_false (Nat.not_lt.2 (by have h_ := c25; simp only [ByteArray.size_append] at h_; exact h_))
          obtain rfl := Option.some.inj H
          have hcz26_0 : wc.cell? ⟨gb252, 0, none⟩ = some (.int .i64 a0_0) := (blk_cell BK252.out 0).trans rfl
          have hcz26_1 : wc.cell? ⟨gb252, 1, none⟩ = some (.int .i64 a0_1) := (blk_cell BK252.out 1).trans rfl
          have hcz26_2 : wc.cell? ⟨gb252, 2, none⟩ = some (.int .i64 a0_2) := (blk_cell BK252.out 2).trans rfl
          have hfz26_0 := blk_frozen BK252.out 0
          have hfz26_1 := blk_frozen BK252.out 1
          have hfz26_2 := blk_frozen BK252.out 2
          go_wp2_with (first | ((with_reducible refine gate_callee (f := 53) rfl ?_); refine gL_ 24 Tryz.func53 #[.int .i64 a0_1] ?_; (with_reducible refine (strconv_Itoa_53.calls a0_1 t253 _ A12.out).mono ?_); rintro e w' ⟨rfl, ⟨nd, rfl⟩⟩; refine ⟨_, rfl, ?_⟩))
          go_ret
          exact ⟨Z11, Z1 HB GE252⟩
         ·rw [if_neg c25] at H
          exact absurd H Z33
        ·rw [if_neg c24] at H
         have c24b0 : (a0_0 == 3) = false := beq_eq_false_iff_ne.mpr c24
         have c24b1 : (a0_0 != 3) = true := bne_iff_ne.mpr c24
         by_cases c27 : a0_1 = 0
         ·rw [if_pos c27] at H
          have c27b0 : (a0_1 == 0) = true := beq_iff_eq.mpr c27
          have c27b1 : (a0_1 != 0) = false := bne_eq_false_iff_eq.mpr c27
          clear c27
          by_cases c28 : a0_0 = 1
          ·rw [if_pos c28] at H
           have c28b0 : (a0_0 == 1) = true := beq_iff_eq.mpr c28
           have c28b1 : (a0_0 != 1) = false := bne_eq_false_iff_eq.mpr c28
           clear c28
           obtain rfl := Option.some.inj H
           have hcz29_0 : wc.cell? ⟨gb252, 0, none⟩ = some (.int .i64 a0_0) := (blk_cell BK252.out 0).trans rfl
           have hcz29_1 : wc.cell? ⟨gb252, 1, none⟩ = some (.int .i64 a0_1) := (blk_cell BK252.out 1).trans rfl
           have hcz29_2 : wc.cell? ⟨gb252, 2, none⟩ = some (.int .i64 a0_2) := (blk_cell BK252.out 2).trans rfl
           have hfz29_0 := blk_frozen BK252.out 0
           have hfz29_1 := blk_frozen BK252.out 1
           have hfz29_2 := blk_frozen BK252.out 2
           go_wp2_with (first | ((with_reducible refine gate_callee (f := 53) rfl ?_); refine gL_ 24 Tryz.func53 #[.int .i64 a0_1] ?_; (with_reducible refine (strconv_Itoa_53.calls a0_1 t253 _ A12.out).mono ?_); rintro e w' ⟨rfl, ⟨nd, rfl⟩⟩; refine ⟨_, rfl, ?_⟩))
           go_ret
           exact ⟨Z11, Z1 HB GE252⟩
          ·rw [if_neg c28] at H
           have c28b0 : (a0_0 == 1) = false := beq_eq_false_iff_ne.mpr c28
           have c28b1 : (a0_0 != 1) = true := bne_iff_ne.mpr c28
           by_cases c30 : a0_0 = 4
           ·rw [if_pos c30] at H
            have c30b0 : (a0_0 == 4) = true := beq_iff_eq.mpr c30
            have c30b1 : (a0_0 != 4) = false := bne_eq_false_iff_eq.mpr c30
            clear c30
            obtain rfl := Option.some.inj H
            have hcz31_0 : wc.cell? ⟨gb252, 0, none⟩ = some (.int .i64 a0_0) := (blk_cell BK252.out 0).trans rfl
            have hcz31_1 : wc.cell? ⟨gb252, 1, none⟩ = some (.int .i64 a0_1) := (blk_cell BK252.out 1).trans rfl
            have hcz31_2 : wc.cell? ⟨gb252, 2, none⟩ = some (.int .i64 a0_2) := (blk_cell BK252.out 2).trans rfl
            have hfz31_0 := blk_frozen BK252.out 0
            have hfz31_1 := blk_frozen BK252.out 1
            have hfz31_2 := blk_frozen BK252.out 2
            go_wp2_with (first | ((with_reducible refine gate_callee (f := 53) rfl ?_); refine gL_ 24 Tryz.func53 #[.int .i64 a0_1] ?_; (with_reducible refine (strconv_Itoa_53.calls a0_1 t253 _ A12.out).mono ?_); rintro e w' ⟨rfl, ⟨nd, rfl⟩⟩; refine ⟨_, rfl, ?_⟩))
            go_ret
            exact ⟨Z11, Z1 HB GE252⟩
           ·rw [if_neg c30] at H
            have c30b0 : (a0_0 == 4) = false := beq_eq_false_iff_ne.mpr c30
            have c30b1 : (a0_0 != 4) = true := bne_iff_ne.mpr c30
            obtain rfl := Option.some.inj H
            have hcz32_0 : wc.cell? ⟨gb252, 0, none⟩ = some (.int .i64 a0_0) := (blk_cell BK252.out 0).trans rfl
            have hcz32_1 : wc.cell? ⟨gb252, 1, none⟩ = some (.int .i64 a0_1) := (blk_cell BK252.out 1).trans rfl
            have hcz32_2 : wc.cell? ⟨gb252, 2, none⟩ = some (.int .i64 a0_2) := (blk_cell BK252.out 2).trans rfl
            have hfz32_0 := blk_frozen BK252.out 0
            have hfz32_1 := blk_frozen BK252.out 1
            have hfz32_2 := blk_frozen BK252.out 2
            go_wp2_with (first | ((with_reducible refine gate_callee (f := 53) rfl ?_); refine gL_ 24 Tryz.func53 #[.int .i64 a0_1] ?_; (with_reducible refine (strconv_Itoa_53.calls a0_1 t253 _ A12.out).mono ?_); rintro e w' ⟨rfl, ⟨nd, rfl⟩⟩; refine ⟨_, rfl, ?_⟩))
            go_ret
            exact ⟨Z11, Z1 HB GE252⟩
         ·rw [if_neg c27] at H
          have c27b0 : (a0_1 == 0) = false := beq_eq_false_iff_ne.mpr c27
          have c27b1 : (a0_1 != 0) = true := bne_iff_ne.mpr c27
          obtain rfl := Option.some.inj H
          have hcz33_0 : wc.cell? ⟨gb252, 0, none⟩ = some (.int .i64 a0_0) := (blk_cell BK252.out 0).trans rfl
          have hcz33_1 : wc.cell? ⟨gb252, 1, none⟩ = some (.int .i64 a0_1) := (blk_cell BK252.out 1).trans rfl
          have hcz33_2 : wc.cell? ⟨gb252, 2, none⟩ = some (.int .i64 a0_2) := (blk_cell BK252.out 2).trans rfl
          have hfz33_0 := blk_frozen BK252.out 0
          have hfz33_1 := blk_frozen BK252.out 1
          have hfz33_2 := blk_frozen BK252.out 2
          go_wp2_with (first | ((with_reducible refine gate_callee (f := 53) rfl ?_); refine gL_ 24 Tryz.func53 #[.int .i64 a0_1] ?_; (with_reducible refine (strconv_Itoa_53.calls a0_1 t253 _ A12.out).mono ?_); rintro e w' ⟨rfl, ⟨nd, rfl⟩⟩; refine ⟨_, rfl, ?_⟩))
          go_ret
          exact ⟨Z11, Z1 HB GE252⟩
      ·rw [if_neg c20] at H
       have c20b0 : (a0_2 == 0) = false := beq_eq_false_iff_ne.mpr c20
       have c20b1 : (a0_2 != 0) = true := bne_iff_ne.mpr c20
       obtain rfl := Option.some.inj H
       have hcz34_0 : wc.cell? ⟨gb252, 0, none⟩ = some (.int .i64 a0_0) := (blk_cell BK252.out 0).trans rfl
       have hcz34_1 : wc.cell? ⟨gb252, 1, none⟩ = some (.int .i64 a0_1) := (blk_cell BK252.out 1).trans rfl
       have hcz34_2 : wc.cell? ⟨gb252, 2, none⟩ = some (.int .i64 a0_2) := (blk_cell BK252.out 2).trans rfl
       have hfz34_0 := blk_frozen BK252.out 0
       have hfz34_1 := blk_frozen BK252.out 1
       have hfz34_2 := blk_frozen BK252.out 2
       go_wp2_with (first | ((with_reducible refine gate_callee (f := 53) rfl ?_); refine gL_ 24 Tryz.func53 #[.int .i64 a0_1] ?_; (with_reducible refine (strconv_Itoa_53.calls a0_1 t253 _ A12.out).mono ?_); rintro e w' ⟨rfl, ⟨nd, rfl⟩⟩; refine ⟨_, rfl, ?_⟩))
       go_ret
       exact ⟨Z11, Z1 HB GE252⟩
    ·rw [if_neg c13] at H
     exact absurd H Z33

/-! ### impl_ReadDeed: function 44 (by hand) -/
-- SHELF
def impl_ReadDeed.parts (s : ByteArray) : List ByteArray := Lib.splitB ⟨#[32]⟩ 0 (Lib.countB s ⟨#[32]⟩) s
def impl_ReadDeed.part (s : ByteArray) (i : Nat) : ByteArray := (impl_ReadDeed.parts s).getD i ByteArray.empty
def impl_ReadDeed.kinds : List ByteArray := [⟨#[99, 111, 109, 101]⟩, ⟨#[103, 111]⟩, ⟨#[110, 101, 101, 100]⟩, ⟨#[108, 97, 116, 101, 114]⟩, ⟨#[98, 97, 99, 107]⟩]
def impl_ReadDeed.atoi (s : ByteArray) : Int := match Lib.atoiAll s.data.toList with | .ok v => v | .range => Lib.atoiSat s.data.toList | _ => 0
def impl_ReadDeed.kind (s : ByteArray) : Int := Lib.idxOfS impl_ReadDeed.kinds (impl_ReadDeed.part s 0)
def impl_ReadDeed.numA (s : ByteArray) : Int := if 1 < (impl_ReadDeed.parts s).length then impl_ReadDeed.atoi (impl_ReadDeed.part s 1) else 0
def impl_ReadDeed.numB (s : ByteArray) : Int := if 2 < (impl_ReadDeed.parts s).length then impl_ReadDeed.atoi (impl_ReadDeed.part s 2) else 0
def impl_ReadDeed.f (k : Nat) (a0 : ByteArray) : Option (Int × Int × Int × Bool) := if a0.size < 4294967281 then (if (impl_ReadDeed.parts a0).all (fun p => decide (p.size ≤ 4294967281)) = true then (if impl_ReadDeed.kind a0 < 0 then some (0, 0, 0, false) else (if 3 < (impl_ReadDeed.parts a0).length then some (0, 0, 0, false) else (if impl_ReadDeed.kind a0 < 5 then ((impl_DeedText.f k (impl_ReadDeed.kind a0) (impl_ReadDeed.numA a0) (impl_ReadDeed.numB a0)).bind fun t => if t.toList = a0.toList then some (impl_ReadDeed.kind a0, impl_ReadDeed.numA a0, impl_ReadDeed.numB a0, true) else some (0, 0, 0, false)) else none))) else none) else none
theorem impl_ReadDeed.small {a0 : ByteArray} (h : (impl_ReadDeed.parts a0).all (fun p => decide (p.size ≤ 4294967281)) = true) (i : Nat) : (impl_ReadDeed.part a0 i).size ≤ 4294967281 := by
 unfold impl_ReadDeed.part
 generalize impl_ReadDeed.parts a0 = xs at h ⊢
 rw [List.all_eq_true] at h
 rw [List.getD_eq_getElem?_getD]
 cases hx : xs[i]? with
 | none => exact Nat.zero_le _
 | some p => exact of_decide_eq_true (h p (List.mem_of_getElem? hx))
theorem impl_ReadDeed.five {x : Int} (h0 : 0 ≤ x) (h1 : x < 5) : (#[Value.int .i64 0, .int .i64 1, .int .i64 2, .int .i64 3, .int .i64 4] : Array Value)[x.toNat]? = some (.int .i64 x) := by
 obtain ⟨m, rfl⟩ := Int.eq_ofNat_of_zero_le h0
 rw [Int.toNat_natCast]
 match m, h1 with
 | 0, _ => rfl
 | 1, _ => rfl
 | 2, _ => rfl
 | 3, _ => rfl
 | 4, _ => rfl
theorem impl_ReadDeed.pos (s : ByteArray) : 0 < (impl_ReadDeed.parts s).length := by
  unfold impl_ReadDeed.parts
  rw [Lib.splitB_all _ Z28 0 _ _ rfl]; omega
theorem impl_ReadDeed.cell0 {w : World} {g : Nat} {xs : List ByteArray} (h : w.heap[g]? = some (.cells (xs.map Value.string).toArray 9 (0, 0))) (i : Nat) (hi : i < xs.length) : w.cell? ⟨g, i, none⟩ = some (.string (xs.getD i ByteArray.empty)) :=
  (blk_cell h i).trans (by simp [List.getElem?_eq_getElem hi, List.getD_eq_getElem?_getD])
theorem impl_ReadDeed.cell {a0 : ByteArray} {w : World} {g : Nat} (h : w.heap[g]? = some (.cells ((impl_ReadDeed.parts a0).map Value.string).toArray 9 (0, 0))) (i : Nat) (hi : i < (impl_ReadDeed.parts a0).length) : w.cell? ⟨g, i, none⟩ = some (.string (impl_ReadDeed.part a0 i)) := impl_ReadDeed.cell0 h i hi
theorem impl_ReadDeed.split (a0 : ByteArray) (w : World) (hE : EnvOk w) (hs : a0.size < 4294967281) :
 Calls Tryz.prog 89 #[.string a0, .string ⟨#[32]⟩] w fun e w' => e = .returned (.slice (some ⟨w.heap.size, 0, none⟩) (impl_ReadDeed.parts a0).length (impl_ReadDeed.parts a0).length) ∧ w'.heap[w.heap.size]? = some (.cells ((impl_ReadDeed.parts a0).map Value.string).toArray 9 (0, 0)) ∧ Below w.heap.size w w' := by
 obtain ⟨m, hm⟩ := hE.1
 refine (Tryz.strings_Split a0 ⟨#[32]⟩ m w hs hm Z28).mono ?_
 rintro e w' ⟨rfl, rfl⟩
 have hl : (impl_ReadDeed.parts a0).length = Lib.countB a0 ⟨#[32]⟩ + 1 := by unfold impl_ReadDeed.parts; exact Lib.splitB_all _ Z28 0 _ _ rfl
 rw [hl]
 exact ⟨rfl, heap_alloc_new _ _, below_alloc (Below.refl _ _) _⟩
theorem impl_ReadDeed.index (a0 : ByteArray) (g : Nat) (w : World) (hg : w.heap[g]? = some (.cells #[.string ⟨#[99, 111, 109, 101]⟩, .string ⟨#[103, 111]⟩, .string ⟨#[110, 101, 101, 100]⟩, .string ⟨#[108, 97, 116, 101, 114]⟩, .string ⟨#[98, 97, 99, 107]⟩] 9 (0, 0))) :
 Calls Tryz.prog 90 #[.slice (some ⟨g, 0, none⟩) 5 5, .string (impl_ReadDeed.part a0 0)] w fun e w' => e = .returned (.int .i64 (impl_ReadDeed.kind a0)) ∧ Below w.heap.size w w' := by
 refine (Tryz.slices_Index_string g 0 5 5 impl_ReadDeed.kinds (impl_ReadDeed.part a0 0) w Z28 Z28 (fun j hj => ?_)).mono ?_
 ·rw [Nat.zero_add]
  exact impl_ReadDeed.cell0 (xs := impl_ReadDeed.kinds) hg j hj
 ·rintro e w' ⟨rfl, rfl⟩
  exact ⟨rfl, Below.refl _ _⟩
theorem impl_ReadDeed.atois (s : ByteArray) (w : World) (hE : EnvOk w) (hs : s.size ≤ 4294967281) :
 Calls Tryz.prog 91 #[.string s] w fun e w' => ∃ ev, e = .returned (.tuple #[.int .i64 (impl_ReadDeed.atoi s), ev]) ∧ Below w.heap.size w w' := by
 unfold impl_ReadDeed.atoi
 obtain ⟨_, ⟨t2, p2, h2⟩, t3, p3, h3⟩ := hE
 cases h : Lib.atoiAll s.data.toList with
 | ok v =>
  refine (Tryz.strconv_Atoi_ok s Z32 v h w).mono ?_
  rintro e w' ⟨rfl, hw⟩
  refine ⟨_, rfl, ?_⟩
  rcases hw with rfl | ⟨t, rfl⟩
  ·exact Below.refl _ _
  ·exact bytes_below (Below.refl _ _) (Nat.le_refl _) _ _
 | range =>
  refine (Tryz.strconv_Atoi_range s Z32 h _ w h3 (.inr ⟨_, _, rfl⟩)).mono ?_
  rintro e w' ⟨N, rfl, _, _, hb⟩
  exact ⟨_, rfl, hb⟩
 | _ =>
  refine (Tryz.strconv_Atoi_syntax s Z32 (fun v e => by rw [h] at e; cases e) (fun e => by rw [h] at e; cases e) _ w h2 (.inr ⟨_, _, rfl⟩)).mono ?_
  rintro e w' ⟨N, rfl, _, _, hb⟩
  exact ⟨_, rfl, hb⟩
/-- What is kept while a deed is read. -/
structure RdE (w W : World) (g2 gs : Nat) (ps : List ByteArray) : Prop where
  b : Below w.heap.size w W
  k2 : W.heap[g2]? = some (.cells #[.int .i64 0, .int .i64 0, .int .i64 0] 39 (0, 0))
  ks : W.heap[gs]? = some (.cells (ps.map Value.string).toArray 9 (0, 0))
  l2 : w.heap.size ≤ g2
  lt : g2 < gs
theorem RdE.below {w W W' : World} {g2 gs : Nat} {ps : List ByteArray} (h : RdE w W g2 gs ps) (hb : Below W.heap.size W W') : RdE w W' g2 gs ps := ⟨below_step h.b hb, blk_below h.k2 hb, blk_below h.ks hb, h.l2, h.lt⟩
theorem RdE.set {w W : World} {g2 gs g j : Nat} {ps : List ByteArray} (h : RdE w W g2 gs ps) (hg : gs < g) (u : Value) : RdE w (W.setCell ⟨g, j, none⟩ u) g2 gs ps := by
 have := h.l2
 have := h.lt
 exact ⟨below_set h.b (show w.heap.size ≤ g by omega), blk_far h.k2 (p := ⟨g, j, none⟩) (show g2 ≠ g by omega) u, (Below.heap_setCell W ⟨g, j, none⟩ u gs (show gs ≠ g by omega)).trans h.ks, h.l2, h.lt⟩
theorem RdE.fin {w W : World} {g2 gs : Nat} {ps : List ByteArray} (h : RdE w W g2 gs ps) (u v x : Value) : (((W.setCell ⟨g2, 0, none⟩ u).setCell ⟨g2, 1, none⟩ v).setCell ⟨g2, 2, none⟩ x).heap[g2]? = some (.cells #[u, v, x] 39 (0, 0)) :=
  blk_put (cs := #[u, v, .int .i64 0]) (blk_put (cs := #[u, .int .i64 0, .int .i64 0]) (blk_put (cs := #[.int .i64 0, .int .i64 0, .int .i64 0]) h.k2 0 _ rfl) 1 _ rfl) 2 _ rfl
theorem RdE.finB {w W : World} {g2 gs : Nat} {ps : List ByteArray} (h : RdE w W g2 gs ps) (u v x : Value) : Below w.heap.size w (((W.setCell ⟨g2, 0, none⟩ u).setCell ⟨g2, 1, none⟩ v).setCell ⟨g2, 2, none⟩ x) := below_set (below_set (below_set h.b h.l2) h.l2) h.l2
set_option maxHeartbeats 8000000 in
set_option maxRecDepth 100000 in
theorem impl_ReadDeed.calls (k : Nat) (a0 : ByteArray) (r1 : Int) (r2 : Int) (r3 : Int) (r4 : Bool) (w : World) (hE : EnvOk w) (h : impl_ReadDeed.f k a0 = some (r1, r2, r3, r4)) :
 Calls Tryz.prog 44 #[.string a0] w fun e w' => e = .returned (.tuple #[.agg #[.int .i64 r1, .int .i64 r2, .int .i64 r3], .bool r4]) ∧ Below w.heap.size w w' := by
 have HE := Aside0.mk hE
 clear hE
 have hu39 := Tryz.underlying39
 unfold impl_ReadDeed.f at h
 by_cases b0 : a0.size < 4294967281
 rotate_left
 ·rw [if_neg b0] at h; cases h
 rw [if_pos b0] at h
 by_cases b1 : (impl_ReadDeed.parts a0).all (fun p => decide (p.size ≤ 4294967281)) = true
 rotate_left
 ·rw [if_neg b1] at h; cases h
 rw [if_pos b1] at h
 have hs_ := Aside0.mk b0
 have hz_ := Aside0.mk (impl_ReadDeed.small b1)
 have hp_ := Aside0.mk (impl_ReadDeed.pos a0)
 have H := Aside0.mk h
 clear h b0 b1
 go_enter Tryz.func44, Tryz.ntmps44
 go_wp2_with (fail)
 refine (impl_ReadDeed.split a0 _ (HE.out.below (below_alloc (Below.refl _ _) _)) hs_.out).mono ?_
 rintro e w1 ⟨rfl, hg, hb⟩
 have E1 : Aside0 (RdE w w1 w.heap.size (w.alloc (.cells #[.int .i64 0, .int .i64 0, .int .i64 0] 39)).heap.size (impl_ReadDeed.parts a0)) := ⟨below_step (below_alloc (Below.refl _ _) _) hb, blk_below (blk_new _ _) hb, hg, Nat.le_refl _, Z33⟩
 clear hg hb
 generalize (w.alloc (.cells #[.int .i64 0, .int .i64 0, .int .i64 0] 39)).heap.size = gs at E1 ⊢
 obtain ⟨g2, hg2⟩ : ∃ z, z = w.heap.size := ⟨_, rfl⟩
 rw [show RdE w w1 w.heap.size gs = RdE w w1 g2 gs by rw [hg2]] at E1
 rw [← hg2]
 clear hg2
 have hcP := impl_ReadDeed.cell E1.out.ks 0 hp_.out
 have hp0 := eq_true hp_.out
 have m1 := blk_lt E1.out.ks
 go_wp2_with (fail)
 refine (impl_ReadDeed.index a0 _ _ (blk_new _ _)).mono ?_
 rintro e w2 ⟨rfl, hb⟩
 have E2 := Aside0.mk (E1.out.below (below_step (below_alloc (Below.refl _ _) _) hb))
 clear hb hcP hp0 m1 E1
 have h := H.out
 by_cases b2 : impl_ReadDeed.kind a0 < 0
 ·rw [if_pos b2] at h
  simp only [Option.some.injEq, Prod.mk.injEq] at h
  obtain ⟨rfl, rfl, rfl, rfl⟩ := h
  have b2b := decide_eq_true b2
  clear b2 H
  have hz0 := (blk_cell E2.out.k2 0).trans (show (#[.int .i64 0, .int .i64 0, .int .i64 0] : Array Value)[0]? = some (.int .i64 0) from rfl)
  have hz1 := (blk_cell E2.out.k2 1).trans (show (#[.int .i64 0, .int .i64 0, .int .i64 0] : Array Value)[1]? = some (.int .i64 0) from rfl)
  have hz2 := (blk_cell E2.out.k2 2).trans (show (#[.int .i64 0, .int .i64 0, .int .i64 0] : Array Value)[2]? = some (.int .i64 0) from rfl)
  have hy0 := blk_frozen E2.out.k2 0
  have hy1 := blk_frozen E2.out.k2 1
  have hy2 := blk_frozen E2.out.k2 2
  go_wp2_with (fail)
  refine bodyPost_ret (results_ct rfl _ _ g2 39 #[Value.int .i64 0, Value.int .i64 0, Value.int .i64 0] (0, 0) _ rfl (E2.out.fin _ _ _) Tryz.underlying39 rfl Z15) rfl ?_
  exact ⟨rfl, E2.out.finB _ _ _⟩
 rw [if_neg b2] at h
 have b2b := decide_eq_false b2
 by_cases b3 : 3 < (impl_ReadDeed.parts a0).length
 ·rw [if_pos b3] at h
  simp only [Option.some.injEq, Prod.mk.injEq] at h
  obtain ⟨rfl, rfl, rfl, rfl⟩ := h
  have b3b : decide ((3 : Int) < ((impl_ReadDeed.parts a0).length : Int)) = true := decide_eq_true Z32
  clear b2 b3 H
  have hz0 := (blk_cell E2.out.k2 0).trans (show (#[.int .i64 0, .int .i64 0, .int .i64 0] : Array Value)[0]? = some (.int .i64 0) from rfl)
  have hz1 := (blk_cell E2.out.k2 1).trans (show (#[.int .i64 0, .int .i64 0, .int .i64 0] : Array Value)[1]? = some (.int .i64 0) from rfl)
  have hz2 := (blk_cell E2.out.k2 2).trans (show (#[.int .i64 0, .int .i64 0, .int .i64 0] : Array Value)[2]? = some (.int .i64 0) from rfl)
  have hy0 := blk_frozen E2.out.k2 0
  have hy1 := blk_frozen E2.out.k2 1
  have hy2 := blk_frozen E2.out.k2 2
  go_wp2_with (fail)
  refine bodyPost_ret (results_ct rfl _ _ g2 39 #[Value.int .i64 0, Value.int .i64 0, Value.int .i64 0] (0, 0) _ rfl (E2.out.fin _ _ _) Tryz.underlying39 rfl Z15) rfl ?_
  exact ⟨rfl, E2.out.finB _ _ _⟩
 rw [if_neg b3] at h
 have b3b : decide ((3 : Int) < ((impl_ReadDeed.parts a0).length : Int)) = false := decide_eq_false Z32
 by_cases b4 : impl_ReadDeed.kind a0 < 5
 rotate_left
 ·rw [if_neg b4] at h; cases h
 rw [if_pos b4] at h
 obtain ⟨t1, A1, h⟩ := Option.bind_eq_some_iff.mp h
 have A2 := Aside0.mk A1
 have H2 := Aside0.mk h
 have b4b := eq_true (show 0 ≤ impl_ReadDeed.kind a0 by omega)
 have b4c := eq_true b4
 have hcI := (blk_cell (blk_new w2 (.cells #[.int .i64 0, .int .i64 1, .int .i64 2, .int .i64 3, .int .i64 4] 3 (0, 0))) _).trans (impl_ReadDeed.five (x := impl_ReadDeed.kind a0) Z32 b4)
 clear h H A1 b2 b3 b4
 go_upto_if 29 with (fail)
 have E3 := Aside0.mk (E2.out.below (below_alloc (below_alloc (Below.refl w2.heap.size w2) (.cells #[.int .i64 0, .int .i64 1, .int .i64 2, .int .i64 3, .int .i64 4] 3)) (.cells #[.int .i64 (impl_ReadDeed.kind a0), .int .i64 0, .int .i64 0] 39)))
 have K3 : Aside0 (((w2.alloc (.cells #[.int .i64 0, .int .i64 1, .int .i64 2, .int .i64 3, .int .i64 4] 3)).alloc (.cells #[.int .i64 (impl_ReadDeed.kind a0), .int .i64 0, .int .i64 0] 39)).heap[w2.heap.size + 1]? = some (.cells #[.int .i64 (impl_ReadDeed.kind a0), .int .i64 0, .int .i64 0] 39 (0, 0))) := ⟨by rw [show w2.heap.size + 1 = (w2.alloc (.cells #[.int .i64 0, .int .i64 1, .int .i64 2, .int .i64 3, .int .i64 4] 3)).heap.size by simp]; exact blk_new _ _⟩
 have G6 := Aside0.mk (show gs < w2.heap.size + 1 by have := blk_lt E2.out.ks; omega)
 clear hcI b4b b4c b2b b3b E2
 generalize (w2.alloc (.cells #[.int .i64 0, .int .i64 1, .int .i64 2, .int .i64 3, .int .i64 4] 3)).alloc (.cells #[.int .i64 (impl_ReadDeed.kind a0), .int .i64 0, .int .i64 0] 39) = w3 at E3 K3 ⊢
 generalize w2.heap.size + 1 = g6 at K3 G6 ⊢
 generalize w2.heap.size = gi
 generalize w1.heap.size = gl
 clear w2 w1
 go_cut [] (fun wc => Aside0 (RdE w wc g2 gs (impl_ReadDeed.parts a0)) ∧ Aside0 (wc.heap[g6]? = some (.cells #[.int .i64 (impl_ReadDeed.kind a0), .int .i64 (impl_ReadDeed.numA a0), .int .i64 0] 39 (0, 0))))
 ·by_cases b5 : 1 < (impl_ReadDeed.parts a0).length
  ·have b5b : decide ((1 : Int) < ((impl_ReadDeed.parts a0).length : Int)) = true := decide_eq_true Z32
   have hcP := impl_ReadDeed.cell E3.out.ks 1 b5
   have hp1 : ((1 : Int) < ((impl_ReadDeed.parts a0).length : Int)) = True := eq_true Z32
   have eN : impl_ReadDeed.numA a0 = impl_ReadDeed.atoi (impl_ReadDeed.part a0 1) := by unfold impl_ReadDeed.numA; rw [if_pos b5]
   clear b5
   rw [b5b]
   go_wp2_with (fail)
   refine (impl_ReadDeed.atois _ _ (HE.out.below E3.out.b) (hz_.out 1)).mono ?_
   rintro e w4 ⟨ev, rfl, hb⟩
   have E4 := Aside0.mk (E3.out.below hb)
   have K4 := Aside0.mk (blk_below K3.out hb)
   clear hb hcP hp1 b5b
   have hx := (blk_cell K4.out 1).trans (show (#[Value.int .i64 (impl_ReadDeed.kind a0), .int .i64 0, .int .i64 0] : Array Value)[1]? = some (.int .i64 0) from rfl)
   have hf := blk_frozen K4.out 1
   go_wp2_with (fail)
   go_meet
   exact ⟨⟨E4.out.set G6.out _⟩, ⟨by rw [eN]; exact blk_put K4.out 1 _ rfl⟩⟩
  ·have b5b : decide ((1 : Int) < ((impl_ReadDeed.parts a0).length : Int)) = false := decide_eq_false Z32
   have eN : impl_ReadDeed.numA a0 = 0 := by unfold impl_ReadDeed.numA; rw [if_neg b5]
   clear b5
   rw [b5b]
   go_wp2_with (fail)
   go_meet
   exact ⟨E3, ⟨by rw [eN]; exact K3.out⟩⟩
 case rest =>
  clear E3 K3
  obtain ⟨E3, K3⟩ := hcut
  go_upto_if 40 with (fail)
  go_cut [] (fun wc => Aside0 (RdE w wc g2 gs (impl_ReadDeed.parts a0)) ∧ Aside0 (wc.heap[g6]? = some (.cells #[.int .i64 (impl_ReadDeed.kind a0), .int .i64 (impl_ReadDeed.numA a0), .int .i64 (impl_ReadDeed.numB a0)] 39 (0, 0))))
  ·by_cases b5 : 2 < (impl_ReadDeed.parts a0).length
   ·have b5b : decide ((2 : Int) < ((impl_ReadDeed.parts a0).length : Int)) = true := decide_eq_true Z32
    have hcP := impl_ReadDeed.cell E3.out.ks 2 b5
    have hp1 : ((2 : Int) < ((impl_ReadDeed.parts a0).length : Int)) = True := eq_true Z32
    have eN : impl_ReadDeed.numB a0 = impl_ReadDeed.atoi (impl_ReadDeed.part a0 2) := by unfold impl_ReadDeed.numB; rw [if_pos b5]
    clear b5
    rw [b5b]
    go_wp2_with (fail)
    refine (impl_ReadDeed.atois _ _ (HE.out.below E3.out.b) (hz_.out 2)).mono ?_
    rintro e w4 ⟨ev, rfl, hb⟩
    have E4 := Aside0.mk (E3.out.below hb)
    have K4 := Aside0.mk (blk_below K3.out hb)
    clear hb hcP hp1 b5b
    have hx := (blk_cell K4.out 2).trans (show (#[Value.int .i64 (impl_ReadDeed.kind a0), .int .i64 (impl_ReadDeed.numA a0), .int .i64 0] : Array Value)[2]? = some (.int .i64 0) from rfl)
    have hf := blk_frozen K4.out 2
    go_wp2_with (fail)
    go_meet
    exact ⟨⟨E4.out.set G6.out _⟩, ⟨by rw [eN]; exact blk_put K4.out 2 _ rfl⟩⟩
   ·have b5b : decide ((2 : Int) < ((impl_ReadDeed.parts a0).length : Int)) = false := decide_eq_false Z32
    have eN : impl_ReadDeed.numB a0 = 0 := by unfold impl_ReadDeed.numB; rw [if_neg b5]
    clear b5
    rw [b5b]
    go_wp2_with (fail)
    go_meet
    exact ⟨E3, ⟨by rw [eN]; exact K3.out⟩⟩
  case rest =>
   clear E3 K3
   obtain ⟨E3, K3⟩ := hcut
   have hx0 := (blk_cell K3.out 0).trans (show (#[Value.int .i64 (impl_ReadDeed.kind a0), .int .i64 (impl_ReadDeed.numA a0), .int .i64 (impl_ReadDeed.numB a0)] : Array Value)[0]? = some (.int .i64 (impl_ReadDeed.kind a0)) from rfl)
   have hx1 := (blk_cell K3.out 1).trans (show (#[Value.int .i64 (impl_ReadDeed.kind a0), .int .i64 (impl_ReadDeed.numA a0), .int .i64 (impl_ReadDeed.numB a0)] : Array Value)[1]? = some (.int .i64 (impl_ReadDeed.numA a0)) from rfl)
   have hx2 := (blk_cell K3.out 2).trans (show (#[Value.int .i64 (impl_ReadDeed.kind a0), .int .i64 (impl_ReadDeed.numA a0), .int .i64 (impl_ReadDeed.numB a0)] : Array Value)[2]? = some (.int .i64 (impl_ReadDeed.numB a0)) from rfl)
   go_wp2_with (fail)
   refine (impl_DeedText.calls k _ _ _ t1 _ A2.out).mono ?_
   rintro e w5 ⟨rfl, hb⟩
   have E5 := Aside0.mk (E3.out.below hb)
   have K5 := Aside0.mk (blk_below K3.out hb)
   clear hb hx0 hx1 hx2 E3 K3
   have hx0 := (blk_cell K5.out 0).trans (show (#[Value.int .i64 (impl_ReadDeed.kind a0), .int .i64 (impl_ReadDeed.numA a0), .int .i64 (impl_ReadDeed.numB a0)] : Array Value)[0]? = some (.int .i64 (impl_ReadDeed.kind a0)) from rfl)
   have hx1 := (blk_cell K5.out 1).trans (show (#[Value.int .i64 (impl_ReadDeed.kind a0), .int .i64 (impl_ReadDeed.numA a0), .int .i64 (impl_ReadDeed.numB a0)] : Array Value)[1]? = some (.int .i64 (impl_ReadDeed.numA a0)) from rfl)
   have hx2 := (blk_cell K5.out 2).trans (show (#[Value.int .i64 (impl_ReadDeed.kind a0), .int .i64 (impl_ReadDeed.numA a0), .int .i64 (impl_ReadDeed.numB a0)] : Array Value)[2]? = some (.int .i64 (impl_ReadDeed.numB a0)) from rfl)
   have h := H2.out
   by_cases c1 : t1.toList = a0.toList
   ·rw [if_pos c1] at h
    simp only [Option.some.injEq, Prod.mk.injEq] at h
    obtain ⟨rfl, rfl, rfl, rfl⟩ := h
    have c1a : (t1.toList == a0.toList) = true := beq_iff_eq.mpr c1
    have c1b : (t1.toList != a0.toList) = false := bne_eq_false_iff_eq.mpr c1
    clear c1 H2
    have hz0 := (blk_cell E5.out.k2 0).trans (show (#[.int .i64 0, .int .i64 0, .int .i64 0] : Array Value)[0]? = some (.int .i64 0) from rfl)
    have hz1 := (blk_cell E5.out.k2 1).trans (show (#[.int .i64 0, .int .i64 0, .int .i64 0] : Array Value)[1]? = some (.int .i64 0) from rfl)
    have hz2 := (blk_cell E5.out.k2 2).trans (show (#[.int .i64 0, .int .i64 0, .int .i64 0] : Array Value)[2]? = some (.int .i64 0) from rfl)
    have hy0 := blk_frozen E5.out.k2 0
    have hy1 := blk_frozen E5.out.k2 1
    have hy2 := blk_frozen E5.out.k2 2
    go_wp2_with (fail)
    refine bodyPost_ret (results_ct rfl _ _ g2 39 #[Value.int .i64 (impl_ReadDeed.kind a0), Value.int .i64 (impl_ReadDeed.numA a0), Value.int .i64 (impl_ReadDeed.numB a0)] (0, 0) _ rfl (E5.out.fin _ _ _) Tryz.underlying39 rfl Z15) rfl ?_
    exact ⟨rfl, E5.out.finB _ _ _⟩
   ·rw [if_neg c1] at h
    simp only [Option.some.injEq, Prod.mk.injEq] at h
    obtain ⟨rfl, rfl, rfl, rfl⟩ := h
    have c1a : (t1.toList == a0.toList) = false := beq_eq_false_iff_ne.mpr c1
    have c1b : (t1.toList != a0.toList) = true := bne_iff_ne.mpr c1
    clear c1 H2
    have hz0 := (blk_cell E5.out.k2 0).trans (show (#[.int .i64 0, .int .i64 0, .int .i64 0] : Array Value)[0]? = some (.int .i64 0) from rfl)
    have hz1 := (blk_cell E5.out.k2 1).trans (show (#[.int .i64 0, .int .i64 0, .int .i64 0] : Array Value)[1]? = some (.int .i64 0) from rfl)
    have hz2 := (blk_cell E5.out.k2 2).trans (show (#[.int .i64 0, .int .i64 0, .int .i64 0] : Array Value)[2]? = some (.int .i64 0) from rfl)
    have hy0 := blk_frozen E5.out.k2 0
    have hy1 := blk_frozen E5.out.k2 1
    have hy2 := blk_frozen E5.out.k2 2
    go_wp2_with (fail)
    refine bodyPost_ret (results_ct rfl _ _ g2 39 #[Value.int .i64 0, Value.int .i64 0, Value.int .i64 0] (0, 0) _ rfl (E5.out.fin _ _ _) Tryz.underlying39 rfl Z15) rfl ?_
    exact ⟨rfl, E5.out.finB _ _ _⟩

/-! ### impl_ReadJournal: function 9 -/
def impl_ReadJournal.l0 : Nat → ByteArray → List (S39) → Int → Option ((List (S39)) × Int)
  | 0, _, _, _ => none
  | k + 1, x0, x4, x5 => if 0 ≤ x5 then (if x5 ≤ (x0.size : Int) then ((strings_Cut.f (x0.extract (x5 : Int).toNat x0.size) (⟨#[10]⟩ : ByteArray)).bind fun bt258 => ((impl_ReadDeed.f k bt258.1).bind fun bt261 => (if bt258.2.2 = true then (if bt261.2.2.2 = true then (if x4.length < 5864062014805 then (impl_ReadJournal.l0 k x0 (x4 ++ [(⟨bt261.1, bt261.2.1, bt261.2.2.1⟩ : S39)]) (wrap64 (x5 + (wrap64 ((bt258.1.size : Int) + 1))))) else (none)) else (some (x4, x5))) else (some (x4, x5))))) else (none)) else (none)
def impl_ReadJournal.f (k : Nat) (a0 : ByteArray) : Option ((List (S39)) × Int) := impl_ReadJournal.l0 k a0 (([] : List (S39))) 0
set_option maxHeartbeats 8000000 in
set_option maxRecDepth 100000 in
theorem impl_ReadJournal.calls (k : Nat) (a0 : ByteArray) (r1 : List (S39)) (r2 : Int) (w : World) (hE : EnvOk w) (h : impl_ReadJournal.f k a0 = some (r1, r2)) :
 Calls Tryz.prog 9 #[.string a0] w fun e w' => ∃ v0_ : Value, e = .returned (.tuple #[v0_, .int .i64 r2]) ∧ Kd.R k39 39 w' w.heap.size (fun _ => True) v0_ r1 ∧ Below w.heap.size w w' := by
 have HE := Aside0.mk hE
 clear hE
 have hu39 := Tryz.underlying39
 have HB := Aside0.mk (Below.refl w.heap.size w)
 have H : (impl_ReadJournal.l0 k a0 (([] : List (S39))) 0) = some (r1, r2) := h
 clear h
 obtain ⟨y255, hy255⟩ : ∃ y_ : List (S39), y_ = (([] : List (S39))) := ⟨_, rfl⟩
 replace H : (impl_ReadJournal.l0 k a0 y255 0) = some (r1, r2) := Z5 hy255
 have Ny255 := Aside0.mk hy255
 clear hy255
 have H' := Aside0.mk H
 clear H
 go_enter Tryz.func9, Tryz.ntmps9
 go_wp2_with (first | ((with_reducible refine gate_dst (N := 11) rfl ?_); refine Kd.R_lit k39 _ 39 ?hg (N := 11) ?hd (xs := ([] : List (S39))) (inner := []) (ok := fun _ => True) (okp := fun _ => True) ?hr ?hp (fun _ hk => hk) trivial (Below.refl _ _) (Nat.le_refl _) Z33 ?_; (case hd => exact Z90); (case hg => exact Z90); (case hr => exact Z29); (case hp => exact Z67); intro v256 w2 ho3 hb hg_ hnew_; clear hg_ hnew_; (first | rw [← Ny255.out] at ho3 | (simp only [Int.reduceToNat] at ho3; rw [← Ny255.out] at ho3)); have HO257 := Aside0.mk (Kd.R_lower ho3 (below_size (Z0 HB))); replace HB := Aside0.mk (below_step (Z0 HB) hb); clear hb ho3))
 go_loopg [4, 5] k (fun kq v4 v5 w' => ∃ (x4_1 : List (S39)) (x5_1 : Int), v5 = .int .i64 x5_1 ∧ Aside0 (impl_ReadJournal.l0 kq a0 x4_1 x5_1 = some (r1, r2)) ∧ Aside0 (kq ≤ k) ∧ Aside0 (Kd.R k39 39 w' w.heap.size (fun _ => True) v4 x4_1) ∧ Aside0 (Below w.heap.size w w'))
 case atStart => exact ⟨(y255), (0), Z14, H', ⟨Nat.le_refl _⟩, ⟨Z4 HO257⟩, ⟨Z0 HB⟩⟩
 case round =>
  clear H'
  try clear p2
  obtain ⟨x4_1, x5_1, rfl, HA, HK1, HO_4, HB⟩ := hrel
  cases gk with
  | zero => exact absurd HA.out (by simp [impl_ReadJournal.l0])
  | succ k1 =>
   have H := HA.out
   clear HA
   simp only [impl_ReadJournal.l0] at H
   by_cases c4 : 0 ≤ x5_1
   ·rw [if_pos c4] at H
    have c4b0 := eq_true c4
    have c4b1 : decide (0 ≤ x5_1) = true := decide_eq_true c4
    clear c4
    by_cases c5 : x5_1 ≤ (a0.size : Int)
    ·rw [if_pos c5] at H
     have c5b0 := eq_true c5
     have c5b1 : decide (x5_1 ≤ (a0.size : Int)) = true := decide_eq_true c5
     clear c5
     replace H := Option.bind_eq_some_iff.mp H
     obtain ⟨⟨t258, t259, t260⟩, A60, H⟩ := H
     replace H : ((impl_ReadDeed.f k1 t258).bind fun bt261 => (if t260 = true then (if bt261.2.2.2 = true then (if x4_1.length < 5864062014805 then (impl_ReadJournal.l0 k1 a0 (x4_1 ++ [(⟨bt261.1, bt261.2.1, bt261.2.2.1⟩ : S39)]) (wrap64 (x5_1 + (wrap64 ((t258.size : Int) + 1))))) else (none)) else (some (x4_1, x5_1))) else (some (x4_1, x5_1)))) = some (r1, r2) := H
     have A6 := Aside0.mk A60
     clear A60
     replace H := Option.bind_eq_some_iff.mp H
     obtain ⟨⟨t261, t262, t263, t264⟩, A70, H⟩ := H
     replace H : (if t260 = true then (if t264 = true then (if x4_1.length < 5864062014805 then (impl_ReadJournal.l0 k1 a0 (x4_1 ++ [(⟨t261, t262, t263⟩ : S39)]) (wrap64 (x5_1 + (wrap64 ((t258.size : Int) + 1))))) else (none)) else (some (x4_1, x5_1))) else (some (x4_1, x5_1))) = some (r1, r2) := H
     have A7 := Aside0.mk A70
     clear A70
     by_cases c8 : t260 = true
     ·subst c8
      have H1 : (if t264 = true then (if x4_1.length < 5864062014805 then (impl_ReadJournal.l0 k1 a0 (x4_1 ++ [(⟨t261, t262, t263⟩ : S39)]) (wrap64 (x5_1 + (wrap64 ((t258.size : Int) + 1))))) else (none)) else (some (x4_1, x5_1))) = some (r1, r2) := Z37
      clear H
      have H := H1
      clear H1
      by_cases c9 : t264 = true
      ·subst c9
       have H1 : (if x4_1.length < 5864062014805 then (impl_ReadJournal.l0 k1 a0 (x4_1 ++ [(⟨t261, t262, t263⟩ : S39)]) (wrap64 (x5_1 + (wrap64 ((t258.size : Int) + 1))))) else (none)) = some (r1, r2) := Z37
       clear H
       have H := H1
       clear H1
       by_cases c10 : x4_1.length < 5864062014805
       ·rw [if_pos c10] at H
        have LMc10 := Aside0.mk c10
        clear c10
        obtain ⟨y266, hy266⟩ : ∃ y_ : List (S39), y_ = (x4_1 ++ [(⟨t261, t262, t263⟩ : S39)]) := ⟨_, rfl⟩
        replace H : (impl_ReadJournal.l0 k1 a0 y266 (wrap64 (x5_1 + (wrap64 ((t258.size : Int) + 1))))) = some (r1, r2) := Z5 hy266
        have Ny266 := Aside0.mk hy266
        clear hy266
        have H' := Aside0.mk H
        clear H
        go_wp2_with (first | ((with_reducible refine gate_callee (f := 43) rfl ?_); refine gL_ 16 Tryz.func43 #[.string (a0.extract (x5_1 : Int).toNat a0.size), .string (⟨#[10]⟩ : ByteArray)] ?_; (with_reducible refine (strings_Cut.calls (a0.extract (x5_1 : Int).toNat a0.size) (⟨#[10]⟩ : ByteArray) t258 t259 true _ ?sideE A6.out).mono ?_); (case sideE => exact Z40 HE HB); rintro e w' ⟨rfl, ⟨nd, rfl⟩⟩; refine ⟨_, rfl, ?_⟩; (try (rw [drewN_self wr]; generalize hq_ : World.drewN wr _ = wr; have n0_ : Aside0 (Kd.R k39 39 wr w.heap.size (fun _ => True) u4 x4_1) := ⟨by rw [← hq_]; exact (Z4 HO_4)⟩; have n1_ : Aside0 (Below w.heap.size w wr) := ⟨by rw [← hq_]; exact (Z0 HB)⟩; clear HO_4 HB hq_; have HO_4 := n0_; have HB := n1_; clear n0_ n1_))) | ((with_reducible refine gate_callee (f := 44) rfl ?_); refine gL_ 22 Tryz.func44 #[.string t258] ?_; (with_reducible refine (impl_ReadDeed.calls k1 t258 t261 t262 t263 true _ ?sideE A7.out).mono ?_); (case sideE => exact Z40 HE HB); rintro e w11 ⟨rfl, hb⟩; refine ⟨_, rfl, ?_⟩; replace HO_4 := Aside0.mk (Kd.R_below (Z4 HO_4) hb); replace HB := Aside0.mk (below_step (Z0 HB) hb); (try clear hb)) | ((with_reducible refine gate_dst (N := 9) rfl ?_); refine bE_ 9 #[.int .i64 0, .int .i64 0, .int .i64 0] 39 ?_; intro gb265 hg w12 hbox hb; replace HO_4 := Aside0.mk (Kd.R_below (Kd.R_elderB (Z4 HO_4) gb265 (Nat.le_of_eq hg.symm)) hb); have BK265 := Aside0.mk (hbox); have GW265 := Aside0.mk ((by rw [hg]; exact (below_size (Z0 HB)) : w.heap.size ≤ gb265)); have GE265 := Aside0.mk ((by rw [hg]; exact (below_size (Z0 HB)) : w.heap.size ≤ gb265)); replace HB := Aside0.mk (below_step (Z0 HB) hb); clear hb hbox hg; have hcz13_0 : w12.cell? ⟨gb265, 0, none⟩ = some (.int .i64 0) := (blk_cell BK265.out 0).trans rfl; have hcz13_1 : w12.cell? ⟨gb265, 1, none⟩ = some (.int .i64 0) := (blk_cell BK265.out 1).trans rfl; have hcz13_2 : w12.cell? ⟨gb265, 2, none⟩ = some (.int .i64 0) := (blk_cell BK265.out 2).trans rfl; have hfz13_0 := blk_frozen BK265.out 0; have hfz13_1 := blk_frozen BK265.out 1; have hfz13_2 := blk_frozen BK265.out 2) | ((with_reducible refine gate_builtin (b := .append) (xs := #[.tmp 33, .tmp 35]) rfl ?_); at_builtin; refine Kd.R_append k39 (w0 := w) w.heap.size rfl (.tmp 33) (.tmp 35) 24 39 (.agg #[(.int .i64 0), (.int .i64 0), (.int .i64 0)]) 24 rfl Tryz.underlying24 info39 rfl Z28 Z32 u4 x4_1 (⟨t261, t262, t263⟩ : S39) [.int .i64 t261, .int .i64 t262, .int .i64 t263] (fun k_ => k_ ≠ gb265) (fun _ => False) rfl Z29 ?aP (fun _ hk => hk.elim) ?aF ?aO ?aB ?aS ?aL ?_; (case aP => exact k39_mkM _ _ _ (⟨t261, t262, t263⟩ : S39)); (case aB => exact (Z1 HB GE265)); (case aF => exact (fun k_ hk => Kd.freshB (g := gb265) (o := .cells #[.int .i64 t261, .int .i64 t262, .int .i64 t263] 39 (0, 0)) (Z51 BK265) k_ hk)); (case aO => exact (by (with_reducible repeat (first | apply Kd.R_alloc | apply Kd.R_drewN | apply Kd.R_drew)); exact Kd.R_mono (Kd.R_far (p := ⟨gb265, 2, none⟩) (Kd.R_far (p := ⟨gb265, 1, none⟩) (Kd.R_far (p := ⟨gb265, 0, none⟩) (Kd.R_mono HO_4.out (fun k_ hk => (⟨hk, hk.2⟩ : _ ∧ k_ ≠ gb265))) (fun _ hk => hk.2) (.int .i64 t261)) (fun _ hk => hk.2) (.int .i64 t262)) (fun _ hk => hk.2) (.int .i64 t263)) (fun _ hk => hk.1.2))); (case aS => exact (below_size (Z1 HB GE265))); (case aL => exact Z35 LMc10); intro v267 w14 ho hb hg hat; rw [← Ny266.out] at ho; replace BK265 := Aside0.mk (blk_grown (g := gb265) (o := .cells #[.int .i64 t261, .int .i64 t262, .int .i64 t263] 39 (0, 0)) (Z51 BK265) hg (Kd.R_away HO_4.out (fun _ hk => hk.2))); replace HB := Aside0.mk (hb); have HO268 := Aside0.mk (ho); clear HO_4; clear ho hb hg hat))
        go_roundg k1
        case measure => have := HK1.out; omega
        case rel => exact ⟨(y266), (wrap64 (x5_1 + (wrap64 ((t258.size : Int) + 1)))), Z14, H', ⟨Z35 HK1⟩, ⟨Z38 HO268⟩, ⟨Z1 HB GE265⟩⟩
       ·rw [if_neg c10] at H
        exact absurd H Z33
      ·replace c9 := Bool.eq_false_iff.mpr c9
       subst c9
       have H1 : (some (x4_1, x5_1)) = some (r1, r2) := Z24
       clear H
       have H := H1
       clear H1
       simp only [Option.some.injEq, Prod.mk.injEq] at H
       obtain ⟨rfl, rfl⟩ := H
       go_wp2_with (first | ((with_reducible refine gate_callee (f := 43) rfl ?_); refine gL_ 16 Tryz.func43 #[.string (a0.extract (x5_1 : Int).toNat a0.size), .string (⟨#[10]⟩ : ByteArray)] ?_; (with_reducible refine (strings_Cut.calls (a0.extract (x5_1 : Int).toNat a0.size) (⟨#[10]⟩ : ByteArray) t258 t259 true _ ?sideE A6.out).mono ?_); (case sideE => exact Z40 HE HB); rintro e w' ⟨rfl, ⟨nd, rfl⟩⟩; refine ⟨_, rfl, ?_⟩; (try (rw [drewN_self wr]; generalize hq_ : World.drewN wr _ = wr; have n0_ : Aside0 (Kd.R k39 39 wr w.heap.size (fun _ => True) u4 x4_1) := ⟨by rw [← hq_]; exact (Z4 HO_4)⟩; have n1_ : Aside0 (Below w.heap.size w wr) := ⟨by rw [← hq_]; exact (Z0 HB)⟩; clear HO_4 HB hq_; have HO_4 := n0_; have HB := n1_; clear n0_ n1_))) | ((with_reducible refine gate_callee (f := 44) rfl ?_); refine gL_ 22 Tryz.func44 #[.string t258] ?_; (with_reducible refine (impl_ReadDeed.calls k1 t258 t261 t262 t263 false _ ?sideE A7.out).mono ?_); (case sideE => exact Z40 HE HB); rintro e w15 ⟨rfl, hb⟩; refine ⟨_, rfl, ?_⟩; replace HO_4 := Aside0.mk (Kd.R_below (Z4 HO_4) hb); replace HB := Aside0.mk (below_step (Z0 HB) hb); (try clear hb)) | ((with_reducible refine gate_dst (N := 9) rfl ?_); refine bE_ 9 #[.int .i64 0, .int .i64 0, .int .i64 0] 39 ?_; intro gb265 hg w16 hbox hb; replace HO_4 := Aside0.mk (Kd.R_below (Kd.R_elderB (Z4 HO_4) gb265 (Nat.le_of_eq hg.symm)) hb); have BK265 := Aside0.mk (hbox); have GW265 := Aside0.mk ((by rw [hg]; exact (below_size (Z0 HB)) : w.heap.size ≤ gb265)); have GE265 := Aside0.mk ((by rw [hg]; exact (below_size (Z0 HB)) : w.heap.size ≤ gb265)); replace HB := Aside0.mk (below_step (Z0 HB) hb); clear hb hbox hg; have hcz17_0 : w16.cell? ⟨gb265, 0, none⟩ = some (.int .i64 0) := (blk_cell BK265.out 0).trans rfl; have hcz17_1 : w16.cell? ⟨gb265, 1, none⟩ = some (.int .i64 0) := (blk_cell BK265.out 1).trans rfl; have hcz17_2 : w16.cell? ⟨gb265, 2, none⟩ = some (.int .i64 0) := (blk_cell BK265.out 2).trans rfl; have hfz17_0 := blk_frozen BK265.out 0; have hfz17_1 := blk_frozen BK265.out 1; have hfz17_2 := blk_frozen BK265.out 2))
       go_ret2
       exact ⟨_, Z11, Z62 HO_4, Z1 HB GE265⟩
     ·replace c8 := Bool.eq_false_iff.mpr c8
      subst c8
      have H1 : (some (x4_1, x5_1)) = some (r1, r2) := Z24
      clear H
      have H := H1
      clear H1
      simp only [Option.some.injEq, Prod.mk.injEq] at H
      obtain ⟨rfl, rfl⟩ := H
      go_wp2_with (first | ((with_reducible refine gate_callee (f := 43) rfl ?_); refine gL_ 16 Tryz.func43 #[.string (a0.extract (x5_1 : Int).toNat a0.size), .string (⟨#[10]⟩ : ByteArray)] ?_; (with_reducible refine (strings_Cut.calls (a0.extract (x5_1 : Int).toNat a0.size) (⟨#[10]⟩ : ByteArray) t258 t259 false _ ?sideE A6.out).mono ?_); (case sideE => exact Z40 HE HB); rintro e w' ⟨rfl, ⟨nd, rfl⟩⟩; refine ⟨_, rfl, ?_⟩; (try (rw [drewN_self wr]; generalize hq_ : World.drewN wr _ = wr; have n0_ : Aside0 (Kd.R k39 39 wr w.heap.size (fun _ => True) u4 x4_1) := ⟨by rw [← hq_]; exact (Z4 HO_4)⟩; have n1_ : Aside0 (Below w.heap.size w wr) := ⟨by rw [← hq_]; exact (Z0 HB)⟩; clear HO_4 HB hq_; have HO_4 := n0_; have HB := n1_; clear n0_ n1_))) | ((with_reducible refine gate_callee (f := 44) rfl ?_); refine gL_ 22 Tryz.func44 #[.string t258] ?_; (with_reducible refine (impl_ReadDeed.calls k1 t258 t261 t262 t263 t264 _ ?sideE A7.out).mono ?_); (case sideE => exact Z40 HE HB); rintro e w18 ⟨rfl, hb⟩; refine ⟨_, rfl, ?_⟩; replace HO_4 := Aside0.mk (Kd.R_below (Z4 HO_4) hb); replace HB := Aside0.mk (below_step (Z0 HB) hb); (try clear hb)) | ((with_reducible refine gate_dst (N := 9) rfl ?_); refine bE_ 9 #[.int .i64 0, .int .i64 0, .int .i64 0] 39 ?_; intro gb265 hg w19 hbox hb; replace HO_4 := Aside0.mk (Kd.R_below (Kd.R_elderB (Z4 HO_4) gb265 (Nat.le_of_eq hg.symm)) hb); have BK265 := Aside0.mk (hbox); have GW265 := Aside0.mk ((by rw [hg]; exact (below_size (Z0 HB)) : w.heap.size ≤ gb265)); have GE265 := Aside0.mk ((by rw [hg]; exact (below_size (Z0 HB)) : w.heap.size ≤ gb265)); replace HB := Aside0.mk (below_step (Z0 HB) hb); clear hb hbox hg; have hcz20_0 : w19.cell? ⟨gb265, 0, none⟩ = some (.int .i64 0) := (blk_cell BK265.out 0).trans rfl; have hcz20_1 : w19.cell? ⟨gb265, 1, none⟩ = some (.int .i64 0) := (blk_cell BK265.out 1).trans rfl; have hcz20_2 : w19.cell? ⟨gb265, 2, none⟩ = some (.int .i64 0) := (blk_cell BK265.out 2).trans rfl; have hfz20_0 := blk_frozen BK265.out 0; have hfz20_1 := blk_frozen BK265.out 1; have hfz20_2 := blk_frozen BK265.out 2))
      go_ret2
      exact ⟨_, Z11, Z62 HO_4, Z1 HB GE265⟩
    ·rw [if_neg c5] at H
     exact absurd H Z33
   ·rw [if_neg c4] at H
    exact absurd H Z33

end Go.Proofs.YtmmoojkhlkjdkaaGreatDoor.PFnReadJournal
