-- Printed by this claim's own program; Lean checks it.
import Derived.Test.YtmmoojkhlkjdkaaGreatDoorPFnReadJournalx0
import Derived.Test.YtmmoojkhlkjdkaaGreatDoorPFnReadJournalx1
import Derived.Test.YtmmoojkhlkjdkaaGreatDoorPFnReadJournalx3
namespace Go.Proofs.YtmmoojkhlkjdkaaGreatDoor.PFnReadJournal
open Go.RowKit Go.Proofs.YtmmoojkhlkjdkaaGreatDoorW.PrintWords Go.Proofs.YtmmoojkhlkjdkaaGreatDoorW.PrintLast Go.Proofs.YtmmoojkhlkjdkaaGreatDoorW.PrintMore
attribute [local go_sem] max2_int min2_int max_two min_two max_three min_three max_four min_four   -- for this text's walks alone
set_option linter.unusedVariables false
set_option linter.unusedSimpArgs false

attribute [local go_sem high] eqA39
/-! ### spec_DeedText: function 86 -/
mutual
def spec_DeedText.j0 : Nat → Bool → Int → Int → Int → Option (ByteArray)
  | 0, _, _, _, _ => none
  | k + 1, x3, x112000, x112001, x112002 => if x3 = true then ((spec_l1Number.f k x112001).bind fun t114 => (if 5 + t114.size ≤ 9223372036854775807 then (if ((⟨#[99, 111, 109, 101, 32]⟩ : ByteArray) ++ t114).size + 1 ≤ 9223372036854775807 then ((spec_l1Number.f k x112002).bind fun t115 => (if (((⟨#[99, 111, 109, 101, 32]⟩ : ByteArray) ++ t114) ++ (⟨#[32]⟩ : ByteArray)).size + t115.size ≤ 9223372036854775807 then (some ((((⟨#[99, 111, 109, 101, 32]⟩ : ByteArray) ++ t114) ++ (⟨#[32]⟩ : ByteArray)) ++ t115)) else (none))) else (none)) else (none))) else (if x112000 = 2 then ((spec_l1In.f x112001 0 99).bind fun t116 => (if t116 = true then (spec_DeedText.j1 k (x112002 == 0) x112000 x112001 x112002) else (spec_DeedText.j1 k false x112000 x112001 x112002))) else (spec_DeedText.j1 k false x112000 x112001 x112002))
def spec_DeedText.j1 : Nat → Bool → Int → Int → Int → Option (ByteArray)
  | 0, _, _, _, _ => none
  | k + 1, x26, x112000, x112001, x112002 => if x26 = true then ((spec_l1Number.f k x112001).bind fun t117 => (if 5 + t117.size ≤ 9223372036854775807 then (some ((⟨#[110, 101, 101, 100, 32]⟩ : ByteArray) ++ t117)) else (none))) else (if x112000 = 3 then ((spec_l1In.f x112001 0 99).bind fun t118 => (if t118 = true then (spec_DeedText.j2 k (x112002 == 0) x112000 x112001 x112002) else (spec_DeedText.j2 k false x112000 x112001 x112002))) else (spec_DeedText.j2 k false x112000 x112001 x112002))
def spec_DeedText.j2 : Nat → Bool → Int → Int → Int → Option (ByteArray)
  | 0, _, _, _, _ => none
  | k + 1, x44, x112000, x112001, x112002 => if x44 = true then ((spec_l1Number.f k x112001).bind fun t119 => (if 6 + t119.size ≤ 9223372036854775807 then (some ((⟨#[108, 97, 116, 101, 114, 32]⟩ : ByteArray) ++ t119)) else (none))) else (if (x112000 == 1 && (x112001 == 0 && (x112002 == 0))) = true then (some (⟨#[103, 111]⟩ : ByteArray)) else (if (x112000 == 4 && (x112001 == 0 && (x112002 == 0))) = true then (some (⟨#[98, 97, 99, 107]⟩ : ByteArray)) else (some (⟨#[]⟩ : ByteArray))))
end
def spec_DeedText.f (k : Nat) (a0_0 : Int) (a0_1 : Int) (a0_2 : Int) : Option (ByteArray) := if a0_0 = 0 then ((spec_l1In.f a0_1 0 99).bind fun t112 => (if t112 = true then ((spec_l1In.f a0_2 0 99).bind fun t113 => (spec_DeedText.j0 k t113 a0_0 a0_1 a0_2)) else (spec_DeedText.j0 k false a0_0 a0_1 a0_2))) else (spec_DeedText.j0 k false a0_0 a0_1 a0_2)
def spec_DeedText.T2 : Bool × List (List Nat × List Nat) := (true, [([], []), ([0], [0]), ([1], [1]), ([2], [2]), ([3], [3]), ([], []), ([5], [5]), ([6, 2], [6]), ([4, 7], [4, 7]), ([8, 7, 0, 1, 2, 3, 4, 5, 6, 7, 8], [8])])
def spec_DeedText.B2 : List Nat := [0, 1, 3, 7, 15, 0, 32, 103, 255, 511]
theorem spec_DeedText.tab2 : rtab .any (opsOf Tryz.f86 2) = spec_DeedText.T2 := by kernel_rfl
theorem spec_DeedText.bits2 : waitsOk spec_DeedText.T2.2 spec_DeedText.B2 = true := by kernel_rfl
set_option maxHeartbeats 8000000 in
set_option maxRecDepth 100000 in
theorem spec_DeedText.calls (k : Nat) (a0_0 : Int) (a0_1 : Int) (a0_2 : Int) (r : ByteArray) (w : World) (h : spec_DeedText.f k a0_0 a0_1 a0_2 = some r) :
 Calls Tryz.prog 86 #[.agg #[.int .i64 a0_0, .int .i64 a0_1, .int .i64 a0_2]] w fun e w' => e = .returned (.string r) ∧ Below w.heap.size w w' := by
 have hu39 := Tryz.underlying39
 have HB := Aside0.mk (Below.refl w.heap.size w)
 have H : (if a0_0 = 0 then ((spec_l1In.f a0_1 0 99).bind fun t112 => (if t112 = true then ((spec_l1In.f a0_2 0 99).bind fun t113 => (spec_DeedText.j0 k t113 a0_0 a0_1 a0_2)) else (spec_DeedText.j0 k false a0_0 a0_1 a0_2))) else (spec_DeedText.j0 k false a0_0 a0_1 a0_2)) = some r := h
 clear h
 have HC2 := Aside0.mk H
 clear H
 go_enter Tryz.func86, Tryz.ntmps86
 go_upto_region 1 with (first | ((with_reducible refine gate_dst (N := 1) rfl ?_); refine bE_ 1 #[.int .i64 a0_0, .int .i64 a0_1, .int .i64 a0_2] 39 ?_; intro gb111 hg w3 hbox hb; have BK111 := Aside0.mk (hbox); have GW111 := Aside0.mk ((by rw [hg]; exact (below_size (Z0 HB)) : w.heap.size ≤ gb111)); have GE111 := Aside0.mk ((by rw [hg]; exact (below_size (Z0 HB)) : w.heap.size ≤ gb111)); replace HB := Aside0.mk (below_step (Z0 HB) hb); clear hb hbox hg))
 (try simp only [Act.put, List.setIfInBounds_toArray, List.set_cons_zero, List.set_cons_succ])
 go_cut [3] (fun v3 wc => ∃ (kq : Nat) (x3_1 : Bool), v3 = .bool x3_1 ∧ Aside0 (spec_DeedText.j0 kq x3_1 a0_0 a0_1 a0_2 = some r) ∧ Aside0 (kq ≤ k) ∧ Aside0 (wc.heap[gb111]? = some (.cells #[.int .i64 a0_0, .int .i64 a0_1, .int .i64 a0_2] 39 (0, 0))) ∧ Aside0 (Below w.heap.size w wc))
 case first =>
  have H := HC2.out
  clear HC2
  by_cases c4 : a0_0 = 0
  ·rw [if_pos c4] at H
   have c4b0 : (a0_0 == 0) = true := beq_iff_eq.mpr c4
   have c4b1 : (a0_0 != 0) = false := bne_eq_false_iff_eq.mpr c4
   clear c4
   (first | rw [c4b0] | (simp only [i64_w, i32_w]; rw [c4b0]) | skip)
   replace H := Option.bind_eq_some_iff.mp H
   obtain ⟨t112, A50, H⟩ := H
   replace H : (if t112 = true then ((spec_l1In.f a0_2 0 99).bind fun t113 => (spec_DeedText.j0 k t113 a0_0 a0_1 a0_2)) else (spec_DeedText.j0 k false a0_0 a0_1 a0_2)) = some r := H
   have A5 := Aside0.mk A50
   clear A50
   by_cases c6 : t112 = true
   ·subst c6
    have H1 : ((spec_l1In.f a0_2 0 99).bind fun t113 => (spec_DeedText.j0 k t113 a0_0 a0_1 a0_2)) = some r := Z37
    clear H
    have H := H1
    clear H1
    replace H := Option.bind_eq_some_iff.mp H
    obtain ⟨t113, A70, H⟩ := H
    replace H : (spec_DeedText.j0 k t113 a0_0 a0_1 a0_2) = some r := H
    have A7 := Aside0.mk A70
    clear A70
    have H' := Aside0.mk H
    clear H
    have hcz8_0 : w3.cell? ⟨gb111, 0, none⟩ = some (.int .i64 a0_0) := (blk_cell BK111.out 0).trans rfl
    have hcz8_1 : w3.cell? ⟨gb111, 1, none⟩ = some (.int .i64 a0_1) := (blk_cell BK111.out 1).trans rfl
    have hcz8_2 : w3.cell? ⟨gb111, 2, none⟩ = some (.int .i64 a0_2) := (blk_cell BK111.out 2).trans rfl
    have hfz8_0 := blk_frozen BK111.out 0
    have hfz8_1 := blk_frozen BK111.out 1
    have hfz8_2 := blk_frozen BK111.out 2
    go_wp2_with (first | (go_at_call 94; (with_reducible refine (spec_l1In.calls a0_1 0 99 true _ A5.out).mono ?_); rintro e w' ⟨rfl, ⟨nd, rfl⟩⟩) | (go_at_call 94; (with_reducible refine (spec_l1In.calls a0_2 0 99 t113 _ A7.out).mono ?_); rintro e w' ⟨rfl, ⟨nd, rfl⟩⟩))
    go_meet
    case rel => exact ⟨_, (t113), Z14, H', ⟨Z39⟩, ⟨Z2 BK111⟩, ⟨Z1 HB GE111⟩⟩
   ·replace c6 := Bool.eq_false_iff.mpr c6
    subst c6
    have H1 : (spec_DeedText.j0 k false a0_0 a0_1 a0_2) = some r := Z24
    clear H
    have H := H1
    clear H1
    have H' := Aside0.mk H
    clear H
    have hcz9_0 : w3.cell? ⟨gb111, 0, none⟩ = some (.int .i64 a0_0) := (blk_cell BK111.out 0).trans rfl
    have hcz9_1 : w3.cell? ⟨gb111, 1, none⟩ = some (.int .i64 a0_1) := (blk_cell BK111.out 1).trans rfl
    have hcz9_2 : w3.cell? ⟨gb111, 2, none⟩ = some (.int .i64 a0_2) := (blk_cell BK111.out 2).trans rfl
    have hfz9_0 := blk_frozen BK111.out 0
    have hfz9_1 := blk_frozen BK111.out 1
    have hfz9_2 := blk_frozen BK111.out 2
    go_wp2_with (first | (go_at_call 94; (with_reducible refine (spec_l1In.calls a0_1 0 99 false _ A5.out).mono ?_); rintro e w' ⟨rfl, ⟨nd, rfl⟩⟩))
    go_meet
    case rel => exact ⟨_, (false), Z14, H', ⟨Z39⟩, ⟨Z2 BK111⟩, ⟨Z1 HB GE111⟩⟩
  ·rw [if_neg c4] at H
   have c4b0 : (a0_0 == 0) = false := beq_eq_false_iff_ne.mpr c4
   have c4b1 : (a0_0 != 0) = true := bne_iff_ne.mpr c4
   (first | rw [c4b0] | (simp only [i64_w, i32_w]; rw [c4b0]) | skip)
   have H' := Aside0.mk H
   clear H
   have hcz10_0 : w3.cell? ⟨gb111, 0, none⟩ = some (.int .i64 a0_0) := (blk_cell BK111.out 0).trans rfl
   have hcz10_1 : w3.cell? ⟨gb111, 1, none⟩ = some (.int .i64 a0_1) := (blk_cell BK111.out 1).trans rfl
   have hcz10_2 : w3.cell? ⟨gb111, 2, none⟩ = some (.int .i64 a0_2) := (blk_cell BK111.out 2).trans rfl
   have hfz10_0 := blk_frozen BK111.out 0
   have hfz10_1 := blk_frozen BK111.out 1
   have hfz10_2 := blk_frozen BK111.out 2
   go_wp2
   go_meet
   case rel => exact ⟨_, (false), Z14, H', ⟨Z39⟩, ⟨Z2 BK111⟩, ⟨Z1 HB GE111⟩⟩
 case rest =>
  clear HC2
  try clear p2
  try clear c4
  try clear c4b0
  try clear c4b1
  try clear c6
  try clear c8
  try clear hcz10_0
  try clear hcz10_1
  try clear hcz10_2
  try clear hcz8_0
  try clear hcz8_1
  try clear hcz8_2
  try clear hcz9_0
  try clear hcz9_1
  try clear hcz9_2
  try clear hfz10_0
  try clear hfz10_1
  try clear hfz10_2
  try clear hfz8_0
  try clear hfz8_1
  try clear hfz8_2
  try clear hfz9_0
  try clear hfz9_1
  try clear hfz9_2
  obtain ⟨kq, x3_1, rfl, HA, HJ1, BK111, HB⟩ := hcut
  cases kq with
  | zero => exact absurd HA.out (by simp [spec_DeedText.j0])
  | succ kj1 =>
   have H := HA.out
   clear HA
   simp only [spec_DeedText.j0] at H
   by_cases c11 : x3_1 = true
   ·subst c11
    have H1 : ((spec_l1Number.f kj1 a0_1).bind fun t114 => (if 5 + t114.size ≤ 9223372036854775807 then (if ((⟨#[99, 111, 109, 101, 32]⟩ : ByteArray) ++ t114).size + 1 ≤ 9223372036854775807 then ((spec_l1Number.f kj1 a0_2).bind fun t115 => (if (((⟨#[99, 111, 109, 101, 32]⟩ : ByteArray) ++ t114) ++ (⟨#[32]⟩ : ByteArray)).size + t115.size ≤ 9223372036854775807 then (some ((((⟨#[99, 111, 109, 101, 32]⟩ : ByteArray) ++ t114) ++ (⟨#[32]⟩ : ByteArray)) ++ t115)) else (none))) else (none)) else (none))) = some r := Z37
    clear H
    have H := H1
    clear H1
    replace H := Option.bind_eq_some_iff.mp H
    obtain ⟨t114, A120, H⟩ := H
    replace H : (if 5 + t114.size ≤ 9223372036854775807 then (if ((⟨#[99, 111, 109, 101, 32]⟩ : ByteArray) ++ t114).size + 1 ≤ 9223372036854775807 then ((spec_l1Number.f kj1 a0_2).bind fun t115 => (if (((⟨#[99, 111, 109, 101, 32]⟩ : ByteArray) ++ t114) ++ (⟨#[32]⟩ : ByteArray)).size + t115.size ≤ 9223372036854775807 then (some ((((⟨#[99, 111, 109, 101, 32]⟩ : ByteArray) ++ t114) ++ (⟨#[32]⟩ : ByteArray)) ++ t115)) else (none))) else (none)) else (none)) = some r := H
    have A12 := Aside0.mk A120
    clear A120
    by_cases c13 : 5 + t114.size ≤ 9223372036854775807
    ·rw [if_pos c13] at H
     have c13b0 := eq_true c13
     have c13b1 : decide (5 + t114.size ≤ 9223372036854775807) = true := decide_eq_true c13
     try have c13b2 : (9223372036854775807 < 5 + t114.size) = False := eq_false (Nat.not_lt.2 c13)
     by_cases c14 : ((⟨#[99, 111, 109, 101, 32]⟩ : ByteArray) ++ t114).size + 1 ≤ 9223372036854775807
     ·rw [if_pos c14] at H
      have c14b0 := eq_true c14
      have c14b1 : decide (((⟨#[99, 111, 109, 101, 32]⟩ : ByteArray) ++ t114).size + 1 ≤ 9223372036854775807) = true := decide_eq_true c14
      try have c14b2 : (9223372036854775807 < ((⟨#[99, 111, 109, 101, 32]⟩ : ByteArray) ++ t114).size + 1) = False := eq_false (Nat.not_lt.2 c14)
      try have c14b3 : (9223372036854775807 < 5 + t114.size + 1) = False := eq_false (Nat.not_lt.2 (by have h_ := c14; simp only [ByteArray.size_append] at h_; exact h_))
      replace H := Option.bind_eq_some_iff.mp H
      obtain ⟨t115, A150, H⟩ := H
      replace H : (if (((⟨#[99, 111, 109, 101, 32]⟩ : ByteArray) ++ t114) ++ (⟨#[32]⟩ : ByteArray)).size + t115.size ≤ 9223372036854775807 then (some ((((⟨#[99, 111, 109, 101, 32]⟩ : ByteArray) ++ t114) ++ (⟨#[32]⟩ : ByteArray)) ++ t115)) else (none)) = some r := H
      have A15 := Aside0.mk A150
      clear A150
      by_cases c16 : (((⟨#[99, 111, 109, 101, 32]⟩ : ByteArray) ++ t114) ++ (⟨#[32]⟩ : ByteArray)).size + t115.size ≤ 9223372036854775807
      ·rw [if_pos c16] at H
       have c16b0 := eq_true c16
       have c16b1 : decide ((((⟨#[99, 111, 109, 101, 32]⟩ : ByteArray) ++ t114) ++ (⟨#[32]⟩ : ByteArray)).size + t115.size ≤ 9223372036854775807) = true := decide_eq_true c16
       try have c16b2 : (9223372036854775807 < (((⟨#[99, 111, 109, 101, 32]⟩ : ByteArray) ++ t114) ++ (⟨#[32]⟩ : ByteArray)).size + t115.size) = False := eq_false (Nat.not_lt.2 c16)
       try have c16b3 : (9223372036854775807 < 5 + t114.size + 1 + t115.size) = False := eq_false (Nat.not_lt.2 (by have h_ := c16; simp only [ByteArray.size_append] at h_; exact h_))
       obtain rfl := Option.some.inj H
       try go_wp2
       replace BK111 := Aside0.mk (blk_drew BK111.out)
       replace HB := Aside0.mk (below_drew1 HB.out)
       refine start_ (n := 10) (S := fun w' => w'.cell? ⟨gb111, 0, none⟩ = some (.int .i64 a0_0) ∧ w'.cell? ⟨gb111, 1, none⟩ = some (.int .i64 a0_1) ∧ w'.cell? ⟨gb111, 2, none⟩ = some (.int .i64 a0_2)) (ds := []) (bB 10 0) Z15 rfl Z15 ⟨(blk_cell BK111.out 0).trans rfl, (blk_cell BK111.out 1).trans rfl, (blk_cell BK111.out 2).trans rfl⟩ (fun hHeld => ?_); refine with_tabW spec_DeedText.tab2 spec_DeedText.bits2 (fun HT_ HW_ => ?_)
       generalize wc.drew = w17 at BK111 HB hHeld ⊢
       refine pu_ 0 (some 17) (bB 10 1) ?_
       refine pu_ 5 (some 22) (bB 10 33) ?_
       refine take_ (i := 1) (N := some 18) (v := ?_) (a' := ?_) (bB 10 35) rfl rfl (take_ofW HT_.out HW_.out Z15) (fun _ _ _ h => h) (Or.inl ⟨Z90, ?_⟩) hHeld ?_ ?_
       rotate_left
       ·rintro w' ⟨s0, s1, s2⟩
        go_simp
        with_reducible rfl
       rotate_left
       ·simp only [Act.put, List.setIfInBounds_toArray, List.set_cons_zero, List.set_cons_succ, i64_w, i32_w]
        rfl
       refine take_ (i := 6) (N := some 23) (v := ?_) (a' := ?_) (bB 10 99) rfl rfl (take_ofW HT_.out HW_.out Z15) (fun _ _ _ h => h) (Or.inl ⟨Z90, ?_⟩) hHeld ?_ ?_
       rotate_left
       ·rintro w' ⟨s0, s1, s2⟩
        go_simp
        with_reducible rfl
       rotate_left
       ·simp only [Act.put, List.setIfInBounds_toArray, List.set_cons_zero, List.set_cons_succ, i64_w, i32_w]
        rfl
       refine one_ (i := 2) (N := some 19) (bB 10 103) rfl rfl (one_of HT_.out Z15) Z28 (fun K hK => ?_)
       refine goes_ Tryz.func59 Z15 rfl #[.int .i64 a0_1] Z90 rfl rfl Z23 ?_
       with_reducible refine (spec_l1Number.calls kj1 a0_1 t114 _ A12.out).mono ?_
       rintro e w18 ⟨rfl, hb⟩
       refine ⟨_, rfl, ?_⟩
       replace BK111 := Aside0.mk (blk_below (g := gb111) (o := .cells #[.int .i64 a0_0, .int .i64 a0_1, .int .i64 a0_2] 39 (0, 0)) (Z2 BK111) hb)
       replace HB := Aside0.mk (below_step (Z1 HB GE111) hb)
       (try clear hb)
       (try clear hb2)
       (try clear hk)
       (try clear hi)
       refine hK.out _ _ ⟨(blk_cell BK111.out 0).trans rfl, (blk_cell BK111.out 1).trans rfl, (blk_cell BK111.out 2).trans rfl⟩ (fun hHeld => ?_)
       clear hK K
       refine nr_ ?_
       refine pu_ 3 (some 20) (bB 10 111) ?_
       refine pu_ 4 (some 21) (bB 10 127) ?_
       refine one_ (i := 7) (N := some 24) (bB 10 255) rfl rfl (one_of HT_.out Z15) Z28 (fun K hK => ?_)
       refine goes_ Tryz.func59 Z15 rfl #[.int .i64 a0_2] Z90 rfl rfl Z23 ?_
       with_reducible refine (spec_l1Number.calls kj1 a0_2 t115 _ A15.out).mono ?_
       rintro e w19 ⟨rfl, hb⟩
       refine ⟨_, rfl, ?_⟩
       replace BK111 := Aside0.mk (blk_below (g := gb111) (o := .cells #[.int .i64 a0_0, .int .i64 a0_1, .int .i64 a0_2] 39 (0, 0)) (Z2 BK111) hb)
       replace HB := Aside0.mk (below_step (Z1 HB GE111) hb)
       (try clear hb)
       (try clear hb2)
       (try clear hk)
       (try clear hi)
       refine hK.out _ _ ⟨(blk_cell BK111.out 0).trans rfl, (blk_cell BK111.out 1).trans rfl, (blk_cell BK111.out 2).trans rfl⟩ (fun hHeld => ?_)
       clear hK K
       refine nr_ ?_
       refine pu_ 8 (some 25) (bB 10 511) ?_
       refine pu_ 9 (some 2) (bB 10 1023) ?_
       refine done_ (done_of HT_.out Z15) ?_
       try go_wp2
       go_ret
       exact ⟨Z11, Z1 HB GE111⟩
      ·rw [if_neg c16] at H
       exact absurd H Z33
     ·rw [if_neg c14] at H
      exact absurd H Z33
    ·rw [if_neg c13] at H
     exact absurd H Z33
   ·replace c11 := Bool.eq_false_iff.mpr c11
    subst c11
    have H1 : (if a0_0 = 2 then ((spec_l1In.f a0_1 0 99).bind fun t116 => (if t116 = true then (spec_DeedText.j1 kj1 (a0_2 == 0) a0_0 a0_1 a0_2) else (spec_DeedText.j1 kj1 false a0_0 a0_1 a0_2))) else (spec_DeedText.j1 kj1 false a0_0 a0_1 a0_2)) = some r := Z24
    clear H
    have H := H1
    clear H1
    have HC20 := Aside0.mk H
    clear H
    go_upto_region 3 with (fail)
    go_cut [26] (fun v26 wc => ∃ (kq : Nat) (x26_19 : Bool), v26 = .bool x26_19 ∧ Aside0 (spec_DeedText.j1 kq x26_19 a0_0 a0_1 a0_2 = some r) ∧ Aside0 (kq ≤ kj1) ∧ Aside0 (wc.heap[gb111]? = some (.cells #[.int .i64 a0_0, .int .i64 a0_1, .int .i64 a0_2] 39 (0, 0))) ∧ Aside0 (Below w.heap.size w wc))
    case first =>
     have H := HC20.out
     clear HC20
     by_cases c21 : a0_0 = 2
     ·rw [if_pos c21] at H
      have c21b0 : (a0_0 == 2) = true := beq_iff_eq.mpr c21
      have c21b1 : (a0_0 != 2) = false := bne_eq_false_iff_eq.mpr c21
      clear c21
      (first | rw [c21b0] | (simp only [i64_w, i32_w]; rw [c21b0]) | skip)
      replace H := Option.bind_eq_some_iff.mp H
      obtain ⟨t116, A220, H⟩ := H
      replace H : (if t116 = true then (spec_DeedText.j1 kj1 (a0_2 == 0) a0_0 a0_1 a0_2) else (spec_DeedText.j1 kj1 false a0_0 a0_1 a0_2)) = some r := H
      have A22 := Aside0.mk A220
      clear A220
      by_cases c23 : t116 = true
      ·subst c23
       have H1 : (spec_DeedText.j1 kj1 (a0_2 == 0) a0_0 a0_1 a0_2) = some r := Z37
       clear H
       have H := H1
       clear H1
       have H' := Aside0.mk H
       clear H
       have hcz24_0 : wc.cell? ⟨gb111, 0, none⟩ = some (.int .i64 a0_0) := (blk_cell BK111.out 0).trans rfl
       have hcz24_1 : wc.cell? ⟨gb111, 1, none⟩ = some (.int .i64 a0_1) := (blk_cell BK111.out 1).trans rfl
       have hcz24_2 : wc.cell? ⟨gb111, 2, none⟩ = some (.int .i64 a0_2) := (blk_cell BK111.out 2).trans rfl
       have hfz24_0 := blk_frozen BK111.out 0
       have hfz24_1 := blk_frozen BK111.out 1
       have hfz24_2 := blk_frozen BK111.out 2
       go_wp2_with (first | (go_at_call 94; (with_reducible refine (spec_l1In.calls a0_1 0 99 true _ A22.out).mono ?_); rintro e w' ⟨rfl, ⟨nd, rfl⟩⟩))
       go_meet
       case rel => exact ⟨_, ((a0_2 == 0)), Z14, H', ⟨Z50 HJ1⟩, ⟨Z2 BK111⟩, ⟨Z1 HB GE111⟩⟩
      ·replace c23 := Bool.eq_false_iff.mpr c23
       subst c23
       have H1 : (spec_DeedText.j1 kj1 false a0_0 a0_1 a0_2) = some r := Z24
       clear H
       have H := H1
       clear H1
       have H' := Aside0.mk H
       clear H
       have hcz25_0 : wc.cell? ⟨gb111, 0, none⟩ = some (.int .i64 a0_0) := (blk_cell BK111.out 0).trans rfl
       have hcz25_1 : wc.cell? ⟨gb111, 1, none⟩ = some (.int .i64 a0_1) := (blk_cell BK111.out 1).trans rfl
       have hcz25_2 : wc.cell? ⟨gb111, 2, none⟩ = some (.int .i64 a0_2) := (blk_cell BK111.out 2).trans rfl
       have hfz25_0 := blk_frozen BK111.out 0
       have hfz25_1 := blk_frozen BK111.out 1
       have hfz25_2 := blk_frozen BK111.out 2
       go_wp2_with (first | (go_at_call 94; (with_reducible refine (spec_l1In.calls a0_1 0 99 false _ A22.out).mono ?_); rintro e w' ⟨rfl, ⟨nd, rfl⟩⟩))
       go_meet
       case rel => exact ⟨_, (false), Z14, H', ⟨Z50 HJ1⟩, ⟨Z2 BK111⟩, ⟨Z1 HB GE111⟩⟩
     ·rw [if_neg c21] at H
      have c21b0 : (a0_0 == 2) = false := beq_eq_false_iff_ne.mpr c21
      have c21b1 : (a0_0 != 2) = true := bne_iff_ne.mpr c21
      (first | rw [c21b0] | (simp only [i64_w, i32_w]; rw [c21b0]) | skip)
      have H' := Aside0.mk H
      clear H
      have hcz26_0 : wc.cell? ⟨gb111, 0, none⟩ = some (.int .i64 a0_0) := (blk_cell BK111.out 0).trans rfl
      have hcz26_1 : wc.cell? ⟨gb111, 1, none⟩ = some (.int .i64 a0_1) := (blk_cell BK111.out 1).trans rfl
      have hcz26_2 : wc.cell? ⟨gb111, 2, none⟩ = some (.int .i64 a0_2) := (blk_cell BK111.out 2).trans rfl
      have hfz26_0 := blk_frozen BK111.out 0
      have hfz26_1 := blk_frozen BK111.out 1
      have hfz26_2 := blk_frozen BK111.out 2
      go_wp2
      go_meet
      case rel => exact ⟨_, (false), Z14, H', ⟨Z50 HJ1⟩, ⟨Z2 BK111⟩, ⟨Z1 HB GE111⟩⟩
    case rest =>
     clear HC20
     try clear c1
     try clear c2
     try clear p2
     try clear c4
     try clear c4b0
     try clear c4b1
     try clear c5
     try clear c6
     try clear c8
     try clear c11
     try clear c13
     try clear c13b0
     try clear c13b1
     try clear c13b2
     try clear c14
     try clear c14b0
     try clear c14b1
     try clear c14b2
     try clear c16
     try clear c16b0
     try clear c16b1
     try clear c16b2
     try clear c21
     try clear c21b0
     try clear c21b1
     try clear c23
     try clear hcz10_0
     try clear hcz10_1
     try clear hcz10_2
     try clear hcz24_0
     try clear hcz24_1
     try clear hcz24_2
     try clear hcz25_0
     try clear hcz25_1
     try clear hcz25_2
     try clear hcz26_0
     try clear hcz26_1
     try clear hcz26_2
     try clear hcz8_0
     try clear hcz8_1
     try clear hcz8_2
     try clear hcz9_0
     try clear hcz9_1
     try clear hcz9_2
     try clear hfz10_0
     try clear hfz10_1
     try clear hfz10_2
     try clear hfz24_0
     try clear hfz24_1
     try clear hfz24_2
     try clear hfz25_0
     try clear hfz25_1
     try clear hfz25_2
     try clear hfz26_0
     try clear hfz26_1
     try clear hfz26_2
     try clear hfz8_0
     try clear hfz8_1
     try clear hfz8_2
     try clear hfz9_0
     try clear hfz9_1
     try clear hfz9_2
     try clear p2
     obtain ⟨kq, x26_19, rfl, HA, HJ19, BK111, HB⟩ := hcut
     cases kq with
     | zero => exact absurd HA.out (by simp [spec_DeedText.j1])
     | succ kj19 =>
      have H := HA.out
      clear HA
      simp only [spec_DeedText.j1] at H
      by_cases c27 : x26_19 = true
      ·subst c27
       have H1 : ((spec_l1Number.f kj19 a0_1).bind fun t117 => (if 5 + t117.size ≤ 9223372036854775807 then (some ((⟨#[110, 101, 101, 100, 32]⟩ : ByteArray) ++ t117)) else (none))) = some r := Z37
       clear H
       have H := H1
       clear H1
       replace H := Option.bind_eq_some_iff.mp H
       obtain ⟨t117, A280, H⟩ := H
       replace H : (if 5 + t117.size ≤ 9223372036854775807 then (some ((⟨#[110, 101, 101, 100, 32]⟩ : ByteArray) ++ t117)) else (none)) = some r := H
       have A28 := Aside0.mk A280
       clear A280
       by_cases c29 : 5 + t117.size ≤ 9223372036854775807
       ·rw [if_pos c29] at H
        have c29b0 := eq_true c29
        have c29b1 : decide (5 + t117.size ≤ 9223372036854775807) = true := decide_eq_true c29
        try have c29b2 : (9223372036854775807 < 5 + t117.size) = False := eq_false (Nat.not_lt.2 c29)
        obtain rfl := Option.some.inj H
        have hcz30_0 : wc.cell? ⟨gb111, 0, none⟩ = some (.int .i64 a0_0) := (blk_cell BK111.out 0).trans rfl
        have hcz30_1 : wc.cell? ⟨gb111, 1, none⟩ = some (.int .i64 a0_1) := (blk_cell BK111.out 1).trans rfl
        have hcz30_2 : wc.cell? ⟨gb111, 2, none⟩ = some (.int .i64 a0_2) := (blk_cell BK111.out 2).trans rfl
        have hfz30_0 := blk_frozen BK111.out 0
        have hfz30_1 := blk_frozen BK111.out 1
        have hfz30_2 := blk_frozen BK111.out 2
        go_wp2_with (first | ((with_reducible refine gate_callee (f := 59) rfl ?_); refine gL_ 42 Tryz.func59 #[.int .i64 a0_1] ?_; (with_reducible refine (spec_l1Number.calls kj19 a0_1 t117 _ A28.out).mono ?_); rintro e w31 ⟨rfl, hb⟩; refine ⟨_, rfl, ?_⟩; replace BK111 := Aside0.mk (blk_below (g := gb111) (o := .cells #[.int .i64 a0_0, .int .i64 a0_1, .int .i64 a0_2] 39 (0, 0)) (Z2 BK111) hb); replace HB := Aside0.mk (below_step (Z1 HB GE111) hb); (try clear hb)))
        go_ret
        exact ⟨Z11, Z1 HB GE111⟩
       ·rw [if_neg c29] at H
        exact absurd H Z33
      ·replace c27 := Bool.eq_false_iff.mpr c27
       subst c27
       have H1 : (if a0_0 = 3 then ((spec_l1In.f a0_1 0 99).bind fun t118 => (if t118 = true then (spec_DeedText.j2 kj19 (a0_2 == 0) a0_0 a0_1 a0_2) else (spec_DeedText.j2 kj19 false a0_0 a0_1 a0_2))) else (spec_DeedText.j2 kj19 false a0_0 a0_1 a0_2)) = some r := Z24
       clear H
       have H := H1
       clear H1
       have HC32 := Aside0.mk H
       clear H
       go_upto_region 5 with (fail)
       go_cut [44] (fun v44 wc => ∃ (kq : Nat) (x44_31 : Bool), v44 = .bool x44_31 ∧ Aside0 (spec_DeedText.j2 kq x44_31 a0_0 a0_1 a0_2 = some r) ∧ Aside0 (kq ≤ kj19) ∧ Aside0 (wc.heap[gb111]? = some (.cells #[.int .i64 a0_0, .int .i64 a0_1, .int .i64 a0_2] 39 (0, 0))) ∧ Aside0 (Below w.heap.size w wc))
       case first =>
        have H := HC32.out
        clear HC32
        by_cases c33 : a0_0 = 3
        ·rw [if_pos c33] at H
         have c33b0 : (a0_0 == 3) = true := beq_iff_eq.mpr c33
         have c33b1 : (a0_0 != 3) = false := bne_eq_false_iff_eq.mpr c33
         clear c33
         (first | rw [c33b0] | (simp only [i64_w, i32_w]; rw [c33b0]) | skip)
         replace H := Option.bind_eq_some_iff.mp H
         obtain ⟨t118, A340, H⟩ := H
         replace H : (if t118 = true then (spec_DeedText.j2 kj19 (a0_2 == 0) a0_0 a0_1 a0_2) else (spec_DeedText.j2 kj19 false a0_0 a0_1 a0_2)) = some r := H
         have A34 := Aside0.mk A340
         clear A340
         by_cases c35 : t118 = true
         ·subst c35
          have H1 : (spec_DeedText.j2 kj19 (a0_2 == 0) a0_0 a0_1 a0_2) = some r := Z37
          clear H
          have H := H1
          clear H1
          have H' := Aside0.mk H
          clear H
          have hcz36_0 : wc.cell? ⟨gb111, 0, none⟩ = some (.int .i64 a0_0) := (blk_cell BK111.out 0).trans rfl
          have hcz36_1 : wc.cell? ⟨gb111, 1, none⟩ = some (.int .i64 a0_1) := (blk_cell BK111.out 1).trans rfl
          have hcz36_2 : wc.cell? ⟨gb111, 2, none⟩ = some (.int .i64 a0_2) := (blk_cell BK111.out 2).trans rfl
          have hfz36_0 := blk_frozen BK111.out 0
          have hfz36_1 := blk_frozen BK111.out 1
          have hfz36_2 := blk_frozen BK111.out 2
          go_wp2_with (first | (go_at_call 94; (with_reducible refine (spec_l1In.calls a0_1 0 99 true _ A34.out).mono ?_); rintro e w' ⟨rfl, ⟨nd, rfl⟩⟩))
          go_meet
          case rel => exact ⟨_, ((a0_2 == 0)), Z14, H', ⟨by have := HJ1.out; have := HJ19.out; first | omega | exact Nat.le_refl _⟩, ⟨Z2 BK111⟩, ⟨Z1 HB GE111⟩⟩
         ·replace c35 := Bool.eq_false_iff.mpr c35
          subst c35
          have H1 : (spec_DeedText.j2 kj19 false a0_0 a0_1 a0_2) = some r := Z24
          clear H
          have H := H1
          clear H1
          have H' := Aside0.mk H
          clear H
          have hcz37_0 : wc.cell? ⟨gb111, 0, none⟩ = some (.int .i64 a0_0) := (blk_cell BK111.out 0).trans rfl
          have hcz37_1 : wc.cell? ⟨gb111, 1, none⟩ = some (.int .i64 a0_1) := (blk_cell BK111.out 1).trans rfl
          have hcz37_2 : wc.cell? ⟨gb111, 2, none⟩ = some (.int .i64 a0_2) := (blk_cell BK111.out 2).trans rfl
          have hfz37_0 := blk_frozen BK111.out 0
          have hfz37_1 := blk_frozen BK111.out 1
          have hfz37_2 := blk_frozen BK111.out 2
          go_wp2_with (first | (go_at_call 94; (with_reducible refine (spec_l1In.calls a0_1 0 99 false _ A34.out).mono ?_); rintro e w' ⟨rfl, ⟨nd, rfl⟩⟩))
          go_meet
          case rel => exact ⟨_, (false), Z14, H', ⟨by have := HJ1.out; have := HJ19.out; first | omega | exact Nat.le_refl _⟩, ⟨Z2 BK111⟩, ⟨Z1 HB GE111⟩⟩
        ·rw [if_neg c33] at H
         have c33b0 : (a0_0 == 3) = false := beq_eq_false_iff_ne.mpr c33
         have c33b1 : (a0_0 != 3) = true := bne_iff_ne.mpr c33
         (first | rw [c33b0] | (simp only [i64_w, i32_w]; rw [c33b0]) | skip)
         have H' := Aside0.mk H
         clear H
         have hcz38_0 : wc.cell? ⟨gb111, 0, none⟩ = some (.int .i64 a0_0) := (blk_cell BK111.out 0).trans rfl
         have hcz38_1 : wc.cell? ⟨gb111, 1, none⟩ = some (.int .i64 a0_1) := (blk_cell BK111.out 1).trans rfl
         have hcz38_2 : wc.cell? ⟨gb111, 2, none⟩ = some (.int .i64 a0_2) := (blk_cell BK111.out 2).trans rfl
         have hfz38_0 := blk_frozen BK111.out 0
         have hfz38_1 := blk_frozen BK111.out 1
         have hfz38_2 := blk_frozen BK111.out 2
         go_wp2
         go_meet
         case rel => exact ⟨_, (false), Z14, H', ⟨by have := HJ1.out; have := HJ19.out; first | omega | exact Nat.le_refl _⟩, ⟨Z2 BK111⟩, ⟨Z1 HB GE111⟩⟩
       case rest =>
        clear HC32
        try clear c1
        try clear c2
        try clear p2
        try clear c3
        try clear c4
        try clear c4b0
        try clear c4b1
        try clear c5
        try clear c6
        try clear c8
        try clear c11
        try clear c13
        try clear c13b0
        try clear c13b1
        try clear c13b2
        try clear c14
        try clear c14b0
        try clear c14b1
        try clear c14b2
        try clear c16
        try clear c16b0
        try clear c16b1
        try clear c16b2
        try clear c21
        try clear c21b0
        try clear c21b1
        try clear c23
        try clear c27
        try clear c29
        try clear c29b0
        try clear c29b1
        try clear c29b2
        try clear c33
        try clear c33b0
        try clear c33b1
        try clear c35
        try clear hcz10_0
        try clear hcz10_1
        try clear hcz10_2
        try clear hcz24_0
        try clear hcz24_1
        try clear hcz24_2
        try clear hcz25_0
        try clear hcz25_1
        try clear hcz25_2
        try clear hcz26_0
        try clear hcz26_1
        try clear hcz26_2
        try clear hcz30_0
        try clear hcz30_1
        try clear hcz30_2
        try clear hcz36_0
        try clear hcz36_1
        try clear hcz36_2
        try clear hcz37_0
        try clear hcz37_1
        try clear hcz37_2
        try clear hcz38_0
        try clear hcz38_1
        try clear hcz38_2
        try clear hcz8_0
        try clear hcz8_1
        try clear hcz8_2
        try clear hcz9_0
        try clear hcz9_1
        try clear hcz9_2
        try clear hfz10_0
        try clear hfz10_1
        try clear hfz10_2
        try clear hfz24_0
        try clear hfz24_1
        try clear hfz24_2
        try clear hfz25_0
        try clear hfz25_1
        try clear hfz25_2
        try clear hfz26_0
        try clear hfz26_1
        try clear hfz26_2
        try clear hfz30_0
        try clear hfz30_1
        try clear hfz30_2
        try clear hfz36_0
        try clear hfz36_1
        try clear hfz36_2
        try clear hfz37_0
        try clear hfz37_1
        try clear hfz37_2
        try clear hfz38_0
        try clear hfz38_1
        try clear hfz38_2
        try clear hfz8_0
        try clear hfz8_1
        try clear hfz8_2
        try clear hfz9_0
        try clear hfz9_1
        try clear hfz9_2
        try clear p2
        obtain ⟨kq, x44_31, rfl, HA, HJ31, BK111, HB⟩ := hcut
        cases kq with
        | zero => exact absurd HA.out (by simp [spec_DeedText.j2])
        | succ kj31 =>
         have H := HA.out
         clear HA
         simp only [spec_DeedText.j2] at H
         by_cases c39 : x44_31 = true
         ·subst c39
          have H1 : ((spec_l1Number.f kj31 a0_1).bind fun t119 => (if 6 + t119.size ≤ 9223372036854775807 then (some ((⟨#[108, 97, 116, 101, 114, 32]⟩ : ByteArray) ++ t119)) else (none))) = some r := Z37
          clear H
          have H := H1
          clear H1
          replace H := Option.bind_eq_some_iff.mp H
          obtain ⟨t119, A400, H⟩ := H
          replace H : (if 6 + t119.size ≤ 9223372036854775807 then (some ((⟨#[108, 97, 116, 101, 114, 32]⟩ : ByteArray) ++ t119)) else (none)) = some r := H
          have A40 := Aside0.mk A400
          clear A400
          by_cases c41 : 6 + t119.size ≤ 9223372036854775807
          ·rw [if_pos c41] at H
           have c41b0 := eq_true c41
           have c41b1 : decide (6 + t119.size ≤ 9223372036854775807) = true := decide_eq_true c41
           try have c41b2 : (9223372036854775807 < 6 + t119.size) = False := eq_false (Nat.not_lt.2 c41)
           obtain rfl := Option.some.inj H
           have hcz42_0 : wc.cell? ⟨gb111, 0, none⟩ = some (.int .i64 a0_0) := (blk_cell BK111.out 0).trans rfl
           have hcz42_1 : wc.cell? ⟨gb111, 1, none⟩ = some (.int .i64 a0_1) := (blk_cell BK111.out 1).trans rfl
           have hcz42_2 : wc.cell? ⟨gb111, 2, none⟩ = some (.int .i64 a0_2) := (blk_cell BK111.out 2).trans rfl
           have hfz42_0 := blk_frozen BK111.out 0
           have hfz42_1 := blk_frozen BK111.out 1
           have hfz42_2 := blk_frozen BK111.out 2
           go_wp2_with (first | ((with_reducible refine gate_callee (f := 59) rfl ?_); refine gL_ 60 Tryz.func59 #[.int .i64 a0_1] ?_; (with_reducible refine (spec_l1Number.calls kj31 a0_1 t119 _ A40.out).mono ?_); rintro e w43 ⟨rfl, hb⟩; refine ⟨_, rfl, ?_⟩; replace BK111 := Aside0.mk (blk_below (g := gb111) (o := .cells #[.int .i64 a0_0, .int .i64 a0_1, .int .i64 a0_2] 39 (0, 0)) (Z2 BK111) hb); replace HB := Aside0.mk (below_step (Z1 HB GE111) hb); (try clear hb)))
           go_ret
           exact ⟨Z11, Z1 HB GE111⟩
          ·rw [if_neg c41] at H
           exact absurd H Z33
         ·replace c39 := Bool.eq_false_iff.mpr c39
          subst c39
          have H1 : (if (a0_0 == 1 && (a0_1 == 0 && (a0_2 == 0))) = true then (some (⟨#[103, 111]⟩ : ByteArray)) else (if (a0_0 == 4 && (a0_1 == 0 && (a0_2 == 0))) = true then (some (⟨#[98, 97, 99, 107]⟩ : ByteArray)) else (some (⟨#[]⟩ : ByteArray)))) = some r := Z24
          clear H
          have H := H1
          clear H1
          by_cases c44 : (a0_0 == 1 && (a0_1 == 0 && (a0_2 == 0))) = true
          ·rw [if_pos c44] at H
           have c44b0 : (a0_0 == 1 && (a0_1 == 0 && (a0_2 == 0))) = true := c44
           (try (have c44b1 : decide (a0_0 = 1 && (a0_1 == 0 && (a0_2 == 0))) = true := by simpa using c44))
           (try (have c44b2 : (a0_0 == 1 && (a0_1 == 0 && (a0_2 == 0))) = true := by simpa using c44))
           clear c44
           obtain rfl := Option.some.inj H
           have hcz45_0 : wc.cell? ⟨gb111, 0, none⟩ = some (.int .i64 a0_0) := (blk_cell BK111.out 0).trans rfl
           have hcz45_1 : wc.cell? ⟨gb111, 1, none⟩ = some (.int .i64 a0_1) := (blk_cell BK111.out 1).trans rfl
           have hcz45_2 : wc.cell? ⟨gb111, 2, none⟩ = some (.int .i64 a0_2) := (blk_cell BK111.out 2).trans rfl
           have hfz45_0 := blk_frozen BK111.out 0
           have hfz45_1 := blk_frozen BK111.out 1
           have hfz45_2 := blk_frozen BK111.out 2
           go_wp2
           go_ret
           exact ⟨Z11, Z1 HB GE111⟩
          ·rw [if_neg c44] at H
           have c44b0 : (a0_0 == 1 && (a0_1 == 0 && (a0_2 == 0))) = false := by simpa using c44
           (try (have c44b1 : decide (a0_0 = 1 && (a0_1 == 0 && (a0_2 == 0))) = false := by simpa using c44))
           (try (have c44b2 : (a0_0 == 1 && (a0_1 == 0 && (a0_2 == 0))) = false := by simpa using c44))
           (try (have c44b3 : ¬ (a0_0 = 1 && (a0_1 == 0 && (a0_2 == 0))) := by simpa using c44))
           clear c44
           by_cases c46 : (a0_0 == 4 && (a0_1 == 0 && (a0_2 == 0))) = true
           ·rw [if_pos c46] at H
            have c46b0 : (a0_0 == 4 && (a0_1 == 0 && (a0_2 == 0))) = true := c46
            (try (have c46b1 : decide (a0_0 = 4 && (a0_1 == 0 && (a0_2 == 0))) = true := by simpa using c46))
            (try (have c46b2 : (a0_0 == 4 && (a0_1 == 0 && (a0_2 == 0))) = true := by simpa using c46))
            clear c46
            obtain rfl := Option.some.inj H
            have hcz47_0 : wc.cell? ⟨gb111, 0, none⟩ = some (.int .i64 a0_0) := (blk_cell BK111.out 0).trans rfl
            have hcz47_1 : wc.cell? ⟨gb111, 1, none⟩ = some (.int .i64 a0_1) := (blk_cell BK111.out 1).trans rfl
            have hcz47_2 : wc.cell? ⟨gb111, 2, none⟩ = some (.int .i64 a0_2) := (blk_cell BK111.out 2).trans rfl
            have hfz47_0 := blk_frozen BK111.out 0
            have hfz47_1 := blk_frozen BK111.out 1
            have hfz47_2 := blk_frozen BK111.out 2
            go_wp2
            go_ret
            exact ⟨Z11, Z1 HB GE111⟩
           ·rw [if_neg c46] at H
            have c46b0 : (a0_0 == 4 && (a0_1 == 0 && (a0_2 == 0))) = false := by simpa using c46
            (try (have c46b1 : decide (a0_0 = 4 && (a0_1 == 0 && (a0_2 == 0))) = false := by simpa using c46))
            (try (have c46b2 : (a0_0 == 4 && (a0_1 == 0 && (a0_2 == 0))) = false := by simpa using c46))
            (try (have c46b3 : ¬ (a0_0 = 4 && (a0_1 == 0 && (a0_2 == 0))) := by simpa using c46))
            clear c46
            obtain rfl := Option.some.inj H
            have hcz48_0 : wc.cell? ⟨gb111, 0, none⟩ = some (.int .i64 a0_0) := (blk_cell BK111.out 0).trans rfl
            have hcz48_1 : wc.cell? ⟨gb111, 1, none⟩ = some (.int .i64 a0_1) := (blk_cell BK111.out 1).trans rfl
            have hcz48_2 : wc.cell? ⟨gb111, 2, none⟩ = some (.int .i64 a0_2) := (blk_cell BK111.out 2).trans rfl
            have hfz48_0 := blk_frozen BK111.out 0
            have hfz48_1 := blk_frozen BK111.out 1
            have hfz48_2 := blk_frozen BK111.out 2
            go_wp2
            go_ret
            exact ⟨Z11, Z1 HB GE111⟩

end Go.Proofs.YtmmoojkhlkjdkaaGreatDoor.PFnReadJournal
