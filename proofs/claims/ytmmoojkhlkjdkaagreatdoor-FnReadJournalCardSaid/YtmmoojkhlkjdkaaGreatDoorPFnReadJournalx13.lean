-- Printed by this claim's own program; Lean checks it.
import Derived.Test.YtmmoojkhlkjdkaaGreatDoorPFnReadJournalx0
namespace Go.Proofs.YtmmoojkhlkjdkaaGreatDoor.PFnReadJournal
open Go.RowKit Go.Proofs.YtmmoojkhlkjdkaaGreatDoorW.PrintWords Go.Proofs.YtmmoojkhlkjdkaaGreatDoorW.PrintLast Go.Proofs.YtmmoojkhlkjdkaaGreatDoorW.PrintMore
attribute [local go_sem] max2_int min2_int max_two min_two max_three min_three max_four min_four   -- for this text's walks alone
set_option linter.unusedVariables false
set_option linter.unusedSimpArgs false

/-! ### spec_l12Copy: function 57 -/
def spec_l12Copy.l0 : Nat → Int → List (S84) → List (List (S84)) → List (S84) → List (List (S84)) → Option ((List (S84)) × (List (List (S84))))
  | 0, _, _, _, _, _ => none
  | k + 1, x4, x322000, x322001, x330000, x330001 => if x4 < (x322001.length : Int) then ((some (([] : List (S84)) : List (S84))).bind fun y330 => (if 0 ≤ x4 then (if y330.length + (rd_L5 x322001 x4).length < 8796093022208 then (if x330001.length < 5864062014805 then (spec_l12Copy.l0 k (wrap64 (x4 + 1)) x322000 x322001 x330000 (x330001 ++ [(y330 ++ (rd_L5 x322001 x4))])) else (none)) else (none)) else (none))) else (some (x330000, x330001))
def spec_l12Copy.f (k : Nat) (l0_0 : List (S84)) (l0_1 : List (List (S84))) : Option ((List (S84)) × (List (List (S84)))) := (some (([] : List (S84)) : List (S84))).bind fun y323 => (if y323.length + l0_0.length < 8796093022208 then (spec_l12Copy.l0 k 0 l0_0 l0_1 (y323 ++ l0_0) ([] : List (List (S84)))) else (none))
def spec_l12Copy.T5 : Bool × List (List Nat × List Nat) := (true, [([], []), ([0], [0]), ([], []), ([], []), ([3], [3]), ([], []), ([4, 5], [4, 5]), ([6], [6]), ([2, 7], [2, 7]), ([8], [8]), ([1, 9, 8], [1, 9]), ([0, 1, 2, 3, 4, 5, 6, 7, 8, 9, 10], []), ([11, 10, 10, 0, 1, 2, 3, 4, 5, 6, 7, 8, 9, 10], [10, 11])])
def spec_l12Copy.B5 : List Nat := [0, 1, 0, 0, 8, 0, 56, 120, 252, 508, 1023, 2047, 4095]
theorem spec_l12Copy.tab5 : rtab .any (opsOf Tryz.f57 5) = spec_l12Copy.T5 := by kernel_rfl
theorem spec_l12Copy.bits5 : waitsOk spec_l12Copy.T5.2 spec_l12Copy.B5 = true := by kernel_rfl
set_option maxHeartbeats 8000000 in
set_option maxRecDepth 100000 in
theorem spec_l12Copy.calls (k : Nat) (A0_0 : Option Addr) (c0_0 : Nat) (l0_0 : List (S84)) (A0_1 : Option Addr) (c0_1 : Nat) (l0_1 : List (List (S84))) (r1 : List (S84)) (r2 : List (List (S84))) (w : World) (hr0_0 : Kd.C k84 w A0_0 l0_0.length l0_0) (hc0_0 : l0_0.length ≤ c0_0) (hr0_1 : Kd.C (Kd.slice 84 k84) w A0_1 l0_1.length l0_1) (hc0_1 : l0_1.length ≤ c0_1) (h : spec_l12Copy.f k l0_0 l0_1 = some (r1, r2)) :
 Calls Tryz.prog 57 #[.agg #[.slice A0_0 l0_0.length c0_0, .slice A0_1 l0_1.length c0_1]] w fun e w' => ∃ v0_ v1_ : Value, e = .returned (.agg #[v0_, v1_]) ∧ Kd.R k84 84 w' w.heap.size (fun _ => True) v0_ r1 ∧ Kd.S (Kd.slice 84 k84) 28 w' w.heap.size (fun k_ => some k_ ≠ (v0_ : Value).ownBlock) v1_ r2 ∧ Below w.heap.size w w' := by
 have hu31 := Tryz.underlying31
 have HR0_0 := Aside0.mk hr0_0
 have HC0_0 := Aside0.mk hc0_0
 clear hr0_0 hc0_0
 have HR0_1 := Aside0.mk hr0_1
 have HC0_1 := Aside0.mk hc0_1
 clear hr0_1 hc0_1
 have HB := Aside0.mk (Below.refl w.heap.size w)
 have H : ((some (([] : List (S84)) : List (S84))).bind fun y323 => (if y323.length + l0_0.length < 8796093022208 then (spec_l12Copy.l0 k 0 l0_0 l0_1 (y323 ++ l0_0) ([] : List (List (S84)))) else (none))) = some (r1, r2) := h
 clear h
 obtain ⟨y323, hy323⟩ : ∃ y_ : List (S84), y_ = (([] : List (S84))) := ⟨_, rfl⟩
 replace H : (if y323.length + l0_0.length < 8796093022208 then (spec_l12Copy.l0 k 0 l0_0 l0_1 (y323 ++ l0_0) ([] : List (List (S84)))) else (none)) = some (r1, r2) := Z5 hy323
 have Ny323 := Aside0.mk hy323
 clear hy323
 by_cases c2 : y323.length + l0_0.length < 8796093022208
 ·rw [if_pos c2] at H
  have LMc2 := Aside0.mk c2
  clear c2
  obtain ⟨y326, hy326⟩ : ∃ y_ : List (S84), y_ = (y323 ++ l0_0) := ⟨_, rfl⟩
  replace H : (spec_l12Copy.l0 k 0 l0_0 l0_1 y326 ([] : List (List (S84)))) = some (r1, r2) := Z5 hy326
  have Ny326 := Aside0.mk hy326
  clear hy326
  have H' := Aside0.mk H
  clear H
  go_enter Tryz.func57, Tryz.ntmps57
  go_wp2_with (first | ((with_reducible refine gate_dst (N := 1) rfl ?_); refine bE_ 1 #[.slice A0_0 l0_0.length c0_0, .slice A0_1 l0_1.length c0_1] 31 ?_; intro gb321 hg w3 hbox hb; have BK321 := Aside0.mk (hbox); have GW321 := Aside0.mk ((by rw [hg]; exact (below_size (Z0 HB)) : w.heap.size ≤ gb321)); have GE321 := Aside0.mk ((by rw [hg]; exact (below_size (Z0 HB)) : w.heap.size ≤ gb321)); replace HB := Aside0.mk (below_step (Z0 HB) hb); clear hb hbox hg) | ((with_reducible refine gate_dst (N := 2) rfl ?_); refine bE_ 2 #[.slice none 0 0, .slice none 0 0] 31 ?_; intro gb322 hg w4 hbox hb; have BK322 := Aside0.mk (hbox); have GW322 := Aside0.mk ((by rw [hg]; exact (below_size (Z1 HB GE321)) : w.heap.size ≤ gb322)); have GE322 := Aside0.mk ((by rw [hg]; exact (below_size (Z1 HB GE321)) : w.heap.size ≤ gb322)); replace HB := Aside0.mk (below_step (Z1 HB GE321) hb); have NB321_322 := Aside0.mk ((by rw [hg]; exact Nat.ne_of_lt (blk_lt (g := gb321) (o := .cells #[.slice A0_0 l0_0.length c0_0, .slice A0_1 l0_1.length c0_1] 31 (0, 0)) (Z2 BK321)) : gb321 ≠ gb322)); have NB322_321 := Aside0.mk ((by rw [hg]; exact Nat.ne_of_gt (blk_lt (g := gb321) (o := .cells #[.slice A0_0 l0_0.length c0_0, .slice A0_1 l0_1.length c0_1] 31 (0, 0)) (Z2 BK321)) : gb322 ≠ gb321)); replace BK321 := Aside0.mk (blk_below (g := gb321) (o := .cells #[.slice A0_0 l0_0.length c0_0, .slice A0_1 l0_1.length c0_1] 31 (0, 0)) (Z2 BK321) hb); clear hb hbox hg) | ((with_reducible refine gate_dst (N := 5) rfl ?_); refine Kd.R_lit k84 _ 84 ?hg (N := 5) ?hd (xs := ([] : List (S84))) (inner := []) (ok := fun _ => True) (okp := fun _ => True) ?hr ?hp (fun _ hk => hk) trivial (Below.refl _ _) (Nat.le_refl _) Z33 ?_; (case hd => exact Z90); (case hg => exact Z90); (case hr => exact Z29); (case hp => exact Z67); intro v324 w5 ho6 hb hg_ hnew_; clear hg_ hnew_; (first | rw [← Ny323.out] at ho6 | (simp only [Int.reduceToNat] at ho6; rw [← Ny323.out] at ho6)); have HO325 := Aside0.mk (Kd.R_lower ho6 (below_size (Z17 HB GE321 GE322))); replace BK321 := Aside0.mk (blk_below (g := gb321) (o := .cells #[.slice A0_0 l0_0.length c0_0, .slice A0_1 l0_1.length c0_1] 31 (0, 0)) (Z2 BK321) hb); replace BK322 := Aside0.mk (blk_below (g := gb322) (o := .cells #[.slice none 0 0, .slice none 0 0] 31 (0, 0)) (Z2 BK322) hb); replace HB := Aside0.mk (below_step (Z17 HB GE321 GE322) hb); clear hb ho6; have hnb7 := NB321_322.out; have hnc7 := NB322_321.out; have hcz8_0 : w5.cell? ⟨gb321, 0, none⟩ = some (.slice A0_0 l0_0.length c0_0) := (blk_cell BK321.out 0).trans rfl; have hcz8_1 : w5.cell? ⟨gb321, 1, none⟩ = some (.slice A0_1 l0_1.length c0_1) := (blk_cell BK321.out 1).trans rfl; have hfz8_0 := blk_frozen BK321.out 0; have hfz8_1 := blk_frozen BK321.out 1) | ((with_reducible refine gate_builtin (b := .append) (xs := #[.tmp 5, .tmp 7]) rfl ?_); at_builtin; refine Kd.R_append_rows k84 (w0 := w) w.heap.size rfl (.tmp 5) (.tmp 7) 28 84 (.agg #[(.int .i64 0), (.int .i64 0)]) 16 rfl Tryz.underlying28 info84 rfl Z28 Z32 v324 y323 l0_0 _ _ _ (fun _ => True) (fun _ => False) rfl rfl ?aO ?aR (fun _ _ h => h) (fun _ h => h.elim) ?aF ?aB ?aS ?aL ?_; (case aR => exact Z9 HR0_0 HB); (case aB => exact (Z17 HB GE321 GE322)); (case aF => exact Z77); (case aO => exact (Z4 HO325)); (case aS => exact (below_size (Z17 HB GE321 GE322))); (case aL => exact Z35 LMc2); intro v327 w9 ho hb hg hat; rw [← Ny326.out] at ho; replace BK321 := Aside0.mk (blk_grown (g := gb321) (o := .cells #[.slice A0_0 l0_0.length c0_0, .slice A0_1 l0_1.length c0_1] 31 (0, 0)) (Z2 BK321) hg (Kd.R_ne HO325.out BK321.out Z28)); replace BK322 := Aside0.mk (blk_grown (g := gb322) (o := .cells #[.slice none 0 0, .slice none 0 0] 31 (0, 0)) (Z2 BK322) hg (Kd.R_ne HO325.out BK322.out Z28)); replace HB := Aside0.mk (hb); have HO328 := Aside0.mk (ho); clear HO325; clear ho hb hg hat; obtain ⟨Ao10, co10, eo10⟩ := Kd.R_slice HO328.out; subst eo10) | ((with_reducible refine gate_dst (N := 3) rfl ?_); refine bE_ 3 #[.slice none 0 0, .slice none 0 0] 31 ?_; intro gb329 hg w11 hbox hb; replace HO328 := Aside0.mk (Kd.R_below (Z4 HO328) hb); have BK329 := Aside0.mk (hbox); have GW329 := Aside0.mk ((by rw [hg]; exact (below_size (Z17 HB GE321 GE322)) : w.heap.size ≤ gb329)); have GE329 := Aside0.mk ((by rw [hg]; exact (below_size (Z17 HB GE321 GE322)) : w.heap.size ≤ gb329)); replace HB := Aside0.mk (below_step (Z17 HB GE321 GE322) hb); have NB321_329 := Aside0.mk ((by rw [hg]; exact Nat.ne_of_lt (blk_lt (g := gb321) (o := .cells #[.slice A0_0 l0_0.length c0_0, .slice A0_1 l0_1.length c0_1] 31 (0, 0)) (Z2 BK321)) : gb321 ≠ gb329)); have NB329_321 := Aside0.mk ((by rw [hg]; exact Nat.ne_of_gt (blk_lt (g := gb321) (o := .cells #[.slice A0_0 l0_0.length c0_0, .slice A0_1 l0_1.length c0_1] 31 (0, 0)) (Z2 BK321)) : gb329 ≠ gb321)); replace BK321 := Aside0.mk (blk_below (g := gb321) (o := .cells #[.slice A0_0 l0_0.length c0_0, .slice A0_1 l0_1.length c0_1] 31 (0, 0)) (Z2 BK321) hb); have NB322_329 := Aside0.mk ((by rw [hg]; exact Nat.ne_of_lt (blk_lt (g := gb322) (o := .cells #[.slice none 0 0, .slice none 0 0] 31 (0, 0)) (Z2 BK322)) : gb322 ≠ gb329)); have NB329_322 := Aside0.mk ((by rw [hg]; exact Nat.ne_of_gt (blk_lt (g := gb322) (o := .cells #[.slice none 0 0, .slice none 0 0] 31 (0, 0)) (Z2 BK322)) : gb329 ≠ gb322)); replace BK322 := Aside0.mk (blk_below (g := gb322) (o := .cells #[.slice none 0 0, .slice none 0 0] 31 (0, 0)) (Z2 BK322) hb); clear hb hbox hg; have hnb12 := NB329_321.out; have hnc12 := NB321_329.out; have hnb13 := NB329_322.out; have hnc13 := NB322_329.out; have hcz14_0 : w11.cell? ⟨gb329, 0, none⟩ = some (.slice none 0 0) := (blk_cell BK329.out 0).trans rfl; have hcz14_1 : w11.cell? ⟨gb329, 1, none⟩ = some (.slice none 0 0) := (blk_cell BK329.out 1).trans rfl; have hfz14_0 := blk_frozen BK329.out 0; have hfz14_1 := blk_frozen BK329.out 1))
  go_loopg [4] k (fun kq v4 w' => ∃ (x4_1 : Int) (x330001_1 : List (List (S84))) (u330001 : Value), v4 = .int .i64 x4_1 ∧ Aside0 (spec_l12Copy.l0 kq x4_1 l0_0 l0_1 y326 x330001_1 = some (r1, r2)) ∧ Aside0 (kq ≤ k) ∧ Aside0 (Kd.R k84 84 w' w.heap.size (fun _ => True) (.slice Ao10 y326.length co10) y326) ∧ Aside0 (Kd.S (Kd.slice 84 k84) 28 w' w.heap.size (fun k_ => some k_ ≠ ((.slice Ao10 y326.length co10) : Value).ownBlock) u330001 x330001_1) ∧ Aside0 (w'.heap[gb321]? = some (.cells #[(.slice A0_0 l0_0.length c0_0), (.slice A0_1 l0_1.length c0_1)] 31 (0, 0))) ∧ Aside0 (w'.heap[gb322]? = some (.cells #[(.slice none 0 0), (.slice none 0 0)] 31 (0, 0))) ∧ Aside0 (w'.heap[gb329]? = some (.cells #[(.slice Ao10 y326.length co10), u330001] 31 (0, 0))) ∧ Aside0 (Below w.heap.size w w'))
  case atStart => exact ⟨(0), (([] : List (List (S84)))), (.slice none 0 0), Z14, H', ⟨Nat.le_refl _⟩, ⟨by (with_reducible repeat (first | apply Kd.R_alloc | apply Kd.R_drewN | apply Kd.R_drew)); exact Kd.R_mono (Kd.R_far (p := ⟨gb329, 1, none⟩) (Kd.R_far (p := ⟨gb329, 0, none⟩) (Kd.R_types HO328.out BK329.out Z28) (fun _ hk => hk.2) (.slice Ao10 y326.length co10)) (fun _ hk => hk.2) (.slice none 0 0)) (fun _ hk => trivial)⟩, ⟨Z61⟩, ⟨Z22 NB321_329 BK321⟩, ⟨Z22 NB322_329 BK322⟩, ⟨Z58 BK329⟩, ⟨Z19 HB GE321 GE322 GE329⟩⟩
  case round =>
   clear H'
   try clear c1
   try clear c2
   try clear p2
   try clear c5
   try clear c7
   try clear c12
   try clear c13
   try clear hcz14_0
   try clear hcz14_1
   try clear hcz8_0
   try clear hcz8_1
   try clear hfz14_0
   try clear hfz14_1
   try clear hfz8_0
   try clear hfz8_1
   obtain ⟨x4_1, x330001_1, u330001, rfl, HA, HK1, HO_330000, HO_330001, BK321, BK322, BK329, HB⟩ := hrel
   cases gk with
   | zero => exact absurd HA.out (by simp [spec_l12Copy.l0])
   | succ k1 =>
    have H := HA.out
    clear HA
    simp only [spec_l12Copy.l0] at H
    by_cases c15 : x4_1 < (l0_1.length : Int)
    ·rw [if_pos c15] at H
     have c15b0 : decide (x4_1 < (l0_1.length : Int)) = true := decide_eq_true c15
     clear c15
     obtain ⟨y330, hy330⟩ : ∃ y_ : List (S84), y_ = (([] : List (S84))) := ⟨_, rfl⟩
     replace H : (if 0 ≤ x4_1 then (if y330.length + (rd_L5 l0_1 x4_1).length < 8796093022208 then (if x330001_1.length < 5864062014805 then (spec_l12Copy.l0 k1 (wrap64 (x4_1 + 1)) l0_0 l0_1 y326 (x330001_1 ++ [(y330 ++ (rd_L5 l0_1 x4_1))])) else (none)) else (none)) else (none)) = some (r1, r2) := Z5 hy330
     have Ny330 := Aside0.mk hy330
     clear hy330
     by_cases c16 : 0 ≤ x4_1
     ·rw [if_pos c16] at H
      have c16b0 : decide (0 ≤ x4_1) = true := decide_eq_true c16
      clear c16
      by_cases c17 : y330.length + (rd_L5 l0_1 x4_1).length < 8796093022208
      ·rw [if_pos c17] at H
       have LMc17 := Aside0.mk c17
       clear c17
       obtain ⟨y334, hy334⟩ : ∃ y_ : List (S84), y_ = (y330 ++ (rd_L5 l0_1 x4_1)) := ⟨_, rfl⟩
       replace H : (if x330001_1.length < 5864062014805 then (spec_l12Copy.l0 k1 (wrap64 (x4_1 + 1)) l0_0 l0_1 y326 (x330001_1 ++ [y334])) else (none)) = some (r1, r2) := Z5 hy334
       have Ny334 := Aside0.mk hy334
       clear hy334
       by_cases c18 : x330001_1.length < 5864062014805
       ·rw [if_pos c18] at H
        have LMc18 := Aside0.mk c18
        clear c18
        obtain ⟨y337, hy337⟩ : ∃ y_ : List (List (S84)), y_ = (x330001_1 ++ [y334]) := ⟨_, rfl⟩
        replace H : (spec_l12Copy.l0 k1 (wrap64 (x4_1 + 1)) l0_0 l0_1 y326 y337) = some (r1, r2) := Z5 hy337
        have Ny337 := Aside0.mk hy337
        clear hy337
        have H' := Aside0.mk H
        clear H
        have hnb19 := NB321_322.out
        have hnc19 := NB322_321.out
        have hnb20 := NB321_329.out
        have hnc20 := NB329_321.out
        have hcz21_0 : wr.cell? ⟨gb321, 0, none⟩ = some (.slice A0_0 l0_0.length c0_0) := (blk_cell BK321.out 0).trans rfl
        have hcz21_1 : wr.cell? ⟨gb321, 1, none⟩ = some (.slice A0_1 l0_1.length c0_1) := (blk_cell BK321.out 1).trans rfl
        have hfz21_0 := blk_frozen BK321.out 0
        have hfz21_1 := blk_frozen BK321.out 1
        try go_wp2
        replace HO_330000 := Aside0.mk (Kd.R_drew HO_330000.out)
        replace HO_330001 := Aside0.mk (Kd.S_drew HO_330001.out)
        replace BK321 := Aside0.mk (blk_drew BK321.out)
        replace BK322 := Aside0.mk (blk_drew BK322.out)
        replace BK329 := Aside0.mk (blk_drew BK329.out)
        replace HB := Aside0.mk (below_drew1 HB.out)
        have p333 : 0 ≤ (x4_1 : Int) := of_decide_eq_true Z10
        have q333 : x4_1 < (l0_1.length : Int) := of_decide_eq_true Z10
        obtain ⟨ad333, A333_0, c333_0, e333, hx333_0, hl333_0, hi333_0⟩ := at_L5 HR0_1.out x4_1 p333 q333
        have hw333_0 := hx333_0
        cases e333
        replace hx333_0 := (HB.out.cell (World.block_lt_of_cell? w _ hx333_0)).trans hx333_0
        have HR333_0 := Aside0.mk hi333_0
        have HC333_0 := Aside0.mk hl333_0
        clear hi333_0 hl333_0
        replace p333 := eq_true p333
        replace q333 := eq_true q333
        refine start_ (n := 13) (S := fun w' => w'.cell? ⟨gb329, 0, none⟩ = some (.slice Ao10 y326.length co10) ∧ w'.cell? ⟨gb329, 1, none⟩ = some (u330001) ∧ w'.cell? ⟨gb321, 0, none⟩ = some (.slice A0_0 l0_0.length c0_0) ∧ w'.cell? ⟨gb321, 1, none⟩ = some (.slice (some ad333) l0_1.length c0_1) ∧ w'.cell? (ad333.add (x4_1).toNat) = some (.slice A333_0 (rd_L5 l0_1 x4_1).length c333_0)) (ds := [12]) (bB 13 0) Z15 rfl Z15 ⟨(blk_cell BK329.out 0).trans rfl, (blk_cell BK329.out 1).trans rfl, (blk_cell BK321.out 0).trans rfl, (blk_cell BK321.out 1).trans rfl, ((HB.out.cell (World.block_lt_of_cell? w _ hw333_0)).trans hw333_0)⟩ (fun hHeld => ?_); refine with_tabW spec_l12Copy.tab5 spec_l12Copy.bits5 (fun HT_ HW_ => ?_)
        generalize wr.drew = w22 at HO_330000 HO_330001 BK321 BK322 BK329 HB HR333_0 hx333_0 hHeld ⊢
        refine pu_ 0 (some 17) (bB 13 1) ?_
        refine pu_ 3 (some 20) (bB 13 9) ?_
        refine pu_ 5 (some 22) (bB 13 41) ?_
        refine take_ (i := 1) (N := some 18) (v := ?_) (a' := ?_) (bB 13 43) rfl rfl (take_ofW HT_.out HW_.out Z15) (fun _ _ _ h => h) (Or.inl ⟨Z90, ?_⟩) hHeld ?_ ?_
        rotate_left
        ·rintro w' ⟨s0, s1, s2, s3, s4⟩
         go_simp
         with_reducible rfl
        rotate_left
        ·simp only [Act.put, List.setIfInBounds_toArray, List.set_cons_zero, List.set_cons_succ, i64_w, i32_w]
         rfl
        refine take_ (i := 4) (N := some 21) (v := ?_) (a' := ?_) (bB 13 59) rfl rfl (take_ofW HT_.out HW_.out Z15) (fun _ _ _ h => h) (Or.inl ⟨Z90, ?_⟩) hHeld ?_ ?_
        rotate_left
        ·rintro w' ⟨s0, s1, s2, s3, s4⟩
         go_simp
         with_reducible rfl
        rotate_left
        ·simp only [Act.put, List.setIfInBounds_toArray, List.set_cons_zero, List.set_cons_succ, i64_w, i32_w]
         rfl
        refine pu_ 6 (some 23) (bB 13 123) ?_
        refine take_ (i := 7) (N := some 24) (v := ?_) (a' := ?_) (bB 13 251) rfl rfl (take_ofW HT_.out HW_.out Z15) (fun _ _ _ h => h) (Or.inl ⟨Z90, ?_⟩) hHeld ?_ ?_
        rotate_left
        ·rintro w' ⟨s0, s1, s2, s3, s4⟩
         go_simp
         with_reducible rfl
        rotate_left
        ·simp only [Act.put, List.setIfInBounds_toArray, List.set_cons_zero, List.set_cons_succ, i64_w, i32_w]
         rfl
        refine one_ (i := 2) (N := some 19) (bB 13 255) rfl rfl (one_of HT_.out Z15) Z28 (fun K hK => ?_)
        refine Kd.R_lit_step k84 _ 84 ?hg (N := 19) ?hd (xs := ([] : List (S84))) (inner := []) (ok := fun _ => True) (okp := fun _ => True) ?hr ?hp (fun _ hk => hk) trivial (Below.refl _ _) (Nat.le_refl _) Z33 ?_; (case hd => exact Z90); (case hg => exact Z90); (case hr => exact Z29); (case hp => exact Z67)
        intro v331 w23 ho24 hb hg_ hnew_
        clear hg_ hnew_
        (first | rw [← Ny330.out] at ho24 | (simp only [Int.reduceToNat] at ho24; rw [← Ny330.out] at ho24))
        replace HO_330001 := Aside0.mk (Kd.S_elder' (Z42 HO_330001) (Kd.R_base ho24) hb)
        have HO332 := Aside0.mk (Kd.R_lower (Kd.R_new' ho24 (Kd.R_lt (Z4 HO_330000))) (below_size (Z19 HB GE321 GE322 GE329)))
        replace HO_330000 := Aside0.mk (Kd.R_elder' (Z4 HO_330000) (Kd.R_base ho24) hb)
        replace BK321 := Aside0.mk (blk_below (g := gb321) (o := .cells #[.slice A0_0 l0_0.length c0_0, .slice (some ad333) l0_1.length c0_1] 31 (0, 0)) (Z2 BK321) hb)
        replace BK322 := Aside0.mk (blk_below (g := gb322) (o := .cells #[.slice none 0 0, .slice none 0 0] 31 (0, 0)) (Z2 BK322) hb)
        replace BK329 := Aside0.mk (blk_below (g := gb329) (o := .cells #[.slice Ao10 y326.length co10, u330001] 31 (0, 0)) (Z2 BK329) hb)
        replace HB := Aside0.mk (below_step (Z19 HB GE321 GE322 GE329) hb)
        clear hb ho24
        refine hK.out _ _ ⟨(blk_cell BK329.out 0).trans rfl, (blk_cell BK329.out 1).trans rfl, (blk_cell BK321.out 0).trans rfl, (blk_cell BK321.out 1).trans rfl, ((HB.out.cell (World.block_lt_of_cell? w _ hw333_0)).trans hw333_0)⟩ (fun hHeld => ?_)
        clear hK K
        refine nr_ ?_
        refine one_ (i := 8) (N := some 25) (bB 13 511) rfl rfl (one_of HT_.out Z15) Z28 (fun K hK => ?_)
        refine Kd.R_append_rows_step k84 (w0 := w) w.heap.size Z90 (.tmp 19) (.tmp 24) 28 84 (.agg #[(.int .i64 0), (.int .i64 0)]) 16 rfl Tryz.underlying28 info84 rfl Z28 Z32 v331 y330 (rd_L5 l0_1 x4_1) _ _ _ (fun k_ => some k_ ≠ (.slice Ao10 y326.length co10 : Value).ownBlock) (fun _ => False) rfl rfl ?aO ?aR (fun _ _ h => h) (fun _ h => h.elim) ?aF ?aB ?aS ?aL ?_
        (case aR => exact Z9 HR333_0 HB)
        (case aB => exact (Z19 HB GE321 GE322 GE329))
        (case aF => exact (fun k_ hk => Kd.fresh' (Kd.R_lt (Z4 HO_330000)) k_ hk))
        (case aO => exact (Z46 HO332))
        (case aS => exact (below_size (Z19 HB GE321 GE322 GE329)))
        (case aL => exact Z35 LMc17)
        intro v335 w25 ho hb hg hat
        rw [← Ny334.out] at ho
        replace HO_330000 := Aside0.mk (Kd.R_after (ok := (fun _ => True)) (Z4 HO_330000) hg hat)
        replace HO_330001 := Aside0.mk (Kd.S_after (ok := (fun k_ => some k_ ≠ (.slice Ao10 y326.length co10 : Value).ownBlock)) (Z42 HO_330001) hg hat)
        replace BK321 := Aside0.mk (blk_grown (g := gb321) (o := .cells #[.slice A0_0 l0_0.length c0_0, .slice (some ad333) l0_1.length c0_1] 31 (0, 0)) (Z2 BK321) hg (Kd.R_ne HO332.out BK321.out Z28))
        replace BK322 := Aside0.mk (blk_grown (g := gb322) (o := .cells #[.slice none 0 0, .slice none 0 0] 31 (0, 0)) (Z2 BK322) hg (Kd.R_ne HO332.out BK322.out Z28))
        replace BK329 := Aside0.mk (blk_grown (g := gb329) (o := .cells #[.slice Ao10 y326.length co10, u330001] 31 (0, 0)) (Z2 BK329) hg (Kd.R_ne HO332.out BK329.out Z28))
        replace HB := Aside0.mk (hb)
        have HO336 := Aside0.mk (ho)
        clear HO332
        clear ho hb hg hat
        obtain ⟨Ao27, co27, eo27⟩ := Kd.R_slice HO336.out
        (first | subst eo27 | (injection eo27 with f1_ f2_ f3_; have f4_ := f1_.symm; have f5_ := f3_.symm; clear f1_ f2_ f3_; subst f4_; subst f5_))
        refine hK.out _ _ ⟨(blk_cell BK329.out 0).trans rfl, (blk_cell BK329.out 1).trans rfl, (blk_cell BK321.out 0).trans rfl, (blk_cell BK321.out 1).trans rfl, ((HB.out.cell (World.block_lt_of_cell? w _ hw333_0)).trans hw333_0)⟩ (fun hHeld => ?_)
        clear hK K
        refine nr_ ?_
        refine one_ (i := 9) (N := some 26) (bB 13 1023) rfl rfl (one_of HT_.out Z15) Z28 (fun K hK => ?_)
        refine value_ (w1 := ?_) (v := ?_) Z90 rfl ?_ ?_
        rotate_left 2
        ·go_simp
         constructor
         ·rfl
         ·rfl
        refine hK.out _ _ ⟨(blk_cell (blk_alloc BK329.out _) 0).trans rfl, (blk_cell (blk_alloc BK329.out _) 1).trans rfl, (blk_cell (blk_alloc BK321.out _) 0).trans rfl, (blk_cell (blk_alloc BK321.out _) 1).trans rfl, (World.cell?_alloc_lt _ _ _ (World.block_lt_of_cell? _ _ (((HB.out.cell (World.block_lt_of_cell? w _ hw333_0)).trans hw333_0)))).trans (((HB.out.cell (World.block_lt_of_cell? w _ hw333_0)).trans hw333_0))⟩ (fun hHeld => ?_)
        clear hK K
        refine nr_ ?_
        refine one_ (i := 10) (N := some 27) (bB 13 2047) rfl rfl (one_of HT_.out Z15) Z28 (fun K hK => ?_)
        refine Kd.S_append_step (Kd.slice 84 k84) (w0 := w) w.heap.size Z90 (.tmp 18) (.tmp 26) 29 28 (.slice none 0 0) 24 rfl Tryz.underlying29 info28 rfl Z28 Z32 u330001 x330001_1 y334 [.slice Ao27 y334.length co27] (fun k_ => some k_ ≠ (.slice Ao10 y326.length co10 : Value).ownBlock) (fun k_ => some k_ = (.slice Ao27 y334.length co27 : Value).ownBlock) rfl rfl ?aP (fun k_ hk_ => ((Kd.R_mono (ok' := fun k_ => ((fun k_ => some k_ ≠ (.slice Ao10 y326.length co10 : Value).ownBlock)) k_ ∧ some k_ ≠ (u330001 : Value).ownBlock) (Kd.R_apart' (HO336.out) (Kd.S_typed HO_330001.out) Z28) (fun k_ hk => ⟨hk.1, hk.2⟩))).1 k_ hk_.symm) ?aF ?aO ?aB ?aS ?aL ?_
        (case aP => exact Kd.M_row (Kd.R_mono (Kd.R_tight rfl (Kd.R_mono (ok' := fun k_ => ((fun k_ => some k_ ≠ (.slice Ao10 y326.length co10 : Value).ownBlock)) k_ ∧ some k_ ≠ (u330001 : Value).ownBlock) (Kd.R_apart' (HO336.out) (Kd.S_typed HO_330001.out) Z28) (fun k_ hk => ⟨hk.1, hk.2⟩))) (fun _ h_ => h_)))
        (case aB => exact (Z19 HB GE321 GE322 GE329))
        (case aF => exact (fun k_ hk => Kd.fresh' (Kd.R_lt (Z4 HO_330000)) k_ hk))
        (case aO => exact (Z85 HO_330001))
        (case aS => exact (below_size (Z19 HB GE321 GE322 GE329)))
        (case aL => exact Z35 LMc18)
        intro v338 w26 ho hb hg hat
        rw [← Ny337.out] at ho
        replace HO_330000 := Aside0.mk (Kd.R_over' (Z4 HO_330000) (Kd.S_typed (Z42 HO_330001)) Z28 hg)
        replace BK321 := Aside0.mk (blk_grown (g := gb321) (o := .cells #[.slice A0_0 l0_0.length c0_0, .slice (some ad333) l0_1.length c0_1] 31 (0, 0)) (Z2 BK321) hg (Kd.S_ne HO_330001.out BK321.out Z28))
        replace BK322 := Aside0.mk (blk_grown (g := gb322) (o := .cells #[.slice none 0 0, .slice none 0 0] 31 (0, 0)) (Z2 BK322) hg (Kd.S_ne HO_330001.out BK322.out Z28))
        replace BK329 := Aside0.mk (blk_grown (g := gb329) (o := .cells #[.slice Ao10 y326.length co10, u330001] 31 (0, 0)) (Z2 BK329) hg (Kd.S_ne HO_330001.out BK329.out Z28))
        replace HB := Aside0.mk (hb)
        have HO339 := Aside0.mk (ho)
        clear HO_330001
        clear HO336
        clear ho hb hg hat
        obtain ⟨Ao28, co28, eo28⟩ := Kd.S_slice HO339.out
        (first | subst eo28 | (injection eo28 with f1_ f2_ f3_; have f4_ := f1_.symm; have f5_ := f3_.symm; clear f1_ f2_ f3_; subst f4_; subst f5_))
        refine hK.out _ _ ⟨(blk_cell BK329.out 0).trans rfl, (blk_cell BK329.out 1).trans rfl, (blk_cell BK321.out 0).trans rfl, (blk_cell BK321.out 1).trans rfl, ((HB.out.cell (World.block_lt_of_cell? w _ hw333_0)).trans hw333_0)⟩ (fun hHeld => ?_)
        clear hK K
        refine nr_ ?_
        refine pu_ 11 (some 28) (bB 13 4095) ?_
        refine last_ (i := 12) (N := none) (bB 13 8191) rfl rfl (one_of HT_.out Z15) Z28 (fun K hK => ?_)
        have hs29 : w26.cell? ⟨gb329, 1, none⟩ = some (u330001) := (blk_cell BK329.out 1).trans rfl
        have hfs29 := blk_frozen BK329.out 1
        have hns29_0 := NB321_329.out
        have hns29_1 := NB322_329.out
        have hms29_0 := NB329_321.out
        have hms29_1 := NB329_322.out
        refine skip_ (w1 := ?_) Z90 rfl ?_ ?_
        rotate_left
        ·go_simp
         rfl
        refine hK.out _ _ ?_
        clear hK K
        refine done_ (done_of HT_.out Z15) ?_
        try go_wp2
        go_roundg k1
        case measure => have := HK1.out; omega
        case rel => exact ⟨(wrap64 (x4_1 + 1)), (y337), (.slice Ao28 y337.length co28), Z14, H', ⟨Z35 HK1⟩, ⟨by (with_reducible repeat (first | apply Kd.R_alloc | apply Kd.R_drewN | apply Kd.R_drew)); exact Kd.R_mono (Kd.R_far (p := ⟨gb329, 1, none⟩) (Kd.R_types HO_330000.out BK329.out Z28) (fun _ hk => hk.2) (.slice Ao28 y337.length co28)) (fun _ hk => trivial)⟩, ⟨by (with_reducible repeat (first | apply Kd.S_alloc | apply Kd.S_drewN | apply Kd.S_drew)); exact Kd.S_mono (Kd.S_far (p := ⟨gb329, 1, none⟩) (Kd.S_types HO339.out BK329.out Z28) (fun _ hk => hk.2) (.slice Ao28 y337.length co28)) (fun _ hk => hk.1)⟩, ⟨Z30 NB321_329 BK321⟩, ⟨Z30 NB322_329 BK322⟩, ⟨by refine blk_put (cs := #[.slice Ao10 y326.length co10, u330001]) ?_ 1 _ rfl; (with_reducible repeat (first | refine blk_drewN ?_ _ | refine blk_drew ?_ | refine blk_alloc ?_ _)); exact BK329.out⟩, ⟨Z19 HB GE321 GE322 GE329⟩⟩
       ·rw [if_neg c18] at H
        exact absurd H Z33
      ·rw [if_neg c17] at H
       exact absurd H Z33
     ·rw [if_neg c16] at H
      exact absurd H Z33
    ·rw [if_neg c15] at H
     have c15b0 : decide (x4_1 < (l0_1.length : Int)) = false := decide_eq_false c15
     clear c15
     simp only [Option.some.injEq, Prod.mk.injEq] at H
     obtain ⟨rfl, rfl⟩ := H
     have hnb30 := NB321_322.out
     have hnc30 := NB322_321.out
     have hnb31 := NB321_329.out
     have hnc31 := NB329_321.out
     have hcz32_0 : wr.cell? ⟨gb321, 0, none⟩ = some (.slice A0_0 l0_0.length c0_0) := (blk_cell BK321.out 0).trans rfl
     have hcz32_1 : wr.cell? ⟨gb321, 1, none⟩ = some (.slice A0_1 l0_1.length c0_1) := (blk_cell BK321.out 1).trans rfl
     have hfz32_0 := blk_frozen BK321.out 0
     have hfz32_1 := blk_frozen BK321.out 1
     have hnb33 := NB329_322.out
     have hnc33 := NB322_329.out
     have hcz34_0 : wr.cell? ⟨gb329, 0, none⟩ = some (.slice Ao10 y326.length co10) := (blk_cell BK329.out 0).trans rfl
     have hcz34_1 : wr.cell? ⟨gb329, 1, none⟩ = some (u330001) := (blk_cell BK329.out 1).trans rfl
     have hfz34_0 := blk_frozen BK329.out 0
     have hfz34_1 := blk_frozen BK329.out 1
     have hcz35_0 : wr.cell? ⟨gb322, 0, none⟩ = some (.slice none 0 0) := (blk_cell BK322.out 0).trans rfl
     have hcz35_1 : wr.cell? ⟨gb322, 1, none⟩ = some (.slice none 0 0) := (blk_cell BK322.out 1).trans rfl
     have hfz35_0 := blk_frozen BK322.out 0
     have hfz35_1 := blk_frozen BK322.out 1
     obtain ⟨Ao36, co36, eo36⟩ := Kd.S_slice HO_330001.out
     subst eo36
     go_wp2
     refine bodyPost_ret (results_cell_row rfl _ _ gb322 31 #[.slice Ao10 y326.length co10, .slice Ao36 x330001_1.length co36] (0, 0) _ rfl (Z58 BK322) Tryz.underlying31 rfl Z15) rfl ?_
     exact ⟨_, _, Z11, by (with_reducible repeat (first | apply Kd.R_alloc | apply Kd.R_drewN | apply Kd.R_drew)); exact Kd.R_mono (Kd.R_far (p := ⟨gb322, 1, none⟩) (Kd.R_far (p := ⟨gb322, 0, none⟩) (Kd.R_types HO_330000.out BK322.out Z28) (fun _ hk => hk.2) (.slice Ao10 y326.length co10)) (fun _ hk => hk.2) (.slice Ao36 x330001_1.length co36)) (fun _ hk => trivial), by (with_reducible repeat (first | apply Kd.S_alloc | apply Kd.S_drewN | apply Kd.S_drew)); exact Kd.S_mono (Kd.S_far (p := ⟨gb322, 1, none⟩) (Kd.S_far (p := ⟨gb322, 0, none⟩) (Kd.S_types HO_330001.out BK322.out Z28) (fun _ hk => hk.2) (.slice Ao10 y326.length co10)) (fun _ hk => hk.2) (.slice Ao36 x330001_1.length co36)) (fun _ hk => hk.1), Z19 HB GE321 GE322 GE329⟩
 ·rw [if_neg c2] at H
  exact absurd H Z33

end Go.Proofs.YtmmoojkhlkjdkaaGreatDoor.PFnReadJournal
