-- Printed by this claim's own program; Lean checks it.
import Derived.Test.YtmmoojkhlkjdkaaGreatDoorPFnReadJournalx0
import Derived.Test.YtmmoojkhlkjdkaaGreatDoorPFnReadJournalx19
namespace Go.Proofs.YtmmoojkhlkjdkaaGreatDoor.PFnReadJournal
open Go.RowKit Go.Proofs.YtmmoojkhlkjdkaaGreatDoorW.PrintWords Go.Proofs.YtmmoojkhlkjdkaaGreatDoorW.PrintLast Go.Proofs.YtmmoojkhlkjdkaaGreatDoorW.PrintMore
attribute [local go_sem] max2_int min2_int max_two min_two max_three min_three max_four min_four   -- for this text's walks alone
set_option linter.unusedVariables false
set_option linter.unusedSimpArgs false

/-! ### impl_DeskOk: function 23 -/
def impl_DeskOk.l0 : Nat → List (List (S84)) → Int → Int → List (S84) → List (List (S84)) → Option (Bool)
  | 0, _, _, _, _, _ => none
  | k + 1, x6, x7, x8, x506000, x506001 => if x8 < x7 then (if 0 ≤ x8 then (if x8 < (x6.length : Int) then ((impl_CustomersOk.f k (rd_L5 x6 x8)).bind fun t507 => (if t507 = true then (impl_DeskOk.l0 k x6 x7 (wrap64 (x8 + 1)) x506000 x506001) else (some false))) else (none)) else (none)) else ((impl_CustomersOk.f k x506000).bind fun t508 => (if t508 = true then (some (decide ((x506001.length : Int) ≤ 8))) else (some false)))
def impl_DeskOk.f (k : Nat) (l0_0 : List (S84)) (l0_1 : List (List (S84))) : Option (Bool) := impl_DeskOk.l0 k l0_1 (l0_1.length : Int) 0 l0_0 l0_1
theorem impl_DeskOk.mono_l : ∀ k, (∀ y0 y1 y2 y3 y4, LeO (impl_DeskOk.l0 k y0 y1 y2 y3 y4) (impl_DeskOk.l0 (k + 1) y0 y1 y2 y3 y4))
 | 0 => fun _ _ _ _ _ r h => by simp [impl_DeskOk.l0] at h
 | k + 1 => by
  have ih0 := impl_DeskOk.mono_l k
  ·intro y0 y1 y2 y3 y4
   unfold impl_DeskOk.l0
   repeat' first
   | (with_reducible exact ih0 _ _ _ _ _)
   | (with_reducible exact impl_CustomersOk.mono _ _)
   | (with_reducible exact LeO.refl _)
   | (with_reducible exact LeO.none _)
   | (with_reducible refine LeO.ite ?_ ?_)
   | (with_reducible refine LeO.bind ?_ (fun _ => ?_))
   | exact ih0 _ _ _ _ _
   | exact impl_CustomersOk.mono _ _
   | exact LeO.none _
   | refine LeO.ite ?_ ?_
   | refine LeO.bind ?_ (fun _ => ?_)
theorem impl_DeskOk.mono : ∀ a0 a1 k, LeO (impl_DeskOk.f k a0 a1) (impl_DeskOk.f (k + 1) a0 a1) := by
 intro a0 a1 k
 have ih0 := impl_DeskOk.mono_l k
 unfold impl_DeskOk.f
 repeat' first
  | (with_reducible exact ih0 _ _ _ _ _)
  | (with_reducible exact impl_CustomersOk.mono _ _)
  | (with_reducible exact LeO.refl _)
  | (with_reducible exact LeO.none _)
  | (with_reducible refine LeO.ite ?_ ?_)
  | (with_reducible refine LeO.bind ?_ (fun _ => ?_))
  | exact ih0 _ _ _ _ _
  | exact impl_CustomersOk.mono _ _
  | exact LeO.none _
  | refine LeO.ite ?_ ?_
  | refine LeO.bind ?_ (fun _ => ?_)
set_option maxHeartbeats 8000000 in
set_option maxRecDepth 100000 in
theorem impl_DeskOk.calls (k : Nat) (A0_0 : Option Addr) (c0_0 : Nat) (l0_0 : List (S84)) (A0_1 : Option Addr) (c0_1 : Nat) (l0_1 : List (List (S84))) (r : Bool) (w : World) (hr0_0 : Kd.C k84 w A0_0 l0_0.length l0_0) (hc0_0 : l0_0.length ≤ c0_0) (hr0_1 : Kd.C (Kd.slice 84 k84) w A0_1 l0_1.length l0_1) (hc0_1 : l0_1.length ≤ c0_1) (h : impl_DeskOk.f k l0_0 l0_1 = some r) :
 Calls Tryz.prog 23 #[.agg #[.slice A0_0 l0_0.length c0_0, .slice A0_1 l0_1.length c0_1]] w fun e w' => e = .returned (.bool r) ∧ Below w.heap.size w w' := by
 have hu31 := Tryz.underlying31
 have HR0_0 := Aside0.mk hr0_0
 have HC0_0 := Aside0.mk hc0_0
 clear hr0_0 hc0_0
 have HR0_1 := Aside0.mk hr0_1
 have HC0_1 := Aside0.mk hc0_1
 clear hr0_1 hc0_1
 have HB := Aside0.mk (Below.refl w.heap.size w)
 have H : (impl_DeskOk.l0 k l0_1 (l0_1.length : Int) 0 l0_0 l0_1) = some r := h
 clear h
 have H' := Aside0.mk H
 clear H
 go_enter Tryz.func23, Tryz.ntmps23
 go_wp2_with (first | ((with_reducible refine gate_dst (N := 1) rfl ?_); (try (refine gate_guard Z90 ?_; dsimp only)); refine bE_ 1 #[.slice A0_0 l0_0.length c0_0, .slice A0_1 l0_1.length c0_1] 31 ?_; intro gb505 hg w2 hbox hb; have BK505 := Aside0.mk (hbox); have GW505 := Aside0.mk ((by rw [hg]; exact (below_size (Z0 HB)) : w.heap.size ≤ gb505)); have GE505 := Aside0.mk ((by rw [hg]; exact (below_size (Z0 HB)) : w.heap.size ≤ gb505)); replace HB := Aside0.mk (below_step (Z0 HB) hb); clear hb hbox hg; have hcz3_0 : w2.cell? ⟨gb505, 0, none⟩ = some (.slice A0_0 l0_0.length c0_0) := (blk_cell BK505.out 0).trans rfl; have hcz3_1 : w2.cell? ⟨gb505, 1, none⟩ = some (.slice A0_1 l0_1.length c0_1) := (blk_cell BK505.out 1).trans rfl; have hfz3_0 := blk_frozen BK505.out 0; have hfz3_1 := blk_frozen BK505.out 1))
 go_loopg [8] k (fun kq v8 w' => ∃ (x8_1 : Int), v8 = .int .i64 x8_1 ∧ Aside0 (impl_DeskOk.l0 kq l0_1 (l0_1.length : Int) x8_1 l0_0 l0_1 = some r) ∧ Aside0 (kq ≤ k) ∧ Aside0 (w'.heap[gb505]? = some (.cells #[(.slice A0_0 l0_0.length c0_0), (.slice A0_1 l0_1.length c0_1)] 31 (0, 0))) ∧ Aside0 (Below w.heap.size w w'))
 case atStart => exact ⟨(0), Z14, H', ⟨Nat.le_refl _⟩, ⟨Z2 BK505⟩, ⟨Z1 HB GE505⟩⟩
 case round =>
  clear H'
  try clear c2
  try clear p2
  try clear hcz3_0
  try clear hcz3_1
  try clear hfz3_0
  try clear hfz3_1
  obtain ⟨x8_1, rfl, HA, HK1, BK505, HB⟩ := hrel
  cases gk with
  | zero => exact absurd HA.out (by simp [impl_DeskOk.l0])
  | succ k1 =>
   have H := HA.out
   clear HA
   simp only [impl_DeskOk.l0] at H
   by_cases c4 : x8_1 < (l0_1.length : Int)
   ·rw [if_pos c4] at H
    have c4b0 : decide (x8_1 < (l0_1.length : Int)) = true := decide_eq_true c4
    clear c4
    by_cases c5 : 0 ≤ x8_1
    ·rw [if_pos c5] at H
     have c5b0 : decide (0 ≤ x8_1) = true := decide_eq_true c5
     clear c5
     by_cases c6 : x8_1 < (l0_1.length : Int)
     ·rw [if_pos c6] at H
      have c6b0 : decide (x8_1 < (l0_1.length : Int)) = true := decide_eq_true c6
      clear c6
      replace H := Option.bind_eq_some_iff.mp H
      obtain ⟨t507, A70, H⟩ := H
      replace H : (if t507 = true then (impl_DeskOk.l0 k1 l0_1 (l0_1.length : Int) (wrap64 (x8_1 + 1)) l0_0 l0_1) else (some false)) = some r := H
      have A7 := Aside0.mk A70
      clear A70
      by_cases c8 : t507 = true
      ·subst c8
       have H1 : (impl_DeskOk.l0 k1 l0_1 (l0_1.length : Int) (wrap64 (x8_1 + 1)) l0_0 l0_1) = some r := Z37
       clear H
       have H := H1
       clear H1
       have H' := Aside0.mk H
       clear H
       have p506 : 0 ≤ (x8_1 : Int) := of_decide_eq_true Z10
       have q506 : x8_1 < (l0_1.length : Int) := of_decide_eq_true Z10
       obtain ⟨ad506, A506_0, c506_0, e506, hx506_0, hl506_0, hi506_0⟩ := at_L5 HR0_1.out x8_1 p506 q506
       cases e506
       replace hx506_0 := (HB.out.cell (World.block_lt_of_cell? w _ hx506_0)).trans hx506_0
       have HR506_0 := Aside0.mk hi506_0
       have HC506_0 := Aside0.mk hl506_0
       clear hi506_0 hl506_0
       replace p506 := eq_true p506
       replace q506 := eq_true q506
       go_wp2_with (first | ((with_reducible refine gate_callee (f := 55) rfl ?_); refine gL_ 13 Tryz.func55 #[.slice A506_0 (rd_L5 l0_1 x8_1).length c506_0] ?_; (with_reducible refine (impl_CustomersOk.calls k1 _ _ (rd_L5 l0_1 x8_1) true _ ?side1 ?side2 A7.out).mono ?_); (case side1 => exact Z9 HR506_0 HB); (case side2 => exact HC506_0.out); rintro e w9 ⟨rfl, hb⟩; refine ⟨_, rfl, ?_⟩; replace BK505 := Aside0.mk (blk_below (g := gb505) (o := .cells #[.slice A0_0 l0_0.length c0_0, .slice (some ad506) l0_1.length c0_1] 31 (0, 0)) (Z2 BK505) hb); replace HB := Aside0.mk (below_step (Z1 HB GE505) hb); (try clear hb)))
       go_roundg k1
       case measure => have := HK1.out; omega
       case rel => exact ⟨(wrap64 (x8_1 + 1)), Z14, H', ⟨Z35 HK1⟩, ⟨Z2 BK505⟩, ⟨Z1 HB GE505⟩⟩
      ·replace c8 := Bool.eq_false_iff.mpr c8
       subst c8
       have H1 : (some false) = some r := Z24
       clear H
       have H := H1
       clear H1
       obtain rfl := Option.some.inj H
       have p506 : 0 ≤ (x8_1 : Int) := of_decide_eq_true Z10
       have q506 : x8_1 < (l0_1.length : Int) := of_decide_eq_true Z10
       obtain ⟨ad506, A506_0, c506_0, e506, hx506_0, hl506_0, hi506_0⟩ := at_L5 HR0_1.out x8_1 p506 q506
       cases e506
       replace hx506_0 := (HB.out.cell (World.block_lt_of_cell? w _ hx506_0)).trans hx506_0
       have HR506_0 := Aside0.mk hi506_0
       have HC506_0 := Aside0.mk hl506_0
       clear hi506_0 hl506_0
       replace p506 := eq_true p506
       replace q506 := eq_true q506
       go_wp2_with (first | ((with_reducible refine gate_callee (f := 55) rfl ?_); refine gL_ 13 Tryz.func55 #[.slice A506_0 (rd_L5 l0_1 x8_1).length c506_0] ?_; (with_reducible refine (impl_CustomersOk.calls k1 _ _ (rd_L5 l0_1 x8_1) false _ ?side1 ?side2 A7.out).mono ?_); (case side1 => exact Z9 HR506_0 HB); (case side2 => exact HC506_0.out); rintro e w10 ⟨rfl, hb⟩; refine ⟨_, rfl, ?_⟩; replace BK505 := Aside0.mk (blk_below (g := gb505) (o := .cells #[.slice A0_0 l0_0.length c0_0, .slice (some ad506) l0_1.length c0_1] 31 (0, 0)) (Z2 BK505) hb); replace HB := Aside0.mk (below_step (Z1 HB GE505) hb); (try clear hb)))
       go_ret
       exact ⟨Z11, Z1 HB GE505⟩
     ·rw [if_neg c6] at H
      exact absurd H Z33
    ·rw [if_neg c5] at H
     exact absurd H Z33
   ·rw [if_neg c4] at H
    have c4b0 : decide (x8_1 < (l0_1.length : Int)) = false := decide_eq_false c4
    clear c4
    replace H := Option.bind_eq_some_iff.mp H
    obtain ⟨t508, A110, H⟩ := H
    replace H : (if t508 = true then (some (decide ((l0_1.length : Int) ≤ 8))) else (some false)) = some r := H
    have A11 := Aside0.mk A110
    clear A110
    by_cases c12 : t508 = true
    ·subst c12
     have H1 : (some (decide ((l0_1.length : Int) ≤ 8))) = some r := Z37
     clear H
     have H := H1
     clear H1
     obtain rfl := Option.some.inj H
     have hcz13_0 : wr.cell? ⟨gb505, 0, none⟩ = some (.slice A0_0 l0_0.length c0_0) := (blk_cell BK505.out 0).trans rfl
     have hcz13_1 : wr.cell? ⟨gb505, 1, none⟩ = some (.slice A0_1 l0_1.length c0_1) := (blk_cell BK505.out 1).trans rfl
     have hfz13_0 := blk_frozen BK505.out 0
     have hfz13_1 := blk_frozen BK505.out 1
     go_wp2_with (first | ((with_reducible refine gate_callee (f := 55) rfl ?_); refine gL_ 18 Tryz.func55 #[.slice A0_0 l0_0.length c0_0] ?_; (with_reducible refine (impl_CustomersOk.calls k1 _ _ l0_0 true _ ?side1 ?side2 A11.out).mono ?_); (case side1 => exact Z9 HR0_0 HB); (case side2 => exact HC0_0.out); rintro e w14 ⟨rfl, hb⟩; refine ⟨_, rfl, ?_⟩; replace BK505 := Aside0.mk (blk_below (g := gb505) (o := .cells #[.slice A0_0 l0_0.length c0_0, .slice A0_1 l0_1.length c0_1] 31 (0, 0)) (Z2 BK505) hb); replace HB := Aside0.mk (below_step (Z1 HB GE505) hb); (try clear hb); (try clear hb2); (try clear hk); (try clear hi); have hcz15_0 : w14.cell? ⟨gb505, 0, none⟩ = some (.slice A0_0 l0_0.length c0_0) := (blk_cell BK505.out 0).trans rfl; have hcz15_1 : w14.cell? ⟨gb505, 1, none⟩ = some (.slice A0_1 l0_1.length c0_1) := (blk_cell BK505.out 1).trans rfl; have hfz15_0 := blk_frozen BK505.out 0; have hfz15_1 := blk_frozen BK505.out 1))
     go_ret
     exact ⟨Z11, Z1 HB GE505⟩
    ·replace c12 := Bool.eq_false_iff.mpr c12
     subst c12
     have H1 : (some false) = some r := Z24
     clear H
     have H := H1
     clear H1
     obtain rfl := Option.some.inj H
     have hcz16_0 : wr.cell? ⟨gb505, 0, none⟩ = some (.slice A0_0 l0_0.length c0_0) := (blk_cell BK505.out 0).trans rfl
     have hcz16_1 : wr.cell? ⟨gb505, 1, none⟩ = some (.slice A0_1 l0_1.length c0_1) := (blk_cell BK505.out 1).trans rfl
     have hfz16_0 := blk_frozen BK505.out 0
     have hfz16_1 := blk_frozen BK505.out 1
     go_wp2_with (first | ((with_reducible refine gate_callee (f := 55) rfl ?_); refine gL_ 18 Tryz.func55 #[.slice A0_0 l0_0.length c0_0] ?_; (with_reducible refine (impl_CustomersOk.calls k1 _ _ l0_0 false _ ?side1 ?side2 A11.out).mono ?_); (case side1 => exact Z9 HR0_0 HB); (case side2 => exact HC0_0.out); rintro e w17 ⟨rfl, hb⟩; refine ⟨_, rfl, ?_⟩; replace BK505 := Aside0.mk (blk_below (g := gb505) (o := .cells #[.slice A0_0 l0_0.length c0_0, .slice A0_1 l0_1.length c0_1] 31 (0, 0)) (Z2 BK505) hb); replace HB := Aside0.mk (below_step (Z1 HB GE505) hb); (try clear hb)))
     go_ret
     exact ⟨Z11, Z1 HB GE505⟩

/-! ### impl_Customer_95: function 95 -/
def impl_Customer_95.f (l0 : List (S84)) : Option ((List (S84))) := (some (([] : List (S84)) : List (S84))).bind fun y509 => (if y509.length + l0.length < 8796093022208 then (some (y509 ++ l0)) else (none))
theorem impl_Customer_95.nilq0 (w : World) (d : Nat) (a : Option Addr) (n c : Nat) : (Op.equalIn (d + 1) 28 (.slice a n c) (.slice none 0 0)).run Tryz.prog w = .ok a.isNone w := by
  cases a <;> simp [Op.equalIn, run_underlying Tryz.underlying28]
theorem impl_Customer_95.nilq (w : World) (a : Option Addr) (n c : Nat) : (binOp .eql 28 (.slice a n c) (.slice none 0 0)).run Tryz.prog w = .ok (.bool a.isNone) w := by
  simp only [binOp]
  simp [Op.equal, Op.maxDepth, impl_Customer_95.nilq0 w 9999 a n c]
attribute [local go_sem] impl_Customer_95.nilq
set_option maxHeartbeats 8000000 in
set_option maxRecDepth 100000 in
theorem impl_Customer_95.calls (A0 : Option Addr) (c0 : Nat) (l0 : List (S84)) (r : List (S84)) (w : World) (hr0 : Kd.C k84 w A0 l0.length l0) (hc0 : l0.length ≤ c0) (h : impl_Customer_95.f l0 = some r) :
 Calls Tryz.prog 95 #[.slice A0 l0.length c0] w fun e w' => ∃ v0_ : Value, e = .returned (v0_) ∧ Kd.R k84 84 w' w.heap.size (fun _ => True) v0_ r ∧ Below w.heap.size w w' := by
 cases A0 with
 | none =>
  have e0_ : l0 = [] := by
   by_cases hz_ : 0 < l0.length
   ·obtain ⟨a_, ha_, -⟩ := hr0.2.2 hz_
    cases ha_
   ·exact List.length_eq_zero_iff.1 Z32
  subst e0_
  have e1_ : r = [] := by simpa [impl_Customer_95.f] using h.symm
  subst e1_
  clear h
  go_enter Tryz.func95, Tryz.ntmps95
  go_wp2
  go_ret
  exact ⟨_, by first | rfl | (simp; done), by first | exact Kd.R_nil _ _ _ _ _ | exact Kd.S_nil _ _ _ _ _ | exact Kd.N_nil _ _ _ _ _ | exact Kd.V_nil _ _ _ _ _ | exact Kd.Q_nil _ _ _ _ _, by repeat (first | (with_reducible first | exact Below.refl _ _ | apply below_alloc | apply pw_below_drewN | apply below_drew1) | exact Below.refl _ _)⟩
 | some A0 =>
  have HR0 := Aside0.mk hr0
  have HC0 := Aside0.mk hc0
  clear hr0 hc0
  have HB := Aside0.mk (Below.refl w.heap.size w)
  have H : ((some (([] : List (S84)) : List (S84))).bind fun y509 => (if y509.length + l0.length < 8796093022208 then (some (y509 ++ l0)) else (none))) = some r := h
  clear h
  obtain ⟨y509, hy509⟩ : ∃ y_ : List (S84), y_ = (([] : List (S84))) := ⟨_, rfl⟩
  replace H : (if y509.length + l0.length < 8796093022208 then (some (y509 ++ l0)) else (none)) = some r := Z5 hy509
  have Ny509 := Aside0.mk hy509
  clear hy509
  by_cases c2 : y509.length + l0.length < 8796093022208
  ·rw [if_pos c2] at H
   have LMc2 := Aside0.mk c2
   clear c2
   obtain ⟨y512, hy512⟩ : ∃ y_ : List (S84), y_ = (y509 ++ l0) := ⟨_, rfl⟩
   replace H : (some y512) = some r := Z5 hy512
   have Ny512 := Aside0.mk hy512
   clear hy512
   obtain rfl := Option.some.inj H
   go_enter Tryz.func95, Tryz.ntmps95
   go_wp2_with (first | ((with_reducible refine gate_dst (N := 5) rfl ?_); refine Kd.R_lit k84 _ 84 ?hg (N := 5) ?hd (xs := ([] : List (S84))) (inner := []) (ok := fun _ => True) (okp := fun _ => True) ?hr ?hp (fun _ hk => hk) trivial (Below.refl _ _) (Nat.le_refl _) Z33 ?_; (case hd => exact Z90); (case hg => exact Z90); (case hr => exact Z29); (case hp => exact Z67); intro v510 w3 ho4 hb hg_ hnew_; clear hg_ hnew_; (first | rw [← Ny509.out] at ho4 | (simp only [Int.reduceToNat] at ho4; rw [← Ny509.out] at ho4)); have HO511 := Aside0.mk (Kd.R_lower ho4 (below_size (Z0 HB))); replace HB := Aside0.mk (below_step (Z0 HB) hb); clear hb ho4) | ((with_reducible refine gate_builtin (b := .append) (xs := #[.tmp 5, .tmp 6]) rfl ?_); at_builtin; refine Kd.R_append_rows k84 (w0 := w) w.heap.size rfl (.tmp 5) (.tmp 6) 28 84 (.agg #[(.int .i64 0), (.int .i64 0)]) 16 rfl Tryz.underlying28 info84 rfl Z28 Z32 v510 y509 l0 _ _ _ (fun _ => True) (fun _ => False) rfl rfl ?aO ?aR (fun _ _ h => h) (fun _ h => h.elim) ?aF ?aB ?aS ?aL ?_; (case aR => exact Z9 HR0 HB); (case aB => exact (Z0 HB)); (case aF => exact Z77); (case aO => exact (Z4 HO511)); (case aS => exact (below_size (Z0 HB))); (case aL => exact Z35 LMc2); intro v513 w5 ho hb hg hat; rw [← Ny512.out] at ho; replace HB := Aside0.mk (hb); have HO514 := Aside0.mk (ho); clear HO511; clear ho hb hg hat))
   go_ret
   exact ⟨_, Z11, Z4 HO514, Z0 HB⟩
  ·rw [if_neg c2] at H
   exact absurd H Z33

/-! ### impl_copyDesk: function 51 -/
def impl_copyDesk.l0 : Nat → List (List (S84)) → Int → Int → List (S84) → List (List (S84)) → Option ((List (S84)) × (List (List (S84))))
  | 0, _, _, _, _, _ => none
  | k + 1, x11, x12, x13, x521000, x521001 => if x13 < x12 then (if 0 ≤ x13 then (if x13 < (x11.length : Int) then ((impl_Customer_95.f (rd_L5 x11 x13)).bind fun t522 => (if x521001.length < 5864062014805 then (impl_copyDesk.l0 k x11 x12 (wrap64 (x13 + 1)) x521000 (x521001 ++ [t522])) else (none))) else (none)) else (none)) else (some (x521000, x521001))
def impl_copyDesk.f (k : Nat) (l0_0 : List (S84)) (l0_1 : List (List (S84))) : Option ((List (S84)) × (List (List (S84)))) := (impl_Customer_95.f l0_0).bind fun t517 => (impl_copyDesk.l0 k l0_1 (l0_1.length : Int) 0 t517 ([] : List (List (S84))))
theorem impl_copyDesk.mono_l : ∀ k, (∀ y0 y1 y2 y3 y4, LeO (impl_copyDesk.l0 k y0 y1 y2 y3 y4) (impl_copyDesk.l0 (k + 1) y0 y1 y2 y3 y4))
 | 0 => fun _ _ _ _ _ r h => by simp [impl_copyDesk.l0] at h
 | k + 1 => by
  have ih0 := impl_copyDesk.mono_l k
  ·intro y0 y1 y2 y3 y4
   unfold impl_copyDesk.l0
   repeat' first
   | (with_reducible exact ih0 _ _ _ _ _)
   | (with_reducible exact LeO.refl _)
   | (with_reducible exact LeO.none _)
   | (with_reducible refine LeO.ite ?_ ?_)
   | (with_reducible refine LeO.bind ?_ (fun _ => ?_))
   | exact ih0 _ _ _ _ _
   | exact LeO.none _
   | refine LeO.ite ?_ ?_
   | refine LeO.bind ?_ (fun _ => ?_)
theorem impl_copyDesk.mono : ∀ a0 a1 k, LeO (impl_copyDesk.f k a0 a1) (impl_copyDesk.f (k + 1) a0 a1) := by
 intro a0 a1 k
 have ih0 := impl_copyDesk.mono_l k
 unfold impl_copyDesk.f
 repeat' first
  | (with_reducible exact ih0 _ _ _ _ _)
  | (with_reducible exact LeO.refl _)
  | (with_reducible exact LeO.none _)
  | (with_reducible refine LeO.ite ?_ ?_)
  | (with_reducible refine LeO.bind ?_ (fun _ => ?_))
  | exact ih0 _ _ _ _ _
  | exact LeO.none _
  | refine LeO.ite ?_ ?_
  | refine LeO.bind ?_ (fun _ => ?_)
def impl_copyDesk.T5 : Bool × List (List Nat × List Nat) := (true, [([], []), ([0], [0]), ([], []), ([2], [2]), ([3], [3]), ([1, 4, 3], [1, 4]), ([0, 1, 2, 3, 4, 5], []), ([6, 5, 5, 0, 1, 2, 3, 4, 5], [5, 6])])
def impl_copyDesk.B5 : List Nat := [0, 1, 0, 4, 12, 31, 63, 127]
theorem impl_copyDesk.tab5 : rtab .any (opsOf Tryz.f51 5) = impl_copyDesk.T5 := by kernel_rfl
theorem impl_copyDesk.bits5 : waitsOk impl_copyDesk.T5.2 impl_copyDesk.B5 = true := by kernel_rfl
set_option maxHeartbeats 8000000 in
set_option maxRecDepth 100000 in
theorem impl_copyDesk.calls (k : Nat) (A0_0 : Option Addr) (c0_0 : Nat) (l0_0 : List (S84)) (A0_1 : Option Addr) (c0_1 : Nat) (l0_1 : List (List (S84))) (r1 : List (S84)) (r2 : List (List (S84))) (w : World) (hr0_0 : Kd.C k84 w A0_0 l0_0.length l0_0) (hc0_0 : l0_0.length ≤ c0_0) (hr0_1 : Kd.C (Kd.slice 84 k84) w A0_1 l0_1.length l0_1) (hc0_1 : l0_1.length ≤ c0_1) (h : impl_copyDesk.f k l0_0 l0_1 = some (r1, r2)) :
 Calls Tryz.prog 51 #[.agg #[.slice A0_0 l0_0.length c0_0, .slice A0_1 l0_1.length c0_1]] w fun e w' => ∃ v0_ v1_ : Value, e = .returned (.agg #[v0_, v1_]) ∧ Kd.R k84 84 w' w.heap.size (fun _ => True) v0_ r1 ∧ Kd.S (Kd.slice 84 k84) 28 w' w.heap.size (fun k_ => some k_ ≠ (v0_ : Value).ownBlock) v1_ r2 ∧ Below w.heap.size w w' := by
 have hu31 := Tryz.underlying31
 have HR0_0 := Aside0.mk hr0_0
 have HC0_0 := Aside0.mk hc0_0
 clear hr0_0 hc0_0
 have HR0_1 := Aside0.mk hr0_1
 have HC0_1 := Aside0.mk hc0_1
 clear hr0_1 hc0_1
 have HB := Aside0.mk (Below.refl w.heap.size w)
 have H : ((impl_Customer_95.f l0_0).bind fun t517 => (impl_copyDesk.l0 k l0_1 (l0_1.length : Int) 0 t517 ([] : List (List (S84))))) = some (r1, r2) := h
 clear h
 replace H := Option.bind_eq_some_iff.mp H
 obtain ⟨t517, A20, H⟩ := H
 replace H : (impl_copyDesk.l0 k l0_1 (l0_1.length : Int) 0 t517 ([] : List (List (S84)))) = some (r1, r2) := H
 have A2 := Aside0.mk A20
 clear A20
 have H' := Aside0.mk H
 clear H
 go_enter Tryz.func51, Tryz.ntmps51
 go_wp2_with (first | ((with_reducible refine gate_dst (N := 1) rfl ?_); refine bE_ 1 #[.slice A0_0 l0_0.length c0_0, .slice A0_1 l0_1.length c0_1] 31 ?_; intro gb515 hg w3 hbox hb; have BK515 := Aside0.mk (hbox); have GW515 := Aside0.mk ((by rw [hg]; exact (below_size (Z0 HB)) : w.heap.size ≤ gb515)); have GE515 := Aside0.mk ((by rw [hg]; exact (below_size (Z0 HB)) : w.heap.size ≤ gb515)); replace HB := Aside0.mk (below_step (Z0 HB) hb); clear hb hbox hg) | ((with_reducible refine gate_dst (N := 2) rfl ?_); refine bE_ 2 #[.slice none 0 0, .slice none 0 0] 31 ?_; intro gb516 hg w4 hbox hb; have BK516 := Aside0.mk (hbox); have GW516 := Aside0.mk ((by rw [hg]; exact (below_size (Z1 HB GE515)) : w.heap.size ≤ gb516)); have GE516 := Aside0.mk ((by rw [hg]; exact (below_size (Z1 HB GE515)) : w.heap.size ≤ gb516)); replace HB := Aside0.mk (below_step (Z1 HB GE515) hb); have NB515_516 := Aside0.mk ((by rw [hg]; exact Nat.ne_of_lt (blk_lt (g := gb515) (o := .cells #[.slice A0_0 l0_0.length c0_0, .slice A0_1 l0_1.length c0_1] 31 (0, 0)) (Z2 BK515)) : gb515 ≠ gb516)); have NB516_515 := Aside0.mk ((by rw [hg]; exact Nat.ne_of_gt (blk_lt (g := gb515) (o := .cells #[.slice A0_0 l0_0.length c0_0, .slice A0_1 l0_1.length c0_1] 31 (0, 0)) (Z2 BK515)) : gb516 ≠ gb515)); replace BK515 := Aside0.mk (blk_below (g := gb515) (o := .cells #[.slice A0_0 l0_0.length c0_0, .slice A0_1 l0_1.length c0_1] 31 (0, 0)) (Z2 BK515) hb); clear hb hbox hg; have hnb5 := NB515_516.out; have hnc5 := NB516_515.out; have hcz6_0 : w4.cell? ⟨gb515, 0, none⟩ = some (.slice A0_0 l0_0.length c0_0) := (blk_cell BK515.out 0).trans rfl; have hcz6_1 : w4.cell? ⟨gb515, 1, none⟩ = some (.slice A0_1 l0_1.length c0_1) := (blk_cell BK515.out 1).trans rfl; have hfz6_0 := blk_frozen BK515.out 0; have hfz6_1 := blk_frozen BK515.out 1) | ((with_reducible refine gate_callee (f := 95) rfl ?_); refine gL_ 8 Tryz.func95 #[.slice A0_0 l0_0.length c0_0] ?_; (with_reducible refine (impl_Customer_95.calls _ _ l0_0 t517 _ ?side1 ?side2 A2.out).mono ?_); (case side1 => exact Z9 HR0_0 HB); (case side2 => exact HC0_0.out); rintro e w7 ⟨v518, rfl, ho0, hb⟩; refine ⟨_, rfl, ?_⟩; have HO519 := Aside0.mk (Kd.R_lower ho0 (below_size (Z17 HB GE515 GE516))); replace BK515 := Aside0.mk (blk_below (g := gb515) (o := .cells #[.slice A0_0 l0_0.length c0_0, .slice A0_1 l0_1.length c0_1] 31 (0, 0)) (Z2 BK515) hb); replace BK516 := Aside0.mk (blk_below (g := gb516) (o := .cells #[.slice none 0 0, .slice none 0 0] 31 (0, 0)) (Z2 BK516) hb); replace HB := Aside0.mk (below_step (Z17 HB GE515 GE516) hb); (try clear hb); (try clear hb2); (try clear hk); (try clear hi); (try clear ho0); obtain ⟨Ao8, co8, eo8⟩ := Kd.R_slice HO519.out; subst eo8) | ((with_reducible refine gate_dst (N := 3) rfl ?_); refine bE_ 3 #[.slice none 0 0, .slice none 0 0] 31 ?_; intro gb520 hg w9 hbox hb; replace HO519 := Aside0.mk (Kd.R_below (Z4 HO519) hb); have BK520 := Aside0.mk (hbox); have GW520 := Aside0.mk ((by rw [hg]; exact (below_size (Z17 HB GE515 GE516)) : w.heap.size ≤ gb520)); have GE520 := Aside0.mk ((by rw [hg]; exact (below_size (Z17 HB GE515 GE516)) : w.heap.size ≤ gb520)); replace HB := Aside0.mk (below_step (Z17 HB GE515 GE516) hb); have NB515_520 := Aside0.mk ((by rw [hg]; exact Nat.ne_of_lt (blk_lt (g := gb515) (o := .cells #[.slice A0_0 l0_0.length c0_0, .slice A0_1 l0_1.length c0_1] 31 (0, 0)) (Z2 BK515)) : gb515 ≠ gb520)); have NB520_515 := Aside0.mk ((by rw [hg]; exact Nat.ne_of_gt (blk_lt (g := gb515) (o := .cells #[.slice A0_0 l0_0.length c0_0, .slice A0_1 l0_1.length c0_1] 31 (0, 0)) (Z2 BK515)) : gb520 ≠ gb515)); replace BK515 := Aside0.mk (blk_below (g := gb515) (o := .cells #[.slice A0_0 l0_0.length c0_0, .slice A0_1 l0_1.length c0_1] 31 (0, 0)) (Z2 BK515) hb); have NB516_520 := Aside0.mk ((by rw [hg]; exact Nat.ne_of_lt (blk_lt (g := gb516) (o := .cells #[.slice none 0 0, .slice none 0 0] 31 (0, 0)) (Z2 BK516)) : gb516 ≠ gb520)); have NB520_516 := Aside0.mk ((by rw [hg]; exact Nat.ne_of_gt (blk_lt (g := gb516) (o := .cells #[.slice none 0 0, .slice none 0 0] 31 (0, 0)) (Z2 BK516)) : gb520 ≠ gb516)); replace BK516 := Aside0.mk (blk_below (g := gb516) (o := .cells #[.slice none 0 0, .slice none 0 0] 31 (0, 0)) (Z2 BK516) hb); clear hb hbox hg; have hnb10 := NB520_515.out; have hnc10 := NB515_520.out; have hnb11 := NB520_516.out; have hnc11 := NB516_520.out; have hcz12_0 : w9.cell? ⟨gb520, 0, none⟩ = some (.slice none 0 0) := (blk_cell BK520.out 0).trans rfl; have hcz12_1 : w9.cell? ⟨gb520, 1, none⟩ = some (.slice none 0 0) := (blk_cell BK520.out 1).trans rfl; have hfz12_0 := blk_frozen BK520.out 0; have hfz12_1 := blk_frozen BK520.out 1; have hcz13_0 : w9.cell? ⟨gb515, 0, none⟩ = some (.slice A0_0 l0_0.length c0_0) := (blk_cell BK515.out 0).trans rfl; have hcz13_1 : w9.cell? ⟨gb515, 1, none⟩ = some (.slice A0_1 l0_1.length c0_1) := (blk_cell BK515.out 1).trans rfl; have hfz13_0 := blk_frozen BK515.out 0; have hfz13_1 := blk_frozen BK515.out 1))
 go_loopg [13] k (fun kq v13 w' => ∃ (x13_1 : Int) (x521001_1 : List (List (S84))) (u521001 : Value), v13 = .int .i64 x13_1 ∧ Aside0 (impl_copyDesk.l0 kq l0_1 (l0_1.length : Int) x13_1 t517 x521001_1 = some (r1, r2)) ∧ Aside0 (kq ≤ k) ∧ Aside0 (Kd.R k84 84 w' w.heap.size (fun _ => True) (.slice Ao8 t517.length co8) t517) ∧ Aside0 (Kd.S (Kd.slice 84 k84) 28 w' w.heap.size (fun k_ => some k_ ≠ ((.slice Ao8 t517.length co8) : Value).ownBlock) u521001 x521001_1) ∧ Aside0 (w'.heap[gb515]? = some (.cells #[(.slice A0_0 l0_0.length c0_0), (.slice A0_1 l0_1.length c0_1)] 31 (0, 0))) ∧ Aside0 (w'.heap[gb516]? = some (.cells #[(.slice none 0 0), (.slice none 0 0)] 31 (0, 0))) ∧ Aside0 (w'.heap[gb520]? = some (.cells #[(.slice Ao8 t517.length co8), u521001] 31 (0, 0))) ∧ Aside0 (Below w.heap.size w w'))
 case atStart => exact ⟨(0), (([] : List (List (S84)))), (.slice none 0 0), Z14, H', ⟨Nat.le_refl _⟩, ⟨by (with_reducible repeat (first | apply Kd.R_alloc | apply Kd.R_drewN | apply Kd.R_drew)); exact Kd.R_mono (Kd.R_far (p := ⟨gb520, 1, none⟩) (Kd.R_far (p := ⟨gb520, 0, none⟩) (Kd.R_types HO519.out BK520.out Z28) (fun _ hk => hk.2) (.slice Ao8 t517.length co8)) (fun _ hk => hk.2) (.slice none 0 0)) (fun _ hk => trivial)⟩, ⟨Z61⟩, ⟨Z22 NB515_520 BK515⟩, ⟨Z22 NB516_520 BK516⟩, ⟨Z60 BK520⟩, ⟨Z19 HB GE515 GE516 GE520⟩⟩
 case round =>
  clear H'
  try clear c1
  try clear p2
  try clear c5
  try clear c9
  try clear c10
  try clear c11
  try clear hcz12_0
  try clear hcz12_1
  try clear hcz13_0
  try clear hcz13_1
  try clear hcz6_0
  try clear hcz6_1
  try clear hfz12_0
  try clear hfz12_1
  try clear hfz13_0
  try clear hfz13_1
  try clear hfz6_0
  try clear hfz6_1
  obtain ⟨x13_1, x521001_1, u521001, rfl, HA, HK1, HO_521000, HO_521001, BK515, BK516, BK520, HB⟩ := hrel
  cases gk with
  | zero => exact absurd HA.out (by simp [impl_copyDesk.l0])
  | succ k1 =>
   have H := HA.out
   clear HA
   simp only [impl_copyDesk.l0] at H
   by_cases c14 : x13_1 < (l0_1.length : Int)
   ·rw [if_pos c14] at H
    have c14b0 : decide (x13_1 < (l0_1.length : Int)) = true := decide_eq_true c14
    clear c14
    by_cases c15 : 0 ≤ x13_1
    ·rw [if_pos c15] at H
     have c15b0 : decide (0 ≤ x13_1) = true := decide_eq_true c15
     clear c15
     by_cases c16 : x13_1 < (l0_1.length : Int)
     ·rw [if_pos c16] at H
      have c16b0 : decide (x13_1 < (l0_1.length : Int)) = true := decide_eq_true c16
      clear c16
      replace H := Option.bind_eq_some_iff.mp H
      obtain ⟨t522, A170, H⟩ := H
      replace H : (if x521001_1.length < 5864062014805 then (impl_copyDesk.l0 k1 l0_1 (l0_1.length : Int) (wrap64 (x13_1 + 1)) t517 (x521001_1 ++ [t522])) else (none)) = some (r1, r2) := H
      have A17 := Aside0.mk A170
      clear A170
      by_cases c18 : x521001_1.length < 5864062014805
      ·rw [if_pos c18] at H
       have LMc18 := Aside0.mk c18
       clear c18
       obtain ⟨y525, hy525⟩ : ∃ y_ : List (List (S84)), y_ = (x521001_1 ++ [t522]) := ⟨_, rfl⟩
       replace H : (impl_copyDesk.l0 k1 l0_1 (l0_1.length : Int) (wrap64 (x13_1 + 1)) t517 y525) = some (r1, r2) := Z5 hy525
       have Ny525 := Aside0.mk hy525
       clear hy525
       have H' := Aside0.mk H
       clear H
       have p521 : 0 ≤ (x13_1 : Int) := of_decide_eq_true Z10
       have q521 : x13_1 < (l0_1.length : Int) := of_decide_eq_true Z10
       obtain ⟨ad521, A521_0, c521_0, e521, hx521_0, hl521_0, hi521_0⟩ := at_L5 HR0_1.out x13_1 p521 q521
       cases e521
       replace hx521_0 := (HB.out.cell (World.block_lt_of_cell? w _ hx521_0)).trans hx521_0
       have HR521_0 := Aside0.mk hi521_0
       have HC521_0 := Aside0.mk hl521_0
       clear hi521_0 hl521_0
       replace p521 := eq_true p521
       replace q521 := eq_true q521
       try go_wp2
       replace HO_521000 := Aside0.mk (Kd.R_drew HO_521000.out)
       replace HO_521001 := Aside0.mk (Kd.S_drew HO_521001.out)
       replace BK515 := Aside0.mk (blk_drew BK515.out)
       replace BK516 := Aside0.mk (blk_drew BK516.out)
       replace BK520 := Aside0.mk (blk_drew BK520.out)
       replace HB := Aside0.mk (below_drew1 HB.out)
       refine start_ (n := 8) (S := fun w' => w'.cell? ⟨gb520, 0, none⟩ = some (.slice Ao8 t517.length co8) ∧ w'.cell? ⟨gb520, 1, none⟩ = some (u521001)) (ds := [7]) (bB 8 0) Z15 rfl Z15 ⟨(blk_cell BK520.out 0).trans rfl, (blk_cell BK520.out 1).trans rfl⟩ (fun hHeld => ?_); refine with_tabW impl_copyDesk.tab5 impl_copyDesk.bits5 (fun HT_ HW_ => ?_)
       generalize wr.drew = w19 at HO_521000 HO_521001 BK515 BK516 BK520 HB hHeld ⊢
       refine pu_ 0 (some 17) (bB 8 1) ?_
       refine pu_ 2 (some 19) (bB 8 5) ?_
       refine take_ (i := 1) (N := some 18) (v := ?_) (a' := ?_) (bB 8 7) rfl rfl (take_ofW HT_.out HW_.out Z15) (fun _ _ _ h => h) (Or.inl ⟨Z90, ?_⟩) hHeld ?_ ?_
       rotate_left
       ·rintro w' ⟨s0, s1⟩
        go_simp
        with_reducible rfl
       rotate_left
       ·simp only [Act.put, List.setIfInBounds_toArray, List.set_cons_zero, List.set_cons_succ, i64_w, i32_w]
        rfl
       refine one_ (i := 3) (N := some 20) (bB 8 15) rfl rfl (one_of HT_.out Z15) Z28 (fun K hK => ?_)
       refine goes_ Tryz.func95 Z15 rfl #[.slice A521_0 (rd_L5 l0_1 x13_1).length c521_0] Z90 rfl rfl Z23 ?_
       with_reducible refine (impl_Customer_95.calls _ _ (rd_L5 l0_1 x13_1) t522 _ ?side1 ?side2 A17.out).mono ?_
       (case side1 => exact Z9 HR521_0 HB)
       (case side2 => exact HC521_0.out)
       rintro e w20 ⟨v523, rfl, ho0, hb⟩
       refine ⟨_, rfl, ?_⟩
       replace HO_521001 := Aside0.mk (Kd.S_elder' (Z42 HO_521001) (Kd.R_base ho0) hb)
       have HO524 := Aside0.mk (Kd.R_lower (Kd.R_new' ho0 (Kd.R_lt (Z4 HO_521000))) (below_size (Z19 HB GE515 GE516 GE520)))
       replace HO_521000 := Aside0.mk (Kd.R_elder' (Z4 HO_521000) (Kd.R_base ho0) hb)
       replace BK515 := Aside0.mk (blk_below (g := gb515) (o := .cells #[.slice A0_0 l0_0.length c0_0, .slice (some ad521) l0_1.length c0_1] 31 (0, 0)) (Z2 BK515) hb)
       replace BK516 := Aside0.mk (blk_below (g := gb516) (o := .cells #[.slice none 0 0, .slice none 0 0] 31 (0, 0)) (Z2 BK516) hb)
       replace BK520 := Aside0.mk (blk_below (g := gb520) (o := .cells #[.slice Ao8 t517.length co8, u521001] 31 (0, 0)) (Z2 BK520) hb)
       replace HB := Aside0.mk (below_step (Z19 HB GE515 GE516 GE520) hb)
       (try clear hb)
       (try clear hb2)
       (try clear hk)
       (try clear hi)
       (try clear ho0)
       obtain ⟨Ao22, co22, eo22⟩ := Kd.R_slice HO524.out
       (first | subst eo22 | (injection eo22 with f1_ f2_ f3_; have f4_ := f1_.symm; have f5_ := f3_.symm; clear f1_ f2_ f3_; subst f4_; subst f5_))
       refine hK.out _ _ ⟨(blk_cell BK520.out 0).trans rfl, (blk_cell BK520.out 1).trans rfl⟩ (fun hHeld => ?_)
       clear hK K
       refine nr_ ?_
       refine one_ (i := 4) (N := some 21) (bB 8 31) rfl rfl (one_of HT_.out Z15) Z28 (fun K hK => ?_)
       refine value_ (w1 := ?_) (v := ?_) Z90 rfl ?_ ?_
       rotate_left 2
       ·go_simp
        constructor
        ·rfl
        ·rfl
       refine hK.out _ _ ⟨(blk_cell (blk_alloc BK520.out _) 0).trans rfl, (blk_cell (blk_alloc BK520.out _) 1).trans rfl⟩ (fun hHeld => ?_)
       clear hK K
       refine nr_ ?_
       refine one_ (i := 5) (N := some 22) (bB 8 63) rfl rfl (one_of HT_.out Z15) Z28 (fun K hK => ?_)
       refine Kd.S_append_step (Kd.slice 84 k84) (w0 := w) w.heap.size Z90 (.tmp 18) (.tmp 21) 29 28 (.slice none 0 0) 24 rfl Tryz.underlying29 info28 rfl Z28 Z32 u521001 x521001_1 t522 [.slice Ao22 t522.length co22] (fun k_ => some k_ ≠ (.slice Ao8 t517.length co8 : Value).ownBlock) (fun k_ => some k_ = (.slice Ao22 t522.length co22 : Value).ownBlock) rfl rfl ?aP (fun k_ hk_ => ((Kd.R_mono (ok' := fun k_ => ((fun k_ => some k_ ≠ (.slice Ao8 t517.length co8 : Value).ownBlock)) k_ ∧ some k_ ≠ (u521001 : Value).ownBlock) (Kd.R_apart' (HO524.out) (Kd.S_typed HO_521001.out) Z28) (fun k_ hk => ⟨hk.1.2, hk.2⟩))).1 k_ hk_.symm) ?aF ?aO ?aB ?aS ?aL ?_
       (case aP => exact Kd.M_row (Kd.R_mono (Kd.R_tight rfl (Kd.R_mono (ok' := fun k_ => ((fun k_ => some k_ ≠ (.slice Ao8 t517.length co8 : Value).ownBlock)) k_ ∧ some k_ ≠ (u521001 : Value).ownBlock) (Kd.R_apart' (HO524.out) (Kd.S_typed HO_521001.out) Z28) (fun k_ hk => ⟨hk.1.2, hk.2⟩))) (fun _ h_ => h_)))
       (case aB => exact (Z19 HB GE515 GE516 GE520))
       (case aF => exact (fun k_ hk => Kd.fresh' (Kd.R_lt (Z4 HO_521000)) k_ hk))
       (case aO => exact (Z85 HO_521001))
       (case aS => exact (below_size (Z19 HB GE515 GE516 GE520)))
       (case aL => exact Z35 LMc18)
       intro v526 w21 ho hb hg hat
       rw [← Ny525.out] at ho
       replace HO_521000 := Aside0.mk (Kd.R_over' (Z4 HO_521000) (Kd.S_typed (Z42 HO_521001)) Z28 hg)
       replace BK515 := Aside0.mk (blk_grown (g := gb515) (o := .cells #[.slice A0_0 l0_0.length c0_0, .slice (some ad521) l0_1.length c0_1] 31 (0, 0)) (Z2 BK515) hg (Kd.S_ne HO_521001.out BK515.out Z28))
       replace BK516 := Aside0.mk (blk_grown (g := gb516) (o := .cells #[.slice none 0 0, .slice none 0 0] 31 (0, 0)) (Z2 BK516) hg (Kd.S_ne HO_521001.out BK516.out Z28))
       replace BK520 := Aside0.mk (blk_grown (g := gb520) (o := .cells #[.slice Ao8 t517.length co8, u521001] 31 (0, 0)) (Z2 BK520) hg (Kd.S_ne HO_521001.out BK520.out Z28))
       replace HB := Aside0.mk (hb)
       have HO527 := Aside0.mk (ho)
       clear HO_521001
       clear HO524
       clear ho hb hg hat
       obtain ⟨Ao23, co23, eo23⟩ := Kd.S_slice HO527.out
       (first | subst eo23 | (injection eo23 with f1_ f2_ f3_; have f4_ := f1_.symm; have f5_ := f3_.symm; clear f1_ f2_ f3_; subst f4_; subst f5_))
       refine hK.out _ _ ⟨(blk_cell BK520.out 0).trans rfl, (blk_cell BK520.out 1).trans rfl⟩ (fun hHeld => ?_)
       clear hK K
       refine nr_ ?_
       refine pu_ 6 (some 23) (bB 8 127) ?_
       refine last_ (i := 7) (N := none) (bB 8 255) rfl rfl (one_of HT_.out Z15) Z28 (fun K hK => ?_)
       have hs24 : w21.cell? ⟨gb520, 1, none⟩ = some (u521001) := (blk_cell BK520.out 1).trans rfl
       have hfs24 := blk_frozen BK520.out 1
       have hns24_0 := NB515_520.out
       have hns24_1 := NB516_520.out
       have hms24_0 := NB520_515.out
       have hms24_1 := NB520_516.out
       refine skip_ (w1 := ?_) Z90 rfl ?_ ?_
       rotate_left
       ·go_simp
        rfl
       refine hK.out _ _ ?_
       clear hK K
       refine done_ (done_of HT_.out Z15) ?_
       try go_wp2
       go_roundg k1
       case measure => have := HK1.out; omega
       case rel => exact ⟨(wrap64 (x13_1 + 1)), (y525), (.slice Ao23 y525.length co23), Z14, H', ⟨Z35 HK1⟩, ⟨by (with_reducible repeat (first | apply Kd.R_alloc | apply Kd.R_drewN | apply Kd.R_drew)); exact Kd.R_mono (Kd.R_far (p := ⟨gb520, 1, none⟩) (Kd.R_types HO_521000.out BK520.out Z28) (fun _ hk => hk.2) (.slice Ao23 y525.length co23)) (fun _ hk => trivial)⟩, ⟨by (with_reducible repeat (first | apply Kd.S_alloc | apply Kd.S_drewN | apply Kd.S_drew)); exact Kd.S_mono (Kd.S_far (p := ⟨gb520, 1, none⟩) (Kd.S_types HO527.out BK520.out Z28) (fun _ hk => hk.2) (.slice Ao23 y525.length co23)) (fun _ hk => hk.1)⟩, ⟨Z30 NB515_520 BK515⟩, ⟨Z30 NB516_520 BK516⟩, ⟨by refine blk_put (cs := #[.slice Ao8 t517.length co8, u521001]) ?_ 1 _ rfl; (with_reducible repeat (first | refine blk_drewN ?_ _ | refine blk_drew ?_ | refine blk_alloc ?_ _)); exact BK520.out⟩, ⟨Z19 HB GE515 GE516 GE520⟩⟩
      ·rw [if_neg c18] at H
       exact absurd H Z33
     ·rw [if_neg c16] at H
      exact absurd H Z33
    ·rw [if_neg c15] at H
     exact absurd H Z33
   ·rw [if_neg c14] at H
    have c14b0 : decide (x13_1 < (l0_1.length : Int)) = false := decide_eq_false c14
    clear c14
    simp only [Option.some.injEq, Prod.mk.injEq] at H
    obtain ⟨rfl, rfl⟩ := H
    have hnb25 := NB520_515.out
    have hnc25 := NB515_520.out
    have hnb26 := NB520_516.out
    have hnc26 := NB516_520.out
    have hcz27_0 : wr.cell? ⟨gb520, 0, none⟩ = some (.slice Ao8 t517.length co8) := (blk_cell BK520.out 0).trans rfl
    have hcz27_1 : wr.cell? ⟨gb520, 1, none⟩ = some (u521001) := (blk_cell BK520.out 1).trans rfl
    have hfz27_0 := blk_frozen BK520.out 0
    have hfz27_1 := blk_frozen BK520.out 1
    have hnb28 := NB516_515.out
    have hnc28 := NB515_516.out
    have hcz29_0 : wr.cell? ⟨gb516, 0, none⟩ = some (.slice none 0 0) := (blk_cell BK516.out 0).trans rfl
    have hcz29_1 : wr.cell? ⟨gb516, 1, none⟩ = some (.slice none 0 0) := (blk_cell BK516.out 1).trans rfl
    have hfz29_0 := blk_frozen BK516.out 0
    have hfz29_1 := blk_frozen BK516.out 1
    obtain ⟨Ao30, co30, eo30⟩ := Kd.S_slice HO_521001.out
    subst eo30
    go_wp2
    refine bodyPost_ret (results_cell_row rfl _ _ gb516 31 #[.slice Ao8 t517.length co8, .slice Ao30 x521001_1.length co30] (0, 0) _ rfl (Z60 BK516) Tryz.underlying31 rfl Z15) rfl ?_
    exact ⟨_, _, Z11, by (with_reducible repeat (first | apply Kd.R_alloc | apply Kd.R_drewN | apply Kd.R_drew)); exact Kd.R_mono (Kd.R_far (p := ⟨gb516, 1, none⟩) (Kd.R_far (p := ⟨gb516, 0, none⟩) (Kd.R_types HO_521000.out BK516.out Z28) (fun _ hk => hk.2) (.slice Ao8 t517.length co8)) (fun _ hk => hk.2) (.slice Ao30 x521001_1.length co30)) (fun _ hk => trivial), by (with_reducible repeat (first | apply Kd.S_alloc | apply Kd.S_drewN | apply Kd.S_drew)); exact Kd.S_mono (Kd.S_far (p := ⟨gb516, 1, none⟩) (Kd.S_far (p := ⟨gb516, 0, none⟩) (Kd.S_types HO_521001.out BK516.out Z28) (fun _ hk => hk.2) (.slice Ao8 t517.length co8)) (fun _ hk => hk.2) (.slice Ao30 x521001_1.length co30)) (fun _ hk => hk.1), Z19 HB GE515 GE516 GE520⟩

/-! ### impl_NeedingMore: function 96 -/
def impl_NeedingMore.f (k : Nat) (l0 : List (S84)) (a1 : Int) : Option ((List (S84)) × Bool) := (impl_CustomersOk.f k l0).bind fun t528 => (if t528 = true then (if a1 < 0 then (some (([] : List (S84)), false)) else (if a1 ≥ (l0.length : Int) then (some (([] : List (S84)), false)) else (if 0 ≤ a1 then (if a1 < (l0.length : Int) then (if ((rd_T84 l0 a1).f1) = 9 then (some (([] : List (S84)), false)) else ((impl_Customer_95.f l0).bind fun t530 => (if a1 < (t530.length : Int) then (some ((t530.set (a1 : Int).toNat (⟨(rd_T84 t530 a1).f0, wrap64 (((rd_T84 t530 a1).f1) + 1)⟩ : S84)), true)) else (none)))) else (none)) else (none)))) else (some (([] : List (S84)), false)))
theorem impl_NeedingMore.mono : ∀ a0 a1 k, LeO (impl_NeedingMore.f k a0 a1) (impl_NeedingMore.f (k + 1) a0 a1) := by
 intro a0 a1 k
 unfold impl_NeedingMore.f
 repeat' first
  | (with_reducible exact impl_CustomersOk.mono _ _)
  | (with_reducible exact LeO.refl _)
  | (with_reducible exact LeO.none _)
  | (with_reducible refine LeO.ite ?_ ?_)
  | (with_reducible refine LeO.bind ?_ (fun _ => ?_))
  | exact impl_CustomersOk.mono _ _
  | exact LeO.none _
  | refine LeO.ite ?_ ?_
  | refine LeO.bind ?_ (fun _ => ?_)
set_option maxHeartbeats 8000000 in
set_option maxRecDepth 100000 in
theorem impl_NeedingMore.calls (k : Nat) (A0 : Option Addr) (c0 : Nat) (l0 : List (S84)) (a1 : Int) (r1 : List (S84)) (r2 : Bool) (w : World) (hr0 : Kd.C k84 w A0 l0.length l0) (hc0 : l0.length ≤ c0) (h : impl_NeedingMore.f k l0 a1 = some (r1, r2)) :
 Calls Tryz.prog 96 #[.slice A0 l0.length c0, .int .i64 a1] w fun e w' => ∃ v0_ : Value, e = .returned (.tuple #[v0_, .bool r2]) ∧ Kd.R k84 84 w' w.heap.size (fun _ => True) v0_ r1 ∧ Below w.heap.size w w' := by
 have HR0 := Aside0.mk hr0
 have HC0 := Aside0.mk hc0
 clear hr0 hc0
 have HB := Aside0.mk (Below.refl w.heap.size w)
 have H : ((impl_CustomersOk.f k l0).bind fun t528 => (if t528 = true then (if a1 < 0 then (some (([] : List (S84)), false)) else (if a1 ≥ (l0.length : Int) then (some (([] : List (S84)), false)) else (if 0 ≤ a1 then (if a1 < (l0.length : Int) then (if ((rd_T84 l0 a1).f1) = 9 then (some (([] : List (S84)), false)) else ((impl_Customer_95.f l0).bind fun t530 => (if a1 < (t530.length : Int) then (some ((t530.set (a1 : Int).toNat (⟨(rd_T84 t530 a1).f0, wrap64 (((rd_T84 t530 a1).f1) + 1)⟩ : S84)), true)) else (none)))) else (none)) else (none)))) else (some (([] : List (S84)), false)))) = some (r1, r2) := h
 clear h
 replace H := Option.bind_eq_some_iff.mp H
 obtain ⟨t528, A30, H⟩ := H
 replace H : (if t528 = true then (if a1 < 0 then (some (([] : List (S84)), false)) else (if a1 ≥ (l0.length : Int) then (some (([] : List (S84)), false)) else (if 0 ≤ a1 then (if a1 < (l0.length : Int) then (if ((rd_T84 l0 a1).f1) = 9 then (some (([] : List (S84)), false)) else ((impl_Customer_95.f l0).bind fun t530 => (if a1 < (t530.length : Int) then (some ((t530.set (a1 : Int).toNat (⟨(rd_T84 t530 a1).f0, wrap64 (((rd_T84 t530 a1).f1) + 1)⟩ : S84)), true)) else (none)))) else (none)) else (none)))) else (some (([] : List (S84)), false))) = some (r1, r2) := H
 have A3 := Aside0.mk A30
 clear A30
 by_cases c4 : t528 = true
 ·subst c4
  have H1 : (if a1 < 0 then (some (([] : List (S84)), false)) else (if a1 ≥ (l0.length : Int) then (some (([] : List (S84)), false)) else (if 0 ≤ a1 then (if a1 < (l0.length : Int) then (if ((rd_T84 l0 a1).f1) = 9 then (some (([] : List (S84)), false)) else ((impl_Customer_95.f l0).bind fun t530 => (if a1 < (t530.length : Int) then (some ((t530.set (a1 : Int).toNat (⟨(rd_T84 t530 a1).f0, wrap64 (((rd_T84 t530 a1).f1) + 1)⟩ : S84)), true)) else (none)))) else (none)) else (none)))) = some (r1, r2) := Z37
  clear H
  have H := H1
  clear H1
  by_cases c5 : a1 < 0
  ·rw [if_pos c5] at H
   have c5b0 : decide (a1 < 0) = true := decide_eq_true c5
   clear c5
   simp only [Option.some.injEq, Prod.mk.injEq] at H
   obtain ⟨rfl, rfl⟩ := H
   go_enter Tryz.func96, Tryz.ntmps96
   go_wp2_with (first | ((with_reducible refine gate_callee (f := 55) rfl ?_); refine gL_ 8 Tryz.func55 #[.slice A0 l0.length c0] ?_; (with_reducible refine (impl_CustomersOk.calls k _ _ l0 true _ ?side1 ?side2 A3.out).mono ?_); (case side1 => exact Z56 HR0); (case side2 => exact HC0.out); rintro e w6 ⟨rfl, hb⟩; refine ⟨_, rfl, ?_⟩; replace HB := Aside0.mk (below_step (Z0 HB) hb); (try clear hb)))
   go_ret2
   exact ⟨_, Z11, Z43, Z0 HB⟩
  ·rw [if_neg c5] at H
   have c5b0 : decide (a1 < 0) = false := decide_eq_false c5
   clear c5
   by_cases c7 : a1 ≥ (l0.length : Int)
   ·rw [if_pos c7] at H
    have c7b0 : decide ((l0.length : Int) ≤ a1) = true := decide_eq_true c7
    clear c7
    simp only [Option.some.injEq, Prod.mk.injEq] at H
    obtain ⟨rfl, rfl⟩ := H
    go_enter Tryz.func96, Tryz.ntmps96
    go_wp2_with (first | ((with_reducible refine gate_callee (f := 55) rfl ?_); refine gL_ 8 Tryz.func55 #[.slice A0 l0.length c0] ?_; (with_reducible refine (impl_CustomersOk.calls k _ _ l0 true _ ?side1 ?side2 A3.out).mono ?_); (case side1 => exact Z56 HR0); (case side2 => exact HC0.out); rintro e w8 ⟨rfl, hb⟩; refine ⟨_, rfl, ?_⟩; replace HB := Aside0.mk (below_step (Z0 HB) hb); (try clear hb)))
    go_ret2
    exact ⟨_, Z11, Z43, Z0 HB⟩
   ·rw [if_neg c7] at H
    have c7b0 : decide ((l0.length : Int) ≤ a1) = false := decide_eq_false c7
    clear c7
    by_cases c9 : 0 ≤ a1
    ·rw [if_pos c9] at H
     have c9b0 : decide (0 ≤ a1) = true := decide_eq_true c9
     clear c9
     by_cases c10 : a1 < (l0.length : Int)
     ·rw [if_pos c10] at H
      have c10b0 : decide (a1 < (l0.length : Int)) = true := decide_eq_true c10
      clear c10
      by_cases c11 : ((rd_T84 l0 a1).f1) = 9
      ·rw [if_pos c11] at H
       have c11b0 : (((rd_T84 l0 a1).f1) == 9) = true := beq_iff_eq.mpr c11
       have c11b1 : (((rd_T84 l0 a1).f1) != 9) = false := bne_eq_false_iff_eq.mpr c11
       clear c11
       simp only [Option.some.injEq, Prod.mk.injEq] at H
       obtain ⟨rfl, rfl⟩ := H
       go_enter Tryz.func96, Tryz.ntmps96
       go_wp2_with (first | ((with_reducible refine gate_callee (f := 55) rfl ?_); refine gL_ 8 Tryz.func55 #[.slice A0 l0.length c0] ?_; (with_reducible refine (impl_CustomersOk.calls k _ _ l0 true _ ?side1 ?side2 A3.out).mono ?_); (case side1 => exact Z56 HR0); (case side2 => exact HC0.out); rintro e w12 ⟨rfl, hb⟩; refine ⟨_, rfl, ?_⟩; replace HB := Aside0.mk (below_step (Z0 HB) hb); (try clear hb); (try clear hb2); (try clear hk); (try clear hi); have p529 : 0 ≤ (a1 : Int) := of_decide_eq_true Z10; have q529 : a1 < (l0.length : Int) := of_decide_eq_true Z10; obtain ⟨ad529, e529, hx529_0, hx529_1⟩ := at_T84 HR0.out a1 p529 q529; cases e529; replace hx529_0 := (HB.out.cell (World.block_lt_of_cell? w _ hx529_0)).trans hx529_0; replace hx529_1 := (HB.out.cell (World.block_lt_of_cell? w _ hx529_1)).trans hx529_1; replace p529 := eq_true p529; replace q529 := eq_true q529))
       go_ret2
       exact ⟨_, Z11, Z43, Z0 HB⟩
      ·rw [if_neg c11] at H
       have c11b0 : (((rd_T84 l0 a1).f1) == 9) = false := beq_eq_false_iff_ne.mpr c11
       have c11b1 : (((rd_T84 l0 a1).f1) != 9) = true := bne_iff_ne.mpr c11
       replace H := Option.bind_eq_some_iff.mp H
       obtain ⟨t530, A130, H⟩ := H
       replace H : (if a1 < (t530.length : Int) then (some ((t530.set (a1 : Int).toNat (⟨(rd_T84 t530 a1).f0, wrap64 (((rd_T84 t530 a1).f1) + 1)⟩ : S84)), true)) else (none)) = some (r1, r2) := H
       have A13 := Aside0.mk A130
       clear A130
       by_cases c14 : a1 < (t530.length : Int)
       ·rw [if_pos c14] at H
        have c14b0 : decide (a1 < (t530.length : Int)) = true := decide_eq_true c14
        clear c14
        obtain ⟨y534, hy534⟩ : ∃ y_ : List (S84), y_ = (t530.set (a1 : Int).toNat (⟨(rd_T84 t530 a1).f0, wrap64 (((rd_T84 t530 a1).f1) + 1)⟩ : S84)) := ⟨_, rfl⟩
        replace H : (some (y534, true)) = some (r1, r2) := Z5 hy534
        have Ny534 := Aside0.mk hy534
        clear hy534
        simp only [Option.some.injEq, Prod.mk.injEq] at H
        obtain ⟨rfl, rfl⟩ := H
        go_enter Tryz.func96, Tryz.ntmps96
        go_wp2_with (first | ((with_reducible refine gate_callee (f := 55) rfl ?_); refine gL_ 8 Tryz.func55 #[.slice A0 l0.length c0] ?_; (with_reducible refine (impl_CustomersOk.calls k _ _ l0 true _ ?side1 ?side2 A3.out).mono ?_); (case side1 => exact Z56 HR0); (case side2 => exact HC0.out); rintro e w16 ⟨rfl, hb⟩; refine ⟨_, rfl, ?_⟩; replace HB := Aside0.mk (below_step (Z0 HB) hb); (try clear hb); (try clear hb2); (try clear hk); (try clear hi); have p529 : 0 ≤ (a1 : Int) := of_decide_eq_true Z10; have q529 : a1 < (l0.length : Int) := of_decide_eq_true Z10; obtain ⟨ad529, e529, hx529_0, hx529_1⟩ := at_T84 HR0.out a1 p529 q529; cases e529; replace hx529_0 := (HB.out.cell (World.block_lt_of_cell? w _ hx529_0)).trans hx529_0; replace hx529_1 := (HB.out.cell (World.block_lt_of_cell? w _ hx529_1)).trans hx529_1; replace p529 := eq_true p529; replace q529 := eq_true q529) | ((with_reducible refine gate_callee (f := 95) rfl ?_); refine gL_ 29 Tryz.func95 #[.slice (some ad529) l0.length c0] ?_; (with_reducible refine (impl_Customer_95.calls _ _ l0 t530 _ ?side1 ?side2 A13.out).mono ?_); (case side1 => exact Z9 HR0 HB); (case side2 => exact HC0.out); rintro e w17 ⟨v531, rfl, ho0, hb⟩; refine ⟨_, rfl, ?_⟩; have HO532 := Aside0.mk (Kd.R_lower ho0 (below_size (Z0 HB))); replace HB := Aside0.mk (below_step (Z0 HB) hb); (try clear hb); (try clear hb2); (try clear hk); (try clear hi); (try clear ho0); obtain ⟨Ao18, co18, eo18⟩ := Kd.R_slice HO532.out; subst eo18; have p533 : 0 ≤ (a1 : Int) := of_decide_eq_true Z10; have q533 : a1 < (t530.length : Int) := of_decide_eq_true Z10; obtain ⟨ad533, e533, hx533_0, hx533_1⟩ := at_T84 (Kd.R_reads' HO532.out).2.2 a1 p533 q533; cases e533; replace p533 := eq_true p533; replace q533 := eq_true q533; have p15 : 0 ≤ (a1 : Int) := of_decide_eq_true Z10; have q15 : (a1 : Int) < ((t530.length : Int) : Int) := of_decide_eq_true Z10; obtain ⟨go15, co15, eo15, gb15, gl15, cl15, HG15⟩ := Kd.R_form HO532.out Z32; (first | cases eo15 | (injection eo15 with ea_ en_ ec_; (first | subst ea_ | (injection ea_ with ea_; subst ea_)); subst ec_; clear en_)); have GB15 := Aside0.mk gb15; have GG15 := Aside0.mk HG15; clear gb15 gl15 HG15; (first | simp only [add_plain] at hx533_0 | skip); (first | simp only [add_plain] at hx533_1 | skip); obtain ⟨ce15, hcl15, hM15, hcc15, hfr15⟩ := Kd.R_elem HO532.out z84 (a1 : Int) p15 q15; obtain rfl := k84_openM hM15; have hx15_0 : w17.cell? ⟨go15, (a1 : Int).toNat * 2, none⟩ = some (.int .i64 ((rd_T84 t530 a1).f0)) := hcc15 0 _ rfl; have hx15_1 : w17.cell? ⟨go15, (a1 : Int).toNat * 2 + 1, none⟩ = some (.int .i64 ((rd_T84 t530 a1).f1)) := hcc15 1 _ rfl; have hf15_0 : w17.frozen? ⟨go15, (a1 : Int).toNat * 2, none⟩ = false := hfr15 0; have hf15_1 : w17.frozen? ⟨go15, (a1 : Int).toNat * 2 + 1, none⟩ = false := hfr15 1; (try clear hM15); clear hcl15 hcc15 hfr15; replace p15 := eq_true p15; replace q15 := eq_true q15; have HX19 := Aside0.mk (show Kd.R k84 84 w17 w.heap.size (fun _ => True) (.slice (some ⟨go15, 0, none⟩) t530.length co18) t530 from (Z4 HO532)); obtain ⟨ce19, hcl19, hM19, hcc19, hfr19⟩ := Kd.R_elem HX19.out z84 (a1 : Int) (of_decide_eq_true Z10) (by have h_ : (a1 : Int) < ((t530.length : Int) : Int) := of_decide_eq_true Z10; first | exact h_ | (have e_ := (Kd.R_reads' HO532.out).1; omega) | simpa using h_); obtain rfl := k84_openM hM19; have HP19 := Kd.R_seg HX19.out (a1 : Int) (of_decide_eq_true Z10) (by have h_ : (a1 : Int) < ((t530.length : Int) : Int) := of_decide_eq_true Z10; first | exact h_ | (have e_ := (Kd.R_reads' HO532.out).1; omega) | simpa using h_) (seg := [.int .i64 (wrap64 (((rd_T84 t530 a1).f1) + 1))]) (j := 1) hcl19 hcc19 (show 2 ≤ 2 from Z28) (x' := (⟨(rd_T84 t530 a1).f0, wrap64 (((rd_T84 t530 a1).f1) + 1)⟩ : S84)) (k84_mkM _ _ _ (⟨(rd_T84 t530 a1).f0, wrap64 (((rd_T84 t530 a1).f1) + 1)⟩ : S84) ) (fun _ hk => hk); have hx19_1 := hcc19 1 _ rfl; (try simp only [show (k84).sz = 2 from rfl, Nat.mul_one, Nat.add_zero] at hx19_1); have hf19_1 := hfr19 1; (try simp only [show (k84).sz = 2 from rfl, Nat.mul_one, Nat.add_zero] at hf19_1); (try clear hM19); clear hcl19 hcc19 hfr19) | ((with_reducible refine gate_store (t := 3) (p := 37) rfl ?_); refine store_event (t := 3) (p := 37) (v := ?vo_w20) (w1 := (w17.setCell ⟨go15, (a1 : Int).toNat * 2 + 1, none⟩ (.int .i64 (wrap64 (((rd_T84 t530 a1).f1) + 1))))) ?hg ?ho ?hn ?hr ?_; (case ho => exact Z90); (case hg => exact Z90); (case hn => exact Z90); (case hr => exact Z29); intro w20 hw; have hg : w17.grownBy w20 (some go15) := (by rw [hw]; exact HP19.2); have hp_ : Kd.R k84 84 w20 w.heap.size (fun _ => True) (.slice (some ⟨go15, 0, none⟩) t530.length co18) y534 := (by rw [hw, Ny534.out]; exact HP19.1); clear HP19; replace HO532 := Aside0.mk (hp_); replace HB := Aside0.mk ((by rw [hw]; exact below_set (HB.out) GB15.out : Below w.heap.size w w20)); clear hg hw hp_))
        go_ret2
        exact ⟨_, Z11, Z4 HO532, Z0 HB⟩
       ·rw [if_neg c14] at H
        exact absurd H Z33
     ·rw [if_neg c10] at H
      exact absurd H Z33
    ·rw [if_neg c9] at H
     exact absurd H Z33
 ·replace c4 := Bool.eq_false_iff.mpr c4
  subst c4
  have H1 : (some (([] : List (S84)), false)) = some (r1, r2) := Z24
  clear H
  have H := H1
  clear H1
  simp only [Option.some.injEq, Prod.mk.injEq] at H
  obtain ⟨rfl, rfl⟩ := H
  go_enter Tryz.func96, Tryz.ntmps96
  go_wp2_with (first | ((with_reducible refine gate_callee (f := 55) rfl ?_); refine gL_ 8 Tryz.func55 #[.slice A0 l0.length c0] ?_; (with_reducible refine (impl_CustomersOk.calls k _ _ l0 false _ ?side1 ?side2 A3.out).mono ?_); (case side1 => exact Z56 HR0); (case side2 => exact HC0.out); rintro e w21 ⟨rfl, hb⟩; refine ⟨_, rfl, ?_⟩; replace HB := Aside0.mk (below_step (Z0 HB) hb); (try clear hb)))
  go_ret2
  exact ⟨_, Z11, Z43, Z0 HB⟩

end Go.Proofs.YtmmoojkhlkjdkaaGreatDoor.PFnReadJournal
