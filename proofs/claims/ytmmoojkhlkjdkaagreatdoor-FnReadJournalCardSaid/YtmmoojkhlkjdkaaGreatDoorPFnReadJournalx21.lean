-- Printed by this claim's own program; Lean checks it.
import Derived.Test.YtmmoojkhlkjdkaaGreatDoorPFnReadJournalx0
import Derived.Test.YtmmoojkhlkjdkaaGreatDoorPFnReadJournalx19
import Derived.Test.YtmmoojkhlkjdkaaGreatDoorPFnReadJournalx20
namespace Go.Proofs.YtmmoojkhlkjdkaaGreatDoor.PFnReadJournal
open Go.RowKit Go.Proofs.YtmmoojkhlkjdkaaGreatDoorW.PrintWords Go.Proofs.YtmmoojkhlkjdkaaGreatDoorW.PrintLast Go.Proofs.YtmmoojkhlkjdkaaGreatDoorW.PrintMore
attribute [local go_sem] max2_int min2_int max_two min_two max_three min_three max_four min_four   -- for this text's walks alone
set_option linter.unusedVariables false
set_option linter.unusedSimpArgs false

/-! ### impl_LaterBy: function 97 -/
mutual
def impl_LaterBy.j0 : Nat → List (S84) → Int → Bool → Option ((List (S84)) × Bool)
  | 0, _, _, _ => none
  | k + 1, x0, x1, x18 => if x18 = true then (some (([] : List (S84)), false)) else ((impl_Customer_95.f x0).bind fun t536 => (impl_LaterBy.l0 k x1 t536 (t536.length : Int) 0))
def impl_LaterBy.l0 : Nat → Int → List (S84) → Int → Int → Option ((List (S84)) × Bool)
  | 0, _, _, _, _ => none
  | k + 1, x1, x6, x22, x23 => if x23 < x22 then (if 0 ≤ x23 then (if x23 < (x6.length : Int) then (impl_LaterBy.l0 k x1 (x6.set (x23 : Int).toNat (⟨wrap64 (((rd_T84 x6 x23).f0) + x1), (rd_T84 x6 x23).f1⟩ : S84)) x22 (wrap64 (x23 + 1))) else (none)) else (none)) else ((impl_CustomersOk.f k x6).bind fun t541 => (if t541 = true then (some (x6, true)) else (some (([] : List (S84)), false))))
end
def impl_LaterBy.f (k : Nat) (l0 : List (S84)) (a1 : Int) : Option ((List (S84)) × Bool) := (impl_CustomersOk.f k l0).bind fun t535 => (if t535 = true then (if a1 < 0 then (impl_LaterBy.j0 k l0 a1 true) else (impl_LaterBy.j0 k l0 a1 (decide (a1 > 60)))) else (impl_LaterBy.j0 k l0 a1 true))
theorem impl_LaterBy.mono_l : ∀ k, (∀ y0 y1 y2, LeO (impl_LaterBy.j0 k y0 y1 y2) (impl_LaterBy.j0 (k + 1) y0 y1 y2)) ∧ (∀ y0 y1 y2 y3, LeO (impl_LaterBy.l0 k y0 y1 y2 y3) (impl_LaterBy.l0 (k + 1) y0 y1 y2 y3))
 | 0 => ⟨fun _ _ _ r h => by simp [impl_LaterBy.j0] at h, fun _ _ _ _ r h => by simp [impl_LaterBy.l0] at h⟩
 | k + 1 => by
  obtain ⟨ih0, ih1⟩ := impl_LaterBy.mono_l k
  refine ⟨?_, ?_⟩
  ·intro y0 y1 y2
   unfold impl_LaterBy.j0
   repeat' first
   | (with_reducible exact ih0 _ _ _)
   | (with_reducible exact ih1 _ _ _ _)
   | (with_reducible exact impl_CustomersOk.mono _ _)
   | (with_reducible exact LeO.refl _)
   | (with_reducible exact LeO.none _)
   | (with_reducible refine LeO.ite ?_ ?_)
   | (with_reducible refine LeO.bind ?_ (fun _ => ?_))
   | exact ih0 _ _ _
   | exact ih1 _ _ _ _
   | exact impl_CustomersOk.mono _ _
   | exact LeO.none _
   | refine LeO.ite ?_ ?_
   | refine LeO.bind ?_ (fun _ => ?_)
  ·intro y0 y1 y2 y3
   unfold impl_LaterBy.l0
   repeat' first
   | (with_reducible exact ih0 _ _ _)
   | (with_reducible exact ih1 _ _ _ _)
   | (with_reducible exact impl_CustomersOk.mono _ _)
   | (with_reducible exact LeO.refl _)
   | (with_reducible exact LeO.none _)
   | (with_reducible refine LeO.ite ?_ ?_)
   | (with_reducible refine LeO.bind ?_ (fun _ => ?_))
   | exact ih0 _ _ _
   | exact ih1 _ _ _ _
   | exact impl_CustomersOk.mono _ _
   | exact LeO.none _
   | refine LeO.ite ?_ ?_
   | refine LeO.bind ?_ (fun _ => ?_)
theorem impl_LaterBy.mono : ∀ a0 a1 k, LeO (impl_LaterBy.f k a0 a1) (impl_LaterBy.f (k + 1) a0 a1) := by
 intro a0 a1 k
 obtain ⟨ih0, ih1⟩ := impl_LaterBy.mono_l k
 unfold impl_LaterBy.f
 repeat' first
  | (with_reducible exact ih0 _ _ _)
  | (with_reducible exact ih1 _ _ _ _)
  | (with_reducible exact impl_CustomersOk.mono _ _)
  | (with_reducible exact LeO.refl _)
  | (with_reducible exact LeO.none _)
  | (with_reducible refine LeO.ite ?_ ?_)
  | (with_reducible refine LeO.bind ?_ (fun _ => ?_))
  | exact ih0 _ _ _
  | exact ih1 _ _ _ _
  | exact impl_CustomersOk.mono _ _
  | exact LeO.none _
  | refine LeO.ite ?_ ?_
  | refine LeO.bind ?_ (fun _ => ?_)
set_option maxHeartbeats 8000000 in
set_option maxRecDepth 100000 in
theorem impl_LaterBy.calls (k : Nat) (A0 : Option Addr) (c0 : Nat) (l0 : List (S84)) (a1 : Int) (r1 : List (S84)) (r2 : Bool) (w : World) (hr0 : Kd.C k84 w A0 l0.length l0) (hc0 : l0.length ≤ c0) (h : impl_LaterBy.f k l0 a1 = some (r1, r2)) :
 Calls Tryz.prog 97 #[.slice A0 l0.length c0, .int .i64 a1] w fun e w' => ∃ v0_ : Value, e = .returned (.tuple #[v0_, .bool r2]) ∧ Kd.R k84 84 w' w.heap.size (fun _ => True) v0_ r1 ∧ Below w.heap.size w w' := by
 have HR0 := Aside0.mk hr0
 have HC0 := Aside0.mk hc0
 clear hr0 hc0
 have HB := Aside0.mk (Below.refl w.heap.size w)
 have H : ((impl_CustomersOk.f k l0).bind fun t535 => (if t535 = true then (if a1 < 0 then (impl_LaterBy.j0 k l0 a1 true) else (impl_LaterBy.j0 k l0 a1 (decide (a1 > 60)))) else (impl_LaterBy.j0 k l0 a1 true))) = some (r1, r2) := h
 clear h
 have HC3 := Aside0.mk H
 clear H
 go_enter Tryz.func97, Tryz.ntmps97
 go_upto_region 1 with (fail)
 go_cut [18] (fun v18 wc => ∃ (kq : Nat) (x18_2 : Bool), v18 = .bool x18_2 ∧ Aside0 (impl_LaterBy.j0 kq l0 a1 x18_2 = some (r1, r2)) ∧ Aside0 (kq ≤ k) ∧ Aside0 (Below w.heap.size w wc))
 case first =>
  have H := HC3.out
  clear HC3
  replace H := Option.bind_eq_some_iff.mp H
  obtain ⟨t535, A40, H⟩ := H
  replace H : (if t535 = true then (if a1 < 0 then (impl_LaterBy.j0 k l0 a1 true) else (impl_LaterBy.j0 k l0 a1 (decide (a1 > 60)))) else (impl_LaterBy.j0 k l0 a1 true)) = some (r1, r2) := H
  have A4 := Aside0.mk A40
  clear A40
  by_cases c5 : t535 = true
  ·subst c5
   have H1 : (if a1 < 0 then (impl_LaterBy.j0 k l0 a1 true) else (impl_LaterBy.j0 k l0 a1 (decide (a1 > 60)))) = some (r1, r2) := Z37
   clear H
   have H := H1
   clear H1
   by_cases c6 : a1 < 0
   ·rw [if_pos c6] at H
    have c6b0 : decide (a1 < 0) = true := decide_eq_true c6
    clear c6
    (first | rw [c6b0] | (simp only [i64_w, i32_w]; rw [c6b0]) | skip)
    have H' := Aside0.mk H
    clear H
    go_wp2_with (first | ((with_reducible refine gate_callee (f := 55) rfl ?_); refine gL_ 9 Tryz.func55 #[.slice A0 l0.length c0] ?_; (with_reducible refine (impl_CustomersOk.calls k _ _ l0 true _ ?side1 ?side2 A4.out).mono ?_); (case side1 => exact Z9 HR0 HB); (case side2 => exact HC0.out); rintro e w7 ⟨rfl, hb⟩; refine ⟨_, rfl, ?_⟩; replace HB := Aside0.mk (below_step (Z0 HB) hb); (try clear hb)))
    go_meet
    case rel => exact ⟨_, (true), Z14, H', ⟨Z39⟩, ⟨Z0 HB⟩⟩
   ·rw [if_neg c6] at H
    have c6b0 : decide (a1 < 0) = false := decide_eq_false c6
    clear c6
    (first | rw [c6b0] | (simp only [i64_w, i32_w]; rw [c6b0]) | skip)
    have H' := Aside0.mk H
    clear H
    go_wp2_with (first | ((with_reducible refine gate_callee (f := 55) rfl ?_); refine gL_ 9 Tryz.func55 #[.slice A0 l0.length c0] ?_; (with_reducible refine (impl_CustomersOk.calls k _ _ l0 true _ ?side1 ?side2 A4.out).mono ?_); (case side1 => exact Z9 HR0 HB); (case side2 => exact HC0.out); rintro e w8 ⟨rfl, hb⟩; refine ⟨_, rfl, ?_⟩; replace HB := Aside0.mk (below_step (Z0 HB) hb); (try clear hb)))
    go_meet
    case rel => exact ⟨_, (decide (a1 > 60)), Z14, H', ⟨Z39⟩, ⟨Z0 HB⟩⟩
  ·replace c5 := Bool.eq_false_iff.mpr c5
   subst c5
   have H1 : (impl_LaterBy.j0 k l0 a1 true) = some (r1, r2) := Z24
   clear H
   have H := H1
   clear H1
   have H' := Aside0.mk H
   clear H
   go_wp2_with (first | ((with_reducible refine gate_callee (f := 55) rfl ?_); refine gL_ 9 Tryz.func55 #[.slice A0 l0.length c0] ?_; (with_reducible refine (impl_CustomersOk.calls k _ _ l0 false _ ?side1 ?side2 A4.out).mono ?_); (case side1 => exact Z9 HR0 HB); (case side2 => exact HC0.out); rintro e w9 ⟨rfl, hb⟩; refine ⟨_, rfl, ?_⟩; replace HB := Aside0.mk (below_step (Z0 HB) hb); (try clear hb)))
   go_meet
   case rel => exact ⟨_, (true), Z14, H', ⟨Z39⟩, ⟨Z0 HB⟩⟩
 case rest =>
  clear HC3
  try clear p2
  try clear c5
  try clear c6
  try clear c6b0
  try clear c9
  obtain ⟨kq, x18_2, rfl, HA, HJ2, HB⟩ := hcut
  cases kq with
  | zero => exact absurd HA.out (by simp [impl_LaterBy.j0])
  | succ kj2 =>
   have H := HA.out
   clear HA
   simp only [impl_LaterBy.j0] at H
   by_cases c10 : x18_2 = true
   ·subst c10
    have H1 : (some (([] : List (S84)), false)) = some (r1, r2) := Z37
    clear H
    have H := H1
    clear H1
    simp only [Option.some.injEq, Prod.mk.injEq] at H
    obtain ⟨rfl, rfl⟩ := H
    go_wp2
    go_ret2
    exact ⟨_, Z11, Z43, Z0 HB⟩
   ·replace c10 := Bool.eq_false_iff.mpr c10
    subst c10
    have H1 : ((impl_Customer_95.f l0).bind fun t536 => (impl_LaterBy.l0 kj2 a1 t536 (t536.length : Int) 0)) = some (r1, r2) := Z24
    clear H
    have H := H1
    clear H1
    replace H := Option.bind_eq_some_iff.mp H
    obtain ⟨t536, A110, H⟩ := H
    replace H : (impl_LaterBy.l0 kj2 a1 t536 (t536.length : Int) 0) = some (r1, r2) := H
    have A11 := Aside0.mk A110
    clear A110
    have H' := Aside0.mk H
    clear H
    go_wp2_with (first | ((with_reducible refine gate_callee (f := 95) rfl ?_); refine gL_ 20 Tryz.func95 #[.slice A0 l0.length c0] ?_; (with_reducible refine (impl_Customer_95.calls _ _ l0 t536 _ ?side1 ?side2 A11.out).mono ?_); (case side1 => exact Z9 HR0 HB); (case side2 => exact HC0.out); rintro e w12 ⟨v537, rfl, ho0, hb⟩; refine ⟨_, rfl, ?_⟩; have HO538 := Aside0.mk (Kd.R_lower ho0 (below_size (Z0 HB))); replace HB := Aside0.mk (below_step (Z0 HB) hb); (try clear hb); (try clear hb2); (try clear hk); (try clear hi); (try clear ho0); obtain ⟨Ao13, co13, eo13⟩ := Kd.R_slice HO538.out; subst eo13))
    go_loopg [23] kj2 (fun kq v23 w' => ∃ (x6_2 : List (S84)) (x23_2 : Int), v23 = .int .i64 x23_2 ∧ Aside0 (impl_LaterBy.l0 kq a1 x6_2 (t536.length : Int) x23_2 = some (r1, r2)) ∧ Aside0 (kq ≤ kj2) ∧ Aside0 (Kd.R k84 84 w' w.heap.size (fun _ => True) (.slice Ao13 t536.length co13) x6_2) ∧ Aside0 (Below w.heap.size w w'))
    case atStart => exact ⟨(t536), (0), Z14, H', ⟨Nat.le_refl _⟩, ⟨Z4 HO538⟩, ⟨Z0 HB⟩⟩
    case round =>
     clear H'
     try clear c1
     try clear p2
     try clear c5
     try clear c6
     try clear c6b0
     try clear c9
     try clear c10
     try clear p2
     obtain ⟨x6_2, x23_2, rfl, HA, HK2, HO_6, HB⟩ := hrel
     have hl6_2 := (Kd.R_reads' HO_6.out).1
     rw [hl6_2] at HO_6
     (try simp only [hl6_2])
     cases gk with
     | zero => exact absurd HA.out (by simp [impl_LaterBy.l0])
     | succ k2 =>
      have H := HA.out
      clear HA
      simp only [impl_LaterBy.l0] at H
      by_cases c14 : x23_2 < (t536.length : Int)
      ·rw [if_pos c14] at H
       have c14b0 : decide (x23_2 < (t536.length : Int)) = true := decide_eq_true c14
       clear c14
       by_cases c15 : 0 ≤ x23_2
       ·rw [if_pos c15] at H
        have c15b0 : decide (0 ≤ x23_2) = true := decide_eq_true c15
        clear c15
        by_cases c16 : x23_2 < (x6_2.length : Int)
        ·rw [if_pos c16] at H
         have c16b0 : decide (x23_2 < (x6_2.length : Int)) = true := decide_eq_true c16
         clear c16
         obtain ⟨y540, hy540⟩ : ∃ y_ : List (S84), y_ = (x6_2.set (x23_2 : Int).toNat (⟨wrap64 (((rd_T84 x6_2 x23_2).f0) + a1), (rd_T84 x6_2 x23_2).f1⟩ : S84)) := ⟨_, rfl⟩
         replace H : (impl_LaterBy.l0 k2 a1 y540 (t536.length : Int) (wrap64 (x23_2 + 1))) = some (r1, r2) := Z5 hy540
         have Ny540 := Aside0.mk hy540
         clear hy540
         have H' := Aside0.mk H
         clear H
         have p539 : 0 ≤ (x23_2 : Int) := of_decide_eq_true Z10
         have q539 : x23_2 < (x6_2.length : Int) := of_decide_eq_true Z10
         obtain ⟨ad539, e539, hx539_0, hx539_1⟩ := at_T84 (Kd.R_reads' HO_6.out).2.2 x23_2 p539 q539
         cases e539
         replace p539 := eq_true p539
         replace q539 := eq_true q539
         have p17 : 0 ≤ (x23_2 : Int) := of_decide_eq_true Z10
         have q17 : (x23_2 : Int) < ((x6_2.length : Int) : Int) := of_decide_eq_true Z10
         obtain ⟨go17, co17, eo17, gb17, gl17, cl17, HG17⟩ := Kd.R_form HO_6.out Z32
         (first | cases eo17 | (injection eo17 with ea_ en_ ec_; (first | subst ea_ | (injection ea_ with ea_; subst ea_)); subst ec_; clear en_))
         have GB17 := Aside0.mk gb17
         have GG17 := Aside0.mk HG17
         clear gb17 gl17 HG17
         (first | simp only [add_plain] at hx539_0 | skip)
         (first | simp only [add_plain] at hx539_1 | skip)
         obtain ⟨ce17, hcl17, hM17, hcc17, hfr17⟩ := Kd.R_elem HO_6.out z84 (x23_2 : Int) p17 q17
         obtain rfl := k84_openM hM17
         have hx17_0 : wr.cell? ⟨go17, (x23_2 : Int).toNat * 2, none⟩ = some (.int .i64 ((rd_T84 x6_2 x23_2).f0)) := hcc17 0 _ rfl
         have hx17_1 : wr.cell? ⟨go17, (x23_2 : Int).toNat * 2 + 1, none⟩ = some (.int .i64 ((rd_T84 x6_2 x23_2).f1)) := hcc17 1 _ rfl
         have hf17_0 : wr.frozen? ⟨go17, (x23_2 : Int).toNat * 2, none⟩ = false := hfr17 0
         have hf17_1 : wr.frozen? ⟨go17, (x23_2 : Int).toNat * 2 + 1, none⟩ = false := hfr17 1
         (try clear hM17); clear hcl17 hcc17 hfr17
         replace p17 := eq_true p17
         replace q17 := eq_true q17
         have HX18 := Aside0.mk (show Kd.R k84 84 wr w.heap.size (fun _ => True) (.slice (some ⟨go17, 0, none⟩) x6_2.length co13) x6_2 from (Z4 HO_6))
         obtain ⟨ce18, hcl18, hM18, hcc18, hfr18⟩ := Kd.R_elem HX18.out z84 (x23_2 : Int) (of_decide_eq_true Z10) (by have h_ : (x23_2 : Int) < ((x6_2.length : Int) : Int) := of_decide_eq_true Z10; first | exact h_ | (have e_ := (Kd.R_reads' HO_6.out).1; omega) | simpa using h_)
         obtain rfl := k84_openM hM18
         have HP18 := Kd.R_seg HX18.out (x23_2 : Int) (of_decide_eq_true Z10) (by have h_ : (x23_2 : Int) < ((x6_2.length : Int) : Int) := of_decide_eq_true Z10; first | exact h_ | (have e_ := (Kd.R_reads' HO_6.out).1; omega) | simpa using h_) (seg := [.int .i64 (wrap64 (((rd_T84 x6_2 x23_2).f0) + a1))]) (j := 0) hcl18 hcc18 (show 1 ≤ 2 from Z28) (x' := (⟨wrap64 (((rd_T84 x6_2 x23_2).f0) + a1), (rd_T84 x6_2 x23_2).f1⟩ : S84)) (k84_mkM _ _ _ (⟨wrap64 (((rd_T84 x6_2 x23_2).f0) + a1), (rd_T84 x6_2 x23_2).f1⟩ : S84) ) (fun _ hk => hk)
         have hx18_0 := hcc18 0 _ rfl
         (try simp only [show (k84).sz = 2 from rfl, Nat.mul_one, Nat.add_zero] at hx18_0)
         have hf18_0 := hfr18 0
         (try simp only [show (k84).sz = 2 from rfl, Nat.mul_one, Nat.add_zero] at hf18_0)
         (try clear hM18); clear hcl18 hcc18 hfr18
         go_wp2_with (first | ((with_reducible refine gate_store (t := 3) (p := 34) rfl ?_); refine store_event (t := 3) (p := 34) (v := ?vo_w19) (w1 := (wr.setCell ⟨go17, (x23_2 : Int).toNat * 2, none⟩ (.int .i64 (wrap64 (((rd_T84 x6_2 x23_2).f0) + a1))))) ?hg ?ho ?hn ?hr ?_; (case ho => exact Z90); (case hg => exact Z90); (case hn => exact Z90); (case hr => exact Z29); intro w19 hw; have hg : wr.grownBy w19 (some go17) := (by rw [hw]; exact HP18.2); have hp_ : Kd.R k84 84 w19 w.heap.size (fun _ => True) (.slice (some ⟨go17, 0, none⟩) x6_2.length co13) y540 := (by rw [hw, Ny540.out]; exact HP18.1); clear HP18; replace HO_6 := Aside0.mk (hp_); replace HB := Aside0.mk ((by rw [hw]; exact below_set (HB.out) GB17.out : Below w.heap.size w w19)); clear hg hw hp_))
         (try simp only [← hl6_2])
         go_roundg k2
         case measure => have := HJ2.out; have := HK2.out; omega
         case rel => exact ⟨(y540), (wrap64 (x23_2 + 1)), Z14, H', ⟨Z69 HJ2 HK2⟩, ⟨by (try simp only [hl6_2]); (with_reducible repeat (first | apply Kd.R_alloc | apply Kd.R_drewN | apply Kd.R_drew)); exact HO_6.out⟩, ⟨Z0 HB⟩⟩
        ·rw [if_neg c16] at H
         exact absurd H Z33
       ·rw [if_neg c15] at H
        exact absurd H Z33
      ·rw [if_neg c14] at H
       have c14b0 : decide (x23_2 < (t536.length : Int)) = false := decide_eq_false c14
       rw [hl6_2] at c14b0
       clear c14
       replace H := Option.bind_eq_some_iff.mp H
       obtain ⟨t541, A200, H⟩ := H
       replace H : (if t541 = true then (some (x6_2, true)) else (some (([] : List (S84)), false))) = some (r1, r2) := H
       have A20 := Aside0.mk A200
       clear A200
       by_cases c21 : t541 = true
       ·subst c21
        have H1 : (some (x6_2, true)) = some (r1, r2) := Z37
        clear H
        have H := H1
        clear H1
        simp only [Option.some.injEq, Prod.mk.injEq] at H
        obtain ⟨rfl, rfl⟩ := H
        go_wp2_with (first | ((with_reducible refine gate_callee (f := 55) rfl ?_); refine gL_ 37 Tryz.func55 #[.slice Ao13 x6_2.length co13] ?_; (with_reducible refine (impl_CustomersOk.calls k2 _ _ x6_2 true _ ?side1 ?side2 A20.out).mono ?_); (case side1 => exact Z26 HO_6); (case side2 => exact Z74 HO_6); rintro e w22 ⟨rfl, hb⟩; refine ⟨_, rfl, ?_⟩; replace HO_6 := Aside0.mk (Kd.R_below (Z4 HO_6) hb); replace HB := Aside0.mk (below_step (Z0 HB) hb); (try clear hb)))
        go_ret2
        exact ⟨_, Z11, Z4 HO_6, Z0 HB⟩
       ·replace c21 := Bool.eq_false_iff.mpr c21
        subst c21
        have H1 : (some (([] : List (S84)), false)) = some (r1, r2) := Z24
        clear H
        have H := H1
        clear H1
        simp only [Option.some.injEq, Prod.mk.injEq] at H
        obtain ⟨rfl, rfl⟩ := H
        go_wp2_with (first | ((with_reducible refine gate_callee (f := 55) rfl ?_); refine gL_ 37 Tryz.func55 #[.slice Ao13 x6_2.length co13] ?_; (with_reducible refine (impl_CustomersOk.calls k2 _ _ x6_2 false _ ?side1 ?side2 A20.out).mono ?_); (case side1 => exact Z26 HO_6); (case side2 => exact Z74 HO_6); rintro e w23 ⟨rfl, hb⟩; refine ⟨_, rfl, ?_⟩; replace HO_6 := Aside0.mk (Kd.R_below (Z4 HO_6) hb); replace HB := Aside0.mk (below_step (Z0 HB) hb); (try clear hb)))
        go_ret2
        exact ⟨_, Z11, Z43, Z0 HB⟩

end Go.Proofs.YtmmoojkhlkjdkaaGreatDoor.PFnReadJournal
