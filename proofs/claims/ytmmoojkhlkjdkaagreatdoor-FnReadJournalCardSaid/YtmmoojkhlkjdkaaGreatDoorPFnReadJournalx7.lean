-- Printed by this claim's own program; Lean checks it.
import Derived.Test.YtmmoojkhlkjdkaaGreatDoorPFnReadJournalx0
import Derived.Test.YtmmoojkhlkjdkaaGreatDoorPFnReadJournalx3
import Derived.Test.YtmmoojkhlkjdkaaGreatDoorPFnReadJournalx4
import Derived.Test.YtmmoojkhlkjdkaaGreatDoorPFnReadJournalx5
import Derived.Test.YtmmoojkhlkjdkaaGreatDoorPFnReadJournalx6
namespace Go.Proofs.YtmmoojkhlkjdkaaGreatDoor.PFnReadJournal
open Go.RowKit Go.Proofs.YtmmoojkhlkjdkaaGreatDoorW.PrintWords Go.Proofs.YtmmoojkhlkjdkaaGreatDoorW.PrintLast Go.Proofs.YtmmoojkhlkjdkaaGreatDoorW.PrintMore
attribute [local go_sem] max2_int min2_int max_two min_two max_three min_three max_four min_four   -- for this text's walks alone
set_option linter.unusedVariables false
set_option linter.unusedSimpArgs false

/-! ### spec_l20Deeds: function 48 -/
def spec_l20Deeds.l0 : Nat → List (S84) → List (S39) → Int → List Int → Int → Option ((List (S39)) × Int)
  | 0, _, _, _, _, _ => none
  | k + 1, x1, x5, x6, x1000, x1001 => if x6 > 0 then ((spec_l20Deed.f k x1000 x1001 x1).bind fun bt165 => (if x5.length < 5864062014805 then (spec_l20Deeds.l0 k x1 (x5 ++ [(⟨bt165.1, bt165.2.1, bt165.2.2.1⟩ : S39)]) (wrap64 (x6 - 1)) x1000 bt165.2.2.2) else (none))) else (some (x5, x1001))
def spec_l20Deeds.f (k : Nat) (s0_0 : List Int) (s0_1 : Int) (l1 : List (S84)) : Option ((List (S39)) × Int) := (spec_l20Rd_pick.f k s0_0 s0_1 6).bind fun bt163 => (spec_l20Deeds.l0 k l1 (([] : List (S39))) bt163.1 s0_0 bt163.2)
set_option maxHeartbeats 8000000 in
set_option maxRecDepth 100000 in
theorem spec_l20Deeds.calls (k : Nat) (g : Nat) (s0_0 : List Int) (s0_1 : Int) (A1 : Option Addr) (c1 : Nat) (l1 : List (S84)) (r1 : List (S39)) (r2 : Int) (w0 w : World) (hI : IsS104 w0 w g s0_0 s0_1) (hB : Below w0.heap.size w0 w) (hr1 : ∀ W_, KeepBut w W_ g none → Kd.C k84 W_ A1 l1.length l1) (hc1 : l1.length ≤ c1) (h : spec_l20Deeds.f k s0_0 s0_1 l1 = some (r1, r2)) :
 Calls Tryz.prog 48 #[.pointer (some ⟨g, 0, none⟩), .slice A1 l1.length c1] w fun e w' => ∃ v0_ : Value, e = .returned (v0_) ∧ Kd.R k39 39 w' w.heap.size (fun _ => True) v0_ r1 ∧ IsS104 w0 w' g s0_0 r2 ∧ Below w0.heap.size w0 w' ∧ KeepBut w w' g none := by
 have HR1 := Aside0.mk hr1
 have HC1 := Aside0.mk hc1
 clear hr1 hc1
 have HI0 := Aside0.mk hI
 have HK := Aside0.mk (KeepBut.refl w g none)
 have HL := Aside0.mk hB.size
 clear hI
 have HW0 := Aside0.mk hB.size
 have HB := Aside0.mk hB
 clear hB
 have H : ((spec_l20Rd_pick.f k s0_0 s0_1 6).bind fun bt163 => (spec_l20Deeds.l0 k l1 (([] : List (S39))) bt163.1 s0_0 bt163.2)) = some (r1, r2) := h
 clear h
 obtain ⟨y160, hy160⟩ : ∃ y_ : List (S39), y_ = (([] : List (S39))) := ⟨_, rfl⟩
 replace H : ((spec_l20Rd_pick.f k s0_0 s0_1 6).bind fun bt163 => (spec_l20Deeds.l0 k l1 y160 bt163.1 s0_0 bt163.2)) = some (r1, r2) := Z5 hy160
 have Ny160 := Aside0.mk hy160
 clear hy160
 replace H := Option.bind_eq_some_iff.mp H
 obtain ⟨⟨t163, t164⟩, A30, H⟩ := H
 replace H : (spec_l20Deeds.l0 k l1 y160 t163 s0_0 t164) = some (r1, r2) := H
 have A3 := Aside0.mk A30
 clear A30
 have H' := Aside0.mk H
 clear H
 go_enter Tryz.func48, Tryz.ntmps48
 go_wp2_with (first | ((with_reducible refine gate_dst (N := 7) rfl ?_); refine Kd.R_lit k39 _ 39 ?hg (N := 7) ?hd (xs := ([] : List (S39))) (inner := []) (ok := fun _ => True) (okp := fun _ => True) ?hr ?hp (fun _ hk => hk) trivial (Below.refl _ _) (Nat.le_refl _) Z33 ?_; (case hd => exact Z90); (case hg => exact Z90); (case hr => exact Z29); (case hp => exact Z67); intro v161 w4 ho5 hb hg_ hnew_; clear hg_ hnew_; (first | rw [← Ny160.out] at ho5 | (simp only [Int.reduceToNat] at ho5; rw [← Ny160.out] at ho5)); have HO162 := Aside0.mk (Kd.R_lower ho5 (keep_size (w := w) (g := g) (row := none) (Z8 HK))); replace HK := Aside0.mk (KeepBut.trans (Z8 HK) (KeepBut.of_below hb g none) (.inl rfl)); replace HB := Aside0.mk (below_step (Z7 HB HI0) hb); replace HI0 := Aside0.mk (IsS104.below (Z6 HI0) hb); clear hb ho5) | ((with_reducible refine gate_callee (f := 41) rfl ?_); refine gL_ 9 Tryz.func41 #[.pointer (some ⟨g, 0, none⟩), .int .i64 6] ?_; (with_reducible refine (spec_l20Rd_pick.calls k g s0_0 s0_1 6 t163 t164 w0 _ ?side1 ?side2 A3.out).mono ?_); (case side1 => exact Z6 HI0); (case side2 => exact Z96); rintro e w6 ⟨rfl, hi, hb, hk⟩; refine ⟨_, rfl, ?_⟩; replace HO162 := Aside0.mk (Kd.R_mono (Kd.R_keep (IsS104.apart (show IsS104 w0 _ g s0_0 s0_1 from Z6 HI0) (Z4 HO162) Z28) hk (fun _ h => h.2)) (fun _ h => h.1)); replace HK := Aside0.mk (KeepBut.trans (Z8 HK) hk (.inl rfl)); replace HB := Aside0.mk (hb); replace HI0 := Aside0.mk (hi); (try clear hb); (try clear hk); (try clear hi)))
 go_loopg [5, 6] k (fun kq v5 v6 w' => ∃ (x5_1 : List (S39)) (x6_1 : Int) (x1001_1 : Int), v6 = .int .i64 x6_1 ∧ Aside0 (spec_l20Deeds.l0 kq l1 x5_1 x6_1 s0_0 x1001_1 = some (r1, r2)) ∧ Aside0 (kq ≤ k) ∧ Aside0 (Kd.R k39 39 w' w.heap.size (fun _ => True) v5 x5_1) ∧ Aside0 (IsS104 w0 w' g s0_0 x1001_1) ∧ Aside0 (KeepBut w w' g none) ∧ Aside0 (Below w0.heap.size w0 w'))
 case atStart => exact ⟨(y160), (t163), (t164), Z14, H', ⟨Nat.le_refl _⟩, ⟨Z4 HO162⟩, ⟨Z6 HI0⟩, ⟨Z8 HK⟩, ⟨Z7 HB HI0⟩⟩
 case round =>
  clear H'
  try clear c1
  try clear p2
  try clear c4
  obtain ⟨x5_1, x6_1, x1001_1, rfl, HA, HK1, HO_5, HI0, HK, HB⟩ := hrel
  cases gk with
  | zero => exact absurd HA.out (by simp [spec_l20Deeds.l0])
  | succ k1 =>
   have H := HA.out
   clear HA
   simp only [spec_l20Deeds.l0] at H
   by_cases c7 : x6_1 > 0
   ·rw [if_pos c7] at H
    have c7b0 : decide (0 < x6_1) = true := decide_eq_true c7
    clear c7
    replace H := Option.bind_eq_some_iff.mp H
    obtain ⟨⟨t165, t166, t167, t168⟩, A80, H⟩ := H
    replace H : (if x5_1.length < 5864062014805 then (spec_l20Deeds.l0 k1 l1 (x5_1 ++ [(⟨t165, t166, t167⟩ : S39)]) (wrap64 (x6_1 - 1)) s0_0 t168) else (none)) = some (r1, r2) := H
    have A8 := Aside0.mk A80
    clear A80
    by_cases c9 : x5_1.length < 5864062014805
    ·rw [if_pos c9] at H
     have LMc9 := Aside0.mk c9
     clear c9
     obtain ⟨y169, hy169⟩ : ∃ y_ : List (S39), y_ = (x5_1 ++ [(⟨t165, t166, t167⟩ : S39)]) := ⟨_, rfl⟩
     replace H : (spec_l20Deeds.l0 k1 l1 y169 (wrap64 (x6_1 - 1)) s0_0 t168) = some (r1, r2) := Z5 hy169
     have Ny169 := Aside0.mk hy169
     clear hy169
     have H' := Aside0.mk H
     clear H
     go_wp2_with (first | ((with_reducible refine gate_callee (f := 93) rfl ?_); refine gL_ 17 Tryz.func93 #[.pointer (some ⟨g, 0, none⟩), .slice A1 l1.length c1] ?_; (with_reducible refine (spec_l20Deed.calls k1 g s0_0 x1001_1 _ _ l1 t165 t166 t167 t168 w0 _ ?side1 ?side2 ?side3 ?side4 A8.out).mono ?_); (case side1 => exact Z6 HI0); (case side2 => exact Z96); (case side3 => exact Kd.C_foot_step HR1.out (Z8 HK)); (case side4 => exact HC1.out); rintro e w10 ⟨rfl, hi, hb, hk⟩; refine ⟨_, rfl, ?_⟩; replace HO_5 := Aside0.mk (Kd.R_mono (Kd.R_keep (IsS104.apart (show IsS104 w0 _ g s0_0 x1001_1 from Z6 HI0) (Z4 HO_5) Z28) hk (fun _ h => h.2)) (fun _ h => h.1)); replace HK := Aside0.mk (KeepBut.trans (Z8 HK) hk (.inl rfl)); replace HB := Aside0.mk (hb); replace HI0 := Aside0.mk (hi); (try clear hb); (try clear hk); (try clear hi)) | ((with_reducible refine gate_builtin (b := .append) (xs := #[.tmp 14, .tmp 18]) rfl ?_); at_builtin; refine Kd.R_append k39 w.heap.size rfl (.tmp 14) (.tmp 18) 24 39 (.agg #[(.int .i64 0), (.int .i64 0), (.int .i64 0)]) 24 rfl Tryz.underlying24 info39 rfl Z28 Z32 u5 x5_1 (⟨t165, t166, t167⟩ : S39) [.int .i64 t165, .int .i64 t166, .int .i64 t167] (fun _ => True) (fun _ => False) rfl rfl ?aP (fun _ hk => hk.elim) ?aF ?aO (Below.refl _ _) ?aS ?aL ?_; (case aP => exact k39_mkM _ _ _ (⟨t165, t166, t167⟩ : S39)); (case aF => exact Z77); (case aO => exact (Z4 HO_5)); (case aS => exact Z95); (case aL => exact Z35 LMc9); intro v170 w11 ho hb hg hat; rw [← Ny169.out] at ho; replace HB := Aside0.mk (below_weaken (Z7 HB HI0) HL.out hb); replace HI0 := Aside0.mk (IsS104.grown (Z6 HI0) hg (IsS104.own_ne HI0.out HO_5.out Z28)); replace HK := Aside0.mk (KeepBut.trans (Z8 HK) (KeepBut.of_grown hg g) (Kd.R_base2 HO_5.out)); have HO171 := Aside0.mk (ho); clear HO_5; clear ho hb hg hat))
     go_roundg k1
     case measure => have := HK1.out; omega
     case rel => exact ⟨(y169), (wrap64 (x6_1 - 1)), (t168), Z14, H', ⟨Z35 HK1⟩, ⟨Z4 HO171⟩, ⟨Z6 HI0⟩, ⟨Z8 HK⟩, ⟨Z7 HB HI0⟩⟩
    ·rw [if_neg c9] at H
     exact absurd H Z33
   ·rw [if_neg c7] at H
    have c7b0 : decide (0 < x6_1) = false := decide_eq_false c7
    clear c7
    simp only [Option.some.injEq, Prod.mk.injEq] at H
    obtain ⟨rfl, rfl⟩ := H
    go_wp2
    go_ret
    exact ⟨_, Z11, Z4 HO_5, Z6 HI0, Z7 HB HI0, Z8 HK⟩

/-! ### spec_l20Customers: function 87 -/
def spec_l20Customers.l0 : Nat → Int → List (S84) → Int → Int → Int → Int → List Int → Int → Option ((List (S84)) × Int)
  | 0, _, _, _, _, _, _, _, _ => none
  | k + 1, x1, x5, x6, x7, x8, x9, x1000, x1001 => if x9 > 0 then ((spec_l20Rd_pick.f k x1000 x1001 x8).bind fun bt187 => (if x5.length < 8796093022208 then ((spec_l20Rd_pick.f k x1000 bt187.2 (wrap64 (x7 + 1))).bind fun bt192 => (spec_l20Customers.l0 k x1 (x5 ++ [(⟨x6, wrap64 (1 + bt187.1)⟩ : S84)]) (wrap64 (x6 + bt192.1)) x7 x8 (wrap64 (x9 - 1)) x1000 bt192.2)) else (none))) else ((spec_l20Rd_odd.f k x1000 x1001 x1).bind fun bt194 => (if bt194.1 = true then ((spec_l20Rd_pick.f k x1000 bt194.2 3).bind fun bt196 => (if bt196.1 = 0 then (some ((([(⟨3, 1⟩ : S84), (⟨2, 1⟩ : S84)] : List (S84))), bt196.2)) else (if bt196.1 = 1 then (if x5.length < 8796093022208 then (some ((x5 ++ [(⟨60, 0⟩ : S84)]), bt196.2)) else (none)) else ((some (([(-1), 61] : List Int) : List Int)).bind fun y204 => ((spec_l20Rd_pick.f k x1000 bt196.2 2).bind fun bt207 => (if 0 ≤ bt207.1 then (if bt207.1 < (y204.length : Int) then (some ((([(⟨rd y204 bt207.1, 1⟩ : S84)] : List (S84))), bt207.2)) else (none)) else (none))))))) else (some (x5, bt194.2))))
def spec_l20Customers.f (k : Nat) (s0_0 : List Int) (s0_1 : Int) (a1 : Int) : Option ((List (S84)) × Int) := (spec_l20Rd_pick.f k s0_0 s0_1 3).bind fun bt175 => ((spec_l20Rd_pick.f k s0_0 bt175.2 5).bind fun bt177 => ((some (([3, 9] : List Int) : List Int)).bind fun y179 => ((spec_l20Rd_pick.f k s0_0 bt177.2 2).bind fun bt182 => (if 0 ≤ bt182.1 then (if bt182.1 < (y179.length : Int) then ((spec_l20Rd_pick.f k s0_0 bt182.2 9).bind fun bt185 => (spec_l20Customers.l0 k a1 (([] : List (S84))) bt175.1 (wrap64 (1 + bt177.1)) (rd y179 bt182.1) bt185.1 s0_0 bt185.2)) else (none)) else (none)))))
set_option maxHeartbeats 8000000 in
set_option maxRecDepth 100000 in
theorem spec_l20Customers.calls (k : Nat) (g : Nat) (s0_0 : List Int) (s0_1 : Int) (a1 : Int) (r1 : List (S84)) (r2 : Int) (w0 w : World) (hI : IsS104 w0 w g s0_0 s0_1) (hB : Below w0.heap.size w0 w) (h : spec_l20Customers.f k s0_0 s0_1 a1 = some (r1, r2)) :
 Calls Tryz.prog 87 #[.pointer (some ⟨g, 0, none⟩), .int .i64 a1] w fun e w' => ∃ v0_ : Value, e = .returned (v0_) ∧ Kd.R k84 84 w' w.heap.size (fun _ => True) v0_ r1 ∧ IsS104 w0 w' g s0_0 r2 ∧ Below w0.heap.size w0 w' ∧ KeepBut w w' g none := by
 have hu84 := Tryz.underlying84
 have HI0 := Aside0.mk hI
 have HK := Aside0.mk (KeepBut.refl w g none)
 have HL := Aside0.mk hB.size
 clear hI
 have HW0 := Aside0.mk hB.size
 have HB := Aside0.mk hB
 clear hB
 have H : ((spec_l20Rd_pick.f k s0_0 s0_1 3).bind fun bt175 => ((spec_l20Rd_pick.f k s0_0 bt175.2 5).bind fun bt177 => ((some (([3, 9] : List Int) : List Int)).bind fun y179 => ((spec_l20Rd_pick.f k s0_0 bt177.2 2).bind fun bt182 => (if 0 ≤ bt182.1 then (if bt182.1 < (y179.length : Int) then ((spec_l20Rd_pick.f k s0_0 bt182.2 9).bind fun bt185 => (spec_l20Customers.l0 k a1 (([] : List (S84))) bt175.1 (wrap64 (1 + bt177.1)) (rd y179 bt182.1) bt185.1 s0_0 bt185.2)) else (none)) else (none)))))) = some (r1, r2) := h
 clear h
 obtain ⟨y172, hy172⟩ : ∃ y_ : List (S84), y_ = (([] : List (S84))) := ⟨_, rfl⟩
 replace H : ((spec_l20Rd_pick.f k s0_0 s0_1 3).bind fun bt175 => ((spec_l20Rd_pick.f k s0_0 bt175.2 5).bind fun bt177 => ((some (([3, 9] : List Int) : List Int)).bind fun y179 => ((spec_l20Rd_pick.f k s0_0 bt177.2 2).bind fun bt182 => (if 0 ≤ bt182.1 then (if bt182.1 < (y179.length : Int) then ((spec_l20Rd_pick.f k s0_0 bt182.2 9).bind fun bt185 => (spec_l20Customers.l0 k a1 y172 bt175.1 (wrap64 (1 + bt177.1)) (rd y179 bt182.1) bt185.1 s0_0 bt185.2)) else (none)) else (none)))))) = some (r1, r2) := Z5 hy172
 have Ny172 := Aside0.mk hy172
 clear hy172
 replace H := Option.bind_eq_some_iff.mp H
 obtain ⟨⟨t175, t176⟩, A30, H⟩ := H
 replace H : ((spec_l20Rd_pick.f k s0_0 t176 5).bind fun bt177 => ((some (([3, 9] : List Int) : List Int)).bind fun y179 => ((spec_l20Rd_pick.f k s0_0 bt177.2 2).bind fun bt182 => (if 0 ≤ bt182.1 then (if bt182.1 < (y179.length : Int) then ((spec_l20Rd_pick.f k s0_0 bt182.2 9).bind fun bt185 => (spec_l20Customers.l0 k a1 y172 t175 (wrap64 (1 + bt177.1)) (rd y179 bt182.1) bt185.1 s0_0 bt185.2)) else (none)) else (none))))) = some (r1, r2) := H
 have A3 := Aside0.mk A30
 clear A30
 replace H := Option.bind_eq_some_iff.mp H
 obtain ⟨⟨t177, t178⟩, A40, H⟩ := H
 replace H : ((some (([3, 9] : List Int) : List Int)).bind fun y179 => ((spec_l20Rd_pick.f k s0_0 t178 2).bind fun bt182 => (if 0 ≤ bt182.1 then (if bt182.1 < (y179.length : Int) then ((spec_l20Rd_pick.f k s0_0 bt182.2 9).bind fun bt185 => (spec_l20Customers.l0 k a1 y172 t175 (wrap64 (1 + t177)) (rd y179 bt182.1) bt185.1 s0_0 bt185.2)) else (none)) else (none)))) = some (r1, r2) := H
 have A4 := Aside0.mk A40
 clear A40
 obtain ⟨y179, hy179⟩ : ∃ y_ : List Int, y_ = (([3, 9] : List Int)) := ⟨_, rfl⟩
 replace H : ((spec_l20Rd_pick.f k s0_0 t178 2).bind fun bt182 => (if 0 ≤ bt182.1 then (if bt182.1 < (y179.length : Int) then ((spec_l20Rd_pick.f k s0_0 bt182.2 9).bind fun bt185 => (spec_l20Customers.l0 k a1 y172 t175 (wrap64 (1 + t177)) (rd y179 bt182.1) bt185.1 s0_0 bt185.2)) else (none)) else (none))) = some (r1, r2) := Z5 hy179
 have Ny179 := Aside0.mk hy179
 clear hy179
 replace H := Option.bind_eq_some_iff.mp H
 obtain ⟨⟨t182, t183⟩, A50, H⟩ := H
 replace H : (if 0 ≤ t182 then (if t182 < (y179.length : Int) then ((spec_l20Rd_pick.f k s0_0 t183 9).bind fun bt185 => (spec_l20Customers.l0 k a1 y172 t175 (wrap64 (1 + t177)) (rd y179 t182) bt185.1 s0_0 bt185.2)) else (none)) else (none)) = some (r1, r2) := H
 have A5 := Aside0.mk A50
 clear A50
 by_cases c6 : 0 ≤ t182
 ·rw [if_pos c6] at H
  have c6b0 : decide (0 ≤ t182) = true := decide_eq_true c6
  clear c6
  by_cases c7 : t182 < (y179.length : Int)
  ·rw [if_pos c7] at H
   have c7b0 : decide (t182 < (y179.length : Int)) = true := decide_eq_true c7
   clear c7
   replace H := Option.bind_eq_some_iff.mp H
   obtain ⟨⟨t185, t186⟩, A80, H⟩ := H
   replace H : (spec_l20Customers.l0 k a1 y172 t175 (wrap64 (1 + t177)) (rd y179 t182) t185 s0_0 t186) = some (r1, r2) := H
   have A8 := Aside0.mk A80
   clear A80
   have H' := Aside0.mk H
   clear H
   go_enter Tryz.func87, Tryz.ntmps87
   go_wp2_with (first | ((with_reducible refine gate_dst (N := 10) rfl ?_); refine Kd.R_lit k84 _ 84 ?hg (N := 10) ?hd (xs := ([] : List (S84))) (inner := []) (ok := fun _ => True) (okp := fun _ => True) ?hr ?hp (fun _ hk => hk) trivial (Below.refl _ _) (Nat.le_refl _) Z33 ?_; (case hd => exact Z90); (case hg => exact Z90); (case hr => exact Z29); (case hp => exact Z67); intro v173 w9 ho10 hb hg_ hnew_; clear hg_ hnew_; (first | rw [← Ny172.out] at ho10 | (simp only [Int.reduceToNat] at ho10; rw [← Ny172.out] at ho10)); have HO174 := Aside0.mk (Kd.R_lower ho10 (keep_size (w := w) (g := g) (row := none) (Z8 HK))); replace HK := Aside0.mk (KeepBut.trans (Z8 HK) (KeepBut.of_below hb g none) (.inl rfl)); replace HB := Aside0.mk (below_step (Z7 HB HI0) hb); replace HI0 := Aside0.mk (IsS104.below (Z6 HI0) hb); clear hb ho10) | ((with_reducible refine gate_callee (f := 41) rfl ?_); refine gL_ 12 Tryz.func41 #[.pointer (some ⟨g, 0, none⟩), .int .i64 3] ?_; (with_reducible refine (spec_l20Rd_pick.calls k g s0_0 s0_1 3 t175 t176 w0 _ ?side1 ?side2 A3.out).mono ?_); (case side1 => exact Z6 HI0); (case side2 => exact Z96); rintro e w11 ⟨rfl, hi, hb, hk⟩; refine ⟨_, rfl, ?_⟩; replace HO174 := Aside0.mk (Kd.R_mono (Kd.R_keep (IsS104.apart (show IsS104 w0 _ g s0_0 s0_1 from Z6 HI0) (Z4 HO174) Z28) hk (fun _ h => h.2)) (fun _ h => h.1)); replace HK := Aside0.mk (KeepBut.trans (Z8 HK) hk (.inl rfl)); replace HB := Aside0.mk (hb); replace HI0 := Aside0.mk (hi); (try clear hb); (try clear hk); (try clear hi)) | ((with_reducible refine gate_callee (f := 41) rfl ?_); refine gL_ 14 Tryz.func41 #[.pointer (some ⟨g, 0, none⟩), .int .i64 5] ?_; (with_reducible refine (spec_l20Rd_pick.calls k g s0_0 t176 5 t177 t178 w0 _ ?side1 ?side2 A4.out).mono ?_); (case side1 => exact Z6 HI0); (case side2 => exact Z96); rintro e w12 ⟨rfl, hi, hb, hk⟩; refine ⟨_, rfl, ?_⟩; replace HO174 := Aside0.mk (Kd.R_mono (Kd.R_keep (IsS104.apart (show IsS104 w0 _ g s0_0 t176 from Z6 HI0) (Z4 HO174) Z28) hk (fun _ h => h.2)) (fun _ h => h.1)); replace HK := Aside0.mk (KeepBut.trans (Z8 HK) hk (.inl rfl)); replace HB := Aside0.mk (hb); replace HI0 := Aside0.mk (hi); (try clear hb); (try clear hk); (try clear hi)) | ((with_reducible refine gate_dst (N := 16) rfl ?_); refine Kd.R_lit (Kd.int .i64) _ 3 ?hg (N := 16) ?hd (xs := ([3, 9] : List Int)) (inner := [.int .i64 3, .int .i64 9]) (ok := fun _ => True) (okp := fun _ => True) ?hr ?hp (fun _ hk => hk) trivial (Below.refl _ _) (Nat.le_refl _) Z33 ?_; (case hd => exact Z90); (case hg => exact Z90); (case hr => exact Z29); (case hp => exact (Reps.one (show Kd.M (Kd.int .i64) _ _ _ 3 [.int .i64 3] from rfl) (Reps.one (show Kd.M (Kd.int .i64) _ _ _ 9 [.int .i64 9] from rfl) (Reps.none _ _)))); intro v180 w13 ho14 hb hg_ hnew_; clear hg_ hnew_; (first | rw [← Ny179.out] at ho14 | (simp only [Int.reduceToNat] at ho14; rw [← Ny179.out] at ho14)); replace HO174 := Aside0.mk (Kd.R_below (Z4 HO174) hb); have HO181 := Aside0.mk (Kd.R_lower ho14 (keep_size (w := w) (g := g) (row := none) (Z8 HK))); replace HK := Aside0.mk (KeepBut.trans (Z8 HK) (KeepBut.of_below hb g none) (.inl rfl)); replace HB := Aside0.mk (below_step (Z7 HB HI0) hb); replace HI0 := Aside0.mk (IsS104.below (Z6 HI0) hb); clear hb ho14) | ((with_reducible refine gate_callee (f := 41) rfl ?_); refine gL_ 18 Tryz.func41 #[.pointer (some ⟨g, 0, none⟩), .int .i64 2] ?_; (with_reducible refine (spec_l20Rd_pick.calls k g s0_0 t178 2 t182 t183 w0 _ ?side1 ?side2 A5.out).mono ?_); (case side1 => exact Z6 HI0); (case side2 => exact Z96); rintro e w15 ⟨rfl, hi, hb, hk⟩; refine ⟨_, rfl, ?_⟩; replace HO174 := Aside0.mk (Kd.R_mono (Kd.R_keep (IsS104.apart (show IsS104 w0 _ g s0_0 t178 from Z6 HI0) (Z4 HO174) Z28) hk (fun _ h => h.2)) (fun _ h => h.1)); replace HO181 := Aside0.mk (Kd.R_mono (Kd.R_keep (IsS104.apart (show IsS104 w0 _ g s0_0 t178 from Z6 HI0) (Z4 HO181) Z28) hk (fun _ h => h.2)) (fun _ h => h.1)); replace HK := Aside0.mk (KeepBut.trans (Z8 HK) hk (.inl rfl)); replace HB := Aside0.mk (hb); replace HI0 := Aside0.mk (hi); (try clear hb); (try clear hb2); (try clear hk); (try clear hi); obtain ⟨Ao16, co16, eo16⟩ := Kd.R_slice HO181.out; subst eo16; have p184 : 0 ≤ (t182 : Int) := of_decide_eq_true Z10; have q184 : t182 < (y179.length : Int) := of_decide_eq_true Z10; obtain ⟨ad184, e184, hx184_0⟩ := Kd.at_int (Kd.R_reads' HO181.out).2.2 t182 p184 q184; cases e184; replace p184 := eq_true p184; replace q184 := eq_true q184) | ((with_reducible refine gate_callee (f := 41) rfl ?_); refine gL_ 22 Tryz.func41 #[.pointer (some ⟨g, 0, none⟩), .int .i64 9] ?_; (with_reducible refine (spec_l20Rd_pick.calls k g s0_0 t183 9 t185 t186 w0 _ ?side1 ?side2 A8.out).mono ?_); (case side1 => exact Z6 HI0); (case side2 => exact Z96); rintro e w17 ⟨rfl, hi, hb, hk⟩; refine ⟨_, rfl, ?_⟩; replace HO174 := Aside0.mk (Kd.R_mono (Kd.R_keep (IsS104.apart (show IsS104 w0 _ g s0_0 t183 from Z6 HI0) (Z4 HO174) Z28) hk (fun _ h => h.2)) (fun _ h => h.1)); replace HO181 := Aside0.mk (Kd.R_mono (Kd.R_keep (IsS104.apart (show IsS104 w0 _ g s0_0 t183 from Z6 HI0) (Z4 HO181) Z28) hk (fun _ h => h.2)) (fun _ h => h.1)); replace HK := Aside0.mk (KeepBut.trans (Z8 HK) hk (.inl rfl)); replace HB := Aside0.mk (hb); replace HI0 := Aside0.mk (hi); (try clear hb); (try clear hk); (try clear hi)))
   go_loopg [5, 6, 9] k (fun kq v5 v6 v9 w' => ∃ (x5_1 : List (S84)) (x6_1 : Int) (x9_1 : Int) (x1001_1 : Int), v6 = .int .i64 x6_1 ∧ v9 = .int .i64 x9_1 ∧ Aside0 (spec_l20Customers.l0 kq a1 x5_1 x6_1 (wrap64 (1 + t177)) (rd y179 t182) x9_1 s0_0 x1001_1 = some (r1, r2)) ∧ Aside0 (kq ≤ k) ∧ Aside0 (Kd.R k84 84 w' w.heap.size (fun _ => True) v5 x5_1) ∧ Aside0 (IsS104 w0 w' g s0_0 x1001_1) ∧ Aside0 (KeepBut w w' g none) ∧ Aside0 (Below w0.heap.size w0 w'))
   case atStart => exact ⟨(y172), (t175), (t185), (t186), Z14, Z14, H', ⟨Nat.le_refl _⟩, ⟨Z4 HO174⟩, ⟨Z6 HI0⟩, ⟨Z8 HK⟩, ⟨Z7 HB HI0⟩⟩
   case round =>
    clear H'
    try clear p1
    try clear q1
    try clear hx1
    try clear p2
    try clear c4
    try clear c6
    try clear c6b0
    try clear p6
    try clear c7
    try clear c7b0
    try clear c8
    try clear hx184_0
    try clear p184
    try clear q184
    obtain ⟨x5_1, x6_1, x9_1, x1001_1, rfl, rfl, HA, HK1, HO_5, HI0, HK, HB⟩ := hrel
    cases gk with
    | zero => exact absurd HA.out (by simp [spec_l20Customers.l0])
    | succ k1 =>
     have H := HA.out
     clear HA
     simp only [spec_l20Customers.l0] at H
     by_cases c18 : x9_1 > 0
     ·rw [if_pos c18] at H
      have c18b0 : decide (0 < x9_1) = true := decide_eq_true c18
      clear c18
      replace H := Option.bind_eq_some_iff.mp H
      obtain ⟨⟨t187, t188⟩, A190, H⟩ := H
      replace H : (if x5_1.length < 8796093022208 then ((spec_l20Rd_pick.f k1 s0_0 t188 (wrap64 ((wrap64 (1 + t177)) + 1))).bind fun bt192 => (spec_l20Customers.l0 k1 a1 (x5_1 ++ [(⟨x6_1, wrap64 (1 + t187)⟩ : S84)]) (wrap64 (x6_1 + bt192.1)) (wrap64 (1 + t177)) (rd y179 t182) (wrap64 (x9_1 - 1)) s0_0 bt192.2)) else (none)) = some (r1, r2) := H
      have A19 := Aside0.mk A190
      clear A190
      by_cases c20 : x5_1.length < 8796093022208
      ·rw [if_pos c20] at H
       have LMc20 := Aside0.mk c20
       clear c20
       obtain ⟨y189, hy189⟩ : ∃ y_ : List (S84), y_ = (x5_1 ++ [(⟨x6_1, wrap64 (1 + t187)⟩ : S84)]) := ⟨_, rfl⟩
       replace H : ((spec_l20Rd_pick.f k1 s0_0 t188 (wrap64 ((wrap64 (1 + t177)) + 1))).bind fun bt192 => (spec_l20Customers.l0 k1 a1 y189 (wrap64 (x6_1 + bt192.1)) (wrap64 (1 + t177)) (rd y179 t182) (wrap64 (x9_1 - 1)) s0_0 bt192.2)) = some (r1, r2) := Z5 hy189
       have Ny189 := Aside0.mk hy189
       clear hy189
       replace H := Option.bind_eq_some_iff.mp H
       obtain ⟨⟨t192, t193⟩, A210, H⟩ := H
       replace H : (spec_l20Customers.l0 k1 a1 y189 (wrap64 (x6_1 + t192)) (wrap64 (1 + t177)) (rd y179 t182) (wrap64 (x9_1 - 1)) s0_0 t193) = some (r1, r2) := H
       have A21 := Aside0.mk A210
       clear A210
       have H' := Aside0.mk H
       clear H
       go_wp2_with (first | ((with_reducible refine gate_callee (f := 41) rfl ?_); refine gL_ 31 Tryz.func41 #[.pointer (some ⟨g, 0, none⟩), .int .i64 (rd y179 t182)] ?_; (with_reducible refine (spec_l20Rd_pick.calls k1 g s0_0 x1001_1 (rd y179 t182) t187 t188 w0 _ ?side1 ?side2 A19.out).mono ?_); (case side1 => exact Z6 HI0); (case side2 => exact Z96); rintro e w22 ⟨rfl, hi, hb, hk⟩; refine ⟨_, rfl, ?_⟩; replace HO_5 := Aside0.mk (Kd.R_mono (Kd.R_keep (IsS104.apart (show IsS104 w0 _ g s0_0 x1001_1 from Z6 HI0) (Z4 HO_5) Z28) hk (fun _ h => h.2)) (fun _ h => h.1)); replace HK := Aside0.mk (KeepBut.trans (Z8 HK) hk (.inl rfl)); replace HB := Aside0.mk (hb); replace HI0 := Aside0.mk (hi); (try clear hb); (try clear hk); (try clear hi)) | ((with_reducible refine gate_builtin (b := .append) (xs := #[.tmp 27, .tmp 34]) rfl ?_); at_builtin; refine Kd.R_append k84 w.heap.size rfl (.tmp 27) (.tmp 34) 28 84 (.agg #[(.int .i64 0), (.int .i64 0)]) 16 rfl Tryz.underlying28 info84 rfl Z28 Z32 u5 x5_1 (⟨x6_1, wrap64 (1 + t187)⟩ : S84) [.int .i64 x6_1, .int .i64 (wrap64 (1 + t187))] (fun _ => True) (fun _ => False) rfl rfl ?aP (fun _ hk => hk.elim) ?aF ?aO (Below.refl _ _) ?aS ?aL ?_; (case aP => exact k84_mkM _ _ _ (⟨x6_1, wrap64 (1 + t187)⟩ : S84)); (case aF => exact Z77); (case aO => exact (Z4 HO_5)); (case aS => exact Z95); (case aL => exact Z35 LMc20); intro v190 w23 ho hb hg hat; rw [← Ny189.out] at ho; replace HB := Aside0.mk (below_weaken (Z7 HB HI0) HL.out hb); replace HI0 := Aside0.mk (IsS104.grown (Z6 HI0) hg (IsS104.own_ne HI0.out HO_5.out Z28)); replace HK := Aside0.mk (KeepBut.trans (Z8 HK) (KeepBut.of_grown hg g) (Kd.R_base2 HO_5.out)); have HO191 := Aside0.mk (ho); clear HO_5; clear ho hb hg hat) | ((with_reducible refine gate_callee (f := 41) rfl ?_); refine gL_ 40 Tryz.func41 #[.pointer (some ⟨g, 0, none⟩), .int .i64 (wrap64 ((wrap64 (1 + t177)) + 1))] ?_; (with_reducible refine (spec_l20Rd_pick.calls k1 g s0_0 t188 (wrap64 ((wrap64 (1 + t177)) + 1)) t192 t193 w0 _ ?side1 ?side2 A21.out).mono ?_); (case side1 => exact Z6 HI0); (case side2 => exact Z96); rintro e w24 ⟨rfl, hi, hb, hk⟩; refine ⟨_, rfl, ?_⟩; replace HO191 := Aside0.mk (Kd.R_mono (Kd.R_keep (IsS104.apart (show IsS104 w0 _ g s0_0 t188 from Z6 HI0) (Z4 HO191) Z28) hk (fun _ h => h.2)) (fun _ h => h.1)); replace HK := Aside0.mk (KeepBut.trans (Z8 HK) hk (.inl rfl)); replace HB := Aside0.mk (hb); replace HI0 := Aside0.mk (hi); (try clear hb); (try clear hk); (try clear hi)))
       go_roundg k1
       case measure => have := HK1.out; omega
       case rel => exact ⟨(y189), (wrap64 (x6_1 + t192)), (wrap64 (x9_1 - 1)), (t193), Z14, Z14, H', ⟨Z35 HK1⟩, ⟨Z4 HO191⟩, ⟨Z6 HI0⟩, ⟨Z8 HK⟩, ⟨Z7 HB HI0⟩⟩
      ·rw [if_neg c20] at H
       exact absurd H Z33
     ·rw [if_neg c18] at H
      have c18b0 : decide (0 < x9_1) = false := decide_eq_false c18
      clear c18
      replace H := Option.bind_eq_some_iff.mp H
      obtain ⟨⟨t194, t195⟩, A250, H⟩ := H
      replace H : (if t194 = true then ((spec_l20Rd_pick.f k1 s0_0 t195 3).bind fun bt196 => (if bt196.1 = 0 then (some ((([(⟨3, 1⟩ : S84), (⟨2, 1⟩ : S84)] : List (S84))), bt196.2)) else (if bt196.1 = 1 then (if x5_1.length < 8796093022208 then (some ((x5_1 ++ [(⟨60, 0⟩ : S84)]), bt196.2)) else (none)) else ((some (([(-1), 61] : List Int) : List Int)).bind fun y204 => ((spec_l20Rd_pick.f k1 s0_0 bt196.2 2).bind fun bt207 => (if 0 ≤ bt207.1 then (if bt207.1 < (y204.length : Int) then (some ((([(⟨rd y204 bt207.1, 1⟩ : S84)] : List (S84))), bt207.2)) else (none)) else (none))))))) else (some (x5_1, t195))) = some (r1, r2) := H
      have A25 := Aside0.mk A250
      clear A250
      by_cases c26 : t194 = true
      ·subst c26
       have H1 : ((spec_l20Rd_pick.f k1 s0_0 t195 3).bind fun bt196 => (if bt196.1 = 0 then (some ((([(⟨3, 1⟩ : S84), (⟨2, 1⟩ : S84)] : List (S84))), bt196.2)) else (if bt196.1 = 1 then (if x5_1.length < 8796093022208 then (some ((x5_1 ++ [(⟨60, 0⟩ : S84)]), bt196.2)) else (none)) else ((some (([(-1), 61] : List Int) : List Int)).bind fun y204 => ((spec_l20Rd_pick.f k1 s0_0 bt196.2 2).bind fun bt207 => (if 0 ≤ bt207.1 then (if bt207.1 < (y204.length : Int) then (some ((([(⟨rd y204 bt207.1, 1⟩ : S84)] : List (S84))), bt207.2)) else (none)) else (none))))))) = some (r1, r2) := Z37
       clear H
       have H := H1
       clear H1
       replace H := Option.bind_eq_some_iff.mp H
       obtain ⟨⟨t196, t197⟩, A270, H⟩ := H
       replace H : (if t196 = 0 then (some ((([(⟨3, 1⟩ : S84), (⟨2, 1⟩ : S84)] : List (S84))), t197)) else (if t196 = 1 then (if x5_1.length < 8796093022208 then (some ((x5_1 ++ [(⟨60, 0⟩ : S84)]), t197)) else (none)) else ((some (([(-1), 61] : List Int) : List Int)).bind fun y204 => ((spec_l20Rd_pick.f k1 s0_0 t197 2).bind fun bt207 => (if 0 ≤ bt207.1 then (if bt207.1 < (y204.length : Int) then (some ((([(⟨rd y204 bt207.1, 1⟩ : S84)] : List (S84))), bt207.2)) else (none)) else (none)))))) = some (r1, r2) := H
       have A27 := Aside0.mk A270
       clear A270
       by_cases c28 : t196 = 0
       ·rw [if_pos c28] at H
        have c28b0 : (t196 == 0) = true := beq_iff_eq.mpr c28
        have c28b1 : (t196 != 0) = false := bne_eq_false_iff_eq.mpr c28
        clear c28
        obtain ⟨y198, hy198⟩ : ∃ y_ : List (S84), y_ = (([(⟨3, 1⟩ : S84), (⟨2, 1⟩ : S84)] : List (S84))) := ⟨_, rfl⟩
        replace H : (some (y198, t197)) = some (r1, r2) := Z5 hy198
        have Ny198 := Aside0.mk hy198
        clear hy198
        simp only [Option.some.injEq, Prod.mk.injEq] at H
        obtain ⟨rfl, rfl⟩ := H
        go_wp2_with (first | ((with_reducible refine gate_callee (f := 47) rfl ?_); refine gL_ 44 Tryz.func47 #[.pointer (some ⟨g, 0, none⟩), .int .i64 a1] ?_; (with_reducible refine (spec_l20Rd_odd.calls k1 g s0_0 x1001_1 a1 true t195 w0 _ ?side1 ?side2 A25.out).mono ?_); (case side1 => exact Z6 HI0); (case side2 => exact Z96); rintro e w29 ⟨rfl, hi, hb, hk⟩; refine ⟨_, rfl, ?_⟩; replace HO_5 := Aside0.mk (Kd.R_mono (Kd.R_keep (IsS104.apart (show IsS104 w0 _ g s0_0 x1001_1 from Z6 HI0) (Z4 HO_5) Z28) hk (fun _ h => h.2)) (fun _ h => h.1)); replace HK := Aside0.mk (KeepBut.trans (Z8 HK) hk (.inl rfl)); replace HB := Aside0.mk (hb); replace HI0 := Aside0.mk (hi); (try clear hb); (try clear hk); (try clear hi)) | ((with_reducible refine gate_callee (f := 41) rfl ?_); refine gL_ 46 Tryz.func41 #[.pointer (some ⟨g, 0, none⟩), .int .i64 3] ?_; (with_reducible refine (spec_l20Rd_pick.calls k1 g s0_0 t195 3 t196 t197 w0 _ ?side1 ?side2 A27.out).mono ?_); (case side1 => exact Z6 HI0); (case side2 => exact Z96); rintro e w30 ⟨rfl, hi, hb, hk⟩; refine ⟨_, rfl, ?_⟩; replace HO_5 := Aside0.mk (Kd.R_mono (Kd.R_keep (IsS104.apart (show IsS104 w0 _ g s0_0 t195 from Z6 HI0) (Z4 HO_5) Z28) hk (fun _ h => h.2)) (fun _ h => h.1)); replace HK := Aside0.mk (KeepBut.trans (Z8 HK) hk (.inl rfl)); replace HB := Aside0.mk (hb); replace HI0 := Aside0.mk (hi); (try clear hb); (try clear hk); (try clear hi)) | ((with_reducible refine gate_dst (N := 58) rfl ?_); refine Kd.R_lit k84 _ 84 ?hg (N := 58) ?hd (xs := ([(⟨3, 1⟩ : S84), (⟨2, 1⟩ : S84)] : List (S84))) (inner := [.int .i64 3, .int .i64 1, .int .i64 2, .int .i64 1]) (ok := fun _ => True) (okp := fun _ => True) ?hr ?hp (fun _ hk => hk) trivial (Below.refl _ _) (Nat.le_refl _) Z33 ?_; (case hd => exact Z90); (case hg => exact Z90); (case hr => exact Z29); (case hp => exact (Reps.c2 (show Kd.M k84 _ _ _ (⟨3, 1⟩ : S84) [.int .i64 3, .int .i64 1] from (k84_mkM _ _ _ (⟨3, 1⟩ : S84) )) (Reps.c2 (show Kd.M k84 _ _ _ (⟨2, 1⟩ : S84) [.int .i64 2, .int .i64 1] from (k84_mkM _ _ _ (⟨2, 1⟩ : S84) )) (Reps.none _ _)))); intro v199 w31 ho32 hb hg_ hnew_; clear hg_ hnew_; (first | rw [← Ny198.out] at ho32 | (simp only [Int.reduceToNat] at ho32; rw [← Ny198.out] at ho32)); have HO200 := Aside0.mk (Kd.R_lower (Kd.R_new' ho32 (Kd.R_lt (Z4 HO_5))) (keep_size (w := w) (g := g) (row := none) (Z8 HK))); replace HO_5 := Aside0.mk (Kd.R_elder' (Z4 HO_5) (Kd.R_base ho32) hb); replace HK := Aside0.mk (KeepBut.trans (Z8 HK) (KeepBut.of_below hb g none) (.inl rfl)); replace HB := Aside0.mk (below_step (Z7 HB HI0) hb); replace HI0 := Aside0.mk (IsS104.below (Z6 HI0) hb); clear hb ho32))
        go_ret
        exact ⟨_, Z11, Z38 HO200, Z6 HI0, Z7 HB HI0, Z8 HK⟩
       ·rw [if_neg c28] at H
        have c28b0 : (t196 == 0) = false := beq_eq_false_iff_ne.mpr c28
        have c28b1 : (t196 != 0) = true := bne_iff_ne.mpr c28
        by_cases c33 : t196 = 1
        ·rw [if_pos c33] at H
         have c33b0 : (t196 == 1) = true := beq_iff_eq.mpr c33
         have c33b1 : (t196 != 1) = false := bne_eq_false_iff_eq.mpr c33
         clear c33
         by_cases c34 : x5_1.length < 8796093022208
         ·rw [if_pos c34] at H
          have LMc34 := Aside0.mk c34
          clear c34
          obtain ⟨y201, hy201⟩ : ∃ y_ : List (S84), y_ = (x5_1 ++ [(⟨60, 0⟩ : S84)]) := ⟨_, rfl⟩
          replace H : (some (y201, t197)) = some (r1, r2) := Z5 hy201
          have Ny201 := Aside0.mk hy201
          clear hy201
          simp only [Option.some.injEq, Prod.mk.injEq] at H
          obtain ⟨rfl, rfl⟩ := H
          go_wp2_with (first | ((with_reducible refine gate_callee (f := 47) rfl ?_); refine gL_ 44 Tryz.func47 #[.pointer (some ⟨g, 0, none⟩), .int .i64 a1] ?_; (with_reducible refine (spec_l20Rd_odd.calls k1 g s0_0 x1001_1 a1 true t195 w0 _ ?side1 ?side2 A25.out).mono ?_); (case side1 => exact Z6 HI0); (case side2 => exact Z96); rintro e w35 ⟨rfl, hi, hb, hk⟩; refine ⟨_, rfl, ?_⟩; replace HO_5 := Aside0.mk (Kd.R_mono (Kd.R_keep (IsS104.apart (show IsS104 w0 _ g s0_0 x1001_1 from Z6 HI0) (Z4 HO_5) Z28) hk (fun _ h => h.2)) (fun _ h => h.1)); replace HK := Aside0.mk (KeepBut.trans (Z8 HK) hk (.inl rfl)); replace HB := Aside0.mk (hb); replace HI0 := Aside0.mk (hi); (try clear hb); (try clear hk); (try clear hi)) | ((with_reducible refine gate_callee (f := 41) rfl ?_); refine gL_ 46 Tryz.func41 #[.pointer (some ⟨g, 0, none⟩), .int .i64 3] ?_; (with_reducible refine (spec_l20Rd_pick.calls k1 g s0_0 t195 3 t196 t197 w0 _ ?side1 ?side2 A27.out).mono ?_); (case side1 => exact Z6 HI0); (case side2 => exact Z96); rintro e w36 ⟨rfl, hi, hb, hk⟩; refine ⟨_, rfl, ?_⟩; replace HO_5 := Aside0.mk (Kd.R_mono (Kd.R_keep (IsS104.apart (show IsS104 w0 _ g s0_0 t195 from Z6 HI0) (Z4 HO_5) Z28) hk (fun _ h => h.2)) (fun _ h => h.1)); replace HK := Aside0.mk (KeepBut.trans (Z8 HK) hk (.inl rfl)); replace HB := Aside0.mk (hb); replace HI0 := Aside0.mk (hi); (try clear hb); (try clear hk); (try clear hi)) | ((with_reducible refine gate_builtin (b := .append) (xs := #[.tmp 61, .tmp 63]) rfl ?_); at_builtin; refine Kd.R_append k84 w.heap.size rfl (.tmp 61) (.tmp 63) 28 84 (.agg #[(.int .i64 0), (.int .i64 0)]) 16 rfl Tryz.underlying28 info84 rfl Z28 Z32 u5 x5_1 (⟨60, 0⟩ : S84) [.int .i64 60, .int .i64 0] (fun _ => True) (fun _ => False) rfl rfl ?aP (fun _ hk => hk.elim) ?aF ?aO (Below.refl _ _) ?aS ?aL ?_; (case aP => exact k84_mkM _ _ _ (⟨60, 0⟩ : S84)); (case aF => exact Z77); (case aO => exact (Z4 HO_5)); (case aS => exact Z95); (case aL => exact Z35 LMc34); intro v202 w37 ho hb hg hat; rw [← Ny201.out] at ho; replace HB := Aside0.mk (below_weaken (Z7 HB HI0) HL.out hb); replace HI0 := Aside0.mk (IsS104.grown (Z6 HI0) hg (IsS104.own_ne HI0.out HO_5.out Z28)); replace HK := Aside0.mk (KeepBut.trans (Z8 HK) (KeepBut.of_grown hg g) (Kd.R_base2 HO_5.out)); have HO203 := Aside0.mk (ho); clear HO_5; clear ho hb hg hat))
          go_ret
          exact ⟨_, Z11, Z4 HO203, Z6 HI0, Z7 HB HI0, Z8 HK⟩
         ·rw [if_neg c34] at H
          exact absurd H Z33
        ·rw [if_neg c33] at H
         have c33b0 : (t196 == 1) = false := beq_eq_false_iff_ne.mpr c33
         have c33b1 : (t196 != 1) = true := bne_iff_ne.mpr c33
         obtain ⟨y204, hy204⟩ : ∃ y_ : List Int, y_ = (([(-1), 61] : List Int)) := ⟨_, rfl⟩
         replace H : ((spec_l20Rd_pick.f k1 s0_0 t197 2).bind fun bt207 => (if 0 ≤ bt207.1 then (if bt207.1 < (y204.length : Int) then (some ((([(⟨rd y204 bt207.1, 1⟩ : S84)] : List (S84))), bt207.2)) else (none)) else (none))) = some (r1, r2) := Z5 hy204
         have Ny204 := Aside0.mk hy204
         clear hy204
         replace H := Option.bind_eq_some_iff.mp H
         obtain ⟨⟨t207, t208⟩, A380, H⟩ := H
         replace H : (if 0 ≤ t207 then (if t207 < (y204.length : Int) then (some ((([(⟨rd y204 t207, 1⟩ : S84)] : List (S84))), t208)) else (none)) else (none)) = some (r1, r2) := H
         have A38 := Aside0.mk A380
         clear A380
         by_cases c39 : 0 ≤ t207
         ·rw [if_pos c39] at H
          have c39b0 : decide (0 ≤ t207) = true := decide_eq_true c39
          clear c39
          by_cases c40 : t207 < (y204.length : Int)
          ·rw [if_pos c40] at H
           have c40b0 : decide (t207 < (y204.length : Int)) = true := decide_eq_true c40
           clear c40
           obtain ⟨y210, hy210⟩ : ∃ y_ : List (S84), y_ = (([(⟨rd y204 t207, 1⟩ : S84)] : List (S84))) := ⟨_, rfl⟩
           replace H : (some (y210, t208)) = some (r1, r2) := Z5 hy210
           have Ny210 := Aside0.mk hy210
           clear hy210
           simp only [Option.some.injEq, Prod.mk.injEq] at H
           obtain ⟨rfl, rfl⟩ := H
           go_wp2_with (first | ((with_reducible refine gate_callee (f := 47) rfl ?_); refine gL_ 44 Tryz.func47 #[.pointer (some ⟨g, 0, none⟩), .int .i64 a1] ?_; (with_reducible refine (spec_l20Rd_odd.calls k1 g s0_0 x1001_1 a1 true t195 w0 _ ?side1 ?side2 A25.out).mono ?_); (case side1 => exact Z6 HI0); (case side2 => exact Z96); rintro e w41 ⟨rfl, hi, hb, hk⟩; refine ⟨_, rfl, ?_⟩; replace HO_5 := Aside0.mk (Kd.R_mono (Kd.R_keep (IsS104.apart (show IsS104 w0 _ g s0_0 x1001_1 from Z6 HI0) (Z4 HO_5) Z28) hk (fun _ h => h.2)) (fun _ h => h.1)); replace HK := Aside0.mk (KeepBut.trans (Z8 HK) hk (.inl rfl)); replace HB := Aside0.mk (hb); replace HI0 := Aside0.mk (hi); (try clear hb); (try clear hk); (try clear hi)) | ((with_reducible refine gate_callee (f := 41) rfl ?_); refine gL_ 46 Tryz.func41 #[.pointer (some ⟨g, 0, none⟩), .int .i64 3] ?_; (with_reducible refine (spec_l20Rd_pick.calls k1 g s0_0 t195 3 t196 t197 w0 _ ?side1 ?side2 A27.out).mono ?_); (case side1 => exact Z6 HI0); (case side2 => exact Z96); rintro e w42 ⟨rfl, hi, hb, hk⟩; refine ⟨_, rfl, ?_⟩; replace HO_5 := Aside0.mk (Kd.R_mono (Kd.R_keep (IsS104.apart (show IsS104 w0 _ g s0_0 t195 from Z6 HI0) (Z4 HO_5) Z28) hk (fun _ h => h.2)) (fun _ h => h.1)); replace HK := Aside0.mk (KeepBut.trans (Z8 HK) hk (.inl rfl)); replace HB := Aside0.mk (hb); replace HI0 := Aside0.mk (hi); (try clear hb); (try clear hk); (try clear hi)) | ((with_reducible refine gate_dst (N := 47) rfl ?_); refine Kd.R_lit (Kd.int .i64) _ 3 ?hg (N := 47) ?hd (xs := ([(-1), 61] : List Int)) (inner := [.int .i64 (-1), .int .i64 61]) (ok := fun _ => True) (okp := fun _ => True) ?hr ?hp (fun _ hk => hk) trivial (Below.refl _ _) (Nat.le_refl _) Z33 ?_; (case hd => exact Z90); (case hg => exact Z90); (case hr => exact Z29); (case hp => exact (Reps.one (show Kd.M (Kd.int .i64) _ _ _ (-1) [.int .i64 (-1)] from rfl) (Reps.one (show Kd.M (Kd.int .i64) _ _ _ 61 [.int .i64 61] from rfl) (Reps.none _ _)))); intro v205 w43 ho44 hb hg_ hnew_; clear hg_ hnew_; (first | rw [← Ny204.out] at ho44 | (simp only [Int.reduceToNat] at ho44; rw [← Ny204.out] at ho44)); replace HO_5 := Aside0.mk (Kd.R_below (Z4 HO_5) hb); have HO206 := Aside0.mk (Kd.R_lower ho44 (keep_size (w := w) (g := g) (row := none) (Z8 HK))); replace HK := Aside0.mk (KeepBut.trans (Z8 HK) (KeepBut.of_below hb g none) (.inl rfl)); replace HB := Aside0.mk (below_step (Z7 HB HI0) hb); replace HI0 := Aside0.mk (IsS104.below (Z6 HI0) hb); clear hb ho44) | ((with_reducible refine gate_callee (f := 41) rfl ?_); refine gL_ 49 Tryz.func41 #[.pointer (some ⟨g, 0, none⟩), .int .i64 2] ?_; (with_reducible refine (spec_l20Rd_pick.calls k1 g s0_0 t197 2 t207 t208 w0 _ ?side1 ?side2 A38.out).mono ?_); (case side1 => exact Z6 HI0); (case side2 => exact Z96); rintro e w45 ⟨rfl, hi, hb, hk⟩; refine ⟨_, rfl, ?_⟩; replace HO_5 := Aside0.mk (Kd.R_mono (Kd.R_keep (IsS104.apart (show IsS104 w0 _ g s0_0 t197 from Z6 HI0) (Z4 HO_5) Z28) hk (fun _ h => h.2)) (fun _ h => h.1)); replace HO206 := Aside0.mk (Kd.R_mono (Kd.R_keep (IsS104.apart (show IsS104 w0 _ g s0_0 t197 from Z6 HI0) (Z4 HO206) Z28) hk (fun _ h => h.2)) (fun _ h => h.1)); replace HK := Aside0.mk (KeepBut.trans (Z8 HK) hk (.inl rfl)); replace HB := Aside0.mk (hb); replace HI0 := Aside0.mk (hi); (try clear hb); (try clear hb2); (try clear hk); (try clear hi); obtain ⟨Ao46, co46, eo46⟩ := Kd.R_slice HO206.out; subst eo46; have p209 : 0 ≤ (t207 : Int) := of_decide_eq_true Z10; have q209 : t207 < (y204.length : Int) := of_decide_eq_true Z10; obtain ⟨ad209, e209, hx209_0⟩ := Kd.at_int (Kd.R_reads' HO206.out).2.2 t207 p209 q209; cases e209; replace p209 := eq_true p209; replace q209 := eq_true q209) | ((with_reducible refine gate_dst (N := 53) rfl ?_); refine Kd.R_lit k84 _ 84 ?hg (N := 53) ?hd (xs := ([(⟨rd y204 t207, 1⟩ : S84)] : List (S84))) (inner := [.int .i64 (rd y204 t207), .int .i64 1]) (ok := fun _ => True) (okp := fun _ => True) ?hr ?hp (fun _ hk => hk) trivial (Below.refl _ _) (Nat.le_refl _) Z33 ?_; (case hd => exact Z90); (case hg => exact Z90); (case hr => exact Z29); (case hp => exact (Reps.c2 (show Kd.M k84 _ _ _ (⟨rd y204 t207, 1⟩ : S84) [.int .i64 (rd y204 t207), .int .i64 1] from (k84_mkM _ _ _ (⟨rd y204 t207, 1⟩ : S84) )) (Reps.none _ _))); intro v211 w47 ho48 hb hg_ hnew_; clear hg_ hnew_; (first | rw [← Ny210.out] at ho48 | (simp only [Int.reduceToNat] at ho48; rw [← Ny210.out] at ho48)); replace HO206 := Aside0.mk (Kd.R_below (Z4 HO206) hb); have HO212 := Aside0.mk (Kd.R_lower (Kd.R_new' ho48 (Kd.R_lt (Z4 HO_5))) (keep_size (w := w) (g := g) (row := none) (Z8 HK))); replace HO_5 := Aside0.mk (Kd.R_elder' (Z4 HO_5) (Kd.R_base ho48) hb); replace HK := Aside0.mk (KeepBut.trans (Z8 HK) (KeepBut.of_below hb g none) (.inl rfl)); replace HB := Aside0.mk (below_step (Z7 HB HI0) hb); replace HI0 := Aside0.mk (IsS104.below (Z6 HI0) hb); clear hb ho48))
           go_ret
           exact ⟨_, Z11, Z38 HO212, Z6 HI0, Z7 HB HI0, Z8 HK⟩
          ·rw [if_neg c40] at H
           exact absurd H Z33
         ·rw [if_neg c39] at H
          exact absurd H Z33
      ·replace c26 := Bool.eq_false_iff.mpr c26
       subst c26
       have H1 : (some (x5_1, t195)) = some (r1, r2) := Z24
       clear H
       have H := H1
       clear H1
       simp only [Option.some.injEq, Prod.mk.injEq] at H
       obtain ⟨rfl, rfl⟩ := H
       go_wp2_with (first | ((with_reducible refine gate_callee (f := 47) rfl ?_); refine gL_ 44 Tryz.func47 #[.pointer (some ⟨g, 0, none⟩), .int .i64 a1] ?_; (with_reducible refine (spec_l20Rd_odd.calls k1 g s0_0 x1001_1 a1 false t195 w0 _ ?side1 ?side2 A25.out).mono ?_); (case side1 => exact Z6 HI0); (case side2 => exact Z96); rintro e w49 ⟨rfl, hi, hb, hk⟩; refine ⟨_, rfl, ?_⟩; replace HO_5 := Aside0.mk (Kd.R_mono (Kd.R_keep (IsS104.apart (show IsS104 w0 _ g s0_0 x1001_1 from Z6 HI0) (Z4 HO_5) Z28) hk (fun _ h => h.2)) (fun _ h => h.1)); replace HK := Aside0.mk (KeepBut.trans (Z8 HK) hk (.inl rfl)); replace HB := Aside0.mk (hb); replace HI0 := Aside0.mk (hi); (try clear hb); (try clear hk); (try clear hi)))
       go_ret
       exact ⟨_, Z11, Z4 HO_5, Z6 HI0, Z7 HB HI0, Z8 HK⟩
  ·rw [if_neg c7] at H
   exact absurd H Z33
 ·rw [if_neg c6] at H
  exact absurd H Z33

/-! ### spec_l20Written: function 40 -/
def spec_l20Written.l0 : Nat → List (S39) → List (S39) → Int → List Int → Int → Option ((List (S39)) × Int)
  | 0, _, _, _, _, _ => none
  | k + 1, x3, x4, x5, x1000, x1001 => if x5 < (x4.length : Int) then (if 0 ≤ x5 then ((spec_DeedText.f k ((rd_T39 x4 x5).f0) ((rd_T39 x4 x5).f1) ((rd_T39 x4 x5).f2)).bind fun t225 => (if t225.toList = ([] : List UInt8) then (spec_l20Written.l0 k x3 x4 (wrap64 (x5 + 1)) x1000 x1001) else (if x3.length < 5864062014805 then (spec_l20Written.l0 k (x3 ++ [(⟨(rd_T39 x4 x5).f0, (rd_T39 x4 x5).f1, (rd_T39 x4 x5).f2⟩ : S39)]) x4 (wrap64 (x5 + 1)) x1000 x1001) else (none)))) else (none)) else (some (x3, x1001))
def spec_l20Written.f (k : Nat) (s0_0 : List Int) (s0_1 : Int) : Option ((List (S39)) × Int) := (spec_l20Customers.f k s0_0 s0_1 0).bind fun bt216 => ((spec_l20Deeds.f k s0_0 bt216.2 bt216.1).bind fun bt220 => (spec_l20Written.l0 k (([] : List (S39))) bt220.1 0 s0_0 bt220.2))
set_option maxHeartbeats 8000000 in
set_option maxRecDepth 100000 in
theorem spec_l20Written.calls (k : Nat) (g : Nat) (s0_0 : List Int) (s0_1 : Int) (r1 : List (S39)) (r2 : Int) (w0 w : World) (hI : IsS104 w0 w g s0_0 s0_1) (hB : Below w0.heap.size w0 w) (h : spec_l20Written.f k s0_0 s0_1 = some (r1, r2)) :
 Calls Tryz.prog 40 #[.pointer (some ⟨g, 0, none⟩)] w fun e w' => ∃ v0_ : Value, e = .returned (v0_) ∧ Kd.R k39 39 w' w.heap.size (fun _ => True) v0_ r1 ∧ IsS104 w0 w' g s0_0 r2 ∧ Below w0.heap.size w0 w' ∧ KeepBut w w' g none := by
 have hu39 := Tryz.underlying39
 have HI0 := Aside0.mk hI
 have HK := Aside0.mk (KeepBut.refl w g none)
 have HL := Aside0.mk hB.size
 clear hI
 have HW0 := Aside0.mk hB.size
 have HB := Aside0.mk hB
 clear hB
 have H : ((spec_l20Customers.f k s0_0 s0_1 0).bind fun bt216 => ((spec_l20Deeds.f k s0_0 bt216.2 bt216.1).bind fun bt220 => (spec_l20Written.l0 k (([] : List (S39))) bt220.1 0 s0_0 bt220.2))) = some (r1, r2) := h
 clear h
 obtain ⟨y213, hy213⟩ : ∃ y_ : List (S39), y_ = (([] : List (S39))) := ⟨_, rfl⟩
 replace H : ((spec_l20Customers.f k s0_0 s0_1 0).bind fun bt216 => ((spec_l20Deeds.f k s0_0 bt216.2 bt216.1).bind fun bt220 => (spec_l20Written.l0 k y213 bt220.1 0 s0_0 bt220.2))) = some (r1, r2) := Z5 hy213
 have Ny213 := Aside0.mk hy213
 clear hy213
 replace H := Option.bind_eq_some_iff.mp H
 obtain ⟨⟨t216, t219⟩, A20, H⟩ := H
 replace H : ((spec_l20Deeds.f k s0_0 t219 t216).bind fun bt220 => (spec_l20Written.l0 k y213 bt220.1 0 s0_0 bt220.2)) = some (r1, r2) := H
 have A2 := Aside0.mk A20
 clear A20
 replace H := Option.bind_eq_some_iff.mp H
 obtain ⟨⟨t220, t223⟩, A30, H⟩ := H
 replace H : (spec_l20Written.l0 k y213 t220 0 s0_0 t223) = some (r1, r2) := H
 have A3 := Aside0.mk A30
 clear A30
 have H' := Aside0.mk H
 clear H
 go_enter Tryz.func40, Tryz.ntmps40
 go_wp2_with (first | ((with_reducible refine gate_dst (N := 6) rfl ?_); refine Kd.R_lit k39 _ 39 ?hg (N := 6) ?hd (xs := ([] : List (S39))) (inner := []) (ok := fun _ => True) (okp := fun _ => True) ?hr ?hp (fun _ hk => hk) trivial (Below.refl _ _) (Nat.le_refl _) Z33 ?_; (case hd => exact Z90); (case hg => exact Z90); (case hr => exact Z29); (case hp => exact Z67); intro v214 w4 ho5 hb hg_ hnew_; clear hg_ hnew_; (first | rw [← Ny213.out] at ho5 | (simp only [Int.reduceToNat] at ho5; rw [← Ny213.out] at ho5)); have HO215 := Aside0.mk (Kd.R_lower ho5 (keep_size (w := w) (g := g) (row := none) (Z8 HK))); replace HK := Aside0.mk (KeepBut.trans (Z8 HK) (KeepBut.of_below hb g none) (.inl rfl)); replace HB := Aside0.mk (below_step (Z7 HB HI0) hb); replace HI0 := Aside0.mk (IsS104.below (Z6 HI0) hb); clear hb ho5) | ((with_reducible refine gate_callee (f := 87) rfl ?_); refine gL_ 9 Tryz.func87 #[.pointer (some ⟨g, 0, none⟩), .int .i64 0] ?_; (with_reducible refine (spec_l20Customers.calls k g s0_0 s0_1 0 t216 t219 w0 _ ?side1 ?side2 A2.out).mono ?_); (case side1 => exact Z6 HI0); (case side2 => exact Z96); rintro e w6 ⟨v217, rfl, ho0, hi, hb, hk⟩; refine ⟨_, rfl, ?_⟩; replace HO215 := Aside0.mk (Kd.R_mono (Kd.R_keep (IsS104.apart (show IsS104 w0 _ g s0_0 s0_1 from Z6 HI0) (Z4 HO215) Z28) hk (fun _ h => h.2)) (fun _ h => h.1)); have HO218 := Aside0.mk (Kd.R_lower ho0 (keep_size (w := w) (g := g) (row := none) (Z8 HK))); replace HK := Aside0.mk (KeepBut.trans (Z8 HK) hk (.inl rfl)); replace HB := Aside0.mk (hb); replace HI0 := Aside0.mk (hi); (try clear hb); (try clear hb2); (try clear hk); (try clear hi); (try clear ho0); obtain ⟨Ao7, co7, eo7⟩ := Kd.R_slice HO218.out; subst eo7) | ((with_reducible refine gate_callee (f := 48) rfl ?_); refine gL_ 10 Tryz.func48 #[.pointer (some ⟨g, 0, none⟩), .slice Ao7 t216.length co7] ?_; (with_reducible refine (spec_l20Deeds.calls k g s0_0 t219 _ _ t216 t220 t223 w0 _ ?side1 ?side2 ?side3 ?side4 A3.out).mono ?_); (case side1 => exact Z6 HI0); (case side2 => exact Z96); (case side3 => exact Kd.C_foot_own (IsS104.apart (show IsS104 w0 _ g s0_0 t219 from Z6 HI0) (Z4 HO218) Z28) (fun _ h_ => h_.2)); (case side4 => exact Z74 HO218); rintro e w8 ⟨v221, rfl, ho0, hi, hb, hk⟩; refine ⟨_, rfl, ?_⟩; replace HO218 := Aside0.mk (Kd.R_mono (Kd.R_keep (IsS104.apart (show IsS104 w0 _ g s0_0 t219 from Z6 HI0) (Z4 HO218) Z28) hk (fun _ h => h.2)) (fun _ h => h.1)); have HO222 := Aside0.mk (Kd.R_lower (Kd.R_new' ho0 (Kd.R_lt (Z4 HO215))) (keep_size (w := w) (g := g) (row := none) (Z8 HK))); replace HO215 := Aside0.mk (Kd.R_mono (Kd.R_told (Kd.R_oldK (IsS104.apart (show IsS104 w0 _ g s0_0 t219 from Z6 HI0) (Z4 HO215) Z28) hk) (Kd.R_base ho0)) (fun _ h_ => h_.1)); replace HK := Aside0.mk (KeepBut.trans (Z8 HK) hk (.inl rfl)); replace HB := Aside0.mk (hb); replace HI0 := Aside0.mk (hi); (try clear hb); (try clear hb2); (try clear hk); (try clear hi); (try clear ho0)))
 go_loopg [3, 5] k (fun kq v3 v5 w' => ∃ (x3_1 : List (S39)) (x5_1 : Int), v5 = .int .i64 x5_1 ∧ Aside0 (spec_l20Written.l0 kq x3_1 t220 x5_1 s0_0 t223 = some (r1, r2)) ∧ Aside0 (kq ≤ k) ∧ Aside0 (Kd.R k39 39 w' w.heap.size (fun k_ => some k_ ≠ (v221 : Value).ownBlock) v3 x3_1) ∧ Aside0 (Kd.R k39 39 w' w.heap.size (fun k_ => some k_ ≠ (v3 : Value).ownBlock) v221 t220) ∧ Aside0 (IsS104 w0 w' g s0_0 t223) ∧ Aside0 (KeepBut w w' g none) ∧ Aside0 (Below w0.heap.size w0 w'))
 case atStart => exact ⟨(y213), (0), Z14, H', ⟨Nat.le_refl _⟩, ⟨Z46 HO215⟩, ⟨Z46 HO222⟩, ⟨Z6 HI0⟩, ⟨Z8 HK⟩, ⟨Z7 HB HI0⟩⟩
 case round =>
  clear H'
  try clear p2
  try clear c4
  try clear c8
  obtain ⟨x3_1, x5_1, rfl, HA, HK1, HO_3, HO_4, HI0, HK, HB⟩ := hrel
  cases gk with
  | zero => exact absurd HA.out (by simp [spec_l20Written.l0])
  | succ k1 =>
   have H := HA.out
   clear HA
   simp only [spec_l20Written.l0] at H
   by_cases c9 : x5_1 < (t220.length : Int)
   ·rw [if_pos c9] at H
    have c9b0 : decide (x5_1 < (t220.length : Int)) = true := decide_eq_true c9
    clear c9
    by_cases c10 : 0 ≤ x5_1
    ·rw [if_pos c10] at H
     have c10b0 : decide (0 ≤ x5_1) = true := decide_eq_true c10
     clear c10
     replace H := Option.bind_eq_some_iff.mp H
     obtain ⟨t225, A110, H⟩ := H
     replace H : (if t225.toList = ([] : List UInt8) then (spec_l20Written.l0 k1 x3_1 t220 (wrap64 (x5_1 + 1)) s0_0 t223) else (if x3_1.length < 5864062014805 then (spec_l20Written.l0 k1 (x3_1 ++ [(⟨(rd_T39 t220 x5_1).f0, (rd_T39 t220 x5_1).f1, (rd_T39 t220 x5_1).f2⟩ : S39)]) t220 (wrap64 (x5_1 + 1)) s0_0 t223) else (none))) = some (r1, r2) := H
     have A11 := Aside0.mk A110
     clear A110
     by_cases c12 : t225.toList = ([] : List UInt8)
     ·rw [if_pos c12] at H
      have c12b0 : (t225.toList == ([] : List UInt8)) = true := beq_iff_eq.mpr c12
      have c12b1 : (t225.toList != ([] : List UInt8)) = false := bne_eq_false_iff_eq.mpr c12
      clear c12
      have H' := Aside0.mk H
      clear H
      obtain ⟨Ao13, co13, eo13⟩ := Kd.R_slice HO_4.out
      subst eo13
      have p224 : 0 ≤ (x5_1 : Int) := of_decide_eq_true Z10
      have q224 : x5_1 < (t220.length : Int) := of_decide_eq_true Z10
      obtain ⟨ad224, e224, hx224_0, hx224_1, hx224_2⟩ := at_T39 (Kd.R_reads' HO_4.out).2.2 x5_1 p224 q224
      cases e224
      replace p224 := eq_true p224
      replace q224 := eq_true q224
      go_wp2_with (first | ((with_reducible refine gate_callee (f := 86) rfl ?_); refine gL_ 21 Tryz.func86 #[.agg #[.int .i64 ((rd_T39 t220 x5_1).f0), .int .i64 ((rd_T39 t220 x5_1).f1), .int .i64 ((rd_T39 t220 x5_1).f2)]] ?_; (with_reducible refine (spec_DeedText.calls k1 ((rd_T39 t220 x5_1).f0) ((rd_T39 t220 x5_1).f1) ((rd_T39 t220 x5_1).f2) t225 _ A11.out).mono ?_); rintro e w14 ⟨rfl, hb⟩; refine ⟨_, rfl, ?_⟩; replace HO_3 := Aside0.mk (Kd.R_below (Z4 HO_3) hb); replace HO_4 := Aside0.mk (Kd.R_below (Z4 HO_4) hb); replace HK := Aside0.mk (KeepBut.trans (Z8 HK) (KeepBut.of_below hb g none) (.inl rfl)); replace HB := Aside0.mk (below_step (Z7 HB HI0) hb); replace HI0 := Aside0.mk (IsS104.below (Z6 HI0) hb); (try clear hb)))
      go_roundg k1
      case measure => have := HK1.out; omega
      case rel => exact ⟨(x3_1), (wrap64 (x5_1 + 1)), Z14, H', ⟨Z35 HK1⟩, ⟨Z4 HO_3⟩, ⟨Z4 HO_4⟩, ⟨Z6 HI0⟩, ⟨Z8 HK⟩, ⟨Z7 HB HI0⟩⟩
     ·rw [if_neg c12] at H
      have c12b0 : (t225.toList == ([] : List UInt8)) = false := beq_eq_false_iff_ne.mpr c12
      have c12b1 : (t225.toList != ([] : List UInt8)) = true := bne_iff_ne.mpr c12
      by_cases c15 : x3_1.length < 5864062014805
      ·rw [if_pos c15] at H
       have LMc15 := Aside0.mk c15
       clear c15
       obtain ⟨y227, hy227⟩ : ∃ y_ : List (S39), y_ = (x3_1 ++ [(⟨(rd_T39 t220 x5_1).f0, (rd_T39 t220 x5_1).f1, (rd_T39 t220 x5_1).f2⟩ : S39)]) := ⟨_, rfl⟩
       replace H : (spec_l20Written.l0 k1 y227 t220 (wrap64 (x5_1 + 1)) s0_0 t223) = some (r1, r2) := Z5 hy227
       have Ny227 := Aside0.mk hy227
       clear hy227
       have H' := Aside0.mk H
       clear H
       obtain ⟨Ao16, co16, eo16⟩ := Kd.R_slice HO_4.out
       subst eo16
       have p224 : 0 ≤ (x5_1 : Int) := of_decide_eq_true Z10
       have q224 : x5_1 < (t220.length : Int) := of_decide_eq_true Z10
       obtain ⟨ad224, e224, hx224_0, hx224_1, hx224_2⟩ := at_T39 (Kd.R_reads' HO_4.out).2.2 x5_1 p224 q224
       cases e224
       replace p224 := eq_true p224
       replace q224 := eq_true q224
       go_wp2_with (first | ((with_reducible refine gate_callee (f := 86) rfl ?_); refine gL_ 21 Tryz.func86 #[.agg #[.int .i64 ((rd_T39 t220 x5_1).f0), .int .i64 ((rd_T39 t220 x5_1).f1), .int .i64 ((rd_T39 t220 x5_1).f2)]] ?_; (with_reducible refine (spec_DeedText.calls k1 ((rd_T39 t220 x5_1).f0) ((rd_T39 t220 x5_1).f1) ((rd_T39 t220 x5_1).f2) t225 _ A11.out).mono ?_); rintro e w17 ⟨rfl, hb⟩; refine ⟨_, rfl, ?_⟩; replace HO_3 := Aside0.mk (Kd.R_below (Z4 HO_3) hb); replace HO_4 := Aside0.mk (Kd.R_below (Z4 HO_4) hb); replace HK := Aside0.mk (KeepBut.trans (Z8 HK) (KeepBut.of_below hb g none) (.inl rfl)); replace HB := Aside0.mk (below_step (Z7 HB HI0) hb); replace HI0 := Aside0.mk (IsS104.below (Z6 HI0) hb); (try clear hb); (try clear hb2); (try clear hk); (try clear hi); have p226 : 0 ≤ (x5_1 : Int) := of_decide_eq_true Z10; have q226 : x5_1 < (t220.length : Int) := of_decide_eq_true Z10; obtain ⟨ad226, e226, hx226_0, hx226_1, hx226_2⟩ := at_T39 (Kd.R_reads' HO_4.out).2.2 x5_1 p226 q226; obtain rfl : ad224 = ad226 := (by injection e226); replace p226 := eq_true p226; replace q226 := eq_true q226) | ((with_reducible refine gate_builtin (b := .append) (xs := #[.tmp 23, .tmp 28]) rfl ?_); at_builtin; refine Kd.R_append k39 w.heap.size rfl (.tmp 23) (.tmp 28) 24 39 (.agg #[(.int .i64 0), (.int .i64 0), (.int .i64 0)]) 24 rfl Tryz.underlying24 info39 rfl Z28 Z32 u3 x3_1 (⟨(rd_T39 t220 x5_1).f0, (rd_T39 t220 x5_1).f1, (rd_T39 t220 x5_1).f2⟩ : S39) [.int .i64 ((rd_T39 t220 x5_1).f0), .int .i64 ((rd_T39 t220 x5_1).f1), .int .i64 ((rd_T39 t220 x5_1).f2)] (fun k_ => some k_ ≠ (.slice (some ad224) t220.length co16 : Value).ownBlock) (fun _ => False) rfl rfl ?aP (fun _ hk => hk.elim) ?aF ?aO (Below.refl _ _) ?aS ?aL ?_; (case aP => exact k39_mkM _ _ _ (⟨(rd_T39 t220 x5_1).f0, (rd_T39 t220 x5_1).f1, (rd_T39 t220 x5_1).f2⟩ : S39)); (case aF => exact (fun k_ hk => Kd.fresh' (Kd.R_lt (Z4 HO_4)) k_ hk)); (case aO => exact (Z4 HO_3)); (case aS => exact Z95); (case aL => exact Z35 LMc15); intro v228 w18 ho hb hg hat; rw [← Ny227.out] at ho; replace HO_4 := Aside0.mk (Kd.R_after (ok := (fun _ => True)) (by (with_reducible repeat (first | apply Kd.R_alloc | apply Kd.R_drewN | apply Kd.R_drew)); exact Kd.R_mono HO_4.out (fun _ hk => ⟨trivial, hk⟩)) hg hat); replace HB := Aside0.mk (below_weaken (Z7 HB HI0) HL.out hb); replace HI0 := Aside0.mk (IsS104.grown (Z6 HI0) hg (IsS104.own_ne HI0.out HO_3.out Z28)); replace HK := Aside0.mk (KeepBut.trans (Z8 HK) (KeepBut.of_grown hg g) (Kd.R_base2 HO_3.out)); have HO229 := Aside0.mk (ho); clear HO_3; clear ho hb hg hat))
       go_roundg k1
       case measure => have := HK1.out; omega
       case rel => exact ⟨(y227), (wrap64 (x5_1 + 1)), Z14, H', ⟨Z35 HK1⟩, ⟨Z4 HO229⟩, ⟨Z46 HO_4⟩, ⟨Z6 HI0⟩, ⟨Z8 HK⟩, ⟨Z7 HB HI0⟩⟩
      ·rw [if_neg c15] at H
       exact absurd H Z33
    ·rw [if_neg c10] at H
     exact absurd H Z33
   ·rw [if_neg c9] at H
    have c9b0 : decide (x5_1 < (t220.length : Int)) = false := decide_eq_false c9
    clear c9
    simp only [Option.some.injEq, Prod.mk.injEq] at H
    obtain ⟨rfl, rfl⟩ := H
    obtain ⟨Ao19, co19, eo19⟩ := Kd.R_slice HO_4.out
    subst eo19
    go_wp2
    go_ret
    exact ⟨_, Z11, Z38 HO_3, Z6 HI0, Z7 HB HI0, Z8 HK⟩

end Go.Proofs.YtmmoojkhlkjdkaaGreatDoor.PFnReadJournal
