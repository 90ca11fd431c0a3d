-- Printed by this claim's own program; Lean checks it.
import Derived.Test.YtmmoojkhlkjdkaaGreatDoorPFnReadJournalx0
import Derived.Test.YtmmoojkhlkjdkaaGreatDoorPFnReadJournalx8
import Derived.Test.YtmmoojkhlkjdkaaGreatDoorPFnReadJournalx9
import Derived.Test.YtmmoojkhlkjdkaaGreatDoorPFnReadJournalx12
import Derived.Test.YtmmoojkhlkjdkaaGreatDoorPFnReadJournalx19
import Derived.Test.YtmmoojkhlkjdkaaGreatDoorPFnReadJournalx20
import Derived.Test.YtmmoojkhlkjdkaaGreatDoorPFnReadJournalx21
namespace Go.Proofs.YtmmoojkhlkjdkaaGreatDoor.PFnReadJournal
open Go.RowKit Go.Proofs.YtmmoojkhlkjdkaaGreatDoorW.PrintWords Go.Proofs.YtmmoojkhlkjdkaaGreatDoorW.PrintLast Go.Proofs.YtmmoojkhlkjdkaaGreatDoorW.PrintMore
attribute [local go_sem] max2_int min2_int max_two min_two max_three min_three max_four min_four   -- for this text's walks alone
set_option linter.unusedVariables false
set_option linter.unusedSimpArgs false

/-! ### impl_DeskDo: function 50 (by hand) -/
theorem dd_own {w W : World} {g b : Nat} {ok : Nat → Prop} {x y : Value} {A0 : Option Addr} {c0 : Nat} {l0 : List S84} {A1 : Option Addr} {c1 : Nat} {l1 : List (List S84)} {f : Nat → Nat} {vs : List Value} (hg : w.heap.size ≤ g) (hgb : g < b) (hB : Below w.heap.size w W) (hD : DOwn W b ok A0 c0 l0 A1 c1 l1 f vs) :
 DOwn ((W.setCell ⟨g, 0, none⟩ x).setCell ⟨g, 1, none⟩ y) w.heap.size (fun k => w.heap.size ≤ k) A0 c0 l0 A1 c1 l1 f vs ∧ Below w.heap.size w ((W.setCell ⟨g, 0, none⟩ x).setCell ⟨g, 1, none⟩ y) := by
 have h1 := hD.mono (ok' := fun k => b ≤ k) (base' := b) (fun k hk _ _ => hk) (Nat.le_refl _)
 have h2 := h1.step (W' := (W.setCell ⟨g, 0, none⟩ x).setCell ⟨g, 1, none⟩ y) (fun k hk _ => (Below.heap_setCell _ ⟨g, 1, none⟩ y k (by show k ≠ g; omega)).trans (Below.heap_setCell _ ⟨g, 0, none⟩ x k (by show k ≠ g; omega)))
 exact ⟨h2.mono (fun k hk _ _ => Z32) Z32, below_set (below_set hB hg) hg⟩
theorem R_V_base {α : Type} {d : Kd α} {e base : Nat} {ok : Nat → Prop} {W : World} {v : Value} {xs : List α} (h : d.R e W base ok v xs) : Kd.V d e W 0 (fun k => base ≤ k) v xs := Kd.R_V (Kd.R_mono (Kd.R_bound h) (fun k hk => hk.2.1))
theorem clip_is (A0 : Option Addr) (n c : Nat) (w : World) (hn : n ≤ c) : Calls Tryz.prog 98 #[.slice A0 n c] w fun e w' => e = .returned (.slice A0 n n) ∧ w' = w := by
 go_enter Tryz.func98, Tryz.ntmps98
 go_wp2
 go_ret
 exact ⟨rfl, rfl⟩
/-- What the deeds but back make of the customers. -/
def impl_DeskDo.next (k : Nat) (d0 : List S84) (ak aa ab : Int) : Option (List S84 × Bool) :=
  if ak = 0 then ((impl_Customer_95.f d0).bind fun c => if c.length + 1 < 8796093022208 then ((impl_CustomersOk.f k (c ++ [(⟨aa, ab⟩ : S84)])).bind fun o => some (c ++ [(⟨aa, ab⟩ : S84)], o)) else none)
  else if ak = 1 then (if 0 < d0.length then ((impl_Customer_95.f (d0.take (d0.length - 1))).bind fun c => some (c, true)) else some ([], false))
  else if ak = 2 then impl_NeedingMore.f k d0 aa
  else if ak = 3 then (if 0 < d0.length ∧ 0 < aa then impl_LaterBy.f k d0 aa else some ([], false))
  else some ([], false)
/-- What stands behind the switch. -/
def impl_DeskDo.after (k : Nat) (s0 : List S84) (s1 : List (List S84)) (x : List S84) (o : Bool) : Option (List S84 × List (List S84) × Bool) :=
  if o = false then some (s0, s1, false) else if s1.length < 1000000 then ((impl_copyDesk.f k x (if s1.length + 1 > 8 then (s1 ++ [s0]).drop 1 else s1 ++ [s0])).bind fun R => some (R.1, R.2, true)) else none
def impl_DeskDo.f (k : Nat) (d0 : List S84) (d1 : List (List S84)) (ak aa ab : Int) : Option (List S84 × List (List S84) × Bool) :=
  (impl_DeskOk.f k d0 d1).bind fun okd => if okd = false then some ([], [], false) else (impl_copyDesk.f k d0 d1).bind fun S =>
    if (ak ≠ 0 ∧ ab ≠ 0) ∨ ((ak = 1 ∨ ak = 4) ∧ aa ≠ 0) then some (S.1, S.2, false)
    else if ak = 4 then (if S.2.length = 0 then some (S.1, S.2, false) else some (S.2.getD (S.2.length - 1) [], S.2.take (S.2.length - 1), true))
    else (impl_DeskDo.next k d0 ak aa ab).bind fun N => impl_DeskDo.after k S.1 S.2 N.1 N.2
theorem impl_DeskDo.mono : ∀ a0 a1 a2 a3 a4 k, LeO (impl_DeskDo.f k a0 a1 a2 a3 a4) (impl_DeskDo.f (k + 1) a0 a1 a2 a3 a4) := by
 intro a0 a1 a2 a3 a4 k
 unfold impl_DeskDo.f impl_DeskDo.next impl_DeskDo.after
 repeat' first
  | (with_reducible exact impl_CustomersOk.mono _ _)
  | (with_reducible exact impl_DeskOk.mono _ _ _)
  | (with_reducible exact impl_LaterBy.mono _ _ _)
  | (with_reducible exact impl_NeedingMore.mono _ _ _)
  | (with_reducible exact impl_copyDesk.mono _ _ _)
  | (with_reducible exact LeO.refl _)
  | (with_reducible exact LeO.none _)
  | (with_reducible refine LeO.ite ?_ ?_)
  | (with_reducible refine LeO.bind ?_ (fun _ => ?_))
  | exact impl_copyDesk.mono _ _ _
  | exact LeO.none _
  | refine LeO.ite ?_ ?_
  | refine LeO.bind ?_ (fun _ => ?_)
def impl_DeskDo.T9 : Bool × List (List Nat × List Nat) := (true, [([], []), ([0], [0]), ([1], [1]), ([], []), ([3], [3]), ([], []), ([5], [5]), ([4, 6], [4, 6]), ([7], [7]), ([2, 8, 2], [2, 8]), ([9, 9, 0, 1, 2, 3, 4, 5, 6, 7, 8, 9], [9])])
def impl_DeskDo.B9 : List Nat := [0, 1, 3, 0, 8, 0, 32, 120, 248, 511, 1023]
theorem impl_DeskDo.tab9 : rtab .any (opsOf Tryz.f50 9) = impl_DeskDo.T9 := by kernel_rfl
theorem impl_DeskDo.bits9 : waitsOk impl_DeskDo.T9.2 impl_DeskDo.B9 = true := by kernel_rfl
set_option maxHeartbeats 8000000 in
set_option maxRecDepth 100000 in
theorem impl_DeskDo.calls (k : Nat) (A0_0 : Option Addr) (c0_0 : Nat) (l0_0 : List (S84)) (A0_1 : Option Addr) (c0_1 : Nat) (l0_1 : List (List (S84))) (a1_0 : Int) (a1_1 : Int) (a1_2 : Int) (r1 : List (S84)) (r2 : List (List (S84))) (r3 : Bool) (w : World) (hr0_0 : Kd.C k84 w A0_0 l0_0.length l0_0) (hc0_0 : l0_0.length ≤ c0_0) (hr0_1 : Kd.C (Kd.slice 84 k84) w A0_1 l0_1.length l0_1) (hc0_1 : l0_1.length ≤ c0_1) (h : impl_DeskDo.f k l0_0 l0_1 a1_0 a1_1 a1_2 = some (r1, r2, r3)) :
 Calls Tryz.prog 50 #[.agg #[.slice A0_0 l0_0.length c0_0, .slice A0_1 l0_1.length c0_1], .agg #[.int .i64 a1_0, .int .i64 a1_1, .int .i64 a1_2]] w fun e w' => ∃ (A0_ : Option Addr) (c0_ : Nat) (A1_ : Option Addr) (c1_ : Nat) (f_ : Nat → Nat) (vs_ : List Value), e = .returned (.tuple #[.agg #[.slice A0_ r1.length c0_, .slice A1_ r2.length c1_], .bool r3]) ∧ DOwn w' w.heap.size (fun k_ => (w.heap.size ≤ k_)) A0_ c0_ r1 A1_ c1_ r2 f_ vs_ ∧ Below w.heap.size w w' := by
 have hu31 := Tryz.underlying31
 have hu39 := Tryz.underlying39
 unfold impl_DeskDo.f at h
 obtain ⟨okd, hOK, h1⟩ := Option.bind_eq_some_iff.mp h
 have HOK := Aside0.mk hOK
 have HR0 := Aside0.mk hr0_0
 have HC0 := Aside0.mk hc0_0
 have HR1 := Aside0.mk hr0_1
 have HC1 := Aside0.mk hc0_1
 clear h hOK hr0_0 hc0_0 hr0_1 hc0_1
 go_enter Tryz.func50, Tryz.ntmps50
 go_wp2_with (fail)
 have B0 := Aside0.mk (below_alloc (below_alloc (below_alloc (Below.refl w.heap.size w) (.cells #[.slice A0_0 l0_0.length c0_0, .slice A0_1 l0_1.length c0_1] 31)) (.cells #[.int .i64 a1_0, .int .i64 a1_1, .int .i64 a1_2] 39)) (.cells #[.slice none 0 0, .slice none 0 0] 31))
 have D0 := Aside0.mk (blk_alloc1 (o' := .cells #[.slice none 0 0, .slice none 0 0] 31) (blk_alloc1 (o' := .cells #[.int .i64 a1_0, .int .i64 a1_1, .int .i64 a1_2] 39) (blk_new w (.cells #[.slice A0_0 l0_0.length c0_0, .slice A0_1 l0_1.length c0_1] 31))))
 have A0 := Aside0.mk (blk_alloc1 (o' := .cells #[.slice none 0 0, .slice none 0 0] 31) (blk_new (w.alloc (.cells #[.slice A0_0 l0_0.length c0_0, .slice A0_1 l0_1.length c0_1] 31)) (.cells #[.int .i64 a1_0, .int .i64 a1_1, .int .i64 a1_2] 39)))
 have R0 := Aside0.mk (blk_new ((w.alloc (.cells #[.slice A0_0 l0_0.length c0_0, .slice A0_1 l0_1.length c0_1] 31)).alloc (.cells #[.int .i64 a1_0, .int .i64 a1_1, .int .i64 a1_2] 39)) (.cells #[.slice none 0 0, .slice none 0 0] 31))
 rw [size_alloc1] at A0
 rw [size_alloc1, size_alloc1] at R0
 refine (impl_DeskOk.calls k _ _ l0_0 _ _ l0_1 okd _ (Kd.C_below HR0.out B0.out) HC0.out (Kd.C_below HR1.out B0.out) HC1.out HOK.out).mono ?_
 rintro e w1 ⟨rfl, hb1⟩
 have B1 := Aside0.mk (below_step B0.out hb1)
 have D1 := Aside0.mk ((hb1.block _ (blk_lt D0.out)).trans D0.out)
 have A1 := Aside0.mk ((hb1.block _ (blk_lt A0.out)).trans A0.out)
 have R1 := Aside0.mk ((hb1.block _ (blk_lt R0.out)).trans R0.out)
 clear hb1 B0 D0 A0 R0 HOK
 cases okd with
 | false =>
  rw [if_pos rfl] at h1
  simp only [Option.some.injEq, Prod.mk.injEq] at h1
  obtain ⟨rfl, rfl, rfl⟩ := h1
  have hr0 : w1.cell? ⟨w.heap.size + 1 + 1, 0, none⟩ = some (.slice none 0 0) := (blk_cell R1.out 0).trans rfl
  have hr1 : w1.cell? ⟨w.heap.size + 1 + 1, 1, none⟩ = some (.slice none 0 0) := (blk_cell R1.out 1).trans rfl
  have hf0 := blk_frozen R1.out 0
  have hf1 := blk_frozen R1.out 1
  go_wp2
  refine bodyPost_ret (results_ct rfl _ _ (w.heap.size + 1 + 1) 31 #[.slice none 0 0, .slice none 0 0] (0, 0) _ rfl (res_put R1.out) Tryz.underlying31 rfl Z15) rfl ?_
  obtain ⟨d1, d3⟩ := dd_own (w := w) (g := w.heap.size + 1 + 1) (b := w.heap.size + 1 + 1 + 1) (x := .slice none 0 0) (y := .slice none 0 0) Z32 Z32 B1.out (DOwn.none w1 _ (fun _ => True))
  exact ⟨none, 0, none, 0, _, _, rfl, d1, d3⟩
 | true =>
  rw [if_neg Z33] at h1
  obtain ⟨⟨s0, s1⟩, hS, h2⟩ := Option.bind_eq_some_iff.mp h1
  have HS := Aside0.mk hS
  clear h1 hS
  dsimp only at h2
  have hd0 : w1.cell? ⟨w.heap.size, 0, none⟩ = some (.slice A0_0 l0_0.length c0_0) := (blk_cell D1.out 0).trans rfl
  have hd1 : w1.cell? ⟨w.heap.size, 1, none⟩ = some (.slice A0_1 l0_1.length c0_1) := (blk_cell D1.out 1).trans rfl
  go_wp2_with (fail)
  refine (impl_copyDesk.calls k _ _ l0_0 _ _ l0_1 s0 s1 _ (Kd.C_below HR0.out B1.out) HC0.out (Kd.C_below HR1.out B1.out) HC1.out HS.out).mono ?_
  rintro e w2 ⟨v0, v1, rfl, hv, hs, hb2⟩
  obtain ⟨As0, cs0, rfl⟩ := Kd.R_slice hv
  obtain ⟨As1, cs1, rfl⟩ := Kd.S_slice hs
  clear hd0 hd1
  have E := Aside0.mk (blk_lt R1.out)
  have B2 := Aside0.mk (below_alloc (below_step B1.out hb2) (.cells #[.slice As0 s0.length cs0, .slice As1 s1.length cs1] 31))
  have D2 := Aside0.mk (blk_alloc1 (o' := .cells #[.slice As0 s0.length cs0, .slice As1 s1.length cs1] 31) ((hb2.block _ (blk_lt D1.out)).trans D1.out))
  have A2 := Aside0.mk (blk_alloc1 (o' := .cells #[.slice As0 s0.length cs0, .slice As1 s1.length cs1] 31) ((hb2.block _ (blk_lt A1.out)).trans A1.out))
  have R2 := Aside0.mk (blk_alloc1 (o' := .cells #[.slice As0 s0.length cs0, .slice As1 s1.length cs1] 31) ((hb2.block _ (blk_lt R1.out)).trans R1.out))
  have S2 := Aside0.mk (blk_new w2 (.cells #[.slice As0 s0.length cs0, .slice As1 s1.length cs1] 31))
  have V0 := Aside0.mk (Kd.R_alloc hv (.cells #[.slice As0 s0.length cs0, .slice As1 s1.length cs1] 31))
  have V1 := Aside0.mk (Kd.R_alloc (Kd.S_R hs) (.cells #[.slice As0 s0.length cs0, .slice As1 s1.length cs1] 31))
  obtain ⟨fs, us, hSD⟩ := DOwn.of_S (Kd.R_mono hv (fun _ h => h)) (Kd.S_mono hs (fun _ h => ⟨trivial, h⟩))
  have SD := Aside0.mk (hSD.below (below_alloc (Below.refl w2.heap.size w2) (.cells #[.slice As0 s0.length cs0, .slice As1 s1.length cs1] 31)))
  clear hSD
  have WSZ := Aside0.mk hb2.size
  have WSW := Aside0.mk (show w.heap.size ≤ w1.heap.size from Z35 E)
  have NE := Aside0.mk (show w.heap.size + 1 + 1 < w2.heap.size from Nat.lt_of_lt_of_le E.out hb2.size)
  have m1 := blk_lt A1.out
  have m2 : w.heap.size + 1 < w2.heap.size := Nat.lt_of_lt_of_le (blk_lt A1.out) hb2.size
  have m3 := NE.out
  clear m1
  have ha0 : w2.cell? ⟨w.heap.size + 1, 0, none⟩ = some (.int .i64 a1_0) := (blk_cell ((hb2.block _ (blk_lt A1.out)).trans A1.out) 0).trans rfl
  have ha1 : w2.cell? ⟨w.heap.size + 1, 1, none⟩ = some (.int .i64 a1_1) := (blk_cell ((hb2.block _ (blk_lt A1.out)).trans A1.out) 1).trans rfl
  have ha2 : w2.cell? ⟨w.heap.size + 1, 2, none⟩ = some (.int .i64 a1_2) := (blk_cell ((hb2.block _ (blk_lt A1.out)).trans A1.out) 2).trans rfl
  clear hv hs hb2 B1 D1 A1 R1
  go_upto_region 4 with (fail)
  clear ha0 ha1 ha2 m2 m3
  have E2 := Aside0.mk (size_alloc1 w2 (.cells #[.slice As0 s0.length cs0, .slice As1 s1.length cs1] 31))
  generalize w2.alloc (.cells #[.slice As0 s0.length cs0, .slice As1 s1.length cs1] 31) = w3 at *
  have ha0 : w3.cell? ⟨w.heap.size + 1, 0, none⟩ = some (.int .i64 a1_0) := (blk_cell A2.out 0).trans rfl
  have ha1 : w3.cell? ⟨w.heap.size + 1, 1, none⟩ = some (.int .i64 a1_1) := (blk_cell A2.out 1).trans rfl
  have ha2 : w3.cell? ⟨w.heap.size + 1, 2, none⟩ = some (.int .i64 a1_2) := (blk_cell A2.out 2).trans rfl
  have H2 := Aside0.mk h2
  clear h2
  go_cut [40] (fun v40 wc => v40 = .bool (decide ((a1_0 ≠ 0 ∧ a1_2 ≠ 0) ∨ ((a1_0 = 1 ∨ a1_0 = 4) ∧ a1_1 ≠ 0))) ∧ wc = w3)
  ·have hk : a1_0 = 0 ∨ a1_0 = 1 ∨ a1_0 = 4 ∨ (a1_0 ≠ 0 ∧ a1_0 ≠ 1 ∧ a1_0 ≠ 4) := by omega
   rcases hk with hk | hk | hk | hk
   all_goals by_cases hb : a1_2 = 0
   all_goals by_cases hc : a1_1 = 0
   all_goals first | have k0 : (a1_0 != 0) = true := bne_iff_ne.mpr Z32 | have k0 : (a1_0 != 0) = false := bne_eq_false_iff_eq.mpr Z32
   all_goals first | have hbb : (a1_2 != 0) = true := bne_iff_ne.mpr Z32 | have hbb : (a1_2 != 0) = false := bne_eq_false_iff_eq.mpr Z32
   all_goals first | have hcb : (a1_1 != 0) = true := bne_iff_ne.mpr Z32 | have hcb : (a1_1 != 0) = false := bne_eq_false_iff_eq.mpr Z32
   all_goals first | have k1 : (a1_0 == 1) = true := beq_iff_eq.mpr Z32 | have k1 : (a1_0 == 1) = false := beq_eq_false_iff_ne.mpr Z32
   all_goals first | have k4 : (a1_0 == 4) = true := beq_iff_eq.mpr Z32 | have k4 : (a1_0 == 4) = false := beq_eq_false_iff_ne.mpr Z32
   all_goals have HK_ := Aside0.mk hk
   all_goals have HB_ := Aside0.mk hb
   all_goals have HC_ := Aside0.mk hc
   all_goals clear hk hb hc
   all_goals go_wp2_with (fail)
   all_goals go_meet
   all_goals have q0 := HB_.out
   all_goals have q1 := HC_.out
   all_goals have q2 := HK_.out
   all_goals exact ⟨by first | exact congrArg Value.bool (decide_eq_true Z32).symm | exact congrArg Value.bool (decide_eq_false Z32).symm, rfl⟩
  case rest =>
   obtain ⟨rfl, hw3⟩ := hcut
   have hw3' := hw3.symm
   subst hw3'
   clear hw3
   have hs0 : w3.cell? ⟨w2.heap.size, 0, none⟩ = some (.slice As0 s0.length cs0) := (blk_cell S2.out 0).trans rfl
   have hs1 : w3.cell? ⟨w2.heap.size, 1, none⟩ = some (.slice As1 s1.length cs1) := (blk_cell S2.out 1).trans rfl
   have hr0 : w3.cell? ⟨w.heap.size + 1 + 1, 0, none⟩ = some (.slice none 0 0) := (blk_cell R2.out 0).trans rfl
   have hr1 : w3.cell? ⟨w.heap.size + 1 + 1, 1, none⟩ = some (.slice none 0 0) := (blk_cell R2.out 1).trans rfl
   have hf0 := blk_frozen R2.out 0
   have hf1 := blk_frozen R2.out 1
   have hne : w.heap.size + 1 + 1 ≠ w2.heap.size := Z35 NE
   have h2 := H2.out
   clear H2
   have DONE : ∀ x y : Value, _ := fun x y => dd_own (w := w) (W := w3) (g := w.heap.size + 1 + 1) (b := w1.heap.size) (x := x) (y := y) Z32 E.out B2.out SD.out
   have HDONE := Aside0.mk DONE
   clear DONE
   by_cases hbad : (a1_0 ≠ 0 ∧ a1_2 ≠ 0) ∨ ((a1_0 = 1 ∨ a1_0 = 4) ∧ a1_1 ≠ 0)
   ·rw [if_pos hbad] at h2
    simp only [Option.some.injEq, Prod.mk.injEq] at h2
    obtain ⟨rfl, rfl, rfl⟩ := h2
    have hd : decide ((a1_0 ≠ 0 ∧ a1_2 ≠ 0) ∨ ((a1_0 = 1 ∨ a1_0 = 4) ∧ a1_1 ≠ 0)) = true := decide_eq_true hbad
    rw [hd]
    clear hbad hd ha0 ha1 ha2
    go_wp2
    refine bodyPost_ret (results_ct rfl _ _ (w.heap.size + 1 + 1) 31 #[.slice As0 s0.length cs0, .slice As1 s1.length cs1] (0, 0) _ rfl (res_put R2.out) Tryz.underlying31 rfl Z15) rfl ?_
    obtain ⟨d1, d3⟩ := HDONE.out (.slice As0 s0.length cs0) (.slice As1 s1.length cs1)
    exact ⟨As0, cs0, As1, cs1, _, _, rfl, d1, d3⟩
   ·rw [if_neg hbad] at h2
    have hd : decide ((a1_0 ≠ 0 ∧ a1_2 ≠ 0) ∨ ((a1_0 = 1 ∨ a1_0 = 4) ∧ a1_1 ≠ 0)) = false := decide_eq_false hbad
    rw [hd]
    clear hd
    go_upto_block 0 with (fail)
    clear hbad hs0 hs1 hr0 hr1 hf0 hf1 hne
    have LP := Aside0.mk h2
    clear h2
    go_cut [7, 8] (fun v7 v8 w' => ∃ (x : List S84) (o : Bool), v8 = .bool o ∧ Aside0 (impl_DeskDo.after k s0 s1 x o = some (r1, r2, r3)) ∧ Aside0 (Kd.R k84 84 w' w3.heap.size (fun _ => True) v7 x) ∧ Aside0 (Below w3.heap.size w3 w'))
    ·have hd0 : w3.cell? ⟨w.heap.size, 0, none⟩ = some (.slice A0_0 l0_0.length c0_0) := (blk_cell D2.out 0).trans rfl
     have hd1 : w3.cell? ⟨w.heap.size, 1, none⟩ = some (.slice A0_1 l0_1.length c0_1) := (blk_cell D2.out 1).trans rfl
     have h2 := LP.out
     have HRC := Aside0.mk (Kd.C_below HR0.out B2.out)
     by_cases k0 : a1_0 = 0
     ·rw [if_neg Z32] at h2
      unfold impl_DeskDo.next at h2
      rw [if_pos k0] at h2
      have e0 : (a1_0 == 0) = true := beq_iff_eq.mpr k0
      have HK := Aside0.mk k0
      clear k0 LP
      obtain ⟨⟨x, o⟩, hN, hA⟩ := Option.bind_eq_some_iff.mp h2
      obtain ⟨c, hN2, hN3⟩ := Option.bind_eq_some_iff.mp hN
      by_cases hcl : c.length + 1 < 8796093022208
      ·rw [if_pos hcl] at hN3
       obtain ⟨oo, hOO, hN4⟩ := Option.bind_eq_some_iff.mp hN3
       simp only [Option.some.injEq, Prod.mk.injEq] at hN4
       obtain ⟨rfl, rfl⟩ := hN4
       have HN := Aside0.mk hN2
       have HOO := Aside0.mk hOO
       have HA := Aside0.mk hA
       have HCL := Aside0.mk hcl
       clear h2 hN hN2 hN3 hA hOO hcl
       go_wp2_with (fail)
       refine start_ (n := 11) (S := fun w' => w'.cell? ⟨w.heap.size, 0, none⟩ = some (.slice A0_0 l0_0.length c0_0) ∧ w'.cell? ⟨w.heap.size + 1, 1, none⟩ = some (.int .i64 a1_1) ∧ w'.cell? ⟨w.heap.size + 1, 2, none⟩ = some (.int .i64 a1_2)) (ds := []) (bB 11 0) Z15 rfl Z15 ⟨hd0, ha1, ha2⟩ (fun hHeld => ?_); refine with_tabW impl_DeskDo.tab9 impl_DeskDo.bits9 (fun HT_ HW_ => ?_)
       have hb4 : Below w3.heap.size w3 w3.drew := below_drew1 (Below.refl _ _)
       have hz4 : w3.drew.heap.size = w3.heap.size := rfl
       generalize w3.drew = w4 at hHeld hb4 hz4 ⊢
       refine pure_ (i := 0) (N := some 46) (v := ?_) (a' := ?_) (bB 11 1) rfl rfl (any_of HT_.out Z15) (fun _ _ _ h => h) (Or.inl ⟨Z90, ?_⟩) ?_ ?_
       rotate_left
       ·intro w'
        go_simp
        with_reducible rfl
       rotate_left
       ·simp only [putAll, Act.put, List.setIfInBounds_toArray, List.set_cons_zero, List.set_cons_succ, i64_w, i32_w]
        rfl
       refine pure_ (i := 3) (N := some 49) (v := ?_) (a' := ?_) (bB 11 9) rfl rfl (any_of HT_.out Z15) (fun _ _ _ h => h) (Or.inl ⟨Z90, ?_⟩) ?_ ?_
       rotate_left
       ·intro w'
        go_simp
        with_reducible rfl
       rotate_left
       ·simp only [putAll, Act.put, List.setIfInBounds_toArray, List.set_cons_zero, List.set_cons_succ, i64_w, i32_w]
        rfl
       refine pure_ (i := 5) (N := some 51) (v := ?_) (a' := ?_) (bB 11 41) rfl rfl (any_of HT_.out Z15) (fun _ _ _ h => h) (Or.inl ⟨Z90, ?_⟩) ?_ ?_
       rotate_left
       ·intro w'
        go_simp
        with_reducible rfl
       rotate_left
       ·simp only [putAll, Act.put, List.setIfInBounds_toArray, List.set_cons_zero, List.set_cons_succ, i64_w, i32_w]
        rfl
       refine take_ (i := 1) (N := some 47) (v := ?_) (a' := ?_) (bB 11 43) rfl rfl (take_ofW HT_.out HW_.out Z15) (fun _ _ _ h => h) (Or.inl ⟨Z90, ?_⟩) hHeld ?_ ?_
       rotate_left
       ·rintro w' ⟨t0_, t1_, t2_⟩
        go_simp
        with_reducible rfl
       rotate_left
       ·simp only [putAll, Act.put, List.setIfInBounds_toArray, List.set_cons_zero, List.set_cons_succ, i64_w, i32_w]
        rfl
       refine take_ (i := 4) (N := some 50) (v := ?_) (a' := ?_) (bB 11 59) rfl rfl (take_ofW HT_.out HW_.out Z15) (fun _ _ _ h => h) (Or.inl ⟨Z90, ?_⟩) hHeld ?_ ?_
       rotate_left
       ·rintro w' ⟨t0_, t1_, t2_⟩
        go_simp
        with_reducible rfl
       rotate_left
       ·simp only [putAll, Act.put, List.setIfInBounds_toArray, List.set_cons_zero, List.set_cons_succ, i64_w, i32_w]
        rfl
       refine take_ (i := 6) (N := some 52) (v := ?_) (a' := ?_) (bB 11 123) rfl rfl (take_ofW HT_.out HW_.out Z15) (fun _ _ _ h => h) (Or.inl ⟨Z90, ?_⟩) hHeld ?_ ?_
       rotate_left
       ·rintro w' ⟨t0_, t1_, t2_⟩
        go_simp
        with_reducible rfl
       rotate_left
       ·simp only [putAll, Act.put, List.setIfInBounds_toArray, List.set_cons_zero, List.set_cons_succ, i64_w, i32_w]
        rfl
       refine pure_ (i := 7) (N := some 53) (v := ?_) (a' := ?_) (bB 11 251) rfl rfl (any_of HT_.out Z15) (fun _ _ _ h => h) (Or.inl ⟨Z90, ?_⟩) ?_ ?_
       rotate_left
       ·intro w'
        go_simp
        with_reducible rfl
       rotate_left
       ·simp only [putAll, Act.put, List.setIfInBounds_toArray, List.set_cons_zero, List.set_cons_succ, i64_w, i32_w]
        rfl
       refine join_ (σ := Value × Value) 2 (bB 11 511) (fun s_ => [(48, s_.1), (54, s_.2)]) (fun s_ W => (∃ b1, w3.heap.size ≤ b1 ∧ b1 ≤ W.heap.size ∧ Kd.R k84 84 W b1 (fun k_ => w3.heap.size ≤ k_) s_.1 c) ∧ (∃ b2, Kd.R k84 84 W b2 (fun _ => True) s_.2 [(⟨a1_1, a1_2⟩ : S84)]) ∧ Below w3.heap.size w3 W) ?_ ?_
       ·rintro ⟨v, u⟩ W ⟨⟨b1, hb1, hbW, hv⟩, ⟨b2, hu⟩, hbel⟩
        have hh : W.cell? ⟨w.heap.size, 0, none⟩ = some (.slice A0_0 l0_0.length c0_0) ∧ W.cell? ⟨w.heap.size + 1, 1, none⟩ = some (.int .i64 a1_1) ∧ W.cell? ⟨w.heap.size + 1, 2, none⟩ = some (.int .i64 a1_2) := ⟨(hbel.cell (World.block_lt_of_cell? w3 _ hd0)).trans hd0, (hbel.cell (World.block_lt_of_cell? w3 _ ha1)).trans ha1, (hbel.cell (World.block_lt_of_cell? w3 _ ha2)).trans ha2⟩
        refine norm_ (a' := ?_) ?_ ?_
        rotate_left
        ·simp only [putAll, Act.put, List.setIfInBounds_toArray, List.set_cons_zero, List.set_cons_succ, i64_w, i32_w]
         rfl
        dsimp only at hv hu
        obtain ⟨Av, cv, rfl⟩ := Kd.R_slice hv
        obtain ⟨Au, cu, rfl⟩ := Kd.R_slice hu
        refine one_ (i := 9) (N := some 55) (bB 11 1023) rfl rfl (one_of HT_.out Z15) Z28 (fun K hK => ?_)
        refine Kd.R_append_rows_step k84 (w0 := W) b1 Z90 (.tmp 48) (.tmp 54) 28 84 (.agg #[(.int .i64 0), (.int .i64 0)]) 16 rfl Tryz.underlying28 info84 rfl Z28 Z32 (.slice Av c.length cv) c [(⟨a1_1, a1_2⟩ : S84)] _ _ _ (fun k_ => w3.heap.size ≤ k_) (fun _ => False) rfl rfl hv (Kd.R_reads' hu).2.2 (fun _ _ h => h) (fun _ h => h.elim) (fun k hk => Nat.le_trans hbel.size hk) (Below.refl _ _) hbW ?aL ?_
        case aL => have := HCL.out; simp only [List.length_cons, List.length_nil]; omega
        intro v7 w7 hv7 hbel7 hg7 hat7
        have hb7 : Below w3.heap.size w3 w7 := hbel.trans (hbel7.mono hb1)
        refine hK _ _ ⟨(hb7.cell (World.block_lt_of_cell? w3 _ hd0)).trans hd0, (hb7.cell (World.block_lt_of_cell? w3 _ ha1)).trans ha1, (hb7.cell (World.block_lt_of_cell? w3 _ ha2)).trans ha2⟩ (fun hHeld => ?_)
        clear hK K
        refine norm_ (a' := ?_) ?_ ?_
        rotate_left
        ·show Act.put _ (some 55) _ = _
         simp only [putAll, Act.put, List.setIfInBounds_toArray, List.set_cons_zero, List.set_cons_succ, i64_w, i32_w]
         rfl
        obtain ⟨Ar, cr, rfl⟩ := Kd.R_slice hv7
        have HV7 : Aside0 (Kd.R k84 84 w7 w3.heap.size (fun _ => True) (.slice Ar (c ++ [(⟨a1_1, a1_2⟩ : S84)]).length cr) (c ++ [(⟨a1_1, a1_2⟩ : S84)])) := ⟨Kd.R_mono (Kd.R_lower hv7 hb1) (fun _ _ => trivial)⟩
        have HB7 := Aside0.mk hb7
        clear hv7 hbel7 hg7 hat7 hh hv hu hbel
        generalize c ++ [(⟨a1_1, a1_2⟩ : S84)] = y at HV7 HA HOO ⊢
        refine pure_ (i := 10) (N := some 7) (v := ?_) (a' := ?_) (bB 11 2047) rfl rfl (any_of HT_.out Z15) (fun _ _ _ h => h) (Or.inl ⟨Z90, ?_⟩) ?_ ?_
        rotate_left
        ·intro w'
         go_simp
         with_reducible rfl
        rotate_left
        ·simp only [putAll, Act.put, List.setIfInBounds_toArray, List.set_cons_zero, List.set_cons_succ, i64_w, i32_w]
         rfl
        refine done_ (done_of HT_.out Z15) ?_
        clear hHeld HT_ HW_ hb7 hb1 hbW hb4 hz4
        go_wp2_with (fail)
        refine (impl_CustomersOk.calls k Ar cr y oo w7 (Kd.R_reads' HV7.out).2.2 (Kd.R_reads' HV7.out).2.1 HOO.out).mono ?_
        rintro e w8 ⟨rfl, hb8⟩
        have HV8 := Aside0.mk (Kd.R_below HV7.out hb8)
        have HB8 := Aside0.mk (below_step HB7.out hb8)
        clear hb8
        go_wp2_with (fail)
        go_meet
        case rel => exact ⟨_, oo, rfl, HA, HV8, HB8⟩
       ·intro hCont
        refine two_ (i := 2) (j := 8) (Ni := some 48) (Nj := some 54) (bB 11 255) (bB 11 507) rfl rfl rfl rfl (two_of HT_.out Z15) Z28 Z28 (fun K hK => ?_) (fun K hK => ?_)
        ·refine goes_ Tryz.func95 Z15 rfl #[.slice A0_0 l0_0.length c0_0] Z90 rfl rfl Z89 ?_
         refine (impl_Customer_95.calls A0_0 c0_0 l0_0 c w4 (Kd.C_below HRC.out hb4) HC0.out HN.out).mono ?_
         rintro e w5 ⟨v, rfl, hv, hb⟩
         refine ⟨_, rfl, ?_⟩
         have hb5 : Below w3.heap.size w3 w5 := hb4.trans (hz4 ▸ hb)
         refine hK _ _ ⟨(hb5.cell (World.block_lt_of_cell? w3 _ hd0)).trans hd0, (hb5.cell (World.block_lt_of_cell? w3 _ ha1)).trans ha1, (hb5.cell (World.block_lt_of_cell? w3 _ ha2)).trans ha2⟩ (fun hHeld => ?_)
         clear hK K
         refine norm_ (a' := ?_) ?_ ?_
         rotate_left
         ·show Act.put _ (some 48) _ = _
          simp only [putAll, Act.put, List.setIfInBounds_toArray, List.set_cons_zero, List.set_cons_succ, i64_w, i32_w]
          rfl
         refine one_ (i := 8) (N := some 54) (bB 11 511) rfl rfl (one_of HT_.out Z15) Z28 (fun K hK => ?_)
         refine Kd.R_lit_step k84 (w0 := w5) w5.heap.size 84 ?hg (N := 54) ?hd (xs := [(⟨a1_1, a1_2⟩ : S84)]) (inner := [.int .i64 a1_1, .int .i64 a1_2]) (ok := fun _ => True) (okp := fun _ => True) ?hr ?hp (fun _ hk => hk) trivial (Below.refl _ _) (Nat.le_refl _) Z33 ?_
         case hd => rfl
         case hg => rfl
         case hr => first | (go_simp; done) | (go_simp; rfl)
         case hp => exact (Reps.c2 (show Kd.M k84 _ _ _ (⟨a1_1, a1_2⟩ : S84) [.int .i64 a1_1, .int .i64 a1_2] from (k84_mkM _ _ _ (⟨a1_1, a1_2⟩ : S84))) (Reps.none _ _))
         intro u w6 hu hb6 hg6 _
         have hb6' : Below w3.heap.size w3 w6 := hb5.trans (hb6.mono hb5.size)
         refine hK _ _ ⟨(hb6'.cell (World.block_lt_of_cell? w3 _ hd0)).trans hd0, (hb6'.cell (World.block_lt_of_cell? w3 _ ha1)).trans ha1, (hb6'.cell (World.block_lt_of_cell? w3 _ ha2)).trans ha2⟩ (fun hHeld => ?_)
         clear hK K
         exact norm_ (by show Act.put _ (some 54) _ = _; simp only [putAll, Act.put, List.setIfInBounds_toArray, List.set_cons_zero, List.set_cons_succ, i64_w, i32_w]) (hCont (v, u) _ ⟨⟨w4.heap.size, Z32, Nat.le_trans hb.size hb6.size, Kd.R_mono (Kd.R_below (Kd.R_mono (Kd.R_bound hv) (fun k hk => hk.2.1)) hb6) (fun k hk => Z32)⟩, ⟨_, hu⟩, hb6'⟩)
        ·refine Kd.R_lit_step k84 (w0 := w4) w4.heap.size 84 ?hg (N := 54) ?hd (xs := [(⟨a1_1, a1_2⟩ : S84)]) (inner := [.int .i64 a1_1, .int .i64 a1_2]) (ok := fun _ => True) (okp := fun _ => True) ?hr ?hp (fun _ hk => hk) trivial (Below.refl _ _) (Nat.le_refl _) Z33 ?_
         case hd => rfl
         case hg => rfl
         case hr => first | (go_simp; done) | (go_simp; rfl)
         case hp => exact (Reps.c2 (show Kd.M k84 _ _ _ (⟨a1_1, a1_2⟩ : S84) [.int .i64 a1_1, .int .i64 a1_2] from (k84_mkM _ _ _ (⟨a1_1, a1_2⟩ : S84))) (Reps.none _ _))
         intro u w5 hu hb5 hg5 _
         have hb5' : Below w3.heap.size w3 w5 := hb4.trans (hb5.mono hb4.size)
         refine hK _ _ ⟨(hb5'.cell (World.block_lt_of_cell? w3 _ hd0)).trans hd0, (hb5'.cell (World.block_lt_of_cell? w3 _ ha1)).trans ha1, (hb5'.cell (World.block_lt_of_cell? w3 _ ha2)).trans ha2⟩ (fun hHeld => ?_)
         clear hK K
         refine norm_ (a' := ?_) ?_ ?_
         rotate_left
         ·show Act.put _ (some 54) _ = _
          simp only [putAll, Act.put, List.setIfInBounds_toArray, List.set_cons_zero, List.set_cons_succ, i64_w, i32_w]
          rfl
         refine one_ (i := 2) (N := some 48) (bB 11 511) rfl rfl (one_of HT_.out Z15) Z28 (fun K hK => ?_)
         refine goes_ Tryz.func95 Z15 rfl #[.slice A0_0 l0_0.length c0_0] Z90 rfl rfl Z89 ?_
         refine (impl_Customer_95.calls A0_0 c0_0 l0_0 c w5 (Kd.C_below HRC.out hb5') HC0.out HN.out).mono ?_
         rintro e w6 ⟨v, rfl, hv, hb⟩
         refine ⟨_, rfl, ?_⟩
         have hb6' : Below w3.heap.size w3 w6 := below_step hb5' hb
         refine hK _ _ ⟨(hb6'.cell (World.block_lt_of_cell? w3 _ hd0)).trans hd0, (hb6'.cell (World.block_lt_of_cell? w3 _ ha1)).trans ha1, (hb6'.cell (World.block_lt_of_cell? w3 _ ha2)).trans ha2⟩ (fun hHeld => ?_)
         clear hK K
         exact norm_ Z44 (hCont (v, u) _ ⟨⟨w5.heap.size, hb5'.size, hb.size, Kd.R_mono (Kd.R_bound hv) (fun k hk => Nat.le_trans hb5'.size hk.2.1)⟩, ⟨_, Kd.R_below hu hb⟩, hb6'⟩)
      ·rw [if_neg hcl] at hN3; cases hN3
     by_cases k1 : a1_0 = 1
     ·rw [if_neg Z32] at h2
      unfold impl_DeskDo.next at h2
      rw [if_neg k0, if_pos k1] at h2
      have e0 : (a1_0 == 0) = false := beq_eq_false_iff_ne.mpr k0
      have e1 : (a1_0 == 1) = true := beq_iff_eq.mpr k1
      have HK := Aside0.mk (And.intro k0 k1)
      clear k0 k1 LP
      by_cases g1 : 0 < l0_0.length
      ·rw [if_pos g1] at h2
       obtain ⟨⟨x, o⟩, hN, hA⟩ := Option.bind_eq_some_iff.mp h2
       obtain ⟨c, hN2, hN3⟩ := Option.bind_eq_some_iff.mp hN
       simp only [Option.some.injEq, Prod.mk.injEq] at hN3
       obtain ⟨rfl, rfl⟩ := hN3
       have f1 : decide (0 < (l0_0.length : Int)) = true := decide_eq_true Z32
       have f1' : decide (0 < l0_0.length) = true := decide_eq_true g1
       have hmax := Kd.C_max HR0.out
       obtain ⟨ji, hji⟩ : ∃ j : Int, ((l0_0.length - 1 : Nat) : Int) = j := ⟨_, rfl⟩
       have pw : IntKind.i64.wrap ((l0_0.length : Int) - 1) = ji := Z75
       have hc0 := HC0.out
       have p0 : 0 ≤ ji := Z32
       have q0 : ji ≤ (c0_0 : Int) := Z32
       have HN := Aside0.mk hN2
       have HA := Aside0.mk hA
       have HJ := Aside0.mk hji
       have HG := Aside0.mk g1
       clear h2 hN hN2 hA hmax hji hc0 g1
       go_wp2_with (fail)
       have et : ji.toNat = (l0_0.take (l0_0.length - 1)).length := by have h1 := HJ.out; rw [List.length_take]; omega
       rw [et]
       clear et p0 q0 pw
       refine (impl_Customer_95.calls _ _ (l0_0.take (l0_0.length - 1)) c w3 (Kd.C_take HRC.out Z32) (by have h1 := HC0.out; rw [List.length_take]; omega) HN.out).mono ?_
       rintro e w4 ⟨v4, rfl, hv4, hb4⟩
       have HV4 := Aside0.mk hv4
       have HB4 := Aside0.mk hb4
       clear hv4 hb4
       go_wp2_with (fail)
       go_meet
       case rel => exact ⟨c, true, rfl, HA, HV4, HB4⟩
      ·rw [if_neg g1] at h2
       have f1 : decide (0 < (l0_0.length : Int)) = false := decide_eq_false Z32
       have f1' : decide (0 < l0_0.length) = false := decide_eq_false g1
       have HA := Aside0.mk (show impl_DeskDo.after k s0 s1 [] false = some (r1, r2, r3) from h2)
       clear h2 g1
       go_wp2_with (fail)
       go_meet
       case rel => exact ⟨[], false, rfl, HA, ⟨Kd.R_nil _ _ _ _ _⟩, ⟨Below.refl _ _⟩⟩
     have e0 : (a1_0 == 0) = false := beq_eq_false_iff_ne.mpr k0
     have e1 : (a1_0 == 1) = false := beq_eq_false_iff_ne.mpr k1
     by_cases k2 : a1_0 = 2
     ·rw [if_neg Z32] at h2
      unfold impl_DeskDo.next at h2
      rw [if_neg k0, if_neg k1, if_pos k2] at h2
      obtain ⟨⟨x, o⟩, hN, hA⟩ := Option.bind_eq_some_iff.mp h2
      have e2 : (a1_0 == 2) = true := beq_iff_eq.mpr k2
      have HN := Aside0.mk hN
      have HA := Aside0.mk hA
      clear h2 hN hA k0 k1 k2 LP
      go_wp2_with (fail)
      refine (impl_NeedingMore.calls k _ _ l0_0 a1_1 x o w3 HRC.out HC0.out HN.out).mono ?_
      rintro e w4 ⟨v4, rfl, hv4, hb4⟩
      have HV4 := Aside0.mk hv4
      have HB4 := Aside0.mk hb4
      clear hv4 hb4
      go_wp2_with (fail)
      go_meet
      case rel => exact ⟨x, o, rfl, HA, HV4, HB4⟩
     by_cases k3 : a1_0 = 3
     ·rw [if_neg Z32] at h2
      unfold impl_DeskDo.next at h2
      rw [if_neg k0, if_neg k1, if_neg k2, if_pos k3] at h2
      have e2 : (a1_0 == 2) = false := beq_eq_false_iff_ne.mpr k2
      have e3 : (a1_0 == 3) = true := beq_iff_eq.mpr k3
      have HK := Aside0.mk (And.intro k0 (And.intro k1 (And.intro k2 k3)))
      clear k0 k1 k2 k3 LP
      by_cases g1 : 0 < l0_0.length
      ·have f1 : decide (0 < (l0_0.length : Int)) = true := decide_eq_true Z32
       have f1' : decide (0 < l0_0.length) = true := decide_eq_true g1
       by_cases g2 : 0 < a1_1
       ·rw [if_pos ⟨g1, g2⟩] at h2
        obtain ⟨⟨x, o⟩, hN, hA⟩ := Option.bind_eq_some_iff.mp h2
        have f2 : decide (0 < a1_1) = true := decide_eq_true g2
        have HN := Aside0.mk hN
        have HA := Aside0.mk hA
        clear h2 hN hA g1 g2
        go_wp2_with (fail)
        refine (impl_LaterBy.calls k _ _ l0_0 a1_1 x o w3 HRC.out HC0.out HN.out).mono ?_
        rintro e w4 ⟨v4, rfl, hv4, hb4⟩
        have HV4 := Aside0.mk hv4
        have HB4 := Aside0.mk hb4
        clear hv4 hb4
        go_wp2_with (fail)
        go_meet
        case rel => exact ⟨x, o, rfl, HA, HV4, HB4⟩
       ·rw [if_neg (fun h => g2 h.2)] at h2
        have f2 : decide (0 < a1_1) = false := decide_eq_false g2
        have HA := Aside0.mk (show impl_DeskDo.after k s0 s1 [] false = some (r1, r2, r3) from h2)
        clear h2 g1 g2
        go_wp2_with (fail)
        go_meet
        case rel => exact ⟨[], false, rfl, HA, ⟨Kd.R_nil _ _ _ _ _⟩, ⟨Below.refl _ _⟩⟩
      ·rw [if_neg (fun h => g1 h.1)] at h2
       have f1 : decide (0 < (l0_0.length : Int)) = false := decide_eq_false Z32
       have f1' : decide (0 < l0_0.length) = false := decide_eq_false g1
       have HA := Aside0.mk (show impl_DeskDo.after k s0 s1 [] false = some (r1, r2, r3) from h2)
       clear h2 g1
       go_wp2_with (fail)
       go_meet
       case rel => exact ⟨[], false, rfl, HA, ⟨Kd.R_nil _ _ _ _ _⟩, ⟨Below.refl _ _⟩⟩
     have e2 : (a1_0 == 2) = false := beq_eq_false_iff_ne.mpr k2
     have e3 : (a1_0 == 3) = false := beq_eq_false_iff_ne.mpr k3
     by_cases k4 : a1_0 = 4
     ·rw [if_pos k4] at h2
      have e4 : (a1_0 == 4) = true := beq_iff_eq.mpr k4
      have hs0 : w3.cell? ⟨w2.heap.size, 0, none⟩ = some (.slice As0 s0.length cs0) := (blk_cell S2.out 0).trans rfl
      have hs1 : w3.cell? ⟨w2.heap.size, 1, none⟩ = some (.slice As1 s1.length cs1) := (blk_cell S2.out 1).trans rfl
      have hr0 : w3.cell? ⟨w.heap.size + 1 + 1, 0, none⟩ = some (.slice none 0 0) := (blk_cell R2.out 0).trans rfl
      have hr1 : w3.cell? ⟨w.heap.size + 1 + 1, 1, none⟩ = some (.slice none 0 0) := (blk_cell R2.out 1).trans rfl
      have hf0 := blk_frozen R2.out 0
      have hf1 := blk_frozen R2.out 1
      have hne : w.heap.size + 1 + 1 ≠ w2.heap.size := Z35 NE
      have HK := Aside0.mk (And.intro k0 (And.intro k1 (And.intro k2 (And.intro k3 k4))))
      clear k0 k1 k2 k3 k4 LP
      by_cases g1 : s1.length = 0
      ·rw [if_pos g1] at h2
       simp only [Option.some.injEq, Prod.mk.injEq] at h2
       obtain ⟨rfl, rfl, rfl⟩ := h2
       have pw : IntKind.i64.wrap ((s1.length : Int) - 1) = -1 := Z75
       have HG := Aside0.mk g1
       clear g1
       go_wp2
       refine bodyPost_ret (results_ct rfl _ _ (w.heap.size + 1 + 1) 31 #[.slice As0 s0.length cs0, .slice As1 s1.length cs1] (0, 0) _ rfl (res_put R2.out) Tryz.underlying31 rfl Z15) rfl ?_
       obtain ⟨d1, d3⟩ := HDONE.out (.slice As0 s0.length cs0) (.slice As1 s1.length cs1)
       exact ⟨As0, cs0, As1, cs1, _, _, rfl, d1, d3⟩
      ·rw [if_neg g1] at h2
       simp only [Option.some.injEq, Prod.mk.injEq] at h2
       obtain ⟨rfl, rfl, rfl⟩ := h2
       obtain ⟨gp, cp, ep, hgb, hgl, cells, hcells⟩ := Kd.R_form V1.out Z32
       injection ep with ep1 ep2 ep3
       subst ep1 ep3
       have hmax := Kd.C_max (Kd.R_reads' V1.out).2.2
       have hcap := (Kd.R_reads' V1.out).2.1
       obtain ⟨ji, hji⟩ : ∃ j : Int, ((s1.length - 1 : Nat) : Int) = j := ⟨_, rfl⟩
       have pw : IntKind.i64.wrap ((s1.length : Int) - 1) = ji := Z75
       have f0 : decide (ji < 0) = false := decide_eq_false Z32
       have p0 : 0 ≤ ji := Z32
       have q0 : ji < (s1.length : Int) := Z32
       have q1 : ji ≤ (cs1 : Int) := Z32
       have hT : ji.toNat = s1.length - 1 := Z32
       have hul : us.length = s1.length := by have := SD.out.rows.1; simpa using this
       obtain ⟨u, hu⟩ : ∃ u, us[ji.toNat]? = some u := ⟨_, List.getElem?_eq_getElem Z32⟩
       obtain ⟨elm, helm⟩ : ∃ z, s1[ji.toNat]? = some z := ⟨_, List.getElem?_eq_getElem Z32⟩
       obtain ⟨Ae, ce, rfl⟩ := Kd.R_slice (SD.out.rows.2 (ji.toNat + 1) u elm hu helm)
       have hel : w3.cell? ⟨gp, ji.toNat, none⟩ = some (.slice Ae elm.length ce) := by
        obtain ⟨ad, e, hc, _⟩ := SD.out.cells _ _ hu
        obtain rfl := Option.some.inj e
        rw [show (⟨gp, 0, none⟩ : Addr).add ji.toNat = ⟨gp, ji.toNat, none⟩ from by simp [Addr.add]; intro h; omega] at hc
        exact hc
       have HE := Aside0.mk (show s1.getD (s1.length - 1) [] = elm by rw [← hT, List.getD_eq_getElem?_getD, helm]; rfl)
       obtain ⟨f9, h9⟩ := SD.out.back (n := ji.toNat) Z32 helm hu ji.toNat (Nat.le_refl _)
       have H9 := Aside0.mk h9
       clear h9 hul hu helm
       have HJ := Aside0.mk hji
       have HG := Aside0.mk g1
       have HT := Aside0.mk hT
       have HTL := Aside0.mk (show (s1.take ji.toNat).length = ji.toNat by rw [List.length_take]; omega)
       clear hT
       clear hji g1 hmax hcap hcells hgl hgb
       go_wp2_with (fail)
       go_region_with (go_at_call 98; (with_reducible refine (clip_is _ ji.toNat cs1 _ Z32).mono ?_); rintro e w' ⟨rfl, rfl⟩)
       all_goals go_wp2
       all_goals refine bodyPost_ret (results_ct rfl _ _ (w.heap.size + 1 + 1) 31 #[.slice Ae elm.length ce, .slice (some ⟨gp, 0, none⟩) ji.toNat ji.toNat] (0, 0) _ rfl (res_put (W := w3) R2.out) Tryz.underlying31 rfl Z15) rfl ?_
       all_goals obtain ⟨d1, d3⟩ := dd_own (w := w) (W := w3) (g := w.heap.size + 1 + 1) (b := w1.heap.size) (x := .slice Ae elm.length ce) (y := .slice (some ⟨gp, 0, none⟩) ji.toNat ji.toNat) Z32 E.out B2.out H9.out
       all_goals refine ⟨Ae, ce, some ⟨gp, 0, none⟩, ji.toNat, f9, us.take ji.toNat, ?_, ?_, below_drew1 d3⟩
       all_goals rw [← HT.out, show s1.getD ji.toNat [] = elm from by rw [HT.out]; exact HE.out]
       all_goals first | exact d1.below (below_drew1 (Below.refl _ _)) | (rw [HTL.out]; rfl)
     ·rw [if_neg k4] at h2
      unfold impl_DeskDo.next at h2
      rw [if_neg k0, if_neg k1, if_neg k2, if_neg k3] at h2
      have e4 : (a1_0 == 4) = false := beq_eq_false_iff_ne.mpr k4
      have HA := Aside0.mk (show impl_DeskDo.after k s0 s1 [] false = some (r1, r2, r3) from h2)
      clear h2 k0 k1 k2 k3 k4
      go_wp2_with (fail)
      go_meet
      case rel => exact ⟨[], false, rfl, HA, ⟨Kd.R_nil _ _ _ _ _⟩, ⟨Below.refl _ _⟩⟩
    case rest =>
     obtain ⟨x, o, rfl, HA, HV, HB⟩ := hcut
     have B5 := Aside0.mk (B2.out.trans (HB.out.mono (Nat.le_trans B2.out.size (Nat.le_refl _))))
     have R5 := Aside0.mk ((HB.out.block _ (blk_lt R2.out)).trans R2.out)
     have S5 := Aside0.mk ((HB.out.block _ (blk_lt S2.out)).trans S2.out)
     have W0 := Aside0.mk (Kd.R_below V0.out HB.out)
     have W1 := Aside0.mk (Kd.R_below V1.out HB.out)
     have L1 := Aside0.mk (Kd.R_lt V1.out)
     have hs0 : wc.cell? ⟨w2.heap.size, 0, none⟩ = some (.slice As0 s0.length cs0) := (blk_cell S5.out 0).trans rfl
     have hs1 : wc.cell? ⟨w2.heap.size, 1, none⟩ = some (.slice As1 s1.length cs1) := (blk_cell S5.out 1).trans rfl
     have hA := HA.out
     clear HA D2 A2 ha0 ha1 ha2
     cases o with
     | false =>
      obtain ⟨rfl, rfl, rfl⟩ : s0 = r1 ∧ s1 = r2 ∧ false = r3 := by simpa [impl_DeskDo.after] using hA
      clear hA
      have hr0 : wc.cell? ⟨w.heap.size + 1 + 1, 0, none⟩ = some (.slice none 0 0) := (blk_cell R5.out 0).trans rfl
      have hr1 : wc.cell? ⟨w.heap.size + 1 + 1, 1, none⟩ = some (.slice none 0 0) := (blk_cell R5.out 1).trans rfl
      have hf0 := blk_frozen R5.out 0
      have hf1 := blk_frozen R5.out 1
      have hne : w.heap.size + 1 + 1 ≠ w2.heap.size := Z35 NE
      go_wp2
      refine bodyPost_ret (results_ct rfl _ _ (w.heap.size + 1 + 1) 31 #[.slice As0 s0.length cs0, .slice As1 s1.length cs1] (0, 0) _ rfl (res_put R5.out) Tryz.underlying31 rfl Z15) rfl ?_
      obtain ⟨d1, d3⟩ := dd_own (w := w) (W := wc) (g := w.heap.size + 1 + 1) (b := w1.heap.size) (x := .slice As0 s0.length cs0) (y := .slice As1 s1.length cs1) Z32 E.out B5.out (SD.out.below HB.out)
      exact ⟨As0, cs0, As1, cs1, _, _, rfl, d1, d3⟩
     | true =>
      unfold impl_DeskDo.after at hA
      rw [if_neg Z33] at hA
      by_cases hbig : s1.length < 1000000
      ·rw [if_pos hbig] at hA
       obtain ⟨⟨q0, q1⟩, hC, hA⟩ := Option.bind_eq_some_iff.mp hA
       simp only [Option.some.injEq, Prod.mk.injEq] at hA
       obtain ⟨rfl, rfl, rfl⟩ := hA
       obtain ⟨y, hy⟩ : ∃ y, y = s1 ++ [s0] := ⟨_, rfl⟩
       have hyl : y.length = s1.length + 1 := by rw [hy]; simp
       rw [← hy, ← hyl] at hC
       have HC0_ := Aside0.mk hC
       have HY := Aside0.mk hy
       have HYL := Aside0.mk hyl
       have HBIG := Aside0.mk hbig
       obtain ⟨An, cn, rfl⟩ := Kd.R_slice HV.out
       have hsz : w1.heap.size ≤ wc.heap.size := by
        have h1 := NE.out
        have h2 := HB.out.size
        have h3 := E2.out
        have h4 := S2.out
        exact Nat.le_trans (Nat.le_of_lt (Nat.lt_of_le_of_lt WSZ.out (blk_lt h4))) h2
       have HSZ := Aside0.mk hsz
       clear hC hy hyl hbig hsz
       by_cases h8 : y.length > 8
       ·have f8 : decide (8 < (y.length : Int)) = true := decide_eq_true Z32
        have f8' : decide (8 < y.length) = true := decide_eq_true h8
        have HC := Aside0.mk (show impl_copyDesk.f k x (y.drop 1) = some (q0, q1) from by have := HC0_.out; rw [if_pos h8] at this; exact this)
        have H8 := Aside0.mk h8
        clear h8 HC0_
        go_wp2_with (first
         | ((with_reducible refine gate_builtin (b := .append) (xs := #[.tmp 125, .tmp 128]) rfl ?_); at_builtin; refine Kd.R_append (Kd.slice 84 k84) (w0 := wc) w1.heap.size rfl (.tmp 125) (.tmp 128) 29 28 (.slice none 0 0) 24 rfl Tryz.underlying29 info28 rfl Z28 Z32 (.slice As1 s1.length cs1) s1 s0 [.slice As0 s0.length cs0] (fun _ => True) (fun k_ => (Value.slice As0 s0.length cs0).ownBlock = some k_) rfl rfl ?aP ?aK (fun _ _ => trivial) ?aO (Below.refl _ _) HSZ.out ?aL ?_; (case aP => exact Kd.M_row (k84_own W0.out)); (case aK => exact fun k hk => ⟨trivial, fun e => W1.out.1 k e.symm hk.symm⟩); (case aO => exact Kd.R_mono W1.out (fun _ _ => trivial)); (case aL => exact Z35 HBIG); intro v7 w7 ho hb hg hat; rw [← HY.out] at ho; have HO7 := Aside0.mk ho; have HB7 := Aside0.mk (B5.out.trans (hb.mono (Nat.le_trans WSW.out (Nat.le_refl _)))); have HV7 := Aside0.mk (Kd.R_grown (Kd.R_mono (Kd.R_bound HV.out) (fun k hk => hk.2.1)) hg (fun k hk e => by have := L1.out k e.symm; omega)); have R7 := Aside0.mk ((hg.block _ (blk_lt R5.out) (Kd.R_ne W1.out R5.out Z28)).trans R5.out); have S7 := Aside0.mk (Nat.le_trans HSZ.out hb.size); clear ho hb hg hat hs0 hs1; obtain ⟨g7, c7, e7, _, _, _⟩ := Kd.R_form HO7.out (Z35 HYL); subst e7; have hcap := (Kd.R_reads' HO7.out).2.1; have h9 := H8.out))
        have el : y.length - 1 = (y.drop 1).length := by rw [List.length_drop]
        rw [el]
        refine (impl_copyDesk.calls k _ _ x _ _ (y.drop 1) q0 q1 _ (Kd.C_alloc (Kd.R_reads' HV7.out).2.2 _) (Kd.R_reads' HV7.out).2.1 (by have h7 := Kd.C_drop (m := 1) (Kd.R_reads' HO7.out).2.2 (Z35 HYL) (Kd.R_reads' HO7.out).2.1; rw [if_neg (by have h1 := H8.out; have h2 := (Kd.R_reads' HO7.out).2.1; omega)] at h7; exact Kd.C_alloc h7 _) (by rw [List.length_drop]; have h2 := (Kd.R_reads' HO7.out).2.1; omega) HC.out).mono ?_
        rintro e w9 ⟨v0, v1, rfl, hv, hs, hb9⟩
        obtain ⟨Aq0, cq0, rfl⟩ := Kd.R_slice hv
        obtain ⟨Aq1, cq1, rfl⟩ := Kd.S_slice hs
        have R9 := Aside0.mk ((hb9.block _ (blk_lt (blk_alloc1 R7.out))).trans (blk_alloc1 R7.out))
        have hlt := blk_lt (blk_alloc1 (o' := (.cells #[.slice An x.length cn, .slice (some ⟨g7, 1, none⟩) (y.drop 1).length (c7 - 1)] 31)) R7.out)
        obtain ⟨f9, u9, hq9⟩ := DOwn.of_S (Kd.R_mono hv (fun _ h => h)) (Kd.S_mono hs (fun _ h => ⟨trivial, h⟩))
        have DONE := Aside0.mk (dd_own (w := w) (W := w9) (g := w.heap.size + 1 + 1) (x := .slice Aq0 q0.length cq0) (y := .slice Aq1 q1.length cq1) Z32 hlt (below_step (below_alloc HB7.out _) hb9) hq9)
        have hr0 : w9.cell? ⟨w.heap.size + 1 + 1, 0, none⟩ = some (.slice none 0 0) := (blk_cell R9.out 0).trans rfl
        have hr1 : w9.cell? ⟨w.heap.size + 1 + 1, 1, none⟩ = some (.slice none 0 0) := (blk_cell R9.out 1).trans rfl
        have hf0 := blk_frozen R9.out 0
        have hf1 := blk_frozen R9.out 1
        clear hv hs hb9 hlt hcap h9 el hq9
        go_wp2
        refine bodyPost_ret (results_ct rfl _ _ (w.heap.size + 1 + 1) 31 #[.slice Aq0 q0.length cq0, .slice Aq1 q1.length cq1] (0, 0) _ rfl (res_put R9.out) Tryz.underlying31 rfl Z15) rfl ?_
        exact ⟨Aq0, cq0, Aq1, cq1, _, _, rfl, DONE.out.1, DONE.out.2⟩
       ·have f8 : decide (8 < (y.length : Int)) = false := decide_eq_false Z32
        have f8' : decide (8 < y.length) = false := decide_eq_false h8
        have HC := Aside0.mk (show impl_copyDesk.f k x y = some (q0, q1) from by have := HC0_.out; rw [if_neg h8] at this; exact this)
        clear h8 HC0_
        go_wp2_with (first
         | ((with_reducible refine gate_builtin (b := .append) (xs := #[.tmp 125, .tmp 128]) rfl ?_); at_builtin; refine Kd.R_append (Kd.slice 84 k84) (w0 := wc) w1.heap.size rfl (.tmp 125) (.tmp 128) 29 28 (.slice none 0 0) 24 rfl Tryz.underlying29 info28 rfl Z28 Z32 (.slice As1 s1.length cs1) s1 s0 [.slice As0 s0.length cs0] (fun _ => True) (fun k_ => (Value.slice As0 s0.length cs0).ownBlock = some k_) rfl rfl ?aP ?aK (fun _ _ => trivial) ?aO (Below.refl _ _) HSZ.out ?aL ?_; (case aP => exact Kd.M_row (k84_own W0.out)); (case aK => exact fun k hk => ⟨trivial, fun e => W1.out.1 k e.symm hk.symm⟩); (case aO => exact Kd.R_mono W1.out (fun _ _ => trivial)); (case aL => exact Z35 HBIG); intro v7 w7 ho hb hg hat; rw [← HY.out] at ho; have HO7 := Aside0.mk ho; have HB7 := Aside0.mk (B5.out.trans (hb.mono (Nat.le_trans WSW.out (Nat.le_refl _)))); have HV7 := Aside0.mk (Kd.R_grown (Kd.R_mono (Kd.R_bound HV.out) (fun k hk => hk.2.1)) hg (fun k hk e => by have := L1.out k e.symm; omega)); have R7 := Aside0.mk ((hg.block _ (blk_lt R5.out) (Kd.R_ne W1.out R5.out Z28)).trans R5.out); have S7 := Aside0.mk (Nat.le_trans HSZ.out hb.size); clear ho hb hg hat hs0 hs1; obtain ⟨g7, c7, e7, _, _, _⟩ := Kd.R_form HO7.out (Z35 HYL); subst e7))
        refine (impl_copyDesk.calls k _ _ x _ _ y q0 q1 _ (Kd.C_alloc (Kd.R_reads' HV7.out).2.2 _) (Kd.R_reads' HV7.out).2.1 (Kd.C_alloc (Kd.R_reads' HO7.out).2.2 _) (Kd.R_reads' HO7.out).2.1 HC.out).mono ?_
        rintro e w9 ⟨v0, v1, rfl, hv, hs, hb9⟩
        obtain ⟨Aq0, cq0, rfl⟩ := Kd.R_slice hv
        obtain ⟨Aq1, cq1, rfl⟩ := Kd.S_slice hs
        have R9 := Aside0.mk ((hb9.block _ (blk_lt (blk_alloc1 R7.out))).trans (blk_alloc1 R7.out))
        have hlt := blk_lt (blk_alloc1 (o' := (.cells #[.slice An x.length cn, .slice (some ⟨g7, 0, none⟩) y.length c7] 31)) R7.out)
        obtain ⟨f9, u9, hq9⟩ := DOwn.of_S (Kd.R_mono hv (fun _ h => h)) (Kd.S_mono hs (fun _ h => ⟨trivial, h⟩))
        have DONE := Aside0.mk (dd_own (w := w) (W := w9) (g := w.heap.size + 1 + 1) (x := .slice Aq0 q0.length cq0) (y := .slice Aq1 q1.length cq1) Z32 hlt (below_step (below_alloc HB7.out _) hb9) hq9)
        have hr0 : w9.cell? ⟨w.heap.size + 1 + 1, 0, none⟩ = some (.slice none 0 0) := (blk_cell R9.out 0).trans rfl
        have hr1 : w9.cell? ⟨w.heap.size + 1 + 1, 1, none⟩ = some (.slice none 0 0) := (blk_cell R9.out 1).trans rfl
        have hf0 := blk_frozen R9.out 0
        have hf1 := blk_frozen R9.out 1
        clear hv hs hb9 hlt hq9
        go_wp2
        refine bodyPost_ret (results_ct rfl _ _ (w.heap.size + 1 + 1) 31 #[.slice Aq0 q0.length cq0, .slice Aq1 q1.length cq1] (0, 0) _ rfl (res_put R9.out) Tryz.underlying31 rfl Z15) rfl ?_
        exact ⟨Aq0, cq0, Aq1, cq1, _, _, rfl, DONE.out.1, DONE.out.2⟩
      ·rw [if_neg hbig] at hA; cases hA

/-! ### impl_DeskLine: function 14 (by hand) -/
def impl_DeskLine.f (k : Nat) (d0 : List S84) (d1 : List (List S84)) (s : ByteArray) : Option (List S84 × List (List S84) × ByteArray) :=
  (impl_DeskOk.f k d0 d1).bind fun ok => if ok = true then ((impl_ReadDeed.f k s).bind fun A => if A.2.2.2 = true then ((impl_DeskDo.f k d0 d1 A.1 A.2.1 A.2.2.1).bind fun R => some (R.1, R.2.1, if R.2.2 = true then (⟨#[111, 107]⟩ : ByteArray) else ⟨#[110, 111, 116]⟩)) else none) else none
set_option maxHeartbeats 8000000 in
set_option maxRecDepth 100000 in
theorem impl_DeskLine.calls (k : Nat) (A0_0 : Option Addr) (c0_0 : Nat) (l0_0 : List (S84)) (A0_1 : Option Addr) (c0_1 : Nat) (l0_1 : List (List (S84))) (a1 : ByteArray) (r1 : List (S84)) (r2 : List (List (S84))) (r3 : ByteArray) (w : World) (hE : EnvOk w) (hr0_0 : Kd.C k84 w A0_0 l0_0.length l0_0) (hc0_0 : l0_0.length ≤ c0_0) (hr0_1 : Kd.C (Kd.slice 84 k84) w A0_1 l0_1.length l0_1) (hc0_1 : l0_1.length ≤ c0_1) (h : impl_DeskLine.f k l0_0 l0_1 a1 = some (r1, r2, r3)) :
 Calls Tryz.prog 14 #[.agg #[.slice A0_0 l0_0.length c0_0, .slice A0_1 l0_1.length c0_1], .string a1] w fun e w' => ∃ (A0_ : Option Addr) (c0_ : Nat) (A1_ : Option Addr) (c1_ : Nat) (f_ : Nat → Nat) (vs_ : List Value), e = .returned (.tuple #[.agg #[.slice A0_ r1.length c0_, .slice A1_ r2.length c1_], .string r3]) ∧ DOwn w' w.heap.size (fun k_ => w.heap.size ≤ k_) A0_ c0_ r1 A1_ c1_ r2 f_ vs_ ∧ Below w.heap.size w w' := by
 have hu31 := Tryz.underlying31
 have hu39 := Tryz.underlying39
 unfold impl_DeskLine.f at h
 obtain ⟨okd, hOK, h1⟩ := Option.bind_eq_some_iff.mp h
 have HOK := Aside0.mk hOK
 have HE := Aside0.mk hE
 have HR0 := Aside0.mk hr0_0
 have HC0 := Aside0.mk hc0_0
 have HR1 := Aside0.mk hr0_1
 have HC1 := Aside0.mk hc0_1
 clear h hOK hE hr0_0 hc0_0 hr0_1 hc0_1
 go_enter Tryz.func14, Tryz.ntmps14
 go_wp2_with (fail)
 have B0 := Aside0.mk (below_alloc (below_alloc (Below.refl w.heap.size w) (.cells #[.slice A0_0 l0_0.length c0_0, .slice A0_1 l0_1.length c0_1] 31)) (.cells #[.slice none 0 0, .slice none 0 0] 31))
 have D0 := Aside0.mk (blk_alloc1 (o' := .cells #[.slice none 0 0, .slice none 0 0] 31) (blk_new w (.cells #[.slice A0_0 l0_0.length c0_0, .slice A0_1 l0_1.length c0_1] 31)))
 have R0 := Aside0.mk (blk_new (w.alloc (.cells #[.slice A0_0 l0_0.length c0_0, .slice A0_1 l0_1.length c0_1] 31)) (.cells #[.slice none 0 0, .slice none 0 0] 31))
 rw [size_alloc1] at R0
 refine (impl_DeskOk.calls k _ _ l0_0 _ _ l0_1 okd _ (Kd.C_below HR0.out B0.out) HC0.out (Kd.C_below HR1.out B0.out) HC1.out HOK.out).mono ?_
 rintro e w1 ⟨rfl, hb1⟩
 have B1 := Aside0.mk (below_step B0.out hb1)
 have D1 := Aside0.mk ((hb1.block _ (blk_lt D0.out)).trans D0.out)
 have R1 := Aside0.mk ((hb1.block _ (blk_lt R0.out)).trans R0.out)
 clear hb1 B0 D0 R0 HOK
 cases okd with
 | false => rw [if_neg Z33] at h1; cases h1
 | true =>
  rw [if_pos rfl] at h1
  obtain ⟨⟨kd, aa, ab, okr⟩, hRD, h2⟩ := Option.bind_eq_some_iff.mp h1
  try dsimp only at h2
  have HRD := Aside0.mk hRD
  clear h1 hRD
  cases okr with
  | false => rw [if_neg Z33] at h2; cases h2
  | true =>
   rw [if_pos rfl] at h2
   obtain ⟨⟨x0, x1, b⟩, hDo, h3⟩ := Option.bind_eq_some_iff.mp h2
   have HDO := Aside0.mk hDo
   have H3 := Aside0.mk h3
   clear h2 hDo h3
   go_wp2_with (fail)
   refine (impl_ReadDeed.calls k a1 kd aa ab true _ (HE.out.below B1.out) HRD.out).mono ?_
   rintro e w2 ⟨rfl, hb2⟩
   have B2 := Aside0.mk (below_alloc (below_step B1.out hb2) (.cells #[.int .i64 kd, .int .i64 aa, .int .i64 ab] 39))
   have D2 := Aside0.mk (blk_alloc1 (o' := .cells #[.int .i64 kd, .int .i64 aa, .int .i64 ab] 39) ((hb2.block _ (blk_lt D1.out)).trans D1.out))
   have R2 := Aside0.mk (blk_alloc1 (o' := .cells #[.int .i64 kd, .int .i64 aa, .int .i64 ab] 39) ((hb2.block _ (blk_lt R1.out)).trans R1.out))
   have A2 := Aside0.mk (blk_new w2 (.cells #[.int .i64 kd, .int .i64 aa, .int .i64 ab] 39))
   clear hb2 B1 D1 R1 HRD
   go_upto_region 4 with (fail)
   generalize w2.alloc (.cells #[.int .i64 kd, .int .i64 aa, .int .i64 ab] 39) = w3 at *
   generalize w2.heap.size = ga at *
   have hd0 : w3.cell? ⟨w.heap.size, 0, none⟩ = some (.slice A0_0 l0_0.length c0_0) := (blk_cell D2.out 0).trans rfl
   have hd1 : w3.cell? ⟨w.heap.size, 1, none⟩ = some (.slice A0_1 l0_1.length c0_1) := (blk_cell D2.out 1).trans rfl
   have ha0 : w3.cell? ⟨ga, 0, none⟩ = some (.int .i64 kd) := (blk_cell A2.out 0).trans rfl
   have ha1 : w3.cell? ⟨ga, 1, none⟩ = some (.int .i64 aa) := (blk_cell A2.out 1).trans rfl
   have ha2 : w3.cell? ⟨ga, 2, none⟩ = some (.int .i64 ab) := (blk_cell A2.out 2).trans rfl
   go_wp2_with (fail)
   refine (impl_DeskDo.calls k _ _ l0_0 _ _ l0_1 kd aa ab x0 x1 b _ (Kd.C_below HR0.out B2.out) HC0.out (Kd.C_below HR1.out B2.out) HC1.out HDO.out).mono ?_
   rintro e w4 ⟨B0, e0, B1, e1, f4, vs4, rfl, hO, hb4⟩
   have B4 := Aside0.mk (below_alloc (below_step B2.out hb4) (.cells #[.slice B0 x0.length e0, .slice B1 x1.length e1] 31))
   have R4 := Aside0.mk (blk_alloc1 (o' := .cells #[.slice B0 x0.length e0, .slice B1 x1.length e1] 31) ((hb4.block _ (blk_lt R2.out)).trans R2.out))
   have N4 := Aside0.mk (blk_new w4 (.cells #[.slice B0 x0.length e0, .slice B1 x1.length e1] 31))
   have O4 := Aside0.mk (hO.below (below_alloc (Below.refl w4.heap.size w4) (.cells #[.slice B0 x0.length e0, .slice B1 x1.length e1] 31)))
   have E4 := Aside0.mk (blk_lt R2.out)
   clear hb4 hO hd0 hd1 ha0 ha1 ha2 D2 R2 A2 B2 HDO
   go_upto_region 6 with (fail)
   generalize w4.alloc (.cells #[.slice B0 x0.length e0, .slice B1 x1.length e1] 31) = w5 at *
   generalize w4.heap.size = gb at *
   have hd0 : w5.cell? ⟨gb, 0, none⟩ = some (.slice B0 x0.length e0) := (blk_cell N4.out 0).trans rfl
   have hd1 : w5.cell? ⟨gb, 1, none⟩ = some (.slice B1 x1.length e1) := (blk_cell N4.out 1).trans rfl
   have hr0 : w5.cell? ⟨w.heap.size + 1, 0, none⟩ = some (.slice none 0 0) := (blk_cell R4.out 0).trans rfl
   have hr1 : w5.cell? ⟨w.heap.size + 1, 1, none⟩ = some (.slice none 0 0) := (blk_cell R4.out 1).trans rfl
   have hf0 := blk_frozen R4.out 0
   have hf1 := blk_frozen R4.out 1
   have h3 := H3.out
   clear H3
   try dsimp only at h3
   cases b with
   | true =>
    rw [if_pos rfl] at h3
    simp only [Option.some.injEq, Prod.mk.injEq] at h3
    obtain ⟨rfl, rfl, rfl⟩ := h3
    go_wp2
    refine bodyPost_ret (results_ct rfl _ _ (w.heap.size + 1) 31 #[.slice B0 x0.length e0, .slice B1 x1.length e1] (0, 0) _ rfl (res_put R4.out) Tryz.underlying31 rfl Z15) rfl ?_
    obtain ⟨d1, d3⟩ := dd_own (w := w) (g := w.heap.size + 1) (b := w3.heap.size) (x := .slice B0 x0.length e0) (y := .slice B1 x1.length e1) Z32 E4.out B4.out O4.out
    exact ⟨_, _, _, _, _, _, rfl, d1, d3⟩
   | false =>
    rw [if_neg Z33] at h3
    simp only [Option.some.injEq, Prod.mk.injEq] at h3
    obtain ⟨rfl, rfl, rfl⟩ := h3
    go_wp2
    refine bodyPost_ret (results_ct rfl _ _ (w.heap.size + 1) 31 #[.slice B0 x0.length e0, .slice B1 x1.length e1] (0, 0) _ rfl (res_put R4.out) Tryz.underlying31 rfl Z15) rfl ?_
    obtain ⟨d1, d3⟩ := dd_own (w := w) (g := w.heap.size + 1) (b := w3.heap.size) (x := .slice B0 x0.length e0) (y := .slice B1 x1.length e1) Z32 E4.out B4.out O4.out
    exact ⟨_, _, _, _, _, _, rfl, d1, d3⟩

end Go.Proofs.YtmmoojkhlkjdkaaGreatDoor.PFnReadJournal
