-- Printed by this claim's own program; Lean checks it.
import Derived.Test.YtmmoojkhlkjdkaaGreatDoorPFnReadJournalx0
import Derived.Test.YtmmoojkhlkjdkaaGreatDoorPFnReadJournalx2
import Derived.Test.YtmmoojkhlkjdkaaGreatDoorPFnReadJournalx9
import Derived.Test.YtmmoojkhlkjdkaaGreatDoorPFnReadJournalx12
import Derived.Test.YtmmoojkhlkjdkaaGreatDoorPFnReadJournalx19
import Derived.Test.YtmmoojkhlkjdkaaGreatDoorPFnReadJournalx20
import Derived.Test.YtmmoojkhlkjdkaaGreatDoorPFnReadJournalx22
namespace Go.Proofs.YtmmoojkhlkjdkaaGreatDoor.PFnReadJournal
open Go.RowKit Go.Proofs.YtmmoojkhlkjdkaaGreatDoorW.PrintWords Go.Proofs.YtmmoojkhlkjdkaaGreatDoorW.PrintLast Go.Proofs.YtmmoojkhlkjdkaaGreatDoorW.PrintMore
attribute [local go_sem] max2_int min2_int max_two min_two max_three min_three max_four min_four   -- for this text's walks alone
set_option linter.unusedVariables false
set_option linter.unusedSimpArgs false

attribute [local go_sem high] eqA84
/-! ### impl_DeskRun: function 16 (by hand) -/
def impl_DeskRun.go (k : Nat) : List S39 → List S84 → List (List S84) → Int → Option (List S84 × List (List S84) × Int)
  | [], now, past, n => some (now, past, n)
  | d :: ds, now, past, n => (impl_DeskDo.f k now past d.f0 d.f1 d.f2).bind fun R => if R.2.2 = true then impl_DeskRun.go k ds R.1 R.2.1 (n + 1) else impl_DeskRun.go k ds now past n
def impl_DeskRun.f (k : Nat) (l0 : List S84) (l1 : List (List S84)) (l2 : List S39) : Option (List S84 × List (List S84) × Int) :=
  (impl_DeskOk.f k l0 l1).bind fun ok => if ok = false then some ([], [], 0) else if 40 < l2.length then some ([], [], 0) else (impl_copyDesk.f k l0 l1).bind fun S => impl_DeskRun.go k l2 S.1 S.2 0
theorem impl_DeskRun.mono_go : ∀ ds now past n k, LeO (impl_DeskRun.go k ds now past n) (impl_DeskRun.go (k + 1) ds now past n)
  | [], _, _, _, _ => LeO.refl _
  | d :: ds, now, past, n, k => LeO.bind (impl_DeskDo.mono _ _ _ _ _ _) (fun R => LeO.ite (impl_DeskRun.mono_go ds _ _ _ k) (impl_DeskRun.mono_go ds _ _ _ k))
set_option maxHeartbeats 8000000 in
set_option maxRecDepth 100000 in
theorem impl_DeskRun.calls (k : Nat) (A0_0 : Option Addr) (c0_0 : Nat) (l0_0 : List (S84)) (A0_1 : Option Addr) (c0_1 : Nat) (l0_1 : List (List (S84))) (A1 : Option Addr) (c1 : Nat) (l1 : List S39) (r1 : List (S84)) (r2 : List (List (S84))) (r3 : Int) (w : World) (hr0_0 : Kd.C k84 w A0_0 l0_0.length l0_0) (hc0_0 : l0_0.length ≤ c0_0) (hr0_1 : Kd.C (Kd.slice 84 k84) w A0_1 l0_1.length l0_1) (hc0_1 : l0_1.length ≤ c0_1) (hr1 : Kd.C k39 w A1 l1.length l1) (hc1 : l1.length ≤ c1) (h : impl_DeskRun.f k l0_0 l0_1 l1 = some (r1, r2, r3)) :
 Calls Tryz.prog 16 #[.agg #[.slice A0_0 l0_0.length c0_0, .slice A0_1 l0_1.length c0_1], .slice A1 l1.length c1] w fun e w' => ∃ (A0_ : Option Addr) (c0_ : Nat) (A1_ : Option Addr) (c1_ : Nat) (f_ : Nat → Nat) (vs_ : List Value), e = .returned (.tuple #[.agg #[.slice A0_ r1.length c0_, .slice A1_ r2.length c1_], .int .i64 r3]) ∧ DOwn w' w.heap.size (fun k_ => w.heap.size ≤ k_) A0_ c0_ r1 A1_ c1_ r2 f_ vs_ ∧ Below w.heap.size w w' := by
 have hu31 := Tryz.underlying31
 have hu39 := Tryz.underlying39
 unfold impl_DeskRun.f at h
 obtain ⟨okd, hOK, h1⟩ := Option.bind_eq_some_iff.mp h
 have HOK := Aside0.mk hOK
 have HR0 := Aside0.mk hr0_0
 have HC0 := Aside0.mk hc0_0
 have HR1 := Aside0.mk hr0_1
 have HC1 := Aside0.mk hc0_1
 have HR2 := Aside0.mk hr1
 have HM2 := Aside0.mk (Kd.C_max hr1)
 clear h hOK hr0_0 hc0_0 hr0_1 hc0_1 hr1
 go_enter Tryz.func16, Tryz.ntmps16
 go_wp2_with (fail)
 have B0 := Aside0.mk (below_alloc (below_alloc (Below.refl w.heap.size w) (.cells #[.slice A0_0 l0_0.length c0_0, .slice A0_1 l0_1.length c0_1] 31)) (.cells #[.slice none 0 0, .slice none 0 0] 31))
 have D0 := Aside0.mk (blk_alloc1 (o' := .cells #[.slice none 0 0, .slice none 0 0] 31) (blk_new w (.cells #[.slice A0_0 l0_0.length c0_0, .slice A0_1 l0_1.length c0_1] 31)))
 have R0 := Aside0.mk (blk_new (w.alloc (.cells #[.slice A0_0 l0_0.length c0_0, .slice A0_1 l0_1.length c0_1] 31)) (.cells #[.slice none 0 0, .slice none 0 0] 31))
 rw [size_alloc1] at R0
 refine (impl_DeskOk.calls k _ _ l0_0 _ _ l0_1 okd _ (Kd.C_below HR0.out B0.out) HC0.out (Kd.C_below HR1.out B0.out) HC1.out HOK.out).mono ?_
 rintro e w1 ⟨rfl, hb1⟩
 have B1 := Aside0.mk (below_step B0.out hb1)
 have D1 := Aside0.mk ((hb1.block _ (blk_lt D0.out)).trans D0.out)
 have R1 := Aside0.mk ((hb1.block _ (blk_lt R0.out)).trans R0.out)
 clear hb1 B0 D0 R0 HOK
 have hr0 : w1.cell? ⟨w.heap.size + 1, 0, none⟩ = some (.slice none 0 0) := (blk_cell R1.out 0).trans rfl
 have hr1 : w1.cell? ⟨w.heap.size + 1, 1, none⟩ = some (.slice none 0 0) := (blk_cell R1.out 1).trans rfl
 have hf0 := blk_frozen R1.out 0
 have hf1 := blk_frozen R1.out 1
 cases okd with
 | false =>
  rw [if_pos rfl] at h1
  simp only [Option.some.injEq, Prod.mk.injEq] at h1
  obtain ⟨rfl, rfl, rfl⟩ := h1
  go_wp2
  refine bodyPost_ret (results_ct rfl _ _ (w.heap.size + 1) 31 #[.slice none 0 0, .slice none 0 0] (0, 0) _ rfl (res_put R1.out) Tryz.underlying31 rfl Z15) rfl ?_
  obtain ⟨d1, d3⟩ := dd_own (w := w) (g := w.heap.size + 1) (b := w.heap.size + 1 + 1) (x := .slice none 0 0) (y := .slice none 0 0) Z32 Z32 B1.out (DOwn.none w1 _ (fun _ => True))
  exact ⟨none, 0, none, 0, _, _, rfl, d1, d3⟩
 | true =>
  rw [if_neg Z33] at h1
  by_cases h40 : 40 < l1.length
  ·rw [if_pos h40] at h1
   simp only [Option.some.injEq, Prod.mk.injEq] at h1
   obtain ⟨rfl, rfl, rfl⟩ := h1
   have f40 : decide (40 < (l1.length : Int)) = true := decide_eq_true Z32
   have f40' : decide (40 < l1.length) = true := decide_eq_true h40
   clear h40
   go_wp2
   refine bodyPost_ret (results_ct rfl _ _ (w.heap.size + 1) 31 #[.slice none 0 0, .slice none 0 0] (0, 0) _ rfl (res_put R1.out) Tryz.underlying31 rfl Z15) rfl ?_
   obtain ⟨d1, d3⟩ := dd_own (w := w) (g := w.heap.size + 1) (b := w.heap.size + 1 + 1) (x := .slice none 0 0) (y := .slice none 0 0) Z32 Z32 B1.out (DOwn.none w1 _ (fun _ => True))
   exact ⟨none, 0, none, 0, _, _, rfl, d1, d3⟩
  ·rw [if_neg h40] at h1
   have f40 : decide (40 < (l1.length : Int)) = false := decide_eq_false Z32
   have f40' : decide (40 < l1.length) = false := decide_eq_false h40
   have HF := Aside0.mk h40
   clear h40 hr0 hr1 hf0 hf1
   obtain ⟨⟨s0, s1⟩, hS, h2⟩ := Option.bind_eq_some_iff.mp h1
   have HS := Aside0.mk hS
   have H2 := Aside0.mk (show impl_DeskRun.go k l1 s0 s1 0 = some (r1, r2, r3) from h2)
   clear h1 hS h2
   have hd0 : w1.cell? ⟨w.heap.size, 0, none⟩ = some (.slice A0_0 l0_0.length c0_0) := (blk_cell D1.out 0).trans rfl
   have hd1 : w1.cell? ⟨w.heap.size, 1, none⟩ = some (.slice A0_1 l0_1.length c0_1) := (blk_cell D1.out 1).trans rfl
   go_wp2_with (fail)
   refine (impl_copyDesk.calls k _ _ l0_0 _ _ l0_1 s0 s1 _ (Kd.C_below HR0.out B1.out) HC0.out (Kd.C_below HR1.out B1.out) HC1.out HS.out).mono ?_
   rintro e w2 ⟨v0, v1, rfl, hv, hs, hb2⟩
   obtain ⟨As0, cs0, rfl⟩ := Kd.R_slice hv
   obtain ⟨As1, cs1, rfl⟩ := Kd.S_slice hs
   obtain ⟨fs, us, hSD⟩ := DOwn.of_S (Kd.R_mono hv (fun _ h => h)) (Kd.S_mono hs (fun _ h => ⟨trivial, h⟩))
   clear hd0 hd1 f40 f40'
   have E := Aside0.mk (blk_lt R1.out)
   have D2 := (hb2.block _ (blk_lt D1.out)).trans D1.out
   have R2 := (hb2.block _ (blk_lt R1.out)).trans R1.out
   have hd0 : w2.cell? ⟨w.heap.size, 0, none⟩ = some (.slice A0_0 l0_0.length c0_0) := (blk_cell D2 0).trans rfl
   have hd1 : w2.cell? ⟨w.heap.size, 1, none⟩ = some (.slice A0_1 l0_1.length c0_1) := (blk_cell D2 1).trans rfl
   have hf0 := blk_frozen D2 0
   have hf1 := blk_frozen D2 1
   have D3 := Aside0.mk (res_put (x := .slice As0 s0.length cs0) (y := .slice As1 s1.length cs1) D2)
   have R3 := Aside0.mk (blk_far (p := ⟨w.heap.size, 1, none⟩) (blk_far (p := ⟨w.heap.size, 0, none⟩) R2 Z81 (.slice As0 s0.length cs0)) Z81 (.slice As1 s1.length cs1))
   have B3 := Aside0.mk (below_set (g := w.heap.size) (j := 1) (v := .slice As1 s1.length cs1) (below_set (g := w.heap.size) (j := 0) (v := .slice As0 s0.length cs0) (below_step B1.out hb2) (Nat.le_refl _)) (Nat.le_refl _))
   have S3 := Aside0.mk ((hSD.mono (ok' := fun k => w1.heap.size ≤ k) (base' := w1.heap.size) (fun k hk _ _ => hk) (Nat.le_refl _)).step (W' := (w2.setCell ⟨w.heap.size, 0, none⟩ (.slice As0 s0.length cs0)).setCell ⟨w.heap.size, 1, none⟩ (.slice As1 s1.length cs1)) (fun k hk _ => (Below.heap_setCell _ ⟨w.heap.size, 1, none⟩ _ k (by have := E.out; show k ≠ w.heap.size; omega)).trans (Below.heap_setCell _ ⟨w.heap.size, 0, none⟩ _ k (by have := E.out; show k ≠ w.heap.size; omega))))
   have Z3 := Aside0.mk (show w1.heap.size ≤ ((w2.setCell ⟨w.heap.size, 0, none⟩ (.slice As0 s0.length cs0)).setCell ⟨w.heap.size, 1, none⟩ (.slice As1 s1.length cs1)).heap.size from by have := hb2.size; simpa [World.setCell] using this)
   clear hv hs hb2 hSD D2 R2 D1 R1 B1
   go_upto_region 6 with (fail)
   clear hd0 hd1 hf0 hf1
   generalize (w2.setCell ⟨w.heap.size, 0, none⟩ (.slice As0 s0.length cs0)).setCell ⟨w.heap.size, 1, none⟩ (.slice As1 s1.length cs1) = w3 at D3 R3 B3 S3 Z3 ⊢
   clear w2
   go_loopg [6, 24] (l1.length + 1) (fun kq v6 v24 w' => ∃ (done rest : List S39) (now : List S84) (past : List (List S84)) (n xi : Int) (A0 : Option Addr) (c0 : Nat) (A1_ : Option Addr) (c1_ : Nat) (f : Nat → Nat) (vs : List Value), v6 = .int .i64 n ∧ v24 = .int .i64 xi ∧ Aside0 (xi = (done.length : Int)) ∧ Aside0 (l1 = done ++ rest) ∧ Aside0 (impl_DeskRun.go k rest now past n = some (r1, r2, r3)) ∧ Aside0 (0 ≤ n ∧ n ≤ (done.length : Int)) ∧ Aside0 (rest.length < kq) ∧ Aside0 (w'.heap[w.heap.size]? = some (.cells #[.slice A0 now.length c0, .slice A1_ past.length c1_] 31 (0, 0))) ∧ Aside0 (DOwn w' w1.heap.size (fun k => w1.heap.size ≤ k) A0 c0 now A1_ c1_ past f vs) ∧ Aside0 (w'.heap[w.heap.size + 1]? = some (.cells #[.slice none 0 0, .slice none 0 0] 31 (0, 0))) ∧ Aside0 (Below w.heap.size w w') ∧ Aside0 (w1.heap.size ≤ w'.heap.size))
   case atStart => exact ⟨[], l1, s0, s1, 0, 0, As0, cs0, As1, cs1, fs, us, rfl, rfl, ⟨rfl⟩, ⟨rfl⟩, H2, ⟨Z33⟩, ⟨Z32⟩, D3, S3, R3, B3, Z3⟩
   case round =>
    clear H2 D3 S3 R3 B3 Z3
    obtain ⟨done, rest, now, past, n, xi, A0, c0, A1_, c1_, f, vs, rfl, rfl, HX, HL, HA, HN, HK, DB, DO, RB, BB, ZB⟩ := hrel
    have hlen : l1.length = done.length + rest.length := by rw [HL.out]; simp
    cases rest with
    | nil =>
     obtain ⟨rfl, rfl, rfl⟩ : now = r1 ∧ past = r2 ∧ n = r3 := by have := HA.out; simpa [impl_DeskRun.go] using this
     have c3 : decide (xi < (l1.length : Int)) = false := decide_eq_false (by have := HX.out; simp at hlen; omega)
     have HLEN := Aside0.mk hlen
     clear hlen
     have hd0 : wr.cell? ⟨w.heap.size, 0, none⟩ = some (.slice A0 now.length c0) := (blk_cell DB.out 0).trans rfl
     have hd1 : wr.cell? ⟨w.heap.size, 1, none⟩ = some (.slice A1_ past.length c1_) := (blk_cell DB.out 1).trans rfl
     have hr0 : wr.cell? ⟨w.heap.size + 1, 0, none⟩ = some (.slice none 0 0) := (blk_cell RB.out 0).trans rfl
     have hr1 : wr.cell? ⟨w.heap.size + 1, 1, none⟩ = some (.slice none 0 0) := (blk_cell RB.out 1).trans rfl
     have hf0 := blk_frozen RB.out 0
     have hf1 := blk_frozen RB.out 1
     go_wp2
     refine bodyPost_ret (results_ct rfl _ _ (w.heap.size + 1) 31 #[.slice A0 now.length c0, .slice A1_ past.length c1_] (0, 0) _ rfl (res_put RB.out) Tryz.underlying31 rfl Z15) rfl ?_
     obtain ⟨d1, d3⟩ := dd_own (w := w) (g := w.heap.size + 1) (b := w1.heap.size) (x := .slice A0 now.length c0) (y := .slice A1_ past.length c1_) Z32 E.out BB.out DO.out
     exact ⟨A0, c0, A1_, c1_, _, _, rfl, d1, d3⟩
    | cons d ds =>
     simp only [List.length_cons] at hlen
     have hx := HX.out
     have hm := HM2.out
     have hf := HF.out
     obtain ⟨⟨x0, x1, b⟩, hD, h2⟩ := Option.bind_eq_some_iff.mp (show ((impl_DeskDo.f k now past d.f0 d.f1 d.f2).bind fun R => if R.2.2 = true then impl_DeskRun.go k ds R.1 R.2.1 (n + 1) else impl_DeskRun.go k ds now past n) = some (r1, r2, r3) from HA.out)
     dsimp only at h2
     have c3 : decide (xi < (l1.length : Int)) = true := decide_eq_true Z32
     have p1 : 0 ≤ xi := Z32
     have q1 : xi < (l1.length : Int) := Z32
     have pw : IntKind.i64.wrap (xi + 1) = xi + 1 := Z75
     have pn : IntKind.i64.wrap (n + 1) = n + 1 := by have := HN.out; rw [IntKind.wrap_i64]; omega
     obtain ⟨ad, e, hx0, hx1, hx2⟩ := at_T39 (Kd.C_below HR2.out BB.out) xi p1 q1
     cases e
     have hd : rd_T39 l1 xi = d := by
      unfold rd_T39
      rw [HL.out, show xi.toNat = done.length by omega]
      simp
     rw [hd] at hx0 hx1 hx2
     have P1 := eq_true p1
     have Q1 := eq_true q1
     have HD := Aside0.mk hD
     have HH := Aside0.mk h2
     have HLEN := Aside0.mk hlen
     have HPW := Aside0.mk pw
     have HPN := Aside0.mk pn
     obtain ⟨f0, hf0⟩ : ∃ z, d.f0 = z := ⟨_, rfl⟩
     obtain ⟨f1, hf1⟩ : ∃ z, d.f1 = z := ⟨_, rfl⟩
     obtain ⟨f2, hf2⟩ : ∃ z, d.f2 = z := ⟨_, rfl⟩
     rw [hf0, hf1, hf2] at HD
     rw [hf0] at hx0
     rw [hf1] at hx1
     rw [hf2] at hx2
     have hd0 : wr.cell? ⟨w.heap.size, 0, none⟩ = some (.slice A0 now.length c0) := (blk_cell DB.out 0).trans rfl
     have hd1 : wr.cell? ⟨w.heap.size, 1, none⟩ = some (.slice A1_ past.length c1_) := (blk_cell DB.out 1).trans rfl
     have m1 := blk_lt DB.out
     clear hx hm hf hlen p1 q1 pw pn hD h2 hd hf0 hf1 hf2 HA
     go_wp2_with (fail)
     have BL := below_alloc (Below.refl wr.heap.size wr) (.cells #[.int .i64 f0, .int .i64 f1, .int .i64 f2] 39)
     refine (impl_DeskDo.calls k A0 c0 now A1_ c1_ past f0 f1 f2 x0 x1 b _ (DO.out.below BL).r0 (DO.out.below BL).h0 (DO.out.below BL).r1 (DO.out.below BL).le HD.out).mono ?_
     rintro e w5 ⟨B0, e0, B1, e1, f', vs', rfl, hdo, hb⟩
     have hb' := below_step BL hb
     have DB5 := Aside0.mk ((hb'.block _ (blk_lt DB.out)).trans DB.out)
     have RB5 := Aside0.mk ((hb'.block _ (blk_lt RB.out)).trans RB.out)
     have BB5 := Aside0.mk (below_step BB.out hb')
     have DO5 := Aside0.mk ((DO.out.below hb').below (below_alloc (Below.refl w5.heap.size w5) (.cells #[.slice B0 x0.length e0, .slice B1 x1.length e1] 31)))
     have LE5 := Nat.le_trans ZB.out BL.size
     have ZB5 := Aside0.mk (Nat.le_trans LE5 hb.size)
     have NO5 := Aside0.mk (hdo.mono (ok' := fun k => w1.heap.size ≤ k) (base' := w1.heap.size) (fun k hk _ _ => Nat.le_trans LE5 hk) LE5)
     clear hdo hb hb' BL LE5 hd0 hd1 m1 hx0 hx1 hx2 P1 Q1 c3
     have hd0 : w5.cell? ⟨w.heap.size, 0, none⟩ = some (.slice A0 now.length c0) := (blk_cell DB5.out 0).trans rfl
     have hd1 : w5.cell? ⟨w.heap.size, 1, none⟩ = some (.slice A1_ past.length c1_) := (blk_cell DB5.out 1).trans rfl
     have hf0 := blk_frozen DB5.out 0
     have hf1 := blk_frozen DB5.out 1
     have m1 := blk_lt DB5.out
     have pw := HPW.out
     have pn := HPN.out
     cases b with
     | true =>
      have HH2 := Aside0.mk (show impl_DeskRun.go k ds x0 x1 (n + 1) = some (r1, r2, r3) from HH.out)
      go_wp2_with (fail)
      go_roundg (ds.length + 1)
      case measure => have := HK.out; simp at this; omega
      case rel => exact ⟨done ++ [d], ds, x0, x1, n + 1, xi + 1, B0, e0, B1, e1, f', vs', by simp [pn], by simp [pw], ⟨by have := HX.out; simp; omega⟩, ⟨by rw [HL.out]; simp⟩, HH2, ⟨by have := HN.out; simp; omega⟩, ⟨Nat.lt_succ_self _⟩, ⟨blk_alloc1 (res_put DB5.out)⟩, ⟨(NO5.out.step (fun k hk _ => (Below.heap_setCell _ ⟨w.heap.size, 1, none⟩ _ k (by have := E.out; show k ≠ w.heap.size; omega)).trans (Below.heap_setCell _ ⟨w.heap.size, 0, none⟩ _ k (by have := E.out; show k ≠ w.heap.size; omega)))).below (below_alloc (Below.refl _ _) _)⟩, ⟨blk_alloc1 (blk_far (p := ⟨w.heap.size, 1, none⟩) (blk_far (p := ⟨w.heap.size, 0, none⟩) RB5.out Z81 _) Z81 _)⟩, ⟨below_alloc (below_set (below_set BB5.out (Nat.le_refl _)) (Nat.le_refl _)) _⟩, ⟨by have := ZB5.out; rw [size_alloc1]; simp [World.setCell]; omega⟩⟩
     | false =>
      have HH2 := Aside0.mk (show impl_DeskRun.go k ds now past n = some (r1, r2, r3) from HH.out)
      go_wp2_with (fail)
      go_roundg (ds.length + 1)
      case measure => have := HK.out; simp at this; omega
      case rel => exact ⟨done ++ [d], ds, now, past, n, xi + 1, A0, c0, A1_, c1_, f, vs, rfl, by simp [pw], ⟨by have := HX.out; simp; omega⟩, ⟨by rw [HL.out]; simp⟩, HH2, ⟨by have := HN.out; simp; omega⟩, ⟨Nat.lt_succ_self _⟩, ⟨blk_alloc1 DB5.out⟩, DO5, ⟨blk_alloc1 RB5.out⟩, ⟨below_alloc BB5.out _⟩, ⟨by have := ZB5.out; rw [size_alloc1]; omega⟩⟩

/-! ### impl_JournalText: function 17 -/
def impl_JournalText.l0 : Nat → ByteArray → List (S39) → Int → Int → Option (ByteArray)
  | 0, _, _, _, _ => none
  | k + 1, x3, x7, x8, x9 => if x9 < x8 then (if 0 ≤ x9 then (if x9 < (x7.length : Int) then ((impl_DeedText.f k ((rd_T39 x7 x9).f0) ((rd_T39 x7 x9).f1) ((rd_T39 x7 x9).f2)).bind fun t544 => (if t544.toList = ([] : List UInt8) then (some (⟨#[]⟩ : ByteArray)) else (if t544.size + 1 ≤ 9223372036854775807 then (if x3.size + (t544 ++ (⟨#[10]⟩ : ByteArray)).size ≤ 9223372036854775807 then (impl_JournalText.l0 k (x3 ++ (t544 ++ (⟨#[10]⟩ : ByteArray))) x7 x8 (wrap64 (x9 + 1))) else (none)) else (none)))) else (none)) else (none)) else (some x3)
def impl_JournalText.f (k : Nat) (l0 : List (S39)) : Option (ByteArray) := impl_JournalText.l0 k (⟨#[]⟩ : ByteArray) l0 (l0.length : Int) 0
set_option maxHeartbeats 8000000 in
set_option maxRecDepth 100000 in
theorem impl_JournalText.calls (k : Nat) (A0 : Option Addr) (c0 : Nat) (l0 : List (S39)) (r : ByteArray) (w : World) (hr0 : Kd.C k39 w A0 l0.length l0) (hc0 : l0.length ≤ c0) (h : impl_JournalText.f k l0 = some r) :
 Calls Tryz.prog 17 #[.slice A0 l0.length c0] w fun e w' => e = .returned (.string r) ∧ Below w.heap.size w w' := by
 have hu39 := Tryz.underlying39
 have HR0 := Aside0.mk hr0
 have HC0 := Aside0.mk hc0
 clear hr0 hc0
 have HB := Aside0.mk (Below.refl w.heap.size w)
 have H : (impl_JournalText.l0 k (⟨#[]⟩ : ByteArray) l0 (l0.length : Int) 0) = some r := h
 clear h
 have H' := Aside0.mk H
 clear H
 go_enter Tryz.func17, Tryz.ntmps17
 go_wp2
 go_loopg [3, 9] k (fun kq v3 v9 w' => ∃ (x3_1 : ByteArray) (x9_1 : Int), v3 = .string x3_1 ∧ v9 = .int .i64 x9_1 ∧ Aside0 (impl_JournalText.l0 kq x3_1 l0 (l0.length : Int) x9_1 = some r) ∧ Aside0 (kq ≤ k) ∧ Aside0 (Below w.heap.size w w'))
 case atStart => exact ⟨((⟨#[]⟩ : ByteArray)), (0), Z14, Z14, H', ⟨Nat.le_refl _⟩, ⟨Z0 HB⟩⟩
 case round =>
  clear H'
  try clear c1
  obtain ⟨x3_1, x9_1, rfl, rfl, HA, HK1, HB⟩ := hrel
  cases gk with
  | zero => exact absurd HA.out (by simp [impl_JournalText.l0])
  | succ k1 =>
   have H := HA.out
   clear HA
   simp only [impl_JournalText.l0] at H
   by_cases c2 : x9_1 < (l0.length : Int)
   ·rw [if_pos c2] at H
    have c2b0 : decide (x9_1 < (l0.length : Int)) = true := decide_eq_true c2
    clear c2
    by_cases c3 : 0 ≤ x9_1
    ·rw [if_pos c3] at H
     have c3b0 : decide (0 ≤ x9_1) = true := decide_eq_true c3
     clear c3
     by_cases c4 : x9_1 < (l0.length : Int)
     ·rw [if_pos c4] at H
      have c4b0 : decide (x9_1 < (l0.length : Int)) = true := decide_eq_true c4
      clear c4
      replace H := Option.bind_eq_some_iff.mp H
      obtain ⟨t544, A50, H⟩ := H
      replace H : (if t544.toList = ([] : List UInt8) then (some (⟨#[]⟩ : ByteArray)) else (if t544.size + 1 ≤ 9223372036854775807 then (if x3_1.size + (t544 ++ (⟨#[10]⟩ : ByteArray)).size ≤ 9223372036854775807 then (impl_JournalText.l0 k1 (x3_1 ++ (t544 ++ (⟨#[10]⟩ : ByteArray))) l0 (l0.length : Int) (wrap64 (x9_1 + 1))) else (none)) else (none))) = some r := H
      have A5 := Aside0.mk A50
      clear A50
      by_cases c6 : t544.toList = ([] : List UInt8)
      ·rw [if_pos c6] at H
       have c6b0 : (t544.toList == ([] : List UInt8)) = true := beq_iff_eq.mpr c6
       have c6b1 : (t544.toList != ([] : List UInt8)) = false := bne_eq_false_iff_eq.mpr c6
       clear c6
       obtain rfl := Option.some.inj H
       have p542 : 0 ≤ (x9_1 : Int) := of_decide_eq_true Z10
       have q542 : x9_1 < (l0.length : Int) := of_decide_eq_true Z10
       obtain ⟨ad542, e542, hx542_0, hx542_1, hx542_2⟩ := at_T39 HR0.out x9_1 p542 q542
       cases e542
       replace hx542_0 := (HB.out.cell (World.block_lt_of_cell? w _ hx542_0)).trans hx542_0
       replace hx542_1 := (HB.out.cell (World.block_lt_of_cell? w _ hx542_1)).trans hx542_1
       replace hx542_2 := (HB.out.cell (World.block_lt_of_cell? w _ hx542_2)).trans hx542_2
       replace p542 := eq_true p542
       replace q542 := eq_true q542
       go_wp2_with (first | ((with_reducible refine gate_dst (N := 5) rfl ?_); refine bE_ 5 #[.int .i64 0, .int .i64 0, .int .i64 0] 39 ?_; intro gb543 hg w7 hbox hb; have BK543 := Aside0.mk (hbox); have GW543 := Aside0.mk ((by rw [hg]; exact (below_size (Z0 HB)) : w.heap.size ≤ gb543)); have GE543 := Aside0.mk ((by rw [hg]; exact (below_size (Z0 HB)) : w.heap.size ≤ gb543)); replace HB := Aside0.mk (below_step (Z0 HB) hb); clear hb hbox hg; have hcz8_0 : w7.cell? ⟨gb543, 0, none⟩ = some (.int .i64 0) := (blk_cell BK543.out 0).trans rfl; have hcz8_1 : w7.cell? ⟨gb543, 1, none⟩ = some (.int .i64 0) := (blk_cell BK543.out 1).trans rfl; have hcz8_2 : w7.cell? ⟨gb543, 2, none⟩ = some (.int .i64 0) := (blk_cell BK543.out 2).trans rfl; have hfz8_0 := blk_frozen BK543.out 0; have hfz8_1 := blk_frozen BK543.out 1; have hfz8_2 := blk_frozen BK543.out 2) | ((with_reducible refine gate_callee (f := 15) rfl ?_); refine gL_ 14 Tryz.func15 #[.agg #[.int .i64 ((rd_T39 l0 x9_1).f0), .int .i64 ((rd_T39 l0 x9_1).f1), .int .i64 ((rd_T39 l0 x9_1).f2)]] ?_; (with_reducible refine (impl_DeedText.calls k1 ((rd_T39 l0 x9_1).f0) ((rd_T39 l0 x9_1).f1) ((rd_T39 l0 x9_1).f2) t544 _ A5.out).mono ?_); rintro e w9 ⟨rfl, hb⟩; refine ⟨_, rfl, ?_⟩; replace BK543 := Aside0.mk (blk_below (g := gb543) (o := .cells #[.int .i64 ((rd_T39 l0 x9_1).f0), .int .i64 ((rd_T39 l0 x9_1).f1), .int .i64 ((rd_T39 l0 x9_1).f2)] 39 (0, 0)) (Z49 BK543) hb); replace HB := Aside0.mk (below_step (Z1 HB GE543) hb); (try clear hb)))
       go_ret
       exact ⟨Z11, Z1 HB GE543⟩
      ·rw [if_neg c6] at H
       have c6b0 : (t544.toList == ([] : List UInt8)) = false := beq_eq_false_iff_ne.mpr c6
       have c6b1 : (t544.toList != ([] : List UInt8)) = true := bne_iff_ne.mpr c6
       by_cases c10 : t544.size + 1 ≤ 9223372036854775807
       ·rw [if_pos c10] at H
        have c10b0 := eq_true c10
        have c10b1 : decide (t544.size + 1 ≤ 9223372036854775807) = true := decide_eq_true c10
        try have c10b2 : (9223372036854775807 < t544.size + 1) = False := eq_false (Nat.not_lt.2 c10)
        by_cases c11 : x3_1.size + (t544 ++ (⟨#[10]⟩ : ByteArray)).size ≤ 9223372036854775807
        ·rw [if_pos c11] at H
         have c11b0 := eq_true c11
         have c11b1 : decide (x3_1.size + (t544 ++ (⟨#[10]⟩ : ByteArray)).size ≤ 9223372036854775807) = true := decide_eq_true c11
         try have c11b2 : (9223372036854775807 < x3_1.size + (t544 ++ (⟨#[10]⟩ : ByteArray)).size) = False := eq_false (Nat.not_lt.2 c11)
         try have c11b3 : (9223372036854775807 < x3_1.size + (t544.size + 1)) = False := eq_false (Nat.not_lt.2 (by have h_ := c11; simp only [ByteArray.size_append] at h_; exact h_))
         have H' := Aside0.mk H
         clear H
         have p542 : 0 ≤ (x9_1 : Int) := of_decide_eq_true Z10
         have q542 : x9_1 < (l0.length : Int) := of_decide_eq_true Z10
         obtain ⟨ad542, e542, hx542_0, hx542_1, hx542_2⟩ := at_T39 HR0.out x9_1 p542 q542
         cases e542
         replace hx542_0 := (HB.out.cell (World.block_lt_of_cell? w _ hx542_0)).trans hx542_0
         replace hx542_1 := (HB.out.cell (World.block_lt_of_cell? w _ hx542_1)).trans hx542_1
         replace hx542_2 := (HB.out.cell (World.block_lt_of_cell? w _ hx542_2)).trans hx542_2
         replace p542 := eq_true p542
         replace q542 := eq_true q542
         go_wp2_with (first | ((with_reducible refine gate_dst (N := 5) rfl ?_); refine bE_ 5 #[.int .i64 0, .int .i64 0, .int .i64 0] 39 ?_; intro gb543 hg w12 hbox hb; have BK543 := Aside0.mk (hbox); have GW543 := Aside0.mk ((by rw [hg]; exact (below_size (Z0 HB)) : w.heap.size ≤ gb543)); have GE543 := Aside0.mk ((by rw [hg]; exact (below_size (Z0 HB)) : w.heap.size ≤ gb543)); replace HB := Aside0.mk (below_step (Z0 HB) hb); clear hb hbox hg; have hcz13_0 : w12.cell? ⟨gb543, 0, none⟩ = some (.int .i64 0) := (blk_cell BK543.out 0).trans rfl; have hcz13_1 : w12.cell? ⟨gb543, 1, none⟩ = some (.int .i64 0) := (blk_cell BK543.out 1).trans rfl; have hcz13_2 : w12.cell? ⟨gb543, 2, none⟩ = some (.int .i64 0) := (blk_cell BK543.out 2).trans rfl; have hfz13_0 := blk_frozen BK543.out 0; have hfz13_1 := blk_frozen BK543.out 1; have hfz13_2 := blk_frozen BK543.out 2) | ((with_reducible refine gate_callee (f := 15) rfl ?_); refine gL_ 14 Tryz.func15 #[.agg #[.int .i64 ((rd_T39 l0 x9_1).f0), .int .i64 ((rd_T39 l0 x9_1).f1), .int .i64 ((rd_T39 l0 x9_1).f2)]] ?_; (with_reducible refine (impl_DeedText.calls k1 ((rd_T39 l0 x9_1).f0) ((rd_T39 l0 x9_1).f1) ((rd_T39 l0 x9_1).f2) t544 _ A5.out).mono ?_); rintro e w14 ⟨rfl, hb⟩; refine ⟨_, rfl, ?_⟩; replace BK543 := Aside0.mk (blk_below (g := gb543) (o := .cells #[.int .i64 ((rd_T39 l0 x9_1).f0), .int .i64 ((rd_T39 l0 x9_1).f1), .int .i64 ((rd_T39 l0 x9_1).f2)] 39 (0, 0)) (Z49 BK543) hb); replace HB := Aside0.mk (below_step (Z1 HB GE543) hb); (try clear hb)))
         go_roundg k1
         case measure => have := HK1.out; omega
         case rel => exact ⟨(x3_1 ++ (t544 ++ (⟨#[10]⟩ : ByteArray))), (wrap64 (x9_1 + 1)), Z14, Z14, H', ⟨Z35 HK1⟩, ⟨Z1 HB GE543⟩⟩
        ·rw [if_neg c11] at H
         exact absurd H Z33
       ·rw [if_neg c10] at H
        exact absurd H Z33
     ·rw [if_neg c4] at H
      exact absurd H Z33
    ·rw [if_neg c3] at H
     exact absurd H Z33
   ·rw [if_neg c2] at H
    have c2b0 : decide (x9_1 < (l0.length : Int)) = false := decide_eq_false c2
    clear c2
    obtain rfl := Option.some.inj H
    go_wp2
    go_ret
    exact ⟨Z11, Z0 HB⟩

/-! ### laws_sameCustomers: function 54 -/
def laws_sameCustomers.l0 : Nat → List (S84) → List (S84) → Int → Option (Bool)
  | 0, _, _, _ => none
  | k + 1, x0, x1, x5 => if x5 < (x0.length : Int) then (if 0 ≤ x5 then (if x5 < (x1.length : Int) then (if (!(((rd_T84 x0 x5).f0) == ((rd_T84 x1 x5).f0)) || (!(((rd_T84 x0 x5).f1) == ((rd_T84 x1 x5).f1)))) = true then (some false) else (laws_sameCustomers.l0 k x0 x1 (wrap64 (x5 + 1)))) else (none)) else (none)) else (some true)
def laws_sameCustomers.f (k : Nat) (l0 : List (S84)) (l1 : List (S84)) : Option (Bool) := if (l0.length : Int) = (l1.length : Int) then (laws_sameCustomers.l0 k l0 l1 0) else (some false)
set_option maxHeartbeats 8000000 in
set_option maxRecDepth 100000 in
theorem laws_sameCustomers.calls (k : Nat) (A0 : Option Addr) (c0 : Nat) (l0 : List (S84)) (A1 : Option Addr) (c1 : Nat) (l1 : List (S84)) (r : Bool) (w : World) (hr0 : Kd.C k84 w A0 l0.length l0) (hc0 : l0.length ≤ c0) (hr1 : Kd.C k84 w A1 l1.length l1) (hc1 : l1.length ≤ c1) (h : laws_sameCustomers.f k l0 l1 = some r) :
 Calls Tryz.prog 54 #[.slice A0 l0.length c0, .slice A1 l1.length c1] w fun e w' => e = .returned (.bool r) ∧ Drawn0 w w' := by
 have hu84 := Tryz.underlying84
 have HR0 := Aside0.mk hr0
 have HC0 := Aside0.mk hc0
 clear hr0 hc0
 have HR1 := Aside0.mk hr1
 have HC1 := Aside0.mk hc1
 clear hr1 hc1
 have H : (if (l0.length : Int) = (l1.length : Int) then (laws_sameCustomers.l0 k l0 l1 0) else (some false)) = some r := h
 clear h
 by_cases c3 : (l0.length : Int) = (l1.length : Int)
 ·rw [if_pos c3] at H
  have c3b0 : ((l0.length : Int) == (l1.length : Int)) = true := beq_iff_eq.mpr c3
  have c3b1 : ((l0.length : Int) != (l1.length : Int)) = false := bne_eq_false_iff_eq.mpr c3
  have c3b2 : (l0.length == l1.length) = true := Z79
  clear c3
  have H' := Aside0.mk H
  clear H
  go_enter Tryz.func54, Tryz.ntmps54
  go_wp2
  repeat (go_quiet (fail); try go_wp2)
  go_loopg [5] k (fun kq v5 w' => ∃ (x5_1 : Int), v5 = .int .i64 x5_1 ∧ Aside0 (laws_sameCustomers.l0 kq l0 l1 x5_1 = some r) ∧ Aside0 (kq ≤ k) ∧ Drawn0 w w')
  case atStart => exact ⟨(0), Z14, H', ⟨Nat.le_refl _⟩, Z36⟩
  case round =>
   clear H'
   try clear c1
   try clear p2
   try clear c3
   try clear c3b0
   try clear c3b1
   try clear c3b2
   obtain ⟨x5_1, rfl, HA, HK1, ⟨m1, rfl⟩⟩ := hrel
   cases gk with
   | zero => exact absurd HA.out (by simp [laws_sameCustomers.l0])
   | succ k1 =>
    have H := HA.out
    clear HA
    simp only [laws_sameCustomers.l0] at H
    by_cases c4 : x5_1 < (l0.length : Int)
    ·rw [if_pos c4] at H
     have c4b0 : decide (x5_1 < (l0.length : Int)) = true := decide_eq_true c4
     clear c4
     by_cases c5 : 0 ≤ x5_1
     ·rw [if_pos c5] at H
      have c5b0 : decide (0 ≤ x5_1) = true := decide_eq_true c5
      clear c5
      by_cases c6 : x5_1 < (l1.length : Int)
      ·rw [if_pos c6] at H
       have c6b0 : decide (x5_1 < (l1.length : Int)) = true := decide_eq_true c6
       clear c6
       by_cases c7 : (!(((rd_T84 l0 x5_1).f0) == ((rd_T84 l1 x5_1).f0)) || (!(((rd_T84 l0 x5_1).f1) == ((rd_T84 l1 x5_1).f1)))) = true
       ·rw [if_pos c7] at H
        have c7b0 : (!(((rd_T84 l0 x5_1).f0) == ((rd_T84 l1 x5_1).f0)) || (!(((rd_T84 l0 x5_1).f1) == ((rd_T84 l1 x5_1).f1)))) = true := c7
        clear c7
        obtain rfl := Option.some.inj H
        have p545 : 0 ≤ (x5_1 : Int) := of_decide_eq_true Z10
        have q545 : x5_1 < (l0.length : Int) := of_decide_eq_true Z10
        obtain ⟨ad545, e545, hx545_0, hx545_1⟩ := at_T84 HR0.out x5_1 p545 q545
        cases e545
        replace p545 := eq_true p545
        replace q545 := eq_true q545
        have p546 : 0 ≤ (x5_1 : Int) := of_decide_eq_true Z10
        have q546 : x5_1 < (l1.length : Int) := of_decide_eq_true Z10
        obtain ⟨ad546, e546, hx546_0, hx546_1⟩ := at_T84 HR1.out x5_1 p546 q546
        cases e546
        replace p546 := eq_true p546
        replace q546 := eq_true q546
        go_wp2
        repeat (go_quiet (fail); try go_wp2)
        go_ret
        exact ⟨Z14, Z36⟩
       ·rw [if_neg c7] at H
        have c7b0 : (!(((rd_T84 l0 x5_1).f0) == ((rd_T84 l1 x5_1).f0)) || (!(((rd_T84 l0 x5_1).f1) == ((rd_T84 l1 x5_1).f1)))) = false := by simpa using c7
        clear c7
        have H' := Aside0.mk H
        clear H
        have p545 : 0 ≤ (x5_1 : Int) := of_decide_eq_true Z10
        have q545 : x5_1 < (l0.length : Int) := of_decide_eq_true Z10
        obtain ⟨ad545, e545, hx545_0, hx545_1⟩ := at_T84 HR0.out x5_1 p545 q545
        cases e545
        replace p545 := eq_true p545
        replace q545 := eq_true q545
        have p546 : 0 ≤ (x5_1 : Int) := of_decide_eq_true Z10
        have q546 : x5_1 < (l1.length : Int) := of_decide_eq_true Z10
        obtain ⟨ad546, e546, hx546_0, hx546_1⟩ := at_T84 HR1.out x5_1 p546 q546
        cases e546
        replace p546 := eq_true p546
        replace q546 := eq_true q546
        go_wp2
        repeat (go_quiet (fail); try go_wp2)
        go_roundg k1
        case measure => have := HK1.out; omega
        case rel => exact ⟨(wrap64 (x5_1 + 1)), Z14, H', ⟨Z35 HK1⟩, Z36⟩
      ·rw [if_neg c6] at H
       exact absurd H Z33
     ·rw [if_neg c5] at H
      exact absurd H Z33
    ·rw [if_neg c4] at H
     have c4b0 : decide (x5_1 < (l0.length : Int)) = false := decide_eq_false c4
     clear c4
     obtain rfl := Option.some.inj H
     go_wp2
     repeat (go_quiet (fail); try go_wp2)
     go_ret
     exact ⟨Z14, Z36⟩
 ·rw [if_neg c3] at H
  have c3b0 : ((l0.length : Int) == (l1.length : Int)) = false := beq_eq_false_iff_ne.mpr c3
  have c3b1 : ((l0.length : Int) != (l1.length : Int)) = true := bne_iff_ne.mpr c3
  have c3b2 : (l0.length == l1.length) = false := Z79
  obtain rfl := Option.some.inj H
  go_enter Tryz.func54, Tryz.ntmps54
  go_wp2
  repeat (go_quiet (fail); try go_wp2)
  go_ret
  exact ⟨Z14, Z36⟩

/-! ### laws_sameDesk: function 18 -/
mutual
def laws_sameDesk.j0 : Nat → Bool → List (S84) → List (List (S84)) → List (S84) → List (List (S84)) → Option (Bool)
  | 0, _, _, _, _, _ => none
  | k + 1, x20, x548000, x548001, x549000, x549001 => if x20 = true then (some false) else (laws_sameDesk.l0 k 0 x548000 x548001 x549000 x549001)
def laws_sameDesk.l0 : Nat → Int → List (S84) → List (List (S84)) → List (S84) → List (List (S84)) → Option (Bool)
  | 0, _, _, _, _, _ => none
  | k + 1, x5, x548000, x548001, x549000, x549001 => if x5 < (x548001.length : Int) then (if 0 ≤ x5 then (if x5 < (x549001.length : Int) then ((laws_sameCustomers.f k (rd_L5 x548001 x5) (rd_L5 x549001 x5)).bind fun t552 => (if t552 = true then (laws_sameDesk.l0 k (wrap64 (x5 + 1)) x548000 x548001 x549000 x549001) else (some false))) else (none)) else (none)) else (some true)
end
def laws_sameDesk.f (k : Nat) (l0_0 : List (S84)) (l0_1 : List (List (S84))) (l1_0 : List (S84)) (l1_1 : List (List (S84))) : Option (Bool) := (laws_sameCustomers.f k l0_0 l1_0).bind fun t549 => (if t549 = true then (laws_sameDesk.j0 k ((l0_1.length : Int) != (l1_1.length : Int)) l0_0 l0_1 l1_0 l1_1) else (laws_sameDesk.j0 k true l0_0 l0_1 l1_0 l1_1))
set_option maxHeartbeats 8000000 in
set_option maxRecDepth 100000 in
theorem laws_sameDesk.calls (k : Nat) (A0_0 : Option Addr) (c0_0 : Nat) (l0_0 : List (S84)) (A0_1 : Option Addr) (c0_1 : Nat) (l0_1 : List (List (S84))) (A1_0 : Option Addr) (c1_0 : Nat) (l1_0 : List (S84)) (A1_1 : Option Addr) (c1_1 : Nat) (l1_1 : List (List (S84))) (r : Bool) (w : World) (hr0_0 : Kd.C k84 w A0_0 l0_0.length l0_0) (hc0_0 : l0_0.length ≤ c0_0) (hr0_1 : Kd.C (Kd.slice 84 k84) w A0_1 l0_1.length l0_1) (hc0_1 : l0_1.length ≤ c0_1) (hr1_0 : Kd.C k84 w A1_0 l1_0.length l1_0) (hc1_0 : l1_0.length ≤ c1_0) (hr1_1 : Kd.C (Kd.slice 84 k84) w A1_1 l1_1.length l1_1) (hc1_1 : l1_1.length ≤ c1_1) (h : laws_sameDesk.f k l0_0 l0_1 l1_0 l1_1 = some r) :
 Calls Tryz.prog 18 #[.agg #[.slice A0_0 l0_0.length c0_0, .slice A0_1 l0_1.length c0_1], .agg #[.slice A1_0 l1_0.length c1_0, .slice A1_1 l1_1.length c1_1]] w fun e w' => e = .returned (.bool r) ∧ Below w.heap.size w w' := by
 have hu31 := Tryz.underlying31
 have HR0_0 := Aside0.mk hr0_0
 have HC0_0 := Aside0.mk hc0_0
 clear hr0_0 hc0_0
 have HR0_1 := Aside0.mk hr0_1
 have HC0_1 := Aside0.mk hc0_1
 clear hr0_1 hc0_1
 have HR1_0 := Aside0.mk hr1_0
 have HC1_0 := Aside0.mk hc1_0
 clear hr1_0 hc1_0
 have HR1_1 := Aside0.mk hr1_1
 have HC1_1 := Aside0.mk hc1_1
 clear hr1_1 hc1_1
 have HB := Aside0.mk (Below.refl w.heap.size w)
 have H : ((laws_sameCustomers.f k l0_0 l1_0).bind fun t549 => (if t549 = true then (laws_sameDesk.j0 k ((l0_1.length : Int) != (l1_1.length : Int)) l0_0 l0_1 l1_0 l1_1) else (laws_sameDesk.j0 k true l0_0 l0_1 l1_0 l1_1))) = some r := h
 clear h
 have HC3 := Aside0.mk H
 clear H
 go_enter Tryz.func18, Tryz.ntmps18
 go_upto_region 1 with (first | ((with_reducible refine gate_dst (N := 2) rfl ?_); (try (refine gate_guard Z90 ?_; dsimp only)); refine bE_ 2 #[.slice A0_0 l0_0.length c0_0, .slice A0_1 l0_1.length c0_1] 31 ?_; intro gb547 hg w4 hbox hb; have BK547 := Aside0.mk (hbox); have GW547 := Aside0.mk ((by rw [hg]; exact (below_size (Z0 HB)) : w.heap.size ≤ gb547)); have GE547 := Aside0.mk ((by rw [hg]; exact (below_size (Z0 HB)) : w.heap.size ≤ gb547)); replace HB := Aside0.mk (below_step (Z0 HB) hb); clear hb hbox hg) | ((with_reducible refine gate_dst (N := 3) rfl ?_); (try (refine gate_guard Z90 ?_; dsimp only)); refine bE_ 3 #[.slice A1_0 l1_0.length c1_0, .slice A1_1 l1_1.length c1_1] 31 ?_; intro gb548 hg w5 hbox hb; have BK548 := Aside0.mk (hbox); have GW548 := Aside0.mk ((by rw [hg]; exact (below_size (Z1 HB GE547)) : w.heap.size ≤ gb548)); have GE548 := Aside0.mk ((by rw [hg]; exact (below_size (Z1 HB GE547)) : w.heap.size ≤ gb548)); replace HB := Aside0.mk (below_step (Z1 HB GE547) hb); have NB547_548 := Aside0.mk ((by rw [hg]; exact Nat.ne_of_lt (blk_lt (g := gb547) (o := .cells #[.slice A0_0 l0_0.length c0_0, .slice A0_1 l0_1.length c0_1] 31 (0, 0)) (Z2 BK547)) : gb547 ≠ gb548)); have NB548_547 := Aside0.mk ((by rw [hg]; exact Nat.ne_of_gt (blk_lt (g := gb547) (o := .cells #[.slice A0_0 l0_0.length c0_0, .slice A0_1 l0_1.length c0_1] 31 (0, 0)) (Z2 BK547)) : gb548 ≠ gb547)); replace BK547 := Aside0.mk (blk_below (g := gb547) (o := .cells #[.slice A0_0 l0_0.length c0_0, .slice A0_1 l0_1.length c0_1] 31 (0, 0)) (Z2 BK547) hb); clear hb hbox hg))
 repeat (go_quiet (first | ((with_reducible refine gate_dst (N := 2) rfl ?_); (try (refine gate_guard Z90 ?_; dsimp only)); refine bE_ 2 #[.slice A0_0 l0_0.length c0_0, .slice A0_1 l0_1.length c0_1] 31 ?_; intro gb547 hg w4 hbox hb; have BK547 := Aside0.mk (hbox); have GW547 := Aside0.mk ((by rw [hg]; exact (below_size (Z0 HB)) : w.heap.size ≤ gb547)); have GE547 := Aside0.mk ((by rw [hg]; exact (below_size (Z0 HB)) : w.heap.size ≤ gb547)); replace HB := Aside0.mk (below_step (Z0 HB) hb); clear hb hbox hg) | ((with_reducible refine gate_dst (N := 3) rfl ?_); (try (refine gate_guard Z90 ?_; dsimp only)); refine bE_ 3 #[.slice A1_0 l1_0.length c1_0, .slice A1_1 l1_1.length c1_1] 31 ?_; intro gb548 hg w5 hbox hb; have BK548 := Aside0.mk (hbox); have GW548 := Aside0.mk ((by rw [hg]; exact (below_size (Z1 HB GE547)) : w.heap.size ≤ gb548)); have GE548 := Aside0.mk ((by rw [hg]; exact (below_size (Z1 HB GE547)) : w.heap.size ≤ gb548)); replace HB := Aside0.mk (below_step (Z1 HB GE547) hb); have NB547_548 := Aside0.mk ((by rw [hg]; exact Nat.ne_of_lt (blk_lt (g := gb547) (o := .cells #[.slice A0_0 l0_0.length c0_0, .slice A0_1 l0_1.length c0_1] 31 (0, 0)) (Z2 BK547)) : gb547 ≠ gb548)); have NB548_547 := Aside0.mk ((by rw [hg]; exact Nat.ne_of_gt (blk_lt (g := gb547) (o := .cells #[.slice A0_0 l0_0.length c0_0, .slice A0_1 l0_1.length c0_1] 31 (0, 0)) (Z2 BK547)) : gb548 ≠ gb547)); replace BK547 := Aside0.mk (blk_below (g := gb547) (o := .cells #[.slice A0_0 l0_0.length c0_0, .slice A0_1 l0_1.length c0_1] 31 (0, 0)) (Z2 BK547) hb); clear hb hbox hg)); go_upto_region 1 with (first | ((with_reducible refine gate_dst (N := 2) rfl ?_); (try (refine gate_guard Z90 ?_; dsimp only)); refine box_event ?hg (N := 2) ?hd (cs := #[.slice A0_0 l0_0.length c0_0, .slice A0_1 l0_1.length c0_1]) (t := 31) ?hr ?_; (case hd => exact Z90); (case hg => exact Z90); (case hr => exact Z29); intro gb547 hg w4 hbox hb; have n0_ := Aside0.mk (below_step (Z0 HB) hb); have n1_ := Aside0.mk (hbox); have n2_ := Aside0.mk ((by rw [hg]; exact (below_size (Z0 HB)) : w.heap.size ≤ gb547)); have n3_ := Aside0.mk ((by rw [hg]; exact (below_size (Z0 HB)) : w.heap.size ≤ gb547)); clear HB; have HB := n0_; have BK547 := n1_; have GW547 := n2_; have GE547 := n3_; clear n0_ n1_ n2_ n3_; clear hb hbox hg) | ((with_reducible refine gate_dst (N := 3) rfl ?_); (try (refine gate_guard Z90 ?_; dsimp only)); refine box_event ?hg (N := 3) ?hd (cs := #[.slice A1_0 l1_0.length c1_0, .slice A1_1 l1_1.length c1_1]) (t := 31) ?hr ?_; (case hd => exact Z90); (case hg => exact Z90); (case hr => exact Z29); intro gb548 hg w5 hbox hb; have n0_ := Aside0.mk (blk_below (g := gb547) (o := .cells #[.slice A0_0 l0_0.length c0_0, .slice A0_1 l0_1.length c0_1] 31 (0, 0)) (Z2 BK547) hb); have n1_ := Aside0.mk (below_step (Z1 HB GE547) hb); have n2_ := Aside0.mk (hbox); have n3_ := Aside0.mk ((by rw [hg]; exact (below_size (Z1 HB GE547)) : w.heap.size ≤ gb548)); have n4_ := Aside0.mk ((by rw [hg]; exact (below_size (Z1 HB GE547)) : w.heap.size ≤ gb548)); have n5_ := Aside0.mk ((by rw [hg]; exact Nat.ne_of_lt (blk_lt (g := gb547) (o := .cells #[.slice A0_0 l0_0.length c0_0, .slice A0_1 l0_1.length c0_1] 31 (0, 0)) (Z2 BK547)) : gb547 ≠ gb548)); have n6_ := Aside0.mk ((by rw [hg]; exact Nat.ne_of_gt (blk_lt (g := gb547) (o := .cells #[.slice A0_0 l0_0.length c0_0, .slice A0_1 l0_1.length c0_1] 31 (0, 0)) (Z2 BK547)) : gb548 ≠ gb547)); clear BK547; clear HB; have BK547 := n0_; have HB := n1_; have BK548 := n2_; have GW548 := n3_; have GE548 := n4_; have NB547_548 := n5_; have NB548_547 := n6_; clear n0_ n1_ n2_ n3_ n4_ n5_ n6_; clear hb hbox hg)))
 (try simp only [Act.put, List.setIfInBounds_toArray, List.set_cons_zero, List.set_cons_succ])
 go_cut [20] (fun v20 wc => ∃ (kq : Nat) (x20_2 : Bool), v20 = .bool x20_2 ∧ Aside0 (laws_sameDesk.j0 kq x20_2 l0_0 l0_1 l1_0 l1_1 = some r) ∧ Aside0 (kq ≤ k) ∧ Aside0 (wc.heap[gb547]? = some (.cells #[(.slice A0_0 l0_0.length c0_0), (.slice A0_1 l0_1.length c0_1)] 31 (0, 0))) ∧ Aside0 (wc.heap[gb548]? = some (.cells #[(.slice A1_0 l1_0.length c1_0), (.slice A1_1 l1_1.length c1_1)] 31 (0, 0))) ∧ Aside0 (Below w.heap.size w wc))
 case first =>
  have H := HC3.out
  clear HC3
  replace H := Option.bind_eq_some_iff.mp H
  obtain ⟨t549, A60, H⟩ := H
  replace H : (if t549 = true then (laws_sameDesk.j0 k ((l0_1.length : Int) != (l1_1.length : Int)) l0_0 l0_1 l1_0 l1_1) else (laws_sameDesk.j0 k true l0_0 l0_1 l1_0 l1_1)) = some r := H
  have A6 := Aside0.mk A60
  clear A60
  by_cases c7 : t549 = true
  ·subst c7
   have H1 : (laws_sameDesk.j0 k ((l0_1.length : Int) != (l1_1.length : Int)) l0_0 l0_1 l1_0 l1_1) = some r := Z37
   clear H
   have H := H1
   clear H1
   have H' := Aside0.mk H
   clear H
   have hnb8 := NB547_548.out
   have hnc8 := NB548_547.out
   have hcz9_0 : w5.cell? ⟨gb547, 0, none⟩ = some (.slice A0_0 l0_0.length c0_0) := (blk_cell BK547.out 0).trans rfl
   have hcz9_1 : w5.cell? ⟨gb547, 1, none⟩ = some (.slice A0_1 l0_1.length c0_1) := (blk_cell BK547.out 1).trans rfl
   have hfz9_0 := blk_frozen BK547.out 0
   have hfz9_1 := blk_frozen BK547.out 1
   have hcz10_0 : w5.cell? ⟨gb548, 0, none⟩ = some (.slice A1_0 l1_0.length c1_0) := (blk_cell BK548.out 0).trans rfl
   have hcz10_1 : w5.cell? ⟨gb548, 1, none⟩ = some (.slice A1_1 l1_1.length c1_1) := (blk_cell BK548.out 1).trans rfl
   have hfz10_0 := blk_frozen BK548.out 0
   have hfz10_1 := blk_frozen BK548.out 1
   go_wp2_with (first | (go_at_call 54; (with_reducible refine (laws_sameCustomers.calls k _ _ l0_0 _ _ l1_0 true _ ?side1 ?side2 ?side3 ?side4 A6.out).mono ?_); (case side1 => exact Z9 HR0_0 HB); (case side2 => exact HC0_0.out); (case side3 => exact Z9 HR1_0 HB); (case side4 => exact HC1_0.out); rintro e w' ⟨rfl, ⟨nd, rfl⟩⟩; (try first | exact ⟨rfl, _, World.drewN_drewN _ _ _⟩ | exact ⟨rfl, _, Eq.trans (World.drewN_drewN _ _ _) (congrArg (World.drewN _) (Nat.add_assoc _ _ _))⟩)))
   repeat (go_quiet (first | (go_at_call 54; (with_reducible refine (laws_sameCustomers.calls k _ _ l0_0 _ _ l1_0 true _ ?side1 ?side2 ?side3 ?side4 A6.out).mono ?_); (case side1 => exact Z9 HR0_0 HB); (case side2 => exact HC0_0.out); (case side3 => exact Z9 HR1_0 HB); (case side4 => exact HC1_0.out); rintro e w' ⟨rfl, ⟨nd, rfl⟩⟩; (try first | exact ⟨rfl, _, World.drewN_drewN _ _ _⟩ | exact ⟨rfl, _, Eq.trans (World.drewN_drewN _ _ _) (congrArg (World.drewN _) (Nat.add_assoc _ _ _))⟩))); try go_wp2_with (first | (go_at_call 54; (with_reducible refine (laws_sameCustomers.calls k _ _ l0_0 _ _ l1_0 true _ ?side1 ?side2 ?side3 ?side4 A6.out).mono ?_); (case side1 => exact Z9 HR0_0 HB); (case side2 => exact HC0_0.out); (case side3 => exact Z9 HR1_0 HB); (case side4 => exact HC1_0.out); rintro e w' ⟨rfl, ⟨nd, rfl⟩⟩; (try first | exact ⟨rfl, _, World.drewN_drewN _ _ _⟩ | exact ⟨rfl, _, Eq.trans (World.drewN_drewN _ _ _) (congrArg (World.drewN _) (Nat.add_assoc _ _ _))⟩))))
   go_meet
   case rel => exact ⟨_, (((l0_1.length : Int) != (l1_1.length : Int))), Z14, H', ⟨Z39⟩, ⟨Z2 BK547⟩, ⟨Z2 BK548⟩, ⟨Z17 HB GE547 GE548⟩⟩
  ·replace c7 := Bool.eq_false_iff.mpr c7
   subst c7
   have H1 : (laws_sameDesk.j0 k true l0_0 l0_1 l1_0 l1_1) = some r := Z24
   clear H
   have H := H1
   clear H1
   have H' := Aside0.mk H
   clear H
   have hnb11 := NB547_548.out
   have hnc11 := NB548_547.out
   have hcz12_0 : w5.cell? ⟨gb547, 0, none⟩ = some (.slice A0_0 l0_0.length c0_0) := (blk_cell BK547.out 0).trans rfl
   have hcz12_1 : w5.cell? ⟨gb547, 1, none⟩ = some (.slice A0_1 l0_1.length c0_1) := (blk_cell BK547.out 1).trans rfl
   have hfz12_0 := blk_frozen BK547.out 0
   have hfz12_1 := blk_frozen BK547.out 1
   have hcz13_0 : w5.cell? ⟨gb548, 0, none⟩ = some (.slice A1_0 l1_0.length c1_0) := (blk_cell BK548.out 0).trans rfl
   have hcz13_1 : w5.cell? ⟨gb548, 1, none⟩ = some (.slice A1_1 l1_1.length c1_1) := (blk_cell BK548.out 1).trans rfl
   have hfz13_0 := blk_frozen BK548.out 0
   have hfz13_1 := blk_frozen BK548.out 1
   go_wp2_with (first | (go_at_call 54; (with_reducible refine (laws_sameCustomers.calls k _ _ l0_0 _ _ l1_0 false _ ?side1 ?side2 ?side3 ?side4 A6.out).mono ?_); (case side1 => exact Z9 HR0_0 HB); (case side2 => exact HC0_0.out); (case side3 => exact Z9 HR1_0 HB); (case side4 => exact HC1_0.out); rintro e w' ⟨rfl, ⟨nd, rfl⟩⟩; (try first | exact ⟨rfl, _, World.drewN_drewN _ _ _⟩ | exact ⟨rfl, _, Eq.trans (World.drewN_drewN _ _ _) (congrArg (World.drewN _) (Nat.add_assoc _ _ _))⟩)))
   repeat (go_quiet (first | (go_at_call 54; (with_reducible refine (laws_sameCustomers.calls k _ _ l0_0 _ _ l1_0 false _ ?side1 ?side2 ?side3 ?side4 A6.out).mono ?_); (case side1 => exact Z9 HR0_0 HB); (case side2 => exact HC0_0.out); (case side3 => exact Z9 HR1_0 HB); (case side4 => exact HC1_0.out); rintro e w' ⟨rfl, ⟨nd, rfl⟩⟩; (try first | exact ⟨rfl, _, World.drewN_drewN _ _ _⟩ | exact ⟨rfl, _, Eq.trans (World.drewN_drewN _ _ _) (congrArg (World.drewN _) (Nat.add_assoc _ _ _))⟩))); try go_wp2_with (first | (go_at_call 54; (with_reducible refine (laws_sameCustomers.calls k _ _ l0_0 _ _ l1_0 false _ ?side1 ?side2 ?side3 ?side4 A6.out).mono ?_); (case side1 => exact Z9 HR0_0 HB); (case side2 => exact HC0_0.out); (case side3 => exact Z9 HR1_0 HB); (case side4 => exact HC1_0.out); rintro e w' ⟨rfl, ⟨nd, rfl⟩⟩; (try first | exact ⟨rfl, _, World.drewN_drewN _ _ _⟩ | exact ⟨rfl, _, Eq.trans (World.drewN_drewN _ _ _) (congrArg (World.drewN _) (Nat.add_assoc _ _ _))⟩))))
   go_meet
   case rel => exact ⟨_, (true), Z14, H', ⟨Z39⟩, ⟨Z2 BK547⟩, ⟨Z2 BK548⟩, ⟨Z17 HB GE547 GE548⟩⟩
 case rest =>
  clear HC3
  try clear c1
  try clear p2
  try clear c7
  try clear c8
  try clear c11
  try clear hcz10_0
  try clear hcz10_1
  try clear hcz12_0
  try clear hcz12_1
  try clear hcz13_0
  try clear hcz13_1
  try clear hcz9_0
  try clear hcz9_1
  try clear hfz10_0
  try clear hfz10_1
  try clear hfz12_0
  try clear hfz12_1
  try clear hfz13_0
  try clear hfz13_1
  try clear hfz9_0
  try clear hfz9_1
  obtain ⟨kq, x20_2, rfl, HA, HJ2, BK547, BK548, HB⟩ := hcut
  cases kq with
  | zero => exact absurd HA.out (by simp [laws_sameDesk.j0])
  | succ kj2 =>
   have H := HA.out
   clear HA
   simp only [laws_sameDesk.j0] at H
   by_cases c14 : x20_2 = true
   ·subst c14
    have H1 : (some false) = some r := Z37
    clear H
    have H := H1
    clear H1
    obtain rfl := Option.some.inj H
    go_wp2
    repeat (go_quiet (fail); try go_wp2)
    go_ret
    exact ⟨Z11, Z17 HB GE547 GE548⟩
   ·replace c14 := Bool.eq_false_iff.mpr c14
    subst c14
    have H1 : (laws_sameDesk.l0 kj2 0 l0_0 l0_1 l1_0 l1_1) = some r := Z24
    clear H
    have H := H1
    clear H1
    have H' := Aside0.mk H
    clear H
    go_wp2
    repeat (go_quiet (fail); try go_wp2)
    go_loopg [5] kj2 (fun kq v5 w' => ∃ (x5_2 : Int), v5 = .int .i64 x5_2 ∧ Aside0 (laws_sameDesk.l0 kq x5_2 l0_0 l0_1 l1_0 l1_1 = some r) ∧ Aside0 (kq ≤ kj2) ∧ Aside0 (w'.heap[gb547]? = some (.cells #[(.slice A0_0 l0_0.length c0_0), (.slice A0_1 l0_1.length c0_1)] 31 (0, 0))) ∧ Aside0 (w'.heap[gb548]? = some (.cells #[(.slice A1_0 l1_0.length c1_0), (.slice A1_1 l1_1.length c1_1)] 31 (0, 0))) ∧ Aside0 (Below w.heap.size w w'))
    case atStart => exact ⟨(0), Z14, H', ⟨Nat.le_refl _⟩, ⟨Z2 BK547⟩, ⟨Z2 BK548⟩, ⟨Z17 HB GE547 GE548⟩⟩
    case round =>
     clear H'
     try clear c1
     try clear p2
     try clear c7
     try clear c8
     try clear c11
     try clear c14
     try clear hcz10_0
     try clear hcz10_1
     try clear hcz12_0
     try clear hcz12_1
     try clear hcz13_0
     try clear hcz13_1
     try clear hcz9_0
     try clear hcz9_1
     try clear hfz10_0
     try clear hfz10_1
     try clear hfz12_0
     try clear hfz12_1
     try clear hfz13_0
     try clear hfz13_1
     try clear hfz9_0
     try clear hfz9_1
     try clear p2
     obtain ⟨x5_2, rfl, HA, HK2, BK547, BK548, HB⟩ := hrel
     cases gk with
     | zero => exact absurd HA.out (by simp [laws_sameDesk.l0])
     | succ k2 =>
      have H := HA.out
      clear HA
      simp only [laws_sameDesk.l0] at H
      by_cases c15 : x5_2 < (l0_1.length : Int)
      ·rw [if_pos c15] at H
       have c15b0 : decide (x5_2 < (l0_1.length : Int)) = true := decide_eq_true c15
       clear c15
       by_cases c16 : 0 ≤ x5_2
       ·rw [if_pos c16] at H
        have c16b0 : decide (0 ≤ x5_2) = true := decide_eq_true c16
        clear c16
        by_cases c17 : x5_2 < (l1_1.length : Int)
        ·rw [if_pos c17] at H
         have c17b0 : decide (x5_2 < (l1_1.length : Int)) = true := decide_eq_true c17
         clear c17
         replace H := Option.bind_eq_some_iff.mp H
         obtain ⟨t552, A180, H⟩ := H
         replace H : (if t552 = true then (laws_sameDesk.l0 k2 (wrap64 (x5_2 + 1)) l0_0 l0_1 l1_0 l1_1) else (some false)) = some r := H
         have A18 := Aside0.mk A180
         clear A180
         by_cases c19 : t552 = true
         ·subst c19
          have H1 : (laws_sameDesk.l0 k2 (wrap64 (x5_2 + 1)) l0_0 l0_1 l1_0 l1_1) = some r := Z37
          clear H
          have H := H1
          clear H1
          have H' := Aside0.mk H
          clear H
          have hnb20 := NB547_548.out
          have hnc20 := NB548_547.out
          have hcz21_0 : wr.cell? ⟨gb547, 0, none⟩ = some (.slice A0_0 l0_0.length c0_0) := (blk_cell BK547.out 0).trans rfl
          have hcz21_1 : wr.cell? ⟨gb547, 1, none⟩ = some (.slice A0_1 l0_1.length c0_1) := (blk_cell BK547.out 1).trans rfl
          have hfz21_0 := blk_frozen BK547.out 0
          have hfz21_1 := blk_frozen BK547.out 1
          have p550 : 0 ≤ (x5_2 : Int) := of_decide_eq_true Z10
          have q550 : x5_2 < (l0_1.length : Int) := of_decide_eq_true Z10
          obtain ⟨ad550, A550_0, c550_0, e550, hx550_0, hl550_0, hi550_0⟩ := at_L5 HR0_1.out x5_2 p550 q550
          cases e550
          replace hx550_0 := (HB.out.cell (World.block_lt_of_cell? w _ hx550_0)).trans hx550_0
          have HR550_0 := Aside0.mk hi550_0
          have HC550_0 := Aside0.mk hl550_0
          clear hi550_0 hl550_0
          replace p550 := eq_true p550
          replace q550 := eq_true q550
          have hcz22_0 : wr.cell? ⟨gb548, 0, none⟩ = some (.slice A1_0 l1_0.length c1_0) := (blk_cell BK548.out 0).trans rfl
          have hcz22_1 : wr.cell? ⟨gb548, 1, none⟩ = some (.slice A1_1 l1_1.length c1_1) := (blk_cell BK548.out 1).trans rfl
          have hfz22_0 := blk_frozen BK548.out 0
          have hfz22_1 := blk_frozen BK548.out 1
          have p551 : 0 ≤ (x5_2 : Int) := of_decide_eq_true Z10
          have q551 : x5_2 < (l1_1.length : Int) := of_decide_eq_true Z10
          obtain ⟨ad551, A551_0, c551_0, e551, hx551_0, hl551_0, hi551_0⟩ := at_L5 HR1_1.out x5_2 p551 q551
          cases e551
          replace hx551_0 := (HB.out.cell (World.block_lt_of_cell? w _ hx551_0)).trans hx551_0
          have HR551_0 := Aside0.mk hi551_0
          have HC551_0 := Aside0.mk hl551_0
          clear hi551_0 hl551_0
          replace p551 := eq_true p551
          replace q551 := eq_true q551
          go_wp2_with (first | (go_at_call 54; (with_reducible refine (laws_sameCustomers.calls k2 _ _ (rd_L5 l0_1 x5_2) _ _ (rd_L5 l1_1 x5_2) true _ ?side1 ?side2 ?side3 ?side4 A18.out).mono ?_); (case side1 => exact Z9 HR550_0 HB); (case side2 => exact HC550_0.out); (case side3 => exact Z9 HR551_0 HB); (case side4 => exact HC551_0.out); rintro e w' ⟨rfl, ⟨nd, rfl⟩⟩; (try first | exact ⟨rfl, _, World.drewN_drewN _ _ _⟩ | exact ⟨rfl, _, Eq.trans (World.drewN_drewN _ _ _) (congrArg (World.drewN _) (Nat.add_assoc _ _ _))⟩)))
          repeat (go_quiet (first | (go_at_call 54; (with_reducible refine (laws_sameCustomers.calls k2 _ _ (rd_L5 l0_1 x5_2) _ _ (rd_L5 l1_1 x5_2) true _ ?side1 ?side2 ?side3 ?side4 A18.out).mono ?_); (case side1 => exact Z9 HR550_0 HB); (case side2 => exact HC550_0.out); (case side3 => exact Z9 HR551_0 HB); (case side4 => exact HC551_0.out); rintro e w' ⟨rfl, ⟨nd, rfl⟩⟩; (try first | exact ⟨rfl, _, World.drewN_drewN _ _ _⟩ | exact ⟨rfl, _, Eq.trans (World.drewN_drewN _ _ _) (congrArg (World.drewN _) (Nat.add_assoc _ _ _))⟩))); try go_wp2_with (first | (go_at_call 54; (with_reducible refine (laws_sameCustomers.calls k2 _ _ (rd_L5 l0_1 x5_2) _ _ (rd_L5 l1_1 x5_2) true _ ?side1 ?side2 ?side3 ?side4 A18.out).mono ?_); (case side1 => exact Z9 HR550_0 HB); (case side2 => exact HC550_0.out); (case side3 => exact Z9 HR551_0 HB); (case side4 => exact HC551_0.out); rintro e w' ⟨rfl, ⟨nd, rfl⟩⟩; (try first | exact ⟨rfl, _, World.drewN_drewN _ _ _⟩ | exact ⟨rfl, _, Eq.trans (World.drewN_drewN _ _ _) (congrArg (World.drewN _) (Nat.add_assoc _ _ _))⟩))))
          go_roundg k2
          case measure => have := HJ2.out; have := HK2.out; omega
          case rel => exact ⟨(wrap64 (x5_2 + 1)), Z14, H', ⟨Z69 HJ2 HK2⟩, ⟨Z2 BK547⟩, ⟨Z2 BK548⟩, ⟨Z17 HB GE547 GE548⟩⟩
         ·replace c19 := Bool.eq_false_iff.mpr c19
          subst c19
          have H1 : (some false) = some r := Z24
          clear H
          have H := H1
          clear H1
          obtain rfl := Option.some.inj H
          have hnb23 := NB547_548.out
          have hnc23 := NB548_547.out
          have hcz24_0 : wr.cell? ⟨gb547, 0, none⟩ = some (.slice A0_0 l0_0.length c0_0) := (blk_cell BK547.out 0).trans rfl
          have hcz24_1 : wr.cell? ⟨gb547, 1, none⟩ = some (.slice A0_1 l0_1.length c0_1) := (blk_cell BK547.out 1).trans rfl
          have hfz24_0 := blk_frozen BK547.out 0
          have hfz24_1 := blk_frozen BK547.out 1
          have p550 : 0 ≤ (x5_2 : Int) := of_decide_eq_true Z10
          have q550 : x5_2 < (l0_1.length : Int) := of_decide_eq_true Z10
          obtain ⟨ad550, A550_0, c550_0, e550, hx550_0, hl550_0, hi550_0⟩ := at_L5 HR0_1.out x5_2 p550 q550
          cases e550
          replace hx550_0 := (HB.out.cell (World.block_lt_of_cell? w _ hx550_0)).trans hx550_0
          have HR550_0 := Aside0.mk hi550_0
          have HC550_0 := Aside0.mk hl550_0
          clear hi550_0 hl550_0
          replace p550 := eq_true p550
          replace q550 := eq_true q550
          have hcz25_0 : wr.cell? ⟨gb548, 0, none⟩ = some (.slice A1_0 l1_0.length c1_0) := (blk_cell BK548.out 0).trans rfl
          have hcz25_1 : wr.cell? ⟨gb548, 1, none⟩ = some (.slice A1_1 l1_1.length c1_1) := (blk_cell BK548.out 1).trans rfl
          have hfz25_0 := blk_frozen BK548.out 0
          have hfz25_1 := blk_frozen BK548.out 1
          have p551 : 0 ≤ (x5_2 : Int) := of_decide_eq_true Z10
          have q551 : x5_2 < (l1_1.length : Int) := of_decide_eq_true Z10
          obtain ⟨ad551, A551_0, c551_0, e551, hx551_0, hl551_0, hi551_0⟩ := at_L5 HR1_1.out x5_2 p551 q551
          cases e551
          replace hx551_0 := (HB.out.cell (World.block_lt_of_cell? w _ hx551_0)).trans hx551_0
          have HR551_0 := Aside0.mk hi551_0
          have HC551_0 := Aside0.mk hl551_0
          clear hi551_0 hl551_0
          replace p551 := eq_true p551
          replace q551 := eq_true q551
          go_wp2_with (first | (go_at_call 54; (with_reducible refine (laws_sameCustomers.calls k2 _ _ (rd_L5 l0_1 x5_2) _ _ (rd_L5 l1_1 x5_2) false _ ?side1 ?side2 ?side3 ?side4 A18.out).mono ?_); (case side1 => exact Z9 HR550_0 HB); (case side2 => exact HC550_0.out); (case side3 => exact Z9 HR551_0 HB); (case side4 => exact HC551_0.out); rintro e w' ⟨rfl, ⟨nd, rfl⟩⟩; (try first | exact ⟨rfl, _, World.drewN_drewN _ _ _⟩ | exact ⟨rfl, _, Eq.trans (World.drewN_drewN _ _ _) (congrArg (World.drewN _) (Nat.add_assoc _ _ _))⟩)))
          repeat (go_quiet (first | (go_at_call 54; (with_reducible refine (laws_sameCustomers.calls k2 _ _ (rd_L5 l0_1 x5_2) _ _ (rd_L5 l1_1 x5_2) false _ ?side1 ?side2 ?side3 ?side4 A18.out).mono ?_); (case side1 => exact Z9 HR550_0 HB); (case side2 => exact HC550_0.out); (case side3 => exact Z9 HR551_0 HB); (case side4 => exact HC551_0.out); rintro e w' ⟨rfl, ⟨nd, rfl⟩⟩; (try first | exact ⟨rfl, _, World.drewN_drewN _ _ _⟩ | exact ⟨rfl, _, Eq.trans (World.drewN_drewN _ _ _) (congrArg (World.drewN _) (Nat.add_assoc _ _ _))⟩))); try go_wp2_with (first | (go_at_call 54; (with_reducible refine (laws_sameCustomers.calls k2 _ _ (rd_L5 l0_1 x5_2) _ _ (rd_L5 l1_1 x5_2) false _ ?side1 ?side2 ?side3 ?side4 A18.out).mono ?_); (case side1 => exact Z9 HR550_0 HB); (case side2 => exact HC550_0.out); (case side3 => exact Z9 HR551_0 HB); (case side4 => exact HC551_0.out); rintro e w' ⟨rfl, ⟨nd, rfl⟩⟩; (try first | exact ⟨rfl, _, World.drewN_drewN _ _ _⟩ | exact ⟨rfl, _, Eq.trans (World.drewN_drewN _ _ _) (congrArg (World.drewN _) (Nat.add_assoc _ _ _))⟩))))
          go_ret
          exact ⟨Z11, Z17 HB GE547 GE548⟩
        ·rw [if_neg c17] at H
         exact absurd H Z33
       ·rw [if_neg c16] at H
        exact absurd H Z33
      ·rw [if_neg c15] at H
       have c15b0 : decide (x5_2 < (l0_1.length : Int)) = false := decide_eq_false c15
       clear c15
       obtain rfl := Option.some.inj H
       have hnb26 := NB547_548.out
       have hnc26 := NB548_547.out
       have hcz27_0 : wr.cell? ⟨gb547, 0, none⟩ = some (.slice A0_0 l0_0.length c0_0) := (blk_cell BK547.out 0).trans rfl
       have hcz27_1 : wr.cell? ⟨gb547, 1, none⟩ = some (.slice A0_1 l0_1.length c0_1) := (blk_cell BK547.out 1).trans rfl
       have hfz27_0 := blk_frozen BK547.out 0
       have hfz27_1 := blk_frozen BK547.out 1
       go_wp2
       repeat (go_quiet (fail); try go_wp2)
       go_ret
       exact ⟨Z11, Z17 HB GE547 GE548⟩

/-! ### laws_alive: function 19 -/
def laws_alive.f (k : Nat)  : Option (Bool) := (impl_CustomersOk.f k (([(⟨0, 1⟩ : S84)] : List (S84)))).bind fun t556 => (if t556 = true then ((impl_CustomersOk.f k (([(⟨0, 0⟩ : S84)] : List (S84)))).bind fun t560 => (some (!t560))) else (some false))
set_option maxHeartbeats 8000000 in
set_option maxRecDepth 100000 in
theorem laws_alive.calls (k : Nat)  (r : Bool) (w : World) (h : laws_alive.f k  = some r) :
 Calls Tryz.prog 19 #[] w fun e w' => e = .returned (.bool r) ∧ Below w.heap.size w w' := by
 have hu84 := Tryz.underlying84
 have HB := Aside0.mk (Below.refl w.heap.size w)
 have H : ((impl_CustomersOk.f k (([(⟨0, 1⟩ : S84)] : List (S84)))).bind fun t556 => (if t556 = true then ((impl_CustomersOk.f k (([(⟨0, 0⟩ : S84)] : List (S84)))).bind fun t560 => (some (!t560))) else (some false))) = some r := h
 clear h
 obtain ⟨y553, hy553⟩ : ∃ y_ : List (S84), y_ = (([(⟨0, 1⟩ : S84)] : List (S84))) := ⟨_, rfl⟩
 replace H : ((impl_CustomersOk.f k y553).bind fun t556 => (if t556 = true then ((impl_CustomersOk.f k (([(⟨0, 0⟩ : S84)] : List (S84)))).bind fun t560 => (some (!t560))) else (some false))) = some r := Z5 hy553
 have Ny553 := Aside0.mk hy553
 clear hy553
 replace H := Option.bind_eq_some_iff.mp H
 obtain ⟨t556, A10, H⟩ := H
 replace H : (if t556 = true then ((impl_CustomersOk.f k (([(⟨0, 0⟩ : S84)] : List (S84)))).bind fun t560 => (some (!t560))) else (some false)) = some r := H
 have A1 := Aside0.mk A10
 clear A10
 by_cases c2 : t556 = true
 ·subst c2
  have H1 : ((impl_CustomersOk.f k (([(⟨0, 0⟩ : S84)] : List (S84)))).bind fun t560 => (some (!t560))) = some r := Z37
  clear H
  have H := H1
  clear H1
  obtain ⟨y557, hy557⟩ : ∃ y_ : List (S84), y_ = (([(⟨0, 0⟩ : S84)] : List (S84))) := ⟨_, rfl⟩
  replace H : ((impl_CustomersOk.f k y557).bind fun t560 => (some (!t560))) = some r := Z5 hy557
  have Ny557 := Aside0.mk hy557
  clear hy557
  replace H := Option.bind_eq_some_iff.mp H
  obtain ⟨t560, A30, H⟩ := H
  replace H : (some (!t560)) = some r := H
  have A3 := Aside0.mk A30
  clear A30
  obtain rfl := Option.some.inj H
  go_enter Tryz.func19, Tryz.ntmps19
  go_wp2_with (first | ((with_reducible refine gate_dst (N := 2) rfl ?_); (try (refine gate_guard Z90 ?_; dsimp only)); refine Kd.R_lit k84 _ 84 ?hg (N := 2) ?hd (xs := ([(⟨0, 1⟩ : S84)] : List (S84))) (inner := [.int .i64 0, .int .i64 1]) (ok := fun _ => True) (okp := fun _ => True) ?hr ?hp (fun _ hk => hk) trivial (Below.refl _ _) (Nat.le_refl _) Z33 ?_; (case hd => exact Z90); (case hg => exact Z90); (case hr => exact Z29); (case hp => exact Z84); intro v554 w4 ho5 hb hg_ hnew_; clear hg_ hnew_; (first | rw [← Ny553.out] at ho5 | (simp only [Int.reduceToNat] at ho5; rw [← Ny553.out] at ho5)); have HO555 := Aside0.mk (Kd.R_lower ho5 (below_size (Z0 HB))); replace HB := Aside0.mk (below_step (Z0 HB) hb); clear hb ho5; obtain ⟨Ao6, co6, eo6⟩ := Kd.R_slice HO555.out; subst eo6) | ((with_reducible refine gate_callee (f := 55) rfl ?_); refine gL_ 3 Tryz.func55 #[.slice Ao6 y553.length co6] ?_; (with_reducible refine (impl_CustomersOk.calls k _ _ y553 true _ ?side1 ?side2 A1.out).mono ?_); (case side1 => exact Z26 HO555); (case side2 => exact Z74 HO555); rintro e w7 ⟨rfl, hb⟩; refine ⟨_, rfl, ?_⟩; replace HO555 := Aside0.mk (Kd.R_below (Z4 HO555) hb); replace HB := Aside0.mk (below_step (Z0 HB) hb); (try clear hb)) | ((with_reducible refine gate_dst (N := 6) rfl ?_); (try (refine gate_guard Z90 ?_; dsimp only)); refine Kd.R_lit k84 _ 84 ?hg (N := 6) ?hd (xs := ([(⟨0, 0⟩ : S84)] : List (S84))) (inner := [.int .i64 0, .int .i64 0]) (ok := fun _ => True) (okp := fun _ => True) ?hr ?hp (fun _ hk => hk) trivial (Below.refl _ _) (Nat.le_refl _) Z33 ?_; (case hd => exact Z90); (case hg => exact Z90); (case hr => exact Z29); (case hp => exact (Reps.c2 (show Kd.M k84 _ _ _ (⟨0, 0⟩ : S84) [.int .i64 0, .int .i64 0] from (k84_mkM _ _ _ (⟨0, 0⟩ : S84) )) (Reps.none _ _))); intro v558 w8 ho9 hb hg_ hnew_; clear hg_ hnew_; (first | rw [← Ny557.out] at ho9 | (simp only [Int.reduceToNat] at ho9; rw [← Ny557.out] at ho9)); have HO559 := Aside0.mk (Kd.R_lower (Kd.R_new' ho9 (Kd.R_lt (Z4 HO555))) (below_size (Z0 HB))); replace HO555 := Aside0.mk (Kd.R_elder' (Z4 HO555) (Kd.R_base ho9) hb); replace HB := Aside0.mk (below_step (Z0 HB) hb); clear hb ho9; obtain ⟨Ao10, co10, eo10⟩ := Kd.R_slice HO559.out; subst eo10) | (go_at_call 55; (with_reducible refine (impl_CustomersOk.calls k _ _ y557 t560 _ ?side1 ?side2 A3.out).mono ?_); (case side1 => exact Z26 HO559); (case side2 => exact Z74 HO559); rintro e w11 ⟨rfl, hb⟩; replace HO555 := Aside0.mk (Kd.R_below (Z4 HO555) hb); replace HO559 := Aside0.mk (Kd.R_below (Z4 HO559) hb); replace HB := Aside0.mk (below_step (Z0 HB) hb); (try clear hb)))
  go_ret
  exact ⟨Z11, Z0 HB⟩
 ·replace c2 := Bool.eq_false_iff.mpr c2
  subst c2
  have H1 : (some false) = some r := Z24
  clear H
  have H := H1
  clear H1
  obtain rfl := Option.some.inj H
  go_enter Tryz.func19, Tryz.ntmps19
  go_wp2_with (first | ((with_reducible refine gate_dst (N := 2) rfl ?_); (try (refine gate_guard Z90 ?_; dsimp only)); refine Kd.R_lit k84 _ 84 ?hg (N := 2) ?hd (xs := ([(⟨0, 1⟩ : S84)] : List (S84))) (inner := [.int .i64 0, .int .i64 1]) (ok := fun _ => True) (okp := fun _ => True) ?hr ?hp (fun _ hk => hk) trivial (Below.refl _ _) (Nat.le_refl _) Z33 ?_; (case hd => exact Z90); (case hg => exact Z90); (case hr => exact Z29); (case hp => exact Z84); intro v554 w12 ho13 hb hg_ hnew_; clear hg_ hnew_; (first | rw [← Ny553.out] at ho13 | (simp only [Int.reduceToNat] at ho13; rw [← Ny553.out] at ho13)); have HO555 := Aside0.mk (Kd.R_lower ho13 (below_size (Z0 HB))); replace HB := Aside0.mk (below_step (Z0 HB) hb); clear hb ho13; obtain ⟨Ao14, co14, eo14⟩ := Kd.R_slice HO555.out; subst eo14) | ((with_reducible refine gate_callee (f := 55) rfl ?_); refine gL_ 3 Tryz.func55 #[.slice Ao14 y553.length co14] ?_; (with_reducible refine (impl_CustomersOk.calls k _ _ y553 false _ ?side1 ?side2 A1.out).mono ?_); (case side1 => exact Z26 HO555); (case side2 => exact Z74 HO555); rintro e w15 ⟨rfl, hb⟩; refine ⟨_, rfl, ?_⟩; replace HO555 := Aside0.mk (Kd.R_below (Z4 HO555) hb); replace HB := Aside0.mk (below_step (Z0 HB) hb); (try clear hb)))
  go_ret
  exact ⟨Z11, Z0 HB⟩

end Go.Proofs.YtmmoojkhlkjdkaaGreatDoor.PFnReadJournal
