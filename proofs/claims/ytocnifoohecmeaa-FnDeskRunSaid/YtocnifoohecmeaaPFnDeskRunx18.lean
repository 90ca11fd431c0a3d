-- Printed by this claim's own program; Lean checks it.
import Derived.Test.YtocnifoohecmeaaPFnDeskRunx0
import Derived.Test.YtocnifoohecmeaaPFnDeskRunx3
import Derived.Test.YtocnifoohecmeaaPFnDeskRunx4
import Derived.Test.YtocnifoohecmeaaPFnDeskRunx5
import Derived.Test.YtocnifoohecmeaaPFnDeskRunx14
import Derived.Test.YtocnifoohecmeaaPFnDeskRunx16
import Derived.Test.YtocnifoohecmeaaPFnDeskRunx17
namespace Go.Proofs.Ytocnifoohecmeaa.PFnDeskRun
open Go.RowKit Go.Proofs.YtocnifoohecmeaaW.PrintWords Go.Proofs.YtocnifoohecmeaaW.PrintLast Go.Proofs.YtocnifoohecmeaaW.PrintMore
attribute [local go_sem] max2_int min2_int max_two min_two max_three min_three max_four min_four   -- for this text's walks alone
set_option linter.unusedVariables false
set_option linter.unusedSimpArgs false

/-! ### laws_FnDeskRun: function 9 -/
def laws_FnDeskRun.f (k : Nat) (l0 : List Int) : Option Bool := if (l0.length : Int) > 1048576 then some true else
  (spec_DrawDeskRun.f k l0).bind fun D => (impl_DeskRun.f k D.1 D.2.1 D.2.2).bind fun X => (spec_DeskRun.f k D.1 D.2.1 D.2.2).bind fun Y => (laws_sameDesk.f k X.1 X.2.1 Y.1 Y.2.1).bind fun s => if s = true ∧ X.2.2 = Y.2.2 then
    (spec_DeskOk.f k D.1 D.2.1).bind fun o => if o = false ∨ 40 < D.2.2.length then
      (if X.2.2 = 0 then (laws_noDesk.f k X.1 X.2.1).bind fun nd => if nd = true then laws_alive.f k else none else none)
    else (impl_DeskRun.f k D.1 D.2.1 (D.2.2.take (D.2.2.length / 2))).bind fun A => (impl_DeskRun.f k A.1 A.2.1 (D.2.2.drop (D.2.2.length / 2))).bind fun C => (impl_DeskOk.f k X.1 X.2.1).bind fun ok => if ok = true then
      (laws_sameDesk.f k C.1 C.2.1 X.1 X.2.1).bind fun s2 => if s2 = true ∧ A.2.2 + C.2.2 = X.2.2 ∧ 0 ≤ X.2.2 ∧ X.2.2 ≤ 1000000 then laws_alive.f k else none
      else none
  else none
/-- A desk in a box, as it is read. -/
structure RDesk (W : World) (g : Nat) (A0 : Option Addr) (c0 : Nat) (l0 : List S50) (A1 : Option Addr) (c1 : Nat) (l1 : List (List S50)) : Prop where
  b : W.heap[g]? = some (.cells #[.slice A0 l0.length c0, .slice A1 l1.length c1] 27 (0, 0))
  r0 : Kd.C k50 W A0 l0.length l0
  h0 : l0.length ≤ c0
  r1 : Kd.C (Kd.slice 50 k50) W A1 l1.length l1
  h1 : l1.length ≤ c1
theorem RDesk.below {W : World} {g : Nat} {A0 : Option Addr} {c0 : Nat} {l0 : List S50} {A1 : Option Addr} {c1 : Nat} {l1 : List (List S50)} {W' : World} (h : RDesk W g A0 c0 l0 A1 c1 l1) (hb : Below W.heap.size W W') : RDesk W' g A0 c0 l0 A1 c1 l1 := ⟨(hb.block _ (blk_lt h.b)).trans h.b, Kd.C_below h.r0 hb, h.h0, Kd.C_below h.r1 hb, h.h1⟩
theorem RDesk.mk' {W : World} {A0 : Option Addr} {c0 : Nat} {l0 : List S50} {A1 : Option Addr} {c1 : Nat} {l1 : List (List S50)} (r0 : Kd.C k50 W A0 l0.length l0) (h0 : l0.length ≤ c0) (r1 : Kd.C (Kd.slice 50 k50) W A1 l1.length l1) (h1 : l1.length ≤ c1) : RDesk (W.alloc (.cells #[.slice A0 l0.length c0, .slice A1 l1.length c1] 27)) W.heap.size A0 c0 l0 A1 c1 l1 := ⟨blk_new _ _, Kd.C_alloc r0 _, h0, Kd.C_alloc r1 _, h1⟩
theorem RDesk.put {W : World} {g : Nat} {A0 : Option Addr} {c0 : Nat} {l0 : List S50} {A1 : Option Addr} {c1 : Nat} {l1 : List (List S50)} {lo : Nat} {f : Nat → Nat} {vs : List Value} (hb : W.heap[g]? = some (.cells #[.slice none 0 0, .slice none 0 0] 27 (0, 0))) (h : DOwn W lo (fun k => k ≠ g ∧ lo ≤ k) A0 c0 l0 A1 c1 l1 f vs) : RDesk ((W.setCell ⟨g, 0, none⟩ (.slice A0 l0.length c0)).setCell ⟨g, 1, none⟩ (.slice A1 l1.length c1)) g A0 c0 l0 A1 c1 l1 :=
  have d := h.step (W' := (W.setCell ⟨g, 0, none⟩ (.slice A0 l0.length c0)).setCell ⟨g, 1, none⟩ (.slice A1 l1.length c1)) (fun k hk _ => (Below.heap_setCell _ ⟨g, 1, none⟩ _ k hk.1).trans (Below.heap_setCell _ ⟨g, 0, none⟩ _ k hk.1))
  ⟨res_put hb, d.r0, d.h0, d.r1, d.le⟩
def laws_FnDeskRun.T11 : Bool × List (List Nat × List Nat) := (true, [([], []), ([], []), ([], []), ([1, 2], [1, 2]), ([0, 3], [0, 3]), ([4], [4]), ([5], [5]), ([5], [5]), ([], []), ([8, 6, 4, 0, 1, 2, 3, 4, 5, 6, 8], [6, 8]), ([7, 9, 0, 1, 2, 3, 4, 5, 6, 7, 8, 9], [7])])
def laws_FnDeskRun.B11 : List Nat := [0, 0, 0, 6, 15, 31, 63, 63, 0, 383, 1023]
theorem laws_FnDeskRun.tab11 : rtab .any (opsOf Try.f9 11) = laws_FnDeskRun.T11 := by kernel_rfl
theorem laws_FnDeskRun.bits11 : waitsOk laws_FnDeskRun.T11.2 laws_FnDeskRun.B11 = true := by kernel_rfl
def laws_FnDeskRun.T12 : Bool × List (List Nat × List Nat) := (true, [([], []), ([], []), ([], []), ([1, 2], [1, 2]), ([0, 3], [0, 3]), ([4], [4]), ([5], [5]), ([5], [5]), ([], []), ([8, 6, 4, 0, 1, 2, 3, 4, 5, 6, 8], [6, 8]), ([7, 9, 0, 1, 2, 3, 4, 5, 6, 7, 8, 9], [7])])
def laws_FnDeskRun.B12 : List Nat := [0, 0, 0, 6, 15, 31, 63, 63, 0, 383, 1023]
theorem laws_FnDeskRun.tab12 : rtab .any (opsOf Try.f9 12) = laws_FnDeskRun.T12 := by kernel_rfl
theorem laws_FnDeskRun.bits12 : waitsOk laws_FnDeskRun.T12.2 laws_FnDeskRun.B12 = true := by kernel_rfl
set_option maxHeartbeats 8000000 in
set_option maxRecDepth 100000 in
theorem laws_FnDeskRun.calls (k : Nat) (A0 : Option Addr) (c0 : Nat) (l0 : List Int) (r : Bool) (w : World) (hr0 : Kd.C (Kd.int .u8) w A0 l0.length l0) (hc0 : l0.length ≤ c0) (h : laws_FnDeskRun.f k l0 = some r) :
 Calls Try.prog 9 #[.slice A0 l0.length c0] w fun e w' => e = .returned (.bool r) ∧ Below w.heap.size w w' := by
 have hu27 := Try.underlying27
 have hu52 := Try.underlying52
 unfold laws_FnDeskRun.f at h
 by_cases c2 : (l0.length : Int) > 1048576
 ·rw [if_pos c2] at h
  have c2b0 : decide (1048576 < (l0.length : Int)) = true := decide_eq_true c2
  have c2b1 : decide (1048576 < l0.length) = true := decide_eq_true (by omega)
  clear c2
  obtain rfl := Option.some.inj h
  clear h hr0
  go_enter Try.func9, Try.ntmps9
  go_wp2
  go_ret
  exact ⟨rfl, Below.refl _ _⟩
 rw [if_neg c2] at h
 have c2b0 : decide (1048576 < (l0.length : Int)) = false := decide_eq_false c2
 have c2b1 : decide (1048576 < l0.length) = false := decide_eq_false (by omega)
 clear c2
 obtain ⟨⟨d0, d1, ds⟩, hD, g1⟩ := Option.bind_eq_some_iff.mp h
 obtain ⟨⟨x0, x1, n⟩, hX, g2⟩ := Option.bind_eq_some_iff.mp g1
 obtain ⟨⟨y0, y1, many⟩, hY, g3⟩ := Option.bind_eq_some_iff.mp g2
 obtain ⟨s, hS, g4⟩ := Option.bind_eq_some_iff.mp g3
 dsimp only at hX hY hS g4
 have hc : s = true ∧ n = many := Decidable.byContradiction fun hc => by rw [if_neg hc] at g4; cases g4
 rw [if_pos hc] at g4
 obtain ⟨hc1, hc2⟩ := hc
 subst hc1
 subst hc2
 have HH := Aside0.mk g4
 have HD := Aside0.mk hD
 have HX := Aside0.mk hX
 have HY := Aside0.mk hY
 have HS := Aside0.mk hS
 have HR := Aside0.mk hr0
 have HC := Aside0.mk hc0
 clear h g1 g2 g3 g4 hD hX hY hS hr0 hc0
 go_enter Try.func9, Try.ntmps9
 go_wp2_with (fail)
 refine (spec_DrawDeskRun.calls k A0 c0 l0 d0 d1 ds w HR.out HC.out HD.out).mono ?_
 rintro e w1 ⟨v0, v1, v2, rfl, hv, hs, hl, hb1⟩
 obtain ⟨Ad0, cd0, rfl⟩ := Kd.V_slice hv
 obtain ⟨Ad1, cd1, rfl⟩ := Kd.S_slice hs
 obtain ⟨Al, cl, rfl⟩ := Kd.R_slice hl
 have D2 := Aside0.mk (RDesk.mk' (Kd.V_reads' hv).2.2 (Kd.V_reads' hv).2.1 (Kd.S_reads' hs).2.2 (Kd.S_reads' hs).2.1)
 have Q2 := Aside0.mk (Kd.C_alloc (Kd.R_reads' hl).2.2 (.cells #[(.slice Ad0 d0.length cd0), (.slice Ad1 d1.length cd1)] 27))
 have HCL := Aside0.mk (Kd.R_reads' hl).2.1
 have B2 := Aside0.mk (below_alloc hb1 (.cells #[(.slice Ad0 d0.length cd0), (.slice Ad1 d1.length cd1)] 27))
 clear hv hs hl hb1
 go_wp2_with (fail)
 generalize w1.alloc (.cells #[(.slice Ad0 d0.length cd0), (.slice Ad1 d1.length cd1)] 27) = w2 at D2 Q2 B2 ⊢
 generalize w1.heap.size = gd at D2 ⊢
 clear w1
 refine (impl_DeskRun.calls k _ _ d0 _ _ d1 _ _ ds x0 x1 n _ D2.out.r0 D2.out.h0 D2.out.r1 D2.out.h1 Q2.out HCL.out HX.out).mono ?_
 rintro e w3 ⟨Ax0, cx0, Ax1, cx1, fx, vx, rfl, hd, hb⟩
 have hb' := below_step hb (below_alloc (Below.refl w3.heap.size w3) (.cells #[(.slice Ax0 x0.length cx0), (.slice Ax1 x1.length cx1)] 27))
 have D4 := Aside0.mk (D2.out.below hb')
 have Q4 := Aside0.mk (Kd.C_below Q2.out hb')
 have B4 := Aside0.mk (below_step B2.out hb')
 have X4 := Aside0.mk (RDesk.mk' hd.r0 hd.h0 hd.r1 hd.le)
 have D3 := Aside0.mk (D2.out.below hb)
 clear hd hb hb' D2 Q2 B2
 have m1 := blk_lt D3.out.b
 have hd0 : w3.cell? ⟨gd, 0, none⟩ = some (.slice Ad0 d0.length cd0) := (blk_cell D3.out.b 0).trans rfl
 have hd1 : w3.cell? ⟨gd, 1, none⟩ = some (.slice Ad1 d1.length cd1) := (blk_cell D3.out.b 1).trans rfl
 go_wp2_with (fail)
 clear hd0 hd1 m1 D3
 generalize w3.alloc (.cells #[(.slice Ax0 x0.length cx0), (.slice Ax1 x1.length cx1)] 27) = w4 at D4 Q4 B4 X4 ⊢
 generalize w3.heap.size = gx at X4 ⊢
 clear w3
 refine (spec_DeskRun.calls k _ _ d0 _ _ d1 _ _ ds y0 y1 n _ D4.out.r0 D4.out.h0 D4.out.r1 D4.out.h1 Q4.out HCL.out HY.out).mono ?_
 rintro e w5 ⟨v0, v1, rfl, hv0, hv1, hb⟩
 obtain ⟨Ay0, cy0, rfl⟩ := Kd.V_slice hv0
 obtain ⟨Ay1, cy1, rfl⟩ := Kd.V_slice hv1
 have hb' := below_step hb (below_alloc (Below.refl w5.heap.size w5) (.cells #[(.slice Ay0 y0.length cy0), (.slice Ay1 y1.length cy1)] 27))
 have D6 := Aside0.mk (D4.out.below hb')
 have Q6 := Aside0.mk (Kd.C_below Q4.out hb')
 have B6 := Aside0.mk (below_step B4.out hb')
 have X6 := Aside0.mk (X4.out.below hb')
 have Y6 := Aside0.mk (RDesk.mk' (Kd.V_reads' hv0).2.2 (Kd.V_reads' hv0).2.1 (Kd.V_reads' hv1).2.2 (Kd.V_reads' hv1).2.1)
 have X5 := Aside0.mk (X4.out.below hb)
 clear hv0 hv1 hb hb' D4 Q4 B4 X4
 have m1 := blk_lt X5.out.b
 have hx0 : w5.cell? ⟨gx, 0, none⟩ = some (.slice Ax0 x0.length cx0) := (blk_cell X5.out.b 0).trans rfl
 have hx1 : w5.cell? ⟨gx, 1, none⟩ = some (.slice Ax1 x1.length cx1) := (blk_cell X5.out.b 1).trans rfl
 go_wp2_with (fail)
 clear hx0 hx1 m1 X5
 generalize w5.alloc (.cells #[(.slice Ay0 y0.length cy0), (.slice Ay1 y1.length cy1)] 27) = w6 at D6 Q6 B6 X6 Y6 ⊢
 generalize w5.heap.size = gy at Y6 ⊢
 clear w5
 refine (laws_sameDesk.calls k _ _ x0 _ _ x1 _ _ y0 _ _ y1 true _ X6.out.r0 X6.out.h0 X6.out.r1 X6.out.h1 Y6.out.r0 Y6.out.h0 Y6.out.r1 Y6.out.h1 HS.out).mono ?_
 rintro e w7 ⟨rfl, hb⟩
 have D7 := Aside0.mk (D6.out.below hb)
 have Q7 := Aside0.mk (Kd.C_below Q6.out hb)
 have B7 := Aside0.mk (below_step B6.out hb)
 have X7 := Aside0.mk (X6.out.below hb)
 clear D6 Q6 B6 X6
 clear hb Y6
 obtain ⟨o, hO, g5⟩ := Option.bind_eq_some_iff.mp HH.out
 have HO := Aside0.mk hO
 clear HH hO
 have hd0 : w7.cell? ⟨gd, 0, none⟩ = some (.slice Ad0 d0.length cd0) := (blk_cell D7.out.b 0).trans rfl
 have hd1 : w7.cell? ⟨gd, 1, none⟩ = some (.slice Ad1 d1.length cd1) := (blk_cell D7.out.b 1).trans rfl
 go_wp2_with (fail)
 refine (spec_DeskOk.calls k _ _ d0 _ _ d1 o _ D7.out.r0 D7.out.h0 D7.out.r1 D7.out.h1 HO.out).mono ?_
 rintro e w8 ⟨rfl, hb⟩
 have D8 := Aside0.mk (D7.out.below hb)
 have Q8 := Aside0.mk (Kd.C_below Q7.out hb)
 have B8 := Aside0.mk (below_step B7.out hb)
 have X8 := Aside0.mk (X7.out.below hb)
 clear D7 Q7 B7 X7
 clear hb hd0 hd1
 cases o with
 | false =>
  rw [if_pos (.inl rfl)] at g5
  have hz : n = 0 := Decidable.byContradiction fun hc => by rw [if_neg hc] at g5; cases g5
  rw [if_pos hz] at g5
  subst hz
  obtain ⟨nd, hN, g6⟩ := Option.bind_eq_some_iff.mp g5
  have hnd : nd = true := Decidable.byContradiction fun hc => by rw [if_neg hc] at g6; cases g6
  rw [if_pos hnd] at g6
  subst hnd
  have HN := Aside0.mk hN
  have HA := Aside0.mk g6
  clear hN g6 g5
  have hx0 : w8.cell? ⟨gx, 0, none⟩ = some (.slice Ax0 x0.length cx0) := (blk_cell X8.out.b 0).trans rfl
  have hx1 : w8.cell? ⟨gx, 1, none⟩ = some (.slice Ax1 x1.length cx1) := (blk_cell X8.out.b 1).trans rfl
  go_wp2_with (fail)
  refine (laws_noDesk.calls k _ _ x0 _ _ x1 true _ X8.out.r0 X8.out.h0 X8.out.r1 X8.out.h1 HN.out).mono ?_
  rintro e w9 ⟨rfl, hb⟩
  have B9 := Aside0.mk (below_step B8.out hb)
  clear hb hx0 hx1
  go_wp2_with (fail)
  refine (laws_alive.calls k r _ HA.out).mono ?_
  rintro e w10 ⟨rfl, hb⟩
  have B10 := Aside0.mk (below_step B9.out hb)
  clear hb
  go_wp2
  go_ret
  exact ⟨rfl, B10.out⟩
 | true =>
  by_cases h40 : 40 < ds.length
  ·rw [if_pos (.inr h40)] at g5
   have f40 : decide (40 < (ds.length : Int)) = true := decide_eq_true (by omega)
   have f40' : decide (40 < ds.length) = true := decide_eq_true h40
   clear h40
   have hz : n = 0 := Decidable.byContradiction fun hc => by rw [if_neg hc] at g5; cases g5
   rw [if_pos hz] at g5
   subst hz
   obtain ⟨nd, hN, g6⟩ := Option.bind_eq_some_iff.mp g5
   have hnd : nd = true := Decidable.byContradiction fun hc => by rw [if_neg hc] at g6; cases g6
   rw [if_pos hnd] at g6
   subst hnd
   have HN := Aside0.mk hN
   have HA := Aside0.mk g6
   clear hN g6 g5
   have hx0 : w8.cell? ⟨gx, 0, none⟩ = some (.slice Ax0 x0.length cx0) := (blk_cell X8.out.b 0).trans rfl
   have hx1 : w8.cell? ⟨gx, 1, none⟩ = some (.slice Ax1 x1.length cx1) := (blk_cell X8.out.b 1).trans rfl
   go_wp2_with (fail)
   refine (laws_noDesk.calls k _ _ x0 _ _ x1 true _ X8.out.r0 X8.out.h0 X8.out.r1 X8.out.h1 HN.out).mono ?_
   rintro e w9 ⟨rfl, hb⟩
   have B9 := Aside0.mk (below_step B8.out hb)
   clear hb hx0 hx1
   go_wp2_with (fail)
   refine (laws_alive.calls k r _ HA.out).mono ?_
   rintro e w10 ⟨rfl, hb⟩
   have B10 := Aside0.mk (below_step B9.out hb)
   clear hb
   go_wp2
   go_ret
   exact ⟨rfl, B10.out⟩
  ·rw [if_neg (fun h => h.elim (fun h => by cases h) (fun h => h40 h))] at g5
   have f40 : decide (40 < (ds.length : Int)) = false := decide_eq_false (by omega)
   have f40' : decide (40 < ds.length) = false := decide_eq_false h40
   obtain ⟨⟨a0, a1, p⟩, hA, g6⟩ := Option.bind_eq_some_iff.mp g5
   obtain ⟨⟨e0, e1, q⟩, hE, g7⟩ := Option.bind_eq_some_iff.mp g6
   obtain ⟨ok, hK, g8⟩ := Option.bind_eq_some_iff.mp g7
   have hok : ok = true := Decidable.byContradiction fun hc => by rw [if_neg hc] at g8; cases g8
   rw [if_pos hok] at g8
   subst hok
   obtain ⟨s2, hS2, g9⟩ := Option.bind_eq_some_iff.mp g8
   dsimp only at hE hS2 g9
   have hc : s2 = true ∧ p + q = n ∧ 0 ≤ n ∧ n ≤ 1000000 := Decidable.byContradiction fun hc => by rw [if_neg hc] at g9; cases g9
   rw [if_pos hc] at g9
   obtain ⟨hc1, hc2, hc3, hc4⟩ := hc
   subst hc1
   obtain ⟨ji, hji⟩ : ∃ j : Int, ((ds.length / 2 : Nat) : Int) = j := ⟨_, rfl⟩
   have pw : IntKind.i64.wrap ((ds.length : Int) / 2) = ji := by rw [IntKind.wrap_i64]; omega
   have pw' : IntKind.i64.wrap (Int.tdiv (ds.length : Int) 2) = ji := by rw [Int.tdiv_eq_ediv_of_nonneg (by omega)]; exact pw
   have hjn : ji.toNat = ds.length / 2 := by omega
   have hj0 : 0 ≤ ji := by omega
   have hjl : ji ≤ (ds.length : Int) := by omega
   have pq : IntKind.i64.wrap (p + q) = n := by rw [hc2, IntKind.wrap_i64]; omega
   have HPQ := Aside0.mk pq
   obtain ⟨z1, hz1⟩ : ∃ z, z = ds.take (ds.length / 2) := ⟨_, rfl⟩
   obtain ⟨z2, hz2⟩ : ∃ z, z = ds.drop (ds.length / 2) := ⟨_, rfl⟩
   rw [← hz1] at hA
   rw [← hz2] at hE
   have hl1 : z1.length = ji.toNat := by rw [hz1, List.length_take]; omega
   have hl2 : z2.length = ds.length - ji.toNat := by rw [hz2, List.length_drop]; omega
   obtain ⟨i0, hi0, _, hsz, _⟩ := info_parts info52
   have hcut1 := cut_to (P := Try.prog) 60 52 .i64 Try.underlying60 hi0 Al ds.length cl ji hj0 hjl HCL.out
   rw [← hl1] at hcut1
   have hcut2 := cut_from (P := Try.prog) 60 52 .i64 Try.underlying60 hi0 3 hsz Al ds.length cl ji hj0 hjl
   obtain ⟨A2, hA2⟩ : ∃ A2, A2 = (if cl = ji.toNat then Al else (Al : Option Addr).map (·.add (ji.toNat * 3))) := ⟨_, rfl⟩
   obtain ⟨c2, hc2'⟩ : ∃ c2, c2 = cl - ji.toNat := ⟨_, rfl⟩
   rw [← hl2, ← hA2, ← hc2'] at hcut2
   have HZ1 : Aside0 (∀ W, Kd.C k52 W Al ds.length ds → Kd.C k52 W Al z1.length z1) := ⟨fun W hC => by rw [hz1]; exact Kd.C_take hC (by omega)⟩
   have HZ2 : Aside0 (∀ W, Kd.C k52 W Al ds.length ds → Kd.C k52 W A2 z2.length z2) := ⟨fun W hC => by have h7 := Kd.C_drop (m := ji.toNat) (c := cl) hC (by omega) HCL.out; rw [hA2, hz2, ← hjn]; exact h7⟩
   have HL1 := Aside0.mk (show z1.length ≤ cl from by have := HCL.out; omega)
   have HL2 := Aside0.mk (show z2.length ≤ c2 from by have := HCL.out; omega)
   have P0 := eq_true hj0
   have P1 := eq_true hjl
   have HA := Aside0.mk hA
   have HE := Aside0.mk hE
   have HK := Aside0.mk hK
   have HS2 := Aside0.mk hS2
   have HAL := Aside0.mk g9
   clear g5 g6 g7 g8 g9 hA hE hK hS2 h40 hc2 hc3 hc4 hji hjn hz1 hz2 hl1 hl2 hA2 hc2' hi0 hsz hj0 hjl pq
   go_wp2_with (fail)
   clear f40 f40' pw pw'
   have hb0_ := below_drew1 (Below.refl w8.heap.size w8)
   have Dz := Aside0.mk (D8.out.below hb0_)
   have Qz := Aside0.mk (Kd.C_below Q8.out hb0_)
   have Bz := Aside0.mk (below_step B8.out hb0_)
   have Xz := Aside0.mk (X8.out.below hb0_)
   clear hb0_ D8 Q8 B8 X8
   have HCEL := Aside0.mk (show ∀ W, Below w8.drew.heap.size w8.drew W → W.cell? ⟨gd, 0, none⟩ = some (.slice Ad0 d0.length cd0) ∧ W.cell? ⟨gd, 1, none⟩ = some (.slice Ad1 d1.length cd1) from fun W hW => ⟨(blk_cell (Dz.out.below hW).b 0).trans rfl, (blk_cell (Dz.out.below hW).b 1).trans rfl⟩)
   obtain ⟨ENV, hE, HL_, HBe, HCe, HOu⟩ : ∃ ENV : World → Prop, ENV w8.drew ∧ Aside0 (∀ W W', ENV W → Kept W W' (fun k => w8.drew.heap.size ≤ k) → Below w8.drew.heap.size w8.drew W' → ENV W') ∧ Aside0 (∀ W, ENV W → Below w8.drew.heap.size w8.drew W) ∧ Aside0 (∀ W, ENV W → W.cell? ⟨gd, 0, none⟩ = some (.slice Ad0 d0.length cd0) ∧ W.cell? ⟨gd, 1, none⟩ = some (.slice Ad1 d1.length cd1)) ∧ Aside0 (∀ W, ENV W → Below w8.drew.heap.size w8.drew W) :=
    ⟨fun W => Below w8.drew.heap.size w8.drew W, Below.refl _ _, ⟨fun W W' _ _ hb => hb⟩, ⟨fun W h => h⟩, HCEL, ⟨fun W h => h⟩⟩
   clear HCEL
   refine start_ (n := 11) (S := ENV) (ds := []) #[false, false, false, false, false, false, false, false, false, false, false] (by kernel_rfl) rfl rfl hE (fun hHeld => ?_); refine with_tabW laws_FnDeskRun.tab11 laws_FnDeskRun.bits11 (fun HT_ HW_ => ?_)
   clear hE
   have hE := hHeld
   generalize w8.drew = wa at hE HL_ HBe HOu hHeld Dz Qz Bz Xz ⊢
   have hw : Below wa.heap.size wa wa := Below.refl _ _
   have HC37 : Aside0 (∀ W, ENV W → Calls Try.prog 37 #[.agg #[(.slice Ad0 d0.length cd0), (.slice Ad1 d1.length cd1)], .slice Al z1.length cl] W fun e W' => ∃ (A0_ : Option Addr) (c0_ : Nat) (A1_ : Option Addr) (c1_ : Nat) (f_ : Nat → Nat) (vs_ : List Value), e = .returned (.tuple #[.agg #[.slice A0_ a0.length c0_, .slice A1_ a1.length c1_], .int .i64 p]) ∧ DOwn W' W.heap.size (fun k_ => W.heap.size ≤ k_) A0_ c0_ a0 A1_ c1_ a1 f_ vs_ ∧ Below W.heap.size W W') := ⟨fun W h => by have d := Dz.out.below (HOu.out _ h); exact impl_DeskRun.calls k _ _ d0 _ _ d1 _ _ z1 a0 a1 p W d.r0 d.h0 d.r1 d.h1 (HZ1.out _ (Kd.C_below Qz.out (HOu.out _ h))) HL1.out HA.out⟩
   refine take_ (i := 0) (N := some 64) (v := ?_) (a' := ?_) #[true, false, false, false, false, false, false, false, false, false, false] rfl rfl (take_ofW HT_.out HW_.out (by kernel_rfl)) (fun _ _ _ h => h) (Or.inl ⟨by rfl, ?_⟩) hHeld ?_ ?_
   rotate_left
   ·intro w' hE_
    obtain ⟨t0_, t1_⟩ := HCe.out w' hE_
    go_simp
    with_reducible rfl
   rotate_left
   ·simp only [putAll, Act.put, List.setIfInBounds_toArray, List.set_cons_zero, List.set_cons_succ, i64_w, i32_w]
    rfl
   refine pure_ (i := 1) (N := some 65) (v := ?_) (a' := ?_) #[true, true, false, false, false, false, false, false, false, false, false] rfl rfl (any_of HT_.out (by kernel_rfl)) (fun _ _ _ h => h) (Or.inl ⟨by rfl, ?_⟩) ?_ ?_
   rotate_left
   ·intro w'
    go_simp
    with_reducible rfl
   rotate_left
   ·simp only [putAll, Act.put, List.setIfInBounds_toArray, List.set_cons_zero, List.set_cons_succ, i64_w, i32_w]
    rfl
   refine pure_ (i := 2) (N := some 66) (v := ?_) (a' := ?_) #[true, true, true, false, false, false, false, false, false, false, false] rfl rfl (any_of HT_.out (by kernel_rfl)) (fun _ _ _ h => h) (Or.inl ⟨by rfl, ?_⟩) ?_ ?_
   rotate_left
   ·intro w'
    go_simp
    with_reducible rfl
   rotate_left
   ·simp only [putAll, Act.put, List.setIfInBounds_toArray, List.set_cons_zero, List.set_cons_succ, i64_w, i32_w]
    rfl
   refine pure_ (i := 3) (N := some 67) (v := ?_) (a' := ?_) #[true, true, true, true, false, false, false, false, false, false, false] rfl rfl (any_of HT_.out (by kernel_rfl)) (fun _ _ _ h => h) (Or.inl ⟨by rfl, ?_⟩) ?_ ?_
   rotate_left
   ·intro w'
    go_simp
    with_reducible rfl
   rotate_left
   ·simp only [putAll, Act.put, List.setIfInBounds_toArray, List.set_cons_zero, List.set_cons_succ, i64_w, i32_w]
    rfl
   refine join_ (σ := Value × Value × Nat) 2 #[true, true, true, true, true, true, true, true, true, false, false] (fun s_ => [(68, .tuple #[.agg #[s_.1, s_.2.1], .int .i64 p]), (10, .pointer (some ⟨s_.2.2, 0, none⟩)), (63, .tuple #[.agg #[s_.1, s_.2.1], .int .i64 p]), (69, .agg #[s_.1, s_.2.1]), (70, .int .i64 p)]) (fun s_ W => ENV W ∧ W.heap[s_.2.2]? = some (.cells #[.slice none 0 0, .slice none 0 0] 27 (0, 0)) ∧ wa.heap.size ≤ s_.2.2 ∧ (∃ (A0 : Option Addr) (c0 : Nat) (A1 : Option Addr) (c1 : Nat) (f : Nat → Nat) (vs : List Value), s_.1 = .slice A0 a0.length c0 ∧ s_.2.1 = .slice A1 a1.length c1 ∧ DOwn W wa.heap.size (fun k => k ≠ s_.2.2 ∧ wa.heap.size ≤ k) A0 c0 a0 A1 c1 a1 f vs) ∧ Below wa.heap.size wa W) ?_ ?_
   rotate_left
   ·intro hCont
    refine two_ (i := 4) (j := 8) (Ni := some 68) (Nj := some 10) #[true, true, true, true, true, false, false, false, false, false, false] #[true, true, true, true, false, false, false, false, true, false, false] rfl rfl rfl rfl (two_of HT_.out (by kernel_rfl)) (by decide) (by decide) (fun K hK => ?_) (fun K hK => ?_)
    ·skip
     refine goes_ Try.func37 (by kernel_rfl) rfl #[.agg #[(.slice Ad0 d0.length cd0), (.slice Ad1 d1.length cd1)], .slice Al z1.length cl] (by rfl) rfl rfl (by (try simp only [List.map_toArray, List.map_cons, List.map_nil]); first | done | rfl | (simp only [List.length_drop, List.length_take]; rfl)) ?_
     refine (HC37.out _ hE).mono ?_
     rintro e W_ ⟨B0, c0_, B1, c1_, f, vs, rfl, hD, hb_⟩
     refine ⟨_, rfl, ?_⟩
     replace hD := hD.mono (ok' := fun k => wa.heap.size ≤ k) (base' := wa.heap.size) (fun k h1 _ _ => Nat.le_trans hw.size h1) hw.size
     replace hE := HL_.out _ _ hE (Kept.of_below hb_ _) (below_step (HBe.out _ hE) hb_)
     replace hw := below_step hw hb_
     clear hb_
     refine hK.out _ _ hE (fun hHeld => ?_)
     clear hK K
     refine norm_ (a' := ?_) ?_ ?_
     rotate_left
     ·show Act.put _ (some 68) _ = _
      simp only [putAll, Act.put, List.setIfInBounds_toArray, List.set_cons_zero, List.set_cons_succ, i64_w, i32_w]
      rfl
     refine pure_ (i := 5) (N := some 63) (v := ?_) (a' := ?_) #[true, true, true, true, true, true, false, false, false, false, false] rfl rfl (any_of HT_.out (by kernel_rfl)) (fun _ _ _ h => h) (Or.inl ⟨by rfl, ?_⟩) ?_ ?_
     rotate_left
     ·intro w'
      go_simp
      with_reducible rfl
     rotate_left
     ·simp only [putAll, Act.put, List.setIfInBounds_toArray, List.set_cons_zero, List.set_cons_succ, i64_w, i32_w]
      rfl
     refine pure_ (i := 6) (N := some 69) (v := ?_) (a' := ?_) #[true, true, true, true, true, true, true, false, false, false, false] rfl rfl (any_of HT_.out (by kernel_rfl)) (fun _ _ _ h => h) (Or.inl ⟨by rfl, ?_⟩) ?_ ?_
     rotate_left
     ·intro w'
      go_simp
      with_reducible rfl
     rotate_left
     ·simp only [putAll, Act.put, List.setIfInBounds_toArray, List.set_cons_zero, List.set_cons_succ, i64_w, i32_w]
      rfl
     refine pure_ (i := 7) (N := some 70) (v := ?_) (a' := ?_) #[true, true, true, true, true, true, true, true, false, false, false] rfl rfl (any_of HT_.out (by kernel_rfl)) (fun _ _ _ h => h) (Or.inl ⟨by rfl, ?_⟩) ?_ ?_
     rotate_left
     ·intro w'
      go_simp
      with_reducible rfl
     rotate_left
     ·simp only [putAll, Act.put, List.setIfInBounds_toArray, List.set_cons_zero, List.set_cons_succ, i64_w, i32_w]
      rfl
     refine one_ (i := 8) (N := some 10) #[true, true, true, true, true, true, true, true, true, false, false] rfl rfl (one_of HT_.out (by kernel_rfl)) (by decide) (fun K hK => ?_)
     refine box_step ?hg (N := 10) ?hd (cs := #[.slice none 0 0, .slice none 0 0]) (t := 27) ?hr ?_; (case hd => rfl); (case hg => rfl); (case hr => first | (go_simp; done) | (go_simp; rfl))
     intro g hg W_ hbox hb_
     have hgl : wa.heap.size ≤ g := by rw [hg]; exact hw.size
     replace hD := (hD.mono (ok' := fun k => k ≠ g ∧ wa.heap.size ≤ k) (fun k h1 h2 _ => ⟨by omega, h1⟩) (Nat.le_refl _)).below hb_
     replace hE := HL_.out _ _ hE (Kept.of_below hb_ _) (below_step (HBe.out _ hE) hb_)
     replace hw := below_step hw hb_
     clear hb_ hg
     refine hK.out _ _ hE (fun hHeld => ?_)
     clear hK K
     refine norm_ (a' := ?_) ?_ ?_
     rotate_left
     ·show Act.put _ (some 10) _ = _
      simp only [putAll, Act.put, List.setIfInBounds_toArray, List.set_cons_zero, List.set_cons_succ, i64_w, i32_w]
      rfl
     exact norm_ (by simp only [putAll, Act.put, List.setIfInBounds_toArray, List.set_cons_zero, List.set_cons_succ, i64_w, i32_w]) (hCont (.slice B0 a0.length c0_, .slice B1 a1.length c1_, g) _ ⟨hE, hbox, hgl, ⟨B0, c0_, B1, c1_, f, vs, rfl, rfl, hD⟩, hw⟩)
    ·skip
     refine box_step ?hg (N := 10) ?hd (cs := #[.slice none 0 0, .slice none 0 0]) (t := 27) ?hr ?_; (case hd => rfl); (case hg => rfl); (case hr => first | (go_simp; done) | (go_simp; rfl))
     intro g hg W_ hbox hb_
     have hgl : wa.heap.size ≤ g := by rw [hg]; exact hw.size
     replace hE := HL_.out _ _ hE (Kept.of_below hb_ _) (below_step (HBe.out _ hE) hb_)
     replace hw := below_step hw hb_
     clear hb_ hg
     refine hK.out _ _ hE (fun hHeld => ?_)
     clear hK K
     refine norm_ (a' := ?_) ?_ ?_
     rotate_left
     ·show Act.put _ (some 10) _ = _
      simp only [putAll, Act.put, List.setIfInBounds_toArray, List.set_cons_zero, List.set_cons_succ, i64_w, i32_w]
      rfl
     refine one_ (i := 4) (N := some 68) #[true, true, true, true, true, false, false, false, true, false, false] rfl rfl (one_of HT_.out (by kernel_rfl)) (by decide) (fun K hK => ?_)
     refine goes_ Try.func37 (by kernel_rfl) rfl #[.agg #[(.slice Ad0 d0.length cd0), (.slice Ad1 d1.length cd1)], .slice Al z1.length cl] (by rfl) rfl rfl (by (try simp only [List.map_toArray, List.map_cons, List.map_nil]); first | done | rfl | (simp only [List.length_drop, List.length_take]; rfl)) ?_
     refine (HC37.out _ hE).mono ?_
     rintro e W_ ⟨B0, c0_, B1, c1_, f, vs, rfl, hD, hb_⟩
     refine ⟨_, rfl, ?_⟩
     replace hD := hD.mono (ok' := fun k => k ≠ g ∧ wa.heap.size ≤ k) (base' := wa.heap.size) (fun k h1 _ _ => ⟨by have := blk_lt hbox; omega, Nat.le_trans hw.size h1⟩) hw.size
     replace hbox := (hb_.block _ (blk_lt hbox)).trans hbox
     replace hE := HL_.out _ _ hE (Kept.of_below hb_ _) (below_step (HBe.out _ hE) hb_)
     replace hw := below_step hw hb_
     clear hb_
     refine hK.out _ _ hE (fun hHeld => ?_)
     clear hK K
     refine norm_ (a' := ?_) ?_ ?_
     rotate_left
     ·show Act.put _ (some 68) _ = _
      simp only [putAll, Act.put, List.setIfInBounds_toArray, List.set_cons_zero, List.set_cons_succ, i64_w, i32_w]
      rfl
     refine pure_ (i := 5) (N := some 63) (v := ?_) (a' := ?_) #[true, true, true, true, true, true, false, false, true, false, false] rfl rfl (any_of HT_.out (by kernel_rfl)) (fun _ _ _ h => h) (Or.inl ⟨by rfl, ?_⟩) ?_ ?_
     rotate_left
     ·intro w'
      go_simp
      with_reducible rfl
     rotate_left
     ·simp only [putAll, Act.put, List.setIfInBounds_toArray, List.set_cons_zero, List.set_cons_succ, i64_w, i32_w]
      rfl
     refine pure_ (i := 6) (N := some 69) (v := ?_) (a' := ?_) #[true, true, true, true, true, true, true, false, true, false, false] rfl rfl (any_of HT_.out (by kernel_rfl)) (fun _ _ _ h => h) (Or.inl ⟨by rfl, ?_⟩) ?_ ?_
     rotate_left
     ·intro w'
      go_simp
      with_reducible rfl
     rotate_left
     ·simp only [putAll, Act.put, List.setIfInBounds_toArray, List.set_cons_zero, List.set_cons_succ, i64_w, i32_w]
      rfl
     refine pure_ (i := 7) (N := some 70) (v := ?_) (a' := ?_) #[true, true, true, true, true, true, true, true, true, false, false] rfl rfl (any_of HT_.out (by kernel_rfl)) (fun _ _ _ h => h) (Or.inl ⟨by rfl, ?_⟩) ?_ ?_
     rotate_left
     ·intro w'
      go_simp
      with_reducible rfl
     rotate_left
     ·simp only [putAll, Act.put, List.setIfInBounds_toArray, List.set_cons_zero, List.set_cons_succ, i64_w, i32_w]
      rfl
     exact norm_ (by simp only [putAll, Act.put, List.setIfInBounds_toArray, List.set_cons_zero, List.set_cons_succ, i64_w, i32_w]) (hCont (.slice B0 a0.length c0_, .slice B1 a1.length c1_, g) _ ⟨hE, hbox, hgl, ⟨B0, c0_, B1, c1_, f, vs, rfl, rfl, hD⟩, hw⟩)
   clear hE hw hHeld
   rintro ⟨u0, u1, ga⟩ W ⟨hE, hbox, hgl, hex, hw⟩
   dsimp only at hbox hgl hex
   obtain ⟨Aa0, ca0, Aa1, ca1, fa, va, rfl, rfl, hD⟩ := hex
   have HHE := Aside0.mk hE
   have HVD := Aside0.mk hD
   have HGL := Aside0.mk hgl
   clear hE hD hw hgl
   refine norm_ (a' := ?_) ?_ ?_
   rotate_left
   ·simp only [putAll, Act.put, List.setIfInBounds_toArray, List.set_cons_zero, List.set_cons_succ]
    rfl
   refine one_ (i := 9) (N := none) #[true, true, true, true, true, true, true, true, true, true, false] rfl rfl (one_of HT_.out (by kernel_rfl)) (by decide) (fun K hK => ?_)
   have hs0 : W.cell? ⟨ga, 0, none⟩ = some (.slice none 0 0) := (blk_cell hbox 0).trans rfl
   have hs1 : W.cell? ⟨ga, 1, none⟩ = some (.slice none 0 0) := (blk_cell hbox 1).trans rfl
   have hf0 := blk_frozen hbox 0
   have hf1 := blk_frozen hbox 1
   have HHB := Aside0.mk hbox
   clear hbox
   refine skip_ (w1 := ?_) (by rfl) rfl ?_ ?_
   rotate_left
   ·go_simp
    rfl
   have hE := HL_.out _ _ HHE.out (Kept.setCell (Kept.setCell (Kept.refl W _) (p := ⟨ga, 0, none⟩) (.inl HGL.out) (.slice Aa0 a0.length ca0)) (p := ⟨ga, 1, none⟩) (.inl HGL.out) (.slice Aa1 a1.length ca1)) (below_set (below_set (HBe.out _ HHE.out) HGL.out) HGL.out)
   refine hK.out _ _ hE (fun hHeld => ?_)
   clear hK K hHeld hs0 hs1 hf0 hf1
   refine pure_ (i := 10) (N := some 11) (v := ?_) (a' := ?_) #[true, true, true, true, true, true, true, true, true, true, true] rfl rfl (any_of HT_.out (by kernel_rfl)) (fun _ _ _ h => h) (Or.inl ⟨by rfl, ?_⟩) ?_ ?_
   rotate_left
   ·intro w'
    go_simp
    with_reducible rfl
   rotate_left
   ·simp only [putAll, Act.put, List.setIfInBounds_toArray, List.set_cons_zero, List.set_cons_succ, i64_w, i32_w]
    rfl
   refine done_ (done_of HT_.out (by kernel_rfl)) ?_
   have A9 := Aside0.mk (RDesk.put HHB.out HVD.out)
   have hb := HOu.out _ hE
   have D9 := Aside0.mk (Dz.out.below hb)
   have Q9 := Aside0.mk (Kd.C_below Qz.out hb)
   have B9 := Aside0.mk (below_step Bz.out hb)
   have X9 := Aside0.mk (Xz.out.below hb)
   clear HT_ HW_ HC37 HHE HHB HVD HL_ HBe HCe HOu hE hb HGL Dz Qz Bz Xz
   generalize (W.setCell ⟨ga, 0, none⟩ (.slice Aa0 a0.length ca0)).setCell ⟨ga, 1, none⟩ (.slice Aa1 a1.length ca1) = w9 at A9 D9 Q9 B9 X9 ⊢
   clear W wa
   clear hcut1
   go_wp2_with (fail)
   have hb0_ := below_drew1 (Below.refl w9.heap.size w9)
   have Dz := Aside0.mk (D9.out.below hb0_)
   have Qz := Aside0.mk (Kd.C_below Q9.out hb0_)
   have Bz := Aside0.mk (below_step B9.out hb0_)
   have Xz := Aside0.mk (X9.out.below hb0_)
   have Az := Aside0.mk (A9.out.below hb0_)
   clear hb0_ D9 Q9 B9 X9 A9
   have HCEL := Aside0.mk (show ∀ W, Below w9.drew.heap.size w9.drew W → W.cell? ⟨ga, 0, none⟩ = some (.slice Aa0 a0.length ca0) ∧ W.cell? ⟨ga, 1, none⟩ = some (.slice Aa1 a1.length ca1) from fun W hW => ⟨(blk_cell (Az.out.below hW).b 0).trans rfl, (blk_cell (Az.out.below hW).b 1).trans rfl⟩)
   obtain ⟨ENV, hE, HL_, HBe, HCe, HOu⟩ : ∃ ENV : World → Prop, ENV w9.drew ∧ Aside0 (∀ W W', ENV W → Kept W W' (fun k => w9.drew.heap.size ≤ k) → Below w9.drew.heap.size w9.drew W' → ENV W') ∧ Aside0 (∀ W, ENV W → Below w9.drew.heap.size w9.drew W) ∧ Aside0 (∀ W, ENV W → W.cell? ⟨ga, 0, none⟩ = some (.slice Aa0 a0.length ca0) ∧ W.cell? ⟨ga, 1, none⟩ = some (.slice Aa1 a1.length ca1)) ∧ Aside0 (∀ W, ENV W → Below w9.drew.heap.size w9.drew W) :=
    ⟨fun W => Below w9.drew.heap.size w9.drew W, Below.refl _ _, ⟨fun W W' _ _ hb => hb⟩, ⟨fun W h => h⟩, HCEL, ⟨fun W h => h⟩⟩
   clear HCEL
   refine start_ (n := 11) (S := ENV) (ds := []) #[false, false, false, false, false, false, false, false, false, false, false] (by kernel_rfl) rfl rfl hE (fun hHeld => ?_); refine with_tabW laws_FnDeskRun.tab12 laws_FnDeskRun.bits12 (fun HT_ HW_ => ?_)
   clear hE
   have hE := hHeld
   generalize w9.drew = wa at hE HL_ HBe HOu hHeld Dz Qz Bz Xz Az ⊢
   have hw : Below wa.heap.size wa wa := Below.refl _ _
   have HC37 : Aside0 (∀ W, ENV W → Calls Try.prog 37 #[.agg #[(.slice Aa0 a0.length ca0), (.slice Aa1 a1.length ca1)], .slice A2 z2.length c2] W fun e W' => ∃ (A0_ : Option Addr) (c0_ : Nat) (A1_ : Option Addr) (c1_ : Nat) (f_ : Nat → Nat) (vs_ : List Value), e = .returned (.tuple #[.agg #[.slice A0_ e0.length c0_, .slice A1_ e1.length c1_], .int .i64 q]) ∧ DOwn W' W.heap.size (fun k_ => W.heap.size ≤ k_) A0_ c0_ e0 A1_ c1_ e1 f_ vs_ ∧ Below W.heap.size W W') := ⟨fun W h => by have d := Az.out.below (HOu.out _ h); exact impl_DeskRun.calls k _ _ a0 _ _ a1 _ _ z2 e0 e1 q W d.r0 d.h0 d.r1 d.h1 (HZ2.out _ (Kd.C_below Qz.out (HOu.out _ h))) HL2.out HE.out⟩
   refine take_ (i := 0) (N := some 72) (v := ?_) (a' := ?_) #[true, false, false, false, false, false, false, false, false, false, false] rfl rfl (take_ofW HT_.out HW_.out (by kernel_rfl)) (fun _ _ _ h => h) (Or.inl ⟨by rfl, ?_⟩) hHeld ?_ ?_
   rotate_left
   ·intro w' hE_
    obtain ⟨t0_, t1_⟩ := HCe.out w' hE_
    go_simp
    with_reducible rfl
   rotate_left
   ·simp only [putAll, Act.put, List.setIfInBounds_toArray, List.set_cons_zero, List.set_cons_succ, i64_w, i32_w]
    rfl
   refine pure_ (i := 1) (N := some 73) (v := ?_) (a' := ?_) #[true, true, false, false, false, false, false, false, false, false, false] rfl rfl (any_of HT_.out (by kernel_rfl)) (fun _ _ _ h => h) (Or.inl ⟨by rfl, ?_⟩) ?_ ?_
   rotate_left
   ·intro w'
    go_simp
    with_reducible rfl
   rotate_left
   ·simp only [putAll, Act.put, List.setIfInBounds_toArray, List.set_cons_zero, List.set_cons_succ, i64_w, i32_w]
    rfl
   refine pure_ (i := 2) (N := some 74) (v := ?_) (a' := ?_) #[true, true, true, false, false, false, false, false, false, false, false] rfl rfl (any_of HT_.out (by kernel_rfl)) (fun _ _ _ h => h) (Or.inl ⟨by rfl, ?_⟩) ?_ ?_
   rotate_left
   ·intro w'
    go_simp
    with_reducible rfl
   rotate_left
   ·simp only [putAll, Act.put, List.setIfInBounds_toArray, List.set_cons_zero, List.set_cons_succ, i64_w, i32_w]
    rfl
   refine pure_ (i := 3) (N := some 75) (v := ?_) (a' := ?_) #[true, true, true, true, false, false, false, false, false, false, false] rfl rfl (any_of HT_.out (by kernel_rfl)) (fun _ _ _ h => h) (Or.inl ⟨by rfl, ?_⟩) ?_ ?_
   rotate_left
   ·intro w'
    go_simp
    with_reducible rfl
   rotate_left
   ·simp only [putAll, Act.put, List.setIfInBounds_toArray, List.set_cons_zero, List.set_cons_succ, i64_w, i32_w]
    rfl
   refine join_ (σ := Value × Value × Nat) 2 #[true, true, true, true, true, true, true, true, true, false, false] (fun s_ => [(76, .tuple #[.agg #[s_.1, s_.2.1], .int .i64 q]), (12, .pointer (some ⟨s_.2.2, 0, none⟩)), (71, .tuple #[.agg #[s_.1, s_.2.1], .int .i64 q]), (77, .agg #[s_.1, s_.2.1]), (78, .int .i64 q)]) (fun s_ W => ENV W ∧ W.heap[s_.2.2]? = some (.cells #[.slice none 0 0, .slice none 0 0] 27 (0, 0)) ∧ wa.heap.size ≤ s_.2.2 ∧ (∃ (A0 : Option Addr) (c0 : Nat) (A1 : Option Addr) (c1 : Nat) (f : Nat → Nat) (vs : List Value), s_.1 = .slice A0 e0.length c0 ∧ s_.2.1 = .slice A1 e1.length c1 ∧ DOwn W wa.heap.size (fun k => k ≠ s_.2.2 ∧ wa.heap.size ≤ k) A0 c0 e0 A1 c1 e1 f vs) ∧ Below wa.heap.size wa W) ?_ ?_
   rotate_left
   ·intro hCont
    refine two_ (i := 4) (j := 8) (Ni := some 76) (Nj := some 12) #[true, true, true, true, true, false, false, false, false, false, false] #[true, true, true, true, false, false, false, false, true, false, false] rfl rfl rfl rfl (two_of HT_.out (by kernel_rfl)) (by decide) (by decide) (fun K hK => ?_) (fun K hK => ?_)
    ·skip
     refine goes_ Try.func37 (by kernel_rfl) rfl #[.agg #[(.slice Aa0 a0.length ca0), (.slice Aa1 a1.length ca1)], .slice A2 z2.length c2] (by rfl) rfl rfl (by (try simp only [List.map_toArray, List.map_cons, List.map_nil]); first | done | rfl | (simp only [List.length_drop, List.length_take]; rfl)) ?_
     refine (HC37.out _ hE).mono ?_
     rintro e W_ ⟨B0, c0_, B1, c1_, f, vs, rfl, hD, hb_⟩
     refine ⟨_, rfl, ?_⟩
     replace hD := hD.mono (ok' := fun k => wa.heap.size ≤ k) (base' := wa.heap.size) (fun k h1 _ _ => Nat.le_trans hw.size h1) hw.size
     replace hE := HL_.out _ _ hE (Kept.of_below hb_ _) (below_step (HBe.out _ hE) hb_)
     replace hw := below_step hw hb_
     clear hb_
     refine hK.out _ _ hE (fun hHeld => ?_)
     clear hK K
     refine norm_ (a' := ?_) ?_ ?_
     rotate_left
     ·show Act.put _ (some 76) _ = _
      simp only [putAll, Act.put, List.setIfInBounds_toArray, List.set_cons_zero, List.set_cons_succ, i64_w, i32_w]
      rfl
     refine pure_ (i := 5) (N := some 71) (v := ?_) (a' := ?_) #[true, true, true, true, true, true, false, false, false, false, false] rfl rfl (any_of HT_.out (by kernel_rfl)) (fun _ _ _ h => h) (Or.inl ⟨by rfl, ?_⟩) ?_ ?_
     rotate_left
     ·intro w'
      go_simp
      with_reducible rfl
     rotate_left
     ·simp only [putAll, Act.put, List.setIfInBounds_toArray, List.set_cons_zero, List.set_cons_succ, i64_w, i32_w]
      rfl
     refine pure_ (i := 6) (N := some 77) (v := ?_) (a' := ?_) #[true, true, true, true, true, true, true, false, false, false, false] rfl rfl (any_of HT_.out (by kernel_rfl)) (fun _ _ _ h => h) (Or.inl ⟨by rfl, ?_⟩) ?_ ?_
     rotate_left
     ·intro w'
      go_simp
      with_reducible rfl
     rotate_left
     ·simp only [putAll, Act.put, List.setIfInBounds_toArray, List.set_cons_zero, List.set_cons_succ, i64_w, i32_w]
      rfl
     refine pure_ (i := 7) (N := some 78) (v := ?_) (a' := ?_) #[true, true, true, true, true, true, true, true, false, false, false] rfl rfl (any_of HT_.out (by kernel_rfl)) (fun _ _ _ h => h) (Or.inl ⟨by rfl, ?_⟩) ?_ ?_
     rotate_left
     ·intro w'
      go_simp
      with_reducible rfl
     rotate_left
     ·simp only [putAll, Act.put, List.setIfInBounds_toArray, List.set_cons_zero, List.set_cons_succ, i64_w, i32_w]
      rfl
     refine one_ (i := 8) (N := some 12) #[true, true, true, true, true, true, true, true, true, false, false] rfl rfl (one_of HT_.out (by kernel_rfl)) (by decide) (fun K hK => ?_)
     refine box_step ?hg (N := 12) ?hd (cs := #[.slice none 0 0, .slice none 0 0]) (t := 27) ?hr ?_; (case hd => rfl); (case hg => rfl); (case hr => first | (go_simp; done) | (go_simp; rfl))
     intro g hg W_ hbox hb_
     have hgl : wa.heap.size ≤ g := by rw [hg]; exact hw.size
     replace hD := (hD.mono (ok' := fun k => k ≠ g ∧ wa.heap.size ≤ k) (fun k h1 h2 _ => ⟨by omega, h1⟩) (Nat.le_refl _)).below hb_
     replace hE := HL_.out _ _ hE (Kept.of_below hb_ _) (below_step (HBe.out _ hE) hb_)
     replace hw := below_step hw hb_
     clear hb_ hg
     refine hK.out _ _ hE (fun hHeld => ?_)
     clear hK K
     refine norm_ (a' := ?_) ?_ ?_
     rotate_left
     ·show Act.put _ (some 12) _ = _
      simp only [putAll, Act.put, List.setIfInBounds_toArray, List.set_cons_zero, List.set_cons_succ, i64_w, i32_w]
      rfl
     exact norm_ (by simp only [putAll, Act.put, List.setIfInBounds_toArray, List.set_cons_zero, List.set_cons_succ, i64_w, i32_w]) (hCont (.slice B0 e0.length c0_, .slice B1 e1.length c1_, g) _ ⟨hE, hbox, hgl, ⟨B0, c0_, B1, c1_, f, vs, rfl, rfl, hD⟩, hw⟩)
    ·skip
     refine box_step ?hg (N := 12) ?hd (cs := #[.slice none 0 0, .slice none 0 0]) (t := 27) ?hr ?_; (case hd => rfl); (case hg => rfl); (case hr => first | (go_simp; done) | (go_simp; rfl))
     intro g hg W_ hbox hb_
     have hgl : wa.heap.size ≤ g := by rw [hg]; exact hw.size
     replace hE := HL_.out _ _ hE (Kept.of_below hb_ _) (below_step (HBe.out _ hE) hb_)
     replace hw := below_step hw hb_
     clear hb_ hg
     refine hK.out _ _ hE (fun hHeld => ?_)
     clear hK K
     refine norm_ (a' := ?_) ?_ ?_
     rotate_left
     ·show Act.put _ (some 12) _ = _
      simp only [putAll, Act.put, List.setIfInBounds_toArray, List.set_cons_zero, List.set_cons_succ, i64_w, i32_w]
      rfl
     refine one_ (i := 4) (N := some 76) #[true, true, true, true, true, false, false, false, true, false, false] rfl rfl (one_of HT_.out (by kernel_rfl)) (by decide) (fun K hK => ?_)
     refine goes_ Try.func37 (by kernel_rfl) rfl #[.agg #[(.slice Aa0 a0.length ca0), (.slice Aa1 a1.length ca1)], .slice A2 z2.length c2] (by rfl) rfl rfl (by (try simp only [List.map_toArray, List.map_cons, List.map_nil]); first | done | rfl | (simp only [List.length_drop, List.length_take]; rfl)) ?_
     refine (HC37.out _ hE).mono ?_
     rintro e W_ ⟨B0, c0_, B1, c1_, f, vs, rfl, hD, hb_⟩
     refine ⟨_, rfl, ?_⟩
     replace hD := hD.mono (ok' := fun k => k ≠ g ∧ wa.heap.size ≤ k) (base' := wa.heap.size) (fun k h1 _ _ => ⟨by have := blk_lt hbox; omega, Nat.le_trans hw.size h1⟩) hw.size
     replace hbox := (hb_.block _ (blk_lt hbox)).trans hbox
     replace hE := HL_.out _ _ hE (Kept.of_below hb_ _) (below_step (HBe.out _ hE) hb_)
     replace hw := below_step hw hb_
     clear hb_
     refine hK.out _ _ hE (fun hHeld => ?_)
     clear hK K
     refine norm_ (a' := ?_) ?_ ?_
     rotate_left
     ·show Act.put _ (some 76) _ = _
      simp only [putAll, Act.put, List.setIfInBounds_toArray, List.set_cons_zero, List.set_cons_succ, i64_w, i32_w]
      rfl
     refine pure_ (i := 5) (N := some 71) (v := ?_) (a' := ?_) #[true, true, true, true, true, true, false, false, true, false, false] rfl rfl (any_of HT_.out (by kernel_rfl)) (fun _ _ _ h => h) (Or.inl ⟨by rfl, ?_⟩) ?_ ?_
     rotate_left
     ·intro w'
      go_simp
      with_reducible rfl
     rotate_left
     ·simp only [putAll, Act.put, List.setIfInBounds_toArray, List.set_cons_zero, List.set_cons_succ, i64_w, i32_w]
      rfl
     refine pure_ (i := 6) (N := some 77) (v := ?_) (a' := ?_) #[true, true, true, true, true, true, true, false, true, false, false] rfl rfl (any_of HT_.out (by kernel_rfl)) (fun _ _ _ h => h) (Or.inl ⟨by rfl, ?_⟩) ?_ ?_
     rotate_left
     ·intro w'
      go_simp
      with_reducible rfl
     rotate_left
     ·simp only [putAll, Act.put, List.setIfInBounds_toArray, List.set_cons_zero, List.set_cons_succ, i64_w, i32_w]
      rfl
     refine pure_ (i := 7) (N := some 78) (v := ?_) (a' := ?_) #[true, true, true, true, true, true, true, true, true, false, false] rfl rfl (any_of HT_.out (by kernel_rfl)) (fun _ _ _ h => h) (Or.inl ⟨by rfl, ?_⟩) ?_ ?_
     rotate_left
     ·intro w'
      go_simp
      with_reducible rfl
     rotate_left
     ·simp only [putAll, Act.put, List.setIfInBounds_toArray, List.set_cons_zero, List.set_cons_succ, i64_w, i32_w]
      rfl
     exact norm_ (by simp only [putAll, Act.put, List.setIfInBounds_toArray, List.set_cons_zero, List.set_cons_succ, i64_w, i32_w]) (hCont (.slice B0 e0.length c0_, .slice B1 e1.length c1_, g) _ ⟨hE, hbox, hgl, ⟨B0, c0_, B1, c1_, f, vs, rfl, rfl, hD⟩, hw⟩)
   clear hE hw hHeld
   rintro ⟨u0, u1, ge⟩ W ⟨hE, hbox, hgl, hex, hw⟩
   dsimp only at hbox hgl hex
   obtain ⟨Ae0, ce0, Ae1, ce1, fe, ve, rfl, rfl, hD⟩ := hex
   have HHE := Aside0.mk hE
   have HVD := Aside0.mk hD
   have HGL := Aside0.mk hgl
   clear hE hD hw hgl
   refine norm_ (a' := ?_) ?_ ?_
   rotate_left
   ·simp only [putAll, Act.put, List.setIfInBounds_toArray, List.set_cons_zero, List.set_cons_succ]
    rfl
   refine one_ (i := 9) (N := none) #[true, true, true, true, true, true, true, true, true, true, false] rfl rfl (one_of HT_.out (by kernel_rfl)) (by decide) (fun K hK => ?_)
   have hs0 : W.cell? ⟨ge, 0, none⟩ = some (.slice none 0 0) := (blk_cell hbox 0).trans rfl
   have hs1 : W.cell? ⟨ge, 1, none⟩ = some (.slice none 0 0) := (blk_cell hbox 1).trans rfl
   have hf0 := blk_frozen hbox 0
   have hf1 := blk_frozen hbox 1
   have HHB := Aside0.mk hbox
   clear hbox
   refine skip_ (w1 := ?_) (by rfl) rfl ?_ ?_
   rotate_left
   ·go_simp
    rfl
   have hE := HL_.out _ _ HHE.out (Kept.setCell (Kept.setCell (Kept.refl W _) (p := ⟨ge, 0, none⟩) (.inl HGL.out) (.slice Ae0 e0.length ce0)) (p := ⟨ge, 1, none⟩) (.inl HGL.out) (.slice Ae1 e1.length ce1)) (below_set (below_set (HBe.out _ HHE.out) HGL.out) HGL.out)
   refine hK.out _ _ hE (fun hHeld => ?_)
   clear hK K hHeld hs0 hs1 hf0 hf1
   refine pure_ (i := 10) (N := some 13) (v := ?_) (a' := ?_) #[true, true, true, true, true, true, true, true, true, true, true] rfl rfl (any_of HT_.out (by kernel_rfl)) (fun _ _ _ h => h) (Or.inl ⟨by rfl, ?_⟩) ?_ ?_
   rotate_left
   ·intro w'
    go_simp
    with_reducible rfl
   rotate_left
   ·simp only [putAll, Act.put, List.setIfInBounds_toArray, List.set_cons_zero, List.set_cons_succ, i64_w, i32_w]
    rfl
   refine done_ (done_of HT_.out (by kernel_rfl)) ?_
   have E10 := Aside0.mk (RDesk.put HHB.out HVD.out)
   have hb := HOu.out _ hE
   have D10 := Aside0.mk (Dz.out.below hb)
   have Q10 := Aside0.mk (Kd.C_below Qz.out hb)
   have B10 := Aside0.mk (below_step Bz.out hb)
   have X10 := Aside0.mk (Xz.out.below hb)
   have A10 := Aside0.mk (Az.out.below hb)
   clear HT_ HW_ HC37 HHE HHB HVD HL_ HBe HCe HOu hE hb HGL Dz Qz Bz Xz Az
   generalize (W.setCell ⟨ge, 0, none⟩ (.slice Ae0 e0.length ce0)).setCell ⟨ge, 1, none⟩ (.slice Ae1 e1.length ce1) = w10 at E10 D10 Q10 B10 X10 A10 ⊢
   clear W wa
   clear hcut2 D10 Q10 A10
   have hx0 : w10.cell? ⟨gx, 0, none⟩ = some (.slice Ax0 x0.length cx0) := (blk_cell X10.out.b 0).trans rfl
   have hx1 : w10.cell? ⟨gx, 1, none⟩ = some (.slice Ax1 x1.length cx1) := (blk_cell X10.out.b 1).trans rfl
   go_wp2_with (fail)
   refine (impl_DeskOk.calls k _ _ x0 _ _ x1 true _ X10.out.r0 X10.out.h0 X10.out.r1 X10.out.h1 HK.out).mono ?_
   rintro e w11 ⟨rfl, hb⟩
   clear hx0 hx1
   have B11 := Aside0.mk (below_step B10.out hb)
   have X11 := Aside0.mk (X10.out.below hb)
   have E11 := Aside0.mk (E10.out.below hb)
   clear B10 X10 E10
   clear hb
   have hx0 : w11.cell? ⟨gx, 0, none⟩ = some (.slice Ax0 x0.length cx0) := (blk_cell X11.out.b 0).trans rfl
   have hx1 : w11.cell? ⟨gx, 1, none⟩ = some (.slice Ax1 x1.length cx1) := (blk_cell X11.out.b 1).trans rfl
   have he0 : w11.cell? ⟨ge, 0, none⟩ = some (.slice Ae0 e0.length ce0) := (blk_cell E11.out.b 0).trans rfl
   have he1 : w11.cell? ⟨ge, 1, none⟩ = some (.slice Ae1 e1.length ce1) := (blk_cell E11.out.b 1).trans rfl
   go_wp2_with (fail)
   refine (laws_sameDesk.calls k _ _ e0 _ _ e1 _ _ x0 _ _ x1 true _ E11.out.r0 E11.out.h0 E11.out.r1 E11.out.h1 X11.out.r0 X11.out.h0 X11.out.r1 X11.out.h1 HS2.out).mono ?_
   rintro e w12 ⟨rfl, hb⟩
   clear hx0 hx1 he0 he1
   have B12 := Aside0.mk (below_step B11.out hb)
   clear hb
   have pq := HPQ.out
   go_wp2_with (fail)
   refine (laws_alive.calls k r _ HAL.out).mono ?_
   rintro e w13 ⟨rfl, hb⟩
   have B13 := Aside0.mk (below_step B12.out hb)
   clear hb
   go_wp2
   go_ret
   exact ⟨rfl, B13.out⟩
/-- THE ONE PURE STATEMENT of laws_FnDeskRun: yours. -/
def laws_FnDeskRun.Pure : Prop := ∀ (l0 : List Int), l0.length ≤ maxLen → l0.length * 1 ≤ 140737488351232 → (∀ x ∈ l0, (Lit.int .u8 x).wf = true) → ∃ k, laws_FnDeskRun.f k l0 = some true
theorem laws_FnDeskRun.walk (P : laws_FnDeskRun.Pure) (a0 : Option Addr) (len0 cap0 : Nat) (z0 : List Int) (w : World) (w0 : (a0 = none ∧ len0 = 0 ∧ cap0 = 0 ∧ z0 = []) ∨ ∃ x, a0 = some x ∧ len0 ≤ cap0 ∧ cap0 ≤ maxLen ∧ z0.length = cap0 ∧ (∀ i, i < z0.length → w.cell? (x.add i) = some (.int .u8 (z0.getD i 0))) ∧ ∀ n ∈ z0, (Lit.int .u8 n).wf = true) (y0 : len0 * 1 ≤ 140737488351232) :
 Calls Try.prog 9 #[.slice a0 len0 cap0] w fun e w' => e = .returned (.bool true) ∧ Below w.heap.size w w' := by
 obtain ⟨l0, rfl, hr0, hm0, hw0, hc0⟩ := ReadsInt.ofRowC w0
 obtain ⟨k, h⟩ := P l0 hm0 y0 hw0
 refine (laws_FnDeskRun.calls k _ _ l0 true w (Kd.C_of_reads (d := (0 : Int)) (h1 := fun _ => rfl) hr0) hc0 h).mono ?_
 rintro e w' ⟨rfl, hd⟩
 exact ⟨rfl, hd⟩

end Go.Proofs.Ytocnifoohecmeaa.PFnDeskRun
