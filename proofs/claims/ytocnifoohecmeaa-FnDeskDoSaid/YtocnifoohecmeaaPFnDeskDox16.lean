-- Printed by this claim's own program; Lean checks it.
import Derived.Test.YtocnifoohecmeaaPFnDeskDox0
import Derived.Test.YtocnifoohecmeaaPFnDeskDox3
import Derived.Test.YtocnifoohecmeaaPFnDeskDox4
import Derived.Test.YtocnifoohecmeaaPFnDeskDox9
import Derived.Test.YtocnifoohecmeaaPFnDeskDox13
import Derived.Test.YtocnifoohecmeaaPFnDeskDox15
namespace Go.Proofs.Ytocnifoohecmeaa.PFnDeskDo
open Go.RowKit Go.Proofs.YtocnifoohecmeaaW.PrintWords Go.Proofs.YtocnifoohecmeaaW.PrintLast Go.Proofs.YtocnifoohecmeaaW.PrintMore
attribute [local go_sem] max2_int min2_int max_two min_two max_three min_three max_four min_four   -- for this text's walks alone
set_option linter.unusedVariables false
set_option linter.unusedSimpArgs false

/-! ### laws_FnDeskDo: function 7 -/
def laws_FnDeskDo.f (k : Nat) (l0 : List Int) : Option Bool := if (l0.length : Int) > 1048576 then some true else
  (spec_DrawDeskDo.f k l0).bind fun D => (impl_DeskDo.f k D.1 D.2.1 D.2.2.1 D.2.2.2.1 D.2.2.2.2).bind fun X => (spec_DeskDo.f k D.1 D.2.1 D.2.2.1 D.2.2.2.1 D.2.2.2.2).bind fun Y => (laws_sameDesk.f k X.1 X.2.1 Y.1 Y.2.1).bind fun s => if s = true ∧ X.2.2 = Y.2.2 then
    (if X.2.2 = false then (laws_sameDesk.f k X.1 X.2.1 D.1 D.2.1).bind fun s2 => (if s2 = true then laws_alive.f k else (impl_DeskOk.f k D.1 D.2.1).bind fun o => if o = false then laws_alive.f k else none)
    else (impl_DeskDo.f k X.1 X.2.1 4 0 0).bind fun B => (impl_NeedOf.f k D.1).bind fun n => (impl_NeedOf.f k X.1).bind fun m => (impl_DeskOk.f k X.1 X.2.1).bind fun o =>
      if o = true ∧ ((D.2.2.1 ≠ 2 ∧ D.2.2.1 ≠ 0) ∨ m > n) ∧ (D.2.2.1 ≠ 3 ∨ m = n) then
        (if D.2.2.1 = 4 ∨ 8 ≤ D.2.1.length then laws_alive.f k else (laws_sameDesk.f k B.1 B.2.1 D.1 D.2.1).bind fun s3 => if B.2.2 = true ∧ s3 = true then laws_alive.f k else none)
      else none)
  else none
/-- A desk in a box of its own. -/
structure DeskAt (W : World) (g : Nat) (A0 : Option Addr) (c0 : Nat) (l0 : List S50) (A1 : Option Addr) (c1 : Nat) (l1 : List (List S50)) (P : Nat → Prop) : Prop where
  b : W.heap[g]? = some (.cells #[.slice A0 l0.length c0, .slice A1 l1.length c1] 27 (0, 0))
  v : Kd.V k50 50 W 0 P (.slice A0 l0.length c0) l0
  r : Kd.C (Kd.slice 50 k50) W A1 l1.length l1
  h : l1.length ≤ c1
theorem DeskAt.below {W W' : World} {g : Nat} {A0 : Option Addr} {c0 : Nat} {l0 : List S50} {A1 : Option Addr} {c1 : Nat} {l1 : List (List S50)} {P : Nat → Prop} (h : DeskAt W g A0 c0 l0 A1 c1 l1 P) (hb : Below W.heap.size W W') : DeskAt W' g A0 c0 l0 A1 c1 l1 P :=
  ⟨(hb.block _ (blk_lt h.b)).trans h.b, Kd.V_below h.v hb, Kd.C_below h.r hb, h.h⟩
theorem DeskAt.r0 {W : World} {g : Nat} {A0 : Option Addr} {c0 : Nat} {l0 : List S50} {A1 : Option Addr} {c1 : Nat} {l1 : List (List S50)} {P : Nat → Prop} (h : DeskAt W g A0 c0 l0 A1 c1 l1 P) : Kd.C k50 W A0 l0.length l0 := (Kd.V_reads' h.v).2.2
theorem DeskAt.h0 {W : World} {g : Nat} {A0 : Option Addr} {c0 : Nat} {l0 : List S50} {A1 : Option Addr} {c1 : Nat} {l1 : List (List S50)} {P : Nat → Prop} (h : DeskAt W g A0 c0 l0 A1 c1 l1 P) : l0.length ≤ c0 := (Kd.V_reads' h.v).2.1
theorem DeskAt.mk' {W : World} {A0 : Option Addr} {c0 : Nat} {l0 : List S50} {A1 : Option Addr} {c1 : Nat} {l1 : List (List S50)} {P : Nat → Prop} (v : Kd.V k50 50 W 0 P (.slice A0 l0.length c0) l0) (r : Kd.C (Kd.slice 50 k50) W A1 l1.length l1) (h : l1.length ≤ c1) : DeskAt (W.alloc (.cells #[.slice A0 l0.length c0, .slice A1 l1.length c1] 27)) W.heap.size A0 c0 l0 A1 c1 l1 P :=
  ⟨by unfold World.alloc; simp, Kd.V_alloc v _, Kd.C_alloc r _, h⟩
theorem DeskAt.alloc {W : World} {g : Nat} {A0 : Option Addr} {c0 : Nat} {l0 : List S50} {A1 : Option Addr} {c1 : Nat} {l1 : List (List S50)} {P : Nat → Prop} (h : DeskAt W g A0 c0 l0 A1 c1 l1 P) (o : Obj) : DeskAt (W.alloc o) g A0 c0 l0 A1 c1 l1 P := h.below (below_alloc (Below.refl _ _) o)
theorem DeskAt.cell0 {W : World} {g : Nat} {A0 : Option Addr} {c0 : Nat} {l0 : List S50} {A1 : Option Addr} {c1 : Nat} {l1 : List (List S50)} {P : Nat → Prop} (h : DeskAt W g A0 c0 l0 A1 c1 l1 P) : W.cell? ⟨g, 0, none⟩ = some (.slice A0 l0.length c0) := (blk_cell h.b 0).trans rfl
theorem DeskAt.cell1 {W : World} {g : Nat} {A0 : Option Addr} {c0 : Nat} {l0 : List S50} {A1 : Option Addr} {c1 : Nat} {l1 : List (List S50)} {P : Nat → Prop} (h : DeskAt W g A0 c0 l0 A1 c1 l1 P) : W.cell? ⟨g, 1, none⟩ = some (.slice A1 l1.length c1) := (blk_cell h.b 1).trans rfl
theorem blk_new2 (W : World) (o o' : Obj) : ((W.alloc o).alloc o').heap[W.heap.size + 1]? = some o' := by
  have := blk_new (W.alloc o) o'
  rwa [show (W.alloc o).heap.size = W.heap.size + 1 from by unfold World.alloc; simp] at this
set_option maxHeartbeats 8000000 in
theorem laws_FnDeskDo.calls (k : Nat) (A0 : Option Addr) (c0 : Nat) (l0 : List Int) (r : Bool) (w : World) (hr0 : Kd.C (Kd.int .u8) w A0 l0.length l0) (hc0 : l0.length ≤ c0) (h : laws_FnDeskDo.f k l0 = some r) :
 Calls Try.prog 7 #[.slice A0 l0.length c0] w fun e w' => e = .returned (.bool r) ∧ Below w.heap.size w w' := by
 have hu27 := Try.underlying27
 have hu52 := Try.underlying52
 unfold laws_FnDeskDo.f at h
 by_cases c2 : (l0.length : Int) > 1048576
 ·rw [if_pos c2] at h
  have c2b0 : decide (1048576 < (l0.length : Int)) = true := decide_eq_true c2
  have c2b1 : decide (1048576 < l0.length) = true := decide_eq_true (by omega)
  clear c2
  obtain rfl := Option.some.inj h
  clear h hr0
  go_enter Try.func7, Try.ntmps7
  go_wp2
  go_ret
  exact ⟨rfl, Below.refl _ _⟩
 ·rw [if_neg c2] at h
  have c2b0 : decide (1048576 < (l0.length : Int)) = false := decide_eq_false c2
  have c2b1 : decide (1048576 < l0.length) = false := decide_eq_false (by omega)
  clear c2
  obtain ⟨⟨d0, d1, ak, aa, ab⟩, hD, g1⟩ := Option.bind_eq_some_iff.mp h
  obtain ⟨⟨x0, x1, ok⟩, hX, g2⟩ := Option.bind_eq_some_iff.mp g1
  obtain ⟨⟨y0, y1, fine⟩, hY, g3⟩ := Option.bind_eq_some_iff.mp g2
  obtain ⟨s, hS, g4⟩ := Option.bind_eq_some_iff.mp g3
  clear h g1 g2 g3
  dsimp only at hX hY hS g4
  by_cases hs : s = true ∧ ok = fine
  ·rw [if_pos hs] at g4
   obtain ⟨rfl, rfl⟩ := hs
   have HH := Aside0.mk g4
   have HD := Aside0.mk hD
   have HX := Aside0.mk hX
   have HY := Aside0.mk hY
   have HS := Aside0.mk hS
   have HR := Aside0.mk hr0
   have HC := Aside0.mk hc0
   clear g4 hD hX hY hS hr0 hc0
   go_enter Try.func7, Try.ntmps7
   go_wp2_with (fail)
   refine (spec_DrawDeskDo.calls k A0 c0 l0 d0 d1 ak aa ab w HR.out HC.out HD.out).mono ?_
   rintro e w1 ⟨v0, v1, rfl, hv, hs, hb1⟩
   obtain ⟨Ad0, cd0, rfl⟩ := Kd.V_slice hv
   obtain ⟨Ad1, cd1, rfl⟩ := Kd.S_slice hs
   have HB1 := Aside0.mk hb1
   have D1 := Aside0.mk (((DeskAt.mk' (c1 := cd1) hv (Kd.S_reads' hs).2.2 (Kd.S_reads' hs).2.1).alloc (.cells #[.int .i64 ak, .int .i64 aa, .int .i64 ab] 52)))
   have A1 : Aside0 (((w1.alloc (.cells #[.slice Ad0 d0.length cd0, .slice Ad1 d1.length cd1] 27)).alloc (.cells #[.int .i64 ak, .int .i64 aa, .int .i64 ab] 52)).heap[w1.heap.size + 1]? = some (.cells #[.int .i64 ak, .int .i64 aa, .int .i64 ab] 52)) := ⟨blk_new2 _ _ _⟩
   have BW1 := Aside0.mk (below_alloc (below_alloc hb1 (.cells #[.slice Ad0 d0.length cd0, .slice Ad1 d1.length cd1] 27)) (.cells #[.int .i64 ak, .int .i64 aa, .int .i64 ab] 52))
   clear hv hs hb1 HB1
   go_wp2_with (fail)
   refine (impl_DeskDo.calls k _ _ d0 _ _ d1 ak aa ab x0 x1 ok _ D1.out.r0 D1.out.h0 D1.out.r D1.out.h HX.out).mono ?_
   rintro e w2 ⟨v0, v1, rfl, hv, hs, hb2⟩
   obtain ⟨Ax0, cx0, rfl⟩ := Kd.V_slice hv
   obtain ⟨Ax1, cx1, rfl⟩ := Kd.V_slice hs
   have D2 := Aside0.mk (D1.out.below hb2)
   have A2 := Aside0.mk ((hb2.block _ (blk_lt A1.out)).trans A1.out)
   have X2 := Aside0.mk (DeskAt.mk' (c1 := cx1) hv (Kd.V_reads' hs).2.2 (Kd.V_reads' hs).2.1)
   have BW2 := Aside0.mk (below_alloc (below_step BW1.out hb2) (.cells #[.slice Ax0 x0.length cx0, .slice Ax1 x1.length cx1] 27))
   clear hv hs hb2 D1 A1 BW1
   have m1 := blk_lt D2.out.b
   have m2 := blk_lt A2.out
   have hd0 := D2.out.cell0
   have hd1 := D2.out.cell1
   have ha0 : w2.cell? ⟨w1.heap.size + 1, 0, none⟩ = some (.int .i64 ak) := (blk_cell A2.out 0).trans rfl
   have ha1 : w2.cell? ⟨w1.heap.size + 1, 1, none⟩ = some (.int .i64 aa) := (blk_cell A2.out 1).trans rfl
   have ha2 : w2.cell? ⟨w1.heap.size + 1, 2, none⟩ = some (.int .i64 ab) := (blk_cell A2.out 2).trans rfl
   go_wp2_with (fail)
   have D3 := Aside0.mk (D2.out.alloc (.cells #[.slice Ax0 x0.length cx0, .slice Ax1 x1.length cx1] 27))
   have A3 := Aside0.mk (blk_alloc1 (o' := .cells #[.slice Ax0 x0.length cx0, .slice Ax1 x1.length cx1] 27) A2.out)
   clear hd0 hd1 ha0 ha1 ha2 m1 m2 D2 A2
   refine (spec_DeskDo.calls k _ _ _ d0 _ _ d1 ak aa ab y0 y1 ok _ D3.out.v D3.out.r D3.out.h HY.out).mono ?_
   rintro e w3 ⟨v0, v1, rfl, hv, hs, hb3⟩
   obtain ⟨Ay0, cy0, rfl⟩ := Kd.V_slice hv
   obtain ⟨Ay1, cy1, rfl⟩ := Kd.S_slice hs
   have D4 := Aside0.mk (D3.out.below hb3)
   have A4 := Aside0.mk ((hb3.block _ (blk_lt A3.out)).trans A3.out)
   have X4 := Aside0.mk (X2.out.below hb3)
   have Y4 := Aside0.mk (DeskAt.mk' (c1 := cy1) hv (Kd.S_reads' hs).2.2 (Kd.S_reads' hs).2.1)
   have BW4 := Aside0.mk (below_alloc (below_step BW2.out hb3) (.cells #[.slice Ay0 y0.length cy0, .slice Ay1 y1.length cy1] 27))
   clear hv hs hb3 D3 A3 X2 BW2
   have m1 := blk_lt D4.out.b
   have m2 := blk_lt A4.out
   have m3 := blk_lt X4.out.b
   have hx0 := X4.out.cell0
   have hx1 := X4.out.cell1
   go_wp2_with (fail)
   have D5 := Aside0.mk (D4.out.alloc (.cells #[.slice Ay0 y0.length cy0, .slice Ay1 y1.length cy1] 27))
   have A5 := Aside0.mk (blk_alloc1 (o' := .cells #[.slice Ay0 y0.length cy0, .slice Ay1 y1.length cy1] 27) A4.out)
   have X5 := Aside0.mk (X4.out.alloc (.cells #[.slice Ay0 y0.length cy0, .slice Ay1 y1.length cy1] 27))
   clear m1 m2 m3 hx0 hx1 D4 A4 X4
   refine (laws_sameDesk.calls k _ _ x0 _ _ x1 _ _ y0 _ _ y1 true _ X5.out.r0 X5.out.h0 X5.out.r X5.out.h Y4.out.r0 Y4.out.h0 Y4.out.r Y4.out.h HS.out).mono ?_
   rintro e w4 ⟨rfl, hb4⟩
   have D6 := Aside0.mk (D5.out.below hb4)
   have A6 := Aside0.mk ((hb4.block _ (blk_lt A5.out)).trans A5.out)
   have X6 := Aside0.mk (X5.out.below hb4)
   have BW6 := Aside0.mk (below_step BW4.out hb4)
   clear hb4 D5 A5 X5 Y4 BW4
   have m1 := blk_lt D6.out.b
   have m2 := blk_lt A6.out
   have m3 := blk_lt X6.out.b
   have hd0 := D6.out.cell0
   have hd1 := D6.out.cell1
   have hx0 := X6.out.cell0
   have hx1 := X6.out.cell1
   have h := HH.out
   clear HH
   cases ok with
   | false =>
    rw [if_pos rfl] at h
    obtain ⟨s2, hS2, g1⟩ := Option.bind_eq_some_iff.mp h
    clear h
    have HS2 := Aside0.mk hS2
    clear hS2
    cases s2 with
    | true =>
     have HA := Aside0.mk (show laws_alive.f k = some r from g1)
     clear g1
     go_wp2_with (fail)
     refine (laws_sameDesk.calls k _ _ x0 _ _ x1 _ _ d0 _ _ d1 true _ X6.out.r0 X6.out.h0 X6.out.r X6.out.h D6.out.r0 D6.out.h0 D6.out.r D6.out.h HS2.out).mono ?_
     rintro e w5 ⟨rfl, hb5⟩
     have BW7 := Aside0.mk (below_step BW6.out hb5)
     clear hb5
     go_wp2_with (fail)
     refine (laws_alive.calls k r _ HA.out).mono ?_
     rintro e w6 ⟨rfl, hb6⟩
     have BW8 := Aside0.mk (below_step BW7.out hb6)
     clear hb6
     go_wp2
     go_ret
     exact ⟨rfl, BW8.out⟩
    | false =>
     obtain ⟨o, hO, h⟩ := Option.bind_eq_some_iff.mp (show ((impl_DeskOk.f k d0 d1).bind fun o => if o = false then laws_alive.f k else none) = some r from g1)
     clear g1
     cases o with
     | true => cases h
     | false =>
      have HO := Aside0.mk hO
      have HA := Aside0.mk (show laws_alive.f k = some r from h)
      clear h hO
      go_wp2_with (fail)
      refine (laws_sameDesk.calls k _ _ x0 _ _ x1 _ _ d0 _ _ d1 false _ X6.out.r0 X6.out.h0 X6.out.r X6.out.h D6.out.r0 D6.out.h0 D6.out.r D6.out.h HS2.out).mono ?_
      rintro e w5 ⟨rfl, hb5⟩
      have BW7 := Aside0.mk (below_step BW6.out hb5)
      have D7 := Aside0.mk (D6.out.below hb5)
      clear hb5 hd0 hd1 hx0 hx1 m1 m2 m3
      have hd0 := D7.out.cell0
      have hd1 := D7.out.cell1
      go_wp2_with (fail)
      refine (impl_DeskOk.calls k _ _ d0 _ _ d1 false _ D7.out.r0 D7.out.h0 D7.out.r D7.out.h HO.out).mono ?_
      rintro e w6 ⟨rfl, hb6⟩
      have BW8 := Aside0.mk (below_step BW7.out hb6)
      clear hb6 hd0 hd1
      go_wp2_with (fail)
      refine (laws_alive.calls k r _ HA.out).mono ?_
      rintro e w7 ⟨rfl, hb7⟩
      have BW9 := Aside0.mk (below_step BW8.out hb7)
      clear hb7
      go_wp2
      go_ret
      exact ⟨rfl, BW9.out⟩
   | true =>
    rw [if_neg (by simp)] at h
    obtain ⟨⟨b0, b1, can⟩, hB, g1⟩ := Option.bind_eq_some_iff.mp h
    obtain ⟨n, hN, g2⟩ := Option.bind_eq_some_iff.mp g1
    obtain ⟨m, hM, g3⟩ := Option.bind_eq_some_iff.mp g2
    obtain ⟨o, hO, g4⟩ := Option.bind_eq_some_iff.mp g3
    clear h g1 g2 g3
    dsimp only at hB g4
    have HB := Aside0.mk hB
    have HN := Aside0.mk hN
    have HM := Aside0.mk hM
    have HO := Aside0.mk hO
    have HH := Aside0.mk g4
    clear hB hN hM hO g4
    go_wp2_with (fail)
    refine (impl_DeskDo.calls k _ _ x0 _ _ x1 4 0 0 b0 b1 can _ X6.out.r0 X6.out.h0 X6.out.r X6.out.h HB.out).mono ?_
    rintro e w5 ⟨v0, v1, rfl, hv, hs, hb5⟩
    obtain ⟨Ab0, cb0, rfl⟩ := Kd.V_slice hv
    obtain ⟨Ab1, cb1, rfl⟩ := Kd.V_slice hs
    have D7 := Aside0.mk ((D6.out.below hb5).alloc (.cells #[.slice Ab0 b0.length cb0, .slice Ab1 b1.length cb1] 27))
    have A7 := Aside0.mk (blk_alloc1 (o' := .cells #[.slice Ab0 b0.length cb0, .slice Ab1 b1.length cb1] 27) ((hb5.block _ (blk_lt A6.out)).trans A6.out))
    have X7 := Aside0.mk ((X6.out.below hb5).alloc (.cells #[.slice Ab0 b0.length cb0, .slice Ab1 b1.length cb1] 27))
    have B7 := Aside0.mk (DeskAt.mk' (c1 := cb1) hv (Kd.V_reads' hs).2.2 (Kd.V_reads' hs).2.1)
    have BW7 := Aside0.mk (below_alloc (below_step BW6.out hb5) (.cells #[.slice Ab0 b0.length cb0, .slice Ab1 b1.length cb1] 27))
    have D6' := Aside0.mk (D6.out.below hb5)
    clear hv hs hb5 hd0 hd1 hx0 hx1 m1 m2 m3
    have m1 := blk_lt D6'.out.b
    have hd0 := D6'.out.cell0
    go_wp2_with (fail)
    refine (impl_NeedOf.calls k _ _ d0 n _ D7.out.r0 D7.out.h0 HN.out).mono ?_
    rintro e w6 ⟨rfl, hb6⟩
    have D8 := Aside0.mk (D7.out.below hb6)
    have A8 := Aside0.mk ((hb6.block _ (blk_lt A7.out)).trans A7.out)
    have X8 := Aside0.mk (X7.out.below hb6)
    have B8 := Aside0.mk (B7.out.below hb6)
    have BW8 := Aside0.mk (below_step BW7.out hb6)
    clear hb6 hd0 m1 D7 A7 X7 B7 BW7 D6'
    have hx0 := X8.out.cell0
    go_wp2_with (fail)
    refine (impl_NeedOf.calls k _ _ x0 m _ X8.out.r0 X8.out.h0 HM.out).mono ?_
    rintro e w7 ⟨rfl, hb7⟩
    have D9 := Aside0.mk (D8.out.below hb7)
    have A9 := Aside0.mk ((hb7.block _ (blk_lt A8.out)).trans A8.out)
    have X9 := Aside0.mk (X8.out.below hb7)
    have B9 := Aside0.mk (B8.out.below hb7)
    have BW9 := Aside0.mk (below_step BW8.out hb7)
    clear hb7 hx0 D8 A8 X8 B8 BW8
    have h := HH.out
    clear HH
    by_cases hc : o = true ∧ ((ak ≠ 2 ∧ ak ≠ 0) ∨ m > n) ∧ (ak ≠ 3 ∨ m = n)
    ·rw [if_pos hc] at h
     obtain ⟨rfl, hmore, hlater⟩ := hc
     have hx0 := X9.out.cell0
     have hx1 := X9.out.cell1
     have ha0 : w7.cell? ⟨w1.heap.size + 1, 0, none⟩ = some (.int .i64 ak) := (blk_cell A9.out 0).trans rfl
     rcases (by omega : ak = 0 ∨ ak = 2 ∨ ak = 3 ∨ ak = 4 ∨ (ak ≠ 0 ∧ ak ≠ 2 ∧ ak ≠ 3 ∧ ak ≠ 4)) with rfl | rfl | rfl | rfl | ⟨k0, k2, k3, k4⟩
     ·have f1 : decide (n < m) = true := decide_eq_true (by omega)
      clear hmore hlater
      by_cases h8 : 8 ≤ d1.length
      ·have HA := Aside0.mk (show laws_alive.f k = some r from by rw [if_pos (.inr h8)] at h; exact h)
       have f8 : decide (8 ≤ (d1.length : Int)) = true := decide_eq_true (by omega)
       clear h h8
       go_wp2_with (fail)
       refine (impl_DeskOk.calls k _ _ x0 _ _ x1 true _ X9.out.r0 X9.out.h0 X9.out.r X9.out.h HO.out).mono ?_
       rintro e w8 ⟨rfl, hb8⟩
       have D10 := Aside0.mk (D9.out.below hb8)
       have A10 := Aside0.mk ((hb8.block _ (blk_lt A9.out)).trans A9.out)
       have B10 := Aside0.mk (B9.out.below hb8)
       have BW10 := Aside0.mk (below_step BW9.out hb8)
       clear hb8 hx0 hx1 ha0 D9 A9 X9 B9 BW9
       have ha0 : w8.cell? ⟨w1.heap.size + 1, 0, none⟩ = some (.int .i64 0) := (blk_cell A10.out 0).trans rfl
       have hd0 := D10.out.cell0
       have hd1 := D10.out.cell1
       have hb0 := B10.out.cell0
       have hb1 := B10.out.cell1
       go_wp2_with (fail)
       refine (laws_alive.calls k r _ HA.out).mono ?_
       rintro e w9 ⟨rfl, hbz⟩
       have BWz := Aside0.mk (below_step BW10.out hbz)
       clear hbz
       go_wp2
       go_ret
       exact ⟨rfl, BWz.out⟩
      ·rw [if_neg (by omega)] at h
       have f8 : decide (8 ≤ (d1.length : Int)) = false := decide_eq_false (by omega)
       clear h8
       obtain ⟨s3, hS3, g5⟩ := Option.bind_eq_some_iff.mp h
       clear h
       by_cases hcs : can = true ∧ s3 = true
       ·rw [if_pos hcs] at g5
        obtain ⟨rfl, rfl⟩ := hcs
        have HA := Aside0.mk g5
        have HS3 := Aside0.mk hS3
        clear g5 hS3
        go_wp2_with (fail)
        refine (impl_DeskOk.calls k _ _ x0 _ _ x1 true _ X9.out.r0 X9.out.h0 X9.out.r X9.out.h HO.out).mono ?_
        rintro e w8 ⟨rfl, hb8⟩
        have D10 := Aside0.mk (D9.out.below hb8)
        have A10 := Aside0.mk ((hb8.block _ (blk_lt A9.out)).trans A9.out)
        have B10 := Aside0.mk (B9.out.below hb8)
        have BW10 := Aside0.mk (below_step BW9.out hb8)
        clear hb8 hx0 hx1 ha0 D9 A9 X9 B9 BW9
        have ha0 : w8.cell? ⟨w1.heap.size + 1, 0, none⟩ = some (.int .i64 0) := (blk_cell A10.out 0).trans rfl
        have hd0 := D10.out.cell0
        have hd1 := D10.out.cell1
        have hb0 := B10.out.cell0
        have hb1 := B10.out.cell1
        go_wp2_with (fail)
        refine (laws_sameDesk.calls k _ _ b0 _ _ b1 _ _ d0 _ _ d1 true _ B10.out.r0 B10.out.h0 B10.out.r B10.out.h D10.out.r0 D10.out.h0 D10.out.r D10.out.h HS3.out).mono ?_
        rintro e w9 ⟨rfl, hb9⟩
        have BW11 := Aside0.mk (below_step BW10.out hb9)
        have A11 := Aside0.mk ((hb9.block _ (blk_lt A10.out)).trans A10.out)
        clear hb9 hd0 hd1 hb0 hb1 ha0 D10 A10 B10
        have ha0 : w9.cell? ⟨w1.heap.size + 1, 0, none⟩ = some (.int .i64 0) := (blk_cell A11.out 0).trans rfl
        go_wp2_with (fail)
        refine (laws_alive.calls k r _ HA.out).mono ?_
        rintro e w10 ⟨rfl, hbz⟩
        have BWz := Aside0.mk (below_step BW11.out hbz)
        clear hbz
        go_wp2
        go_ret
        exact ⟨rfl, BWz.out⟩
       ·rw [if_neg hcs] at g5; cases g5
     ·have f1 : decide (n < m) = true := decide_eq_true (by omega)
      clear hmore hlater
      by_cases h8 : 8 ≤ d1.length
      ·have HA := Aside0.mk (show laws_alive.f k = some r from by rw [if_pos (.inr h8)] at h; exact h)
       have f8 : decide (8 ≤ (d1.length : Int)) = true := decide_eq_true (by omega)
       clear h h8
       go_wp2_with (fail)
       refine (impl_DeskOk.calls k _ _ x0 _ _ x1 true _ X9.out.r0 X9.out.h0 X9.out.r X9.out.h HO.out).mono ?_
       rintro e w8 ⟨rfl, hb8⟩
       have D10 := Aside0.mk (D9.out.below hb8)
       have A10 := Aside0.mk ((hb8.block _ (blk_lt A9.out)).trans A9.out)
       have B10 := Aside0.mk (B9.out.below hb8)
       have BW10 := Aside0.mk (below_step BW9.out hb8)
       clear hb8 hx0 hx1 ha0 D9 A9 X9 B9 BW9
       have ha0 : w8.cell? ⟨w1.heap.size + 1, 0, none⟩ = some (.int .i64 2) := (blk_cell A10.out 0).trans rfl
       have hd0 := D10.out.cell0
       have hd1 := D10.out.cell1
       have hb0 := B10.out.cell0
       have hb1 := B10.out.cell1
       go_wp2_with (fail)
       refine (laws_alive.calls k r _ HA.out).mono ?_
       rintro e w9 ⟨rfl, hbz⟩
       have BWz := Aside0.mk (below_step BW10.out hbz)
       clear hbz
       go_wp2
       go_ret
       exact ⟨rfl, BWz.out⟩
      ·rw [if_neg (by omega)] at h
       have f8 : decide (8 ≤ (d1.length : Int)) = false := decide_eq_false (by omega)
       clear h8
       obtain ⟨s3, hS3, g5⟩ := Option.bind_eq_some_iff.mp h
       clear h
       by_cases hcs : can = true ∧ s3 = true
       ·rw [if_pos hcs] at g5
        obtain ⟨rfl, rfl⟩ := hcs
        have HA := Aside0.mk g5
        have HS3 := Aside0.mk hS3
        clear g5 hS3
        go_wp2_with (fail)
        refine (impl_DeskOk.calls k _ _ x0 _ _ x1 true _ X9.out.r0 X9.out.h0 X9.out.r X9.out.h HO.out).mono ?_
        rintro e w8 ⟨rfl, hb8⟩
        have D10 := Aside0.mk (D9.out.below hb8)
        have A10 := Aside0.mk ((hb8.block _ (blk_lt A9.out)).trans A9.out)
        have B10 := Aside0.mk (B9.out.below hb8)
        have BW10 := Aside0.mk (below_step BW9.out hb8)
        clear hb8 hx0 hx1 ha0 D9 A9 X9 B9 BW9
        have ha0 : w8.cell? ⟨w1.heap.size + 1, 0, none⟩ = some (.int .i64 2) := (blk_cell A10.out 0).trans rfl
        have hd0 := D10.out.cell0
        have hd1 := D10.out.cell1
        have hb0 := B10.out.cell0
        have hb1 := B10.out.cell1
        go_wp2_with (fail)
        refine (laws_sameDesk.calls k _ _ b0 _ _ b1 _ _ d0 _ _ d1 true _ B10.out.r0 B10.out.h0 B10.out.r B10.out.h D10.out.r0 D10.out.h0 D10.out.r D10.out.h HS3.out).mono ?_
        rintro e w9 ⟨rfl, hb9⟩
        have BW11 := Aside0.mk (below_step BW10.out hb9)
        have A11 := Aside0.mk ((hb9.block _ (blk_lt A10.out)).trans A10.out)
        clear hb9 hd0 hd1 hb0 hb1 ha0 D10 A10 B10
        have ha0 : w9.cell? ⟨w1.heap.size + 1, 0, none⟩ = some (.int .i64 2) := (blk_cell A11.out 0).trans rfl
        go_wp2_with (fail)
        refine (laws_alive.calls k r _ HA.out).mono ?_
        rintro e w10 ⟨rfl, hbz⟩
        have BWz := Aside0.mk (below_step BW11.out hbz)
        clear hbz
        go_wp2
        go_ret
        exact ⟨rfl, BWz.out⟩
       ·rw [if_neg hcs] at g5; cases g5
     ·obtain rfl : m = n := by omega
      clear hmore hlater
      by_cases h8 : 8 ≤ d1.length
      ·have HA := Aside0.mk (show laws_alive.f k = some r from by rw [if_pos (.inr h8)] at h; exact h)
       have f8 : decide (8 ≤ (d1.length : Int)) = true := decide_eq_true (by omega)
       clear h h8
       go_wp2_with (fail)
       refine (impl_DeskOk.calls k _ _ x0 _ _ x1 true _ X9.out.r0 X9.out.h0 X9.out.r X9.out.h HO.out).mono ?_
       rintro e w8 ⟨rfl, hb8⟩
       have D10 := Aside0.mk (D9.out.below hb8)
       have A10 := Aside0.mk ((hb8.block _ (blk_lt A9.out)).trans A9.out)
       have B10 := Aside0.mk (B9.out.below hb8)
       have BW10 := Aside0.mk (below_step BW9.out hb8)
       clear hb8 hx0 hx1 ha0 D9 A9 X9 B9 BW9
       have ha0 : w8.cell? ⟨w1.heap.size + 1, 0, none⟩ = some (.int .i64 3) := (blk_cell A10.out 0).trans rfl
       have hd0 := D10.out.cell0
       have hd1 := D10.out.cell1
       have hb0 := B10.out.cell0
       have hb1 := B10.out.cell1
       go_wp2_with (fail)
       refine (laws_alive.calls k r _ HA.out).mono ?_
       rintro e w9 ⟨rfl, hbz⟩
       have BWz := Aside0.mk (below_step BW10.out hbz)
       clear hbz
       go_wp2
       go_ret
       exact ⟨rfl, BWz.out⟩
      ·rw [if_neg (by omega)] at h
       have f8 : decide (8 ≤ (d1.length : Int)) = false := decide_eq_false (by omega)
       clear h8
       obtain ⟨s3, hS3, g5⟩ := Option.bind_eq_some_iff.mp h
       clear h
       by_cases hcs : can = true ∧ s3 = true
       ·rw [if_pos hcs] at g5
        obtain ⟨rfl, rfl⟩ := hcs
        have HA := Aside0.mk g5
        have HS3 := Aside0.mk hS3
        clear g5 hS3
        go_wp2_with (fail)
        refine (impl_DeskOk.calls k _ _ x0 _ _ x1 true _ X9.out.r0 X9.out.h0 X9.out.r X9.out.h HO.out).mono ?_
        rintro e w8 ⟨rfl, hb8⟩
        have D10 := Aside0.mk (D9.out.below hb8)
        have A10 := Aside0.mk ((hb8.block _ (blk_lt A9.out)).trans A9.out)
        have B10 := Aside0.mk (B9.out.below hb8)
        have BW10 := Aside0.mk (below_step BW9.out hb8)
        clear hb8 hx0 hx1 ha0 D9 A9 X9 B9 BW9
        have ha0 : w8.cell? ⟨w1.heap.size + 1, 0, none⟩ = some (.int .i64 3) := (blk_cell A10.out 0).trans rfl
        have hd0 := D10.out.cell0
        have hd1 := D10.out.cell1
        have hb0 := B10.out.cell0
        have hb1 := B10.out.cell1
        go_wp2_with (fail)
        refine (laws_sameDesk.calls k _ _ b0 _ _ b1 _ _ d0 _ _ d1 true _ B10.out.r0 B10.out.h0 B10.out.r B10.out.h D10.out.r0 D10.out.h0 D10.out.r D10.out.h HS3.out).mono ?_
        rintro e w9 ⟨rfl, hb9⟩
        have BW11 := Aside0.mk (below_step BW10.out hb9)
        have A11 := Aside0.mk ((hb9.block _ (blk_lt A10.out)).trans A10.out)
        clear hb9 hd0 hd1 hb0 hb1 ha0 D10 A10 B10
        have ha0 : w9.cell? ⟨w1.heap.size + 1, 0, none⟩ = some (.int .i64 3) := (blk_cell A11.out 0).trans rfl
        go_wp2_with (fail)
        refine (laws_alive.calls k r _ HA.out).mono ?_
        rintro e w10 ⟨rfl, hbz⟩
        have BWz := Aside0.mk (below_step BW11.out hbz)
        clear hbz
        go_wp2
        go_ret
        exact ⟨rfl, BWz.out⟩
       ·rw [if_neg hcs] at g5; cases g5
     ·have f1 := trivial
      clear hmore hlater f1
      have HA := Aside0.mk (show laws_alive.f k = some r from by rw [if_pos (.inl rfl)] at h; exact h)
      clear h
      go_wp2_with (fail)
      refine (impl_DeskOk.calls k _ _ x0 _ _ x1 true _ X9.out.r0 X9.out.h0 X9.out.r X9.out.h HO.out).mono ?_
      rintro e w8 ⟨rfl, hb8⟩
      have D10 := Aside0.mk (D9.out.below hb8)
      have A10 := Aside0.mk ((hb8.block _ (blk_lt A9.out)).trans A9.out)
      have B10 := Aside0.mk (B9.out.below hb8)
      have BW10 := Aside0.mk (below_step BW9.out hb8)
      clear hb8 hx0 hx1 ha0 D9 A9 X9 B9 BW9
      have ha0 : w8.cell? ⟨w1.heap.size + 1, 0, none⟩ = some (.int .i64 4) := (blk_cell A10.out 0).trans rfl
      have hd0 := D10.out.cell0
      have hd1 := D10.out.cell1
      have hb0 := B10.out.cell0
      have hb1 := B10.out.cell1
      go_wp2_with (fail)
      refine (laws_alive.calls k r _ HA.out).mono ?_
      rintro e w9 ⟨rfl, hbz⟩
      have BWz := Aside0.mk (below_step BW10.out hbz)
      clear hbz
      go_wp2
      go_ret
      exact ⟨rfl, BWz.out⟩
     ·have f1 : (ak == 0) = false ∧ (ak == 2) = false ∧ (ak == 3) = false ∧ (ak == 4) = false := ⟨by simp [k0], by simp [k2], by simp [k3], by simp [k4]⟩
      clear hmore hlater
      obtain ⟨f1, f2, f3, f4⟩ := f1
      by_cases h8 : 8 ≤ d1.length
      ·have HA := Aside0.mk (show laws_alive.f k = some r from by rw [if_pos (.inr h8)] at h; exact h)
       have f8 : decide (8 ≤ (d1.length : Int)) = true := decide_eq_true (by omega)
       clear h h8
       go_wp2_with (fail)
       refine (impl_DeskOk.calls k _ _ x0 _ _ x1 true _ X9.out.r0 X9.out.h0 X9.out.r X9.out.h HO.out).mono ?_
       rintro e w8 ⟨rfl, hb8⟩
       have D10 := Aside0.mk (D9.out.below hb8)
       have A10 := Aside0.mk ((hb8.block _ (blk_lt A9.out)).trans A9.out)
       have B10 := Aside0.mk (B9.out.below hb8)
       have BW10 := Aside0.mk (below_step BW9.out hb8)
       clear hb8 hx0 hx1 ha0 D9 A9 X9 B9 BW9
       have ha0 : w8.cell? ⟨w1.heap.size + 1, 0, none⟩ = some (.int .i64 ak) := (blk_cell A10.out 0).trans rfl
       have hd0 := D10.out.cell0
       have hd1 := D10.out.cell1
       have hb0 := B10.out.cell0
       have hb1 := B10.out.cell1
       go_wp2_with (fail)
       refine (laws_alive.calls k r _ HA.out).mono ?_
       rintro e w9 ⟨rfl, hbz⟩
       have BWz := Aside0.mk (below_step BW10.out hbz)
       clear hbz
       go_wp2
       go_ret
       exact ⟨rfl, BWz.out⟩
      ·rw [if_neg (by omega)] at h
       have f8 : decide (8 ≤ (d1.length : Int)) = false := decide_eq_false (by omega)
       clear h8
       obtain ⟨s3, hS3, g5⟩ := Option.bind_eq_some_iff.mp h
       clear h
       by_cases hcs : can = true ∧ s3 = true
       ·rw [if_pos hcs] at g5
        obtain ⟨rfl, rfl⟩ := hcs
        have HA := Aside0.mk g5
        have HS3 := Aside0.mk hS3
        clear g5 hS3
        go_wp2_with (fail)
        refine (impl_DeskOk.calls k _ _ x0 _ _ x1 true _ X9.out.r0 X9.out.h0 X9.out.r X9.out.h HO.out).mono ?_
        rintro e w8 ⟨rfl, hb8⟩
        have D10 := Aside0.mk (D9.out.below hb8)
        have A10 := Aside0.mk ((hb8.block _ (blk_lt A9.out)).trans A9.out)
        have B10 := Aside0.mk (B9.out.below hb8)
        have BW10 := Aside0.mk (below_step BW9.out hb8)
        clear hb8 hx0 hx1 ha0 D9 A9 X9 B9 BW9
        have ha0 : w8.cell? ⟨w1.heap.size + 1, 0, none⟩ = some (.int .i64 ak) := (blk_cell A10.out 0).trans rfl
        have hd0 := D10.out.cell0
        have hd1 := D10.out.cell1
        have hb0 := B10.out.cell0
        have hb1 := B10.out.cell1
        go_wp2_with (fail)
        refine (laws_sameDesk.calls k _ _ b0 _ _ b1 _ _ d0 _ _ d1 true _ B10.out.r0 B10.out.h0 B10.out.r B10.out.h D10.out.r0 D10.out.h0 D10.out.r D10.out.h HS3.out).mono ?_
        rintro e w9 ⟨rfl, hb9⟩
        have BW11 := Aside0.mk (below_step BW10.out hb9)
        have A11 := Aside0.mk ((hb9.block _ (blk_lt A10.out)).trans A10.out)
        clear hb9 hd0 hd1 hb0 hb1 ha0 D10 A10 B10
        have ha0 : w9.cell? ⟨w1.heap.size + 1, 0, none⟩ = some (.int .i64 ak) := (blk_cell A11.out 0).trans rfl
        go_wp2_with (fail)
        refine (laws_alive.calls k r _ HA.out).mono ?_
        rintro e w10 ⟨rfl, hbz⟩
        have BWz := Aside0.mk (below_step BW11.out hbz)
        clear hbz
        go_wp2
        go_ret
        exact ⟨rfl, BWz.out⟩
       ·rw [if_neg hcs] at g5; cases g5
    ·rw [if_neg hc] at h; cases h
  ·rw [if_neg hs] at g4; cases g4
/-- THE ONE PURE STATEMENT of laws_FnDeskDo: yours. -/
def laws_FnDeskDo.Pure : Prop := ∀ (l0 : List Int), l0.length ≤ maxLen → l0.length * 1 ≤ 140737488351232 → (∀ x ∈ l0, (Lit.int .u8 x).wf = true) → ∃ k, laws_FnDeskDo.f k l0 = some true
theorem laws_FnDeskDo.walk (P : laws_FnDeskDo.Pure) (a0 : Option Addr) (len0 cap0 : Nat) (z0 : List Int) (w : World) (w0 : (a0 = none ∧ len0 = 0 ∧ cap0 = 0 ∧ z0 = []) ∨ ∃ x, a0 = some x ∧ len0 ≤ cap0 ∧ cap0 ≤ maxLen ∧ z0.length = cap0 ∧ (∀ i, i < z0.length → w.cell? (x.add i) = some (.int .u8 (z0.getD i 0))) ∧ ∀ n ∈ z0, (Lit.int .u8 n).wf = true) (y0 : len0 * 1 ≤ 140737488351232) :
 Calls Try.prog 7 #[.slice a0 len0 cap0] w fun e w' => e = .returned (.bool true) ∧ Below w.heap.size w w' := by
 obtain ⟨l0, rfl, hr0, hm0, hw0, hc0⟩ := ReadsInt.ofRowC w0
 obtain ⟨k, h⟩ := P l0 hm0 y0 hw0
 refine (laws_FnDeskDo.calls k _ _ l0 true w (Kd.C_of_reads (d := (0 : Int)) (h1 := fun _ => rfl) hr0) hc0 h).mono ?_
 rintro e w' ⟨rfl, hd⟩
 exact ⟨rfl, hd⟩

end Go.Proofs.Ytocnifoohecmeaa.PFnDeskDo
