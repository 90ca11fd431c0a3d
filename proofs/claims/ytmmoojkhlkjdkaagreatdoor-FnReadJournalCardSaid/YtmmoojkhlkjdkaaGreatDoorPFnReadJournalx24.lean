-- Printed by this claim's own program; Lean checks it.
import Derived.Test.YtmmoojkhlkjdkaaGreatDoorPFnReadJournalx0
import Derived.Test.YtmmoojkhlkjdkaaGreatDoorPFnReadJournalx8
import Derived.Test.YtmmoojkhlkjdkaaGreatDoorPFnReadJournalx9
import Derived.Test.YtmmoojkhlkjdkaaGreatDoorPFnReadJournalx11
import Derived.Test.YtmmoojkhlkjdkaaGreatDoorPFnReadJournalx12
import Derived.Test.YtmmoojkhlkjdkaaGreatDoorPFnReadJournalx19
import Derived.Test.YtmmoojkhlkjdkaaGreatDoorPFnReadJournalx22
import Derived.Test.YtmmoojkhlkjdkaaGreatDoorPFnReadJournalx23
namespace Go.Proofs.YtmmoojkhlkjdkaaGreatDoor.PFnReadJournal
open Go.RowKit Go.Proofs.YtmmoojkhlkjdkaaGreatDoorW.PrintWords Go.Proofs.YtmmoojkhlkjdkaaGreatDoorW.PrintLast Go.Proofs.YtmmoojkhlkjdkaaGreatDoorW.PrintMore
attribute [local go_sem] max2_int min2_int max_two min_two max_three min_three max_four min_four   -- for this text's walks alone
set_option linter.unusedVariables false
set_option linter.unusedSimpArgs false

/-! ### laws_FnReadJournal: function 3 (by hand) -/
def laws_FnReadJournal.lines (k : Nat) : List S39 → List S84 → List (List S84) → Option (List S84 × List (List S84))
  | [], a, b => some (a, b)
  | d :: ds, a, b => (impl_DeedText.f k d.f0 d.f1 d.f2).bind fun t => (impl_DeskLine.f k a b t).bind fun R => if R.2.2 = (⟨#[111, 107]⟩ : ByteArray) ∨ R.2.2 = (⟨#[110, 111, 116]⟩ : ByteArray) then laws_FnReadJournal.lines k ds R.1 R.2.1 else none
/-- What the law's walk goes by. -/
structure laws_FnReadJournal.Run (k : Nat) (l0 l1 : List Int) (s : ByteArray) (L : List S39) (n : Int) (d0 : List S84) (d1 : List (List S84)) (ds : List S39) (ok : Bool) (e0 : List S84) (e1 : List (List S84)) (x0 : List S84) (x1 : List (List S84)) (xn : Int) (t : ByteArray) : Prop where
  hs : spec_DrawReadJournal.f k l0 = some s
  hz : s.size ≤ 1000000
  hL : impl_ReadJournal.f k s = some (L, n)
  hW : spec_ReadJournal.f k s = some (L, n)
  hq : laws_sameDeeds.f k L L = some true
  hc : ∀ j, j ≤ s.size → ∃ X m, impl_ReadJournal.f k (s.extract 0 j) = some (X, m) ∧ X.length ≤ L.length ∧ m ≤ (j : Int) ∧ laws_sameDeeds.f k X (L.take X.length) = some true
  hD : spec_DrawDeskRun.f k l1 = some (d0, d1, ds)
  ho : spec_DeskOk.f k d0 d1 = some ok
  hl : ok = true → laws_FnReadJournal.lines k L d0 d1 = some (e0, e1)
  hx : impl_DeskRun.f k d0 d1 L = some (x0, x1, xn)
  h0 : 0 ≤ n
  hn : n ≤ (s.size : Int)
  hJ : impl_JournalText.f k L = some t
  ht : t.toList = (s.extract 0 n.toNat).toList
  hS : ok = true → L.length ≤ 40 → laws_sameDesk.f k e0 e1 x0 x1 = some true
  ha : laws_alive.f k = some true
/-- A desk in a box, as it is read. -/
structure RDesk (W : World) (g : Nat) (A0 : Option Addr) (c0 : Nat) (l0 : List S84) (A1 : Option Addr) (c1 : Nat) (l1 : List (List S84)) : Prop where
  b : W.heap[g]? = some (.cells #[.slice A0 l0.length c0, .slice A1 l1.length c1] 31 (0, 0))
  r0 : Kd.C k84 W A0 l0.length l0
  h0 : l0.length ≤ c0
  r1 : Kd.C (Kd.slice 84 k84) W A1 l1.length l1
  h1 : l1.length ≤ c1
theorem RDesk.below {W : World} {g : Nat} {A0 : Option Addr} {c0 : Nat} {l0 : List S84} {A1 : Option Addr} {c1 : Nat} {l1 : List (List S84)} {W' : World} (h : RDesk W g A0 c0 l0 A1 c1 l1) (hb : Below W.heap.size W W') : RDesk W' g A0 c0 l0 A1 c1 l1 := ⟨(hb.block _ (blk_lt h.b)).trans h.b, Kd.C_below h.r0 hb, h.h0, Kd.C_below h.r1 hb, h.h1⟩
theorem RDesk.mk' {W : World} {A0 : Option Addr} {c0 : Nat} {l0 : List S84} {A1 : Option Addr} {c1 : Nat} {l1 : List (List S84)} (r0 : Kd.C k84 W A0 l0.length l0) (h0 : l0.length ≤ c0) (r1 : Kd.C (Kd.slice 84 k84) W A1 l1.length l1) (h1 : l1.length ≤ c1) : RDesk (W.alloc (.cells #[.slice A0 l0.length c0, .slice A1 l1.length c1] 31)) W.heap.size A0 c0 l0 A1 c1 l1 := ⟨blk_new _ _, Kd.C_alloc r0 _, h0, Kd.C_alloc r1 _, h1⟩
/-- The desk of a box is put into another box. -/
theorem RDesk.put {W : World} {b g : Nat} {A0 : Option Addr} {c0 : Nat} {l0 : List S84} {A1 : Option Addr} {c1 : Nat} {l1 : List (List S84)} {lo : Nat} {f : Nat → Nat} {vs : List Value} {u0 u1 : Value} (hb : W.heap[g]? = some (.cells #[u0, u1] 31 (0, 0))) (h : DOwn W lo (fun k => k ≠ g ∧ b ≤ k) A0 c0 l0 A1 c1 l1 f vs) : RDesk ((W.setCell ⟨g, 0, none⟩ (.slice A0 l0.length c0)).setCell ⟨g, 1, none⟩ (.slice A1 l1.length c1)) g A0 c0 l0 A1 c1 l1 :=
  have d := h.step (W' := (W.setCell ⟨g, 0, none⟩ (.slice A0 l0.length c0)).setCell ⟨g, 1, none⟩ (.slice A1 l1.length c1)) (fun k hk _ => (Below.heap_setCell _ ⟨g, 1, none⟩ _ k hk.1).trans (Below.heap_setCell _ ⟨g, 0, none⟩ _ k hk.1))
  ⟨res_put hb, d.r0, d.h0, d.r1, d.le⟩
def laws_FnReadJournal.T19 : Bool × List (List Nat × List Nat) := (true, [([], []), ([], []), ([], []), ([1, 2], [1, 2]), ([3], [3]), ([4], [4]), ([0, 5, 5], [0, 5]), ([6], [6]), ([7], [7]), ([7], [7]), ([], []), ([10, 8, 6, 0, 1, 2, 3, 4, 5, 6, 7, 8, 10], [8, 10]), ([9, 11, 0, 1, 2, 3, 4, 5, 6, 7, 8, 9, 10, 11], [9])])
def laws_FnReadJournal.B19 : List Nat := [0, 0, 0, 6, 14, 30, 63, 127, 255, 255, 0, 1535, 4095]
theorem laws_FnReadJournal.tab19 : rtab .any (opsOf Tryz.f3 19) = laws_FnReadJournal.T19 := by kernel_rfl
theorem laws_FnReadJournal.bits19 : waitsOk laws_FnReadJournal.T19.2 laws_FnReadJournal.B19 = true := by kernel_rfl
def laws_FnReadJournal.T24 : Bool × List (List Nat × List Nat) := (true, [([], []), ([], []), ([1], [1]), ([0, 2], [0, 2]), ([3], [3]), ([4], [4]), ([5, 4, 4], [4, 5]), ([4], [4]), ([4], [4]), ([7, 8, 4], [4, 7, 8]), ([6, 9, 4], [4, 6, 9]), ([4, 10], [4, 10]), ([11, 6], [11]), ([12], [12]), ([13, 12, 12], [12, 13]), ([14, 12], [12, 14]), ([15, 14, 12], [12, 15]), ([16], [16]), ([17, 16], [16, 17]), ([18, 16], [16, 18]), ([16, 19, 12], [12, 16, 19]), ([20, 16, 12], [12, 20]), ([21], [21]), ([21], [21]), ([22, 23, 21, 21], [21, 22, 23]), ([21, 24, 12], [12, 21, 24]), ([12, 25], [12, 25]), ([26, 24], [26]), ([27, 27], [27]), ([27, 28], [27, 28]), ([29, 28, 0, 1, 2, 3, 4, 5, 6, 7, 8, 9, 10, 11, 12, 13, 14, 15, 16, 17, 18, 19, 20, 21, 22, 23, 24, 25, 26, 27, 28, 29], [29])])
def laws_FnReadJournal.B24 : List Nat := [0, 0, 2, 7, 15, 31, 63, 31, 31, 415, 1023, 2047, 4095, 8191, 16383, 32767, 65535, 131071, 262143, 524287, 1048575, 2097151, 4194303, 4194303, 16777215, 33554431, 67108863, 134217727, 268435455, 536870911, 1073741823]
theorem laws_FnReadJournal.tab24 : rtab .any (opsOf Tryz.f3 24) = laws_FnReadJournal.T24 := by kernel_rfl
theorem laws_FnReadJournal.bits24 : waitsOk laws_FnReadJournal.T24.2 laws_FnReadJournal.B24 = true := by kernel_rfl
set_option maxHeartbeats 8000000 in
set_option maxRecDepth 100000 in
theorem laws_FnReadJournal.calls (k : Nat) (A0 : Option Addr) (c0 : Nat) (l0 : List Int) (A1 : Option Addr) (c1 : Nat) (l1 : List Int) (w : World) (hE : EnvOk w) (hr0 : Kd.C (Kd.int .u8) w A0 l0.length l0) (hc0 : l0.length ≤ c0) (hr1 : Kd.C (Kd.int .u8) w A1 l1.length l1) (hc1 : l1.length ≤ c1)
 (h : 1048576 < l0.length ∨ 1048576 < l1.length ∨ ∃ s L n d0 d1 ds ok e0 e1 x0 x1 xn t, laws_FnReadJournal.Run k l0 l1 s L n d0 d1 ds ok e0 e1 x0 x1 xn t) :
 Calls Tryz.prog 3 #[.slice A0 l0.length c0, .slice A1 l1.length c1] w fun e w' => e = .returned (.bool true) ∧ Below w.heap.size w w' := by
 have hu31 := Tryz.underlying31
 have hu39 := Tryz.underlying39
 by_cases b0 : 1048576 < l0.length
 ·have c2 : decide (1048576 < (l0.length : Int)) = true := decide_eq_true Z32
  have c2' : decide (1048576 < l0.length) = true := decide_eq_true b0
  clear h hr0 hr1 b0
  go_enter Tryz.func3, Tryz.ntmps3
  go_wp2
  go_ret
  exact ⟨rfl, Below.refl _ _⟩
 have c2 : decide (1048576 < (l0.length : Int)) = false := decide_eq_false Z32
 have c2' : decide (1048576 < l0.length) = false := decide_eq_false b0
 by_cases b1 : 1048576 < l1.length
 ·have c3 : decide (1048576 < (l1.length : Int)) = true := decide_eq_true Z32
  have c3' : decide (1048576 < l1.length) = true := decide_eq_true b1
  clear h hr0 hr1 b0 b1
  go_enter Tryz.func3, Tryz.ntmps3
  go_wp2
  go_ret
  exact ⟨rfl, Below.refl _ _⟩
 have c3 : decide (1048576 < (l1.length : Int)) = false := decide_eq_false Z32
 have c3' : decide (1048576 < l1.length) = false := decide_eq_false b1
 obtain ⟨s, L, n, d0, d1, ds, ok, e0, e1, x0, x1, xn, t, hR⟩ := (h.resolve_left b0).resolve_left b1
 have HR := Aside0.mk hR
 have HE := Aside0.mk hE
 have R0 := Aside0.mk hr0
 have C0 := Aside0.mk hc0
 have R1 := Aside0.mk hr1
 have C1 := Aside0.mk hc1
 clear h hR hE hr0 hc0 hr1 hc1 b0 b1
 go_enter Tryz.func3, Tryz.ntmps3
 go_wp2_with (fail)
 refine (spec_DrawReadJournal.calls k A0 c0 l0 s w R0.out C0.out HR.out.hs).mono ?_
 rintro e w1 ⟨rfl, hb1⟩
 have B1 := Aside0.mk hb1
 clear hb1 c2 c2' c3 c3'
 go_wp2_with (fail)
 refine (impl_ReadJournal.calls k s L n w1 (HE.out.below B1.out) HR.out.hL).mono ?_
 rintro e w2 ⟨v0, rfl, hl, hb⟩
 obtain ⟨Al, cl, rfl⟩ := Kd.R_slice hl
 have L2 := Aside0.mk (Kd.R_reads' hl).2.2
 have HCL := Aside0.mk (Kd.R_reads' hl).2.1
 have B2 := Aside0.mk (below_step B1.out hb)
 clear hl hb B1
 go_wp2_with (fail)
 refine (spec_ReadJournal.calls k s L n w2 HR.out.hW).mono ?_
 rintro e w3 ⟨v0, rfl, hl, hb⟩
 obtain ⟨Aw, cw, rfl⟩ := Kd.R_slice hl
 have Q3 := Aside0.mk (Kd.R_reads' hl).2.2
 have HCW := Aside0.mk (Kd.R_reads' hl).2.1
 have L3 := Aside0.mk (Kd.C_below L2.out hb)
 have B3 := Aside0.mk (below_step B2.out hb)
 clear hl hb B2 L2
 go_wp2_with (fail)
 refine (laws_sameDeeds.calls k Al cl L Aw cw L true w3 L3.out HCL.out Q3.out HCW.out HR.out.hq).mono ?_
 rintro e w4 ⟨rfl, ⟨nd, rfl⟩⟩
 have L4 := Aside0.mk (Kd.C_below L3.out (pw_below_drewN (Below.refl _ _) nd))
 have B4 := Aside0.mk (below_step B3.out (pw_below_drewN (Below.refl _ _) nd))
 clear Q3 HCW L3 B3
 generalize w3.drewN nd = w4 at L4 B4 ⊢
 clear w2 w1
 go_upto_region 9 with (fail)
 have HZ := Aside0.mk HR.out.hz
 go_loopg [10] (s.size + 2) (fun kq v10 w' => ∃ xi : Int, v10 = .int .i64 xi ∧ Aside0 (0 ≤ xi) ∧ Aside0 (xi ≤ (s.size : Int) + 1) ∧ Aside0 ((s.size : Int) + 2 - xi ≤ (kq : Int)) ∧ Aside0 (Kd.C k39 w' Al L.length L) ∧ Aside0 (Below w.heap.size w w'))
 case atStart => exact ⟨0, rfl, ⟨Z32⟩, ⟨Z32⟩, ⟨Z32⟩, L4, B4⟩
 case round =>
  obtain ⟨xi, rfl, X0, X1, X2, L5, B5⟩ := hrel
  clear L4 B4
  by_cases c : xi ≤ (s.size : Int)
  ·have f2 : decide (xi ≤ (s.size : Int)) = true := decide_eq_true c
   have p0 := eq_true X0.out
   have p1 := eq_true c
   obtain ⟨X, m, g1, g2, g3, g4⟩ := HR.out.hc xi.toNat (Z35 X0)
   have G1 := Aside0.mk g1
   have G2 := Aside0.mk g2
   have G3 := Aside0.mk g3
   have G4 := Aside0.mk g4
   have GC := Aside0.mk c
   clear g1 g2 g3 g4
   have pw : IntKind.i64.wrap (xi + 1) = xi + 1 := by
    have h1 := X0.out
    have h2 := HZ.out
    rw [IntKind.wrap_i64]
    omega
   cases gk with
   | zero => exfalso; have h2 := X2.out; omega
   | succ k1 =>
   clear c
   go_wp2_with (fail)
   refine (impl_ReadJournal.calls k _ X m _ (HE.out.below B5.out) G1.out).mono ?_
   rintro e w5 ⟨v0, rfl, hl, hb⟩
   obtain ⟨Ax, cx, rfl⟩ := Kd.R_slice hl
   have X5 := Aside0.mk (Kd.R_reads' hl).2.2
   have HCX := Aside0.mk (Kd.R_reads' hl).2.1
   have L6 := Aside0.mk (Kd.C_below L5.out hb)
   have B6 := Aside0.mk (below_step B5.out hb)
   clear hl hb L5 B5
   have f3 : decide ((L.length : Int) < (X.length : Int)) = false := decide_eq_false (Z35 G2)
   have f3' : decide (L.length < X.length) = false := decide_eq_false (Z35 G2)
   obtain ⟨ji, hji⟩ : ∃ j : Int, (X.length : Int) = j := ⟨_, rfl⟩
   have f3s : decide ((L.length : Int) < ji) = false := by rw [← hji]; exact f3
   have f3r : ((L.length : Int) < ji) = False := eq_false (of_decide_eq_false f3s)
   have P0 : (0 ≤ ji) = True := eq_true Z32
   have P1 : (ji ≤ (L.length : Int)) = True := eq_true (Z35 G2)
   have P3 : (ji ≤ (cl : Int)) = True := eq_true (Z69 G2 HCL)
   obtain ⟨z, hz⟩ : ∃ z, z = L.take X.length := ⟨_, rfl⟩
   have HL1 := Aside0.mk (show z.length = ji.toNat by rw [hz, List.length_take]; have := G2.out; omega)
   have HZ1 : Aside0 (∀ W, Kd.C k39 W Al L.length L → Kd.C k39 W Al z.length z) := ⟨fun W hC => by rw [hz]; exact Kd.C_take hC G2.out⟩
   have HLZ := Aside0.mk (show z.length ≤ cl by rw [hz, List.length_take]; have := G2.out; have := HCL.out; omega)
   have G5 : Aside0 (laws_sameDeeds.f k X z = some true) := ⟨by rw [hz]; exact G4.out⟩
   have f4 : decide (xi < m) = false := decide_eq_false (Z69 G3 X0)
   clear hz G4
   go_wp2_with (fail)
   rw [← HL1.out]
   refine (laws_sameDeeds.calls k Ax cx X Al cl z true w5 X5.out HCX.out (HZ1.out _ L6.out) HLZ.out G5.out).mono ?_
   rintro e w6 ⟨rfl, ⟨nd, rfl⟩⟩
   have L7 := Aside0.mk (Kd.C_below L6.out (pw_below_drewN (Below.refl _ _) nd))
   have B7 := Aside0.mk (below_step B6.out (pw_below_drewN (Below.refl _ _) nd))
   generalize w5.drewN nd = w6 at L7 B7 ⊢
   clear L6 B6 X5 HCX HZ1 HLZ HL1 G5 G1 f2 f3 f3' f3s f3r P0 P1 P3 p0 p1 w5
   go_wp2_with (fail)
   go_roundg k1
   case measure => omega
   case rel => exact ⟨xi + 1, rfl, ⟨Z35 X0⟩, ⟨Z35 GC⟩, ⟨Z35 X2⟩, L7, B7⟩
  ·have f2 : decide (xi ≤ (s.size : Int)) = false := decide_eq_false c
   clear c X0 X1 X2 HZ
   go_wp2_with (fail)
   refine (spec_DrawDeskRun.calls k A1 c1 l1 d0 d1 ds _ (Kd.C_below R1.out B5.out) C1.out HR.out.hD).mono ?_
   rintro e w5 ⟨v0, v1, v2, rfl, hv, hs, hl, hb1⟩
   obtain ⟨Ad0, cd0, rfl⟩ := Kd.V_slice hv
   obtain ⟨Ad1, cd1, rfl⟩ := Kd.S_slice hs
   obtain ⟨Ae, ce, rfl⟩ := Kd.R_slice hl
   have D6 := Aside0.mk (RDesk.mk' (Kd.V_reads' hv).2.2 (Kd.V_reads' hv).2.1 (Kd.S_reads' hs).2.2 (Kd.S_reads' hs).2.1)
   have hba := below_alloc hb1 (.cells #[.slice Ad0 d0.length cd0, .slice Ad1 d1.length cd1] 31)
   have L6 := Aside0.mk (Kd.C_below L5.out hba)
   have B6 := Aside0.mk (below_step B5.out hba)
   clear hv hs hl hb1 hba L5 B5 f2 R0 C0 R1 C1
   go_upto_region 15 with (fail)
   generalize w5.alloc (.cells #[.slice Ad0 d0.length cd0, .slice Ad1 d1.length cd1] 31) = w6 at D6 L6 B6 ⊢
   generalize w5.heap.size = gd at D6 ⊢
   clear w5
   have hd0 : w6.cell? ⟨gd, 0, none⟩ = some (.slice Ad0 d0.length cd0) := (blk_cell D6.out.b 0).trans rfl
   have hd1 : w6.cell? ⟨gd, 1, none⟩ = some (.slice Ad1 d1.length cd1) := (blk_cell D6.out.b 1).trans rfl
   have m1 := blk_lt D6.out.b
   go_upto_region 16 with (fail)
   clear hd0 hd1 m1
   have N7 := Aside0.mk (RDesk.mk' D6.out.r0 D6.out.h0 D6.out.r1 D6.out.h1)
   have B7 := Aside0.mk (below_alloc (Below.refl w6.heap.size w6) (.cells #[.slice Ad0 d0.length cd0, .slice Ad1 d1.length cd1] 31))
   generalize w6.alloc (.cells #[.slice Ad0 d0.length cd0, .slice Ad1 d1.length cd1] 31) = w7 at N7 B7 ⊢
   generalize hgn : w6.heap.size = gn at N7 ⊢
   have GN := Aside0.mk (Nat.le_of_eq hgn)
   clear hgn
   go_upto_block 2 with (fail)
   go_cut [] (fun wc => ∃ (a : List S84) (b : List (List S84)) (An0 : Option Addr) (cn0 : Nat) (An1 : Option Addr) (cn1 : Nat), Aside0 (ok = true → a = e0 ∧ b = e1) ∧ Aside0 (RDesk wc gn An0 cn0 a An1 cn1 b) ∧ Aside0 (Below w6.heap.size w6 wc))
   ·go_upto_region 17 with (fail)
    go_loopg [16] (L.length + 1) (fun kq v16 w' => ∃ (xi : Int) (dn rest : List S39) (a : List S84) (b : List (List S84)) (An0 : Option Addr) (cn0 : Nat) (An1 : Option Addr) (cn1 : Nat), v16 = .int .i64 xi ∧ Aside0 (xi = (dn.length : Int)) ∧ Aside0 (L = dn ++ rest) ∧ Aside0 (ok = true → laws_FnReadJournal.lines k rest a b = some (e0, e1)) ∧ Aside0 (rest.length < kq) ∧ Aside0 (RDesk w' gn An0 cn0 a An1 cn1 b) ∧ Aside0 (Below w6.heap.size w6 w'))
    case atStart => exact ⟨0, [], L, d0, d1, Ad0, cd0, Ad1, cd1, rfl, ⟨rfl⟩, ⟨rfl⟩, ⟨fun h => HR.out.hl h⟩, ⟨Z32⟩, N7, B7⟩
    case round =>
     clear N7 B7
     obtain ⟨xi, dn, rest, a, b, An0, cn0, An1, cn1, rfl, HX, HLr, HA, HK, NB, BB⟩ := hrel
     have hlen : L.length = dn.length + rest.length := by rw [HLr.out]; simp
     have hx := HX.out
     cases rest with
     | nil =>
      have c3 : decide (xi < (L.length : Int)) = false := decide_eq_false (by simp at hlen; omega)
      clear hlen hx
      go_wp2_with (fail)
      go_meet
      exact ⟨a, b, An0, cn0, An1, cn1, ⟨fun h => by have := HA.out h; simpa [laws_FnReadJournal.lines] using this⟩, NB, BB⟩
     | cons d rs =>
      simp only [List.length_cons] at hlen
      have hm := Kd.C_max L6.out
      have c3 : decide (xi < (L.length : Int)) = true := decide_eq_true Z32
      have HLEN := Aside0.mk hlen
      have HM := Aside0.mk hm
      clear hlen hm hx
      have DB := D6.out.below BB.out
      have hd0 : wr.cell? ⟨gd, 0, none⟩ = some (.slice Ad0 d0.length cd0) := (blk_cell DB.b 0).trans rfl
      have hd1 : wr.cell? ⟨gd, 1, none⟩ = some (.slice Ad1 d1.length cd1) := (blk_cell DB.b 1).trans rfl
      go_wp2_with (fail)
      refine (spec_DeskOk.calls k _ _ d0 _ _ d1 ok _ DB.r0 DB.h0 DB.r1 DB.h1 HR.out.ho).mono ?_
      rintro e w8 ⟨rfl, hb⟩
      have N8 := Aside0.mk (NB.out.below hb)
      have B8 := Aside0.mk (below_step BB.out hb)
      clear hb hd0 hd1 c3 NB DB BB
      by_cases hok : ok = true
      rotate_left
      ·have hok' : ok = false := Bool.eq_false_iff.mpr hok
       rw [hok']
       go_wp2_with (fail)
       go_meet
       exact ⟨a, b, An0, cn0, An1, cn1, ⟨fun h => absurd h hok⟩, N8, B8⟩
      have h1 := HA.out hok
      rw [hok]
      have HOK := Aside0.mk hok
      clear hok
      obtain ⟨tx, hT, h2⟩ := Option.bind_eq_some_iff.mp (show ((impl_DeedText.f k d.f0 d.f1 d.f2).bind fun t => (impl_DeskLine.f k a b t).bind fun R => if R.2.2 = (⟨#[111, 107]⟩ : ByteArray) ∨ R.2.2 = (⟨#[110, 111, 116]⟩ : ByteArray) then laws_FnReadJournal.lines k rs R.1 R.2.1 else none) = some (e0, e1) from h1)
      obtain ⟨⟨y0, y1, an⟩, hY, h3⟩ := Option.bind_eq_some_iff.mp h2
      dsimp only at h3
      have han : an = (⟨#[111, 107]⟩ : ByteArray) ∨ an = (⟨#[110, 111, 116]⟩ : ByteArray) := Decidable.byContradiction fun hc => by rw [if_neg hc] at h3; cases h3
      rw [if_pos han] at h3
      have hx := HX.out
      have hlen := HLEN.out
      have hm := HM.out
      have p1 : 0 ≤ xi := Z32
      have q1 : xi < (L.length : Int) := Z32
      have pw : IntKind.i64.wrap (xi + 1) = xi + 1 := Z75
      obtain ⟨ad, eA, hx0, hx1, hx2⟩ := at_T39 (Kd.C_below L6.out B8.out) xi p1 q1
      have hd : rd_T39 L xi = d := by
       unfold rd_T39
       rw [HLr.out, show xi.toNat = dn.length by omega]
       simp
      have HAT : Aside0 (∀ W, Below w8.drew.heap.size w8.drew W → W.cell? (ad.add (xi.toNat * 3)) = some (.int .i64 d.f0) ∧ W.cell? ⟨(ad.add (xi.toNat * 3)).block, (ad.add (xi.toNat * 3)).off + 1, none⟩ = some (.int .i64 d.f1) ∧ W.cell? ⟨(ad.add (xi.toNat * 3)).block, (ad.add (xi.toNat * 3)).off + 2, none⟩ = some (.int .i64 d.f2)) := ⟨fun W hW => by
       obtain ⟨ad', eA', g0, g1, g2⟩ := at_T39 (Kd.C_below (Kd.C_below (Kd.C_below L6.out B8.out) (below_drew1 (Below.refl w8.heap.size w8))) hW) xi p1 q1
       rw [eA] at eA'
       obtain rfl := Option.some.inj eA'
       rw [hd] at g0 g1 g2
       exact ⟨g0, g1, g2⟩⟩
      have P1 := eq_true p1
      have Q1 := eq_true q1
      obtain ⟨f0, hf0⟩ : ∃ z, d.f0 = z := ⟨_, rfl⟩
      obtain ⟨f1, hf1⟩ : ∃ z, d.f1 = z := ⟨_, rfl⟩
      obtain ⟨f2, hf2⟩ : ∃ z, d.f2 = z := ⟨_, rfl⟩
      rw [hf0, hf1, hf2] at HAT hT
      have HT := Aside0.mk hT
      have HY := Aside0.mk hY
      have HL3 := Aside0.mk h3
      have HAN := Aside0.mk han
      have HPW := Aside0.mk pw
      subst eA
      clear h1 h2 h3 hT hY han hx hlen hm p1 q1 pw hx0 hx1 hx2 hd hf0 hf1 hf2 HA
      go_wp2_with (fail)
      have hb0_ := below_drew1 (Below.refl w8.heap.size w8)
      have Nz := Aside0.mk (N8.out.below hb0_)
      have Bz := Aside0.mk (below_step B8.out hb0_)
      clear hb0_ N8 B8
      have HCEL := Aside0.mk (show ∀ W, Below w8.drew.heap.size w8.drew W → W.cell? ⟨gn, 0, none⟩ = some (.slice An0 a.length cn0) ∧ W.cell? ⟨gn, 1, none⟩ = some (.slice An1 b.length cn1) ∧ W.cell? (ad.add (xi.toNat * 3)) = some (.int .i64 f0) ∧ W.cell? ⟨(ad.add (xi.toNat * 3)).block, (ad.add (xi.toNat * 3)).off + 1, none⟩ = some (.int .i64 f1) ∧ W.cell? ⟨(ad.add (xi.toNat * 3)).block, (ad.add (xi.toNat * 3)).off + 2, none⟩ = some (.int .i64 f2) from fun W hW => ⟨(blk_cell (Nz.out.below hW).b 0).trans rfl, (blk_cell (Nz.out.below hW).b 1).trans rfl, HAT.out W hW⟩)
      obtain ⟨ENV, hE, HL_, HBe, HCe, HOu⟩ : ∃ ENV : World → Prop, ENV w8.drew ∧ Aside0 (∀ W W', ENV W → Kept W W' (fun k => w8.drew.heap.size ≤ k) → Below w8.drew.heap.size w8.drew W' → ENV W') ∧ Aside0 (∀ W, ENV W → Below w8.drew.heap.size w8.drew W) ∧ Aside0 (∀ W, ENV W → W.cell? ⟨gn, 0, none⟩ = some (.slice An0 a.length cn0) ∧ W.cell? ⟨gn, 1, none⟩ = some (.slice An1 b.length cn1) ∧ W.cell? (ad.add (xi.toNat * 3)) = some (.int .i64 f0) ∧ W.cell? ⟨(ad.add (xi.toNat * 3)).block, (ad.add (xi.toNat * 3)).off + 1, none⟩ = some (.int .i64 f1) ∧ W.cell? ⟨(ad.add (xi.toNat * 3)).block, (ad.add (xi.toNat * 3)).off + 2, none⟩ = some (.int .i64 f2)) ∧ Aside0 (∀ W, ENV W → Below w8.drew.heap.size w8.drew W) :=
       ⟨fun W => Below w8.drew.heap.size w8.drew W, Below.refl _ _, ⟨fun W W' _ _ hb => hb⟩, ⟨fun W h => h⟩, HCEL, ⟨fun W h => h⟩⟩
      clear HCEL HAT
      refine start_ (n := 13) (S := ENV) (ds := []) (bB 13 0) Z15 rfl Z15 hE (fun hHeld => ?_); refine with_tabW laws_FnReadJournal.tab19 laws_FnReadJournal.bits19 (fun HT_ HW_ => ?_)
      clear hE
      have hE := hHeld
      generalize w8.drew = wa at hE HL_ HBe HOu hHeld Nz Bz ⊢
      have hw : Below wa.heap.size wa wa := Below.refl _ _
      have HC14 : Aside0 (∀ W, ENV W → Calls Tryz.prog 14 #[.agg #[(.slice An0 a.length cn0), (.slice An1 b.length cn1)], .string tx] W fun e W' => ∃ (A0_ : Option Addr) (c0_ : Nat) (A1_ : Option Addr) (c1_ : Nat) (f_ : Nat → Nat) (vs_ : List Value), e = .returned (.tuple #[.agg #[.slice A0_ y0.length c0_, .slice A1_ y1.length c1_], .string an]) ∧ DOwn W' W.heap.size (fun k_ => W.heap.size ≤ k_) A0_ c0_ y0 A1_ c1_ y1 f_ vs_ ∧ Below W.heap.size W W') := ⟨fun W h => by have d := Nz.out.below (HOu.out _ h); exact impl_DeskLine.calls k _ _ a _ _ b tx y0 y1 an W (HE.out.below (below_step B6.out (below_step Bz.out (HOu.out _ h)))) d.r0 d.h0 d.r1 d.h1 HY.out⟩
      refine take_ (i := 0) (N := some 102) (v := ?_) (a' := ?_) (bB 13 1) rfl rfl (take_ofW HT_.out HW_.out Z15) (fun _ _ _ h => h) (Or.inl ⟨Z90, ?_⟩) hHeld ?_ ?_
      rotate_left
      ·intro w' hE_
       obtain ⟨t0_, t1_, t2_, t3_, t4_⟩ := HCe.out w' hE_
       go_simp
       with_reducible rfl
      rotate_left
      ·simp only [putAll, Act.put, List.setIfInBounds_toArray, List.set_cons_zero, List.set_cons_succ, i64_w, i32_w]
       rfl
      refine pure_ (i := 1) (N := some 103) (v := ?_) (a' := ?_) (bB 13 3) rfl rfl (any_of HT_.out Z15) (fun _ _ _ h => h) (Or.inl ⟨Z90, ?_⟩) ?_ ?_
      rotate_left
      ·intro w'
       go_simp
       with_reducible rfl
      rotate_left
      ·simp only [putAll, Act.put, List.setIfInBounds_toArray, List.set_cons_zero, List.set_cons_succ, i64_w, i32_w]
       rfl
      refine pure_ (i := 2) (N := some 104) (v := ?_) (a' := ?_) (bB 13 7) rfl rfl (any_of HT_.out Z15) (fun _ _ _ h => h) (Or.inl ⟨Z90, ?_⟩) ?_ ?_
      rotate_left
      ·intro w'
       go_simp
       with_reducible rfl
      rotate_left
      ·simp only [putAll, Act.put, List.setIfInBounds_toArray, List.set_cons_zero, List.set_cons_succ, i64_w, i32_w]
       rfl
      refine pure_ (i := 3) (N := some 105) (v := ?_) (a' := ?_) (bB 13 15) rfl rfl (any_of HT_.out Z15) (fun _ _ _ h => h) (Or.inl ⟨Z90, ?_⟩) ?_ ?_
      rotate_left
      ·intro w'
       go_simp
       with_reducible rfl
      rotate_left
      ·simp only [putAll, Act.put, List.setIfInBounds_toArray, List.set_cons_zero, List.set_cons_succ, i64_w, i32_w]
       rfl
      refine take_ (i := 4) (N := some 106) (v := ?_) (a' := ?_) (bB 13 31) rfl rfl (take_ofW HT_.out HW_.out Z15) (fun _ _ _ h => h) (Or.inl ⟨Z90, ?_⟩) hHeld ?_ ?_
      rotate_left
      ·intro w' hE_
       obtain ⟨t0_, t1_, t2_, t3_, t4_⟩ := HCe.out w' hE_
       go_simp
       with_reducible rfl
      rotate_left
      ·simp only [putAll, Act.put, List.setIfInBounds_toArray, List.set_cons_zero, List.set_cons_succ, i64_w, i32_w]
       rfl
      refine join_ (σ := Value × Value × Nat) 2 (bB 13 2047) (fun s_ => [(107, .string tx), (108, .tuple #[.agg #[s_.1, s_.2.1], .string an]), (17, .pointer (some ⟨s_.2.2, 0, none⟩)), (101, .tuple #[.agg #[s_.1, s_.2.1], .string an]), (109, .agg #[s_.1, s_.2.1]), (110, .string an)]) (fun s_ W => ENV W ∧ W.heap[s_.2.2]? = some (.cells #[.slice none 0 0, .slice none 0 0] 31 (0, 0)) ∧ wa.heap.size ≤ s_.2.2 ∧ (∃ (A0 : Option Addr) (c0 : Nat) (A1 : Option Addr) (c1 : Nat) (f : Nat → Nat) (vs : List Value), s_.1 = .slice A0 y0.length c0 ∧ s_.2.1 = .slice A1 y1.length c1 ∧ DOwn W wa.heap.size (fun k => k ≠ s_.2.2 ∧ wa.heap.size ≤ k) A0 c0 y0 A1 c1 y1 f vs) ∧ Below wa.heap.size wa W) ?_ ?_
      rotate_left
      ·intro hCont
       refine two_ (i := 5) (j := 10) (Ni := some 107) (Nj := some 17) (bB 13 63) (bB 13 1055) rfl rfl rfl rfl (two_of HT_.out Z15) Z28 Z28 (fun K hK => ?_) (fun K hK => ?_)
       ·skip
        refine goes_ Tryz.func15 Z15 rfl #[.agg #[.int .i64 f0, .int .i64 f1, .int .i64 f2]] Z90 rfl rfl Z23 ?_
        refine (impl_DeedText.calls k f0 f1 f2 tx _ HT.out).mono ?_
        rintro e W_ ⟨rfl, hb_⟩
        refine ⟨_, rfl, ?_⟩
        replace hE := HL_.out _ _ hE (Kept.of_below hb_ _) (below_step (HBe.out _ hE) hb_)
        replace hw := below_step hw hb_
        clear hb_
        refine hK.out _ _ hE (fun hHeld => ?_)
        clear hK K
        refine norm_ (a' := ?_) ?_ ?_
        rotate_left
        ·show Act.put _ (some 107) _ = _
         simp only [putAll, Act.put, List.setIfInBounds_toArray, List.set_cons_zero, List.set_cons_succ, i64_w, i32_w]
         rfl
        refine two_ (i := 6) (j := 10) (Ni := some 108) (Nj := some 17) (bB 13 127) (bB 13 1087) rfl rfl rfl rfl (two_of HT_.out Z15) Z28 Z28 (fun K hK => ?_) (fun K hK => ?_)
        ·skip
         refine goes_ Tryz.func14 Z15 rfl #[.agg #[(.slice An0 a.length cn0), (.slice An1 b.length cn1)], .string tx] Z90 rfl rfl Z23 ?_
         refine (HC14.out _ hE).mono ?_
         rintro e W_ ⟨B0, c0_, B1, c1_, f, vs, rfl, hD, hb_⟩
         refine ⟨_, rfl, ?_⟩
         replace hD := hD.mono (ok' := fun k => wa.heap.size ≤ k) (base' := wa.heap.size) (fun k h1 _ _ => Nat.le_trans hw.size h1) hw.size
         replace hE := HL_.out _ _ hE (Kept.of_below hb_ _) (below_step (HBe.out _ hE) hb_)
         replace hw := below_step hw hb_
         clear hb_
         refine hK.out _ _ hE (fun hHeld => ?_)
         clear hK K
         refine norm_ (a' := ?_) ?_ ?_
         rotate_left
         ·show Act.put _ (some 108) _ = _
          simp only [putAll, Act.put, List.setIfInBounds_toArray, List.set_cons_zero, List.set_cons_succ, i64_w, i32_w]
          rfl
         refine pure_ (i := 7) (N := some 101) (v := ?_) (a' := ?_) (bB 13 255) rfl rfl (any_of HT_.out Z15) (fun _ _ _ h => h) (Or.inl ⟨Z90, ?_⟩) ?_ ?_
         rotate_left
         ·intro w'
          go_simp
          with_reducible rfl
         rotate_left
         ·simp only [putAll, Act.put, List.setIfInBounds_toArray, List.set_cons_zero, List.set_cons_succ, i64_w, i32_w]
          rfl
         refine pure_ (i := 8) (N := some 109) (v := ?_) (a' := ?_) (bB 13 511) rfl rfl (any_of HT_.out Z15) (fun _ _ _ h => h) (Or.inl ⟨Z90, ?_⟩) ?_ ?_
         rotate_left
         ·intro w'
          go_simp
          with_reducible rfl
         rotate_left
         ·simp only [putAll, Act.put, List.setIfInBounds_toArray, List.set_cons_zero, List.set_cons_succ, i64_w, i32_w]
          rfl
         refine pure_ (i := 9) (N := some 110) (v := ?_) (a' := ?_) (bB 13 1023) rfl rfl (any_of HT_.out Z15) (fun _ _ _ h => h) (Or.inl ⟨Z90, ?_⟩) ?_ ?_
         rotate_left
         ·intro w'
          go_simp
          with_reducible rfl
         rotate_left
         ·simp only [putAll, Act.put, List.setIfInBounds_toArray, List.set_cons_zero, List.set_cons_succ, i64_w, i32_w]
          rfl
         refine one_ (i := 10) (N := some 17) (bB 13 2047) rfl rfl (one_of HT_.out Z15) Z28 (fun K hK => ?_)
         refine box_step ?hg (N := 17) ?hd (cs := #[.slice none 0 0, .slice none 0 0]) (t := 31) ?hr ?_; (case hd => exact Z90); (case hg => exact Z90); (case hr => exact Z29)
         intro g hg W_ hbox hb_
         have hgl : wa.heap.size ≤ g := Z87
         replace hD := (hD.mono (ok' := fun k => k ≠ g ∧ wa.heap.size ≤ k) (fun k h1 h2 _ => ⟨Z32, h1⟩) (Nat.le_refl _)).below hb_
         replace hE := HL_.out _ _ hE (Kept.of_below hb_ _) (below_step (HBe.out _ hE) hb_)
         replace hw := below_step hw hb_
         clear hb_ hg
         refine hK.out _ _ hE (fun hHeld => ?_)
         clear hK K
         refine norm_ (a' := ?_) ?_ ?_
         rotate_left
         ·show Act.put _ (some 17) _ = _
          simp only [putAll, Act.put, List.setIfInBounds_toArray, List.set_cons_zero, List.set_cons_succ, i64_w, i32_w]
          rfl
         exact norm_ Z44 (hCont (.slice B0 y0.length c0_, .slice B1 y1.length c1_, g) _ ⟨hE, hbox, hgl, ⟨B0, c0_, B1, c1_, f, vs, rfl, rfl, hD⟩, hw⟩)
        ·skip
         refine box_step ?hg (N := 17) ?hd (cs := #[.slice none 0 0, .slice none 0 0]) (t := 31) ?hr ?_; (case hd => exact Z90); (case hg => exact Z90); (case hr => exact Z29)
         intro g hg W_ hbox hb_
         have hgl : wa.heap.size ≤ g := Z87
         replace hE := HL_.out _ _ hE (Kept.of_below hb_ _) (below_step (HBe.out _ hE) hb_)
         replace hw := below_step hw hb_
         clear hb_ hg
         refine hK.out _ _ hE (fun hHeld => ?_)
         clear hK K
         refine norm_ (a' := ?_) ?_ ?_
         rotate_left
         ·show Act.put _ (some 17) _ = _
          simp only [putAll, Act.put, List.setIfInBounds_toArray, List.set_cons_zero, List.set_cons_succ, i64_w, i32_w]
          rfl
         refine one_ (i := 6) (N := some 108) (bB 13 1151) rfl rfl (one_of HT_.out Z15) Z28 (fun K hK => ?_)
         refine goes_ Tryz.func14 Z15 rfl #[.agg #[(.slice An0 a.length cn0), (.slice An1 b.length cn1)], .string tx] Z90 rfl rfl Z23 ?_
         refine (HC14.out _ hE).mono ?_
         rintro e W_ ⟨B0, c0_, B1, c1_, f, vs, rfl, hD, hb_⟩
         refine ⟨_, rfl, ?_⟩
         replace hD := hD.mono (ok' := fun k => k ≠ g ∧ wa.heap.size ≤ k) (base' := wa.heap.size) (fun k h1 _ _ => ⟨by have := blk_lt hbox; omega, Nat.le_trans hw.size h1⟩) hw.size
         replace hbox := (hb_.block _ (blk_lt hbox)).trans hbox
         replace hE := HL_.out _ _ hE (Kept.of_below hb_ _) (below_step (HBe.out _ hE) hb_)
         replace hw := below_step hw hb_
         clear hb_
         refine hK.out _ _ hE (fun hHeld => ?_)
         clear hK K
         refine norm_ (a' := ?_) ?_ ?_
         rotate_left
         ·show Act.put _ (some 108) _ = _
          simp only [putAll, Act.put, List.setIfInBounds_toArray, List.set_cons_zero, List.set_cons_succ, i64_w, i32_w]
          rfl
         refine pure_ (i := 7) (N := some 101) (v := ?_) (a' := ?_) (bB 13 1279) rfl rfl (any_of HT_.out Z15) (fun _ _ _ h => h) (Or.inl ⟨Z90, ?_⟩) ?_ ?_
         rotate_left
         ·intro w'
          go_simp
          with_reducible rfl
         rotate_left
         ·simp only [putAll, Act.put, List.setIfInBounds_toArray, List.set_cons_zero, List.set_cons_succ, i64_w, i32_w]
          rfl
         refine pure_ (i := 8) (N := some 109) (v := ?_) (a' := ?_) (bB 13 1535) rfl rfl (any_of HT_.out Z15) (fun _ _ _ h => h) (Or.inl ⟨Z90, ?_⟩) ?_ ?_
         rotate_left
         ·intro w'
          go_simp
          with_reducible rfl
         rotate_left
         ·simp only [putAll, Act.put, List.setIfInBounds_toArray, List.set_cons_zero, List.set_cons_succ, i64_w, i32_w]
          rfl
         refine pure_ (i := 9) (N := some 110) (v := ?_) (a' := ?_) (bB 13 2047) rfl rfl (any_of HT_.out Z15) (fun _ _ _ h => h) (Or.inl ⟨Z90, ?_⟩) ?_ ?_
         rotate_left
         ·intro w'
          go_simp
          with_reducible rfl
         rotate_left
         ·simp only [putAll, Act.put, List.setIfInBounds_toArray, List.set_cons_zero, List.set_cons_succ, i64_w, i32_w]
          rfl
         exact norm_ Z44 (hCont (.slice B0 y0.length c0_, .slice B1 y1.length c1_, g) _ ⟨hE, hbox, hgl, ⟨B0, c0_, B1, c1_, f, vs, rfl, rfl, hD⟩, hw⟩)
       ·skip
        refine box_step ?hg (N := 17) ?hd (cs := #[.slice none 0 0, .slice none 0 0]) (t := 31) ?hr ?_; (case hd => exact Z90); (case hg => exact Z90); (case hr => exact Z29)
        intro g hg W_ hbox hb_
        have hgl : wa.heap.size ≤ g := Z87
        replace hE := HL_.out _ _ hE (Kept.of_below hb_ _) (below_step (HBe.out _ hE) hb_)
        replace hw := below_step hw hb_
        clear hb_ hg
        refine hK.out _ _ hE (fun hHeld => ?_)
        clear hK K
        refine norm_ (a' := ?_) ?_ ?_
        rotate_left
        ·show Act.put _ (some 17) _ = _
         simp only [putAll, Act.put, List.setIfInBounds_toArray, List.set_cons_zero, List.set_cons_succ, i64_w, i32_w]
         rfl
        refine one_ (i := 5) (N := some 107) (bB 13 1087) rfl rfl (one_of HT_.out Z15) Z28 (fun K hK => ?_)
        refine goes_ Tryz.func15 Z15 rfl #[.agg #[.int .i64 f0, .int .i64 f1, .int .i64 f2]] Z90 rfl rfl Z23 ?_
        refine (impl_DeedText.calls k f0 f1 f2 tx _ HT.out).mono ?_
        rintro e W_ ⟨rfl, hb_⟩
        refine ⟨_, rfl, ?_⟩
        replace hbox := (hb_.block _ (blk_lt hbox)).trans hbox
        replace hE := HL_.out _ _ hE (Kept.of_below hb_ _) (below_step (HBe.out _ hE) hb_)
        replace hw := below_step hw hb_
        clear hb_
        refine hK.out _ _ hE (fun hHeld => ?_)
        clear hK K
        refine norm_ (a' := ?_) ?_ ?_
        rotate_left
        ·show Act.put _ (some 107) _ = _
         simp only [putAll, Act.put, List.setIfInBounds_toArray, List.set_cons_zero, List.set_cons_succ, i64_w, i32_w]
         rfl
        refine one_ (i := 6) (N := some 108) (bB 13 1151) rfl rfl (one_of HT_.out Z15) Z28 (fun K hK => ?_)
        refine goes_ Tryz.func14 Z15 rfl #[.agg #[(.slice An0 a.length cn0), (.slice An1 b.length cn1)], .string tx] Z90 rfl rfl Z23 ?_
        refine (HC14.out _ hE).mono ?_
        rintro e W_ ⟨B0, c0_, B1, c1_, f, vs, rfl, hD, hb_⟩
        refine ⟨_, rfl, ?_⟩
        replace hD := hD.mono (ok' := fun k => k ≠ g ∧ wa.heap.size ≤ k) (base' := wa.heap.size) (fun k h1 _ _ => ⟨by have := blk_lt hbox; omega, Nat.le_trans hw.size h1⟩) hw.size
        replace hbox := (hb_.block _ (blk_lt hbox)).trans hbox
        replace hE := HL_.out _ _ hE (Kept.of_below hb_ _) (below_step (HBe.out _ hE) hb_)
        replace hw := below_step hw hb_
        clear hb_
        refine hK.out _ _ hE (fun hHeld => ?_)
        clear hK K
        refine norm_ (a' := ?_) ?_ ?_
        rotate_left
        ·show Act.put _ (some 108) _ = _
         simp only [putAll, Act.put, List.setIfInBounds_toArray, List.set_cons_zero, List.set_cons_succ, i64_w, i32_w]
         rfl
        refine pure_ (i := 7) (N := some 101) (v := ?_) (a' := ?_) (bB 13 1279) rfl rfl (any_of HT_.out Z15) (fun _ _ _ h => h) (Or.inl ⟨Z90, ?_⟩) ?_ ?_
        rotate_left
        ·intro w'
         go_simp
         with_reducible rfl
        rotate_left
        ·simp only [putAll, Act.put, List.setIfInBounds_toArray, List.set_cons_zero, List.set_cons_succ, i64_w, i32_w]
         rfl
        refine pure_ (i := 8) (N := some 109) (v := ?_) (a' := ?_) (bB 13 1535) rfl rfl (any_of HT_.out Z15) (fun _ _ _ h => h) (Or.inl ⟨Z90, ?_⟩) ?_ ?_
        rotate_left
        ·intro w'
         go_simp
         with_reducible rfl
        rotate_left
        ·simp only [putAll, Act.put, List.setIfInBounds_toArray, List.set_cons_zero, List.set_cons_succ, i64_w, i32_w]
         rfl
        refine pure_ (i := 9) (N := some 110) (v := ?_) (a' := ?_) (bB 13 2047) rfl rfl (any_of HT_.out Z15) (fun _ _ _ h => h) (Or.inl ⟨Z90, ?_⟩) ?_ ?_
        rotate_left
        ·intro w'
         go_simp
         with_reducible rfl
        rotate_left
        ·simp only [putAll, Act.put, List.setIfInBounds_toArray, List.set_cons_zero, List.set_cons_succ, i64_w, i32_w]
         rfl
        exact norm_ Z44 (hCont (.slice B0 y0.length c0_, .slice B1 y1.length c1_, g) _ ⟨hE, hbox, hgl, ⟨B0, c0_, B1, c1_, f, vs, rfl, rfl, hD⟩, hw⟩)
      clear hE hw hHeld
      rintro ⟨u0, u1, ge⟩ W ⟨hE, hbox, hgl, hex, hw⟩
      dsimp only at hbox hgl hex
      obtain ⟨Ay0, cy0, Ay1, cy1, fy, vy, rfl, rfl, hD⟩ := hex
      have HHE := Aside0.mk hE
      have HVD := Aside0.mk hD
      have HGL := Aside0.mk hgl
      clear hE hD hw hgl
      refine norm_ (a' := ?_) ?_ ?_
      rotate_left
      ·simp only [putAll, Act.put, List.setIfInBounds_toArray, List.set_cons_zero, List.set_cons_succ]
       rfl
      refine one_ (i := 11) (N := none) (bB 13 4095) rfl rfl (one_of HT_.out Z15) Z28 (fun K hK => ?_)
      have hs0 : W.cell? ⟨ge, 0, none⟩ = some (.slice none 0 0) := (blk_cell hbox 0).trans rfl
      have hs1 : W.cell? ⟨ge, 1, none⟩ = some (.slice none 0 0) := (blk_cell hbox 1).trans rfl
      have hf0 := blk_frozen hbox 0
      have hf1 := blk_frozen hbox 1
      have HHB := Aside0.mk hbox
      clear hbox
      refine skip_ (w1 := ?_) Z90 rfl ?_ ?_
      rotate_left
      ·go_simp
       rfl
      have hE := HL_.out _ _ HHE.out (Kept.setCell (Kept.setCell (Kept.refl W _) (p := ⟨ge, 0, none⟩) (.inl HGL.out) (.slice Ay0 y0.length cy0)) (p := ⟨ge, 1, none⟩) (.inl HGL.out) (.slice Ay1 y1.length cy1)) (below_set (below_set (HBe.out _ HHE.out) HGL.out) HGL.out)
      refine hK.out _ _ hE (fun hHeld => ?_)
      clear hK K hHeld hs0 hs1 hf0 hf1
      refine pure_ (i := 12) (N := some 18) (v := ?_) (a' := ?_) (bB 13 8191) rfl rfl (any_of HT_.out Z15) (fun _ _ _ h => h) (Or.inl ⟨Z90, ?_⟩) ?_ ?_
      rotate_left
      ·intro w'
       go_simp
       with_reducible rfl
      rotate_left
      ·simp only [putAll, Act.put, List.setIfInBounds_toArray, List.set_cons_zero, List.set_cons_succ, i64_w, i32_w]
       rfl
      refine done_ (done_of HT_.out Z15) ?_
      have Y9 := Aside0.mk (RDesk.put (b := wa.heap.size) HHB.out HVD.out)
      have hb := HOu.out _ hE
      have N9 := Aside0.mk (Nz.out.below hb)
      have B9 := Aside0.mk (below_step Bz.out hb)
      have LT9 := blk_lt Nz.out.b
      have YO9 := Aside0.mk ((HVD.out.step (W' := (W.setCell ⟨ge, 0, none⟩ (.slice Ay0 y0.length cy0)).setCell ⟨ge, 1, none⟩ (.slice Ay1 y1.length cy1)) (fun k hk _ => (Below.heap_setCell _ ⟨ge, 1, none⟩ _ k hk.1).trans (Below.heap_setCell _ ⟨ge, 0, none⟩ _ k hk.1))).mono (ok' := fun k => k ≠ gn ∧ wa.heap.size ≤ k) (base' := wa.heap.size) (fun k _ _ h2 => ⟨by have := h2.2; omega, h2.2⟩) (Nat.le_refl _))
      clear HT_ HW_ HC14 HHE HHB HVD HL_ HBe HCe HOu hE hb HGL Nz Bz LT9
      generalize (W.setCell ⟨ge, 0, none⟩ (.slice Ay0 y0.length cy0)).setCell ⟨ge, 1, none⟩ (.slice Ay1 y1.length cy1) = w9 at Y9 N9 B9 YO9 ⊢
      clear W
      skip
      skip
      cases gk with
      | zero => exfalso; have := HK.out; omega
      | succ k1 =>
      rcases HAN.out with e | e
      ·subst e
       have hy0 : w9.cell? ⟨ge, 0, none⟩ = some (.slice Ay0 y0.length cy0) := (blk_cell Y9.out.b 0).trans rfl
       have hy1 : w9.cell? ⟨ge, 1, none⟩ = some (.slice Ay1 y1.length cy1) := (blk_cell Y9.out.b 1).trans rfl
       have hn0 : w9.cell? ⟨gn, 0, none⟩ = some (.slice An0 a.length cn0) := (blk_cell N9.out.b 0).trans rfl
       have hn1 : w9.cell? ⟨gn, 1, none⟩ = some (.slice An1 b.length cn1) := (blk_cell N9.out.b 1).trans rfl
       have hf0 := blk_frozen N9.out.b 0
       have hf1 := blk_frozen N9.out.b 1
       have pw := HPW.out
       go_wp2_with (fail)
       go_roundg k1
       case measure => omega
       case rel => exact ⟨xi + 1, dn ++ [d], rs, y0, y1, Ay0, cy0, Ay1, cy1, rfl, ⟨by rw [HX.out]; simp⟩, ⟨by rw [HLr.out]; simp⟩, ⟨fun _ => HL3.out⟩, ⟨by have := HK.out; simp only [List.length_cons] at this; omega⟩, ⟨RDesk.put (b := wa.heap.size) N9.out.b YO9.out⟩, ⟨below_set (below_set B9.out GN.out) GN.out⟩⟩
      ·subst e
       have hy0 : w9.cell? ⟨ge, 0, none⟩ = some (.slice Ay0 y0.length cy0) := (blk_cell Y9.out.b 0).trans rfl
       have hy1 : w9.cell? ⟨ge, 1, none⟩ = some (.slice Ay1 y1.length cy1) := (blk_cell Y9.out.b 1).trans rfl
       have hn0 : w9.cell? ⟨gn, 0, none⟩ = some (.slice An0 a.length cn0) := (blk_cell N9.out.b 0).trans rfl
       have hn1 : w9.cell? ⟨gn, 1, none⟩ = some (.slice An1 b.length cn1) := (blk_cell N9.out.b 1).trans rfl
       have hf0 := blk_frozen N9.out.b 0
       have hf1 := blk_frozen N9.out.b 1
       have pw := HPW.out
       go_wp2_with (fail)
       go_roundg k1
       case measure => omega
       case rel => exact ⟨xi + 1, dn ++ [d], rs, y0, y1, Ay0, cy0, Ay1, cy1, rfl, ⟨by rw [HX.out]; simp⟩, ⟨by rw [HLr.out]; simp⟩, ⟨fun _ => HL3.out⟩, ⟨by have := HK.out; simp only [List.length_cons] at this; omega⟩, ⟨RDesk.put (b := wa.heap.size) N9.out.b YO9.out⟩, ⟨below_set (below_set B9.out GN.out) GN.out⟩⟩
   case rest =>
    obtain ⟨a, b, An0, cn0, An1, cn1, HEQ, NB, BB⟩ := hcut
    have DB := D6.out.below BB.out
    have hd0 : wc.cell? ⟨gd, 0, none⟩ = some (.slice Ad0 d0.length cd0) := (blk_cell DB.b 0).trans rfl
    have hd1 : wc.cell? ⟨gd, 1, none⟩ = some (.slice Ad1 d1.length cd1) := (blk_cell DB.b 1).trans rfl
    go_wp2_with (fail)
    refine (impl_DeskRun.calls k _ _ d0 _ _ d1 _ _ L x0 x1 xn _ DB.r0 DB.h0 DB.r1 DB.h1 (Kd.C_below L6.out BB.out) HCL.out HR.out.hx).mono ?_
    rintro e w8 ⟨Ax0, cx0, Ax1, cx1, fx, vx, rfl, hO, hb⟩
    clear hd0 hd1 DB
    have hb' := below_step hb (below_alloc (Below.refl w8.heap.size w8) (.cells #[(.slice Ax0 x0.length cx0), (.slice Ax1 x1.length cx1)] 31))
    have X9 := Aside0.mk (RDesk.mk' hO.r0 hO.h0 hO.r1 hO.le)
    have N9 := Aside0.mk (NB.out.below hb')
    have B9 := Aside0.mk (below_step BB.out hb')
    clear hO hb hb' NB BB
    go_upto_region 24 with (fail)
    generalize w8.alloc (.cells #[(.slice Ax0 x0.length cx0), (.slice Ax1 x1.length cx1)] 31) = w9 at X9 N9 B9 ⊢
    generalize w8.heap.size = gx at X9 ⊢
    clear w8
    have f4 : decide (n ≤ (s.size : Int)) = true := decide_eq_true HR.out.hn
    have p4 := eq_true HR.out.hn
    have p5 := eq_true HR.out.h0
    have f5 : (t.toList == (s.extract 0 n.toNat).toList) = true := beq_iff_eq.mpr HR.out.ht
    skip
    have HCe : Aside0 (∀ W, Below w9.drew.heap.size w9.drew W → W.cell? ⟨gd, 0, none⟩ = some (.slice Ad0 d0.length cd0) ∧ W.cell? ⟨gd, 1, none⟩ = some (.slice Ad1 d1.length cd1) ∧ W.cell? ⟨gn, 0, none⟩ = some (.slice An0 a.length cn0) ∧ W.cell? ⟨gn, 1, none⟩ = some (.slice An1 b.length cn1) ∧ W.cell? ⟨gx, 0, none⟩ = some (.slice Ax0 x0.length cx0) ∧ W.cell? ⟨gx, 1, none⟩ = some (.slice Ax1 x1.length cx1)) := ⟨fun W hW => by
     have h1 := below_step (below_drew1 (Below.refl w9.heap.size w9)) hW
     have d1 := D6.out.below (below_step B9.out h1)
     have d2 := N9.out.below h1
     have d3 := X9.out.below h1
     exact ⟨(blk_cell d1.b 0).trans rfl, (blk_cell d1.b 1).trans rfl, (blk_cell d2.b 0).trans rfl, (blk_cell d2.b 1).trans rfl, (blk_cell d3.b 0).trans rfl, (blk_cell d3.b 1).trans rfl⟩⟩
    have HUP : Aside0 (∀ W, Below w9.drew.heap.size w9.drew W → Below w9.heap.size w9 W) := ⟨fun W hW => below_step (below_drew1 (Below.refl w9.heap.size w9)) hW⟩
    have BW := Below.refl w9.drew.heap.size w9.drew
    refine start_ (n := 31) (S := fun W => Below w9.drew.heap.size w9.drew W) (ds := []) (bB 31 0) Z15 rfl Z15 BW (fun _ => ?_); refine with_tabW laws_FnReadJournal.tab24 laws_FnReadJournal.bits24 (fun HT_ HW_ => ?_)
    obtain ⟨big, hbig⟩ : ∃ z, decide (40 < (L.length : Int)) = z := ⟨_, rfl⟩
    have HS : Aside0 ((!ok || big) = false → laws_sameDesk.f k a b x0 x1 = some true) := ⟨fun h => by
     have h1 : ok = true := by revert h; cases ok <;> simp
     have h2 : L.length ≤ 40 := by
      have h3 : big = false := by revert h; cases big <;> simp
      rw [h3] at hbig
      have := of_decide_eq_false hbig
      omega
     obtain ⟨rfl, rfl⟩ := HEQ.out h1
     exact HR.out.hS h1 h2⟩
    have HO := Aside0.mk HR.out.ho
    have HJ := Aside0.mk HR.out.hJ
    have HA := Aside0.mk HR.out.ha
    clear HR HEQ
    cases ok <;> cases big
    all_goals (refine pure_ (i := 0) (N := some 124) (v := ?_) (a' := ?_) (bB 31 1) rfl rfl (any_of HT_.out Z15) (fun _ _ _ h => h) (Or.inl ⟨Z90, ?_⟩) ?_ ?_; rotate_left; (intro w'; go_simp; with_reducible rfl); rotate_left; (simp only [putAll, Act.put, List.setIfInBounds_toArray, List.set_cons_zero, List.set_cons_succ, i64_w, i32_w]; rfl))
    all_goals (refine pure_ (i := 1) (N := some 125) (v := ?_) (a' := ?_) (bB 31 3) rfl rfl (any_of HT_.out Z15) (fun _ _ _ h => h) (Or.inl ⟨Z90, ?_⟩) ?_ ?_; rotate_left; (intro w'; go_simp; with_reducible rfl); rotate_left; (simp only [putAll, Act.put, List.setIfInBounds_toArray, List.set_cons_zero, List.set_cons_succ, i64_w, i32_w]; rfl))
    all_goals (refine pure_ (i := 2) (N := some 126) (v := ?_) (a' := ?_) (bB 31 7) rfl rfl (any_of HT_.out Z15) (fun _ _ _ h => h) (Or.inl ⟨Z90, ?_⟩) ?_ ?_; rotate_left; (intro w'; go_simp; with_reducible rfl); rotate_left; (simp only [putAll, Act.put, List.setIfInBounds_toArray, List.set_cons_zero, List.set_cons_succ, i64_w, i32_w]; rfl))
    all_goals (refine pure_ (i := 3) (N := some 127) (v := ?_) (a' := ?_) (bB 31 15) rfl rfl (any_of HT_.out Z15) (fun _ _ _ h => h) (Or.inl ⟨Z90, ?_⟩) ?_ ?_; rotate_left; (intro w'; go_simp; with_reducible rfl); rotate_left; (simp only [putAll, Act.put, List.setIfInBounds_toArray, List.set_cons_zero, List.set_cons_succ, i64_w, i32_w]; rfl))
    all_goals (refine pure_ (i := 4) (N := some 128) (v := ?_) (a' := ?_) (bB 31 31) rfl rfl (any_of HT_.out Z15) (fun _ _ _ h => h) (Or.inl ⟨Z90, ?_⟩) ?_ ?_; rotate_left; (intro w'; go_simp; with_reducible rfl); rotate_left; (simp only [putAll, Act.put, List.setIfInBounds_toArray, List.set_cons_zero, List.set_cons_succ, i64_w, i32_w]; rfl))
    all_goals (refine pure_ (i := 5) (N := some 129) (v := ?_) (a' := ?_) (bB 31 63) rfl rfl (any_of HT_.out Z15) (fun _ _ _ h => h) (Or.inl ⟨Z90, ?_⟩) ?_ ?_; rotate_left; (intro w'; go_simp; with_reducible rfl); rotate_left; (simp only [putAll, Act.put, List.setIfInBounds_toArray, List.set_cons_zero, List.set_cons_succ, i64_w, i32_w]; rfl))
    all_goals (refine pure_ (i := 7) (N := some 131) (v := ?_) (a' := ?_) (bB 31 191) rfl rfl (any_of HT_.out Z15) (fun _ _ _ h => h) (Or.inl ⟨Z90, ?_⟩) ?_ ?_; rotate_left; (intro w'; go_simp; with_reducible rfl); rotate_left; (simp only [putAll, Act.put, List.setIfInBounds_toArray, List.set_cons_zero, List.set_cons_succ, i64_w, i32_w]; rfl))
    all_goals (refine pure_ (i := 8) (N := some 132) (v := ?_) (a' := ?_) (bB 31 447) rfl rfl (any_of HT_.out Z15) (fun _ _ _ h => h) (Or.inl ⟨Z90, ?_⟩) ?_ ?_; rotate_left; (intro w'; go_simp; with_reducible rfl); rotate_left; (simp only [putAll, Act.put, List.setIfInBounds_toArray, List.set_cons_zero, List.set_cons_succ, i64_w, i32_w]; rfl))
    all_goals (refine pure_ (i := 9) (N := some 133) (v := ?_) (a' := ?_) (bB 31 959) rfl rfl (any_of HT_.out Z15) (fun _ _ _ h => h) (Or.inl ⟨Z90, ?_⟩) ?_ ?_; rotate_left; (intro w'; go_simp; with_reducible rfl); rotate_left; (simp only [putAll, Act.put, List.setIfInBounds_toArray, List.set_cons_zero, List.set_cons_succ, i64_w, i32_w]; rfl))
    all_goals (refine one_ (i := 6) (N := some 130) (bB 31 1023) rfl rfl (one_of HT_.out Z15) Z33 (fun K hK => ?_); refine goes_ Tryz.func17 Z15 rfl #[.slice Al L.length cl] Z90 rfl rfl Z66 ?_; refine (impl_JournalText.calls k Al cl L t _ (Kd.C_below L6.out (below_step B9.out (HUP.out _ BW))) HCL.out HJ.out).mono ?_; rintro e W_ ⟨rfl, hb_⟩; refine ⟨_, rfl, ?_⟩; replace BW := below_step BW hb_; clear hb_; refine hK.out _ _ BW (fun _ => ?_); clear hK K; refine norm_ (a' := ?_) ?_ ?_; rotate_left; (show Act.put _ (some 130) _ = _; simp only [putAll, Act.put, List.setIfInBounds_toArray, List.set_cons_zero, List.set_cons_succ, i64_w, i32_w]; rfl))
    all_goals (refine pure_ (i := 10) (N := some 134) (v := ?_) (a' := ?_) (bB 31 2047) rfl rfl (any_of HT_.out Z15) (fun _ _ _ h => h) (Or.inl ⟨Z90, ?_⟩) ?_ ?_; rotate_left; (intro w'; go_simp; with_reducible rfl); rotate_left; (simp only [putAll, Act.put, List.setIfInBounds_toArray, List.set_cons_zero, List.set_cons_succ, i64_w, i32_w]; rfl))
    all_goals (refine pure_ (i := 11) (N := some 135) (v := ?_) (a' := ?_) (bB 31 4095) rfl rfl (any_of HT_.out Z15) (fun _ _ _ h => h) (Or.inl ⟨Z90, ?_⟩) ?_ ?_; rotate_left; (intro w'; go_simp; with_reducible rfl); rotate_left; (simp only [putAll, Act.put, List.setIfInBounds_toArray, List.set_cons_zero, List.set_cons_succ, i64_w, i32_w]; rfl))
    all_goals (refine pure_ (i := 12) (N := some 136) (v := ?_) (a' := ?_) (bB 31 8191) rfl rfl (any_of HT_.out Z15) (fun _ _ _ h => h) (Or.inl ⟨Z90, ?_⟩) ?_ ?_; rotate_left; (intro w'; go_simp; with_reducible rfl); rotate_left; (simp only [putAll, Act.put, List.setIfInBounds_toArray, List.set_cons_zero, List.set_cons_succ, i64_w, i32_w]; rfl))
    all_goals (refine take_ (i := 13) (N := some 137) (v := ?_) (a' := ?_) (bB 31 16383) rfl rfl (take_ofW HT_.out HW_.out Z15) (fun _ _ _ h => h) (Or.inl ⟨Z90, ?_⟩) BW ?_ ?_; rotate_left; (intro w' hw_; obtain ⟨t0_, t1_, t2_, t3_, t4_, t5_⟩ := HCe.out w' hw_; go_simp; with_reducible rfl); rotate_left; (simp only [putAll, Act.put, List.setIfInBounds_toArray, List.set_cons_zero, List.set_cons_succ, i64_w, i32_w]; rfl))
    all_goals (refine one_ (i := 14) (N := some 138) (bB 31 32767) rfl rfl (one_of HT_.out Z15) Z33 (fun K hK => ?_); refine goes_ Tryz.func13 Z15 rfl #[.agg #[(.slice Ad0 d0.length cd0), (.slice Ad1 d1.length cd1)]] Z90 rfl rfl Z66 ?_; refine ((fun d => spec_DeskOk.calls k _ _ d0 _ _ d1 _ _ d.r0 d.h0 d.r1 d.h1 HO.out) (D6.out.below (below_step B9.out (HUP.out _ BW)))).mono ?_; rintro e W_ ⟨rfl, hb_⟩; refine ⟨_, rfl, ?_⟩; replace BW := below_step BW hb_; clear hb_; refine hK.out _ _ BW (fun _ => ?_); clear hK K; refine norm_ (a' := ?_) ?_ ?_; rotate_left; (show Act.put _ (some 138) _ = _; simp only [putAll, Act.put, List.setIfInBounds_toArray, List.set_cons_zero, List.set_cons_succ, i64_w, i32_w]; rfl))
    all_goals (refine pure_ (i := 15) (N := some 139) (v := ?_) (a' := ?_) (bB 31 65535) rfl rfl (any_of HT_.out Z15) (fun _ _ _ h => h) (Or.inl ⟨Z90, ?_⟩) ?_ ?_; rotate_left; (intro w'; go_simp; with_reducible rfl); rotate_left; (simp only [putAll, Act.put, List.setIfInBounds_toArray, List.set_cons_zero, List.set_cons_succ, i64_w, i32_w]; rfl))
    all_goals (refine pure_ (i := 16) (N := some 140) (v := ?_) (a' := ?_) (bB 31 131071) rfl rfl (any_of HT_.out Z15) (fun _ _ _ h => h) (Or.inl ⟨Z90, ?_⟩) ?_ ?_; rotate_left; (intro w'; go_simp; with_reducible rfl); rotate_left; (simp only [putAll, Act.put, List.setIfInBounds_toArray, List.set_cons_zero, List.set_cons_succ, i64_w, i32_w]; rfl))
    all_goals (first | (refine pure_ (i := 17) (N := some 141) (v := ?_) (a' := ?_) (bB 31 262143) rfl rfl (any_of HT_.out Z15) (fun _ _ _ h => h) (Or.inl ⟨Z90, ?_⟩) ?_ ?_; rotate_left; (intro w'; go_simp; with_reducible rfl); rotate_left; (simp only [putAll, Act.put, List.setIfInBounds_toArray, List.set_cons_zero, List.set_cons_succ, i64_w, i32_w]; rfl)) | (refine pure_ (i := 17) (N := some 141) (v := undef) (a' := ?_) (bB 31 262143) rfl rfl (any_of HT_.out Z15) (fun _ _ _ h => h) (Or.inr ⟨Z90, rfl⟩) ?_ ?_; rotate_left; (simp only [putAll, Act.put, List.setIfInBounds_toArray, List.set_cons_zero, List.set_cons_succ, i64_w, i32_w]; rfl)))
    all_goals (first | (refine pure_ (i := 18) (N := some 142) (v := ?_) (a' := ?_) (bB 31 524287) rfl rfl (any_of HT_.out Z15) (fun _ _ _ h => h) (Or.inl ⟨Z90, ?_⟩) ?_ ?_; rotate_left; (intro w'; go_simp; with_reducible rfl); rotate_left; (simp only [putAll, Act.put, List.setIfInBounds_toArray, List.set_cons_zero, List.set_cons_succ, i64_w, i32_w]; rfl)) | (refine pure_ (i := 18) (N := some 142) (v := undef) (a' := ?_) (bB 31 524287) rfl rfl (any_of HT_.out Z15) (fun _ _ _ h => h) (Or.inr ⟨Z90, rfl⟩) ?_ ?_; rotate_left; (simp only [putAll, Act.put, List.setIfInBounds_toArray, List.set_cons_zero, List.set_cons_succ, i64_w, i32_w]; rfl)))
    all_goals (first | (refine pure_ (i := 19) (N := some 143) (v := ?_) (a' := ?_) (bB 31 1048575) rfl rfl (any_of HT_.out Z15) (fun _ _ _ h => h) (Or.inl ⟨Z90, ?_⟩) ?_ ?_; rotate_left; (intro w'; go_simp; with_reducible rfl); rotate_left; (simp only [putAll, Act.put, List.setIfInBounds_toArray, List.set_cons_zero, List.set_cons_succ, i64_w, i32_w]; rfl)) | (refine pure_ (i := 19) (N := some 143) (v := undef) (a' := ?_) (bB 31 1048575) rfl rfl (any_of HT_.out Z15) (fun _ _ _ h => h) (Or.inr ⟨Z90, rfl⟩) ?_ ?_; rotate_left; (simp only [putAll, Act.put, List.setIfInBounds_toArray, List.set_cons_zero, List.set_cons_succ, i64_w, i32_w]; rfl)))
    all_goals (refine pure_ (i := 20) (N := some 144) (v := ?_) (a' := ?_) (bB 31 2097151) rfl rfl (any_of HT_.out Z15) (fun _ _ _ h => h) (Or.inl ⟨Z90, ?_⟩) ?_ ?_; rotate_left; (intro w'; go_simp; with_reducible rfl); rotate_left; (simp only [putAll, Act.put, List.setIfInBounds_toArray, List.set_cons_zero, List.set_cons_succ, i64_w, i32_w]; rfl))
    all_goals (refine pure_ (i := 21) (N := some 145) (v := ?_) (a' := ?_) (bB 31 4194303) rfl rfl (any_of HT_.out Z15) (fun _ _ _ h => h) (Or.inl ⟨Z90, ?_⟩) ?_ ?_; rotate_left; (intro w'; go_simp; with_reducible rfl); rotate_left; (simp only [putAll, Act.put, List.setIfInBounds_toArray, List.set_cons_zero, List.set_cons_succ, i64_w, i32_w]; rfl))
    all_goals (first | (refine take_ (i := 22) (N := some 146) (v := ?_) (a' := ?_) (bB 31 8388607) rfl rfl (take_ofW HT_.out HW_.out Z15) (fun _ _ _ h => h) (Or.inl ⟨Z90, ?_⟩) BW ?_ ?_; rotate_left; (intro w' hw_; obtain ⟨t0_, t1_, t2_, t3_, t4_, t5_⟩ := HCe.out w' hw_; go_simp; with_reducible rfl); rotate_left; (simp only [putAll, Act.put, List.setIfInBounds_toArray, List.set_cons_zero, List.set_cons_succ, i64_w, i32_w]; rfl)) | (refine take_ (i := 22) (N := some 146) (v := undef) (a' := ?_) (bB 31 8388607) rfl rfl (take_ofW HT_.out HW_.out Z15) (fun _ _ _ h => h) (Or.inr ⟨Z90, rfl⟩) BW ?_ ?_; rotate_left; (simp only [putAll, Act.put, List.setIfInBounds_toArray, List.set_cons_zero, List.set_cons_succ, i64_w, i32_w]; rfl)))
    all_goals (first | (refine take_ (i := 23) (N := some 147) (v := ?_) (a' := ?_) (bB 31 16777215) rfl rfl (take_ofW HT_.out HW_.out Z15) (fun _ _ _ h => h) (Or.inl ⟨Z90, ?_⟩) BW ?_ ?_; rotate_left; (intro w' hw_; obtain ⟨t0_, t1_, t2_, t3_, t4_, t5_⟩ := HCe.out w' hw_; go_simp; with_reducible rfl); rotate_left; (simp only [putAll, Act.put, List.setIfInBounds_toArray, List.set_cons_zero, List.set_cons_succ, i64_w, i32_w]; rfl)) | (refine take_ (i := 23) (N := some 147) (v := undef) (a' := ?_) (bB 31 16777215) rfl rfl (take_ofW HT_.out HW_.out Z15) (fun _ _ _ h => h) (Or.inr ⟨Z90, rfl⟩) BW ?_ ?_; rotate_left; (simp only [putAll, Act.put, List.setIfInBounds_toArray, List.set_cons_zero, List.set_cons_succ, i64_w, i32_w]; rfl)))
    all_goals (refine one_ (i := 24) (N := some 148) (bB 31 33554431) rfl rfl (one_of HT_.out Z15) Z33 (fun K hK => ?_); first | (refine off_ Z90 ?_; refine hK.out _ _ BW (fun _ => ?_); clear hK K; refine norm_ (a' := ?_) ?_ ?_; rotate_left; (show Act.put _ (some 148) _ = _; simp only [putAll, Act.put, List.setIfInBounds_toArray, List.set_cons_zero, List.set_cons_succ, i64_w, i32_w]; rfl)) | (refine goes_ Tryz.func18 Z15 rfl #[.agg #[(.slice An0 a.length cn0), (.slice An1 b.length cn1)], .agg #[(.slice Ax0 x0.length cx0), (.slice Ax1 x1.length cx1)]] Z90 rfl rfl Z66 ?_; refine ((fun d x => laws_sameDesk.calls k _ _ a _ _ b _ _ x0 _ _ x1 true _ d.r0 d.h0 d.r1 d.h1 x.r0 x.h0 x.r1 x.h1 (HS.out rfl)) (N9.out.below (HUP.out _ BW)) (X9.out.below (HUP.out _ BW))).mono ?_; rintro e W_ ⟨rfl, hb_⟩; refine ⟨_, rfl, ?_⟩; replace BW := below_step BW hb_; clear hb_; refine hK.out _ _ BW (fun _ => ?_); clear hK K; refine norm_ (a' := ?_) ?_ ?_; rotate_left; (show Act.put _ (some 148) _ = _; simp only [putAll, Act.put, List.setIfInBounds_toArray, List.set_cons_zero, List.set_cons_succ, i64_w, i32_w]; rfl)))
    all_goals (refine pure_ (i := 25) (N := some 149) (v := ?_) (a' := ?_) (bB 31 67108863) rfl rfl (any_of HT_.out Z15) (fun _ _ _ h => h) (Or.inl ⟨Z90, ?_⟩) ?_ ?_; rotate_left; (intro w'; go_simp; with_reducible rfl); rotate_left; (simp only [putAll, Act.put, List.setIfInBounds_toArray, List.set_cons_zero, List.set_cons_succ, i64_w, i32_w]; rfl))
    all_goals (refine pure_ (i := 26) (N := some 150) (v := ?_) (a' := ?_) (bB 31 134217727) rfl rfl (any_of HT_.out Z15) (fun _ _ _ h => h) (Or.inl ⟨Z90, ?_⟩) ?_ ?_; rotate_left; (intro w'; go_simp; with_reducible rfl); rotate_left; (simp only [putAll, Act.put, List.setIfInBounds_toArray, List.set_cons_zero, List.set_cons_succ, i64_w, i32_w]; rfl))
    all_goals (refine pure_ (i := 27) (N := some 151) (v := ?_) (a' := ?_) (bB 31 268435455) rfl rfl (any_of HT_.out Z15) (fun _ _ _ h => h) (Or.inl ⟨Z90, ?_⟩) ?_ ?_; rotate_left; (intro w'; go_simp; with_reducible rfl); rotate_left; (simp only [putAll, Act.put, List.setIfInBounds_toArray, List.set_cons_zero, List.set_cons_succ, i64_w, i32_w]; rfl))
    all_goals (refine one_ (i := 28) (N := some 152) (bB 31 536870911) rfl rfl (one_of HT_.out Z15) Z33 (fun K hK => ?_); refine goes_ Tryz.func19 Z15 rfl #[] Z90 rfl rfl Z66 ?_; refine (laws_alive.calls k true _ HA.out).mono ?_; rintro e W_ ⟨rfl, hb_⟩; refine ⟨_, rfl, ?_⟩; replace BW := below_step BW hb_; clear hb_; refine hK.out _ _ BW (fun _ => ?_); clear hK K; refine norm_ (a' := ?_) ?_ ?_; rotate_left; (show Act.put _ (some 152) _ = _; simp only [putAll, Act.put, List.setIfInBounds_toArray, List.set_cons_zero, List.set_cons_succ, i64_w, i32_w]; rfl))
    all_goals (refine pure_ (i := 29) (N := some 153) (v := ?_) (a' := ?_) (bB 31 1073741823) rfl rfl (any_of HT_.out Z15) (fun _ _ _ h => h) (Or.inl ⟨Z90, ?_⟩) ?_ ?_; rotate_left; (intro w'; go_simp; with_reducible rfl); rotate_left; (simp only [putAll, Act.put, List.setIfInBounds_toArray, List.set_cons_zero, List.set_cons_succ, i64_w, i32_w]; rfl))
    all_goals (refine pure_ (i := 30) (N := some 4) (v := ?_) (a' := ?_) (bB 31 2147483647) rfl rfl (any_of HT_.out Z15) (fun _ _ _ h => h) (Or.inl ⟨Z90, ?_⟩) ?_ ?_; rotate_left; (intro w'; go_simp; with_reducible rfl); rotate_left; (simp only [putAll, Act.put, List.setIfInBounds_toArray, List.set_cons_zero, List.set_cons_succ, i64_w, i32_w]; rfl))
    all_goals refine done_ (done_of HT_.out Z15) ?_
    all_goals have hb_ := below_step B6.out (below_step B9.out (HUP.out _ BW))
    all_goals go_wp2
    all_goals go_ret
    all_goals exact ⟨rfl, hb_⟩
/-- THE ONE PURE STATEMENT of laws_FnReadJournal: what the walk goes by is there. -/
def laws_FnReadJournal.Pure : Prop := ∀ (l0 : List Int) (l1 : List Int), l0.length ≤ maxLen → l0.length * 1 ≤ 140737488351232 → (∀ x ∈ l0, (Lit.int .u8 x).wf = true) → l1.length ≤ maxLen → l1.length * 1 ≤ 140737488351232 → (∀ x ∈ l1, (Lit.int .u8 x).wf = true) → ∃ k, 1048576 < l0.length ∨ 1048576 < l1.length ∨ ∃ s L n d0 d1 ds ok e0 e1 x0 x1 xn t, laws_FnReadJournal.Run k l0 l1 s L n d0 d1 ds ok e0 e1 x0 x1 xn t
theorem laws_FnReadJournal.walk (P : laws_FnReadJournal.Pure) (a0 : Option Addr) (len0 cap0 : Nat) (z0 : List Int) (a1 : Option Addr) (len1 cap1 : Nat) (z1 : List Int) (w : World) (hE : EnvOk w) (w0 : (a0 = none ∧ len0 = 0 ∧ cap0 = 0 ∧ z0 = []) ∨ ∃ x, a0 = some x ∧ len0 ≤ cap0 ∧ cap0 ≤ maxLen ∧ z0.length = cap0 ∧ (∀ i, i < z0.length → w.cell? (x.add i) = some (.int .u8 (z0.getD i 0))) ∧ ∀ n ∈ z0, (Lit.int .u8 n).wf = true) (y0 : len0 * 1 ≤ 140737488351232) (w1 : (a1 = none ∧ len1 = 0 ∧ cap1 = 0 ∧ z1 = []) ∨ ∃ x, a1 = some x ∧ len1 ≤ cap1 ∧ cap1 ≤ maxLen ∧ z1.length = cap1 ∧ (∀ i, i < z1.length → w.cell? (x.add i) = some (.int .u8 (z1.getD i 0))) ∧ ∀ n ∈ z1, (Lit.int .u8 n).wf = true) (y1 : len1 * 1 ≤ 140737488351232) :
 Calls Tryz.prog 3 #[.slice a0 len0 cap0, .slice a1 len1 cap1] w fun e w' => e = .returned (.bool true) ∧ Below w.heap.size w w' := by
 obtain ⟨l0, rfl, hr0, hm0, hw0, hc0⟩ := ReadsInt.ofRowC w0
 obtain ⟨l1, rfl, hr1, hm1, hw1, hc1⟩ := ReadsInt.ofRowC w1
 obtain ⟨k, h⟩ := P l0 l1 hm0 y0 hw0 hm1 y1 hw1
 exact laws_FnReadJournal.calls k _ _ l0 _ _ l1 w hE (Kd.C_of_reads (d := (0 : Int)) (h1 := fun _ => rfl) hr0) hc0 (Kd.C_of_reads (d := (0 : Int)) (h1 := fun _ => rfl) hr1) hc1 h

end Go.Proofs.YtmmoojkhlkjdkaaGreatDoor.PFnReadJournal
