-- Printed by this claim's own program; Lean checks it.
import Derived.Test.YtocnifoohecmeaaPFnExactDeskRunx0
import Derived.Test.YtocnifoohecmeaaPFnExactDeskRunx2
import Derived.Test.YtocnifoohecmeaaPFnExactDeskRunx3
import Derived.Test.YtocnifoohecmeaaPFnExactDeskRunx4
import Derived.Test.YtocnifoohecmeaaPFnExactDeskRunx7
import Derived.Test.YtocnifoohecmeaaPFnExactDeskRunx12
import Derived.Test.YtocnifoohecmeaaPFnExactDeskRunx13
namespace Go.Proofs.Ytocnifoohecmeaa.PFnExactDeskRun
open Go.RowKit Go.Proofs.YtocnifoohecmeaaW.PrintWords Go.Proofs.YtocnifoohecmeaaW.PrintLast Go.Proofs.YtocnifoohecmeaaW.PrintMore
attribute [local go_sem] max2_int min2_int max_two min_two max_three min_three max_four min_four   -- for this text's walks alone
set_option linter.unusedVariables false
set_option linter.unusedSimpArgs false

/-! ### laws_FnExactDeskRun: function 10 -/
def laws_FnExactDeskRun.f (k : Nat) (l0_0 : List (S79)) (l0_1 : List (List (S79))) (l1 : List S57) : Option Bool :=
  (laws_szDesk.f k l0_0 l0_1 1048576).bind fun left => if left < 0 then some true else (laws_szDeedS.f l1 left).bind fun left2 => if left2 < 0 then some true else
  (laws_toDesk.f k l0_0 l0_1).bind fun D => (laws_toDeedS.f k l1).bind fun E => (spec_DeskRun.f k D.1 D.2 E).bind fun Y => (impl_DeskRun.f k D.1 D.2 E).bind fun G =>
  (laws_eqDesk.f k G.1 G.2.1 Y.1 Y.2.1).bind fun e1 => if e1 = true ∧ G.2.2 = Y.2.2 then
    (laws_eqDesk.f k D.1 D.2 D.1 D.2).bind fun e2 => if e2 = true then (laws_eqDeedS.f k E E).bind fun e3 => if e3 = true then
      (laws_markDesk.f k D.1 D.2 1).bind fun M => (laws_markDeedS.f k E M.1).bind fun L => if 0 ≤ L.1 then
        (laws_markDesk.f k G.1 G.2.1 1).bind fun N => (laws_heldDesk.f k N.2.1 N.2.2 1).bind fun q => if q = N.1 ∧ 0 ≤ q then some true else none
      else none
    else none else none
  else none
/-- A desk that is read, in a box; all it needs lies below N. -/
structure WD (W : World) (g N : Nat) (A0 : Option Addr) (c0 : Nat) (l0 : List S50) (A1 : Option Addr) (c1 : Nat) (l1 : List (List S50)) : Prop where
  b : W.heap[g]? = some (.cells #[.slice A0 l0.length c0, .slice A1 l1.length c1] 27 (0, 0))
  v0 : Kd.V k50 50 W 0 (fun k => k < N) (.slice A0 l0.length c0) l0
  v1 : Kd.V (Kd.slice 50 k50) 23 W 0 (fun k => k < N) (.slice A1 l1.length c1) l1
  n : g < N
theorem WD.kept {W W' : World} {g N : Nat} {A0 : Option Addr} {c0 : Nat} {l0 : List S50} {A1 : Option Addr} {c1 : Nat} {l1 : List (List S50)} {P : Nat → Prop} (h : WD W g N A0 c0 l0 A1 c1 l1) (hk : Kept W W' P) (hP : ∀ k, P k → N ≤ k) : WD W' g N A0 c0 l0 A1 c1 l1 :=
  ⟨blk_kept h.b hk (fun hp => by have := hP _ hp; have := h.n; omega), Kd.V_map h.v0 (fun _ hf => Kd.F_step hf (fun k hk' hlt => hk.2 k hlt (fun h => by have := hP _ h; omega))), Kd.V_map h.v1 (fun _ hf => Kd.F_step hf (fun k hk' hlt => hk.2 k hlt (fun h => by have := hP _ h; omega))), h.n⟩
theorem WD.below {W W' : World} {g N : Nat} {A0 : Option Addr} {c0 : Nat} {l0 : List S50} {A1 : Option Addr} {c1 : Nat} {l1 : List (List S50)} (h : WD W g N A0 c0 l0 A1 c1 l1) (hb : Below W.heap.size W W') : WD W' g N A0 c0 l0 A1 c1 l1 := h.kept (Kept.of_below hb (fun _ => False)) (fun _ h => h.elim)
theorem WD.r0 {W : World} {g N : Nat} {A0 : Option Addr} {c0 : Nat} {l0 : List S50} {A1 : Option Addr} {c1 : Nat} {l1 : List (List S50)} (h : WD W g N A0 c0 l0 A1 c1 l1) : Kd.C k50 W A0 l0.length l0 := (Kd.V_reads' h.v0).2.2
theorem WD.h0 {W : World} {g N : Nat} {A0 : Option Addr} {c0 : Nat} {l0 : List S50} {A1 : Option Addr} {c1 : Nat} {l1 : List (List S50)} (h : WD W g N A0 c0 l0 A1 c1 l1) : l0.length ≤ c0 := (Kd.V_reads' h.v0).2.1
theorem WD.r1 {W : World} {g N : Nat} {A0 : Option Addr} {c0 : Nat} {l0 : List S50} {A1 : Option Addr} {c1 : Nat} {l1 : List (List S50)} (h : WD W g N A0 c0 l0 A1 c1 l1) : Kd.C (Kd.slice 50 k50) W A1 l1.length l1 := (Kd.V_reads' h.v1).2.2
theorem WD.h1 {W : World} {g N : Nat} {A0 : Option Addr} {c0 : Nat} {l0 : List S50} {A1 : Option Addr} {c1 : Nat} {l1 : List (List S50)} (h : WD W g N A0 c0 l0 A1 c1 l1) : l1.length ≤ c1 := (Kd.V_reads' h.v1).2.1
/-- A desk that is one's own, in a box: its rows lie from lo on and below N. -/
structure OD (W : World) (base lo g N : Nat) (A0 : Option Addr) (c0 : Nat) (l0 : List S50) (A1 : Option Addr) (c1 : Nat) (l1 : List (List S50)) (f : Nat → Nat) (vs : List Value) : Prop where
  b : W.heap[g]? = some (.cells #[.slice A0 l0.length c0, .slice A1 l1.length c1] 27 (0, 0))
  o : DOwn W base (fun k => k ≠ g ∧ lo ≤ k ∧ k < N) A0 c0 l0 A1 c1 l1 f vs
  n : lo ≤ g ∧ g < N
theorem OD.kept {W W' : World} {base lo g N : Nat} {A0 : Option Addr} {c0 : Nat} {l0 : List S50} {A1 : Option Addr} {c1 : Nat} {l1 : List (List S50)} {f : Nat → Nat} {vs : List Value} {P : Nat → Prop} (h : OD W base lo g N A0 c0 l0 A1 c1 l1 f vs) (hk : Kept W W' P) (hP : ∀ k, P k → N ≤ k ∨ k < lo) : OD W' base lo g N A0 c0 l0 A1 c1 l1 f vs :=
  ⟨blk_kept h.b hk (fun hp => by have := hP _ hp; have := h.n; omega), h.o.step (fun k hk' hlt => hk.2 k hlt (fun h => by have := hP _ h; omega)), h.n⟩
theorem OD.below {W W' : World} {base lo g N : Nat} {A0 : Option Addr} {c0 : Nat} {l0 : List S50} {A1 : Option Addr} {c1 : Nat} {l1 : List (List S50)} {f : Nat → Nat} {vs : List Value} (h : OD W base lo g N A0 c0 l0 A1 c1 l1 f vs) (hb : Below W.heap.size W W') : OD W' base lo g N A0 c0 l0 A1 c1 l1 f vs := h.kept (Kept.of_below hb (fun _ => False)) (fun _ h => h.elim)
theorem OD.mk' {W : World} {base lo : Nat} {ok : Nat → Prop} {A0 : Option Addr} {c0 : Nat} {l0 : List S50} {A1 : Option Addr} {c1 : Nat} {l1 : List (List S50)} {f : Nat → Nat} {vs : List Value} (h : DOwn W lo ok A0 c0 l0 A1 c1 l1 f vs) (hb : base ≤ lo) (hl : lo ≤ W.heap.size) : OD (W.alloc (.cells #[.slice A0 l0.length c0, .slice A1 l1.length c1] 27)) base lo W.heap.size (W.heap.size + 1) A0 c0 l0 A1 c1 l1 f vs :=
  ⟨blk_new _ _, (h.mono (fun k h1 h2 _ => ⟨by omega, h1, by omega⟩) hb).below (below_alloc (Below.refl _ _) _), hl, by omega⟩
theorem OD.marked {W W' : World} {base lo g N : Nat} {A0 : Option Addr} {c0 : Nat} {l0 : List S50} {A1 : Option Addr} {c1 : Nat} {l1 : List (List S50)} {m0 : List S50} {m1 : List (List S50)} {f : Nat → Nat} {vs : List Value} (h : OD W base lo g N A0 c0 l0 A1 c1 l1 f vs) (hd : DOwn W' base (fun k => k ≠ g ∧ lo ≤ k ∧ k < N) A0 c0 m0 A1 c1 m1 f vs) (hk : Kept W W' (fun k => k ≠ g ∧ lo ≤ k ∧ k < N)) (h0 : m0.length = l0.length) (h1 : m1.length = l1.length) : OD W' base lo g N A0 c0 m0 A1 c1 m1 f vs :=
  ⟨by rw [h0, h1]; exact blk_kept h.b hk (fun h => h.1 rfl), hd, h.n⟩
theorem toDesk_own {k : Nat} {A0_0 : Option Addr} {c0_0 : Nat} {l0_0 : List (S79)} {A0_1 : Option Addr} {c0_1 : Nat} {l0_1 : List (List (S79))} {r1 : List (S50)} {r2 : List (List (S50))} {w : World} (hr0_0 : Kd.C k79 w A0_0 l0_0.length l0_0) (hc0_0 : l0_0.length ≤ c0_0) (hr0_1 : Kd.C (Kd.slice 79 k79) w A0_1 l0_1.length l0_1) (hc0_1 : l0_1.length ≤ c0_1) (h : laws_toDesk.f k l0_0 l0_1 = some (r1, r2)) :
    Calls Try.prog 22 #[.agg #[.slice A0_0 l0_0.length c0_0, .slice A0_1 l0_1.length c0_1]] w fun e w' => ∃ (A0 : Option Addr) (c0 : Nat) (A1 : Option Addr) (c1 : Nat) (f : Nat → Nat) (vs : List Value), e = .returned (.agg #[.slice A0 r1.length c0, .slice A1 r2.length c1]) ∧ DOwn w' w.heap.size (fun _ => True) A0 c0 r1 A1 c1 r2 f vs ∧ Below w.heap.size w w' := by
  refine (laws_toDesk.calls k _ _ l0_0 _ _ l0_1 r1 r2 w hr0_0 hc0_0 hr0_1 hc0_1 h).mono ?_
  rintro e w' ⟨v0, v1, rfl, hv, hs, hb⟩
  obtain ⟨A0, c0, rfl⟩ := Kd.R_slice hv
  obtain ⟨A1, c1, rfl⟩ := Kd.S_slice hs
  obtain ⟨f, vs, hd⟩ := DOwn.of_S (Kd.R_mono hv (fun _ h => h)) (Kd.S_mono hs (fun _ h => ⟨trivial, h⟩))
  exact ⟨A0, c0, A1, c1, f, vs, rfl, hd, hb⟩
theorem WD.mk' {W : World} {A0 : Option Addr} {c0 : Nat} {l0 : List S50} {A1 : Option Addr} {c1 : Nat} {l1 : List (List S50)} {ok0 ok1 : Nat → Prop} (h0 : Kd.V k50 50 W 0 ok0 (.slice A0 l0.length c0) l0) (h1 : Kd.V (Kd.slice 50 k50) 23 W 0 ok1 (.slice A1 l1.length c1) l1) : WD (W.alloc (.cells #[.slice A0 l0.length c0, .slice A1 l1.length c1] 27)) W.heap.size (W.heap.size + 1) A0 c0 l0 A1 c1 l1 :=
  ⟨blk_new _ _, Kd.V_alloc (Kd.V_mono (Kd.V_map (base' := 0) h0 (fun _ hf => Kd.F_bound hf)) (fun _ hk => Nat.lt_succ_of_lt hk.2)) _, Kd.V_alloc (Kd.V_mono (Kd.V_map (base' := 0) h1 (fun _ hf => Kd.F_bound hf)) (fun _ hk => Nat.lt_succ_of_lt hk.2)) _, Nat.lt_succ_self _⟩
/-- What is kept of the start. -/
structure XR (w W : World) (A0 : Option Addr) (c0 : Nat) (l0 : List S79) (A1 : Option Addr) (c1 : Nat) (l1 : List (List S79)) : Prop where
  bel : Below w.heap.size w W
  d : W.heap[w.heap.size]? = some (.cells #[.slice A0 l0.length c0, .slice A1 l1.length c1] 39 (0, 0))
theorem XR.kept {w W W' : World} {A0 : Option Addr} {c0 : Nat} {l0 : List S79} {A1 : Option Addr} {c1 : Nat} {l1 : List (List S79)} {P : Nat → Prop} (h : XR w W A0 c0 l0 A1 c1 l1) (hb : Below w.heap.size w W') (hk : Kept W W' P) (hP : ∀ k, P k → w.heap.size < k) : XR w W' A0 c0 l0 A1 c1 l1 := ⟨hb, blk_kept h.d hk (fun h => by have := hP _ h; omega)⟩
theorem XR.below {w W W' : World} {A0 : Option Addr} {c0 : Nat} {l0 : List S79} {A1 : Option Addr} {c1 : Nat} {l1 : List (List S79)} (h : XR w W A0 c0 l0 A1 c1 l1) (hb : Below W.heap.size W W') : XR w W' A0 c0 l0 A1 c1 l1 := ⟨below_step h.bel hb, (hb.block _ (blk_lt h.d)).trans h.d⟩
set_option maxHeartbeats 8000000 in
set_option maxRecDepth 100000 in
theorem laws_FnExactDeskRun.calls (k : Nat) (A0_0 : Option Addr) (c0_0 : Nat) (l0_0 : List (S79)) (A0_1 : Option Addr) (c0_1 : Nat) (l0_1 : List (List (S79))) (A1 : Option Addr) (c1 : Nat) (l1 : List (S57)) (r : Bool) (w : World) (hr0_0 : Kd.C k79 w A0_0 l0_0.length l0_0) (hc0_0 : l0_0.length ≤ c0_0) (hr0_1 : Kd.C (Kd.slice 79 k79) w A0_1 l0_1.length l0_1) (hc0_1 : l0_1.length ≤ c0_1) (hr1 : Kd.C k57 w A1 l1.length l1) (hc1 : l1.length ≤ c1) (h : laws_FnExactDeskRun.f k l0_0 l0_1 l1 = some r) :
    Calls Try.prog 10 #[.agg #[.slice A0_0 l0_0.length c0_0, .slice A0_1 l0_1.length c0_1], .slice A1 l1.length c1] w fun e w' => e = .returned (.bool r) ∧ Below w.heap.size w w' := by
  have hu39 := Try.underlying39
  have hu27 := Try.underlying27
  unfold laws_FnExactDeskRun.f at h
  obtain ⟨left, hSz, h1⟩ := Option.bind_eq_some_iff.mp h
  have HSZ := Aside0.mk hSz
  have HR0 := Aside0.mk hr0_0
  have HC0 := Aside0.mk hc0_0
  have HR1 := Aside0.mk hr0_1
  have HC1 := Aside0.mk hc0_1
  have HR2 := Aside0.mk hr1
  have HC2 := Aside0.mk hc1
  clear h hSz hr0_0 hc0_0 hr0_1 hc0_1 hr1 hc1
  go_enter Try.func10, Try.ntmps10
  go_wp2_with (fail)
  have X0 := Aside0.mk (XR.mk (below_alloc (Below.refl w.heap.size w) (.cells #[.slice A0_0 l0_0.length c0_0, .slice A0_1 l0_1.length c0_1] 39)) (blk_new w (.cells #[.slice A0_0 l0_0.length c0_0, .slice A0_1 l0_1.length c0_1] 39)))
  refine (laws_szDesk.calls k _ _ l0_0 _ _ l0_1 1048576 left _ (Kd.C_below HR0.out X0.out.bel) HC0.out (Kd.C_below HR1.out X0.out.bel) HC1.out HSZ.out).mono ?_
  rintro e w1 ⟨rfl, hb⟩
  have X1 := Aside0.mk (X0.out.below hb)
  clear hb X0 HSZ
  by_cases hneg : left < 0
  · rw [if_pos hneg] at h1
    obtain rfl := Option.some.inj h1
    have f0 : decide (left < 0) = true := decide_eq_true hneg
    clear hneg h1
    go_wp2
    go_ret
    exact ⟨rfl, X1.out.bel⟩
  rw [if_neg hneg] at h1
  have f0 : decide (left < 0) = false := decide_eq_false hneg
  clear hneg
  obtain ⟨left2, hSz2, h1⟩ := Option.bind_eq_some_iff.mp h1
  have HSZ2 := Aside0.mk hSz2
  have H1 := Aside0.mk h1
  clear hSz2 h1
  go_wp2_with (fail)
  refine (laws_szDeedS.calls _ _ l1 left left2 _ (Kd.C_below HR2.out X1.out.bel) HC2.out HSZ2.out).mono ?_
  rintro e w2 ⟨rfl, hdr⟩
  have X2 := Aside0.mk (X1.out.below hdr.below)
  clear hdr X1 HSZ2 f0
  have h1 := H1.out
  clear H1
  by_cases hneg : left2 < 0
  · rw [if_pos hneg] at h1
    obtain rfl := Option.some.inj h1
    have f0 : decide (left2 < 0) = true := decide_eq_true hneg
    clear hneg h1
    go_wp2
    go_ret
    exact ⟨rfl, X2.out.bel⟩
  rw [if_neg hneg] at h1
  have f0 : decide (left2 < 0) = false := decide_eq_false hneg
  clear hneg
  obtain ⟨⟨d0, d1⟩, hD, g1⟩ := Option.bind_eq_some_iff.mp h1
  obtain ⟨E, hEE, g1⟩ := Option.bind_eq_some_iff.mp g1
  obtain ⟨⟨y0, y1, bo⟩, hY, g2⟩ := Option.bind_eq_some_iff.mp g1
  obtain ⟨⟨x0, x1, ob⟩, hG, g3⟩ := Option.bind_eq_some_iff.mp g2
  obtain ⟨e1, hE, g4⟩ := Option.bind_eq_some_iff.mp g3
  have hc : e1 = true ∧ ob = bo := Decidable.byContradiction fun hc => by rw [if_neg hc] at g4; cases g4
  rw [if_pos hc] at g4
  obtain ⟨he, ho⟩ := hc
  subst he
  subst ho
  obtain ⟨e2, hE2, g5⟩ := Option.bind_eq_some_iff.mp g4
  have hc : e2 = true := Decidable.byContradiction fun hc => by rw [if_neg hc] at g5; cases g5
  rw [if_pos hc] at g5
  subst hc
  obtain ⟨e3, hE3, g5⟩ := Option.bind_eq_some_iff.mp g5
  have hc : e3 = true := Decidable.byContradiction fun hc => by rw [if_neg hc] at g5; cases g5
  rw [if_pos hc] at g5
  subst hc
  obtain ⟨⟨mk, m0, m1⟩, hM, g6⟩ := Option.bind_eq_some_iff.mp g5
  obtain ⟨⟨mk2, me⟩, hM2, g6⟩ := Option.bind_eq_some_iff.mp g6
  have hmk : 0 ≤ mk2 := Decidable.byContradiction fun hc => by rw [if_neg hc] at g6; cases g6
  rw [if_pos hmk] at g6
  obtain ⟨⟨nk, n0, n1⟩, hN, g7⟩ := Option.bind_eq_some_iff.mp g6
  obtain ⟨q, hQ, g8⟩ := Option.bind_eq_some_iff.mp g7
  have hq : q = nk ∧ 0 ≤ q := Decidable.byContradiction fun hc => by rw [if_neg hc] at g8; cases g8
  rw [if_pos hq] at g8
  obtain rfl := Option.some.inj g8
  obtain ⟨hq, hq0⟩ := hq
  subst hq
  dsimp only at hY hG hE hM hN hQ hM2
  have HD := Aside0.mk hD
  have HEE := Aside0.mk hEE
  have HY := Aside0.mk hY
  have HG := Aside0.mk hG
  have HE := Aside0.mk hE
  have HE2 := Aside0.mk hE2
  have HE3 := Aside0.mk hE3
  have HM := Aside0.mk hM
  have HM2 := Aside0.mk hM2
  have HN := Aside0.mk hN
  have HQ := Aside0.mk hQ
  have HMK := Aside0.mk hmk
  have HQ0 := Aside0.mk hq0
  clear h1 g1 g2 g3 g4 g5 g6 g7 g8 hD hEE hY hG hE hE2 hE3 hM hM2 hN hQ hmk hq0
  have hd0 : w2.cell? ⟨w.heap.size, 0, none⟩ = some (.slice A0_0 l0_0.length c0_0) := (blk_cell X2.out.d 0).trans rfl
  have hd1 : w2.cell? ⟨w.heap.size, 1, none⟩ = some (.slice A0_1 l0_1.length c0_1) := (blk_cell X2.out.d 1).trans rfl
  go_wp2_with (fail)
  refine (toDesk_own (Kd.C_below HR0.out X2.out.bel) HC0.out (Kd.C_below HR1.out X2.out.bel) HC1.out HD.out).mono ?_
  rintro e w3 ⟨Aw0, cw0, Aw1, cw1, fw, vw, rfl, hd, hb⟩
  clear hd0 hd1 f0
  have X3 := Aside0.mk (X2.out.below hb)
  have T3 := Aside0.mk hd
  clear hd hb X2
  go_wp2_with (fail)
  refine (laws_toDeedS.calls k _ _ l1 E _ (Kd.C_below HR2.out X3.out.bel) HC2.out HEE.out).mono ?_
  rintro e w4 ⟨v, rfl, hv, hb⟩
  obtain ⟨Ad, cd, rfl⟩ := Kd.R_slice hv
  have X4 := Aside0.mk (X3.out.below hb)
  have T4 := Aside0.mk (T3.out.below hb)
  have Q4 := Aside0.mk hv
  clear hv hb X3 T3
  go_wp2_with (fail)
  refine (spec_DeskRun.calls k _ _ d0 _ _ d1 _ _ E y0 y1 ob _ T4.out.r0 T4.out.h0 T4.out.r1 T4.out.le (Kd.R_reads' Q4.out).2.2 (Kd.R_reads' Q4.out).2.1 HY.out).mono ?_
  rintro e w5 ⟨v0, v1, rfl, hv0, hv1, hb⟩
  obtain ⟨Ay0, cy0, rfl⟩ := Kd.V_slice hv0
  obtain ⟨Ay1, cy1, rfl⟩ := Kd.V_slice hv1
  have X5 := Aside0.mk ((X4.out.below hb).below (below_alloc (Below.refl w5.heap.size w5) (.cells #[(.slice Ay0 y0.length cy0), (.slice Ay1 y1.length cy1)] 27)))
  have Y5 := Aside0.mk (WD.mk' hv0 hv1)
  have LY := Aside0.mk (Nat.lt_of_lt_of_le (blk_lt X4.out.d) hb.size)
  have SY := Aside0.mk (size_alloc1 w5 (.cells #[(.slice Ay0 y0.length cy0), (.slice Ay1 y1.length cy1)] 27))
  clear hv0 hv1 hb X4 T4 Q4
  go_upto_region 9 with (fail)
  generalize w5.alloc (.cells #[(.slice Ay0 y0.length cy0), (.slice Ay1 y1.length cy1)] 27) = w6 at X5 Y5 SY ⊢
  generalize w5.heap.size = gy at Y5 SY LY ⊢
  clear w5
  have hd0 : w6.cell? ⟨w.heap.size, 0, none⟩ = some (.slice A0_0 l0_0.length c0_0) := (blk_cell X5.out.d 0).trans rfl
  have hd1 : w6.cell? ⟨w.heap.size, 1, none⟩ = some (.slice A0_1 l0_1.length c0_1) := (blk_cell X5.out.d 1).trans rfl
  go_wp2_with (fail)
  refine (toDesk_own (Kd.C_below HR0.out X5.out.bel) HC0.out (Kd.C_below HR1.out X5.out.bel) HC1.out HD.out).mono ?_
  rintro e w7 ⟨Ax0, cx0, Ax1, cx1, fx, vx, rfl, hd, hb⟩
  clear hd0 hd1
  have X7 := Aside0.mk ((X5.out.below hb).below (below_alloc (Below.refl w7.heap.size w7) (.cells #[(.slice Ax0 d0.length cx0), (.slice Ax1 d1.length cx1)] 27)))
  have Y7 := Aside0.mk ((Y5.out.below hb).below (below_alloc (Below.refl w7.heap.size w7) (.cells #[(.slice Ax0 d0.length cx0), (.slice Ax1 d1.length cx1)] 27)))
  have Z7 := Aside0.mk (OD.mk' (base := w.heap.size) hd X5.out.bel.size hb.size)
  have SX := Aside0.mk (size_alloc1 w7 (.cells #[(.slice Ax0 d0.length cx0), (.slice Ax1 d1.length cx1)] 27))
  have SX2 := Aside0.mk hb.size
  clear hd hb X5 Y5
  go_upto_region 10 with (fail)
  generalize w7.alloc (.cells #[(.slice Ax0 d0.length cx0), (.slice Ax1 d1.length cx1)] 27) = w8 at X7 Y7 Z7 SX ⊢
  generalize w7.heap.size = gx at Z7 SX SX2 ⊢
  generalize w6.heap.size = lx at Z7 SY SX2
  clear w7 w6
  go_wp2_with (fail)
  refine (laws_toDeedS.calls k _ _ l1 E _ (Kd.C_below HR2.out X7.out.bel) HC2.out HEE.out).mono ?_
  rintro e w9 ⟨v, rfl, hv, hb⟩
  obtain ⟨Ae, ce, rfl⟩ := Kd.R_slice hv
  have X9 := Aside0.mk (X7.out.below hb)
  have Y9 := Aside0.mk (Y7.out.below hb)
  have Z9 := Aside0.mk (Z7.out.below hb)
  have Q9 := Aside0.mk (Kd.R_lower (Kd.R_mono (ok' := fun k => w8.heap.size ≤ k ∧ k < w9.heap.size) (Kd.R_bound hv) (fun k hk => ⟨hk.2.1, hk.2.2.1⟩)) X7.out.bel.size)
  have SQ := Aside0.mk hb.size
  clear hv hb X7 Y7 Z7
  generalize w8.heap.size = lq at Q9 SX SQ
  clear w8
  have hx0 : w9.cell? ⟨gx, 0, none⟩ = some (.slice Ax0 d0.length cx0) := (blk_cell Z9.out.b 0).trans rfl
  have hx1 : w9.cell? ⟨gx, 1, none⟩ = some (.slice Ax1 d1.length cx1) := (blk_cell Z9.out.b 1).trans rfl
  go_wp2_with (fail)
  refine (impl_DeskRun.calls k _ _ d0 _ _ d1 _ _ E x0 x1 ob _ Z9.out.o.r0 Z9.out.o.h0 Z9.out.o.r1 Z9.out.o.le (Kd.R_reads' Q9.out).2.2 (Kd.R_reads' Q9.out).2.1 HG.out).mono ?_
  rintro e w10 ⟨Ag0, cg0, Ag1, cg1, fg, vg, rfl, hd, hb⟩
  clear hx0 hx1
  have X11 := Aside0.mk ((X9.out.below hb).below (below_alloc (Below.refl w10.heap.size w10) (.cells #[(.slice Ag0 x0.length cg0), (.slice Ag1 x1.length cg1)] 27)))
  have Y11 := Aside0.mk ((Y9.out.below hb).below (below_alloc (Below.refl w10.heap.size w10) (.cells #[(.slice Ag0 x0.length cg0), (.slice Ag1 x1.length cg1)] 27)))
  have Z11 := Aside0.mk ((Z9.out.below hb).below (below_alloc (Below.refl w10.heap.size w10) (.cells #[(.slice Ag0 x0.length cg0), (.slice Ag1 x1.length cg1)] 27)))
  have Q11 := Aside0.mk (Kd.R_below (Kd.R_below Q9.out hb) (below_alloc (Below.refl w10.heap.size w10) (.cells #[(.slice Ag0 x0.length cg0), (.slice Ag1 x1.length cg1)] 27)))
  have G11 := Aside0.mk (OD.mk' (base := w.heap.size) hd X9.out.bel.size hb.size)
  have SG := Aside0.mk (size_alloc1 w10 (.cells #[(.slice Ag0 x0.length cg0), (.slice Ag1 x1.length cg1)] 27))
  have SG2 := Aside0.mk hb.size
  clear hd hb X9 Y9 Z9 Q9
  go_upto_region 12 with (fail)
  generalize w10.alloc (.cells #[(.slice Ag0 x0.length cg0), (.slice Ag1 x1.length cg1)] 27) = w11 at X11 Y11 Z11 Q11 G11 SG ⊢
  generalize w10.heap.size = gg at G11 SG SG2 ⊢
  generalize w9.heap.size = lg at Q11 G11 SQ SG2
  clear w10 w9
  have HORD := Aside0.mk (show w.heap.size < gy ∧ gy + 1 ≤ lx ∧ lx ≤ gx ∧ gx + 1 ≤ lq ∧ lq ≤ lg ∧ lg ≤ gg ∧ gg + 1 = w11.heap.size from by have h1 := LY.out; have h2 := SY.out; have h3 := SX.out; have h4 := SX2.out; have h5 := SQ.out; have h6 := SG.out; have h7 := SG2.out; omega)
  have hg0 : w11.cell? ⟨gg, 0, none⟩ = some (.slice Ag0 x0.length cg0) := (blk_cell G11.out.b 0).trans rfl
  have hg1 : w11.cell? ⟨gg, 1, none⟩ = some (.slice Ag1 x1.length cg1) := (blk_cell G11.out.b 1).trans rfl
  have hy0 : w11.cell? ⟨gy, 0, none⟩ = some (.slice Ay0 y0.length cy0) := (blk_cell Y11.out.b 0).trans rfl
  have hy1 : w11.cell? ⟨gy, 1, none⟩ = some (.slice Ay1 y1.length cy1) := (blk_cell Y11.out.b 1).trans rfl
  go_wp2_with (fail)
  refine (laws_eqDesk.calls k _ _ x0 _ _ x1 _ _ y0 _ _ y1 true _ G11.out.o.r0 G11.out.o.h0 G11.out.o.r1 G11.out.o.le Y11.out.r0 Y11.out.h0 Y11.out.r1 Y11.out.h1 HE.out).mono ?_
  rintro e w12 ⟨rfl, hb⟩
  clear hg0 hg1 hy0 hy1
  have S12 := Aside0.mk (show gg + 1 ≤ w12.heap.size from by have h1 := HORD.out; have h2 := hb.size; omega)
  have X12 := Aside0.mk (X11.out.below hb)
  have Y12 := Aside0.mk (Y11.out.below hb)
  have Z12 := Aside0.mk (Z11.out.below hb)
  have Q12 := Aside0.mk (Kd.R_below Q11.out hb)
  have G12 := Aside0.mk (G11.out.below hb)
  clear X11 Y11 Z11 Q11 G11
  clear hb LY SY SX SX2 SQ SG SG2
  go_wp2_with (fail)
  have hb0_ := below_drew1 (Below.refl w12.heap.size w12)
  have S13 := Aside0.mk (show gg + 1 ≤ w12.drew.heap.size from S12.out)
  obtain ⟨ENV, hE, HL_, HBe, HCe, HOu⟩ : ∃ ENV : World → Prop, ENV w12.drew ∧ Aside0 (∀ W W', ENV W → Kept W W' (fun k => w12.drew.heap.size ≤ k) → Below w.heap.size w W' → ENV W') ∧ Aside0 (∀ W, ENV W → Below w.heap.size w W) ∧ Aside0 (∀ W, ENV W → W.cell? ⟨gx, 0, none⟩ = some (.slice Ax0 d0.length cx0) ∧ W.cell? ⟨gx, 1, none⟩ = some (.slice Ax1 d1.length cx1) ∧ W.cell? ⟨w.heap.size, 0, none⟩ = some (.slice A0_0 l0_0.length c0_0) ∧ W.cell? ⟨w.heap.size, 1, none⟩ = some (.slice A0_1 l0_1.length c0_1)) ∧ Aside0 (∀ W, ENV W → (XR w W A0_0 c0_0 l0_0 A0_1 c0_1 l0_1) ∧ (WD W gy (gy + 1) Ay0 cy0 y0 Ay1 cy1 y1) ∧ (OD W w.heap.size lx gx (gx + 1) Ax0 cx0 d0 Ax1 cx1 d1 fx vx) ∧ (OD W w.heap.size lg gg (gg + 1) Ag0 cg0 x0 Ag1 cg1 x1 fg vg) ∧ (Kd.R k52 52 W w.heap.size (fun k => lq ≤ k ∧ k < lg) (.slice Ae E.length ce) E)) := by
    have h1 := HORD.out
    have h3 := S13.out
    refine ⟨fun W => (XR w W A0_0 c0_0 l0_0 A0_1 c0_1 l0_1) ∧ (WD W gy (gy + 1) Ay0 cy0 y0 Ay1 cy1 y1) ∧ (OD W w.heap.size lx gx (gx + 1) Ax0 cx0 d0 Ax1 cx1 d1 fx vx) ∧ (OD W w.heap.size lg gg (gg + 1) Ag0 cg0 x0 Ag1 cg1 x1 fg vg) ∧ (Kd.R k52 52 W w.heap.size (fun k => lq ≤ k ∧ k < lg) (.slice Ae E.length ce) E), ⟨X12.out.below hb0_, Y12.out.below hb0_, Z12.out.below hb0_, G12.out.below hb0_, Kd.R_below Q12.out hb0_⟩, ⟨fun W W' h hk hb => ?_⟩, ⟨fun W h => h.1.bel⟩, ⟨fun W h => ⟨(blk_cell h.2.2.1.b 0).trans rfl, (blk_cell h.2.2.1.b 1).trans rfl, (blk_cell h.1.d 0).trans rfl, (blk_cell h.1.d 1).trans rfl⟩⟩, ⟨fun W h => h⟩⟩
    obtain ⟨p0, p1, p2, p3, p4⟩ := h
    exact ⟨p0.kept hb hk (fun k hk => by omega), p1.kept hk (fun k hk => by omega), p2.kept hk (fun k hk => .inl (by omega)), p3.kept hk (fun k hk => .inl (by omega)), Kd.R_step p4 (fun k hk' hlt => hk.2 k hlt (by omega))⟩
  clear hb0_ X12 Y12 Z12 G12 Q12
  have HC22 : Aside0 (∀ W, ENV W → Calls Try.prog 22 #[.agg #[.slice A0_0 l0_0.length c0_0, .slice A0_1 l0_1.length c0_1]] W fun e W' => ∃ (A0 : Option Addr) (c0 : Nat) (A1 : Option Addr) (c1 : Nat) (f : Nat → Nat) (vs : List Value), e = .returned (.agg #[.slice A0 d0.length c0, .slice A1 d1.length c1]) ∧ DOwn W' W.heap.size (fun _ => True) A0 c0 d0 A1 c1 d1 f vs ∧ Below W.heap.size W W') := ⟨fun W h => (toDesk_own (Kd.C_below HR0.out (HBe.out _ h)) HC0.out (Kd.C_below HR1.out (HBe.out _ h)) HC1.out HD.out)⟩
  refine start_ (n := 5) (S := ENV) (ds := []) #[false, false, false, false, false] (by kernel_rfl) rfl rfl hE (fun hHeld => ?_)
  clear hE
  have hE := hHeld
  generalize w12.drew = wa at hE HL_ hHeld S13 ⊢
  have hw : Below wa.heap.size wa wa := Below.refl _ _
  refine take_ (i := 0) (N := some 54) (v := ?_) (a' := ?_) #[true, false, false, false, false] rfl rfl (by kernel_rfl) (fun _ _ _ h => h) (Or.inl ⟨by rfl, ?_⟩) hHeld ?_ ?_
  rotate_left
  · intro w' hE_
    obtain ⟨t0_, t1_, t2_, t3_⟩ := HCe.out w' hE_
    go_simp
    with_reducible rfl
  rotate_left
  · simp only [putAll, Act.put, List.setIfInBounds_toArray, List.set_cons_zero, List.set_cons_succ, i64_w, i32_w]
    rfl
  refine take_ (i := 1) (N := some 55) (v := ?_) (a' := ?_) #[true, true, false, false, false] rfl rfl (by kernel_rfl) (fun _ _ _ h => h) (Or.inl ⟨by rfl, ?_⟩) hHeld ?_ ?_
  rotate_left
  · intro w' hE_
    obtain ⟨t0_, t1_, t2_, t3_⟩ := HCe.out w' hE_
    go_simp
    with_reducible rfl
  rotate_left
  · simp only [putAll, Act.put, List.setIfInBounds_toArray, List.set_cons_zero, List.set_cons_succ, i64_w, i32_w]
    rfl
  refine one_ (i := 2) (N := some 56) #[true, true, true, false, false] rfl rfl (by kernel_rfl) (by decide) (fun K hK => ?_)
  refine goes_ Try.func22 (by kernel_rfl) rfl #[.agg #[(.slice A0_0 l0_0.length c0_0), (.slice A0_1 l0_1.length c0_1)]] (by rfl) rfl rfl (by (try simp only [List.map_toArray, List.map_cons, List.map_nil]); first | done | rfl | (simp only [List.length_drop, List.length_take]; rfl)) ?_
  refine (HC22.out _ hE).mono ?_
  rintro e W_ ⟨A0, c0, A1, c1, f, vs, rfl, hD, hb_⟩
  refine ⟨_, rfl, ?_⟩
  replace hE := HL_.out _ _ hE (Kept.of_below hb_ _) (below_step (HBe.out _ hE) hb_)
  replace hw := below_step hw hb_
  clear hb_
  refine hK.out _ _ hE (fun hHeld => ?_)
  clear hK K
  refine norm_ (a' := ?_) ?_ ?_
  rotate_left
  · show Act.put _ (some 56) _ = _
    simp only [putAll, Act.put, List.setIfInBounds_toArray, List.set_cons_zero, List.set_cons_succ, i64_w, i32_w]
    rfl
  have HD2 := Aside0.mk hD
  clear hD
  refine one_ (i := 3) (N := some 57) #[true, true, true, true, false] rfl rfl (by kernel_rfl) (by decide) (fun K hK => ?_)
  refine goes_ Try.func23 (by kernel_rfl) rfl #[.agg #[(.slice Ax0 d0.length cx0), (.slice Ax1 d1.length cx1)], .agg #[.slice A0 d0.length c0, .slice A1 d1.length c1]] (by rfl) rfl rfl (by (try simp only [List.map_toArray, List.map_cons, List.map_nil]); first | done | rfl | (simp only [List.length_drop, List.length_take]; rfl)) ?_
  refine (laws_eqDesk.calls k _ _ d0 _ _ d1 _ _ d0 _ _ d1 true _ (HOu.out _ hE).2.2.1.o.r0 (HOu.out _ hE).2.2.1.o.h0 (HOu.out _ hE).2.2.1.o.r1 (HOu.out _ hE).2.2.1.o.le HD2.out.r0 HD2.out.h0 HD2.out.r1 HD2.out.le HE2.out).mono ?_
  rintro e W_ ⟨rfl, hb_⟩
  refine ⟨_, rfl, ?_⟩
  replace hE := HL_.out _ _ hE (Kept.of_below hb_ _) (below_step (HBe.out _ hE) hb_)
  replace hw := below_step hw hb_
  clear hb_
  refine hK.out _ _ hE (fun hHeld => ?_)
  clear hK K
  refine norm_ (a' := ?_) ?_ ?_
  rotate_left
  · show Act.put _ (some 57) _ = _
    simp only [putAll, Act.put, List.setIfInBounds_toArray, List.set_cons_zero, List.set_cons_succ, i64_w, i32_w]
    rfl
  refine pure_ (i := 4) (N := some 58) (v := ?_) (a' := ?_) #[true, true, true, true, true] rfl rfl (by kernel_rfl) (fun _ _ _ h => h) (Or.inl ⟨by rfl, ?_⟩) ?_ ?_
  rotate_left
  · intro w'
    go_simp
    with_reducible rfl
  rotate_left
  · simp only [putAll, Act.put, List.setIfInBounds_toArray, List.set_cons_zero, List.set_cons_succ, i64_w, i32_w]
    rfl
  refine done_ (by kernel_rfl) ?_
  have X14 := Aside0.mk (HOu.out _ hE).1
  have Y14 := Aside0.mk (HOu.out _ hE).2.1
  have Z14 := Aside0.mk (HOu.out _ hE).2.2.1
  have G14 := Aside0.mk (HOu.out _ hE).2.2.2.1
  have Q14 := Aside0.mk (HOu.out _ hE).2.2.2.2
  have S14 := Aside0.mk (Nat.le_trans S13.out hw.size)
  clear hE HL_ HBe HCe HOu HC22 HD2 hHeld hw
  go_wp2_with (fail)
  refine (laws_toDeedS.calls k _ _ l1 E _ (Kd.C_below HR2.out X14.out.bel) HC2.out HEE.out).mono ?_
  rintro e w15 ⟨v, rfl, hv, hb⟩
  obtain ⟨Af, cf, rfl⟩ := Kd.R_slice hv
  have X15 := Aside0.mk (X14.out.below hb)
  have Y15 := Aside0.mk (Y14.out.below hb)
  have Z15 := Aside0.mk (Z14.out.below hb)
  have G15 := Aside0.mk (G14.out.below hb)
  have Q15 := Aside0.mk (Kd.R_below Q14.out hb)
  clear X14 Y14 Z14 G14 Q14
  have T15 := Aside0.mk hv
  clear hv hb
  go_wp2_with (fail)
  refine (laws_eqDeedS.calls k _ _ E _ _ E true _ (Kd.R_reads' Q15.out).2.2 (Kd.R_reads' Q15.out).2.1 (Kd.R_reads' T15.out).2.2 (Kd.R_reads' T15.out).2.1 HE3.out).mono ?_
  rintro e w16 ⟨rfl, hb⟩
  have X16 := Aside0.mk (X15.out.below hb)
  have Y16 := Aside0.mk (Y15.out.below hb)
  have Z16 := Aside0.mk (Z15.out.below hb)
  have G16 := Aside0.mk (G15.out.below hb)
  have Q16 := Aside0.mk (Kd.R_below Q15.out hb)
  clear X15 Y15 Z15 G15 Q15
  clear hb T15
  have hx0 : w16.cell? ⟨gx, 0, none⟩ = some (.slice Ax0 d0.length cx0) := (blk_cell Z16.out.b 0).trans rfl
  have hx1 : w16.cell? ⟨gx, 1, none⟩ = some (.slice Ax1 d1.length cx1) := (blk_cell Z16.out.b 1).trans rfl
  go_wp2_with (fail)
  refine (laws_markDesk.calls k Ax0 cx0 d0 Ax1 cx1 d1 fx vx (fun k => k ≠ gx ∧ lx ≤ k ∧ k < gx + 1) 1 mk m0 m1 w _ X16.out.bel Z16.out.o HM.out).mono ?_
  rintro e w19 ⟨rfl, -, hb, hk, -⟩
  clear hx0 hx1
  have X19 := Aside0.mk (X16.out.kept hb hk (fun k hk => by have h1 := HORD.out; omega))
  have Y19 := Aside0.mk (Y16.out.kept hk (fun k hk => by have h1 := HORD.out; omega))
  have G19 := Aside0.mk (G16.out.kept hk (fun k hk => by have h1 := HORD.out; omega))
  have Q19 := Aside0.mk (Kd.R_step Q16.out (fun k hk' hlt => hk.2 k hlt (by have h1 := HORD.out; omega)))
  clear hb hk X16 Y16 Z16 G16 Q16
  go_wp2_with (fail)
  refine (laws_markDeedS.calls k (fun k => lq ≤ k ∧ k < lg) (.slice Ae E.length ce) E mk mk2 me w _ X19.out.bel Q19.out HM2.out).mono ?_
  rintro e w20 ⟨rfl, -, hb, hk⟩
  have X20 := Aside0.mk (X19.out.kept hb hk (fun k hk => by have h1 := HORD.out; omega))
  have Y20 := Aside0.mk (Y19.out.kept hk (fun k hk => by have h1 := HORD.out; omega))
  have G20 := Aside0.mk (G19.out.kept hk (fun k hk => by have h1 := HORD.out; omega))
  clear hb hk X19 Y19 G19 Q19
  have hg0 : w20.cell? ⟨gg, 0, none⟩ = some (.slice Ag0 x0.length cg0) := (blk_cell G20.out.b 0).trans rfl
  have hg1 : w20.cell? ⟨gg, 1, none⟩ = some (.slice Ag1 x1.length cg1) := (blk_cell G20.out.b 1).trans rfl
  have hy0 : w20.cell? ⟨gy, 0, none⟩ = some (.slice Ay0 y0.length cy0) := (blk_cell Y20.out.b 0).trans rfl
  have hy1 : w20.cell? ⟨gy, 1, none⟩ = some (.slice Ay1 y1.length cy1) := (blk_cell Y20.out.b 1).trans rfl
  have f0 : decide (mk2 < 0) = false := decide_eq_false (by have := HMK.out; omega)
  go_wp2_with (fail)
  refine (laws_eqDesk.calls k _ _ x0 _ _ x1 _ _ y0 _ _ y1 true _ G20.out.o.r0 G20.out.o.h0 G20.out.o.r1 G20.out.o.le Y20.out.r0 Y20.out.h0 Y20.out.r1 Y20.out.h1 HE.out).mono ?_
  rintro e w21 ⟨rfl, hb⟩
  clear hg0 hg1 hy0 hy1 f0
  have X21 := Aside0.mk (X20.out.below hb)
  have Y21 := Aside0.mk (Y20.out.below hb)
  have G21 := Aside0.mk (G20.out.below hb)
  clear X20 Y20 G20
  clear hb
  have hg0 : w21.cell? ⟨gg, 0, none⟩ = some (.slice Ag0 x0.length cg0) := (blk_cell G21.out.b 0).trans rfl
  have hg1 : w21.cell? ⟨gg, 1, none⟩ = some (.slice Ag1 x1.length cg1) := (blk_cell G21.out.b 1).trans rfl
  go_wp2_with (fail)
  refine (laws_markDesk.calls k Ag0 cg0 x0 Ag1 cg1 x1 fg vg (fun k => k ≠ gg ∧ lg ≤ k ∧ k < gg + 1) 1 q n0 n1 w _ X21.out.bel G21.out.o HN.out).mono ?_
  rintro e w24 ⟨rfl, hd, hb, hk, hle⟩
  clear hg0 hg1
  have X24 := Aside0.mk (X21.out.kept hb hk (fun k hk => by have h1 := HORD.out; omega))
  have Y24 := Aside0.mk (Y21.out.kept hk (fun k hk => by have h1 := HORD.out; omega))
  have G24 := Aside0.mk (G21.out.marked hd hk hle.symm (by have h1 := hd.rows.1; have h2 := G21.out.o.rows.1; simp only [List.length_cons] at h1 h2; omega))
  clear hb hk hd hle X21 Y21 G21
  have hg0 : w24.cell? ⟨gg, 0, none⟩ = some (.slice Ag0 n0.length cg0) := (blk_cell G24.out.b 0).trans rfl
  have hg1 : w24.cell? ⟨gg, 1, none⟩ = some (.slice Ag1 n1.length cg1) := (blk_cell G24.out.b 1).trans rfl
  go_wp2_with (fail)
  refine (laws_heldDesk.calls k _ _ n0 _ _ n1 1 q _ G24.out.o.r0 G24.out.o.h0 G24.out.o.r1 G24.out.o.le HQ.out).mono ?_
  rintro e w26 ⟨rfl, hb⟩
  clear hg0 hg1
  have f0 : decide (q < 0) = false := decide_eq_false (by have := HQ0.out; omega)
  have X26 := Aside0.mk (X24.out.below hb)
  have Y26 := Aside0.mk (Y24.out.below hb)
  have G26 := Aside0.mk (G24.out.below hb)
  clear X24 Y24 G24
  clear hb
  have hd0 : w26.cell? ⟨w.heap.size, 0, none⟩ = some (.slice A0_0 l0_0.length c0_0) := (blk_cell X26.out.d 0).trans rfl
  have hd1 : w26.cell? ⟨w.heap.size, 1, none⟩ = some (.slice A0_1 l0_1.length c0_1) := (blk_cell X26.out.d 1).trans rfl
  go_wp2_with (fail)
  refine (toDesk_own (Kd.C_below HR0.out X26.out.bel) HC0.out (Kd.C_below HR1.out X26.out.bel) HC1.out HD.out).mono ?_
  rintro e w27 ⟨Az0, cz0, Az1, cz1, fz, vz, rfl, hd, hb⟩
  clear hd0 hd1 f0
  have X27 := Aside0.mk (X26.out.below hb)
  have Y27 := Aside0.mk (Y26.out.below hb)
  have G27 := Aside0.mk (G26.out.below hb)
  clear X26 Y26 G26
  have T27 := Aside0.mk hd
  clear hd hb
  go_wp2_with (fail)
  refine (laws_toDeedS.calls k _ _ l1 E _ (Kd.C_below HR2.out X27.out.bel) HC2.out HEE.out).mono ?_
  rintro e w28 ⟨v, rfl, hv, hb⟩
  obtain ⟨Af2, cf2, rfl⟩ := Kd.R_slice hv
  have X28 := Aside0.mk (X27.out.below hb)
  have Y28 := Aside0.mk (Y27.out.below hb)
  have G28 := Aside0.mk (G27.out.below hb)
  have T28 := Aside0.mk (T27.out.below hb)
  clear X27 Y27 G27 T27
  have Q28 := Aside0.mk hv
  clear hv hb
  go_wp2_with (fail)
  refine (impl_DeskRun.calls k _ _ d0 _ _ d1 _ _ E x0 x1 ob _ T28.out.r0 T28.out.h0 T28.out.r1 T28.out.le (Kd.R_reads' Q28.out).2.2 (Kd.R_reads' Q28.out).2.1 HG.out).mono ?_
  rintro e w29 ⟨Ah0, ch0, Ah1, ch1, fh, vh, rfl, hd, hb⟩
  have X30 := Aside0.mk ((X28.out.below hb).below (below_alloc (Below.refl w29.heap.size w29) (.cells #[(.slice Ah0 x0.length ch0), (.slice Ah1 x1.length ch1)] 27)))
  have Y30 := Aside0.mk ((Y28.out.below hb).below (below_alloc (Below.refl w29.heap.size w29) (.cells #[(.slice Ah0 x0.length ch0), (.slice Ah1 x1.length ch1)] 27)))
  have G30 := Aside0.mk ((G28.out.below hb).below (below_alloc (Below.refl w29.heap.size w29) (.cells #[(.slice Ah0 x0.length ch0), (.slice Ah1 x1.length ch1)] 27)))
  have U30 := Aside0.mk (OD.mk' (base := w.heap.size) hd X28.out.bel.size hb.size)
  clear hd hb X28 Y28 G28 T28 Q28
  go_upto_region 32 with (fail)
  generalize w29.alloc (.cells #[(.slice Ah0 x0.length ch0), (.slice Ah1 x1.length ch1)] 27) = w30 at X30 Y30 G30 U30 ⊢
  generalize w29.heap.size = gh at U30 ⊢
  have hh0 : w30.cell? ⟨gh, 0, none⟩ = some (.slice Ah0 x0.length ch0) := (blk_cell U30.out.b 0).trans rfl
  have hh1 : w30.cell? ⟨gh, 1, none⟩ = some (.slice Ah1 x1.length ch1) := (blk_cell U30.out.b 1).trans rfl
  have hy0 : w30.cell? ⟨gy, 0, none⟩ = some (.slice Ay0 y0.length cy0) := (blk_cell Y30.out.b 0).trans rfl
  have hy1 : w30.cell? ⟨gy, 1, none⟩ = some (.slice Ay1 y1.length cy1) := (blk_cell Y30.out.b 1).trans rfl
  go_wp2_with (fail)
  refine (laws_eqDesk.calls k _ _ x0 _ _ x1 _ _ y0 _ _ y1 true _ U30.out.o.r0 U30.out.o.h0 U30.out.o.r1 U30.out.o.le Y30.out.r0 Y30.out.h0 Y30.out.r1 Y30.out.h1 HE.out).mono ?_
  rintro e w31 ⟨rfl, hb⟩
  clear hh0 hh1 hy0 hy1
  have X31 := Aside0.mk (X30.out.below hb)
  have G31 := Aside0.mk (G30.out.below hb)
  clear X30 G30
  clear hb U30 Y30
  have hg0 : w31.cell? ⟨gg, 0, none⟩ = some (.slice Ag0 n0.length cg0) := (blk_cell G31.out.b 0).trans rfl
  have hg1 : w31.cell? ⟨gg, 1, none⟩ = some (.slice Ag1 n1.length cg1) := (blk_cell G31.out.b 1).trans rfl
  go_wp2_with (fail)
  refine (laws_heldDesk.calls k _ _ n0 _ _ n1 1 q _ G31.out.o.r0 G31.out.o.h0 G31.out.o.r1 G31.out.o.le HQ.out).mono ?_
  rintro e w32 ⟨rfl, hb⟩
  clear hg0 hg1
  have f0 : decide (q < 0) = false := decide_eq_false (by have := HQ0.out; omega)
  clear G31
  have X32 := Aside0.mk (X31.out.below hb)
  clear X31
  clear hb
  go_wp2
  go_ret
  exact ⟨rfl, X32.out.bel⟩
/-- THE ONE PURE STATEMENT of laws_FnExactDeskRun. -/
def laws_FnExactDeskRun.Pure : Prop := ∀ (l0_0 : List (S79)) (l0_1 : List (List (S79))) (l1 : List (S57)), (l0_0.length ≤ maxLen ∧ ∀ y1_ : S79, y1_ ∈ l0_0 → ((Lit.int .i64 y1_.f0).wf = true ∧ (Lit.int .i64 y1_.f1).wf = true)) → (l0_1.length ≤ maxLen ∧ ∀ y1_ : List (S79), y1_ ∈ l0_1 → (y1_.length ≤ maxLen ∧ ∀ y2_ : S79, y2_ ∈ y1_ → ((Lit.int .i64 y2_.f0).wf = true ∧ (Lit.int .i64 y2_.f1).wf = true))) → (l1.length ≤ maxLen ∧ ∀ y1_ : S57, y1_ ∈ l1 → ((Lit.int .i64 y1_.f0).wf = true ∧ (Lit.int .i64 y1_.f1).wf = true ∧ (Lit.int .i64 y1_.f2).wf = true)) → ∃ k, laws_FnExactDeskRun.f k l0_0 l0_1 l1 = some true

end Go.Proofs.Ytocnifoohecmeaa.PFnExactDeskRun
