-- Printed by this claim's own program; Lean checks it.
import Derived.Test.YtocnifoohecmeaaPFnExactDeskDox0
import Derived.Test.YtocnifoohecmeaaPFnExactDeskDox2
import Derived.Test.YtocnifoohecmeaaPFnExactDeskDox3
import Derived.Test.YtocnifoohecmeaaPFnExactDeskDox4
import Derived.Test.YtocnifoohecmeaaPFnExactDeskDox7
import Derived.Test.YtocnifoohecmeaaPFnExactDeskDox12
namespace Go.Proofs.Ytocnifoohecmeaa.PFnExactDeskDo
open Go.RowKit Go.Proofs.YtocnifoohecmeaaW.PrintWords Go.Proofs.YtocnifoohecmeaaW.PrintLast Go.Proofs.YtocnifoohecmeaaW.PrintMore
attribute [local go_sem] max2_int min2_int max_two min_two max_three min_three max_four min_four   -- for this text's walks alone
set_option linter.unusedVariables false
set_option linter.unusedSimpArgs false

/-! ### laws_FnExactDeskDo: function 8 -/
def laws_FnExactDeskDo.f (k : Nat) (l0_0 : List (S79)) (l0_1 : List (List (S79))) (a1_0 : Int) (a1_1 : Int) (a1_2 : Int) : Option Bool :=
  (laws_szDesk.f k l0_0 l0_1 1048576).bind fun left => if left < 0 then some true else
  (laws_toDesk.f k l0_0 l0_1).bind fun D => (spec_DeskDo.f k D.1 D.2 a1_0 a1_1 a1_2).bind fun Y => (impl_DeskDo.f k D.1 D.2 a1_0 a1_1 a1_2).bind fun G =>
  (laws_eqDesk.f k G.1 G.2.1 Y.1 Y.2.1).bind fun e1 => if e1 = true ∧ G.2.2 = Y.2.2 then
    (laws_eqDesk.f k D.1 D.2 D.1 D.2).bind fun e2 => if e2 = true then
      (laws_markDesk.f k D.1 D.2 1).bind fun M => if 0 ≤ M.1 then
        (laws_markDesk.f k G.1 G.2.1 1).bind fun N => (laws_heldDesk.f k N.2.1 N.2.2 1).bind fun q => if q = N.1 ∧ 0 ≤ q then some true else none
      else none
    else none
  else none
/-- What is kept of the start. -/
structure XS (w W : World) (A0 : Option Addr) (c0 : Nat) (l0 : List S79) (A1 : Option Addr) (c1 : Nat) (l1 : List (List S79)) (a b c : Int) : Prop where
  bel : Below w.heap.size w W
  d : W.heap[w.heap.size]? = some (.cells #[.slice A0 l0.length c0, .slice A1 l1.length c1] 39 (0, 0))
  a : W.heap[w.heap.size + 1]? = some (.cells #[.int .i64 a, .int .i64 b, .int .i64 c] 57 (0, 0))
theorem XS.below {w W W' : World} {A0 : Option Addr} {c0 : Nat} {l0 : List S79} {A1 : Option Addr} {c1 : Nat} {l1 : List (List S79)} {a b c : Int} (h : XS w W A0 c0 l0 A1 c1 l1 a b c) (hb : Below W.heap.size W W') : XS w W' A0 c0 l0 A1 c1 l1 a b c := ⟨below_step h.bel hb, (hb.block _ (blk_lt h.d)).trans h.d, (hb.block _ (blk_lt h.a)).trans h.a⟩
theorem XS.kept {w W W' : World} {A0 : Option Addr} {c0 : Nat} {l0 : List S79} {A1 : Option Addr} {c1 : Nat} {l1 : List (List S79)} {a b c : Int} {P : Nat → Prop} (h : XS w W A0 c0 l0 A1 c1 l1 a b c) (hb : Below w.heap.size w W') (hk : Kept W W' P) (hP : ∀ k, P k → w.heap.size + 1 < k) : XS w W' A0 c0 l0 A1 c1 l1 a b c := ⟨hb, blk_kept h.d hk (fun h => by have := hP _ h; omega), blk_kept h.a hk (fun h => by have := hP _ h; omega)⟩
/-- A desk that is read, in a box; all it needs lies below N. -/
structure WD (W : World) (g N : Nat) (A0 : Option Addr) (c0 : Nat) (l0 : List S50) (A1 : Option Addr) (c1 : Nat) (l1 : List (List S50)) : Prop where
  b : W.heap[g]? = some (.cells #[.slice A0 l0.length c0, .slice A1 l1.length c1] 27 (0, 0))
  v0 : Kd.V k50 50 W 0 (fun k => k < N) (.slice A0 l0.length c0) l0
  v1 : Kd.V (Kd.slice 50 k50) 23 W 0 (fun k => k < N) (.slice A1 l1.length c1) l1
  n : g < N
theorem WD.kept {W W' : World} {g N : Nat} {A0 : Option Addr} {c0 : Nat} {l0 : List S50} {A1 : Option Addr} {c1 : Nat} {l1 : List (List S50)} {P : Nat → Prop} (h : WD W g N A0 c0 l0 A1 c1 l1) (hk : Kept W W' P) (hP : ∀ k, P k → N ≤ k) : WD W' g N A0 c0 l0 A1 c1 l1 :=
  ⟨blk_kept h.b hk (fun hp => by have := hP _ hp; have := h.n; omega), Kd.V_map h.v0 (fun _ hf => Kd.F_step hf (fun k hk' hlt => hk.2 k hlt (fun h => by have := hP _ h; omega))), Kd.V_map h.v1 (fun _ hf => Kd.F_step hf (fun k hk' hlt => hk.2 k hlt (fun h => by have := hP _ h; omega))), h.n⟩
theorem WD.below {W W' : World} {g N : Nat} {A0 : Option Addr} {c0 : Nat} {l0 : List S50} {A1 : Option Addr} {c1 : Nat} {l1 : List (List S50)} (h : WD W g N A0 c0 l0 A1 c1 l1) (hb : Below W.heap.size W W') : WD W' g N A0 c0 l0 A1 c1 l1 := h.kept (Kept.of_below hb (fun _ => False)) (fun _ h => h.elim)
theorem WD.put {W : World} {g : Nat} {A0 : Option Addr} {c0 : Nat} {l0 : List S50} {A1 : Option Addr} {c1 : Nat} {l1 : List (List S50)} {P Q : Nat → Prop} (hb : W.heap[g]? = some (.cells #[.slice none 0 0, .slice none 0 0] 27 (0, 0))) (h0 : Kd.V k50 50 W 0 (fun k => k ≠ g ∧ P k) (.slice A0 l0.length c0) l0) (h1 : Kd.V (Kd.slice 50 k50) 23 W 0 (fun k => k ≠ g ∧ Q k) (.slice A1 l1.length c1) l1) : WD ((W.setCell ⟨g, 0, none⟩ (.slice A0 l0.length c0)).setCell ⟨g, 1, none⟩ (.slice A1 l1.length c1)) g W.heap.size A0 c0 l0 A1 c1 l1 :=
  ⟨res_put hb, Kd.V_mono (Kd.V_far (p := ⟨g, 1, none⟩) (Kd.V_far (p := ⟨g, 0, none⟩) (Kd.V_map h0 (fun _ hf => Kd.F_bound hf)) (fun _ hk => hk.1.1) _) (fun _ hk => hk.1.1) _) (fun _ hk => hk.2), Kd.V_mono (Kd.V_far (p := ⟨g, 1, none⟩) (Kd.V_far (p := ⟨g, 0, none⟩) (Kd.V_map h1 (fun _ hf => Kd.F_bound hf)) (fun _ hk => hk.1.1) _) (fun _ hk => hk.1.1) _) (fun _ hk => hk.2), blk_lt hb⟩
theorem WD.r0 {W : World} {g N : Nat} {A0 : Option Addr} {c0 : Nat} {l0 : List S50} {A1 : Option Addr} {c1 : Nat} {l1 : List (List S50)} (h : WD W g N A0 c0 l0 A1 c1 l1) : Kd.C k50 W A0 l0.length l0 := (Kd.V_reads' h.v0).2.2
theorem WD.h0 {W : World} {g N : Nat} {A0 : Option Addr} {c0 : Nat} {l0 : List S50} {A1 : Option Addr} {c1 : Nat} {l1 : List (List S50)} (h : WD W g N A0 c0 l0 A1 c1 l1) : l0.length ≤ c0 := (Kd.V_reads' h.v0).2.1
theorem WD.r1 {W : World} {g N : Nat} {A0 : Option Addr} {c0 : Nat} {l0 : List S50} {A1 : Option Addr} {c1 : Nat} {l1 : List (List S50)} (h : WD W g N A0 c0 l0 A1 c1 l1) : Kd.C (Kd.slice 50 k50) W A1 l1.length l1 := (Kd.V_reads' h.v1).2.2
theorem WD.h1 {W : World} {g N : Nat} {A0 : Option Addr} {c0 : Nat} {l0 : List S50} {A1 : Option Addr} {c1 : Nat} {l1 : List (List S50)} (h : WD W g N A0 c0 l0 A1 c1 l1) : l1.length ≤ c1 := (Kd.V_reads' h.v1).2.1
/-- What is told of a desk of one's own, as a desk that is read. -/
theorem DOwn.v0 {W : World} {base : Nat} {ok : Nat → Prop} {A0 : Option Addr} {c0 : Nat} {l0 : List S50} {A1 : Option Addr} {c1 : Nat} {l1 : List (List S50)} {f : Nat → Nat} {vs : List Value} (h : DOwn W base ok A0 c0 l0 A1 c1 l1 f vs) : Kd.V k50 50 W 0 ok (.slice A0 l0.length c0) l0 := Kd.V_mono (Kd.R_V (h.rows.2 0 _ _ rfl rfl)) (fun _ hk => hk.1)
theorem DOwn.v1 {W : World} {base : Nat} {ok : Nat → Prop} {A0 : Option Addr} {c0 : Nat} {l0 : List S50} {A1 : Option Addr} {c1 : Nat} {l1 : List (List S50)} {f : Nat → Nat} {vs : List Value} (h : DOwn W base ok A0 c0 l0 A1 c1 l1 f vs) : Kd.V (Kd.slice 50 k50) 23 W 0 ok (.slice A1 l1.length c1) l1 := Kd.V_mk h.le (fun W' hW => (h.step (W' := W') hW).r1)
/-- A desk that is one's own, in a box: its rows lie from lo on and below N. -/
structure OD (W : World) (base lo g N : Nat) (A0 : Option Addr) (c0 : Nat) (l0 : List S50) (A1 : Option Addr) (c1 : Nat) (l1 : List (List S50)) (f : Nat → Nat) (vs : List Value) : Prop where
  b : W.heap[g]? = some (.cells #[.slice A0 l0.length c0, .slice A1 l1.length c1] 27 (0, 0))
  o : DOwn W base (fun k => k ≠ g ∧ lo ≤ k ∧ k < N) A0 c0 l0 A1 c1 l1 f vs
  n : lo ≤ g ∧ g < N
theorem OD.kept {W W' : World} {base lo g N : Nat} {A0 : Option Addr} {c0 : Nat} {l0 : List S50} {A1 : Option Addr} {c1 : Nat} {l1 : List (List S50)} {f : Nat → Nat} {vs : List Value} {P : Nat → Prop} (h : OD W base lo g N A0 c0 l0 A1 c1 l1 f vs) (hk : Kept W W' P) (hP : ∀ k, P k → N ≤ k ∨ k < lo) : OD W' base lo g N A0 c0 l0 A1 c1 l1 f vs :=
  ⟨blk_kept h.b hk (fun hp => by have := hP _ hp; have := h.n; omega), h.o.step (fun k hk' hlt => hk.2 k hlt (fun h => by have := hP _ h; omega)), h.n⟩
theorem OD.below {W W' : World} {base lo g N : Nat} {A0 : Option Addr} {c0 : Nat} {l0 : List S50} {A1 : Option Addr} {c1 : Nat} {l1 : List (List S50)} {f : Nat → Nat} {vs : List Value} (h : OD W base lo g N A0 c0 l0 A1 c1 l1 f vs) (hb : Below W.heap.size W W') : OD W' base lo g N A0 c0 l0 A1 c1 l1 f vs := h.kept (Kept.of_below hb (fun _ => False)) (fun _ h => h.elim)
theorem OD.mk' {W : World} {base lo : Nat} {ok : Nat → Prop} {A0 : Option Addr} {c0 : Nat} {l0 : List S50} {A1 : Option Addr} {c1 : Nat} {l1 : List (List S50)} {f : Nat → Nat} {vs : List Value} (h : DOwn W lo ok A0 c0 l0 A1 c1 l1 f vs) (hb : base ≤ lo) (hl : lo ≤ W.heap.size) : OD (W.alloc (.cells #[.slice A0 l0.length c0, .slice A1 l1.length c1] 27)) base lo W.heap.size (W.heap.size + 1) A0 c0 l0 A1 c1 l1 f vs :=
  ⟨blk_new _ _, (h.mono (fun k h1 h2 _ => ⟨by omega, h1, by omega⟩) hb).below (below_alloc (Below.refl _ _) _), hl, by omega⟩
theorem OD.put {W : World} {base lo g : Nat} {A0 : Option Addr} {c0 : Nat} {l0 : List S50} {A1 : Option Addr} {c1 : Nat} {l1 : List (List S50)} {f : Nat → Nat} {vs : List Value} (hb : W.heap[g]? = some (.cells #[.slice none 0 0, .slice none 0 0] 27 (0, 0))) (h : DOwn W lo (fun k => k ≠ g ∧ lo ≤ k) A0 c0 l0 A1 c1 l1 f vs) (hbl : base ≤ lo) (hl : lo ≤ g) : OD ((W.setCell ⟨g, 0, none⟩ (.slice A0 l0.length c0)).setCell ⟨g, 1, none⟩ (.slice A1 l1.length c1)) base lo g W.heap.size A0 c0 l0 A1 c1 l1 f vs :=
  ⟨res_put hb, (h.mono (ok' := fun k => k ≠ g ∧ lo ≤ k ∧ k < W.heap.size) (fun k h1 h2 h3 => ⟨h3.1, h3.2, h2⟩) hbl).step (fun k hk _ => (Below.heap_setCell _ ⟨g, 1, none⟩ _ k hk.1).trans (Below.heap_setCell _ ⟨g, 0, none⟩ _ k hk.1)), hl, blk_lt hb⟩
theorem OD.marked {W W' : World} {base lo g N : Nat} {A0 : Option Addr} {c0 : Nat} {l0 : List S50} {A1 : Option Addr} {c1 : Nat} {l1 : List (List S50)} {m0 : List S50} {m1 : List (List S50)} {f : Nat → Nat} {vs : List Value} (h : OD W base lo g N A0 c0 l0 A1 c1 l1 f vs) (hd : DOwn W' base (fun k => k ≠ g ∧ lo ≤ k ∧ k < N) A0 c0 m0 A1 c1 m1 f vs) (hk : Kept W W' (fun k => k ≠ g ∧ lo ≤ k ∧ k < N)) (h0 : m0.length = l0.length) (h1 : m1.length = l1.length) : OD W' base lo g N A0 c0 m0 A1 c1 m1 f vs :=
  ⟨by rw [h0, h1]; exact blk_kept h.b hk (fun h => h.1 rfl), hd, h.n⟩
theorem toDesk_own {k : Nat} {A0_0 : Option Addr} {c0_0 : Nat} {l0_0 : List (S79)} {A0_1 : Option Addr} {c0_1 : Nat} {l0_1 : List (List (S79))} {r1 : List (S50)} {r2 : List (List (S50))} {w : World} (hr0_0 : Kd.C k79 w A0_0 l0_0.length l0_0) (hc0_0 : l0_0.length ≤ c0_0) (hr0_1 : Kd.C (Kd.slice 79 k79) w A0_1 l0_1.length l0_1) (hc0_1 : l0_1.length ≤ c0_1) (h : laws_toDesk.f k l0_0 l0_1 = some (r1, r2)) :
    Calls Try.prog 22 #[.agg #[.slice A0_0 l0_0.length c0_0, .slice A0_1 l0_1.length c0_1]] w fun e w' => ∃ (A0 : Option Addr) (c0 : Nat) (A1 : Option Addr) (c1 : Nat) (f : Nat → Nat) (vs : List Value), e = .returned (.agg #[.slice A0 r1.length c0, .slice A1 r2.length c1]) ∧ DOwn w' w.heap.size (fun _ => True) A0 c0 r1 A1 c1 r2 f vs ∧ Below w.heap.size w w' := by
  refine (laws_toDesk.calls k _ _ l0_0 _ _ l0_1 r1 r2 w hr0_0 hc0_0 hr0_1 hc0_1 h).mono ?_
  rintro e w' ⟨v0, v1, rfl, hv, hs, hb⟩
  obtain ⟨A0, c0, rfl⟩ := Kd.R_slice hv
  obtain ⟨A1, c1, rfl⟩ := Kd.S_slice hs
  obtain ⟨f, vs, hd⟩ := DOwn.of_S (Kd.R_mono hv (fun _ h => h)) (Kd.S_mono hs (fun _ h => ⟨trivial, h⟩))
  exact ⟨A0, c0, A1, c1, f, vs, rfl, hd, hb⟩
def laws_FnExactDeskDo.T5 : Bool × List (List Nat × List Nat) := (true, [([], []), ([0], [0]), ([], []), ([2, 1], [2]), ([1, 3, 3], [1, 3]), ([4], [4]), ([5], [5]), ([5], [5]), ([], []), ([8, 6, 4, 0, 1, 2, 3, 4, 5, 6, 8], [6, 8]), ([7, 9, 0, 1, 2, 3, 4, 5, 6, 7, 8, 9], [7])])
def laws_FnExactDeskDo.B5 : List Nat := [0, 1, 0, 7, 15, 31, 63, 63, 0, 383, 1023]
theorem laws_FnExactDeskDo.tab5 : rtab .any (opsOf Try.f8 5) = laws_FnExactDeskDo.T5 := by kernel_rfl
theorem laws_FnExactDeskDo.bits5 : waitsOk laws_FnExactDeskDo.T5.2 laws_FnExactDeskDo.B5 = true := by kernel_rfl
def laws_FnExactDeskDo.T7 : Bool × List (List Nat × List Nat) := (true, [([], []), ([], []), ([1], [1]), ([0, 2, 2], [0, 2]), ([3], [3]), ([4], [4]), ([4], [4]), ([], []), ([7, 5, 3, 0, 1, 2, 3, 4, 5, 7], [5, 7]), ([6, 8, 0, 1, 2, 3, 4, 5, 6, 7, 8], [6])])
def laws_FnExactDeskDo.B7 : List Nat := [0, 0, 2, 7, 15, 31, 31, 0, 191, 511]
theorem laws_FnExactDeskDo.tab7 : rtab .any (opsOf Try.f8 7) = laws_FnExactDeskDo.T7 := by kernel_rfl
theorem laws_FnExactDeskDo.bits7 : waitsOk laws_FnExactDeskDo.T7.2 laws_FnExactDeskDo.B7 = true := by kernel_rfl
def laws_FnExactDeskDo.T24 : Bool × List (List Nat × List Nat) := (true, [([], []), ([0], [0]), ([], []), ([2, 1], [2]), ([1, 3, 3], [1, 3]), ([4], [4]), ([5], [5]), ([5], [5]), ([], []), ([8, 6, 4, 0, 1, 2, 3, 4, 5, 6, 8], [6, 8]), ([7, 9, 0, 1, 2, 3, 4, 5, 6, 7, 8, 9], [7])])
def laws_FnExactDeskDo.B24 : List Nat := [0, 1, 0, 7, 15, 31, 63, 63, 0, 383, 1023]
theorem laws_FnExactDeskDo.tab24 : rtab .any (opsOf Try.f8 24) = laws_FnExactDeskDo.T24 := by kernel_rfl
theorem laws_FnExactDeskDo.bits24 : waitsOk laws_FnExactDeskDo.T24.2 laws_FnExactDeskDo.B24 = true := by kernel_rfl
set_option maxHeartbeats 8000000 in
set_option maxRecDepth 100000 in
theorem laws_FnExactDeskDo.calls (k : Nat) (A0_0 : Option Addr) (c0_0 : Nat) (l0_0 : List (S79)) (A0_1 : Option Addr) (c0_1 : Nat) (l0_1 : List (List (S79))) (a1_0 : Int) (a1_1 : Int) (a1_2 : Int) (r : Bool) (w : World) (hr0_0 : Kd.C k79 w A0_0 l0_0.length l0_0) (hc0_0 : l0_0.length ≤ c0_0) (hr0_1 : Kd.C (Kd.slice 79 k79) w A0_1 l0_1.length l0_1) (hc0_1 : l0_1.length ≤ c0_1) (h : laws_FnExactDeskDo.f k l0_0 l0_1 a1_0 a1_1 a1_2 = some r) :
    Calls Try.prog 8 #[.agg #[.slice A0_0 l0_0.length c0_0, .slice A0_1 l0_1.length c0_1], .agg #[.int .i64 a1_0, .int .i64 a1_1, .int .i64 a1_2]] w fun e w' => e = .returned (.bool r) ∧ Below w.heap.size w w' := by
  have hu39 := Try.underlying39
  have hu57 := Try.underlying57
  have hu27 := Try.underlying27
  unfold laws_FnExactDeskDo.f at h
  obtain ⟨left, hSz, h1⟩ := Option.bind_eq_some_iff.mp h
  have HSZ := Aside0.mk hSz
  have HR0 := Aside0.mk hr0_0
  have HC0 := Aside0.mk hc0_0
  have HR1 := Aside0.mk hr0_1
  have HC1 := Aside0.mk hc0_1
  clear h hSz hr0_0 hc0_0 hr0_1 hc0_1
  go_enter Try.func8, Try.ntmps8
  go_wp2_with (fail)
  have X0 := Aside0.mk (XS.mk (below_alloc (below_alloc (Below.refl w.heap.size w) (.cells #[.slice A0_0 l0_0.length c0_0, .slice A0_1 l0_1.length c0_1] 39)) (.cells #[.int .i64 a1_0, .int .i64 a1_1, .int .i64 a1_2] 57)) (blk_alloc1 (o' := .cells #[.int .i64 a1_0, .int .i64 a1_1, .int .i64 a1_2] 57) (blk_new w (.cells #[.slice A0_0 l0_0.length c0_0, .slice A0_1 l0_1.length c0_1] 39))) (by have := blk_new (w.alloc (.cells #[.slice A0_0 l0_0.length c0_0, .slice A0_1 l0_1.length c0_1] 39)) (.cells #[.int .i64 a1_0, .int .i64 a1_1, .int .i64 a1_2] 57); rwa [size_alloc1] at this))
  refine (laws_szDesk.calls k _ _ l0_0 _ _ l0_1 1048576 left _ (Kd.C_below HR0.out X0.out.bel) HC0.out (Kd.C_below HR1.out X0.out.bel) HC1.out HSZ.out).mono ?_
  rintro e w1 ⟨rfl, hb⟩
  have X1 := Aside0.mk (X0.out.below hb)
  clear hb X0 HSZ
  by_cases hneg : left < 0
  · rw [if_pos hneg] at h1
    obtain rfl := Option.some.inj h1
    have f0 : decide (left < 0) = true := decide_eq_true hneg
    clear hneg h1
    go_wp2
    go_ret
    exact ⟨rfl, X1.out.bel⟩
  · rw [if_neg hneg] at h1
    have f0 : decide (left < 0) = false := decide_eq_false hneg
    clear hneg
    obtain ⟨⟨d0, d1⟩, hD, g1⟩ := Option.bind_eq_some_iff.mp h1
    obtain ⟨⟨y0, y1, bo⟩, hY, g2⟩ := Option.bind_eq_some_iff.mp g1
    obtain ⟨⟨x0, x1, ob⟩, hG, g3⟩ := Option.bind_eq_some_iff.mp g2
    obtain ⟨e1, hE, g4⟩ := Option.bind_eq_some_iff.mp g3
    have hc : e1 = true ∧ ob = bo := Decidable.byContradiction fun hc => by rw [if_neg hc] at g4; cases g4
    rw [if_pos hc] at g4
    obtain ⟨he, ho⟩ := hc
    subst he
    subst ho
    obtain ⟨e2, hE2, g5⟩ := Option.bind_eq_some_iff.mp g4
    have hc : e2 = true := Decidable.byContradiction fun hc => by rw [if_neg hc] at g5; cases g5
    rw [if_pos hc] at g5
    subst hc
    obtain ⟨⟨mk, m0, m1⟩, hM, g6⟩ := Option.bind_eq_some_iff.mp g5
    have hmk : 0 ≤ mk := Decidable.byContradiction fun hc => by rw [if_neg hc] at g6; cases g6
    rw [if_pos hmk] at g6
    obtain ⟨⟨nk, n0, n1⟩, hN, g7⟩ := Option.bind_eq_some_iff.mp g6
    obtain ⟨q, hQ, g8⟩ := Option.bind_eq_some_iff.mp g7
    have hq : q = nk ∧ 0 ≤ q := Decidable.byContradiction fun hc => by rw [if_neg hc] at g8; cases g8
    rw [if_pos hq] at g8
    obtain rfl := Option.some.inj g8
    obtain ⟨hq, hq0⟩ := hq
    subst hq
    dsimp only at hY hG hE hM hN hQ
    have HD := Aside0.mk hD
    have HY := Aside0.mk hY
    have HG := Aside0.mk hG
    have HE := Aside0.mk hE
    have HE2 := Aside0.mk hE2
    have HM := Aside0.mk hM
    have HN := Aside0.mk hN
    have HQ := Aside0.mk hQ
    have HMK := Aside0.mk hmk
    have HQ0 := Aside0.mk hq0
    clear h1 g1 g2 g3 g4 g5 g6 g7 g8 hD hY hG hE hE2 hM hN hQ hmk hq0
    have hd0 : w1.cell? ⟨w.heap.size, 0, none⟩ = some (.slice A0_0 l0_0.length c0_0) := (blk_cell X1.out.d 0).trans rfl
    have hd1 : w1.cell? ⟨w.heap.size, 1, none⟩ = some (.slice A0_1 l0_1.length c0_1) := (blk_cell X1.out.d 1).trans rfl
    go_wp2_with (fail)
    clear hd0 hd1 f0
    have MW0 := Aside0.mk (blk_lt X1.out.a)
    have hb0_ := below_drew1 (Below.refl w1.heap.size w1)
    obtain ⟨ENV, hE, HL_, HBe, HCe, HOu⟩ : ∃ ENV : World → Prop, ENV w1.drew ∧ Aside0 (∀ W W', ENV W → Kept W W' (fun k => w1.drew.heap.size ≤ k) → Below w.heap.size w W' → ENV W') ∧ Aside0 (∀ W, ENV W → Below w.heap.size w W) ∧ Aside0 (∀ W, ENV W → W.cell? ⟨w.heap.size, 0, none⟩ = some (.slice A0_0 l0_0.length c0_0) ∧ W.cell? ⟨w.heap.size, 1, none⟩ = some (.slice A0_1 l0_1.length c0_1) ∧ W.cell? ⟨w.heap.size + 1, 0, none⟩ = some (.int .i64 a1_0) ∧ W.cell? ⟨w.heap.size + 1, 1, none⟩ = some (.int .i64 a1_1) ∧ W.cell? ⟨w.heap.size + 1, 2, none⟩ = some (.int .i64 a1_2)) ∧ Aside0 (∀ W, ENV W → (XS w W A0_0 c0_0 l0_0 A0_1 c0_1 l0_1 a1_0 a1_1 a1_2)) := by
      refine ⟨fun W => (XS w W A0_0 c0_0 l0_0 A0_1 c0_1 l0_1 a1_0 a1_1 a1_2), X1.out.below hb0_, ⟨fun W W' h hk hb => ?_⟩, ⟨fun W h => ?_⟩, ⟨fun W h => ?_⟩, ⟨fun W h => h⟩⟩
      · have p0 := h
        exact p0.kept hb hk (fun k hk => by have h1 := MW0.out; have h2 : w1.drew.heap.size = w1.heap.size := rfl; omega)
      · have p0 := h
        exact p0.bel
      · have p0 := h
        exact ⟨(blk_cell p0.d 0).trans rfl, (blk_cell p0.d 1).trans rfl, (blk_cell p0.a 0).trans rfl, (blk_cell p0.a 1).trans rfl, (blk_cell p0.a 2).trans rfl⟩
    clear hb0_
    refine start_ (n := 11) (S := ENV) (ds := []) #[false, false, false, false, false, false, false, false, false, false, false] (by kernel_rfl) rfl rfl hE (fun hHeld => ?_); refine with_tabW laws_FnExactDeskDo.tab5 laws_FnExactDeskDo.bits5 (fun HT_ HW_ => ?_)
    clear hE
    have hE := hHeld
    have MW := Aside0.mk (show w.heap.size + 1 < w1.drew.heap.size from MW0.out)
    clear MW0
    generalize w1.drew = wa at hE HL_ MW hHeld  ⊢
    have hw : Below wa.heap.size wa wa := Below.refl _ _
    have HC22 : Aside0 (∀ W, ENV W → Calls Try.prog 22 #[.agg #[.slice A0_0 l0_0.length c0_0, .slice A0_1 l0_1.length c0_1]] W fun e W' => ∃ (A0 : Option Addr) (c0 : Nat) (A1 : Option Addr) (c1 : Nat) (f : Nat → Nat) (vs : List Value), e = .returned (.agg #[.slice A0 d0.length c0, .slice A1 d1.length c1]) ∧ DOwn W' W.heap.size (fun _ => True) A0 c0 d0 A1 c1 d1 f vs ∧ Below W.heap.size W W') := ⟨fun W h => toDesk_own (Kd.C_below HR0.out (HBe.out _ h)) HC0.out (Kd.C_below HR1.out (HBe.out _ h)) HC1.out HD.out⟩
    have HC35 : Aside0 (∀ W, Calls Try.prog 35 #[.agg #[.int .i64 a1_0, .int .i64 a1_1, .int .i64 a1_2]] W fun e W' => e = .returned (.agg #[.int .i64 a1_0, .int .i64 a1_1, .int .i64 a1_2]) ∧ Below W.heap.size W W') := ⟨fun W => laws_toDeed.calls a1_0 a1_1 a1_2 a1_0 a1_1 a1_2 W rfl⟩
    have HC33 : Aside0 (∀ W ok A0 c0 A1 c1 f vs, DOwn W wa.heap.size ok A0 c0 d0 A1 c1 d1 f vs → Calls Try.prog 33 #[.agg #[.slice A0 d0.length c0, .slice A1 d1.length c1], .agg #[.int .i64 a1_0, .int .i64 a1_1, .int .i64 a1_2]] W fun e W' => ∃ (B0 : Option Addr) (e0 : Nat) (B1 : Option Addr) (e1 : Nat), e = .returned (.tuple #[.agg #[.slice B0 y0.length e0, .slice B1 y1.length e1], .bool ob]) ∧ Kd.V k50 50 W' 0 (fun k => ok k ∨ W.heap.size ≤ k) (.slice B0 y0.length e0) y0 ∧ Kd.V (Kd.slice 50 k50) 23 W' 0 (fun k => W.heap.size ≤ k) (.slice B1 y1.length e1) y1 ∧ Below W.heap.size W W') := ⟨fun W ok A0 c0 A1 c1 f vs h => by
        refine (spec_DeskDo.calls k A0 c0 d0 A1 c1 d1 a1_0 a1_1 a1_2 y0 y1 ob W ok h.v0 h.r1 h.le HY.out).mono ?_
        rintro e W' ⟨v0, v1, rfl, hv0, hv1, _, hb⟩
        obtain ⟨B0, e0, rfl⟩ := Kd.V_slice hv0
        obtain ⟨B1, e1, rfl⟩ := Kd.V_slice hv1
        exact ⟨B0, e0, B1, e1, rfl, Kd.V_mono hv0 (fun _ hk => hk.1), hv1, hb⟩⟩
    refine take_ (i := 0) (N := some 22) (v := ?_) (a' := ?_) #[true, false, false, false, false, false, false, false, false, false, false] rfl rfl (take_ofW HT_.out HW_.out (by kernel_rfl)) (fun _ _ _ h => h) (Or.inl ⟨by rfl, ?_⟩) hHeld ?_ ?_
    rotate_left
    · intro w' hE_
      obtain ⟨t0_, t1_, t2_, t3_, t4_⟩ := HCe.out w' hE_
      go_simp
      with_reducible rfl
    rotate_left
    · simp only [putAll, Act.put, List.setIfInBounds_toArray, List.set_cons_zero, List.set_cons_succ, i64_w, i32_w]
      rfl
    refine take_ (i := 2) (N := some 24) (v := ?_) (a' := ?_) #[true, false, true, false, false, false, false, false, false, false, false] rfl rfl (take_ofW HT_.out HW_.out (by kernel_rfl)) (fun _ _ _ h => h) (Or.inl ⟨by rfl, ?_⟩) hHeld ?_ ?_
    rotate_left
    · intro w' hE_
      obtain ⟨t0_, t1_, t2_, t3_, t4_⟩ := HCe.out w' hE_
      go_simp
      with_reducible rfl
    rotate_left
    · simp only [putAll, Act.put, List.setIfInBounds_toArray, List.set_cons_zero, List.set_cons_succ, i64_w, i32_w]
      rfl
    refine join_ (σ := Value × Value × Value × Value × Nat) 2 #[true, true, true, true, true, true, true, true, true, false, false] (fun s_ => [(23, .agg #[s_.1, s_.2.1]), (25, .agg #[.int .i64 a1_0, .int .i64 a1_1, .int .i64 a1_2]), (26, .tuple #[.agg #[s_.2.2.1, s_.2.2.2.1], .bool ob]), (6, .pointer (some ⟨s_.2.2.2.2, 0, none⟩)), (21, .tuple #[.agg #[s_.2.2.1, s_.2.2.2.1], .bool ob]), (27, .agg #[s_.2.2.1, s_.2.2.2.1]), (28, .bool ob)]) (fun s_ W => ENV W ∧ W.heap[s_.2.2.2.2]? = some (.cells #[.slice none 0 0, .slice none 0 0] 27 (0, 0)) ∧ wa.heap.size ≤ s_.2.2.2.2 ∧ Kd.V k50 50 W 0 (fun k => k ≠ s_.2.2.2.2 ∧ wa.heap.size ≤ k) s_.2.2.1 y0 ∧ Kd.V (Kd.slice 50 k50) 23 W 0 (fun k => k ≠ s_.2.2.2.2 ∧ wa.heap.size ≤ k) s_.2.2.2.1 y1 ∧ Below wa.heap.size wa W) ?_ ?_
    rotate_left
    · intro hCont
      refine two_ (i := 1) (j := 8) (Ni := some 23) (Nj := some 6) #[true, true, true, false, false, false, false, false, false, false, false] #[true, false, true, false, false, false, false, false, true, false, false] rfl rfl rfl rfl (two_of HT_.out (by kernel_rfl)) (by decide) (by decide) (fun K hK => ?_) (fun K hK => ?_)
      · skip
        refine goes_ Try.func22 (by kernel_rfl) rfl #[.agg #[.slice A0_0 l0_0.length c0_0, .slice A0_1 l0_1.length c0_1]] (by rfl) rfl rfl (by (try simp only [List.map_toArray, List.map_cons, List.map_nil]); first | done | rfl | (simp only [List.length_drop, List.length_take]; rfl)) ?_
        refine (HC22.out _ hE).mono ?_
        rintro e W_ ⟨A0, c0, A1, c1, f, vs, rfl, hD, hb_⟩
        refine ⟨_, rfl, ?_⟩
        replace hD := hD.mono (ok' := fun k => wa.heap.size ≤ k) (base' := wa.heap.size) (fun k h1 _ _ => Nat.le_trans hw.size h1) hw.size
        replace hE := HL_.out _ _ hE (Kept.of_below hb_ _) (below_step (HBe.out _ hE) hb_)
        replace hw := below_step hw hb_
        clear hb_
        refine hK.out _ _ hE (fun hHeld => ?_)
        clear hK K
        refine norm_ (a' := ?_) ?_ ?_
        rotate_left
        · show Act.put _ (some 23) _ = _
          simp only [putAll, Act.put, List.setIfInBounds_toArray, List.set_cons_zero, List.set_cons_succ, i64_w, i32_w]
          rfl
        refine two_ (i := 3) (j := 8) (Ni := some 25) (Nj := some 6) #[true, true, true, true, false, false, false, false, false, false, false] #[true, true, true, false, false, false, false, false, true, false, false] rfl rfl rfl rfl (two_of HT_.out (by kernel_rfl)) (by decide) (by decide) (fun K hK => ?_) (fun K hK => ?_)
        · skip
          refine goes_ Try.func35 (by kernel_rfl) rfl #[.agg #[.int .i64 a1_0, .int .i64 a1_1, .int .i64 a1_2]] (by rfl) rfl rfl (by (try simp only [List.map_toArray, List.map_cons, List.map_nil]); first | done | rfl | (simp only [List.length_drop, List.length_take]; rfl)) ?_
          refine (HC35.out _).mono ?_
          rintro e W_ ⟨rfl, hb_⟩
          refine ⟨_, rfl, ?_⟩
          replace hD := hD.below hb_
          replace hE := HL_.out _ _ hE (Kept.of_below hb_ _) (below_step (HBe.out _ hE) hb_)
          replace hw := below_step hw hb_
          clear hb_
          refine hK.out _ _ hE (fun hHeld => ?_)
          clear hK K
          refine norm_ (a' := ?_) ?_ ?_
          rotate_left
          · show Act.put _ (some 25) _ = _
            simp only [putAll, Act.put, List.setIfInBounds_toArray, List.set_cons_zero, List.set_cons_succ, i64_w, i32_w]
            rfl
          refine two_ (i := 4) (j := 8) (Ni := some 26) (Nj := some 6) #[true, true, true, true, true, false, false, false, false, false, false] #[true, true, true, true, false, false, false, false, true, false, false] rfl rfl rfl rfl (two_of HT_.out (by kernel_rfl)) (by decide) (by decide) (fun K hK => ?_) (fun K hK => ?_)
          · skip
            refine goes_ Try.func33 (by kernel_rfl) rfl #[.agg #[.slice A0 d0.length c0, .slice A1 d1.length c1], .agg #[.int .i64 a1_0, .int .i64 a1_1, .int .i64 a1_2]] (by rfl) rfl rfl (by (try simp only [List.map_toArray, List.map_cons, List.map_nil]); first | done | rfl | (simp only [List.length_drop, List.length_take]; rfl)) ?_
            refine (HC33.out _ _ _ _ _ _ _ _ hD).mono ?_
            rintro e W_ ⟨B0, e0, B1, e1, rfl, hv0, hv1, hb_⟩
            refine ⟨_, rfl, ?_⟩
            replace hv0 := Kd.V_mono (ok' := fun k => wa.heap.size ≤ k) hv0 (fun k hk => hk.elim id (fun h => Nat.le_trans hw.size h))
            replace hv1 := Kd.V_mono (ok' := fun k => wa.heap.size ≤ k) hv1 (fun k hk => Nat.le_trans hw.size hk)
            replace hE := HL_.out _ _ hE (Kept.of_below hb_ _) (below_step (HBe.out _ hE) hb_)
            replace hw := below_step hw hb_
            clear hb_
            refine hK.out _ _ hE (fun hHeld => ?_)
            clear hK K
            refine norm_ (a' := ?_) ?_ ?_
            rotate_left
            · show Act.put _ (some 26) _ = _
              simp only [putAll, Act.put, List.setIfInBounds_toArray, List.set_cons_zero, List.set_cons_succ, i64_w, i32_w]
              rfl
            refine pure_ (i := 5) (N := some 21) (v := ?_) (a' := ?_) #[true, true, true, true, true, true, false, false, false, false, false] rfl rfl (any_of HT_.out (by kernel_rfl)) (fun _ _ _ h => h) (Or.inl ⟨by rfl, ?_⟩) ?_ ?_
            rotate_left
            · intro w'
              go_simp
              with_reducible rfl
            rotate_left
            · simp only [putAll, Act.put, List.setIfInBounds_toArray, List.set_cons_zero, List.set_cons_succ, i64_w, i32_w]
              rfl
            refine pure_ (i := 6) (N := some 27) (v := ?_) (a' := ?_) #[true, true, true, true, true, true, true, false, false, false, false] rfl rfl (any_of HT_.out (by kernel_rfl)) (fun _ _ _ h => h) (Or.inl ⟨by rfl, ?_⟩) ?_ ?_
            rotate_left
            · intro w'
              go_simp
              with_reducible rfl
            rotate_left
            · simp only [putAll, Act.put, List.setIfInBounds_toArray, List.set_cons_zero, List.set_cons_succ, i64_w, i32_w]
              rfl
            refine pure_ (i := 7) (N := some 28) (v := ?_) (a' := ?_) #[true, true, true, true, true, true, true, true, false, false, false] rfl rfl (any_of HT_.out (by kernel_rfl)) (fun _ _ _ h => h) (Or.inl ⟨by rfl, ?_⟩) ?_ ?_
            rotate_left
            · intro w'
              go_simp
              with_reducible rfl
            rotate_left
            · simp only [putAll, Act.put, List.setIfInBounds_toArray, List.set_cons_zero, List.set_cons_succ, i64_w, i32_w]
              rfl
            refine one_ (i := 8) (N := some 6) #[true, true, true, true, true, true, true, true, true, false, false] rfl rfl (one_of HT_.out (by kernel_rfl)) (by decide) (fun K hK => ?_)
            refine box_step ?hg (N := 6) ?hd (cs := #[.slice none 0 0, .slice none 0 0]) (t := 27) ?hr ?_; (case hd => rfl); (case hg => rfl); (case hr => first | (go_simp; done) | (go_simp; rfl))
            intro g hg W_ hbox hb_
            have hgl : wa.heap.size ≤ g := by rw [hg]; exact hw.size
            replace hv0 := Kd.V_below (Kd.V_mono (ok' := fun k => k ≠ g ∧ wa.heap.size ≤ k) (Kd.V_map (base' := 0) hv0 (fun _ hf => Kd.F_bound hf)) (fun k hk => ⟨by have := hk.2; omega, hk.1⟩)) hb_
            replace hv1 := Kd.V_below (Kd.V_mono (ok' := fun k => k ≠ g ∧ wa.heap.size ≤ k) (Kd.V_map (base' := 0) hv1 (fun _ hf => Kd.F_bound hf)) (fun k hk => ⟨by have := hk.2; omega, hk.1⟩)) hb_
            replace hE := HL_.out _ _ hE (Kept.of_below hb_ _) (below_step (HBe.out _ hE) hb_)
            replace hw := below_step hw hb_
            clear hb_ hg
            refine hK.out _ _ hE (fun hHeld => ?_)
            clear hK K
            refine norm_ (a' := ?_) ?_ ?_
            rotate_left
            · show Act.put _ (some 6) _ = _
              simp only [putAll, Act.put, List.setIfInBounds_toArray, List.set_cons_zero, List.set_cons_succ, i64_w, i32_w]
              rfl
            exact norm_ (by simp only [putAll, Act.put, List.setIfInBounds_toArray, List.set_cons_zero, List.set_cons_succ, i64_w, i32_w]) (hCont (.slice A0 d0.length c0, .slice A1 d1.length c1, .slice B0 y0.length e0, .slice B1 y1.length e1, g) _ ⟨hE, hbox, hgl, hv0, hv1, hw⟩)
          · skip
            refine box_step ?hg (N := 6) ?hd (cs := #[.slice none 0 0, .slice none 0 0]) (t := 27) ?hr ?_; (case hd => rfl); (case hg => rfl); (case hr => first | (go_simp; done) | (go_simp; rfl))
            intro g hg W_ hbox hb_
            have hgl : wa.heap.size ≤ g := by rw [hg]; exact hw.size
            replace hD := (hD.mono (ok' := fun k => k ≠ g ∧ wa.heap.size ≤ k) (fun k h1 h2 _ => ⟨by omega, h1⟩) (Nat.le_refl _)).below hb_
            replace hE := HL_.out _ _ hE (Kept.of_below hb_ _) (below_step (HBe.out _ hE) hb_)
            replace hw := below_step hw hb_
            clear hb_ hg
            refine hK.out _ _ hE (fun hHeld => ?_)
            clear hK K
            refine norm_ (a' := ?_) ?_ ?_
            rotate_left
            · show Act.put _ (some 6) _ = _
              simp only [putAll, Act.put, List.setIfInBounds_toArray, List.set_cons_zero, List.set_cons_succ, i64_w, i32_w]
              rfl
            refine one_ (i := 4) (N := some 26) #[true, true, true, true, true, false, false, false, true, false, false] rfl rfl (one_of HT_.out (by kernel_rfl)) (by decide) (fun K hK => ?_)
            refine goes_ Try.func33 (by kernel_rfl) rfl #[.agg #[.slice A0 d0.length c0, .slice A1 d1.length c1], .agg #[.int .i64 a1_0, .int .i64 a1_1, .int .i64 a1_2]] (by rfl) rfl rfl (by (try simp only [List.map_toArray, List.map_cons, List.map_nil]); first | done | rfl | (simp only [List.length_drop, List.length_take]; rfl)) ?_
            refine (HC33.out _ _ _ _ _ _ _ _ hD).mono ?_
            rintro e W_ ⟨B0, e0, B1, e1, rfl, hv0, hv1, hb_⟩
            refine ⟨_, rfl, ?_⟩
            replace hv0 := Kd.V_mono (ok' := fun k => k ≠ g ∧ wa.heap.size ≤ k) hv0 (fun k hk => hk.elim id (fun h => ⟨by have := blk_lt hbox; omega, Nat.le_trans hw.size h⟩))
            replace hv1 := Kd.V_mono (ok' := fun k => k ≠ g ∧ wa.heap.size ≤ k) hv1 (fun k hk => ⟨by have := blk_lt hbox; omega, Nat.le_trans hw.size hk⟩)
            replace hbox := (hb_.block _ (blk_lt hbox)).trans hbox
            replace hE := HL_.out _ _ hE (Kept.of_below hb_ _) (below_step (HBe.out _ hE) hb_)
            replace hw := below_step hw hb_
            clear hb_
            refine hK.out _ _ hE (fun hHeld => ?_)
            clear hK K
            refine norm_ (a' := ?_) ?_ ?_
            rotate_left
            · show Act.put _ (some 26) _ = _
              simp only [putAll, Act.put, List.setIfInBounds_toArray, List.set_cons_zero, List.set_cons_succ, i64_w, i32_w]
              rfl
            refine pure_ (i := 5) (N := some 21) (v := ?_) (a' := ?_) #[true, true, true, true, true, true, false, false, true, false, false] rfl rfl (any_of HT_.out (by kernel_rfl)) (fun _ _ _ h => h) (Or.inl ⟨by rfl, ?_⟩) ?_ ?_
            rotate_left
            · intro w'
              go_simp
              with_reducible rfl
            rotate_left
            · simp only [putAll, Act.put, List.setIfInBounds_toArray, List.set_cons_zero, List.set_cons_succ, i64_w, i32_w]
              rfl
            refine pure_ (i := 6) (N := some 27) (v := ?_) (a' := ?_) #[true, true, true, true, true, true, true, false, true, false, false] rfl rfl (any_of HT_.out (by kernel_rfl)) (fun _ _ _ h => h) (Or.inl ⟨by rfl, ?_⟩) ?_ ?_
            rotate_left
            · intro w'
              go_simp
              with_reducible rfl
            rotate_left
            · simp only [putAll, Act.put, List.setIfInBounds_toArray, List.set_cons_zero, List.set_cons_succ, i64_w, i32_w]
              rfl
            refine pure_ (i := 7) (N := some 28) (v := ?_) (a' := ?_) #[true, true, true, true, true, true, true, true, true, false, false] rfl rfl (any_of HT_.out (by kernel_rfl)) (fun _ _ _ h => h) (Or.inl ⟨by rfl, ?_⟩) ?_ ?_
            rotate_left
            · intro w'
              go_simp
              with_reducible rfl
            rotate_left
            · simp only [putAll, Act.put, List.setIfInBounds_toArray, List.set_cons_zero, List.set_cons_succ, i64_w, i32_w]
              rfl
            exact norm_ (by simp only [putAll, Act.put, List.setIfInBounds_toArray, List.set_cons_zero, List.set_cons_succ, i64_w, i32_w]) (hCont (.slice A0 d0.length c0, .slice A1 d1.length c1, .slice B0 y0.length e0, .slice B1 y1.length e1, g) _ ⟨hE, hbox, hgl, hv0, hv1, hw⟩)
        · skip
          refine box_step ?hg (N := 6) ?hd (cs := #[.slice none 0 0, .slice none 0 0]) (t := 27) ?hr ?_; (case hd => rfl); (case hg => rfl); (case hr => first | (go_simp; done) | (go_simp; rfl))
          intro g hg W_ hbox hb_
          have hgl : wa.heap.size ≤ g := by rw [hg]; exact hw.size
          replace hD := (hD.mono (ok' := fun k => k ≠ g ∧ wa.heap.size ≤ k) (fun k h1 h2 _ => ⟨by omega, h1⟩) (Nat.le_refl _)).below hb_
          replace hE := HL_.out _ _ hE (Kept.of_below hb_ _) (below_step (HBe.out _ hE) hb_)
          replace hw := below_step hw hb_
          clear hb_ hg
          refine hK.out _ _ hE (fun hHeld => ?_)
          clear hK K
          refine norm_ (a' := ?_) ?_ ?_
          rotate_left
          · show Act.put _ (some 6) _ = _
            simp only [putAll, Act.put, List.setIfInBounds_toArray, List.set_cons_zero, List.set_cons_succ, i64_w, i32_w]
            rfl
          refine one_ (i := 3) (N := some 25) #[true, true, true, true, false, false, false, false, true, false, false] rfl rfl (one_of HT_.out (by kernel_rfl)) (by decide) (fun K hK => ?_)
          refine goes_ Try.func35 (by kernel_rfl) rfl #[.agg #[.int .i64 a1_0, .int .i64 a1_1, .int .i64 a1_2]] (by rfl) rfl rfl (by (try simp only [List.map_toArray, List.map_cons, List.map_nil]); first | done | rfl | (simp only [List.length_drop, List.length_take]; rfl)) ?_
          refine (HC35.out _).mono ?_
          rintro e W_ ⟨rfl, hb_⟩
          refine ⟨_, rfl, ?_⟩
          replace hD := hD.below hb_
          replace hbox := (hb_.block _ (blk_lt hbox)).trans hbox
          replace hE := HL_.out _ _ hE (Kept.of_below hb_ _) (below_step (HBe.out _ hE) hb_)
          replace hw := below_step hw hb_
          clear hb_
          refine hK.out _ _ hE (fun hHeld => ?_)
          clear hK K
          refine norm_ (a' := ?_) ?_ ?_
          rotate_left
          · show Act.put _ (some 25) _ = _
            simp only [putAll, Act.put, List.setIfInBounds_toArray, List.set_cons_zero, List.set_cons_succ, i64_w, i32_w]
            rfl
          refine one_ (i := 4) (N := some 26) #[true, true, true, true, true, false, false, false, true, false, false] rfl rfl (one_of HT_.out (by kernel_rfl)) (by decide) (fun K hK => ?_)
          refine goes_ Try.func33 (by kernel_rfl) rfl #[.agg #[.slice A0 d0.length c0, .slice A1 d1.length c1], .agg #[.int .i64 a1_0, .int .i64 a1_1, .int .i64 a1_2]] (by rfl) rfl rfl (by (try simp only [List.map_toArray, List.map_cons, List.map_nil]); first | done | rfl | (simp only [List.length_drop, List.length_take]; rfl)) ?_
          refine (HC33.out _ _ _ _ _ _ _ _ hD).mono ?_
          rintro e W_ ⟨B0, e0, B1, e1, rfl, hv0, hv1, hb_⟩
          refine ⟨_, rfl, ?_⟩
          replace hv0 := Kd.V_mono (ok' := fun k => k ≠ g ∧ wa.heap.size ≤ k) hv0 (fun k hk => hk.elim id (fun h => ⟨by have := blk_lt hbox; omega, Nat.le_trans hw.size h⟩))
          replace hv1 := Kd.V_mono (ok' := fun k => k ≠ g ∧ wa.heap.size ≤ k) hv1 (fun k hk => ⟨by have := blk_lt hbox; omega, Nat.le_trans hw.size hk⟩)
          replace hbox := (hb_.block _ (blk_lt hbox)).trans hbox
          replace hE := HL_.out _ _ hE (Kept.of_below hb_ _) (below_step (HBe.out _ hE) hb_)
          replace hw := below_step hw hb_
          clear hb_
          refine hK.out _ _ hE (fun hHeld => ?_)
          clear hK K
          refine norm_ (a' := ?_) ?_ ?_
          rotate_left
          · show Act.put _ (some 26) _ = _
            simp only [putAll, Act.put, List.setIfInBounds_toArray, List.set_cons_zero, List.set_cons_succ, i64_w, i32_w]
            rfl
          refine pure_ (i := 5) (N := some 21) (v := ?_) (a' := ?_) #[true, true, true, true, true, true, false, false, true, false, false] rfl rfl (any_of HT_.out (by kernel_rfl)) (fun _ _ _ h => h) (Or.inl ⟨by rfl, ?_⟩) ?_ ?_
          rotate_left
          · intro w'
            go_simp
            with_reducible rfl
          rotate_left
          · simp only [putAll, Act.put, List.setIfInBounds_toArray, List.set_cons_zero, List.set_cons_succ, i64_w, i32_w]
            rfl
          refine pure_ (i := 6) (N := some 27) (v := ?_) (a' := ?_) #[true, true, true, true, true, true, true, false, true, false, false] rfl rfl (any_of HT_.out (by kernel_rfl)) (fun _ _ _ h => h) (Or.inl ⟨by rfl, ?_⟩) ?_ ?_
          rotate_left
          · intro w'
            go_simp
            with_reducible rfl
          rotate_left
          · simp only [putAll, Act.put, List.setIfInBounds_toArray, List.set_cons_zero, List.set_cons_succ, i64_w, i32_w]
            rfl
          refine pure_ (i := 7) (N := some 28) (v := ?_) (a' := ?_) #[true, true, true, true, true, true, true, true, true, false, false] rfl rfl (any_of HT_.out (by kernel_rfl)) (fun _ _ _ h => h) (Or.inl ⟨by rfl, ?_⟩) ?_ ?_
          rotate_left
          · intro w'
            go_simp
            with_reducible rfl
          rotate_left
          · simp only [putAll, Act.put, List.setIfInBounds_toArray, List.set_cons_zero, List.set_cons_succ, i64_w, i32_w]
            rfl
          exact norm_ (by simp only [putAll, Act.put, List.setIfInBounds_toArray, List.set_cons_zero, List.set_cons_succ, i64_w, i32_w]) (hCont (.slice A0 d0.length c0, .slice A1 d1.length c1, .slice B0 y0.length e0, .slice B1 y1.length e1, g) _ ⟨hE, hbox, hgl, hv0, hv1, hw⟩)
      · skip
        refine box_step ?hg (N := 6) ?hd (cs := #[.slice none 0 0, .slice none 0 0]) (t := 27) ?hr ?_; (case hd => rfl); (case hg => rfl); (case hr => first | (go_simp; done) | (go_simp; rfl))
        intro g hg W_ hbox hb_
        have hgl : wa.heap.size ≤ g := by rw [hg]; exact hw.size
        replace hE := HL_.out _ _ hE (Kept.of_below hb_ _) (below_step (HBe.out _ hE) hb_)
        replace hw := below_step hw hb_
        clear hb_ hg
        refine hK.out _ _ hE (fun hHeld => ?_)
        clear hK K
        refine norm_ (a' := ?_) ?_ ?_
        rotate_left
        · show Act.put _ (some 6) _ = _
          simp only [putAll, Act.put, List.setIfInBounds_toArray, List.set_cons_zero, List.set_cons_succ, i64_w, i32_w]
          rfl
        refine one_ (i := 1) (N := some 23) #[true, true, true, false, false, false, false, false, true, false, false] rfl rfl (one_of HT_.out (by kernel_rfl)) (by decide) (fun K hK => ?_)
        refine goes_ Try.func22 (by kernel_rfl) rfl #[.agg #[.slice A0_0 l0_0.length c0_0, .slice A0_1 l0_1.length c0_1]] (by rfl) rfl rfl (by (try simp only [List.map_toArray, List.map_cons, List.map_nil]); first | done | rfl | (simp only [List.length_drop, List.length_take]; rfl)) ?_
        refine (HC22.out _ hE).mono ?_
        rintro e W_ ⟨A0, c0, A1, c1, f, vs, rfl, hD, hb_⟩
        refine ⟨_, rfl, ?_⟩
        replace hD := hD.mono (ok' := fun k => k ≠ g ∧ wa.heap.size ≤ k) (base' := wa.heap.size) (fun k h1 _ _ => ⟨by have := blk_lt hbox; omega, Nat.le_trans hw.size h1⟩) hw.size
        replace hbox := (hb_.block _ (blk_lt hbox)).trans hbox
        replace hE := HL_.out _ _ hE (Kept.of_below hb_ _) (below_step (HBe.out _ hE) hb_)
        replace hw := below_step hw hb_
        clear hb_
        refine hK.out _ _ hE (fun hHeld => ?_)
        clear hK K
        refine norm_ (a' := ?_) ?_ ?_
        rotate_left
        · show Act.put _ (some 23) _ = _
          simp only [putAll, Act.put, List.setIfInBounds_toArray, List.set_cons_zero, List.set_cons_succ, i64_w, i32_w]
          rfl
        refine one_ (i := 3) (N := some 25) #[true, true, true, true, false, false, false, false, true, false, false] rfl rfl (one_of HT_.out (by kernel_rfl)) (by decide) (fun K hK => ?_)
        refine goes_ Try.func35 (by kernel_rfl) rfl #[.agg #[.int .i64 a1_0, .int .i64 a1_1, .int .i64 a1_2]] (by rfl) rfl rfl (by (try simp only [List.map_toArray, List.map_cons, List.map_nil]); first | done | rfl | (simp only [List.length_drop, List.length_take]; rfl)) ?_
        refine (HC35.out _).mono ?_
        rintro e W_ ⟨rfl, hb_⟩
        refine ⟨_, rfl, ?_⟩
        replace hD := hD.below hb_
        replace hbox := (hb_.block _ (blk_lt hbox)).trans hbox
        replace hE := HL_.out _ _ hE (Kept.of_below hb_ _) (below_step (HBe.out _ hE) hb_)
        replace hw := below_step hw hb_
        clear hb_
        refine hK.out _ _ hE (fun hHeld => ?_)
        clear hK K
        refine norm_ (a' := ?_) ?_ ?_
        rotate_left
        · show Act.put _ (some 25) _ = _
          simp only [putAll, Act.put, List.setIfInBounds_toArray, List.set_cons_zero, List.set_cons_succ, i64_w, i32_w]
          rfl
        refine one_ (i := 4) (N := some 26) #[true, true, true, true, true, false, false, false, true, false, false] rfl rfl (one_of HT_.out (by kernel_rfl)) (by decide) (fun K hK => ?_)
        refine goes_ Try.func33 (by kernel_rfl) rfl #[.agg #[.slice A0 d0.length c0, .slice A1 d1.length c1], .agg #[.int .i64 a1_0, .int .i64 a1_1, .int .i64 a1_2]] (by rfl) rfl rfl (by (try simp only [List.map_toArray, List.map_cons, List.map_nil]); first | done | rfl | (simp only [List.length_drop, List.length_take]; rfl)) ?_
        refine (HC33.out _ _ _ _ _ _ _ _ hD).mono ?_
        rintro e W_ ⟨B0, e0, B1, e1, rfl, hv0, hv1, hb_⟩
        refine ⟨_, rfl, ?_⟩
        replace hv0 := Kd.V_mono (ok' := fun k => k ≠ g ∧ wa.heap.size ≤ k) hv0 (fun k hk => hk.elim id (fun h => ⟨by have := blk_lt hbox; omega, Nat.le_trans hw.size h⟩))
        replace hv1 := Kd.V_mono (ok' := fun k => k ≠ g ∧ wa.heap.size ≤ k) hv1 (fun k hk => ⟨by have := blk_lt hbox; omega, Nat.le_trans hw.size hk⟩)
        replace hbox := (hb_.block _ (blk_lt hbox)).trans hbox
        replace hE := HL_.out _ _ hE (Kept.of_below hb_ _) (below_step (HBe.out _ hE) hb_)
        replace hw := below_step hw hb_
        clear hb_
        refine hK.out _ _ hE (fun hHeld => ?_)
        clear hK K
        refine norm_ (a' := ?_) ?_ ?_
        rotate_left
        · show Act.put _ (some 26) _ = _
          simp only [putAll, Act.put, List.setIfInBounds_toArray, List.set_cons_zero, List.set_cons_succ, i64_w, i32_w]
          rfl
        refine pure_ (i := 5) (N := some 21) (v := ?_) (a' := ?_) #[true, true, true, true, true, true, false, false, true, false, false] rfl rfl (any_of HT_.out (by kernel_rfl)) (fun _ _ _ h => h) (Or.inl ⟨by rfl, ?_⟩) ?_ ?_
        rotate_left
        · intro w'
          go_simp
          with_reducible rfl
        rotate_left
        · simp only [putAll, Act.put, List.setIfInBounds_toArray, List.set_cons_zero, List.set_cons_succ, i64_w, i32_w]
          rfl
        refine pure_ (i := 6) (N := some 27) (v := ?_) (a' := ?_) #[true, true, true, true, true, true, true, false, true, false, false] rfl rfl (any_of HT_.out (by kernel_rfl)) (fun _ _ _ h => h) (Or.inl ⟨by rfl, ?_⟩) ?_ ?_
        rotate_left
        · intro w'
          go_simp
          with_reducible rfl
        rotate_left
        · simp only [putAll, Act.put, List.setIfInBounds_toArray, List.set_cons_zero, List.set_cons_succ, i64_w, i32_w]
          rfl
        refine pure_ (i := 7) (N := some 28) (v := ?_) (a' := ?_) #[true, true, true, true, true, true, true, true, true, false, false] rfl rfl (any_of HT_.out (by kernel_rfl)) (fun _ _ _ h => h) (Or.inl ⟨by rfl, ?_⟩) ?_ ?_
        rotate_left
        · intro w'
          go_simp
          with_reducible rfl
        rotate_left
        · simp only [putAll, Act.put, List.setIfInBounds_toArray, List.set_cons_zero, List.set_cons_succ, i64_w, i32_w]
          rfl
        exact norm_ (by simp only [putAll, Act.put, List.setIfInBounds_toArray, List.set_cons_zero, List.set_cons_succ, i64_w, i32_w]) (hCont (.slice A0 d0.length c0, .slice A1 d1.length c1, .slice B0 y0.length e0, .slice B1 y1.length e1, g) _ ⟨hE, hbox, hgl, hv0, hv1, hw⟩)
    clear hE hw hHeld
    rintro ⟨s1, s2, u0, u1, gy⟩ W ⟨hE, hbox, hgl, hv0, hv1, hw⟩
    dsimp only at hbox hgl hv0 hv1
    obtain ⟨Ay0, cy0, rfl⟩ := Kd.V_slice hv0
    obtain ⟨Ay1, cy1, rfl⟩ := Kd.V_slice hv1
    have HHE := Aside0.mk hE
    have HV0 := Aside0.mk hv0
    have HV1 := Aside0.mk hv1
    have HGL := Aside0.mk hgl
    clear hE hv0 hv1 hw hgl
    refine norm_ (a' := ?_) ?_ ?_
    rotate_left
    · simp only [putAll, Act.put, List.setIfInBounds_toArray, List.set_cons_zero, List.set_cons_succ]
      rfl
    refine one_ (i := 9) (N := none) #[true, true, true, true, true, true, true, true, true, true, false] rfl rfl (one_of HT_.out (by kernel_rfl)) (by decide) (fun K hK => ?_)
    have hs0 : W.cell? ⟨gy, 0, none⟩ = some (.slice none 0 0) := (blk_cell hbox 0).trans rfl
    have hs1 : W.cell? ⟨gy, 1, none⟩ = some (.slice none 0 0) := (blk_cell hbox 1).trans rfl
    have hf0 := blk_frozen hbox 0
    have hf1 := blk_frozen hbox 1
    have HHB := Aside0.mk hbox
    clear hbox
    refine skip_ (w1 := ?_) (by rfl) rfl ?_ ?_
    rotate_left
    · go_simp
      rfl
    have hE := HL_.out _ _ HHE.out (Kept.setCell (Kept.setCell (Kept.refl W _) (p := ⟨gy, 0, none⟩) (.inl HGL.out) (.slice Ay0 y0.length cy0)) (p := ⟨gy, 1, none⟩) (.inl HGL.out) (.slice Ay1 y1.length cy1)) (below_set (below_set (HBe.out _ HHE.out) (by have := HGL.out; have := MW.out; omega)) (by have := HGL.out; have := MW.out; omega))
    refine hK.out _ _ hE (fun hHeld => ?_)
    clear hK K hHeld hs0 hs1 hf0 hf1
    refine pure_ (i := 10) (N := some 7) (v := ?_) (a' := ?_) #[true, true, true, true, true, true, true, true, true, true, true] rfl rfl (any_of HT_.out (by kernel_rfl)) (fun _ _ _ h => h) (Or.inl ⟨by rfl, ?_⟩) ?_ ?_
    rotate_left
    · intro w'
      go_simp
      with_reducible rfl
    rotate_left
    · simp only [putAll, Act.put, List.setIfInBounds_toArray, List.set_cons_zero, List.set_cons_succ, i64_w, i32_w]
      rfl
    refine done_ (done_of HT_.out (by kernel_rfl)) ?_
    have Y5 := Aside0.mk (WD.put HHB.out HV0.out HV1.out)
    have EN := Aside0.mk (HOu.out _ hE)
    have MW0 := Aside0.mk (blk_lt Y5.out.b)
    clear HT_ HW_ HC22 HC35 HC33 HHE HHB HV0 HV1 HL_ HBe HCe HOu hE
    generalize hw_ : (W.setCell ⟨gy, 0, none⟩ (.slice Ay0 y0.length cy0)).setCell ⟨gy, 1, none⟩ (.slice Ay1 y1.length cy1) = w5 at Y5 EN MW0 ⊢
    have HNY := Aside0.mk (show W.heap.size ≤ w5.heap.size from by rw [← hw_]; simp [World.setCell])
    clear hw_
    generalize W.heap.size = NY at Y5 HNY
    clear W MW0
    have MW1 := Aside0.mk (blk_lt EN.out.a)
    have hd0 : w5.cell? ⟨w.heap.size, 0, none⟩ = some (.slice A0_0 l0_0.length c0_0) := (blk_cell EN.out.d 0).trans rfl
    have hd1 : w5.cell? ⟨w.heap.size, 1, none⟩ = some (.slice A0_1 l0_1.length c0_1) := (blk_cell EN.out.d 1).trans rfl
    go_wp2_with (fail)
    refine (toDesk_own (Kd.C_below HR0.out EN.out.bel) HC0.out (Kd.C_below HR1.out EN.out.bel) HC1.out HD.out).mono ?_
    rintro e w6 ⟨Ax0, cx0, Ax1, cx1, fx, vx, rfl, hd, hb⟩
    clear hd0 hd1
    have Y6 := Aside0.mk (Y5.out.below hb)
    have E6 := Aside0.mk (EN.out.below hb)
    have X6 := Aside0.mk (OD.mk' (base := w.heap.size) hd (Nat.le_trans EN.out.bel.size (Nat.le_refl _)) hb.size)
    have Y7 := Aside0.mk (Y6.out.below (below_alloc (Below.refl w6.heap.size w6) (.cells #[(.slice Ax0 d0.length cx0), (.slice Ax1 d1.length cx1)] 27)))
    have E7 := Aside0.mk (E6.out.below (below_alloc (Below.refl w6.heap.size w6) (.cells #[(.slice Ax0 d0.length cx0), (.slice Ax1 d1.length cx1)] 27)))
    have HB6 := Aside0.mk hb.size
    have HZ7 := Aside0.mk (show (w6.alloc (.cells #[(.slice Ax0 d0.length cx0), (.slice Ax1 d1.length cx1)] 27)).heap.size = w6.heap.size + 1 from size_alloc1 _ _)
    clear hd hb Y5 EN Y6 E6
    go_wp2_with (fail)
    have MW0 := Aside0.mk (Nat.lt_of_lt_of_le MW1.out (Nat.le_trans HB6.out (by rw [HZ7.out]; omega : w6.heap.size ≤ (w6.alloc (.cells #[(.slice Ax0 d0.length cx0), (.slice Ax1 d1.length cx1)] 27)).heap.size)))
    generalize w6.alloc (.cells #[(.slice Ax0 d0.length cx0), (.slice Ax1 d1.length cx1)] 27) = w7 at Y7 E7 X6 HZ7 MW0 ⊢
    have HX6 := Aside0.mk (X6.out.n)
    generalize hgx_ : w6.heap.size = gx at X6 HZ7 HX6 HB6 ⊢
    clear hgx_ w6
    rw [← HZ7.out] at X6
    generalize hNX_ : w7.heap.size = NX at X6
    generalize hlx_ : w5.heap.size = lx at X6 HNY HB6 HX6
    have HNX := Aside0.mk hNX_
    rw [hlx_] at MW1
    have HML := MW1
    clear hNX_ hlx_ HZ7 MW1 w5
    have HN6 := Aside0.mk (X6.out.n)
    have hb0_ := below_drew1 (Below.refl w7.heap.size w7)
    obtain ⟨ENV, hE, HL_, HBe, HCe, HOu⟩ : ∃ ENV : World → Prop, ENV w7.drew ∧ Aside0 (∀ W W', ENV W → Kept W W' (fun k => w7.drew.heap.size ≤ k) → Below w.heap.size w W' → ENV W') ∧ Aside0 (∀ W, ENV W → Below w.heap.size w W) ∧ Aside0 (∀ W, ENV W → W.cell? ⟨gx, 0, none⟩ = some (.slice Ax0 d0.length cx0) ∧ W.cell? ⟨gx, 1, none⟩ = some (.slice Ax1 d1.length cx1) ∧ W.cell? ⟨w.heap.size + 1, 0, none⟩ = some (.int .i64 a1_0) ∧ W.cell? ⟨w.heap.size + 1, 1, none⟩ = some (.int .i64 a1_1) ∧ W.cell? ⟨w.heap.size + 1, 2, none⟩ = some (.int .i64 a1_2)) ∧ Aside0 (∀ W, ENV W → (XS w W A0_0 c0_0 l0_0 A0_1 c0_1 l0_1 a1_0 a1_1 a1_2) ∧ (WD W gy NY Ay0 cy0 y0 Ay1 cy1 y1) ∧ (OD W w.heap.size lx gx NX Ax0 cx0 d0 Ax1 cx1 d1 fx vx)) := by
      refine ⟨fun W => (XS w W A0_0 c0_0 l0_0 A0_1 c0_1 l0_1 a1_0 a1_1 a1_2) ∧ (WD W gy NY Ay0 cy0 y0 Ay1 cy1 y1) ∧ (OD W w.heap.size lx gx NX Ax0 cx0 d0 Ax1 cx1 d1 fx vx), ⟨E7.out.below hb0_, Y7.out.below hb0_, X6.out.below hb0_⟩, ⟨fun W W' h hk hb => ?_⟩, ⟨fun W h => ?_⟩, ⟨fun W h => ?_⟩, ⟨fun W h => h⟩⟩
      · obtain ⟨p0, p1, p2⟩ := h
        exact ⟨p0.kept hb hk (fun k hk => by have h1 := MW0.out; have h2 : w7.drew.heap.size = w7.heap.size := rfl; have h3 := HNX.out; have h4 := HNY.out; have h5 := HX6.out; have h6 := HN6.out; omega), p1.kept hk (fun k hk => by have h1 := MW0.out; have h2 : w7.drew.heap.size = w7.heap.size := rfl; have h3 := HNX.out; have h4 := HNY.out; have h5 := HX6.out; have h6 := HN6.out; omega), p2.kept hk (fun k hk => .inl (by have h1 := MW0.out; have h2 : w7.drew.heap.size = w7.heap.size := rfl; have h3 := HNX.out; have h4 := HNY.out; have h5 := HX6.out; have h6 := HN6.out; omega))⟩
      · obtain ⟨p0, p1, p2⟩ := h
        exact p0.bel
      · obtain ⟨p0, p1, p2⟩ := h
        exact ⟨(blk_cell p2.b 0).trans rfl, (blk_cell p2.b 1).trans rfl, (blk_cell p0.a 0).trans rfl, (blk_cell p0.a 1).trans rfl, (blk_cell p0.a 2).trans rfl⟩
    clear hb0_
    have HNA := Aside0.mk (show NX ≤ w7.drew.heap.size from by have h2 : w7.drew.heap.size = w7.heap.size := rfl; have h3 := HNX.out; omega)
    refine start_ (n := 10) (S := ENV) (ds := []) #[false, false, false, false, false, false, false, false, false, false] (by kernel_rfl) rfl rfl hE (fun hHeld => ?_); refine with_tabW laws_FnExactDeskDo.tab7 laws_FnExactDeskDo.bits7 (fun HT_ HW_ => ?_)
    clear hE
    have hE := hHeld
    have MW := Aside0.mk (show w.heap.size + 1 < w7.drew.heap.size from MW0.out)
    clear MW0
    generalize w7.drew = wa at hE HL_ MW hHeld HNA ⊢
    have hw : Below wa.heap.size wa wa := Below.refl _ _
    have HC35 : Aside0 (∀ W, Calls Try.prog 35 #[.agg #[.int .i64 a1_0, .int .i64 a1_1, .int .i64 a1_2]] W fun e W' => e = .returned (.agg #[.int .i64 a1_0, .int .i64 a1_1, .int .i64 a1_2]) ∧ Below W.heap.size W W') := ⟨fun W => laws_toDeed.calls a1_0 a1_1 a1_2 a1_0 a1_1 a1_2 W rfl⟩
    have HC32 : Aside0 (∀ W, ENV W → Calls Try.prog 32 #[.agg #[(.slice Ax0 d0.length cx0), (.slice Ax1 d1.length cx1)], .agg #[.int .i64 a1_0, .int .i64 a1_1, .int .i64 a1_2]] W fun e W' => ∃ (A0_ : Option Addr) (c0_ : Nat) (A1_ : Option Addr) (c1_ : Nat) (f_ : Nat → Nat) (vs_ : List Value), e = .returned (.tuple #[.agg #[.slice A0_ x0.length c0_, .slice A1_ x1.length c1_], .bool ob]) ∧ DOwn W' W.heap.size (fun k_ => W.heap.size ≤ k_) A0_ c0_ x0 A1_ c1_ x1 f_ vs_ ∧ Below W.heap.size W W') := ⟨fun W h => impl_DeskDo.calls k Ax0 cx0 d0 Ax1 cx1 d1 a1_0 a1_1 a1_2 x0 x1 ob W (HOu.out _ h).2.2.o.r0 (HOu.out _ h).2.2.o.h0 (HOu.out _ h).2.2.o.r1 (HOu.out _ h).2.2.o.le HG.out⟩
    refine take_ (i := 0) (N := some 32) (v := ?_) (a' := ?_) #[true, false, false, false, false, false, false, false, false, false] rfl rfl (take_ofW HT_.out HW_.out (by kernel_rfl)) (fun _ _ _ h => h) (Or.inl ⟨by rfl, ?_⟩) hHeld ?_ ?_
    rotate_left
    · intro w' hE_
      obtain ⟨t0_, t1_, t2_, t3_, t4_⟩ := HCe.out w' hE_
      go_simp
      with_reducible rfl
    rotate_left
    · simp only [putAll, Act.put, List.setIfInBounds_toArray, List.set_cons_zero, List.set_cons_succ, i64_w, i32_w]
      rfl
    refine take_ (i := 1) (N := some 33) (v := ?_) (a' := ?_) #[true, true, false, false, false, false, false, false, false, false] rfl rfl (take_ofW HT_.out HW_.out (by kernel_rfl)) (fun _ _ _ h => h) (Or.inl ⟨by rfl, ?_⟩) hHeld ?_ ?_
    rotate_left
    · intro w' hE_
      obtain ⟨t0_, t1_, t2_, t3_, t4_⟩ := HCe.out w' hE_
      go_simp
      with_reducible rfl
    rotate_left
    · simp only [putAll, Act.put, List.setIfInBounds_toArray, List.set_cons_zero, List.set_cons_succ, i64_w, i32_w]
      rfl
    refine join_ (σ := Value × Value × Nat) 2 #[true, true, true, true, true, true, true, true, false, false] (fun s_ => [(34, .agg #[.int .i64 a1_0, .int .i64 a1_1, .int .i64 a1_2]), (35, .tuple #[.agg #[s_.1, s_.2.1], .bool ob]), (9, .pointer (some ⟨s_.2.2, 0, none⟩)), (31, .tuple #[.agg #[s_.1, s_.2.1], .bool ob]), (36, .agg #[s_.1, s_.2.1]), (37, .bool ob)]) (fun s_ W => ENV W ∧ W.heap[s_.2.2]? = some (.cells #[.slice none 0 0, .slice none 0 0] 27 (0, 0)) ∧ wa.heap.size ≤ s_.2.2 ∧ (∃ (A0 : Option Addr) (c0 : Nat) (A1 : Option Addr) (c1 : Nat) (f : Nat → Nat) (vs : List Value), s_.1 = .slice A0 x0.length c0 ∧ s_.2.1 = .slice A1 x1.length c1 ∧ DOwn W wa.heap.size (fun k => k ≠ s_.2.2 ∧ wa.heap.size ≤ k) A0 c0 x0 A1 c1 x1 f vs) ∧ Below wa.heap.size wa W) ?_ ?_
    rotate_left
    · intro hCont
      refine two_ (i := 2) (j := 7) (Ni := some 34) (Nj := some 9) #[true, true, true, false, false, false, false, false, false, false] #[true, true, false, false, false, false, false, true, false, false] rfl rfl rfl rfl (two_of HT_.out (by kernel_rfl)) (by decide) (by decide) (fun K hK => ?_) (fun K hK => ?_)
      · skip
        refine goes_ Try.func35 (by kernel_rfl) rfl #[.agg #[.int .i64 a1_0, .int .i64 a1_1, .int .i64 a1_2]] (by rfl) rfl rfl (by (try simp only [List.map_toArray, List.map_cons, List.map_nil]); first | done | rfl | (simp only [List.length_drop, List.length_take]; rfl)) ?_
        refine (HC35.out _).mono ?_
        rintro e W_ ⟨rfl, hb_⟩
        refine ⟨_, rfl, ?_⟩
        replace hE := HL_.out _ _ hE (Kept.of_below hb_ _) (below_step (HBe.out _ hE) hb_)
        replace hw := below_step hw hb_
        clear hb_
        refine hK.out _ _ hE (fun hHeld => ?_)
        clear hK K
        refine norm_ (a' := ?_) ?_ ?_
        rotate_left
        · show Act.put _ (some 34) _ = _
          simp only [putAll, Act.put, List.setIfInBounds_toArray, List.set_cons_zero, List.set_cons_succ, i64_w, i32_w]
          rfl
        refine two_ (i := 3) (j := 7) (Ni := some 35) (Nj := some 9) #[true, true, true, true, false, false, false, false, false, false] #[true, true, true, false, false, false, false, true, false, false] rfl rfl rfl rfl (two_of HT_.out (by kernel_rfl)) (by decide) (by decide) (fun K hK => ?_) (fun K hK => ?_)
        · skip
          refine goes_ Try.func32 (by kernel_rfl) rfl #[.agg #[.slice Ax0 d0.length cx0, .slice Ax1 d1.length cx1], .agg #[.int .i64 a1_0, .int .i64 a1_1, .int .i64 a1_2]] (by rfl) rfl rfl (by (try simp only [List.map_toArray, List.map_cons, List.map_nil]); first | done | rfl | (simp only [List.length_drop, List.length_take]; rfl)) ?_
          refine (HC32.out _ hE).mono ?_
          rintro e W_ ⟨B0, e0, B1, e1, f, vs, rfl, hD, hb_⟩
          refine ⟨_, rfl, ?_⟩
          replace hD := hD.mono (ok' := fun k => wa.heap.size ≤ k) (base' := wa.heap.size) (fun k h1 _ _ => Nat.le_trans hw.size h1) hw.size
          replace hE := HL_.out _ _ hE (Kept.of_below hb_ _) (below_step (HBe.out _ hE) hb_)
          replace hw := below_step hw hb_
          clear hb_
          refine hK.out _ _ hE (fun hHeld => ?_)
          clear hK K
          refine norm_ (a' := ?_) ?_ ?_
          rotate_left
          · show Act.put _ (some 35) _ = _
            simp only [putAll, Act.put, List.setIfInBounds_toArray, List.set_cons_zero, List.set_cons_succ, i64_w, i32_w]
            rfl
          refine pure_ (i := 4) (N := some 31) (v := ?_) (a' := ?_) #[true, true, true, true, true, false, false, false, false, false] rfl rfl (any_of HT_.out (by kernel_rfl)) (fun _ _ _ h => h) (Or.inl ⟨by rfl, ?_⟩) ?_ ?_
          rotate_left
          · intro w'
            go_simp
            with_reducible rfl
          rotate_left
          · simp only [putAll, Act.put, List.setIfInBounds_toArray, List.set_cons_zero, List.set_cons_succ, i64_w, i32_w]
            rfl
          refine pure_ (i := 5) (N := some 36) (v := ?_) (a' := ?_) #[true, true, true, true, true, true, false, false, false, false] rfl rfl (any_of HT_.out (by kernel_rfl)) (fun _ _ _ h => h) (Or.inl ⟨by rfl, ?_⟩) ?_ ?_
          rotate_left
          · intro w'
            go_simp
            with_reducible rfl
          rotate_left
          · simp only [putAll, Act.put, List.setIfInBounds_toArray, List.set_cons_zero, List.set_cons_succ, i64_w, i32_w]
            rfl
          refine pure_ (i := 6) (N := some 37) (v := ?_) (a' := ?_) #[true, true, true, true, true, true, true, false, false, false] rfl rfl (any_of HT_.out (by kernel_rfl)) (fun _ _ _ h => h) (Or.inl ⟨by rfl, ?_⟩) ?_ ?_
          rotate_left
          · intro w'
            go_simp
            with_reducible rfl
          rotate_left
          · simp only [putAll, Act.put, List.setIfInBounds_toArray, List.set_cons_zero, List.set_cons_succ, i64_w, i32_w]
            rfl
          refine one_ (i := 7) (N := some 9) #[true, true, true, true, true, true, true, true, false, false] rfl rfl (one_of HT_.out (by kernel_rfl)) (by decide) (fun K hK => ?_)
          refine box_step ?hg (N := 9) ?hd (cs := #[.slice none 0 0, .slice none 0 0]) (t := 27) ?hr ?_; (case hd => rfl); (case hg => rfl); (case hr => first | (go_simp; done) | (go_simp; rfl))
          intro g hg W_ hbox hb_
          have hgl : wa.heap.size ≤ g := by rw [hg]; exact hw.size
          replace hD := (hD.mono (ok' := fun k => k ≠ g ∧ wa.heap.size ≤ k) (fun k h1 h2 _ => ⟨by omega, h1⟩) (Nat.le_refl _)).below hb_
          replace hE := HL_.out _ _ hE (Kept.of_below hb_ _) (below_step (HBe.out _ hE) hb_)
          replace hw := below_step hw hb_
          clear hb_ hg
          refine hK.out _ _ hE (fun hHeld => ?_)
          clear hK K
          refine norm_ (a' := ?_) ?_ ?_
          rotate_left
          · show Act.put _ (some 9) _ = _
            simp only [putAll, Act.put, List.setIfInBounds_toArray, List.set_cons_zero, List.set_cons_succ, i64_w, i32_w]
            rfl
          exact norm_ (by simp only [putAll, Act.put, List.setIfInBounds_toArray, List.set_cons_zero, List.set_cons_succ, i64_w, i32_w]) (hCont (.slice B0 x0.length e0, .slice B1 x1.length e1, g) _ ⟨hE, hbox, hgl, ⟨B0, e0, B1, e1, f, vs, rfl, rfl, hD⟩, hw⟩)
        · skip
          refine box_step ?hg (N := 9) ?hd (cs := #[.slice none 0 0, .slice none 0 0]) (t := 27) ?hr ?_; (case hd => rfl); (case hg => rfl); (case hr => first | (go_simp; done) | (go_simp; rfl))
          intro g hg W_ hbox hb_
          have hgl : wa.heap.size ≤ g := by rw [hg]; exact hw.size
          replace hE := HL_.out _ _ hE (Kept.of_below hb_ _) (below_step (HBe.out _ hE) hb_)
          replace hw := below_step hw hb_
          clear hb_ hg
          refine hK.out _ _ hE (fun hHeld => ?_)
          clear hK K
          refine norm_ (a' := ?_) ?_ ?_
          rotate_left
          · show Act.put _ (some 9) _ = _
            simp only [putAll, Act.put, List.setIfInBounds_toArray, List.set_cons_zero, List.set_cons_succ, i64_w, i32_w]
            rfl
          refine one_ (i := 3) (N := some 35) #[true, true, true, true, false, false, false, true, false, false] rfl rfl (one_of HT_.out (by kernel_rfl)) (by decide) (fun K hK => ?_)
          refine goes_ Try.func32 (by kernel_rfl) rfl #[.agg #[.slice Ax0 d0.length cx0, .slice Ax1 d1.length cx1], .agg #[.int .i64 a1_0, .int .i64 a1_1, .int .i64 a1_2]] (by rfl) rfl rfl (by (try simp only [List.map_toArray, List.map_cons, List.map_nil]); first | done | rfl | (simp only [List.length_drop, List.length_take]; rfl)) ?_
          refine (HC32.out _ hE).mono ?_
          rintro e W_ ⟨B0, e0, B1, e1, f, vs, rfl, hD, hb_⟩
          refine ⟨_, rfl, ?_⟩
          replace hD := hD.mono (ok' := fun k => k ≠ g ∧ wa.heap.size ≤ k) (base' := wa.heap.size) (fun k h1 _ _ => ⟨by have := blk_lt hbox; omega, Nat.le_trans hw.size h1⟩) hw.size
          replace hbox := (hb_.block _ (blk_lt hbox)).trans hbox
          replace hE := HL_.out _ _ hE (Kept.of_below hb_ _) (below_step (HBe.out _ hE) hb_)
          replace hw := below_step hw hb_
          clear hb_
          refine hK.out _ _ hE (fun hHeld => ?_)
          clear hK K
          refine norm_ (a' := ?_) ?_ ?_
          rotate_left
          · show Act.put _ (some 35) _ = _
            simp only [putAll, Act.put, List.setIfInBounds_toArray, List.set_cons_zero, List.set_cons_succ, i64_w, i32_w]
            rfl
          refine pure_ (i := 4) (N := some 31) (v := ?_) (a' := ?_) #[true, true, true, true, true, false, false, true, false, false] rfl rfl (any_of HT_.out (by kernel_rfl)) (fun _ _ _ h => h) (Or.inl ⟨by rfl, ?_⟩) ?_ ?_
          rotate_left
          · intro w'
            go_simp
            with_reducible rfl
          rotate_left
          · simp only [putAll, Act.put, List.setIfInBounds_toArray, List.set_cons_zero, List.set_cons_succ, i64_w, i32_w]
            rfl
          refine pure_ (i := 5) (N := some 36) (v := ?_) (a' := ?_) #[true, true, true, true, true, true, false, true, false, false] rfl rfl (any_of HT_.out (by kernel_rfl)) (fun _ _ _ h => h) (Or.inl ⟨by rfl, ?_⟩) ?_ ?_
          rotate_left
          · intro w'
            go_simp
            with_reducible rfl
          rotate_left
          · simp only [putAll, Act.put, List.setIfInBounds_toArray, List.set_cons_zero, List.set_cons_succ, i64_w, i32_w]
            rfl
          refine pure_ (i := 6) (N := some 37) (v := ?_) (a' := ?_) #[true, true, true, true, true, true, true, true, false, false] rfl rfl (any_of HT_.out (by kernel_rfl)) (fun _ _ _ h => h) (Or.inl ⟨by rfl, ?_⟩) ?_ ?_
          rotate_left
          · intro w'
            go_simp
            with_reducible rfl
          rotate_left
          · simp only [putAll, Act.put, List.setIfInBounds_toArray, List.set_cons_zero, List.set_cons_succ, i64_w, i32_w]
            rfl
          exact norm_ (by simp only [putAll, Act.put, List.setIfInBounds_toArray, List.set_cons_zero, List.set_cons_succ, i64_w, i32_w]) (hCont (.slice B0 x0.length e0, .slice B1 x1.length e1, g) _ ⟨hE, hbox, hgl, ⟨B0, e0, B1, e1, f, vs, rfl, rfl, hD⟩, hw⟩)
      · skip
        refine box_step ?hg (N := 9) ?hd (cs := #[.slice none 0 0, .slice none 0 0]) (t := 27) ?hr ?_; (case hd => rfl); (case hg => rfl); (case hr => first | (go_simp; done) | (go_simp; rfl))
        intro g hg W_ hbox hb_
        have hgl : wa.heap.size ≤ g := by rw [hg]; exact hw.size
        replace hE := HL_.out _ _ hE (Kept.of_below hb_ _) (below_step (HBe.out _ hE) hb_)
        replace hw := below_step hw hb_
        clear hb_ hg
        refine hK.out _ _ hE (fun hHeld => ?_)
        clear hK K
        refine norm_ (a' := ?_) ?_ ?_
        rotate_left
        · show Act.put _ (some 9) _ = _
          simp only [putAll, Act.put, List.setIfInBounds_toArray, List.set_cons_zero, List.set_cons_succ, i64_w, i32_w]
          rfl
        refine one_ (i := 2) (N := some 34) #[true, true, true, false, false, false, false, true, false, false] rfl rfl (one_of HT_.out (by kernel_rfl)) (by decide) (fun K hK => ?_)
        refine goes_ Try.func35 (by kernel_rfl) rfl #[.agg #[.int .i64 a1_0, .int .i64 a1_1, .int .i64 a1_2]] (by rfl) rfl rfl (by (try simp only [List.map_toArray, List.map_cons, List.map_nil]); first | done | rfl | (simp only [List.length_drop, List.length_take]; rfl)) ?_
        refine (HC35.out _).mono ?_
        rintro e W_ ⟨rfl, hb_⟩
        refine ⟨_, rfl, ?_⟩
        replace hbox := (hb_.block _ (blk_lt hbox)).trans hbox
        replace hE := HL_.out _ _ hE (Kept.of_below hb_ _) (below_step (HBe.out _ hE) hb_)
        replace hw := below_step hw hb_
        clear hb_
        refine hK.out _ _ hE (fun hHeld => ?_)
        clear hK K
        refine norm_ (a' := ?_) ?_ ?_
        rotate_left
        · show Act.put _ (some 34) _ = _
          simp only [putAll, Act.put, List.setIfInBounds_toArray, List.set_cons_zero, List.set_cons_succ, i64_w, i32_w]
          rfl
        refine one_ (i := 3) (N := some 35) #[true, true, true, true, false, false, false, true, false, false] rfl rfl (one_of HT_.out (by kernel_rfl)) (by decide) (fun K hK => ?_)
        refine goes_ Try.func32 (by kernel_rfl) rfl #[.agg #[.slice Ax0 d0.length cx0, .slice Ax1 d1.length cx1], .agg #[.int .i64 a1_0, .int .i64 a1_1, .int .i64 a1_2]] (by rfl) rfl rfl (by (try simp only [List.map_toArray, List.map_cons, List.map_nil]); first | done | rfl | (simp only [List.length_drop, List.length_take]; rfl)) ?_
        refine (HC32.out _ hE).mono ?_
        rintro e W_ ⟨B0, e0, B1, e1, f, vs, rfl, hD, hb_⟩
        refine ⟨_, rfl, ?_⟩
        replace hD := hD.mono (ok' := fun k => k ≠ g ∧ wa.heap.size ≤ k) (base' := wa.heap.size) (fun k h1 _ _ => ⟨by have := blk_lt hbox; omega, Nat.le_trans hw.size h1⟩) hw.size
        replace hbox := (hb_.block _ (blk_lt hbox)).trans hbox
        replace hE := HL_.out _ _ hE (Kept.of_below hb_ _) (below_step (HBe.out _ hE) hb_)
        replace hw := below_step hw hb_
        clear hb_
        refine hK.out _ _ hE (fun hHeld => ?_)
        clear hK K
        refine norm_ (a' := ?_) ?_ ?_
        rotate_left
        · show Act.put _ (some 35) _ = _
          simp only [putAll, Act.put, List.setIfInBounds_toArray, List.set_cons_zero, List.set_cons_succ, i64_w, i32_w]
          rfl
        refine pure_ (i := 4) (N := some 31) (v := ?_) (a' := ?_) #[true, true, true, true, true, false, false, true, false, false] rfl rfl (any_of HT_.out (by kernel_rfl)) (fun _ _ _ h => h) (Or.inl ⟨by rfl, ?_⟩) ?_ ?_
        rotate_left
        · intro w'
          go_simp
          with_reducible rfl
        rotate_left
        · simp only [putAll, Act.put, List.setIfInBounds_toArray, List.set_cons_zero, List.set_cons_succ, i64_w, i32_w]
          rfl
        refine pure_ (i := 5) (N := some 36) (v := ?_) (a' := ?_) #[true, true, true, true, true, true, false, true, false, false] rfl rfl (any_of HT_.out (by kernel_rfl)) (fun _ _ _ h => h) (Or.inl ⟨by rfl, ?_⟩) ?_ ?_
        rotate_left
        · intro w'
          go_simp
          with_reducible rfl
        rotate_left
        · simp only [putAll, Act.put, List.setIfInBounds_toArray, List.set_cons_zero, List.set_cons_succ, i64_w, i32_w]
          rfl
        refine pure_ (i := 6) (N := some 37) (v := ?_) (a' := ?_) #[true, true, true, true, true, true, true, true, false, false] rfl rfl (any_of HT_.out (by kernel_rfl)) (fun _ _ _ h => h) (Or.inl ⟨by rfl, ?_⟩) ?_ ?_
        rotate_left
        · intro w'
          go_simp
          with_reducible rfl
        rotate_left
        · simp only [putAll, Act.put, List.setIfInBounds_toArray, List.set_cons_zero, List.set_cons_succ, i64_w, i32_w]
          rfl
        exact norm_ (by simp only [putAll, Act.put, List.setIfInBounds_toArray, List.set_cons_zero, List.set_cons_succ, i64_w, i32_w]) (hCont (.slice B0 x0.length e0, .slice B1 x1.length e1, g) _ ⟨hE, hbox, hgl, ⟨B0, e0, B1, e1, f, vs, rfl, rfl, hD⟩, hw⟩)
    clear hE hw hHeld
    rintro ⟨u0, u1, gg⟩ W ⟨hE, hbox, hgl, hex, hw⟩
    dsimp only at hbox hgl hex
    obtain ⟨Ag0, cg0, Ag1, cg1, fg, vg, rfl, rfl, hD⟩ := hex
    have HHE := Aside0.mk hE
    have HVD := Aside0.mk hD
    have HGL := Aside0.mk hgl
    have HWA := Aside0.mk hw.size
    clear hE hD hw hgl
    refine norm_ (a' := ?_) ?_ ?_
    rotate_left
    · simp only [putAll, Act.put, List.setIfInBounds_toArray, List.set_cons_zero, List.set_cons_succ]
      rfl
    refine one_ (i := 8) (N := none) #[true, true, true, true, true, true, true, true, true, false] rfl rfl (one_of HT_.out (by kernel_rfl)) (by decide) (fun K hK => ?_)
    have hs0 : W.cell? ⟨gg, 0, none⟩ = some (.slice none 0 0) := (blk_cell hbox 0).trans rfl
    have hs1 : W.cell? ⟨gg, 1, none⟩ = some (.slice none 0 0) := (blk_cell hbox 1).trans rfl
    have hf0 := blk_frozen hbox 0
    have hf1 := blk_frozen hbox 1
    have HHB := Aside0.mk hbox
    clear hbox
    refine skip_ (w1 := ?_) (by rfl) rfl ?_ ?_
    rotate_left
    · go_simp
      rfl
    have hE := HL_.out _ _ HHE.out (Kept.setCell (Kept.setCell (Kept.refl W _) (p := ⟨gg, 0, none⟩) (.inl HGL.out) (.slice Ag0 x0.length cg0)) (p := ⟨gg, 1, none⟩) (.inl HGL.out) (.slice Ag1 x1.length cg1)) (below_set (below_set (HBe.out _ HHE.out) (by have := HGL.out; have := MW.out; omega)) (by have := HGL.out; have := MW.out; omega))
    refine hK.out _ _ hE (fun hHeld => ?_)
    clear hK K hHeld hs0 hs1 hf0 hf1
    refine pure_ (i := 9) (N := some 10) (v := ?_) (a' := ?_) #[true, true, true, true, true, true, true, true, true, true] rfl rfl (any_of HT_.out (by kernel_rfl)) (fun _ _ _ h => h) (Or.inl ⟨by rfl, ?_⟩) ?_ ?_
    rotate_left
    · intro w'
      go_simp
      with_reducible rfl
    rotate_left
    · simp only [putAll, Act.put, List.setIfInBounds_toArray, List.set_cons_zero, List.set_cons_succ, i64_w, i32_w]
      rfl
    refine done_ (done_of HT_.out (by kernel_rfl)) ?_
    have G9 := Aside0.mk (OD.put (base := w.heap.size) HHB.out HVD.out (by have := MW.out; omega) HGL.out)
    have EN := Aside0.mk (HOu.out _ hE)
    clear HT_ HW_ HC35 HC32 HHE HHB HVD HL_ HBe HCe HOu hE Y7 E7 X6
    have MW0 := Aside0.mk (Nat.lt_of_lt_of_le MW.out HWA.out)
    have HLG := Aside0.mk (show NX ≤ wa.heap.size from HNA.out)
    have HNG : Aside0 (W.heap.size ≤ ((W.setCell ⟨gg, 0, none⟩ (.slice Ag0 x0.length cg0)).setCell ⟨gg, 1, none⟩ (.slice Ag1 x1.length cg1)).heap.size) := ⟨by simp [World.setCell]⟩
    generalize (W.setCell ⟨gg, 0, none⟩ (.slice Ag0 x0.length cg0)).setCell ⟨gg, 1, none⟩ (.slice Ag1 x1.length cg1) = w9 at G9 EN HNG ⊢
    generalize wa.heap.size = lg at G9 HLG MW HGL HWA HNA
    generalize W.heap.size = NG at G9 HNG MW0 HWA
    clear W wa MW HWA HNA
    have HORD := Aside0.mk (show w.heap.size + 1 < lx ∧ NY ≤ lx ∧ lx ≤ gx ∧ gx < NX ∧ NX ≤ lg ∧ lg ≤ gg ∧ gg < NG from by have h1 := HML.out; have h2 := HNY.out; have h3 := HN6.out; have h4 := HLG.out; have h5 := G9.out.n; omega)
    have X9 := Aside0.mk EN.out.1
    have Y9 := Aside0.mk EN.out.2.1
    have Z9 := Aside0.mk EN.out.2.2
    clear EN
    have hg0 : w9.cell? ⟨gg, 0, none⟩ = some (.slice Ag0 x0.length cg0) := (blk_cell G9.out.b 0).trans rfl
    have hg1 : w9.cell? ⟨gg, 1, none⟩ = some (.slice Ag1 x1.length cg1) := (blk_cell G9.out.b 1).trans rfl
    have hy0 : w9.cell? ⟨gy, 0, none⟩ = some (.slice Ay0 y0.length cy0) := (blk_cell Y9.out.b 0).trans rfl
    have hy1 : w9.cell? ⟨gy, 1, none⟩ = some (.slice Ay1 y1.length cy1) := (blk_cell Y9.out.b 1).trans rfl
    go_wp2_with (fail)
    refine (laws_eqDesk.calls k _ _ x0 _ _ x1 _ _ y0 _ _ y1 true _ G9.out.o.r0 G9.out.o.h0 G9.out.o.r1 G9.out.o.le Y9.out.r0 Y9.out.h0 Y9.out.r1 Y9.out.h1 HE.out).mono ?_
    rintro e w10 ⟨rfl, hb⟩
    clear hg0 hg1 hy0 hy1
    have HN10 := Aside0.mk (Nat.le_trans HNG.out hb.size)
    have X10 := Aside0.mk (X9.out.below hb)
    have Y10 := Aside0.mk (Y9.out.below hb)
    have Z10 := Aside0.mk (Z9.out.below hb)
    have G10 := Aside0.mk (G9.out.below hb)
    clear X9 Y9 Z9 G9
    clear hb HNG
    go_wp2_with (fail)
    have hb0_ := below_drew1 (Below.refl w10.heap.size w10)
    obtain ⟨ENV, hE, HL_, HBe, HCe, HOu⟩ : ∃ ENV : World → Prop, ENV w10.drew ∧ Aside0 (∀ W W', ENV W → Kept W W' (fun k => w10.drew.heap.size ≤ k) → Below w.heap.size w W' → ENV W') ∧ Aside0 (∀ W, ENV W → Below w.heap.size w W) ∧ Aside0 (∀ W, ENV W → W.cell? ⟨gx, 0, none⟩ = some (.slice Ax0 d0.length cx0) ∧ W.cell? ⟨gx, 1, none⟩ = some (.slice Ax1 d1.length cx1) ∧ W.cell? ⟨w.heap.size, 0, none⟩ = some (.slice A0_0 l0_0.length c0_0) ∧ W.cell? ⟨w.heap.size, 1, none⟩ = some (.slice A0_1 l0_1.length c0_1)) ∧ Aside0 (∀ W, ENV W → (XS w W A0_0 c0_0 l0_0 A0_1 c0_1 l0_1 a1_0 a1_1 a1_2) ∧ (WD W gy NY Ay0 cy0 y0 Ay1 cy1 y1) ∧ (OD W w.heap.size lx gx NX Ax0 cx0 d0 Ax1 cx1 d1 fx vx) ∧ (OD W w.heap.size lg gg NG Ag0 cg0 x0 Ag1 cg1 x1 fg vg)) := by
      refine ⟨fun W => (XS w W A0_0 c0_0 l0_0 A0_1 c0_1 l0_1 a1_0 a1_1 a1_2) ∧ (WD W gy NY Ay0 cy0 y0 Ay1 cy1 y1) ∧ (OD W w.heap.size lx gx NX Ax0 cx0 d0 Ax1 cx1 d1 fx vx) ∧ (OD W w.heap.size lg gg NG Ag0 cg0 x0 Ag1 cg1 x1 fg vg), ⟨X10.out.below hb0_, Y10.out.below hb0_, Z10.out.below hb0_, G10.out.below hb0_⟩, ⟨fun W W' h hk hb => ?_⟩, ⟨fun W h => ?_⟩, ⟨fun W h => ?_⟩, ⟨fun W h => h⟩⟩
      · obtain ⟨p0, p1, p2, p3⟩ := h
        exact ⟨p0.kept hb hk (fun k hk => by have h1 := HORD.out; have h2 : w10.drew.heap.size = w10.heap.size := rfl; have h3 := HN10.out; omega), p1.kept hk (fun k hk => by have h1 := HORD.out; have h2 : w10.drew.heap.size = w10.heap.size := rfl; have h3 := HN10.out; omega), p2.kept hk (fun k hk => .inl (by have h1 := HORD.out; have h2 : w10.drew.heap.size = w10.heap.size := rfl; have h3 := HN10.out; omega)), p3.kept hk (fun k hk => .inl (by have h1 := HORD.out; have h2 : w10.drew.heap.size = w10.heap.size := rfl; have h3 := HN10.out; omega))⟩
      · obtain ⟨p0, p1, p2, p3⟩ := h
        exact p0.bel
      · obtain ⟨p0, p1, p2, p3⟩ := h
        exact ⟨(blk_cell p2.b 0).trans rfl, (blk_cell p2.b 1).trans rfl, (blk_cell p0.d 0).trans rfl, (blk_cell p0.d 1).trans rfl⟩
    clear hb0_
    have HNA := Aside0.mk (show NG ≤ w10.drew.heap.size from HN10.out)
    have MW0 := Aside0.mk (show w.heap.size + 1 < w10.heap.size from by have h1 := HORD.out; have h3 := HN10.out; omega)
    refine start_ (n := 5) (S := ENV) (ds := []) #[false, false, false, false, false] (by kernel_rfl) rfl rfl hE (fun hHeld => ?_)
    clear hE
    have hE := hHeld
    generalize w10.drew = wa at hE HL_ hHeld HNA ⊢
    have hw : Below wa.heap.size wa wa := Below.refl _ _
    have HC22 : Aside0 (∀ W, ENV W → Calls Try.prog 22 #[.agg #[.slice A0_0 l0_0.length c0_0, .slice A0_1 l0_1.length c0_1]] W fun e W' => ∃ (A0 : Option Addr) (c0 : Nat) (A1 : Option Addr) (c1 : Nat) (f : Nat → Nat) (vs : List Value), e = .returned (.agg #[.slice A0 d0.length c0, .slice A1 d1.length c1]) ∧ DOwn W' W.heap.size (fun _ => True) A0 c0 d0 A1 c1 d1 f vs ∧ Below W.heap.size W W') := ⟨fun W h => toDesk_own (Kd.C_below HR0.out (HBe.out _ h)) HC0.out (Kd.C_below HR1.out (HBe.out _ h)) HC1.out HD.out⟩
    refine take_ (i := 0) (N := some 47) (v := ?_) (a' := ?_) #[true, false, false, false, false] rfl rfl (by kernel_rfl) (fun _ _ _ h => h) (Or.inl ⟨by rfl, ?_⟩) hHeld ?_ ?_
    rotate_left
    · intro w' hE_
      obtain ⟨t0_, t1_, t2_, t3_⟩ := HCe.out w' hE_
      go_simp
      with_reducible rfl
    rotate_left
    · simp only [putAll, Act.put, List.setIfInBounds_toArray, List.set_cons_zero, List.set_cons_succ, i64_w, i32_w]
      rfl
    refine take_ (i := 1) (N := some 48) (v := ?_) (a' := ?_) #[true, true, false, false, false] rfl rfl (by kernel_rfl) (fun _ _ _ h => h) (Or.inl ⟨by rfl, ?_⟩) hHeld ?_ ?_
    rotate_left
    · intro w' hE_
      obtain ⟨t0_, t1_, t2_, t3_⟩ := HCe.out w' hE_
      go_simp
      with_reducible rfl
    rotate_left
    · simp only [putAll, Act.put, List.setIfInBounds_toArray, List.set_cons_zero, List.set_cons_succ, i64_w, i32_w]
      rfl
    refine one_ (i := 2) (N := some 49) #[true, true, true, false, false] rfl rfl (by kernel_rfl) (by decide) (fun K hK => ?_)
    refine goes_ Try.func22 (by kernel_rfl) rfl #[.agg #[(.slice A0_0 l0_0.length c0_0), (.slice A0_1 l0_1.length c0_1)]] (by rfl) rfl rfl (by (try simp only [List.map_toArray, List.map_cons, List.map_nil]); first | done | rfl | (simp only [List.length_drop, List.length_take]; rfl)) ?_
    refine (HC22.out _ hE).mono ?_
    rintro e W_ ⟨A0, c0, A1, c1, f, vs, rfl, hD, hb_⟩
    refine ⟨_, rfl, ?_⟩
    replace hE := HL_.out _ _ hE (Kept.of_below hb_ _) (below_step (HBe.out _ hE) hb_)
    replace hw := below_step hw hb_
    clear hb_
    refine hK.out _ _ hE (fun hHeld => ?_)
    clear hK K
    refine norm_ (a' := ?_) ?_ ?_
    rotate_left
    · show Act.put _ (some 49) _ = _
      simp only [putAll, Act.put, List.setIfInBounds_toArray, List.set_cons_zero, List.set_cons_succ, i64_w, i32_w]
      rfl
    have HD2 := Aside0.mk hD
    clear hD
    refine one_ (i := 3) (N := some 50) #[true, true, true, true, false] rfl rfl (by kernel_rfl) (by decide) (fun K hK => ?_)
    refine goes_ Try.func23 (by kernel_rfl) rfl #[.agg #[(.slice Ax0 d0.length cx0), (.slice Ax1 d1.length cx1)], .agg #[.slice A0 d0.length c0, .slice A1 d1.length c1]] (by rfl) rfl rfl (by (try simp only [List.map_toArray, List.map_cons, List.map_nil]); first | done | rfl | (simp only [List.length_drop, List.length_take]; rfl)) ?_
    refine (laws_eqDesk.calls k _ _ d0 _ _ d1 _ _ d0 _ _ d1 true _ (HOu.out _ hE).2.2.1.o.r0 (HOu.out _ hE).2.2.1.o.h0 (HOu.out _ hE).2.2.1.o.r1 (HOu.out _ hE).2.2.1.o.le HD2.out.r0 HD2.out.h0 HD2.out.r1 HD2.out.le HE2.out).mono ?_
    rintro e W_ ⟨rfl, hb_⟩
    refine ⟨_, rfl, ?_⟩
    replace hE := HL_.out _ _ hE (Kept.of_below hb_ _) (below_step (HBe.out _ hE) hb_)
    replace hw := below_step hw hb_
    clear hb_
    refine hK.out _ _ hE (fun hHeld => ?_)
    clear hK K
    refine norm_ (a' := ?_) ?_ ?_
    rotate_left
    · show Act.put _ (some 50) _ = _
      simp only [putAll, Act.put, List.setIfInBounds_toArray, List.set_cons_zero, List.set_cons_succ, i64_w, i32_w]
      rfl
    refine pure_ (i := 4) (N := some 51) (v := ?_) (a' := ?_) #[true, true, true, true, true] rfl rfl (by kernel_rfl) (fun _ _ _ h => h) (Or.inl ⟨by rfl, ?_⟩) ?_ ?_
    rotate_left
    · intro w'
      go_simp
      with_reducible rfl
    rotate_left
    · simp only [putAll, Act.put, List.setIfInBounds_toArray, List.set_cons_zero, List.set_cons_succ, i64_w, i32_w]
      rfl
    refine done_ (by kernel_rfl) ?_
    have X11 := Aside0.mk (HOu.out _ hE).1
    have Y11 := Aside0.mk (HOu.out _ hE).2.1
    have Z11 := Aside0.mk (HOu.out _ hE).2.2.1
    have G11 := Aside0.mk (HOu.out _ hE).2.2.2
    have HN11 := Aside0.mk (Nat.le_trans HNA.out hw.size)
    clear hE HL_ HBe HCe HOu HC22 HD2 hHeld
    have hx0 : W_.cell? ⟨gx, 0, none⟩ = some (.slice Ax0 d0.length cx0) := (blk_cell Z11.out.b 0).trans rfl
    have hx1 : W_.cell? ⟨gx, 1, none⟩ = some (.slice Ax1 d1.length cx1) := (blk_cell Z11.out.b 1).trans rfl
    go_wp2_with (fail)
    refine (laws_markDesk.calls k Ax0 cx0 d0 Ax1 cx1 d1 fx vx (fun k => k ≠ gx ∧ lx ≤ k ∧ k < NX) 1 mk m0 m1 w _ X11.out.bel Z11.out.o HM.out).mono ?_
    rintro e w13 ⟨rfl, -, hb, hk, -⟩
    clear hx0 hx1
    have HN13 := Aside0.mk (Nat.le_trans HN11.out hk.1)
    have X13 := Aside0.mk (X11.out.kept hb hk (fun k hk => by have h1 := HORD.out; omega))
    have Y13 := Aside0.mk (Y11.out.kept hk (fun k hk => by have h1 := HORD.out; omega))
    have G13 := Aside0.mk (G11.out.kept hk (fun k hk => by have h1 := HORD.out; omega))
    clear hb hk X11 Y11 Z11 G11
    have hg0 : w13.cell? ⟨gg, 0, none⟩ = some (.slice Ag0 x0.length cg0) := (blk_cell G13.out.b 0).trans rfl
    have hg1 : w13.cell? ⟨gg, 1, none⟩ = some (.slice Ag1 x1.length cg1) := (blk_cell G13.out.b 1).trans rfl
    have hy0 : w13.cell? ⟨gy, 0, none⟩ = some (.slice Ay0 y0.length cy0) := (blk_cell Y13.out.b 0).trans rfl
    have hy1 : w13.cell? ⟨gy, 1, none⟩ = some (.slice Ay1 y1.length cy1) := (blk_cell Y13.out.b 1).trans rfl
    have f0 : decide (mk < 0) = false := decide_eq_false (by have := HMK.out; omega)
    go_wp2_with (fail)
    refine (laws_eqDesk.calls k _ _ x0 _ _ x1 _ _ y0 _ _ y1 true _ G13.out.o.r0 G13.out.o.h0 G13.out.o.r1 G13.out.o.le Y13.out.r0 Y13.out.h0 Y13.out.r1 Y13.out.h1 HE.out).mono ?_
    rintro e w14 ⟨rfl, hb⟩
    clear hg0 hg1 hy0 hy1 f0
    have HN14 := Aside0.mk (Nat.le_trans HN13.out hb.size)
    have X14 := Aside0.mk (X13.out.below hb)
    have Y14 := Aside0.mk (Y13.out.below hb)
    have G14 := Aside0.mk (G13.out.below hb)
    clear X13 Y13 G13
    clear hb
    have hg0 : w14.cell? ⟨gg, 0, none⟩ = some (.slice Ag0 x0.length cg0) := (blk_cell G14.out.b 0).trans rfl
    have hg1 : w14.cell? ⟨gg, 1, none⟩ = some (.slice Ag1 x1.length cg1) := (blk_cell G14.out.b 1).trans rfl
    go_wp2_with (fail)
    refine (laws_markDesk.calls k Ag0 cg0 x0 Ag1 cg1 x1 fg vg (fun k => k ≠ gg ∧ lg ≤ k ∧ k < NG) 1 q n0 n1 w _ X14.out.bel G14.out.o HN.out).mono ?_
    rintro e w17 ⟨rfl, hd, hb, hk, hle⟩
    clear hg0 hg1
    have HN17 := Aside0.mk (Nat.le_trans HN14.out hk.1)
    have X17 := Aside0.mk (X14.out.kept hb hk (fun k hk => by have h1 := HORD.out; omega))
    have Y17 := Aside0.mk (Y14.out.kept hk (fun k hk => by have h1 := HORD.out; omega))
    have G17 := Aside0.mk (G14.out.marked hd hk hle.symm (by have h1 := hd.rows.1; have h2 := G14.out.o.rows.1; simp only [List.length_cons] at h1 h2; omega))
    clear hb hk hd hle X14 Y14 G14
    have hg0 : w17.cell? ⟨gg, 0, none⟩ = some (.slice Ag0 n0.length cg0) := (blk_cell G17.out.b 0).trans rfl
    have hg1 : w17.cell? ⟨gg, 1, none⟩ = some (.slice Ag1 n1.length cg1) := (blk_cell G17.out.b 1).trans rfl
    go_wp2_with (fail)
    refine (laws_heldDesk.calls k _ _ n0 _ _ n1 1 q _ G17.out.o.r0 G17.out.o.h0 G17.out.o.r1 G17.out.o.le HQ.out).mono ?_
    rintro e w19 ⟨rfl, hb⟩
    clear hg0 hg1
    have f0 : decide (q < 0) = false := decide_eq_false (by have := HQ0.out; omega)
    have HN19 := Aside0.mk (Nat.le_trans HN17.out hb.size)
    have X19 := Aside0.mk (X17.out.below hb)
    have Y19 := Aside0.mk (Y17.out.below hb)
    have G19 := Aside0.mk (G17.out.below hb)
    clear X17 Y17 G17
    clear hb
    go_wp2_with (fail)
    clear f0
    skip
    have hb0_ := below_drew1 (Below.refl w19.heap.size w19)
    obtain ⟨ENV, hE, HL_, HBe, HCe, HOu⟩ : ∃ ENV : World → Prop, ENV w19.drew ∧ Aside0 (∀ W W', ENV W → Kept W W' (fun k => w19.drew.heap.size ≤ k) → Below w.heap.size w W' → ENV W') ∧ Aside0 (∀ W, ENV W → Below w.heap.size w W) ∧ Aside0 (∀ W, ENV W → W.cell? ⟨w.heap.size, 0, none⟩ = some (.slice A0_0 l0_0.length c0_0) ∧ W.cell? ⟨w.heap.size, 1, none⟩ = some (.slice A0_1 l0_1.length c0_1) ∧ W.cell? ⟨w.heap.size + 1, 0, none⟩ = some (.int .i64 a1_0) ∧ W.cell? ⟨w.heap.size + 1, 1, none⟩ = some (.int .i64 a1_1) ∧ W.cell? ⟨w.heap.size + 1, 2, none⟩ = some (.int .i64 a1_2)) ∧ Aside0 (∀ W, ENV W → (XS w W A0_0 c0_0 l0_0 A0_1 c0_1 l0_1 a1_0 a1_1 a1_2) ∧ (WD W gy NY Ay0 cy0 y0 Ay1 cy1 y1) ∧ (OD W w.heap.size lg gg NG Ag0 cg0 n0 Ag1 cg1 n1 fg vg)) := by
      refine ⟨fun W => (XS w W A0_0 c0_0 l0_0 A0_1 c0_1 l0_1 a1_0 a1_1 a1_2) ∧ (WD W gy NY Ay0 cy0 y0 Ay1 cy1 y1) ∧ (OD W w.heap.size lg gg NG Ag0 cg0 n0 Ag1 cg1 n1 fg vg), ⟨X19.out.below hb0_, Y19.out.below hb0_, G19.out.below hb0_⟩, ⟨fun W W' h hk hb => ?_⟩, ⟨fun W h => ?_⟩, ⟨fun W h => ?_⟩, ⟨fun W h => h⟩⟩
      · obtain ⟨p0, p1, p2⟩ := h
        exact ⟨p0.kept hb hk (fun k hk => by have h1 := HORD.out; have h2 : w19.drew.heap.size = w19.heap.size := rfl; have h3 := HN19.out; omega), p1.kept hk (fun k hk => by have h1 := HORD.out; have h2 : w19.drew.heap.size = w19.heap.size := rfl; have h3 := HN19.out; omega), p2.kept hk (fun k hk => .inl (by have h1 := HORD.out; have h2 : w19.drew.heap.size = w19.heap.size := rfl; have h3 := HN19.out; omega))⟩
      · obtain ⟨p0, p1, p2⟩ := h
        exact p0.bel
      · obtain ⟨p0, p1, p2⟩ := h
        exact ⟨(blk_cell p0.d 0).trans rfl, (blk_cell p0.d 1).trans rfl, (blk_cell p0.a 0).trans rfl, (blk_cell p0.a 1).trans rfl, (blk_cell p0.a 2).trans rfl⟩
    clear hb0_
    clear MW MW0
    have MW0 := Aside0.mk (show w.heap.size + 1 < w19.heap.size from by have h1 := HORD.out; have h3 := HN19.out; omega)
    refine start_ (n := 11) (S := ENV) (ds := []) #[false, false, false, false, false, false, false, false, false, false, false] (by kernel_rfl) rfl rfl hE (fun hHeld => ?_); refine with_tabW laws_FnExactDeskDo.tab24 laws_FnExactDeskDo.bits24 (fun HT_ HW_ => ?_)
    clear hE
    have hE := hHeld
    have MW := Aside0.mk (show w.heap.size + 1 < w19.drew.heap.size from MW0.out)
    clear MW0
    generalize w19.drew = wa at hE HL_ MW hHeld  ⊢
    have hw : Below wa.heap.size wa wa := Below.refl _ _
    have HC22 : Aside0 (∀ W, ENV W → Calls Try.prog 22 #[.agg #[.slice A0_0 l0_0.length c0_0, .slice A0_1 l0_1.length c0_1]] W fun e W' => ∃ (A0 : Option Addr) (c0 : Nat) (A1 : Option Addr) (c1 : Nat) (f : Nat → Nat) (vs : List Value), e = .returned (.agg #[.slice A0 d0.length c0, .slice A1 d1.length c1]) ∧ DOwn W' W.heap.size (fun _ => True) A0 c0 d0 A1 c1 d1 f vs ∧ Below W.heap.size W W') := ⟨fun W h => toDesk_own (Kd.C_below HR0.out (HBe.out _ h)) HC0.out (Kd.C_below HR1.out (HBe.out _ h)) HC1.out HD.out⟩
    have HC35 : Aside0 (∀ W, Calls Try.prog 35 #[.agg #[.int .i64 a1_0, .int .i64 a1_1, .int .i64 a1_2]] W fun e W' => e = .returned (.agg #[.int .i64 a1_0, .int .i64 a1_1, .int .i64 a1_2]) ∧ Below W.heap.size W W') := ⟨fun W => laws_toDeed.calls a1_0 a1_1 a1_2 a1_0 a1_1 a1_2 W rfl⟩
    have HC33 : Aside0 (∀ W ok A0 c0 A1 c1 f vs, DOwn W wa.heap.size ok A0 c0 d0 A1 c1 d1 f vs → Calls Try.prog 32 #[.agg #[.slice A0 d0.length c0, .slice A1 d1.length c1], .agg #[.int .i64 a1_0, .int .i64 a1_1, .int .i64 a1_2]] W fun e W' => ∃ (B0 : Option Addr) (e0 : Nat) (B1 : Option Addr) (e1 : Nat), e = .returned (.tuple #[.agg #[.slice B0 x0.length e0, .slice B1 x1.length e1], .bool ob]) ∧ Kd.V k50 50 W' 0 (fun k => ok k ∨ W.heap.size ≤ k) (.slice B0 x0.length e0) x0 ∧ Kd.V (Kd.slice 50 k50) 23 W' 0 (fun k => W.heap.size ≤ k) (.slice B1 x1.length e1) x1 ∧ Below W.heap.size W W') := ⟨fun W ok A0 c0 A1 c1 f vs h => by
        refine (impl_DeskDo.calls k A0 c0 d0 A1 c1 d1 a1_0 a1_1 a1_2 x0 x1 ob W h.r0 h.h0 h.r1 h.le HG.out).mono ?_
        rintro e W' ⟨B0, e0, B1, e1, f', vs', rfl, hd, hb⟩
        exact ⟨B0, e0, B1, e1, rfl, Kd.V_mono hd.v0 (fun _ hk => .inr hk), hd.v1, hb⟩⟩
    refine take_ (i := 0) (N := some 80) (v := ?_) (a' := ?_) #[true, false, false, false, false, false, false, false, false, false, false] rfl rfl (take_ofW HT_.out HW_.out (by kernel_rfl)) (fun _ _ _ h => h) (Or.inl ⟨by rfl, ?_⟩) hHeld ?_ ?_
    rotate_left
    · intro w' hE_
      obtain ⟨t0_, t1_, t2_, t3_, t4_⟩ := HCe.out w' hE_
      go_simp
      with_reducible rfl
    rotate_left
    · simp only [putAll, Act.put, List.setIfInBounds_toArray, List.set_cons_zero, List.set_cons_succ, i64_w, i32_w]
      rfl
    refine take_ (i := 2) (N := some 82) (v := ?_) (a' := ?_) #[true, false, true, false, false, false, false, false, false, false, false] rfl rfl (take_ofW HT_.out HW_.out (by kernel_rfl)) (fun _ _ _ h => h) (Or.inl ⟨by rfl, ?_⟩) hHeld ?_ ?_
    rotate_left
    · intro w' hE_
      obtain ⟨t0_, t1_, t2_, t3_, t4_⟩ := HCe.out w' hE_
      go_simp
      with_reducible rfl
    rotate_left
    · simp only [putAll, Act.put, List.setIfInBounds_toArray, List.set_cons_zero, List.set_cons_succ, i64_w, i32_w]
      rfl
    refine join_ (σ := Value × Value × Value × Value × Nat) 2 #[true, true, true, true, true, true, true, true, true, false, false] (fun s_ => [(81, .agg #[s_.1, s_.2.1]), (83, .agg #[.int .i64 a1_0, .int .i64 a1_1, .int .i64 a1_2]), (84, .tuple #[.agg #[s_.2.2.1, s_.2.2.2.1], .bool ob]), (14, .pointer (some ⟨s_.2.2.2.2, 0, none⟩)), (79, .tuple #[.agg #[s_.2.2.1, s_.2.2.2.1], .bool ob]), (85, .agg #[s_.2.2.1, s_.2.2.2.1]), (86, .bool ob)]) (fun s_ W => ENV W ∧ W.heap[s_.2.2.2.2]? = some (.cells #[.slice none 0 0, .slice none 0 0] 27 (0, 0)) ∧ wa.heap.size ≤ s_.2.2.2.2 ∧ Kd.V k50 50 W 0 (fun k => k ≠ s_.2.2.2.2 ∧ wa.heap.size ≤ k) s_.2.2.1 x0 ∧ Kd.V (Kd.slice 50 k50) 23 W 0 (fun k => k ≠ s_.2.2.2.2 ∧ wa.heap.size ≤ k) s_.2.2.2.1 x1 ∧ Below wa.heap.size wa W) ?_ ?_
    rotate_left
    · intro hCont
      refine two_ (i := 1) (j := 8) (Ni := some 81) (Nj := some 14) #[true, true, true, false, false, false, false, false, false, false, false] #[true, false, true, false, false, false, false, false, true, false, false] rfl rfl rfl rfl (two_of HT_.out (by kernel_rfl)) (by decide) (by decide) (fun K hK => ?_) (fun K hK => ?_)
      · skip
        refine goes_ Try.func22 (by kernel_rfl) rfl #[.agg #[.slice A0_0 l0_0.length c0_0, .slice A0_1 l0_1.length c0_1]] (by rfl) rfl rfl (by (try simp only [List.map_toArray, List.map_cons, List.map_nil]); first | done | rfl | (simp only [List.length_drop, List.length_take]; rfl)) ?_
        refine (HC22.out _ hE).mono ?_
        rintro e W_ ⟨A0, c0, A1, c1, f, vs, rfl, hD, hb_⟩
        refine ⟨_, rfl, ?_⟩
        replace hD := hD.mono (ok' := fun k => wa.heap.size ≤ k) (base' := wa.heap.size) (fun k h1 _ _ => Nat.le_trans hw.size h1) hw.size
        replace hE := HL_.out _ _ hE (Kept.of_below hb_ _) (below_step (HBe.out _ hE) hb_)
        replace hw := below_step hw hb_
        clear hb_
        refine hK.out _ _ hE (fun hHeld => ?_)
        clear hK K
        refine norm_ (a' := ?_) ?_ ?_
        rotate_left
        · show Act.put _ (some 81) _ = _
          simp only [putAll, Act.put, List.setIfInBounds_toArray, List.set_cons_zero, List.set_cons_succ, i64_w, i32_w]
          rfl
        refine two_ (i := 3) (j := 8) (Ni := some 83) (Nj := some 14) #[true, true, true, true, false, false, false, false, false, false, false] #[true, true, true, false, false, false, false, false, true, false, false] rfl rfl rfl rfl (two_of HT_.out (by kernel_rfl)) (by decide) (by decide) (fun K hK => ?_) (fun K hK => ?_)
        · skip
          refine goes_ Try.func35 (by kernel_rfl) rfl #[.agg #[.int .i64 a1_0, .int .i64 a1_1, .int .i64 a1_2]] (by rfl) rfl rfl (by (try simp only [List.map_toArray, List.map_cons, List.map_nil]); first | done | rfl | (simp only [List.length_drop, List.length_take]; rfl)) ?_
          refine (HC35.out _).mono ?_
          rintro e W_ ⟨rfl, hb_⟩
          refine ⟨_, rfl, ?_⟩
          replace hD := hD.below hb_
          replace hE := HL_.out _ _ hE (Kept.of_below hb_ _) (below_step (HBe.out _ hE) hb_)
          replace hw := below_step hw hb_
          clear hb_
          refine hK.out _ _ hE (fun hHeld => ?_)
          clear hK K
          refine norm_ (a' := ?_) ?_ ?_
          rotate_left
          · show Act.put _ (some 83) _ = _
            simp only [putAll, Act.put, List.setIfInBounds_toArray, List.set_cons_zero, List.set_cons_succ, i64_w, i32_w]
            rfl
          refine two_ (i := 4) (j := 8) (Ni := some 84) (Nj := some 14) #[true, true, true, true, true, false, false, false, false, false, false] #[true, true, true, true, false, false, false, false, true, false, false] rfl rfl rfl rfl (two_of HT_.out (by kernel_rfl)) (by decide) (by decide) (fun K hK => ?_) (fun K hK => ?_)
          · skip
            refine goes_ Try.func32 (by kernel_rfl) rfl #[.agg #[.slice A0 d0.length c0, .slice A1 d1.length c1], .agg #[.int .i64 a1_0, .int .i64 a1_1, .int .i64 a1_2]] (by rfl) rfl rfl (by (try simp only [List.map_toArray, List.map_cons, List.map_nil]); first | done | rfl | (simp only [List.length_drop, List.length_take]; rfl)) ?_
            refine (HC33.out _ _ _ _ _ _ _ _ hD).mono ?_
            rintro e W_ ⟨B0, e0, B1, e1, rfl, hv0, hv1, hb_⟩
            refine ⟨_, rfl, ?_⟩
            replace hv0 := Kd.V_mono (ok' := fun k => wa.heap.size ≤ k) hv0 (fun k hk => hk.elim id (fun h => Nat.le_trans hw.size h))
            replace hv1 := Kd.V_mono (ok' := fun k => wa.heap.size ≤ k) hv1 (fun k hk => Nat.le_trans hw.size hk)
            replace hE := HL_.out _ _ hE (Kept.of_below hb_ _) (below_step (HBe.out _ hE) hb_)
            replace hw := below_step hw hb_
            clear hb_
            refine hK.out _ _ hE (fun hHeld => ?_)
            clear hK K
            refine norm_ (a' := ?_) ?_ ?_
            rotate_left
            · show Act.put _ (some 84) _ = _
              simp only [putAll, Act.put, List.setIfInBounds_toArray, List.set_cons_zero, List.set_cons_succ, i64_w, i32_w]
              rfl
            refine pure_ (i := 5) (N := some 79) (v := ?_) (a' := ?_) #[true, true, true, true, true, true, false, false, false, false, false] rfl rfl (any_of HT_.out (by kernel_rfl)) (fun _ _ _ h => h) (Or.inl ⟨by rfl, ?_⟩) ?_ ?_
            rotate_left
            · intro w'
              go_simp
              with_reducible rfl
            rotate_left
            · simp only [putAll, Act.put, List.setIfInBounds_toArray, List.set_cons_zero, List.set_cons_succ, i64_w, i32_w]
              rfl
            refine pure_ (i := 6) (N := some 85) (v := ?_) (a' := ?_) #[true, true, true, true, true, true, true, false, false, false, false] rfl rfl (any_of HT_.out (by kernel_rfl)) (fun _ _ _ h => h) (Or.inl ⟨by rfl, ?_⟩) ?_ ?_
            rotate_left
            · intro w'
              go_simp
              with_reducible rfl
            rotate_left
            · simp only [putAll, Act.put, List.setIfInBounds_toArray, List.set_cons_zero, List.set_cons_succ, i64_w, i32_w]
              rfl
            refine pure_ (i := 7) (N := some 86) (v := ?_) (a' := ?_) #[true, true, true, true, true, true, true, true, false, false, false] rfl rfl (any_of HT_.out (by kernel_rfl)) (fun _ _ _ h => h) (Or.inl ⟨by rfl, ?_⟩) ?_ ?_
            rotate_left
            · intro w'
              go_simp
              with_reducible rfl
            rotate_left
            · simp only [putAll, Act.put, List.setIfInBounds_toArray, List.set_cons_zero, List.set_cons_succ, i64_w, i32_w]
              rfl
            refine one_ (i := 8) (N := some 14) #[true, true, true, true, true, true, true, true, true, false, false] rfl rfl (one_of HT_.out (by kernel_rfl)) (by decide) (fun K hK => ?_)
            refine box_step ?hg (N := 14) ?hd (cs := #[.slice none 0 0, .slice none 0 0]) (t := 27) ?hr ?_; (case hd => rfl); (case hg => rfl); (case hr => first | (go_simp; done) | (go_simp; rfl))
            intro g hg W_ hbox hb_
            have hgl : wa.heap.size ≤ g := by rw [hg]; exact hw.size
            replace hv0 := Kd.V_below (Kd.V_mono (ok' := fun k => k ≠ g ∧ wa.heap.size ≤ k) (Kd.V_map (base' := 0) hv0 (fun _ hf => Kd.F_bound hf)) (fun k hk => ⟨by have := hk.2; omega, hk.1⟩)) hb_
            replace hv1 := Kd.V_below (Kd.V_mono (ok' := fun k => k ≠ g ∧ wa.heap.size ≤ k) (Kd.V_map (base' := 0) hv1 (fun _ hf => Kd.F_bound hf)) (fun k hk => ⟨by have := hk.2; omega, hk.1⟩)) hb_
            replace hE := HL_.out _ _ hE (Kept.of_below hb_ _) (below_step (HBe.out _ hE) hb_)
            replace hw := below_step hw hb_
            clear hb_ hg
            refine hK.out _ _ hE (fun hHeld => ?_)
            clear hK K
            refine norm_ (a' := ?_) ?_ ?_
            rotate_left
            · show Act.put _ (some 14) _ = _
              simp only [putAll, Act.put, List.setIfInBounds_toArray, List.set_cons_zero, List.set_cons_succ, i64_w, i32_w]
              rfl
            exact norm_ (by simp only [putAll, Act.put, List.setIfInBounds_toArray, List.set_cons_zero, List.set_cons_succ, i64_w, i32_w]) (hCont (.slice A0 d0.length c0, .slice A1 d1.length c1, .slice B0 x0.length e0, .slice B1 x1.length e1, g) _ ⟨hE, hbox, hgl, hv0, hv1, hw⟩)
          · skip
            refine box_step ?hg (N := 14) ?hd (cs := #[.slice none 0 0, .slice none 0 0]) (t := 27) ?hr ?_; (case hd => rfl); (case hg => rfl); (case hr => first | (go_simp; done) | (go_simp; rfl))
            intro g hg W_ hbox hb_
            have hgl : wa.heap.size ≤ g := by rw [hg]; exact hw.size
            replace hD := (hD.mono (ok' := fun k => k ≠ g ∧ wa.heap.size ≤ k) (fun k h1 h2 _ => ⟨by omega, h1⟩) (Nat.le_refl _)).below hb_
            replace hE := HL_.out _ _ hE (Kept.of_below hb_ _) (below_step (HBe.out _ hE) hb_)
            replace hw := below_step hw hb_
            clear hb_ hg
            refine hK.out _ _ hE (fun hHeld => ?_)
            clear hK K
            refine norm_ (a' := ?_) ?_ ?_
            rotate_left
            · show Act.put _ (some 14) _ = _
              simp only [putAll, Act.put, List.setIfInBounds_toArray, List.set_cons_zero, List.set_cons_succ, i64_w, i32_w]
              rfl
            refine one_ (i := 4) (N := some 84) #[true, true, true, true, true, false, false, false, true, false, false] rfl rfl (one_of HT_.out (by kernel_rfl)) (by decide) (fun K hK => ?_)
            refine goes_ Try.func32 (by kernel_rfl) rfl #[.agg #[.slice A0 d0.length c0, .slice A1 d1.length c1], .agg #[.int .i64 a1_0, .int .i64 a1_1, .int .i64 a1_2]] (by rfl) rfl rfl (by (try simp only [List.map_toArray, List.map_cons, List.map_nil]); first | done | rfl | (simp only [List.length_drop, List.length_take]; rfl)) ?_
            refine (HC33.out _ _ _ _ _ _ _ _ hD).mono ?_
            rintro e W_ ⟨B0, e0, B1, e1, rfl, hv0, hv1, hb_⟩
            refine ⟨_, rfl, ?_⟩
            replace hv0 := Kd.V_mono (ok' := fun k => k ≠ g ∧ wa.heap.size ≤ k) hv0 (fun k hk => hk.elim id (fun h => ⟨by have := blk_lt hbox; omega, Nat.le_trans hw.size h⟩))
            replace hv1 := Kd.V_mono (ok' := fun k => k ≠ g ∧ wa.heap.size ≤ k) hv1 (fun k hk => ⟨by have := blk_lt hbox; omega, Nat.le_trans hw.size hk⟩)
            replace hbox := (hb_.block _ (blk_lt hbox)).trans hbox
            replace hE := HL_.out _ _ hE (Kept.of_below hb_ _) (below_step (HBe.out _ hE) hb_)
            replace hw := below_step hw hb_
            clear hb_
            refine hK.out _ _ hE (fun hHeld => ?_)
            clear hK K
            refine norm_ (a' := ?_) ?_ ?_
            rotate_left
            · show Act.put _ (some 84) _ = _
              simp only [putAll, Act.put, List.setIfInBounds_toArray, List.set_cons_zero, List.set_cons_succ, i64_w, i32_w]
              rfl
            refine pure_ (i := 5) (N := some 79) (v := ?_) (a' := ?_) #[true, true, true, true, true, true, false, false, true, false, false] rfl rfl (any_of HT_.out (by kernel_rfl)) (fun _ _ _ h => h) (Or.inl ⟨by rfl, ?_⟩) ?_ ?_
            rotate_left
            · intro w'
              go_simp
              with_reducible rfl
            rotate_left
            · simp only [putAll, Act.put, List.setIfInBounds_toArray, List.set_cons_zero, List.set_cons_succ, i64_w, i32_w]
              rfl
            refine pure_ (i := 6) (N := some 85) (v := ?_) (a' := ?_) #[true, true, true, true, true, true, true, false, true, false, false] rfl rfl (any_of HT_.out (by kernel_rfl)) (fun _ _ _ h => h) (Or.inl ⟨by rfl, ?_⟩) ?_ ?_
            rotate_left
            · intro w'
              go_simp
              with_reducible rfl
            rotate_left
            · simp only [putAll, Act.put, List.setIfInBounds_toArray, List.set_cons_zero, List.set_cons_succ, i64_w, i32_w]
              rfl
            refine pure_ (i := 7) (N := some 86) (v := ?_) (a' := ?_) #[true, true, true, true, true, true, true, true, true, false, false] rfl rfl (any_of HT_.out (by kernel_rfl)) (fun _ _ _ h => h) (Or.inl ⟨by rfl, ?_⟩) ?_ ?_
            rotate_left
            · intro w'
              go_simp
              with_reducible rfl
            rotate_left
            · simp only [putAll, Act.put, List.setIfInBounds_toArray, List.set_cons_zero, List.set_cons_succ, i64_w, i32_w]
              rfl
            exact norm_ (by simp only [putAll, Act.put, List.setIfInBounds_toArray, List.set_cons_zero, List.set_cons_succ, i64_w, i32_w]) (hCont (.slice A0 d0.length c0, .slice A1 d1.length c1, .slice B0 x0.length e0, .slice B1 x1.length e1, g) _ ⟨hE, hbox, hgl, hv0, hv1, hw⟩)
        · skip
          refine box_step ?hg (N := 14) ?hd (cs := #[.slice none 0 0, .slice none 0 0]) (t := 27) ?hr ?_; (case hd => rfl); (case hg => rfl); (case hr => first | (go_simp; done) | (go_simp; rfl))
          intro g hg W_ hbox hb_
          have hgl : wa.heap.size ≤ g := by rw [hg]; exact hw.size
          replace hD := (hD.mono (ok' := fun k => k ≠ g ∧ wa.heap.size ≤ k) (fun k h1 h2 _ => ⟨by omega, h1⟩) (Nat.le_refl _)).below hb_
          replace hE := HL_.out _ _ hE (Kept.of_below hb_ _) (below_step (HBe.out _ hE) hb_)
          replace hw := below_step hw hb_
          clear hb_ hg
          refine hK.out _ _ hE (fun hHeld => ?_)
          clear hK K
          refine norm_ (a' := ?_) ?_ ?_
          rotate_left
          · show Act.put _ (some 14) _ = _
            simp only [putAll, Act.put, List.setIfInBounds_toArray, List.set_cons_zero, List.set_cons_succ, i64_w, i32_w]
            rfl
          refine one_ (i := 3) (N := some 83) #[true, true, true, true, false, false, false, false, true, false, false] rfl rfl (one_of HT_.out (by kernel_rfl)) (by decide) (fun K hK => ?_)
          refine goes_ Try.func35 (by kernel_rfl) rfl #[.agg #[.int .i64 a1_0, .int .i64 a1_1, .int .i64 a1_2]] (by rfl) rfl rfl (by (try simp only [List.map_toArray, List.map_cons, List.map_nil]); first | done | rfl | (simp only [List.length_drop, List.length_take]; rfl)) ?_
          refine (HC35.out _).mono ?_
          rintro e W_ ⟨rfl, hb_⟩
          refine ⟨_, rfl, ?_⟩
          replace hD := hD.below hb_
          replace hbox := (hb_.block _ (blk_lt hbox)).trans hbox
          replace hE := HL_.out _ _ hE (Kept.of_below hb_ _) (below_step (HBe.out _ hE) hb_)
          replace hw := below_step hw hb_
          clear hb_
          refine hK.out _ _ hE (fun hHeld => ?_)
          clear hK K
          refine norm_ (a' := ?_) ?_ ?_
          rotate_left
          · show Act.put _ (some 83) _ = _
            simp only [putAll, Act.put, List.setIfInBounds_toArray, List.set_cons_zero, List.set_cons_succ, i64_w, i32_w]
            rfl
          refine one_ (i := 4) (N := some 84) #[true, true, true, true, true, false, false, false, true, false, false] rfl rfl (one_of HT_.out (by kernel_rfl)) (by decide) (fun K hK => ?_)
          refine goes_ Try.func32 (by kernel_rfl) rfl #[.agg #[.slice A0 d0.length c0, .slice A1 d1.length c1], .agg #[.int .i64 a1_0, .int .i64 a1_1, .int .i64 a1_2]] (by rfl) rfl rfl (by (try simp only [List.map_toArray, List.map_cons, List.map_nil]); first | done | rfl | (simp only [List.length_drop, List.length_take]; rfl)) ?_
          refine (HC33.out _ _ _ _ _ _ _ _ hD).mono ?_
          rintro e W_ ⟨B0, e0, B1, e1, rfl, hv0, hv1, hb_⟩
          refine ⟨_, rfl, ?_⟩
          replace hv0 := Kd.V_mono (ok' := fun k => k ≠ g ∧ wa.heap.size ≤ k) hv0 (fun k hk => hk.elim id (fun h => ⟨by have := blk_lt hbox; omega, Nat.le_trans hw.size h⟩))
          replace hv1 := Kd.V_mono (ok' := fun k => k ≠ g ∧ wa.heap.size ≤ k) hv1 (fun k hk => ⟨by have := blk_lt hbox; omega, Nat.le_trans hw.size hk⟩)
          replace hbox := (hb_.block _ (blk_lt hbox)).trans hbox
          replace hE := HL_.out _ _ hE (Kept.of_below hb_ _) (below_step (HBe.out _ hE) hb_)
          replace hw := below_step hw hb_
          clear hb_
          refine hK.out _ _ hE (fun hHeld => ?_)
          clear hK K
          refine norm_ (a' := ?_) ?_ ?_
          rotate_left
          · show Act.put _ (some 84) _ = _
            simp only [putAll, Act.put, List.setIfInBounds_toArray, List.set_cons_zero, List.set_cons_succ, i64_w, i32_w]
            rfl
          refine pure_ (i := 5) (N := some 79) (v := ?_) (a' := ?_) #[true, true, true, true, true, true, false, false, true, false, false] rfl rfl (any_of HT_.out (by kernel_rfl)) (fun _ _ _ h => h) (Or.inl ⟨by rfl, ?_⟩) ?_ ?_
          rotate_left
          · intro w'
            go_simp
            with_reducible rfl
          rotate_left
          · simp only [putAll, Act.put, List.setIfInBounds_toArray, List.set_cons_zero, List.set_cons_succ, i64_w, i32_w]
            rfl
          refine pure_ (i := 6) (N := some 85) (v := ?_) (a' := ?_) #[true, true, true, true, true, true, true, false, true, false, false] rfl rfl (any_of HT_.out (by kernel_rfl)) (fun _ _ _ h => h) (Or.inl ⟨by rfl, ?_⟩) ?_ ?_
          rotate_left
          · intro w'
            go_simp
            with_reducible rfl
          rotate_left
          · simp only [putAll, Act.put, List.setIfInBounds_toArray, List.set_cons_zero, List.set_cons_succ, i64_w, i32_w]
            rfl
          refine pure_ (i := 7) (N := some 86) (v := ?_) (a' := ?_) #[true, true, true, true, true, true, true, true, true, false, false] rfl rfl (any_of HT_.out (by kernel_rfl)) (fun _ _ _ h => h) (Or.inl ⟨by rfl, ?_⟩) ?_ ?_
          rotate_left
          · intro w'
            go_simp
            with_reducible rfl
          rotate_left
          · simp only [putAll, Act.put, List.setIfInBounds_toArray, List.set_cons_zero, List.set_cons_succ, i64_w, i32_w]
            rfl
          exact norm_ (by simp only [putAll, Act.put, List.setIfInBounds_toArray, List.set_cons_zero, List.set_cons_succ, i64_w, i32_w]) (hCont (.slice A0 d0.length c0, .slice A1 d1.length c1, .slice B0 x0.length e0, .slice B1 x1.length e1, g) _ ⟨hE, hbox, hgl, hv0, hv1, hw⟩)
      · skip
        refine box_step ?hg (N := 14) ?hd (cs := #[.slice none 0 0, .slice none 0 0]) (t := 27) ?hr ?_; (case hd => rfl); (case hg => rfl); (case hr => first | (go_simp; done) | (go_simp; rfl))
        intro g hg W_ hbox hb_
        have hgl : wa.heap.size ≤ g := by rw [hg]; exact hw.size
        replace hE := HL_.out _ _ hE (Kept.of_below hb_ _) (below_step (HBe.out _ hE) hb_)
        replace hw := below_step hw hb_
        clear hb_ hg
        refine hK.out _ _ hE (fun hHeld => ?_)
        clear hK K
        refine norm_ (a' := ?_) ?_ ?_
        rotate_left
        · show Act.put _ (some 14) _ = _
          simp only [putAll, Act.put, List.setIfInBounds_toArray, List.set_cons_zero, List.set_cons_succ, i64_w, i32_w]
          rfl
        refine one_ (i := 1) (N := some 81) #[true, true, true, false, false, false, false, false, true, false, false] rfl rfl (one_of HT_.out (by kernel_rfl)) (by decide) (fun K hK => ?_)
        refine goes_ Try.func22 (by kernel_rfl) rfl #[.agg #[.slice A0_0 l0_0.length c0_0, .slice A0_1 l0_1.length c0_1]] (by rfl) rfl rfl (by (try simp only [List.map_toArray, List.map_cons, List.map_nil]); first | done | rfl | (simp only [List.length_drop, List.length_take]; rfl)) ?_
        refine (HC22.out _ hE).mono ?_
        rintro e W_ ⟨A0, c0, A1, c1, f, vs, rfl, hD, hb_⟩
        refine ⟨_, rfl, ?_⟩
        replace hD := hD.mono (ok' := fun k => k ≠ g ∧ wa.heap.size ≤ k) (base' := wa.heap.size) (fun k h1 _ _ => ⟨by have := blk_lt hbox; omega, Nat.le_trans hw.size h1⟩) hw.size
        replace hbox := (hb_.block _ (blk_lt hbox)).trans hbox
        replace hE := HL_.out _ _ hE (Kept.of_below hb_ _) (below_step (HBe.out _ hE) hb_)
        replace hw := below_step hw hb_
        clear hb_
        refine hK.out _ _ hE (fun hHeld => ?_)
        clear hK K
        refine norm_ (a' := ?_) ?_ ?_
        rotate_left
        · show Act.put _ (some 81) _ = _
          simp only [putAll, Act.put, List.setIfInBounds_toArray, List.set_cons_zero, List.set_cons_succ, i64_w, i32_w]
          rfl
        refine one_ (i := 3) (N := some 83) #[true, true, true, true, false, false, false, false, true, false, false] rfl rfl (one_of HT_.out (by kernel_rfl)) (by decide) (fun K hK => ?_)
        refine goes_ Try.func35 (by kernel_rfl) rfl #[.agg #[.int .i64 a1_0, .int .i64 a1_1, .int .i64 a1_2]] (by rfl) rfl rfl (by (try simp only [List.map_toArray, List.map_cons, List.map_nil]); first | done | rfl | (simp only [List.length_drop, List.length_take]; rfl)) ?_
        refine (HC35.out _).mono ?_
        rintro e W_ ⟨rfl, hb_⟩
        refine ⟨_, rfl, ?_⟩
        replace hD := hD.below hb_
        replace hbox := (hb_.block _ (blk_lt hbox)).trans hbox
        replace hE := HL_.out _ _ hE (Kept.of_below hb_ _) (below_step (HBe.out _ hE) hb_)
        replace hw := below_step hw hb_
        clear hb_
        refine hK.out _ _ hE (fun hHeld => ?_)
        clear hK K
        refine norm_ (a' := ?_) ?_ ?_
        rotate_left
        · show Act.put _ (some 83) _ = _
          simp only [putAll, Act.put, List.setIfInBounds_toArray, List.set_cons_zero, List.set_cons_succ, i64_w, i32_w]
          rfl
        refine one_ (i := 4) (N := some 84) #[true, true, true, true, true, false, false, false, true, false, false] rfl rfl (one_of HT_.out (by kernel_rfl)) (by decide) (fun K hK => ?_)
        refine goes_ Try.func32 (by kernel_rfl) rfl #[.agg #[.slice A0 d0.length c0, .slice A1 d1.length c1], .agg #[.int .i64 a1_0, .int .i64 a1_1, .int .i64 a1_2]] (by rfl) rfl rfl (by (try simp only [List.map_toArray, List.map_cons, List.map_nil]); first | done | rfl | (simp only [List.length_drop, List.length_take]; rfl)) ?_
        refine (HC33.out _ _ _ _ _ _ _ _ hD).mono ?_
        rintro e W_ ⟨B0, e0, B1, e1, rfl, hv0, hv1, hb_⟩
        refine ⟨_, rfl, ?_⟩
        replace hv0 := Kd.V_mono (ok' := fun k => k ≠ g ∧ wa.heap.size ≤ k) hv0 (fun k hk => hk.elim id (fun h => ⟨by have := blk_lt hbox; omega, Nat.le_trans hw.size h⟩))
        replace hv1 := Kd.V_mono (ok' := fun k => k ≠ g ∧ wa.heap.size ≤ k) hv1 (fun k hk => ⟨by have := blk_lt hbox; omega, Nat.le_trans hw.size hk⟩)
        replace hbox := (hb_.block _ (blk_lt hbox)).trans hbox
        replace hE := HL_.out _ _ hE (Kept.of_below hb_ _) (below_step (HBe.out _ hE) hb_)
        replace hw := below_step hw hb_
        clear hb_
        refine hK.out _ _ hE (fun hHeld => ?_)
        clear hK K
        refine norm_ (a' := ?_) ?_ ?_
        rotate_left
        · show Act.put _ (some 84) _ = _
          simp only [putAll, Act.put, List.setIfInBounds_toArray, List.set_cons_zero, List.set_cons_succ, i64_w, i32_w]
          rfl
        refine pure_ (i := 5) (N := some 79) (v := ?_) (a' := ?_) #[true, true, true, true, true, true, false, false, true, false, false] rfl rfl (any_of HT_.out (by kernel_rfl)) (fun _ _ _ h => h) (Or.inl ⟨by rfl, ?_⟩) ?_ ?_
        rotate_left
        · intro w'
          go_simp
          with_reducible rfl
        rotate_left
        · simp only [putAll, Act.put, List.setIfInBounds_toArray, List.set_cons_zero, List.set_cons_succ, i64_w, i32_w]
          rfl
        refine pure_ (i := 6) (N := some 85) (v := ?_) (a' := ?_) #[true, true, true, true, true, true, true, false, true, false, false] rfl rfl (any_of HT_.out (by kernel_rfl)) (fun _ _ _ h => h) (Or.inl ⟨by rfl, ?_⟩) ?_ ?_
        rotate_left
        · intro w'
          go_simp
          with_reducible rfl
        rotate_left
        · simp only [putAll, Act.put, List.setIfInBounds_toArray, List.set_cons_zero, List.set_cons_succ, i64_w, i32_w]
          rfl
        refine pure_ (i := 7) (N := some 86) (v := ?_) (a' := ?_) #[true, true, true, true, true, true, true, true, true, false, false] rfl rfl (any_of HT_.out (by kernel_rfl)) (fun _ _ _ h => h) (Or.inl ⟨by rfl, ?_⟩) ?_ ?_
        rotate_left
        · intro w'
          go_simp
          with_reducible rfl
        rotate_left
        · simp only [putAll, Act.put, List.setIfInBounds_toArray, List.set_cons_zero, List.set_cons_succ, i64_w, i32_w]
          rfl
        exact norm_ (by simp only [putAll, Act.put, List.setIfInBounds_toArray, List.set_cons_zero, List.set_cons_succ, i64_w, i32_w]) (hCont (.slice A0 d0.length c0, .slice A1 d1.length c1, .slice B0 x0.length e0, .slice B1 x1.length e1, g) _ ⟨hE, hbox, hgl, hv0, hv1, hw⟩)
    clear hE hw hHeld
    rintro ⟨s1, s2, u0, u1, gh⟩ W ⟨hE, hbox, hgl, hv0, hv1, hw⟩
    dsimp only at hbox hgl hv0 hv1
    obtain ⟨Ah0, ch0, rfl⟩ := Kd.V_slice hv0
    obtain ⟨Ah1, ch1, rfl⟩ := Kd.V_slice hv1
    have HHE := Aside0.mk hE
    have HV0 := Aside0.mk hv0
    have HV1 := Aside0.mk hv1
    have HGL := Aside0.mk hgl
    clear hE hv0 hv1 hw hgl
    refine norm_ (a' := ?_) ?_ ?_
    rotate_left
    · simp only [putAll, Act.put, List.setIfInBounds_toArray, List.set_cons_zero, List.set_cons_succ]
      rfl
    refine one_ (i := 9) (N := none) #[true, true, true, true, true, true, true, true, true, true, false] rfl rfl (one_of HT_.out (by kernel_rfl)) (by decide) (fun K hK => ?_)
    have hs0 : W.cell? ⟨gh, 0, none⟩ = some (.slice none 0 0) := (blk_cell hbox 0).trans rfl
    have hs1 : W.cell? ⟨gh, 1, none⟩ = some (.slice none 0 0) := (blk_cell hbox 1).trans rfl
    have hf0 := blk_frozen hbox 0
    have hf1 := blk_frozen hbox 1
    have HHB := Aside0.mk hbox
    clear hbox
    refine skip_ (w1 := ?_) (by rfl) rfl ?_ ?_
    rotate_left
    · go_simp
      rfl
    have hE := HL_.out _ _ HHE.out (Kept.setCell (Kept.setCell (Kept.refl W _) (p := ⟨gh, 0, none⟩) (.inl HGL.out) (.slice Ah0 x0.length ch0)) (p := ⟨gh, 1, none⟩) (.inl HGL.out) (.slice Ah1 x1.length ch1)) (below_set (below_set (HBe.out _ HHE.out) (by have := HGL.out; have := MW.out; omega)) (by have := HGL.out; have := MW.out; omega))
    refine hK.out _ _ hE (fun hHeld => ?_)
    clear hK K hHeld hs0 hs1 hf0 hf1
    refine pure_ (i := 10) (N := some 15) (v := ?_) (a' := ?_) #[true, true, true, true, true, true, true, true, true, true, true] rfl rfl (any_of HT_.out (by kernel_rfl)) (fun _ _ _ h => h) (Or.inl ⟨by rfl, ?_⟩) ?_ ?_
    rotate_left
    · intro w'
      go_simp
      with_reducible rfl
    rotate_left
    · simp only [putAll, Act.put, List.setIfInBounds_toArray, List.set_cons_zero, List.set_cons_succ, i64_w, i32_w]
      rfl
    refine done_ (done_of HT_.out (by kernel_rfl)) ?_
    have H5 := Aside0.mk (WD.put HHB.out HV0.out HV1.out)
    have EN := Aside0.mk (HOu.out _ hE)
    have MW0 := Aside0.mk (blk_lt H5.out.b)
    clear HT_ HW_ HC22 HC35 HC33 HHE HHB HV0 HV1 HL_ HBe HCe HOu hE
    generalize hw_ : (W.setCell ⟨gh, 0, none⟩ (.slice Ah0 x0.length ch0)).setCell ⟨gh, 1, none⟩ (.slice Ah1 x1.length ch1) = w5 at H5 EN MW0 ⊢
    have X20 := Aside0.mk EN.out.1
    have Y20 := Aside0.mk EN.out.2.1
    have G20 := Aside0.mk EN.out.2.2
    clear EN hw_
    have hh0 : w5.cell? ⟨gh, 0, none⟩ = some (.slice Ah0 x0.length ch0) := (blk_cell H5.out.b 0).trans rfl
    have hh1 : w5.cell? ⟨gh, 1, none⟩ = some (.slice Ah1 x1.length ch1) := (blk_cell H5.out.b 1).trans rfl
    have hy0 : w5.cell? ⟨gy, 0, none⟩ = some (.slice Ay0 y0.length cy0) := (blk_cell Y20.out.b 0).trans rfl
    have hy1 : w5.cell? ⟨gy, 1, none⟩ = some (.slice Ay1 y1.length cy1) := (blk_cell Y20.out.b 1).trans rfl
    go_wp2_with (fail)
    refine (laws_eqDesk.calls k _ _ x0 _ _ x1 _ _ y0 _ _ y1 true _ H5.out.r0 H5.out.h0 H5.out.r1 H5.out.h1 Y20.out.r0 Y20.out.h0 Y20.out.r1 Y20.out.h1 HE.out).mono ?_
    rintro e w21 ⟨rfl, hb⟩
    clear hh0 hh1 hy0 hy1
    have X21 := Aside0.mk (X20.out.below hb)
    have G21 := Aside0.mk (G20.out.below hb)
    clear X20 G20
    clear hb H5 Y20
    have hg0 : w21.cell? ⟨gg, 0, none⟩ = some (.slice Ag0 n0.length cg0) := (blk_cell G21.out.b 0).trans rfl
    have hg1 : w21.cell? ⟨gg, 1, none⟩ = some (.slice Ag1 n1.length cg1) := (blk_cell G21.out.b 1).trans rfl
    go_wp2_with (fail)
    refine (laws_heldDesk.calls k _ _ n0 _ _ n1 1 q _ G21.out.o.r0 G21.out.o.h0 G21.out.o.r1 G21.out.o.le HQ.out).mono ?_
    rintro e w22 ⟨rfl, hb⟩
    clear hg0 hg1
    have f0 : decide (q < 0) = false := decide_eq_false (by have := HQ0.out; omega)
    clear G21
    have X22 := Aside0.mk (X21.out.below hb)
    clear X21
    clear hb
    go_wp2
    go_ret
    exact ⟨rfl, X22.out.bel⟩
/-- THE ONE PURE STATEMENT of laws_FnExactDeskDo. -/
def laws_FnExactDeskDo.Pure : Prop := ∀ (l0_0 : List (S79)) (l0_1 : List (List (S79))) (a1_0 : Int) (a1_1 : Int) (a1_2 : Int), (l0_0.length ≤ maxLen ∧ ∀ y1_ : S79, y1_ ∈ l0_0 → ((Lit.int .i64 y1_.f0).wf = true ∧ (Lit.int .i64 y1_.f1).wf = true)) → (l0_1.length ≤ maxLen ∧ ∀ y1_ : List (S79), y1_ ∈ l0_1 → (y1_.length ≤ maxLen ∧ ∀ y2_ : S79, y2_ ∈ y1_ → ((Lit.int .i64 y2_.f0).wf = true ∧ (Lit.int .i64 y2_.f1).wf = true))) → (Lit.int .i64 a1_0).wf = true → (Lit.int .i64 a1_1).wf = true → (Lit.int .i64 a1_2).wf = true → ∃ k, laws_FnExactDeskDo.f k l0_0 l0_1 a1_0 a1_1 a1_2 = some true

end Go.Proofs.Ytocnifoohecmeaa.PFnExactDeskDo
