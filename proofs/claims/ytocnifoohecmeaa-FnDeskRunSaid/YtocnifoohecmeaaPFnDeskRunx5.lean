-- Printed by this claim's own program; Lean checks it.
import Derived.Test.YtocnifoohecmeaaPFnDeskRunx0
import Derived.Test.YtocnifoohecmeaaPFnDeskRunx4
namespace Go.Proofs.Ytocnifoohecmeaa.PFnDeskRun
open Go.RowKit Go.Proofs.YtocnifoohecmeaaW.PrintWords Go.Proofs.YtocnifoohecmeaaW.PrintLast Go.Proofs.YtocnifoohecmeaaW.PrintMore
attribute [local go_sem] max2_int min2_int max_two min_two max_three min_three max_four min_four   -- for this text's walks alone
set_option linter.unusedVariables false
set_option linter.unusedSimpArgs false

/-! ### spec_CustomersOk: function 46 (by hand) -/
theorem blk_new (W : World) (o : Obj) : (W.alloc o).heap[W.heap.size]? = some o := by unfold World.alloc; simp
theorem blk_alloc1 {W : World} {g : Nat} {o o' : Obj} (h : W.heap[g]? = some o) : (W.alloc o').heap[g]? = some o := ((below_alloc (Below.refl W.heap.size W) o').block _ (Array.getElem?_eq_some_iff.1 h).1).trans h
theorem size_alloc1 (W : World) (o : Obj) : (W.alloc o).heap.size = W.heap.size + 1 := by unfold World.alloc; simp
theorem res_put {W : World} {g : Nat} {a b x y : Value} {t : TypeId} (h : W.heap[g]? = some (.cells #[a, b] t (0, 0))) : ((W.setCell ⟨g, 0, none⟩ x).setCell ⟨g, 1, none⟩ y).heap[g]? = some (.cells #[x, y] t (0, 0)) := blk_put (cs := #[x, b]) (blk_put (cs := #[a, b]) h 0 _ rfl) 1 _ rfl
theorem k50_own {e base : Nat} {ok : Nat → Prop} {W : World} {v : Value} {xs : List S50} (h : k50.R e W base ok v xs) : k50.R e W base (fun k => v.ownBlock = some k) v xs := Kd.R_flat (fun h => by rw [k50_openM h]; exact k50_mkM _ _ _ _) h (fun k hk _ => hk)
/-- Rows of customers, each one's own, apart from each other by the mark f. -/
def ORows (W : World) (base : Nat) (ok : Nat → Prop) (f : Nat → Nat) (vs : List Value) (ls : List (List S50)) : Prop :=
  vs.length = ls.length ∧ ∀ j v l, vs[j]? = some v → ls[j]? = some l → Kd.R k50 50 W base (fun k => ok k ∧ f k = j) v l
/-- The cells of a row of rows. -/
def OCells (W : World) (base : Nat) (ok : Nat → Prop) (A : Option Addr) (vs : List Value) : Prop :=
  ∀ j v, vs[j]? = some v → ∃ ad, A = some ad ∧ W.cell? (ad.add j) = some v ∧ base ≤ ad.block ∧ ok ad.block ∧ ∃ cells, W.heap[ad.block]? = some (.cells cells 23 (0, 0))
/-- A desk whose rows are its own and apart; the row of rows is only read. -/
structure DOwn (W : World) (base : Nat) (ok : Nat → Prop) (A0 : Option Addr) (c0 : Nat) (l0 : List S50) (A1 : Option Addr) (c1 : Nat) (l1 : List (List S50)) (f : Nat → Nat) (vs : List Value) : Prop where
  rows : ORows W base ok f (.slice A0 l0.length c0 :: vs) (l0 :: l1)
  cells : OCells W base ok A1 vs
  le : l1.length ≤ c1
  max : l1.length ≤ 9223372036854775807
theorem ORows.step {W W' : World} {base : Nat} {ok : Nat → Prop} {f : Nat → Nat} {vs : List Value} {ls : List (List S50)} (h : ORows W base ok f vs ls) (hm : ∀ k, ok k → k < W.heap.size → W'.heap[k]? = W.heap[k]?) : ORows W' base ok f vs ls :=
  ⟨h.1, fun j v l hv hl => Kd.R_step (h.2 j v l hv hl) (fun k hk hlt => hm k hk.1 hlt)⟩
theorem OCells.step {W W' : World} {base : Nat} {ok : Nat → Prop} {A : Option Addr} {vs : List Value} (h : OCells W base ok A vs) (hm : ∀ k, ok k → k < W.heap.size → W'.heap[k]? = W.heap[k]?) : OCells W' base ok A vs := by
 intro j v hv
 obtain ⟨ad, rfl, hc, hb, ho, cells, hh⟩ := h j v hv
 have e := hm _ ho (blk_lt hh)
 refine ⟨ad, rfl, ?_, hb, ho, cells, e.trans hh⟩
 have hbk : (ad.add j).block = ad.block := by unfold Addr.add; split <;> rfl
 rw [← hc]
 unfold World.cell?
 rw [hbk, e]
theorem DOwn.step {W W' : World} {base : Nat} {ok : Nat → Prop} {A0 : Option Addr} {c0 : Nat} {l0 : List S50} {A1 : Option Addr} {c1 : Nat} {l1 : List (List S50)} {f : Nat → Nat} {vs : List Value} (h : DOwn W base ok A0 c0 l0 A1 c1 l1 f vs) (hm : ∀ k, ok k → k < W.heap.size → W'.heap[k]? = W.heap[k]?) : DOwn W' base ok A0 c0 l0 A1 c1 l1 f vs :=
  ⟨h.rows.step hm, h.cells.step hm, h.le, h.max⟩
theorem DOwn.below {W W' : World} {base : Nat} {ok : Nat → Prop} {A0 : Option Addr} {c0 : Nat} {l0 : List S50} {A1 : Option Addr} {c1 : Nat} {l1 : List (List S50)} {f : Nat → Nat} {vs : List Value} (h : DOwn W base ok A0 c0 l0 A1 c1 l1 f vs) (hb : Below W.heap.size W W') : DOwn W' base ok A0 c0 l0 A1 c1 l1 f vs := h.step (fun k _ hk => hb.block k hk)
theorem DOwn.mono {W : World} {base base' : Nat} {ok ok' : Nat → Prop} {A0 : Option Addr} {c0 : Nat} {l0 : List S50} {A1 : Option Addr} {c1 : Nat} {l1 : List (List S50)} {f : Nat → Nat} {vs : List Value} (h : DOwn W base ok A0 c0 l0 A1 c1 l1 f vs) (hok : ∀ k, base ≤ k → k < W.heap.size → ok k → ok' k) (hb : base' ≤ base) : DOwn W base' ok' A0 c0 l0 A1 c1 l1 f vs :=
  ⟨⟨h.rows.1, fun j v l hv hl => Kd.R_lower (Kd.R_mono (Kd.R_bound (h.rows.2 j v l hv hl)) (fun k hk => ⟨hok k hk.2.1 hk.2.2.1 hk.1.1, hk.1.2⟩)) hb⟩, fun j v hv => by
    obtain ⟨ad, e, hc, hbb, ho, cells, hh⟩ := h.cells j v hv
    exact ⟨ad, e, hc, Nat.le_trans hb hbb, hok _ hbb (blk_lt hh) ho, cells, hh⟩, h.le, h.max⟩
theorem DOwn.r0 {W : World} {base : Nat} {ok : Nat → Prop} {A0 : Option Addr} {c0 : Nat} {l0 : List S50} {A1 : Option Addr} {c1 : Nat} {l1 : List (List S50)} {f : Nat → Nat} {vs : List Value} (h : DOwn W base ok A0 c0 l0 A1 c1 l1 f vs) : Kd.C k50 W A0 l0.length l0 := (Kd.R_reads' (h.rows.2 0 _ _ rfl rfl)).2.2
theorem DOwn.h0 {W : World} {base : Nat} {ok : Nat → Prop} {A0 : Option Addr} {c0 : Nat} {l0 : List S50} {A1 : Option Addr} {c1 : Nat} {l1 : List (List S50)} {f : Nat → Nat} {vs : List Value} (h : DOwn W base ok A0 c0 l0 A1 c1 l1 f vs) : l0.length ≤ c0 := (Kd.R_reads' (h.rows.2 0 _ _ rfl rfl)).2.1
theorem DOwn.r1 {W : World} {base : Nat} {ok : Nat → Prop} {A0 : Option Addr} {c0 : Nat} {l0 : List S50} {A1 : Option Addr} {c1 : Nat} {l1 : List (List S50)} {f : Nat → Nat} {vs : List Value} (h : DOwn W base ok A0 c0 l0 A1 c1 l1 f vs) : Kd.C (Kd.slice 50 k50) W A1 l1.length l1 := by
 have hlen : vs.length = l1.length := by have := h.rows.1; simpa using this
 refine ⟨rfl, h.max, fun hp => ?_⟩
 obtain ⟨ad, hA, _⟩ := h.cells 0 (vs[0]'(by omega)) (List.getElem?_eq_getElem (by omega))
 refine ⟨ad, hA, fun j p hj => ?_⟩
 have hjl : j < l1.length := (List.getElem?_eq_some_iff.1 hj).1
 have hv : vs[j]? = some (vs[j]'(by omega)) := List.getElem?_eq_getElem (by omega)
 obtain ⟨ad', hA', hc, _⟩ := h.cells j _ hv
 rw [hA] at hA'
 obtain rfl := Option.some.inj hA'
 have hR := h.rows.2 (j + 1) _ p (show vs[j]? = some (vs[j]'(by omega)) from hv) (show l1[j]? = some p from hj)
 refine ⟨[vs[j]'(by omega)], rfl, ?_, fun i u hi => ?_⟩
 ·obtain ⟨A, c, e⟩ := Kd.R_slice hR
  rw [e] at hR ⊢
  exact ⟨A, c, rfl, (Kd.R_reads' hR).2.1, (Kd.R_reads' hR).2.2⟩
 ·cases i with
  | zero =>
   obtain rfl := Option.some.inj (show some _ = some u from hi)
   rw [show (Kd.slice 50 k50).sz = 1 from rfl, Nat.mul_one, Nat.add_zero]
   exact hc
  | succ i => simp at hi
/-- What is made at one go: a row and a row of rows. -/
theorem DOwn.of_S {W : World} {base : Nat} {ok : Nat → Prop} {A0 : Option Addr} {c0 : Nat} {l0 : List S50} {A1 : Option Addr} {c1 : Nat} {l1 : List (List S50)} (h0 : Kd.R k50 50 W base ok (.slice A0 l0.length c0) l0) (h1 : Kd.S (Kd.slice 50 k50) 23 W base (fun k => ok k ∧ some k ≠ (Value.slice A0 l0.length c0).ownBlock) (.slice A1 l1.length c1) l1) : ∃ f vs, DOwn W base ok A0 c0 l0 A1 c1 l1 f vs := by
 have hrd := Kd.S_reads' h1
 obtain ⟨f, hk1, inner, ho, hr⟩ := h1
 rw [List.length_zipIdx] at ho
 have hlen : inner.length = l1.length := by
  have := hr.1
  rw [List.length_zipIdx, show (Kd.tag f (Kd.slice 50 k50)).sz = 1 from rfl, Nat.mul_one] at this
  exact this
 have hrow : ∀ j v l, inner[j]? = some v → l1[j]? = some l → Kd.R k50 50 W base (fun k => (ok k ∧ some k ≠ (Value.slice A0 l0.length c0).ownBlock) ∧ f k = j) v l := by
  intro j v l hv hl
  obtain ⟨u, hu, hR⟩ := hr.2 j (l, j) (Kd.zip_at hl)
  rw [show (Kd.tag f (Kd.slice 50 k50)).sz = 1 from rfl, Nat.mul_one] at hu
  have hd : (inner.drop j).take 1 = [v] := by
   have hj := (List.getElem?_eq_some_iff.1 hv).1
   rw [List.drop_eq_getElem_cons hj, (List.getElem?_eq_some_iff.1 hv).2]
   simp
  rw [hd] at hu
  obtain rfl := (List.cons.inj hu).1
  exact Kd.R_mono hR (fun k hk => ⟨hk.1.1, hk.2⟩)
 refine ⟨fun k => if some k = (Value.slice A0 l0.length c0).ownBlock then 0 else f k + 1, inner, ⟨by simp [hlen], fun j v l hv hl => ?_⟩, fun j v hv => ?_, hrd.2.1, Kd.C_max hrd.2.2⟩
 ·cases j with
  | zero =>
   obtain rfl := Option.some.inj (show some _ = some v from hv)
   obtain rfl := Option.some.inj (show some _ = some l from hl)
   exact Kd.R_flat (fun h => by rw [k50_openM h]; exact k50_mkM _ _ _ _) h0 (fun k hk ho => ⟨ho, if_pos hk.symm⟩)
  | succ j =>
   refine Kd.R_mono (hrow j v l (by simpa using hv) (by simpa using hl)) (fun k hk => ⟨hk.1.1, ?_⟩)
   show (if some k = (Value.slice A0 l0.length c0).ownBlock then 0 else f k + 1) = j + 1
   rw [if_neg hk.1.2, hk.2]
 ·have hj := (List.getElem?_eq_some_iff.1 hv).1
  obtain ⟨g, cap, e, hb, hlt⟩ := ho.form (by omega)
  injection e with e1 e2 e3
  subst e1 e3
  obtain ⟨cells, hcells⟩ := own_typed ho g rfl
  refine ⟨⟨g, 0, none⟩, rfl, ?_, hb, (hk1 g rfl).1, cells, hcells⟩
  have := ho.cells (g := g) rfl j v hv
  exact this
/-- No row at all. -/
theorem DOwn.none (W : World) (base : Nat) (ok : Nat → Prop) : DOwn W base ok none 0 [] none 0 [] (fun _ => 0) [] :=
 ⟨⟨rfl, fun j v l hv hl => by
  cases j with
  | zero =>
   obtain rfl := Option.some.inj (show some _ = some v from hv)
   obtain rfl := Option.some.inj (show some _ = some l from hl)
   exact Kd.R_nil _ _ _ _ _
  | succ j => simp at hl⟩, fun j v hv => by simp at hv, Nat.le_refl _, by simp⟩
/-- The last row of before is put in the place of the first row. -/
theorem DOwn.back {W : World} {base : Nat} {ok : Nat → Prop} {A0 : Option Addr} {c0 : Nat} {l0 : List S50} {A1 : Option Addr} {c1 : Nat} {l1 : List (List S50)} {f : Nat → Nat} {vs : List Value} (h : DOwn W base ok A0 c0 l0 A1 c1 l1 f vs) {n : Nat} (hn : n + 1 = l1.length) {Ae : Option Addr} {ce : Nat} {l : List S50} (hl : l1[n]? = some l) (hv : vs[n]? = some (.slice Ae l.length ce)) (c2 : Nat) (hc2 : n ≤ c2) : ∃ f', DOwn W base ok Ae ce l A1 c2 (l1.take n) f' (vs.take n) := by
 have hlen : vs.length = l1.length := by have := h.rows.1; simpa using this
 refine ⟨fun k => if f k = n + 1 then 0 else f k, ⟨by simp [hlen], fun j v x hv' hx => ?_⟩, fun j v hv' => ?_, by rw [List.length_take]; omega, by rw [List.length_take]; have := h.max; omega⟩
 ·cases j with
  | zero =>
   obtain rfl := Option.some.inj (show some _ = some v from hv')
   obtain rfl := Option.some.inj (show some _ = some x from hx)
   exact Kd.R_mono (h.rows.2 (n + 1) _ l (by simpa using hv) (by simpa using hl)) (fun k hk => ⟨hk.1, if_pos hk.2⟩)
  | succ j =>
   simp only [List.getElem?_cons_succ, List.getElem?_take] at hv' hx
   split at hv'
   ·rename_i hj
    rw [if_pos hj] at hx
    refine Kd.R_mono (h.rows.2 (j + 1) v x (by simpa using hv') (by simpa using hx)) (fun k hk => ⟨hk.1, ?_⟩)
    show (if f k = n + 1 then 0 else f k) = j + 1
    rw [if_neg (by omega), hk.2]
   ·cases hv'
 ·rw [List.getElem?_take] at hv'
  split at hv'
  ·exact h.cells j v hv'
  ·cases hv'
theorem ORows.put {W W' : World} {base : Nat} {ok ok' : Nat → Prop} {f : Nat → Nat} {vs : List Value} {ls : List (List S50)} {j : Nat} {u : Value} {y : List S50} (h : ORows W base ok f vs ls) (hv : vs[j]? = some u) (hy : Kd.R k50 50 W' base ok' u y) (hk : Kept W W' (fun k => some k = u.ownBlock)) : ORows W' base ok f vs (ls.set j y) := by
 have hjl : j < ls.length := by have := (List.getElem?_eq_some_iff.1 hv).1; have := h.1; omega
 have hj := h.2 j u _ hv (List.getElem?_eq_getElem hjl)
 refine ⟨by rw [h.1]; simp, fun i v l hvi hli => ?_⟩
 by_cases hij : i = j
 ·subst hij
  rw [hv] at hvi
  obtain rfl := Option.some.inj hvi
  rw [List.getElem?_set_self hjl] at hli
  obtain rfl := Option.some.inj hli
  exact Kd.R_flat (fun h => by rw [k50_openM h]; exact k50_mkM _ _ _ _) hy (fun k hk _ => hj.1 k hk)
 ·rw [List.getElem?_set_ne (fun e => hij e.symm)] at hli
  refine Kd.R_step (h.2 i v l hvi hli) (fun k hok hlt => hk.2 k hlt (fun e => hij ?_))
  exact hok.2.symm.trans (hj.1 k e.symm).2
theorem OCells.put {W W' : World} {base : Nat} {ok : Nat → Prop} {A : Option Addr} {vs : List Value} {b : Nat} {okp : Nat → Prop} {u : Value} {x : List S50} (h : OCells W base ok A vs) (hu : Kd.R k50 50 W b okp u x) (hk : Kept W W' (fun k => some k = u.ownBlock)) : OCells W' base ok A vs := by
 intro j v hv
 obtain ⟨ad, rfl, hc, hb, ho, cells, hh⟩ := h j v hv
 have e := hk.2 _ (blk_lt hh) (fun e => by
  obtain ⟨cs, hcs⟩ := Kd.R_typed hu _ e.symm
  rw [hh] at hcs
  injection hcs with hcs
  injection hcs with _ ht
  exact absurd ht (by decide))
 refine ⟨ad, rfl, ?_, hb, ho, cells, e.trans hh⟩
 have hbk : (ad.add j).block = ad.block := by unfold Addr.add; split <;> rfl
 rw [← hc]
 unfold World.cell?
 rw [hbk, e]
def inP (a lo hi : Int) : Bool := decide (lo ≤ a ∧ a ≤ hi)
theorem spec_l1In.is (a lo hi : Int) : spec_l1In.f a lo hi = some (inP a lo hi) := by
 unfold spec_l1In.f inP
 by_cases h : a ≥ lo
 ·rw [if_pos h]; congr 1; rw [decide_eq_decide]; omega
 ·rw [if_neg h]; exact congrArg some (decide_eq_false (by omega)).symm
def spec_CustomersOk.l0 : Nat → List S50 → Nat → Option Bool
  | 0, _, _ => none
  | k + 1, l, i => if i < l.length then
      (if inP (rd_T50 l (i : Int)).f0 0 60 = true ∧ inP (rd_T50 l (i : Int)).f1 1 9 = true ∧ (0 < i → ¬ (rd_T50 l (i : Int)).f0 < (rd_T50 l ((i : Int) - 1)).f0) then spec_CustomersOk.l0 k l (i + 1) else some false)
    else some (decide (l.length ≤ 8))
def spec_CustomersOk.f (k : Nat) (l0 : List S50) : Option Bool := spec_CustomersOk.l0 k l0 0
theorem spec_CustomersOk.mono_l : ∀ (k : Nat) (l : List S50) (i : Nat), LeO (spec_CustomersOk.l0 k l i) (spec_CustomersOk.l0 (k + 1) l i) := by
 intro k
 induction k with
 | zero => intro l i r h; simp [spec_CustomersOk.l0] at h
 | succ k ih =>
  intro l i
  rw [show spec_CustomersOk.l0 (k + 1) l i = _ from rfl, show spec_CustomersOk.l0 (k + 1 + 1) l i = _ from rfl]
  refine LeO.ite (LeO.ite (ih _ _) (LeO.refl _)) (LeO.refl _)
theorem spec_CustomersOk.mono : ∀ a0 k, LeO (spec_CustomersOk.f k a0) (spec_CustomersOk.f (k + 1) a0) := fun a0 k => spec_CustomersOk.mono_l k a0 0
set_option maxHeartbeats 8000000 in
theorem spec_CustomersOk.calls (k : Nat) (A0 : Option Addr) (c0 : Nat) (l0 : List S50) (r : Bool) (w : World) (hr0 : Kd.C k50 w A0 l0.length l0) (hc0 : l0.length ≤ c0) (h : spec_CustomersOk.f k l0 = some r) :
 Calls Try.prog 46 #[.slice A0 l0.length c0] w fun e w' => e = .returned (.bool r) ∧ Below w.heap.size w w' := by
 have hu50 := Try.underlying50
 have HR0 := Aside0.mk hr0
 have HC0 := Aside0.mk hc0
 have H' := Aside0.mk (show spec_CustomersOk.l0 k l0 0 = some r from h)
 have HL := Aside0.mk (Kd.C_max hr0)
 clear hr0 hc0 h
 go_enter Try.func46, Try.ntmps46
 go_wp2
 go_loopg [3] k (fun kq v3 w' => ∃ (i : Nat) (xi : Int), v3 = .int .i64 xi ∧ Aside0 (xi = (i : Int)) ∧ Aside0 (spec_CustomersOk.l0 kq l0 i = some r) ∧ Aside0 (kq ≤ k) ∧ Aside0 (∃ n, w' = w.drewN n))
 case atStart => exact ⟨0, 0, rfl, ⟨rfl⟩, H', ⟨Nat.le_refl _⟩, ⟨0, rfl⟩⟩
 case round =>
  clear H'
  obtain ⟨i, xi, rfl, HX, HA, HK1, HD⟩ := hrel
  cases gk with
  | zero => exact absurd HA.out (by simp [spec_CustomersOk.l0])
  | succ k1 =>
   have H := HA.out
   clear HA
   simp only [spec_CustomersOk.l0] at H
   by_cases c : i < l0.length
   ·rw [if_pos c] at H
    have hx := HX.out
    have c3 : decide (xi < (l0.length : Int)) = true := decide_eq_true (by omega)
    have p1 : (0 ≤ xi) := by omega
    have q1 : xi < (l0.length : Int) := by omega
    obtain ⟨n, rfl⟩ := HD.out
    obtain ⟨ad, e, hx0, hx1⟩ := at_T50 HR0.out xi p1 q1
    cases e
    rw [← hx] at H
    have h1 := spec_l1In.is (rd_T50 l0 xi).f0 0 60
    have h2 := spec_l1In.is (rd_T50 l0 xi).f1 1 9
    have P1 := eq_true p1
    have Q1 := eq_true q1
    have HC := Aside0.mk c
    clear hx c
    by_cases b1 : inP (rd_T50 l0 xi).f0 0 60 = true
    ·rw [b1] at h1
     have H1 := Aside0.mk h1
     by_cases b2 : inP (rd_T50 l0 xi).f1 1 9 = true
     ·rw [b2] at h2
      have H2 := Aside0.mk h2
      clear h1 h2
      by_cases b3 : 0 < i
      ·have hx := HX.out
       have hc := HC.out
       have hl := HL.out
       have c4 : decide (0 < xi) = true := decide_eq_true (by omega)
       obtain ⟨ji, hj⟩ : ∃ j : Int, xi - 1 = j := ⟨_, rfl⟩
       have pw : IntKind.i64.wrap (xi - 1) = ji := by rw [IntKind.wrap_i64]; omega
       have p2 : (0 ≤ ji) := by omega
       have q2 : ji < (l0.length : Int) := by omega
       rw [hj] at H
       obtain ⟨ad2, e, hy0, hy1⟩ := at_T50 HR0.out ji p2 q2
       cases e
       have P2 := eq_true p2
       have Q2 := eq_true q2
       clear hc hl p1 q1 p2 q2 hj
       by_cases b4 : (rd_T50 l0 xi).f0 < (rd_T50 l0 ji).f0
       ·rw [if_neg (fun h => h.2.2 b3 b4)] at H
        obtain rfl := Option.some.inj H
        have c5 : decide ((rd_T50 l0 xi).f0 < (rd_T50 l0 ji).f0) = true := decide_eq_true b4
        clear H b3 b4 b1 b2 hx
        go_wp2_with (fail)
        go_quiet (first | (go_at_call 68; (with_reducible refine (spec_l1In.calls (rd_T50 l0 xi).f0 0 60 true _ H1.out).mono ?_); rintro e w' ⟨rfl, ⟨nd, rfl⟩⟩; first | exact ⟨rfl, _, World.drewN_drewN _ _ _⟩ | exact ⟨rfl, _, Eq.trans (World.drewN_drewN _ _ _) (congrArg (World.drewN _) (Nat.add_assoc _ _ _))⟩) | (go_at_call 68; (with_reducible refine (spec_l1In.calls (rd_T50 l0 xi).f1 1 9 true _ H2.out).mono ?_); rintro e w' ⟨rfl, ⟨nd, rfl⟩⟩; first | exact ⟨rfl, _, World.drewN_drewN _ _ _⟩ | exact ⟨rfl, _, Eq.trans (World.drewN_drewN _ _ _) (congrArg (World.drewN _) (Nat.add_assoc _ _ _))⟩))
        go_wp2
        go_ret
        exact ⟨rfl, by first | exact pw_below_drewN (Below.refl _ _) _ | exact pw_below_drewN (pw_below_drewN (Below.refl _ _) _) _⟩
       ·rw [if_pos ⟨b1, b2, fun _ => b4⟩] at H
        have HN := Aside0.mk H
        have c5 : decide ((rd_T50 l0 xi).f0 < (rd_T50 l0 ji).f0) = false := decide_eq_false b4
        clear H b3 b4 b1 b2 hx
        go_wp2_with (fail)
        go_quiet (first | (go_at_call 68; (with_reducible refine (spec_l1In.calls (rd_T50 l0 xi).f0 0 60 true _ H1.out).mono ?_); rintro e w' ⟨rfl, ⟨nd, rfl⟩⟩; first | exact ⟨rfl, _, World.drewN_drewN _ _ _⟩ | exact ⟨rfl, _, Eq.trans (World.drewN_drewN _ _ _) (congrArg (World.drewN _) (Nat.add_assoc _ _ _))⟩) | (go_at_call 68; (with_reducible refine (spec_l1In.calls (rd_T50 l0 xi).f1 1 9 true _ H2.out).mono ?_); rintro e w' ⟨rfl, ⟨nd, rfl⟩⟩; first | exact ⟨rfl, _, World.drewN_drewN _ _ _⟩ | exact ⟨rfl, _, Eq.trans (World.drewN_drewN _ _ _) (congrArg (World.drewN _) (Nat.add_assoc _ _ _))⟩))
        go_wp2
        go_roundg k1
        case measure => have := HK1.out; omega
        case rel => exact ⟨i + 1, wrap64 (xi + 1), (by first | rfl | (simp; done) | (simp [*]; done)), ⟨by have h1 := HX.out; have h2 := HC.out; have h3 := HL.out; rw [h1]; unfold wrap64; omega⟩, HN, ⟨by have := HK1.out; omega⟩, ⟨_, by first | rfl | exact World.drewN_drewN _ _ _⟩⟩
      ·rw [if_pos ⟨b1, b2, fun h => absurd h b3⟩] at H
       have HN := Aside0.mk H
       have c4 : decide (0 < xi) = false := decide_eq_false (by have := HX.out; omega)
       clear H b3 b1 b2 p1 q1
       go_wp2_with (fail)
       go_quiet (first | (go_at_call 68; (with_reducible refine (spec_l1In.calls (rd_T50 l0 xi).f0 0 60 true _ H1.out).mono ?_); rintro e w' ⟨rfl, ⟨nd, rfl⟩⟩; first | exact ⟨rfl, _, World.drewN_drewN _ _ _⟩ | exact ⟨rfl, _, Eq.trans (World.drewN_drewN _ _ _) (congrArg (World.drewN _) (Nat.add_assoc _ _ _))⟩) | (go_at_call 68; (with_reducible refine (spec_l1In.calls (rd_T50 l0 xi).f1 1 9 true _ H2.out).mono ?_); rintro e w' ⟨rfl, ⟨nd, rfl⟩⟩; first | exact ⟨rfl, _, World.drewN_drewN _ _ _⟩ | exact ⟨rfl, _, Eq.trans (World.drewN_drewN _ _ _) (congrArg (World.drewN _) (Nat.add_assoc _ _ _))⟩))
       go_wp2
       go_roundg k1
       case measure => have := HK1.out; omega
       case rel => exact ⟨i + 1, wrap64 (xi + 1), (by first | rfl | (simp; done) | (simp [*]; done)), ⟨by have h1 := HX.out; have h2 := HC.out; have h3 := HL.out; rw [h1]; unfold wrap64; omega⟩, HN, ⟨by have := HK1.out; omega⟩, ⟨_, by first | rfl | exact World.drewN_drewN _ _ _⟩⟩
     ·rw [Bool.eq_false_iff.mpr b2] at h2
      have H2 := Aside0.mk h2
      rw [if_neg (fun h => b2 h.2.1)] at H
      obtain rfl := Option.some.inj H
      clear h1 h2 H b1 b2 p1 q1
      go_wp2_with (fail)
      go_quiet (first | (go_at_call 68; (with_reducible refine (spec_l1In.calls (rd_T50 l0 xi).f0 0 60 true _ H1.out).mono ?_); rintro e w' ⟨rfl, ⟨nd, rfl⟩⟩; first | exact ⟨rfl, _, World.drewN_drewN _ _ _⟩ | exact ⟨rfl, _, Eq.trans (World.drewN_drewN _ _ _) (congrArg (World.drewN _) (Nat.add_assoc _ _ _))⟩) | (go_at_call 68; (with_reducible refine (spec_l1In.calls (rd_T50 l0 xi).f1 1 9 false _ H2.out).mono ?_); rintro e w' ⟨rfl, ⟨nd, rfl⟩⟩; first | exact ⟨rfl, _, World.drewN_drewN _ _ _⟩ | exact ⟨rfl, _, Eq.trans (World.drewN_drewN _ _ _) (congrArg (World.drewN _) (Nat.add_assoc _ _ _))⟩))
      go_wp2
      go_ret
      exact ⟨rfl, by first | exact pw_below_drewN (Below.refl _ _) _ | exact pw_below_drewN (pw_below_drewN (Below.refl _ _) _) _⟩
    ·rw [Bool.eq_false_iff.mpr b1] at h1
     have H1 := Aside0.mk h1
     rw [if_neg (fun h => b1 h.1)] at H
     obtain rfl := Option.some.inj H
     clear h1 h2 H b1 p1 q1
     go_wp2_with (fail)
     go_quiet (first | (go_at_call 68; (with_reducible refine (spec_l1In.calls (rd_T50 l0 xi).f0 0 60 false _ H1.out).mono ?_); rintro e w' ⟨rfl, ⟨nd, rfl⟩⟩; first | exact ⟨rfl, _, World.drewN_drewN _ _ _⟩ | exact ⟨rfl, _, Eq.trans (World.drewN_drewN _ _ _) (congrArg (World.drewN _) (Nat.add_assoc _ _ _))⟩))
     go_wp2
     go_ret
     exact ⟨rfl, by first | exact pw_below_drewN (Below.refl _ _) _ | exact pw_below_drewN (pw_below_drewN (Below.refl _ _) _) _⟩
   ·rw [if_neg c] at H
    obtain rfl := Option.some.inj H
    have hx := HX.out
    have c3 : decide (xi < (l0.length : Int)) = false := decide_eq_false (by omega)
    have c5 : decide ((l0.length : Int) ≤ 8) = decide (l0.length ≤ 8) := by rw [decide_eq_decide]; omega
    obtain ⟨n, rfl⟩ := HD.out
    clear hx c H
    go_wp2
    go_ret
    exact ⟨by first | rfl | (simp; omega), pw_below_drewN (Below.refl _ _) _⟩

/-! ### spec_DeskOk: function 21 -/
def spec_DeskOk.l0 : Nat → Int → List (S50) → List (List (S50)) → Option (Bool)
  | 0, _, _, _ => none
  | k + 1, x3, x127000, x127001 => if x3 < (x127001.length : Int) then (if 0 ≤ x3 then ((spec_CustomersOk.f k (rd_L2 x127001 x3)).bind fun t128 => (if t128 = true then (spec_DeskOk.l0 k (wrap64 (x3 + 1)) x127000 x127001) else (some false))) else (none)) else ((spec_CustomersOk.f k x127000).bind fun t129 => (if t129 = true then (some (decide ((x127001.length : Int) ≤ 8))) else (some false)))
def spec_DeskOk.f (k : Nat) (l0_0 : List (S50)) (l0_1 : List (List (S50))) : Option (Bool) := spec_DeskOk.l0 k 0 l0_0 l0_1
theorem spec_DeskOk.mono_l : ∀ k, (∀ y0 y1 y2, LeO (spec_DeskOk.l0 k y0 y1 y2) (spec_DeskOk.l0 (k + 1) y0 y1 y2))
 | 0 => fun _ _ _ r h => by simp [spec_DeskOk.l0] at h
 | k + 1 => by
  have ih0 := spec_DeskOk.mono_l k
  ·intro y0 y1 y2
   unfold spec_DeskOk.l0
   repeat' first
   | (with_reducible exact ih0 _ _ _)
   | (with_reducible exact spec_CustomersOk.mono _ _)
   | (with_reducible exact LeO.refl _)
   | (with_reducible exact LeO.none _)
   | (with_reducible refine LeO.ite ?_ ?_)
   | (with_reducible refine LeO.bind ?_ (fun _ => ?_))
   | exact ih0 _ _ _
   | exact spec_CustomersOk.mono _ _
   | exact LeO.none _
   | refine LeO.ite ?_ ?_
   | refine LeO.bind ?_ (fun _ => ?_)
theorem spec_DeskOk.mono : ∀ a0 a1 k, LeO (spec_DeskOk.f k a0 a1) (spec_DeskOk.f (k + 1) a0 a1) := by
 intro a0 a1 k
 have ih0 := spec_DeskOk.mono_l k
 unfold spec_DeskOk.f
 repeat' first
  | (with_reducible exact ih0 _ _ _)
  | (with_reducible exact spec_CustomersOk.mono _ _)
  | (with_reducible exact LeO.refl _)
  | (with_reducible exact LeO.none _)
  | (with_reducible refine LeO.ite ?_ ?_)
  | (with_reducible refine LeO.bind ?_ (fun _ => ?_))
  | exact ih0 _ _ _
  | exact spec_CustomersOk.mono _ _
  | exact LeO.none _
  | refine LeO.ite ?_ ?_
  | refine LeO.bind ?_ (fun _ => ?_)
set_option maxHeartbeats 8000000 in
set_option maxRecDepth 100000 in
theorem spec_DeskOk.calls (k : Nat) (A0_0 : Option Addr) (c0_0 : Nat) (l0_0 : List (S50)) (A0_1 : Option Addr) (c0_1 : Nat) (l0_1 : List (List (S50))) (r : Bool) (w : World) (hr0_0 : Kd.C k50 w A0_0 l0_0.length l0_0) (hc0_0 : l0_0.length ≤ c0_0) (hr0_1 : Kd.C (Kd.slice 50 k50) w A0_1 l0_1.length l0_1) (hc0_1 : l0_1.length ≤ c0_1) (h : spec_DeskOk.f k l0_0 l0_1 = some r) :
 Calls Try.prog 21 #[.agg #[.slice A0_0 l0_0.length c0_0, .slice A0_1 l0_1.length c0_1]] w fun e w' => e = .returned (.bool r) ∧ Below w.heap.size w w' := by
 have hu27 := Try.underlying27
 have HR0_0 := Aside0.mk hr0_0
 have HC0_0 := Aside0.mk hc0_0
 clear hr0_0 hc0_0
 have HR0_1 := Aside0.mk hr0_1
 have HC0_1 := Aside0.mk hc0_1
 clear hr0_1 hc0_1
 have HB := Aside0.mk (Below.refl w.heap.size w)
 have H : (spec_DeskOk.l0 k 0 l0_0 l0_1) = some r := h
 clear h
 have H' := Aside0.mk H
 clear H
 go_enter Try.func21, Try.ntmps21
 go_wp2_with (first | ((with_reducible refine gate_dst (N := 1) rfl ?_); (try (refine gate_guard (by rfl) ?_; dsimp only)); refine box_event ?hg (N := 1) ?hd (cs := #[.slice A0_0 l0_0.length c0_0, .slice A0_1 l0_1.length c0_1]) (t := 27) ?hr ?_; (case hd => rfl); (case hg => rfl); (case hr => first | (go_simp; done) | (go_simp; rfl)); intro gb126 hg w2 hbox hb; have n0_ := Aside0.mk (below_step (by repeat (first | (with_reducible first | exact HB.out | apply below_alloc | apply pw_below_drewN | apply below_drew1) | exact HB.out)) hb); have n1_ := Aside0.mk (hbox); have n2_ := Aside0.mk ((by rw [hg]; exact (below_size (by repeat (first | (with_reducible first | exact HB.out | apply below_alloc | apply pw_below_drewN | apply below_drew1) | exact HB.out))) : w.heap.size ≤ gb126)); have n3_ := Aside0.mk ((by rw [hg]; exact (below_size (by repeat (first | (with_reducible first | exact HB.out | apply below_alloc | apply pw_below_drewN | apply below_drew1) | exact HB.out))) : w.heap.size ≤ gb126)); clear HB; have HB := n0_; have BK126 := n1_; have GW126 := n2_; have GE126 := n3_; clear n0_ n1_ n2_ n3_; clear hb hbox hg))
 go_loopg [3] k (fun kq v3 w' => ∃ (x3_1 : Int), v3 = .int .i64 x3_1 ∧ Aside0 (spec_DeskOk.l0 kq x3_1 l0_0 l0_1 = some r) ∧ Aside0 (kq ≤ k) ∧ Aside0 (w'.heap[gb126]? = some (.cells #[(.slice A0_0 l0_0.length c0_0), (.slice A0_1 l0_1.length c0_1)] 27 (0, 0))) ∧ Aside0 (Below w.heap.size w w'))
 case atStart => exact ⟨(0), (by first | rfl | (simp; done) | (simp [*]; done)), H', ⟨Nat.le_refl _⟩, ⟨by (with_reducible repeat (first | refine blk_drewN ?_ _ | refine blk_drew ?_ | refine blk_alloc ?_ _)); exact BK126.out⟩, ⟨by repeat (first | (with_reducible first | exact HB.out | apply below_alloc | apply pw_below_drewN | apply below_drew1 | refine below_set ?_ GE126.out) | exact HB.out)⟩⟩
 case round =>
  clear H'
  try clear c2
  try clear p2
  obtain ⟨x3_1, rfl, HA, HK1, BK126, HB⟩ := hrel
  cases gk with
  | zero => exact absurd HA.out (by simp [spec_DeskOk.l0])
  | succ k1 =>
   have H := HA.out
   clear HA
   simp only [spec_DeskOk.l0] at H
   by_cases c3 : x3_1 < (l0_1.length : Int)
   ·rw [if_pos c3] at H
    have c3b0 : decide (x3_1 < (l0_1.length : Int)) = true := decide_eq_true c3
    clear c3
    by_cases c4 : 0 ≤ x3_1
    ·rw [if_pos c4] at H
     have c4b0 : decide (0 ≤ x3_1) = true := decide_eq_true c4
     clear c4
     replace H := Option.bind_eq_some_iff.mp H
     obtain ⟨t128, A50, H⟩ := H
     replace H : (if t128 = true then (spec_DeskOk.l0 k1 (wrap64 (x3_1 + 1)) l0_0 l0_1) else (some false)) = some r := H
     have A5 := Aside0.mk A50
     clear A50
     by_cases c6 : t128 = true
     ·subst c6
      have H1 : (spec_DeskOk.l0 k1 (wrap64 (x3_1 + 1)) l0_0 l0_1) = some r := by rw [if_pos rfl] at H; exact H
      clear H
      have H := H1
      clear H1
      have H' := Aside0.mk H
      clear H
      have hcz7_0 : wr.cell? ⟨gb126, 0, none⟩ = some (.slice A0_0 l0_0.length c0_0) := (blk_cell BK126.out 0).trans rfl
      have hcz7_1 : wr.cell? ⟨gb126, 1, none⟩ = some (.slice A0_1 l0_1.length c0_1) := (blk_cell BK126.out 1).trans rfl
      have hfz7_0 := blk_frozen BK126.out 0
      have hfz7_1 := blk_frozen BK126.out 1
      have p127 : 0 ≤ (x3_1 : Int) := of_decide_eq_true (by first | (with_reducible assumption) | assumption)
      have q127 : x3_1 < (l0_1.length : Int) := of_decide_eq_true (by first | (with_reducible assumption) | assumption)
      obtain ⟨ad127, A127_0, c127_0, e127, hx127_0, hl127_0, hi127_0⟩ := at_L2 HR0_1.out x3_1 p127 q127
      cases e127
      replace hx127_0 := (HB.out.cell (World.block_lt_of_cell? w _ hx127_0)).trans hx127_0
      have HR127_0 := Aside0.mk hi127_0
      have HC127_0 := Aside0.mk hl127_0
      clear hi127_0 hl127_0
      replace p127 := eq_true p127
      replace q127 := eq_true q127
      go_wp2_with (first | ((with_reducible refine gate_callee (f := 46) rfl ?_); refine goesL_ (some 16) rfl rfl Try.func46 (by kernel_rfl) rfl #[.slice A127_0 (rd_L2 l0_1 x3_1).length c127_0] rfl (by (try simp only [List.map_toArray, List.map_cons, List.map_nil]); first | done | rfl | (simp only [List.length_drop, List.length_take]; rfl)) ?_; (with_reducible refine (spec_CustomersOk.calls k1 _ _ (rd_L2 l0_1 x3_1) true _ ?side1 ?side2 A5.out).mono ?_); (case side1 => repeat (first | exact (Kd.C_below HR127_0.out HB.out) | (with_reducible refine Kd.C_alloc ?_ _) | (with_reducible refine Kd.C_drewN ?_ _) | (with_reducible refine Kd.C_drew ?_))); (case side2 => exact HC127_0.out); rintro e w8 ⟨rfl, hb⟩; refine ⟨_, rfl, ?_⟩; have n0_ := Aside0.mk (blk_below (g := gb126) (o := .cells #[.slice A0_0 l0_0.length c0_0, .slice (some ad127) l0_1.length c0_1] 27 (0, 0)) (by (with_reducible repeat (first | refine blk_drewN ?_ _ | refine blk_drew ?_ | refine blk_alloc ?_ _)); exact BK126.out) hb); have n1_ := Aside0.mk (below_step (by repeat (first | (with_reducible first | exact HB.out | apply below_alloc | apply pw_below_drewN | apply below_drew1 | refine below_set ?_ GE126.out) | exact HB.out)) hb); clear BK126; clear HB; have BK126 := n0_; have HB := n1_; clear n0_ n1_; (try clear hb); (try clear hb2); (try clear hk); (try clear hi)))
      go_roundg k1
      case measure => have := HK1.out; omega
      case rel => exact ⟨(wrap64 (x3_1 + 1)), (by first | rfl | (simp; done) | (simp [*]; done)), H', ⟨by have := HK1.out; omega⟩, ⟨by (with_reducible repeat (first | refine blk_drewN ?_ _ | refine blk_drew ?_ | refine blk_alloc ?_ _)); exact BK126.out⟩, ⟨by repeat (first | (with_reducible first | exact HB.out | apply below_alloc | apply pw_below_drewN | apply below_drew1 | refine below_set ?_ GE126.out) | exact HB.out)⟩⟩
     ·replace c6 := Bool.eq_false_iff.mpr c6
      subst c6
      have H1 : (some false) = some r := by rw [if_neg (show ¬ (false = true) by decide)] at H; exact H
      clear H
      have H := H1
      clear H1
      obtain rfl := Option.some.inj H
      have hcz9_0 : wr.cell? ⟨gb126, 0, none⟩ = some (.slice A0_0 l0_0.length c0_0) := (blk_cell BK126.out 0).trans rfl
      have hcz9_1 : wr.cell? ⟨gb126, 1, none⟩ = some (.slice A0_1 l0_1.length c0_1) := (blk_cell BK126.out 1).trans rfl
      have hfz9_0 := blk_frozen BK126.out 0
      have hfz9_1 := blk_frozen BK126.out 1
      have p127 : 0 ≤ (x3_1 : Int) := of_decide_eq_true (by first | (with_reducible assumption) | assumption)
      have q127 : x3_1 < (l0_1.length : Int) := of_decide_eq_true (by first | (with_reducible assumption) | assumption)
      obtain ⟨ad127, A127_0, c127_0, e127, hx127_0, hl127_0, hi127_0⟩ := at_L2 HR0_1.out x3_1 p127 q127
      cases e127
      replace hx127_0 := (HB.out.cell (World.block_lt_of_cell? w _ hx127_0)).trans hx127_0
      have HR127_0 := Aside0.mk hi127_0
      have HC127_0 := Aside0.mk hl127_0
      clear hi127_0 hl127_0
      replace p127 := eq_true p127
      replace q127 := eq_true q127
      go_wp2_with (first | ((with_reducible refine gate_callee (f := 46) rfl ?_); refine goesL_ (some 16) rfl rfl Try.func46 (by kernel_rfl) rfl #[.slice A127_0 (rd_L2 l0_1 x3_1).length c127_0] rfl (by (try simp only [List.map_toArray, List.map_cons, List.map_nil]); first | done | rfl | (simp only [List.length_drop, List.length_take]; rfl)) ?_; (with_reducible refine (spec_CustomersOk.calls k1 _ _ (rd_L2 l0_1 x3_1) false _ ?side1 ?side2 A5.out).mono ?_); (case side1 => repeat (first | exact (Kd.C_below HR127_0.out HB.out) | (with_reducible refine Kd.C_alloc ?_ _) | (with_reducible refine Kd.C_drewN ?_ _) | (with_reducible refine Kd.C_drew ?_))); (case side2 => exact HC127_0.out); rintro e w10 ⟨rfl, hb⟩; refine ⟨_, rfl, ?_⟩; have n0_ := Aside0.mk (blk_below (g := gb126) (o := .cells #[.slice A0_0 l0_0.length c0_0, .slice (some ad127) l0_1.length c0_1] 27 (0, 0)) (by (with_reducible repeat (first | refine blk_drewN ?_ _ | refine blk_drew ?_ | refine blk_alloc ?_ _)); exact BK126.out) hb); have n1_ := Aside0.mk (below_step (by repeat (first | (with_reducible first | exact HB.out | apply below_alloc | apply pw_below_drewN | apply below_drew1 | refine below_set ?_ GE126.out) | exact HB.out)) hb); clear BK126; clear HB; have BK126 := n0_; have HB := n1_; clear n0_ n1_; (try clear hb); (try clear hb2); (try clear hk); (try clear hi)))
      go_ret
      exact ⟨by first | rfl | (simp [errW_none, errW_some] <;> rfl) | (simp [*, errW_none, errW_some] <;> rfl), by repeat (first | (with_reducible first | exact HB.out | apply below_alloc | apply pw_below_drewN | apply below_drew1 | refine below_set ?_ GE126.out) | exact HB.out)⟩
    ·rw [if_neg c4] at H
     exact absurd H (by simp)
   ·rw [if_neg c3] at H
    have c3b0 : decide (x3_1 < (l0_1.length : Int)) = false := decide_eq_false c3
    clear c3
    replace H := Option.bind_eq_some_iff.mp H
    obtain ⟨t129, A110, H⟩ := H
    replace H : (if t129 = true then (some (decide ((l0_1.length : Int) ≤ 8))) else (some false)) = some r := H
    have A11 := Aside0.mk A110
    clear A110
    by_cases c12 : t129 = true
    ·subst c12
     have H1 : (some (decide ((l0_1.length : Int) ≤ 8))) = some r := by rw [if_pos rfl] at H; exact H
     clear H
     have H := H1
     clear H1
     obtain rfl := Option.some.inj H
     have hcz13_0 : wr.cell? ⟨gb126, 0, none⟩ = some (.slice A0_0 l0_0.length c0_0) := (blk_cell BK126.out 0).trans rfl
     have hcz13_1 : wr.cell? ⟨gb126, 1, none⟩ = some (.slice A0_1 l0_1.length c0_1) := (blk_cell BK126.out 1).trans rfl
     have hfz13_0 := blk_frozen BK126.out 0
     have hfz13_1 := blk_frozen BK126.out 1
     go_wp2_with (first | ((with_reducible refine gate_callee (f := 46) rfl ?_); refine goesL_ (some 20) rfl rfl Try.func46 (by kernel_rfl) rfl #[.slice A0_0 l0_0.length c0_0] rfl (by (try simp only [List.map_toArray, List.map_cons, List.map_nil]); first | done | rfl | (simp only [List.length_drop, List.length_take]; rfl)) ?_; (with_reducible refine (spec_CustomersOk.calls k1 _ _ l0_0 true _ ?side1 ?side2 A11.out).mono ?_); (case side1 => repeat (first | exact (Kd.C_below HR0_0.out HB.out) | (with_reducible refine Kd.C_alloc ?_ _) | (with_reducible refine Kd.C_drewN ?_ _) | (with_reducible refine Kd.C_drew ?_))); (case side2 => exact HC0_0.out); rintro e w14 ⟨rfl, hb⟩; refine ⟨_, rfl, ?_⟩; have n0_ := Aside0.mk (blk_below (g := gb126) (o := .cells #[.slice A0_0 l0_0.length c0_0, .slice A0_1 l0_1.length c0_1] 27 (0, 0)) (by (with_reducible repeat (first | refine blk_drewN ?_ _ | refine blk_drew ?_ | refine blk_alloc ?_ _)); exact BK126.out) hb); have n1_ := Aside0.mk (below_step (by repeat (first | (with_reducible first | exact HB.out | apply below_alloc | apply pw_below_drewN | apply below_drew1 | refine below_set ?_ GE126.out) | exact HB.out)) hb); clear BK126; clear HB; have BK126 := n0_; have HB := n1_; clear n0_ n1_; (try clear hb); (try clear hb2); (try clear hk); (try clear hi); have hcz15_0 : w14.cell? ⟨gb126, 0, none⟩ = some (.slice A0_0 l0_0.length c0_0) := (blk_cell BK126.out 0).trans rfl; have hcz15_1 : w14.cell? ⟨gb126, 1, none⟩ = some (.slice A0_1 l0_1.length c0_1) := (blk_cell BK126.out 1).trans rfl; have hfz15_0 := blk_frozen BK126.out 0; have hfz15_1 := blk_frozen BK126.out 1))
     go_ret
     exact ⟨by first | rfl | (simp [errW_none, errW_some] <;> rfl) | (simp [*, errW_none, errW_some] <;> rfl), by repeat (first | (with_reducible first | exact HB.out | apply below_alloc | apply pw_below_drewN | apply below_drew1 | refine below_set ?_ GE126.out) | exact HB.out)⟩
    ·replace c12 := Bool.eq_false_iff.mpr c12
     subst c12
     have H1 : (some false) = some r := by rw [if_neg (show ¬ (false = true) by decide)] at H; exact H
     clear H
     have H := H1
     clear H1
     obtain rfl := Option.some.inj H
     have hcz16_0 : wr.cell? ⟨gb126, 0, none⟩ = some (.slice A0_0 l0_0.length c0_0) := (blk_cell BK126.out 0).trans rfl
     have hcz16_1 : wr.cell? ⟨gb126, 1, none⟩ = some (.slice A0_1 l0_1.length c0_1) := (blk_cell BK126.out 1).trans rfl
     have hfz16_0 := blk_frozen BK126.out 0
     have hfz16_1 := blk_frozen BK126.out 1
     go_wp2_with (first | ((with_reducible refine gate_callee (f := 46) rfl ?_); refine goesL_ (some 20) rfl rfl Try.func46 (by kernel_rfl) rfl #[.slice A0_0 l0_0.length c0_0] rfl (by (try simp only [List.map_toArray, List.map_cons, List.map_nil]); first | done | rfl | (simp only [List.length_drop, List.length_take]; rfl)) ?_; (with_reducible refine (spec_CustomersOk.calls k1 _ _ l0_0 false _ ?side1 ?side2 A11.out).mono ?_); (case side1 => repeat (first | exact (Kd.C_below HR0_0.out HB.out) | (with_reducible refine Kd.C_alloc ?_ _) | (with_reducible refine Kd.C_drewN ?_ _) | (with_reducible refine Kd.C_drew ?_))); (case side2 => exact HC0_0.out); rintro e w17 ⟨rfl, hb⟩; refine ⟨_, rfl, ?_⟩; have n0_ := Aside0.mk (blk_below (g := gb126) (o := .cells #[.slice A0_0 l0_0.length c0_0, .slice A0_1 l0_1.length c0_1] 27 (0, 0)) (by (with_reducible repeat (first | refine blk_drewN ?_ _ | refine blk_drew ?_ | refine blk_alloc ?_ _)); exact BK126.out) hb); have n1_ := Aside0.mk (below_step (by repeat (first | (with_reducible first | exact HB.out | apply below_alloc | apply pw_below_drewN | apply below_drew1 | refine below_set ?_ GE126.out) | exact HB.out)) hb); clear BK126; clear HB; have BK126 := n0_; have HB := n1_; clear n0_ n1_; (try clear hb); (try clear hb2); (try clear hk); (try clear hi)))
     go_ret
     exact ⟨by first | rfl | (simp [errW_none, errW_some] <;> rfl) | (simp [*, errW_none, errW_some] <;> rfl), by repeat (first | (with_reducible first | exact HB.out | apply below_alloc | apply pw_below_drewN | apply below_drew1 | refine below_set ?_ GE126.out) | exact HB.out)⟩

/-- A state of type 95 at block g of W; what its slices lead to came in by w0. -/
def IsS95 (w0 W : World) (g : Nat) (f0 : List Int) (f1 : Int) : Prop := ∃ A0 c0, W.heap[g]? = some (.cells #[.slice A0 f0.length c0, .int .i64 f1] 95 (0, 0)) ∧ w0.heap.size ≤ g ∧ Kd.C (Kd.int .u8) w0 A0 f0.length f0
theorem IsS95.grown {w0 W : World} {g : Nat} {f0 : List Int} {f1 : Int} {W1 : World} {row : Option Nat} (h : IsS95 w0 W g f0 f1) (hw : W.grownBy W1 row) (hne : some g ≠ row) : IsS95 w0 W1 g f0 f1 := by
  obtain ⟨A0, c0, hb, hg, hr0⟩ := h
  exact ⟨A0, c0, blk_grown hb hw hne, hg, hr0⟩
theorem IsS95.own_neN {w0 W : World} {g : Nat} {f0 : List Int} {f1 : Int} {α : Type} {d : Kd α} {e : Nat} {base : Nat} {ok : Nat → Prop} {v : Value} {xs : List α} (h : IsS95 w0 W g f0 f1) (ho : Kd.N d e W base ok v xs) (ht : e ≠ 95) : some g ≠ v.ownBlock := by
  obtain ⟨A0, c0, hb, hg, hr0⟩ := h
  exact Kd.N_ne ho hb ht
theorem IsS95.fresh {w0 W : World} {g : Nat} {f0 : List Int} {f1 : Int} (h : IsS95 w0 W g f0 f1) : ∀ k, W.heap.size ≤ k → k ≠ g := by
  obtain ⟨A0, c0, hb, hg, hr0⟩ := h
  exact Kd.freshB hb
theorem IsS95.kept {w0 W : World} {g : Nat} {f0 : List Int} {f1 : Int} {W1 : World} {S : Nat → Prop} (h : IsS95 w0 W g f0 f1) (hk : Kept W W1 S) (hne : ¬ S g) : IsS95 w0 W1 g f0 f1 := by
  obtain ⟨A0, c0, hb, hg, hr0⟩ := h
  exact ⟨A0, c0, blk_kept hb hk hne, hg, hr0⟩
theorem IsS95.below {w0 W : World} {g : Nat} {f0 : List Int} {f1 : Int} {W1 : World} (h : IsS95 w0 W g f0 f1) (hw : Below W.heap.size W W1) : IsS95 w0 W1 g f0 f1 := h.grown (grown_of_below hw none) (by simp)
theorem IsS95.alloc {w0 W : World} {g : Nat} {f0 : List Int} {f1 : Int} (h : IsS95 w0 W g f0 f1) (o : Obj) : IsS95 w0 (W.alloc o) g f0 f1 := h.below (below_alloc (Below.refl _ _) o)
theorem IsS95.drewN {w0 W : World} {g : Nat} {f0 : List Int} {f1 : Int} (h : IsS95 w0 W g f0 f1) (m : Nat) : IsS95 w0 (W.drewN m) g f0 f1 := h
theorem IsS95.drew {w0 W : World} {g : Nat} {f0 : List Int} {f1 : Int} (h : IsS95 w0 W g f0 f1) : IsS95 w0 W.drew g f0 f1 := h
theorem IsS95.at_ {w0 W : World} {g : Nat} {f0 : List Int} {f1 : Int} {w' : World} {m : Nat} (hq : W.drewN m = w') (h : IsS95 w0 W g f0 f1) : IsS95 w0 w' g f0 f1 := by subst hq; exact IsS95.drewN h m
theorem IsS95.apart {w0 W : World} {g : Nat} {f0 : List Int} {f1 : Int} {α : Type} {d : Kd α} {e : Nat} {base : Nat} {ok : Nat → Prop} {v : Value} {xs : List α} (h : IsS95 w0 W g f0 f1) (ho : d.R e W base ok v xs) (ht : ∀ q, q ∈ e :: d.E → q ≠ 95) : d.R e W base (fun k => ok k ∧ k ≠ g) v xs := by
  obtain ⟨A0, c0, hb, hg, hr0⟩ := h
  exact Kd.R_types ho hb ht
theorem IsS95.own_ne {w0 W : World} {g : Nat} {f0 : List Int} {f1 : Int} {α : Type} {d : Kd α} {e : Nat} {base : Nat} {ok : Nat → Prop} {v : Value} {xs : List α} (h : IsS95 w0 W g f0 f1) (ho : d.R e W base ok v xs) (ht : e ≠ 95) : some g ≠ v.ownBlock := by
  obtain ⟨A0, c0, hb, hg, hr0⟩ := h
  exact Kd.R_ne ho hb ht
theorem IsS95.apartQ {w0 W : World} {g : Nat} {f0 : List Int} {f1 : Int} {α : Type} {d : Kd α} {e : Nat} {base : Nat} {ok : Nat → Prop} {v : Value} {xs : List α} (h : IsS95 w0 W g f0 f1) (ho : d.Q e W base ok v xs) (ht : ∀ q, q ∈ e :: d.E → q ≠ 95) : d.Q e W base (fun k => ok k ∧ k ≠ g) v xs := by
  obtain ⟨A0, c0, hb, hg, hr0⟩ := h
  exact Kd.Q_types ho hb ht
theorem IsS95.own_neQ {w0 W : World} {g : Nat} {f0 : List Int} {f1 : Int} {α : Type} {d : Kd α} {e : Nat} {base : Nat} {ok : Nat → Prop} {v : Value} {xs : List α} (h : IsS95 w0 W g f0 f1) (ho : d.Q e W base ok v xs) (ht : e ≠ 95) : some g ≠ v.ownBlock := by
  obtain ⟨A0, c0, hb, hg, hr0⟩ := h
  exact Kd.Q_ne ho hb ht
theorem IsS95.apartS {w0 W : World} {g : Nat} {f0 : List Int} {f1 : Int} {α : Type} {d : Kd α} {e : Nat} {base : Nat} {ok : Nat → Prop} {v : Value} {xs : List α} (h : IsS95 w0 W g f0 f1) (ho : d.S e W base ok v xs) (ht : ∀ q, q ∈ e :: d.E → q ≠ 95) : d.S e W base (fun k => ok k ∧ k ≠ g) v xs := by
  obtain ⟨A0, c0, hb, hg, hr0⟩ := h
  exact Kd.S_types ho hb ht
theorem IsS95.own_neS {w0 W : World} {g : Nat} {f0 : List Int} {f1 : Int} {α : Type} {d : Kd α} {e : Nat} {base : Nat} {ok : Nat → Prop} {v : Value} {xs : List α} (h : IsS95 w0 W g f0 f1) (ho : d.S e W base ok v xs) (ht : e ≠ 95) : some g ≠ v.ownBlock := by
  obtain ⟨A0, c0, hb, hg, hr0⟩ := h
  exact Kd.S_ne ho hb ht
theorem IsS95.lt {w0 W : World} {g : Nat} {f0 : List Int} {f1 : Int} (h : IsS95 w0 W g f0 f1) : g < W.heap.size := by
  obtain ⟨A0, c0, hb, hg, hr0⟩ := h
  exact blk_lt hb
theorem IsS95.ge {w0 W : World} {g : Nat} {f0 : List Int} {f1 : Int} (h : IsS95 w0 W g f0 f1) : w0.heap.size ≤ g := by
  obtain ⟨A0, c0, hb, hg, hr0⟩ := h
  exact hg
theorem IsS95.ne_blk {w0 W : World} {g : Nat} {f0 : List Int} {f1 : Int} {a : Nat} {cs : Array Value} {t : TypeId} {fr : Nat × Nat} (h : IsS95 w0 W g f0 f1) (hb2 : W.heap[a]? = some (.cells cs t fr)) (ht : t ≠ 95) : g ≠ a := by
 obtain ⟨A0, c0, hb, hg, hr0⟩ := h
 rintro rfl
 rw [hb] at hb2
 injection hb2 with hb2
 injection hb2 with _ ht2
 exact ht ht2.symm
theorem IsS95.far {w0 W : World} {g : Nat} {f0 : List Int} {f1 : Int} {p : Addr} (h : IsS95 w0 W g f0 f1) (hne : g ≠ p.block) (u : Value) : IsS95 w0 (W.setCell p u) g f0 f1 := by
  obtain ⟨A0, c0, hb, hg, hr0⟩ := h
  exact ⟨A0, c0, blk_far hb hne u, hg, hr0⟩
theorem cellS95_0 {W : World} {g : Nat} {A0 : Option Addr} {c0 : Nat} {f0 : List Int} {f1 : Int} (h : W.heap[g]? = some (.cells #[.slice A0 f0.length c0, .int .i64 f1] 95 (0, 0))) : W.cell? ⟨g, 0, none⟩ = some (.slice A0 f0.length c0) := (blk_cell h 0).trans rfl
theorem cellS95_1 {W : World} {g : Nat} {A0 : Option Addr} {c0 : Nat} {f0 : List Int} {f1 : Int} (h : W.heap[g]? = some (.cells #[.slice A0 f0.length c0, .int .i64 f1] 95 (0, 0))) : W.cell? ⟨g, 1, none⟩ = some (.int .i64 f1) := (blk_cell h 1).trans rfl
theorem IsS95.set_1 {w0 W : World} {g : Nat} {f0 : List Int} {f1 : Int} (h : IsS95 w0 W g f0 f1) (x : Int) : IsS95 w0 (W.setCell ⟨g, 1, none⟩ (.int .i64 x)) g f0 x := by
  obtain ⟨A0, c0, hb, hg, hr0⟩ := h
  exact ⟨A0, c0, by simpa using blk_set hb 1 (.int .i64 x), hg, hr0⟩
theorem IsS95.new (w0 W : World) (A0 : Option Addr) (c0 : Nat) (f0 : List Int) (f1 : Int) (hB : Below w0.heap.size w0 W) (hr0 : Kd.C (Kd.int .u8) w0 A0 f0.length f0) : IsS95 w0 (W.alloc (.cells #[.slice A0 f0.length c0, .int .i64 f1] 95)) W.heap.size f0 f1 := ⟨A0, c0, by simpa using heap_alloc_new W _, hB.size, hr0⟩

/-! ### spec_l20Open: function 44 -/
def spec_l20Open.f (l0 : List Int) : Option (List Int × Int) := if (l0.length : Int) > 2000 then (if 2000 ≤ (l0.length : Int) then (some (l0.take 2000, 0)) else (none)) else (some (l0, 0))
set_option maxHeartbeats 8000000 in
set_option maxRecDepth 100000 in
theorem spec_l20Open.calls (A0 : Option Addr) (c0 : Nat) (l0 : List Int) (r1 : List Int) (r2 : Int) (w0 w : World) (hB : Below w0.heap.size w0 w) (hr0 : Kd.C (Kd.int .u8) w0 A0 l0.length l0) (hc0 : l0.length ≤ c0) (h : spec_l20Open.f l0 = some (r1, r2)) :
 Calls Try.prog 44 #[.slice A0 l0.length c0] w fun e w' => ∃ g_ : Nat, e = .returned (.pointer (some ⟨g_, 0, none⟩)) ∧ IsS95 w0 w' g_ r1 r2 ∧ Below w0.heap.size w0 w' ∧ Below w.heap.size w w' := by
 have hu95 := Try.underlying95
 have HR0 := Aside0.mk hr0
 have HC0 := Aside0.mk hc0
 clear hr0 hc0
 have HBW := Aside0.mk (Below.refl w.heap.size w)
 have HW0 := Aside0.mk hB.size
 have HB := Aside0.mk hB
 clear hB
 have H : (if (l0.length : Int) > 2000 then (if 2000 ≤ (l0.length : Int) then (some (l0.take 2000, 0)) else (none)) else (some (l0, 0))) = some (r1, r2) := h
 clear h
 by_cases c2 : (l0.length : Int) > 2000
 ·rw [if_pos c2] at H
  have c2b0 : decide (2000 < (l0.length : Int)) = true := decide_eq_true c2
  have c2b1 : decide (2000 < l0.length) = true := decide_eq_true (by omega)
  clear c2
  by_cases c3 : 2000 ≤ (l0.length : Int)
  ·rw [if_pos c3] at H
   have c3b0 := eq_true c3
   have c3b1 : decide (2000 ≤ (l0.length : Int)) = true := decide_eq_true c3
   clear c3
   simp only [Option.some.injEq, Prod.mk.injEq] at H
   obtain ⟨rfl, rfl⟩ := H
   obtain ⟨i04, hi04, _, hsz4, _⟩ := info_parts info5
   obtain ⟨hcut4, hA4, hC4⟩ := print_take_of (P := Try.prog) (Value.int .u8) 0 22 5 .i64 Try.underlying22 hi04 hsz4 A0 c0 l0 2000 (by omega) (of_decide_eq_true (by first | (with_reducible assumption) | assumption)) HC0.out
   have HR130 := Aside0.mk (Kd.C_of_reads (h1 := fun _ => rfl) (hA4 _ (Kd.reads_of_C HR0.out)))
   have HC130 := Aside0.mk hC4
   clear hA4 hC4 hi04 hsz4
   go_enter Try.func44, Try.ntmps44
   go_wp2_with (first | ((with_reducible refine gate_dst (N := 10) rfl ?_); refine box_event ?hg (N := 10) ?hd (cs := #[.slice A0 (l0.take 2000).length c0, .int .i64 0]) (t := 95) ?hr ?_; (case hd => rfl); (case hg => rfl); (case hr => first | (go_simp; done) | (go_simp; rfl)); intro gb131 hg w5 hbox hb; have n0_ := Aside0.mk (below_step HBW.out hb); have n1_ := Aside0.mk (below_step (by repeat (first | (with_reducible first | exact HB.out | apply below_alloc | apply pw_below_drewN | apply below_drew1) | exact HB.out)) hb); have n2_ := Aside0.mk (hbox); have n3_ := Aside0.mk ((by rw [hg]; exact (below_size (by repeat (first | (with_reducible first | exact HBW.out | apply below_alloc | apply pw_below_drewN | apply below_drew1) | exact HBW.out))) : w.heap.size ≤ gb131)); have n4_ := Aside0.mk ((Nat.le_trans HW0.out (by rw [hg]; exact (below_size (by repeat (first | (with_reducible first | exact HBW.out | apply below_alloc | apply pw_below_drewN | apply below_drew1) | exact HBW.out))) : w.heap.size ≤ gb131) : w0.heap.size ≤ gb131)); clear HBW; clear HB; have HBW := n0_; have HB := n1_; have BK131 := n2_; have GW131 := n3_; have GE131 := n4_; clear n0_ n1_ n2_ n3_ n4_; clear hb hbox hg))
   go_ret
   exact ⟨_, rfl, (show IsS95 w0 _ gb131 (l0.take 2000) 0 from ⟨_, _, by (with_reducible repeat (first | refine blk_drewN ?_ _ | refine blk_drew ?_ | refine blk_alloc ?_ _)); exact BK131.out, GE131.out, HR130.out⟩), by repeat (first | (with_reducible first | exact HB.out | apply below_alloc | apply pw_below_drewN | apply below_drew1 | refine below_set ?_ GE131.out) | exact HB.out), by repeat (first | (with_reducible first | exact HBW.out | apply below_alloc | apply pw_below_drewN | apply below_drew1 | refine below_set ?_ GW131.out) | exact HBW.out)⟩
  ·rw [if_neg c3] at H
   exact absurd H (by simp)
 ·rw [if_neg c2] at H
  have c2b0 : decide (2000 < (l0.length : Int)) = false := decide_eq_false c2
  have c2b1 : decide (2000 < l0.length) = false := decide_eq_false (by omega)
  clear c2
  simp only [Option.some.injEq, Prod.mk.injEq] at H
  obtain ⟨rfl, rfl⟩ := H
  go_enter Try.func44, Try.ntmps44
  go_wp2_with (first | ((with_reducible refine gate_dst (N := 10) rfl ?_); refine box_event ?hg (N := 10) ?hd (cs := #[.slice A0 l0.length c0, .int .i64 0]) (t := 95) ?hr ?_; (case hd => rfl); (case hg => rfl); (case hr => first | (go_simp; done) | (go_simp; rfl)); intro gb132 hg w6 hbox hb; have n0_ := Aside0.mk (below_step HBW.out hb); have n1_ := Aside0.mk (below_step (by repeat (first | (with_reducible first | exact HB.out | apply below_alloc | apply pw_below_drewN | apply below_drew1) | exact HB.out)) hb); have n2_ := Aside0.mk (hbox); have n3_ := Aside0.mk ((by rw [hg]; exact (below_size (by repeat (first | (with_reducible first | exact HBW.out | apply below_alloc | apply pw_below_drewN | apply below_drew1) | exact HBW.out))) : w.heap.size ≤ gb132)); have n4_ := Aside0.mk ((Nat.le_trans HW0.out (by rw [hg]; exact (below_size (by repeat (first | (with_reducible first | exact HBW.out | apply below_alloc | apply pw_below_drewN | apply below_drew1) | exact HBW.out))) : w.heap.size ≤ gb132) : w0.heap.size ≤ gb132)); clear HBW; clear HB; have HBW := n0_; have HB := n1_; have BK132 := n2_; have GW132 := n3_; have GE132 := n4_; clear n0_ n1_ n2_ n3_ n4_; clear hb hbox hg))
  go_ret
  exact ⟨_, rfl, (show IsS95 w0 _ gb132 l0 0 from ⟨_, _, by (with_reducible repeat (first | refine blk_drewN ?_ _ | refine blk_drew ?_ | refine blk_alloc ?_ _)); exact BK132.out, GE132.out, HR0.out⟩), by repeat (first | (with_reducible first | exact HB.out | apply below_alloc | apply pw_below_drewN | apply below_drew1 | refine below_set ?_ GE132.out) | exact HB.out), by repeat (first | (with_reducible first | exact HBW.out | apply below_alloc | apply pw_below_drewN | apply below_drew1 | refine below_set ?_ GW132.out) | exact HBW.out)⟩

/-! ### spec_DeskNew: function 13 -/
def spec_DeskNew.f (k : Nat) (l0 : List (S50)) : Option ((List (S50)) × (List (List (S50))) × Bool) := (spec_CustomersOk.f k l0).bind fun t134 => (if t134 = true then ((some (([] : List (S50)) : List (S50))).bind fun y135 => (if y135.length + l0.length < 8796093022208 then (some ((y135 ++ l0), ([] : List (List (S50))), true)) else (none))) else (some (([] : List (S50)), ([] : List (List (S50))), false)))
set_option maxHeartbeats 8000000 in
set_option maxRecDepth 100000 in
theorem spec_DeskNew.calls (k : Nat) (A0 : Option Addr) (c0 : Nat) (l0 : List (S50)) (r1 : List (S50)) (r2 : List (List (S50))) (r3 : Bool) (w : World) (hr0 : Kd.C k50 w A0 l0.length l0) (hc0 : l0.length ≤ c0) (h : spec_DeskNew.f k l0 = some (r1, r2, r3)) :
 Calls Try.prog 13 #[.slice A0 l0.length c0] w fun e w' => ∃ v0_ v1_ : Value, e = .returned (.tuple #[.agg #[v0_, v1_], .bool r3]) ∧ Kd.R k50 50 w' w.heap.size (fun _ => True) v0_ r1 ∧ Kd.S (Kd.slice 50 k50) 23 w' w.heap.size (fun k_ => some k_ ≠ (v0_ : Value).ownBlock) v1_ r2 ∧ Below w.heap.size w w' := by
 have hu27 := Try.underlying27
 have HR0 := Aside0.mk hr0
 have HC0 := Aside0.mk hc0
 clear hr0 hc0
 have HB := Aside0.mk (Below.refl w.heap.size w)
 have H : ((spec_CustomersOk.f k l0).bind fun t134 => (if t134 = true then ((some (([] : List (S50)) : List (S50))).bind fun y135 => (if y135.length + l0.length < 8796093022208 then (some ((y135 ++ l0), ([] : List (List (S50))), true)) else (none))) else (some (([] : List (S50)), ([] : List (List (S50))), false)))) = some (r1, r2, r3) := h
 clear h
 replace H := Option.bind_eq_some_iff.mp H
 obtain ⟨t134, A20, H⟩ := H
 replace H : (if t134 = true then ((some (([] : List (S50)) : List (S50))).bind fun y135 => (if y135.length + l0.length < 8796093022208 then (some ((y135 ++ l0), ([] : List (List (S50))), true)) else (none))) else (some (([] : List (S50)), ([] : List (List (S50))), false))) = some (r1, r2, r3) := H
 have A2 := Aside0.mk A20
 clear A20
 by_cases c3 : t134 = true
 ·subst c3
  have H1 : ((some (([] : List (S50)) : List (S50))).bind fun y135 => (if y135.length + l0.length < 8796093022208 then (some ((y135 ++ l0), ([] : List (List (S50))), true)) else (none))) = some (r1, r2, r3) := by rw [if_pos rfl] at H; exact H
  clear H
  have H := H1
  clear H1
  obtain ⟨y135, hy135⟩ : ∃ y_ : List (S50), y_ = (([] : List (S50))) := ⟨_, rfl⟩
  replace H : (if y135.length + l0.length < 8796093022208 then (some ((y135 ++ l0), ([] : List (List (S50))), true)) else (none)) = some (r1, r2, r3) := by first | (rw [hy135]; with_reducible exact H) | (have H2_ := (Option.bind_some _ _).symm.trans H; rw [hy135]; with_reducible exact H2_) | (have H2_ := (Option.bind_some _ _).symm.trans H; with_reducible exact H2_) | with_reducible exact H | (rw [hy135]; exact H) | exact H
  have Ny135 := Aside0.mk hy135
  clear hy135
  by_cases c4 : y135.length + l0.length < 8796093022208
  ·rw [if_pos c4] at H
   have LMc4 := Aside0.mk c4
   clear c4
   obtain ⟨y138, hy138⟩ : ∃ y_ : List (S50), y_ = (y135 ++ l0) := ⟨_, rfl⟩
   replace H : (some (y138, ([] : List (List (S50))), true)) = some (r1, r2, r3) := by first | (rw [hy138]; with_reducible exact H) | (have H2_ := (Option.bind_some _ _).symm.trans H; rw [hy138]; with_reducible exact H2_) | (have H2_ := (Option.bind_some _ _).symm.trans H; with_reducible exact H2_) | with_reducible exact H | (rw [hy138]; exact H) | exact H
   have Ny138 := Aside0.mk hy138
   clear hy138
   simp only [Option.some.injEq, Prod.mk.injEq] at H
   obtain ⟨rfl, rfl, rfl⟩ := H
   go_enter Try.func13, Try.ntmps13
   go_wp2_with (first | ((with_reducible refine gate_dst (N := 2) rfl ?_); refine box_event ?hg (N := 2) ?hd (cs := #[.slice none 0 0, .slice none 0 0]) (t := 27) ?hr ?_; (case hd => rfl); (case hg => rfl); (case hr => first | (go_simp; done) | (go_simp; rfl)); intro gb133 hg w5 hbox hb; have n0_ := Aside0.mk (below_step (by repeat (first | (with_reducible first | exact HB.out | apply below_alloc | apply pw_below_drewN | apply below_drew1) | exact HB.out)) hb); have n1_ := Aside0.mk (hbox); have n2_ := Aside0.mk ((by rw [hg]; exact (below_size (by repeat (first | (with_reducible first | exact HB.out | apply below_alloc | apply pw_below_drewN | apply below_drew1) | exact HB.out))) : w.heap.size ≤ gb133)); have n3_ := Aside0.mk ((by rw [hg]; exact (below_size (by repeat (first | (with_reducible first | exact HB.out | apply below_alloc | apply pw_below_drewN | apply below_drew1) | exact HB.out))) : w.heap.size ≤ gb133)); clear HB; have HB := n0_; have BK133 := n1_; have GW133 := n2_; have GE133 := n3_; clear n0_ n1_ n2_ n3_; clear hb hbox hg) | ((with_reducible refine gate_callee (f := 46) rfl ?_); refine goesL_ (some 5) rfl rfl Try.func46 (by kernel_rfl) rfl #[.slice A0 l0.length c0] rfl (by (try simp only [List.map_toArray, List.map_cons, List.map_nil]); first | done | rfl | (simp only [List.length_drop, List.length_take]; rfl)) ?_; (with_reducible refine (spec_CustomersOk.calls k _ _ l0 true _ ?side1 ?side2 A2.out).mono ?_); (case side1 => repeat (first | exact (Kd.C_below HR0.out HB.out) | (with_reducible refine Kd.C_alloc ?_ _) | (with_reducible refine Kd.C_drewN ?_ _) | (with_reducible refine Kd.C_drew ?_))); (case side2 => exact HC0.out); rintro e w6 ⟨rfl, hb⟩; refine ⟨_, rfl, ?_⟩; have n0_ := Aside0.mk (blk_below (g := gb133) (o := .cells #[.slice none 0 0, .slice none 0 0] 27 (0, 0)) (by (with_reducible repeat (first | refine blk_drewN ?_ _ | refine blk_drew ?_ | refine blk_alloc ?_ _)); exact BK133.out) hb); have n1_ := Aside0.mk (below_step (by repeat (first | (with_reducible first | exact HB.out | apply below_alloc | apply pw_below_drewN | apply below_drew1 | refine below_set ?_ GE133.out) | exact HB.out)) hb); clear BK133; clear HB; have BK133 := n0_; have HB := n1_; clear n0_ n1_; (try clear hb); (try clear hb2); (try clear hk); (try clear hi)) | ((with_reducible refine gate_dst (N := 8) rfl ?_); refine Kd.R_lit k50 _ 50 ?hg (N := 8) ?hd (xs := ([] : List (S50))) (inner := []) (ok := fun _ => True) (okp := fun _ => True) ?hr ?hp (fun _ hk => hk) trivial (Below.refl _ _) (Nat.le_refl _) (by simp) ?_; (case hd => rfl); (case hg => rfl); (case hr => first | (go_simp; done) | (go_simp; rfl)); (case hp => exact (Reps.none _ _)); intro v136 w7 ho8 hb hg_ hnew_; clear hg_ hnew_; (first | rw [← Ny135.out] at ho8 | (simp only [Int.reduceToNat] at ho8; rw [← Ny135.out] at ho8)); have n0_ := Aside0.mk (Kd.R_lower ho8 (below_size (by repeat (first | (with_reducible first | exact HB.out | apply below_alloc | apply pw_below_drewN | apply below_drew1 | refine below_set ?_ GE133.out) | exact HB.out)))); have n1_ := Aside0.mk (blk_below (g := gb133) (o := .cells #[.slice none 0 0, .slice none 0 0] 27 (0, 0)) (by (with_reducible repeat (first | refine blk_drewN ?_ _ | refine blk_drew ?_ | refine blk_alloc ?_ _)); exact BK133.out) hb); have n2_ := Aside0.mk (below_step (by repeat (first | (with_reducible first | exact HB.out | apply below_alloc | apply pw_below_drewN | apply below_drew1 | refine below_set ?_ GE133.out) | exact HB.out)) hb); clear BK133; clear HB; have HO137 := n0_; have BK133 := n1_; have HB := n2_; clear n0_ n1_ n2_; clear hb ho8) | ((with_reducible refine gate_builtin (b := .append) (xs := #[.tmp 8, .tmp 9]) rfl ?_); at_builtin; refine Kd.R_append_rows k50 (w0 := w) w.heap.size rfl (.tmp 8) (.tmp 9) 23 50 (.agg #[(.int .i64 0), (.int .i64 0)]) 16 rfl Try.underlying23 info50 rfl (by decide) (by omega) v136 y135 l0 _ _ _ (fun _ => True) (fun _ => False) rfl rfl ?aO ?aR (fun _ _ h => h) (fun _ h => h.elim) ?aF ?aB ?aS ?aL ?_; (case aR => repeat (first | exact (Kd.C_below HR0.out HB.out) | (with_reducible refine Kd.C_alloc ?_ _) | (with_reducible refine Kd.C_drewN ?_ _) | (with_reducible refine Kd.C_drew ?_))); (case aB => exact (by repeat (first | (with_reducible first | exact HB.out | apply below_alloc | apply pw_below_drewN | apply below_drew1 | refine below_set ?_ GE133.out) | exact HB.out))); (case aF => exact (fun _ _ => trivial)); (case aO => exact (by (with_reducible repeat (first | apply Kd.R_alloc | apply Kd.R_drewN | apply Kd.R_drew)); exact HO137.out)); (case aS => exact (below_size (by repeat (first | (with_reducible first | exact HB.out | apply below_alloc | apply pw_below_drewN | apply below_drew1 | refine below_set ?_ GE133.out) | exact HB.out)))); (case aL => have := LMc4.out; omega); intro v139 w9 ho hb hg hat; rw [← Ny138.out] at ho; have n0_ := Aside0.mk (blk_grown (g := gb133) (o := .cells #[.slice none 0 0, .slice none 0 0] 27 (0, 0)) (by (with_reducible repeat (first | refine blk_drewN ?_ _ | refine blk_drew ?_ | refine blk_alloc ?_ _)); exact BK133.out) hg (Kd.R_ne HO137.out BK133.out (by decide))); have n1_ := Aside0.mk (hb); have n2_ := Aside0.mk (ho); clear BK133; clear HB; clear HO137; have BK133 := n0_; have HB := n1_; have HO140 := n2_; clear n0_ n1_ n2_; clear ho hb hg hat; obtain ⟨Ao10, co10, eo10⟩ := Kd.R_slice HO140.out; subst eo10; have hcz11_0 : w9.cell? ⟨gb133, 0, none⟩ = some (.slice none 0 0) := (blk_cell BK133.out 0).trans rfl; have hcz11_1 : w9.cell? ⟨gb133, 1, none⟩ = some (.slice none 0 0) := (blk_cell BK133.out 1).trans rfl; have hfz11_0 := blk_frozen BK133.out 0; have hfz11_1 := blk_frozen BK133.out 1))
   refine bodyPost_ret (results_ct rfl _ _ gb133 27 #[.slice Ao10 y138.length co10, .slice none 0 0] (0, 0) _ rfl (by refine blk_put (cs := #[.slice Ao10 y138.length co10, .slice none 0 0]) ?_ 1 _ rfl; refine blk_put (cs := #[.slice none 0 0, .slice none 0 0]) ?_ 0 _ rfl; (with_reducible repeat (first | refine blk_drewN ?_ _ | refine blk_drew ?_ | refine blk_alloc ?_ _)); exact BK133.out) Try.underlying27 rfl (by kernel_rfl)) rfl ?_
   exact ⟨_, _, by first | rfl | (simp [errW_none, errW_some] <;> rfl) | (simp [*, errW_none, errW_some] <;> rfl), by (with_reducible repeat (first | apply Kd.R_alloc | apply Kd.R_drewN | apply Kd.R_drew)); exact Kd.R_mono (Kd.R_far (p := ⟨gb133, 1, none⟩) (Kd.R_far (p := ⟨gb133, 0, none⟩) (Kd.R_types HO140.out BK133.out (by decide)) (fun _ hk => hk.2) (.slice Ao10 y138.length co10)) (fun _ hk => hk.2) (.slice none 0 0)) (fun _ hk => trivial), by first | exact Kd.S_nil _ _ _ _ _ | exact Kd.N_nil _ _ _ _ _ | exact Kd.V_nil _ _ _ _ _ | exact Kd.Q_nil _ _ _ _ _ | exact Kd.R_nil _ _ _ _ _, by repeat (first | (with_reducible first | exact HB.out | apply below_alloc | apply pw_below_drewN | apply below_drew1 | refine below_set ?_ GE133.out) | exact HB.out)⟩
  ·rw [if_neg c4] at H
   exact absurd H (by simp)
 ·replace c3 := Bool.eq_false_iff.mpr c3
  subst c3
  have H1 : (some (([] : List (S50)), ([] : List (List (S50))), false)) = some (r1, r2, r3) := by rw [if_neg (show ¬ (false = true) by decide)] at H; exact H
  clear H
  have H := H1
  clear H1
  simp only [Option.some.injEq, Prod.mk.injEq] at H
  obtain ⟨rfl, rfl, rfl⟩ := H
  go_enter Try.func13, Try.ntmps13
  go_wp2_with (first | ((with_reducible refine gate_dst (N := 2) rfl ?_); refine box_event ?hg (N := 2) ?hd (cs := #[.slice none 0 0, .slice none 0 0]) (t := 27) ?hr ?_; (case hd => rfl); (case hg => rfl); (case hr => first | (go_simp; done) | (go_simp; rfl)); intro gb133 hg w12 hbox hb; have n0_ := Aside0.mk (below_step (by repeat (first | (with_reducible first | exact HB.out | apply below_alloc | apply pw_below_drewN | apply below_drew1) | exact HB.out)) hb); have n1_ := Aside0.mk (hbox); have n2_ := Aside0.mk ((by rw [hg]; exact (below_size (by repeat (first | (with_reducible first | exact HB.out | apply below_alloc | apply pw_below_drewN | apply below_drew1) | exact HB.out))) : w.heap.size ≤ gb133)); have n3_ := Aside0.mk ((by rw [hg]; exact (below_size (by repeat (first | (with_reducible first | exact HB.out | apply below_alloc | apply pw_below_drewN | apply below_drew1) | exact HB.out))) : w.heap.size ≤ gb133)); clear HB; have HB := n0_; have BK133 := n1_; have GW133 := n2_; have GE133 := n3_; clear n0_ n1_ n2_ n3_; clear hb hbox hg) | ((with_reducible refine gate_callee (f := 46) rfl ?_); refine goesL_ (some 5) rfl rfl Try.func46 (by kernel_rfl) rfl #[.slice A0 l0.length c0] rfl (by (try simp only [List.map_toArray, List.map_cons, List.map_nil]); first | done | rfl | (simp only [List.length_drop, List.length_take]; rfl)) ?_; (with_reducible refine (spec_CustomersOk.calls k _ _ l0 false _ ?side1 ?side2 A2.out).mono ?_); (case side1 => repeat (first | exact (Kd.C_below HR0.out HB.out) | (with_reducible refine Kd.C_alloc ?_ _) | (with_reducible refine Kd.C_drewN ?_ _) | (with_reducible refine Kd.C_drew ?_))); (case side2 => exact HC0.out); rintro e w13 ⟨rfl, hb⟩; refine ⟨_, rfl, ?_⟩; have n0_ := Aside0.mk (blk_below (g := gb133) (o := .cells #[.slice none 0 0, .slice none 0 0] 27 (0, 0)) (by (with_reducible repeat (first | refine blk_drewN ?_ _ | refine blk_drew ?_ | refine blk_alloc ?_ _)); exact BK133.out) hb); have n1_ := Aside0.mk (below_step (by repeat (first | (with_reducible first | exact HB.out | apply below_alloc | apply pw_below_drewN | apply below_drew1 | refine below_set ?_ GE133.out) | exact HB.out)) hb); clear BK133; clear HB; have BK133 := n0_; have HB := n1_; clear n0_ n1_; (try clear hb); (try clear hb2); (try clear hk); (try clear hi); have hcz14_0 : w13.cell? ⟨gb133, 0, none⟩ = some (.slice none 0 0) := (blk_cell BK133.out 0).trans rfl; have hcz14_1 : w13.cell? ⟨gb133, 1, none⟩ = some (.slice none 0 0) := (blk_cell BK133.out 1).trans rfl; have hfz14_0 := blk_frozen BK133.out 0; have hfz14_1 := blk_frozen BK133.out 1))
  refine bodyPost_ret (results_ct rfl _ _ gb133 27 #[.slice none 0 0, .slice none 0 0] (0, 0) _ rfl (by refine blk_put (cs := #[.slice none 0 0, .slice none 0 0]) ?_ 1 _ rfl; refine blk_put (cs := #[.slice none 0 0, .slice none 0 0]) ?_ 0 _ rfl; (with_reducible repeat (first | refine blk_drewN ?_ _ | refine blk_drew ?_ | refine blk_alloc ?_ _)); exact BK133.out) Try.underlying27 rfl (by kernel_rfl)) rfl ?_
  exact ⟨_, _, by first | rfl | (simp [errW_none, errW_some] <;> rfl) | (simp [*, errW_none, errW_some] <;> rfl), by first | exact Kd.R_nil _ _ _ _ _ | exact Kd.N_nil _ _ _ _ _ | exact Kd.V_nil _ _ _ _ _ | exact Kd.Q_nil _ _ _ _ _ | exact Kd.S_nil _ _ _ _ _, by first | exact Kd.S_nil _ _ _ _ _ | exact Kd.N_nil _ _ _ _ _ | exact Kd.V_nil _ _ _ _ _ | exact Kd.Q_nil _ _ _ _ _ | exact Kd.R_nil _ _ _ _ _, by repeat (first | (with_reducible first | exact HB.out | apply below_alloc | apply pw_below_drewN | apply below_drew1 | refine below_set ?_ GE133.out) | exact HB.out)⟩

end Go.Proofs.Ytocnifoohecmeaa.PFnDeskRun
