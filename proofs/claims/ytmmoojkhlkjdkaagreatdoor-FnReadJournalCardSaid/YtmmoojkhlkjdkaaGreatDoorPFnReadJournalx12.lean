-- Printed by this claim's own program; Lean checks it.
import Derived.Test.YtmmoojkhlkjdkaaGreatDoorPFnReadJournalx0
import Derived.Test.YtmmoojkhlkjdkaaGreatDoorPFnReadJournalx1
import Derived.Test.YtmmoojkhlkjdkaaGreatDoorPFnReadJournalx3
namespace Go.Proofs.YtmmoojkhlkjdkaaGreatDoor.PFnReadJournal
open Go.RowKit Go.Proofs.YtmmoojkhlkjdkaaGreatDoorW.PrintWords Go.Proofs.YtmmoojkhlkjdkaaGreatDoorW.PrintLast Go.Proofs.YtmmoojkhlkjdkaaGreatDoorW.PrintMore
attribute [local go_sem] max2_int min2_int max_two min_two max_three min_three max_four min_four   -- for this text's walks alone
set_option linter.unusedVariables false
set_option linter.unusedSimpArgs false

attribute [local go_sem high] eqA39
/-! ### laws_sameDeeds: function 11 -/
def laws_sameDeeds.l0 : Nat → List (S39) → List (S39) → Int → Option (Bool)
  | 0, _, _, _ => none
  | k + 1, x0, x1, x5 => if x5 < (x0.length : Int) then (if 0 ≤ x5 then (if x5 < (x1.length : Int) then (if (!(((rd_T39 x0 x5).f0) == ((rd_T39 x1 x5).f0)) || (!(((rd_T39 x0 x5).f1) == ((rd_T39 x1 x5).f1)) || (!(((rd_T39 x0 x5).f2) == ((rd_T39 x1 x5).f2))))) = true then (some false) else (laws_sameDeeds.l0 k x0 x1 (wrap64 (x5 + 1)))) else (none)) else (none)) else (some true)
def laws_sameDeeds.f (k : Nat) (l0 : List (S39)) (l1 : List (S39)) : Option (Bool) := if (l0.length : Int) = (l1.length : Int) then (laws_sameDeeds.l0 k l0 l1 0) else (some false)
set_option maxHeartbeats 8000000 in
set_option maxRecDepth 100000 in
theorem laws_sameDeeds.calls (k : Nat) (A0 : Option Addr) (c0 : Nat) (l0 : List (S39)) (A1 : Option Addr) (c1 : Nat) (l1 : List (S39)) (r : Bool) (w : World) (hr0 : Kd.C k39 w A0 l0.length l0) (hc0 : l0.length ≤ c0) (hr1 : Kd.C k39 w A1 l1.length l1) (hc1 : l1.length ≤ c1) (h : laws_sameDeeds.f k l0 l1 = some r) :
 Calls Tryz.prog 11 #[.slice A0 l0.length c0, .slice A1 l1.length c1] w fun e w' => e = .returned (.bool r) ∧ Drawn0 w w' := by
 have hu39 := Tryz.underlying39
 have HR0 := Aside0.mk hr0
 have HC0 := Aside0.mk hc0
 clear hr0 hc0
 have HR1 := Aside0.mk hr1
 have HC1 := Aside0.mk hc1
 clear hr1 hc1
 have H : (if (l0.length : Int) = (l1.length : Int) then (laws_sameDeeds.l0 k l0 l1 0) else (some false)) = some r := h
 clear h
 by_cases c3 : (l0.length : Int) = (l1.length : Int)
 ·rw [if_pos c3] at H
  have c3b0 : ((l0.length : Int) == (l1.length : Int)) = true := beq_iff_eq.mpr c3
  have c3b1 : ((l0.length : Int) != (l1.length : Int)) = false := bne_eq_false_iff_eq.mpr c3
  have c3b2 : (l0.length == l1.length) = true := Z79
  clear c3
  have H' := Aside0.mk H
  clear H
  go_enter Tryz.func11, Tryz.ntmps11
  go_wp2
  repeat (go_quiet (fail); try go_wp2)
  go_loopg [5] k (fun kq v5 w' => ∃ (x5_1 : Int), v5 = .int .i64 x5_1 ∧ Aside0 (laws_sameDeeds.l0 kq l0 l1 x5_1 = some r) ∧ Aside0 (kq ≤ k) ∧ Drawn0 w w')
  case atStart => exact ⟨(0), Z14, H', ⟨Nat.le_refl _⟩, Z36⟩
  case round =>
   clear H'
   try clear c1
   try clear p2
   try clear c3
   try clear c3b0
   try clear c3b1
   try clear c3b2
   obtain ⟨x5_1, rfl, HA, HK1, ⟨m1, rfl⟩⟩ := hrel
   cases gk with
   | zero => exact absurd HA.out (by simp [laws_sameDeeds.l0])
   | succ k1 =>
    have H := HA.out
    clear HA
    simp only [laws_sameDeeds.l0] at H
    by_cases c4 : x5_1 < (l0.length : Int)
    ·rw [if_pos c4] at H
     have c4b0 : decide (x5_1 < (l0.length : Int)) = true := decide_eq_true c4
     clear c4
     by_cases c5 : 0 ≤ x5_1
     ·rw [if_pos c5] at H
      have c5b0 : decide (0 ≤ x5_1) = true := decide_eq_true c5
      clear c5
      by_cases c6 : x5_1 < (l1.length : Int)
      ·rw [if_pos c6] at H
       have c6b0 : decide (x5_1 < (l1.length : Int)) = true := decide_eq_true c6
       clear c6
       by_cases c7 : (!(((rd_T39 l0 x5_1).f0) == ((rd_T39 l1 x5_1).f0)) || (!(((rd_T39 l0 x5_1).f1) == ((rd_T39 l1 x5_1).f1)) || (!(((rd_T39 l0 x5_1).f2) == ((rd_T39 l1 x5_1).f2))))) = true
       ·rw [if_pos c7] at H
        have c7b0 : (!(((rd_T39 l0 x5_1).f0) == ((rd_T39 l1 x5_1).f0)) || (!(((rd_T39 l0 x5_1).f1) == ((rd_T39 l1 x5_1).f1)) || (!(((rd_T39 l0 x5_1).f2) == ((rd_T39 l1 x5_1).f2))))) = true := c7
        clear c7
        obtain rfl := Option.some.inj H
        have p315 : 0 ≤ (x5_1 : Int) := of_decide_eq_true Z10
        have q315 : x5_1 < (l0.length : Int) := of_decide_eq_true Z10
        obtain ⟨ad315, e315, hx315_0, hx315_1, hx315_2⟩ := at_T39 HR0.out x5_1 p315 q315
        cases e315
        replace p315 := eq_true p315
        replace q315 := eq_true q315
        have p316 : 0 ≤ (x5_1 : Int) := of_decide_eq_true Z10
        have q316 : x5_1 < (l1.length : Int) := of_decide_eq_true Z10
        obtain ⟨ad316, e316, hx316_0, hx316_1, hx316_2⟩ := at_T39 HR1.out x5_1 p316 q316
        cases e316
        replace p316 := eq_true p316
        replace q316 := eq_true q316
        go_wp2
        repeat (go_quiet (fail); try go_wp2)
        go_ret
        exact ⟨Z14, Z36⟩
       ·rw [if_neg c7] at H
        have c7b0 : (!(((rd_T39 l0 x5_1).f0) == ((rd_T39 l1 x5_1).f0)) || (!(((rd_T39 l0 x5_1).f1) == ((rd_T39 l1 x5_1).f1)) || (!(((rd_T39 l0 x5_1).f2) == ((rd_T39 l1 x5_1).f2))))) = false := by simpa using c7
        clear c7
        have H' := Aside0.mk H
        clear H
        have p315 : 0 ≤ (x5_1 : Int) := of_decide_eq_true Z10
        have q315 : x5_1 < (l0.length : Int) := of_decide_eq_true Z10
        obtain ⟨ad315, e315, hx315_0, hx315_1, hx315_2⟩ := at_T39 HR0.out x5_1 p315 q315
        cases e315
        replace p315 := eq_true p315
        replace q315 := eq_true q315
        have p316 : 0 ≤ (x5_1 : Int) := of_decide_eq_true Z10
        have q316 : x5_1 < (l1.length : Int) := of_decide_eq_true Z10
        obtain ⟨ad316, e316, hx316_0, hx316_1, hx316_2⟩ := at_T39 HR1.out x5_1 p316 q316
        cases e316
        replace p316 := eq_true p316
        replace q316 := eq_true q316
        go_wp2
        repeat (go_quiet (fail); try go_wp2)
        go_roundg k1
        case measure => have := HK1.out; omega
        case rel => exact ⟨(wrap64 (x5_1 + 1)), Z14, H', ⟨Z35 HK1⟩, Z36⟩
      ·rw [if_neg c6] at H
       exact absurd H Z33
     ·rw [if_neg c5] at H
      exact absurd H Z33
    ·rw [if_neg c4] at H
     have c4b0 : decide (x5_1 < (l0.length : Int)) = false := decide_eq_false c4
     clear c4
     obtain rfl := Option.some.inj H
     go_wp2
     repeat (go_quiet (fail); try go_wp2)
     go_ret
     exact ⟨Z14, Z36⟩
 ·rw [if_neg c3] at H
  have c3b0 : ((l0.length : Int) == (l1.length : Int)) = false := beq_eq_false_iff_ne.mpr c3
  have c3b1 : ((l0.length : Int) != (l1.length : Int)) = true := bne_iff_ne.mpr c3
  have c3b2 : (l0.length == l1.length) = false := Z79
  obtain rfl := Option.some.inj H
  go_enter Tryz.func11, Tryz.ntmps11
  go_wp2
  repeat (go_quiet (fail); try go_wp2)
  go_ret
  exact ⟨Z14, Z36⟩

/-! ### spec_CustomersOk: function 49 (by hand) -/
theorem blk_new (W : World) (o : Obj) : (W.alloc o).heap[W.heap.size]? = some o := by unfold World.alloc; simp
theorem blk_alloc1 {W : World} {g : Nat} {o o' : Obj} (h : W.heap[g]? = some o) : (W.alloc o').heap[g]? = some o := ((below_alloc (Below.refl W.heap.size W) o').block _ (Array.getElem?_eq_some_iff.1 h).1).trans h
theorem size_alloc1 (W : World) (o : Obj) : (W.alloc o).heap.size = W.heap.size + 1 := by unfold World.alloc; simp
theorem res_put {W : World} {g : Nat} {a b x y : Value} {t : TypeId} (h : W.heap[g]? = some (.cells #[a, b] t (0, 0))) : ((W.setCell ⟨g, 0, none⟩ x).setCell ⟨g, 1, none⟩ y).heap[g]? = some (.cells #[x, y] t (0, 0)) := blk_put (cs := #[x, b]) (blk_put (cs := #[a, b]) h 0 _ rfl) 1 _ rfl
theorem k84_own {e base : Nat} {ok : Nat → Prop} {W : World} {v : Value} {xs : List S84} (h : k84.R e W base ok v xs) : k84.R e W base (fun k => v.ownBlock = some k) v xs := Kd.R_flat (fun h => by rw [k84_openM h]; exact k84_mkM _ _ _ _) h (fun k hk _ => hk)
/-- Rows of customers, each one's own, apart from each other by the mark f. -/
def ORows (W : World) (base : Nat) (ok : Nat → Prop) (f : Nat → Nat) (vs : List Value) (ls : List (List S84)) : Prop :=
  vs.length = ls.length ∧ ∀ j v l, vs[j]? = some v → ls[j]? = some l → Kd.R k84 84 W base (fun k => ok k ∧ f k = j) v l
/-- The cells of a row of rows. -/
def OCells (W : World) (base : Nat) (ok : Nat → Prop) (A : Option Addr) (vs : List Value) : Prop :=
  ∀ j v, vs[j]? = some v → ∃ ad, A = some ad ∧ W.cell? (ad.add j) = some v ∧ base ≤ ad.block ∧ ok ad.block ∧ ∃ cells, W.heap[ad.block]? = some (.cells cells 28 (0, 0))
/-- A desk whose rows are its own and apart; the row of rows is only read. -/
structure DOwn (W : World) (base : Nat) (ok : Nat → Prop) (A0 : Option Addr) (c0 : Nat) (l0 : List S84) (A1 : Option Addr) (c1 : Nat) (l1 : List (List S84)) (f : Nat → Nat) (vs : List Value) : Prop where
  rows : ORows W base ok f (.slice A0 l0.length c0 :: vs) (l0 :: l1)
  cells : OCells W base ok A1 vs
  le : l1.length ≤ c1
  max : l1.length ≤ 9223372036854775807
theorem ORows.step {W W' : World} {base : Nat} {ok : Nat → Prop} {f : Nat → Nat} {vs : List Value} {ls : List (List S84)} (h : ORows W base ok f vs ls) (hm : ∀ k, ok k → k < W.heap.size → W'.heap[k]? = W.heap[k]?) : ORows W' base ok f vs ls :=
  ⟨h.1, fun j v l hv hl => Kd.R_step (h.2 j v l hv hl) (fun k hk hlt => hm k hk.1 hlt)⟩
theorem OCells.step {W W' : World} {base : Nat} {ok : Nat → Prop} {A : Option Addr} {vs : List Value} (h : OCells W base ok A vs) (hm : ∀ k, ok k → k < W.heap.size → W'.heap[k]? = W.heap[k]?) : OCells W' base ok A vs := by
 intro j v hv
 obtain ⟨ad, rfl, hc, hb, ho, cells, hh⟩ := h j v hv
 have e := hm _ ho (blk_lt hh)
 refine ⟨ad, rfl, ?_, hb, ho, cells, e.trans hh⟩
 have hbk : (ad.add j).block = ad.block := by unfold Addr.add; split <;> rfl
 rw [← hc]
 unfold World.cell?
 rw [hbk, e]
theorem DOwn.step {W W' : World} {base : Nat} {ok : Nat → Prop} {A0 : Option Addr} {c0 : Nat} {l0 : List S84} {A1 : Option Addr} {c1 : Nat} {l1 : List (List S84)} {f : Nat → Nat} {vs : List Value} (h : DOwn W base ok A0 c0 l0 A1 c1 l1 f vs) (hm : ∀ k, ok k → k < W.heap.size → W'.heap[k]? = W.heap[k]?) : DOwn W' base ok A0 c0 l0 A1 c1 l1 f vs :=
  ⟨h.rows.step hm, h.cells.step hm, h.le, h.max⟩
theorem DOwn.below {W W' : World} {base : Nat} {ok : Nat → Prop} {A0 : Option Addr} {c0 : Nat} {l0 : List S84} {A1 : Option Addr} {c1 : Nat} {l1 : List (List S84)} {f : Nat → Nat} {vs : List Value} (h : DOwn W base ok A0 c0 l0 A1 c1 l1 f vs) (hb : Below W.heap.size W W') : DOwn W' base ok A0 c0 l0 A1 c1 l1 f vs := h.step (fun k _ hk => hb.block k hk)
theorem DOwn.mono {W : World} {base base' : Nat} {ok ok' : Nat → Prop} {A0 : Option Addr} {c0 : Nat} {l0 : List S84} {A1 : Option Addr} {c1 : Nat} {l1 : List (List S84)} {f : Nat → Nat} {vs : List Value} (h : DOwn W base ok A0 c0 l0 A1 c1 l1 f vs) (hok : ∀ k, base ≤ k → k < W.heap.size → ok k → ok' k) (hb : base' ≤ base) : DOwn W base' ok' A0 c0 l0 A1 c1 l1 f vs :=
 ⟨⟨h.rows.1, fun j v l hv hl => Kd.R_lower (Kd.R_mono (Kd.R_bound (h.rows.2 j v l hv hl)) (fun k hk => ⟨hok k hk.2.1 hk.2.2.1 hk.1.1, hk.1.2⟩)) hb⟩, fun j v hv => by
  obtain ⟨ad, e, hc, hbb, ho, cells, hh⟩ := h.cells j v hv
  exact ⟨ad, e, hc, Nat.le_trans hb hbb, hok _ hbb (blk_lt hh) ho, cells, hh⟩, h.le, h.max⟩
theorem DOwn.r0 {W : World} {base : Nat} {ok : Nat → Prop} {A0 : Option Addr} {c0 : Nat} {l0 : List S84} {A1 : Option Addr} {c1 : Nat} {l1 : List (List S84)} {f : Nat → Nat} {vs : List Value} (h : DOwn W base ok A0 c0 l0 A1 c1 l1 f vs) : Kd.C k84 W A0 l0.length l0 := (Kd.R_reads' (h.rows.2 0 _ _ rfl rfl)).2.2
theorem DOwn.h0 {W : World} {base : Nat} {ok : Nat → Prop} {A0 : Option Addr} {c0 : Nat} {l0 : List S84} {A1 : Option Addr} {c1 : Nat} {l1 : List (List S84)} {f : Nat → Nat} {vs : List Value} (h : DOwn W base ok A0 c0 l0 A1 c1 l1 f vs) : l0.length ≤ c0 := (Kd.R_reads' (h.rows.2 0 _ _ rfl rfl)).2.1
theorem DOwn.r1 {W : World} {base : Nat} {ok : Nat → Prop} {A0 : Option Addr} {c0 : Nat} {l0 : List S84} {A1 : Option Addr} {c1 : Nat} {l1 : List (List S84)} {f : Nat → Nat} {vs : List Value} (h : DOwn W base ok A0 c0 l0 A1 c1 l1 f vs) : Kd.C (Kd.slice 84 k84) W A1 l1.length l1 := by
 have hlen : vs.length = l1.length := by have := h.rows.1; simpa using this
 refine ⟨rfl, h.max, fun hp => ?_⟩
 obtain ⟨ad, hA, _⟩ := h.cells 0 (vs[0]'Z32) (List.getElem?_eq_getElem Z32)
 refine ⟨ad, hA, fun j p hj => ?_⟩
 have hjl : j < l1.length := (List.getElem?_eq_some_iff.1 hj).1
 have hv : vs[j]? = some (vs[j]'Z32) := List.getElem?_eq_getElem Z32
 obtain ⟨ad', hA', hc, _⟩ := h.cells j _ hv
 rw [hA] at hA'
 obtain rfl := Option.some.inj hA'
 have hR := h.rows.2 (j + 1) _ p (show vs[j]? = some (vs[j]'Z32) from hv) (show l1[j]? = some p from hj)
 refine ⟨[vs[j]'Z32], rfl, ?_, fun i u hi => ?_⟩
 ·obtain ⟨A, c, e⟩ := Kd.R_slice hR
  rw [e] at hR ⊢
  exact ⟨A, c, rfl, (Kd.R_reads' hR).2.1, (Kd.R_reads' hR).2.2⟩
 ·cases i with
  | zero =>
   obtain rfl := Option.some.inj (show some _ = some u from hi)
   rw [show (Kd.slice 84 k84).sz = 1 from rfl, Nat.mul_one, Nat.add_zero]
   exact hc
  | succ i => simp at hi
/-- What is made at one go: a row and a row of rows. -/
theorem DOwn.of_S {W : World} {base : Nat} {ok : Nat → Prop} {A0 : Option Addr} {c0 : Nat} {l0 : List S84} {A1 : Option Addr} {c1 : Nat} {l1 : List (List S84)} (h0 : Kd.R k84 84 W base ok (.slice A0 l0.length c0) l0) (h1 : Kd.S (Kd.slice 84 k84) 28 W base (fun k => ok k ∧ some k ≠ (Value.slice A0 l0.length c0).ownBlock) (.slice A1 l1.length c1) l1) : ∃ f vs, DOwn W base ok A0 c0 l0 A1 c1 l1 f vs := by
 have hrd := Kd.S_reads' h1
 obtain ⟨f, hk1, inner, ho, hr⟩ := h1
 rw [List.length_zipIdx] at ho
 have hlen : inner.length = l1.length := by
  have := hr.1
  rw [List.length_zipIdx, show (Kd.tag f (Kd.slice 84 k84)).sz = 1 from rfl, Nat.mul_one] at this
  exact this
 have hrow : ∀ j v l, inner[j]? = some v → l1[j]? = some l → Kd.R k84 84 W base (fun k => (ok k ∧ some k ≠ (Value.slice A0 l0.length c0).ownBlock) ∧ f k = j) v l := by
  intro j v l hv hl
  obtain ⟨u, hu, hR⟩ := hr.2 j (l, j) (Kd.zip_at hl)
  rw [show (Kd.tag f (Kd.slice 84 k84)).sz = 1 from rfl, Nat.mul_one] at hu
  have hd : (inner.drop j).take 1 = [v] := by
   have hj := (List.getElem?_eq_some_iff.1 hv).1
   rw [List.drop_eq_getElem_cons hj, (List.getElem?_eq_some_iff.1 hv).2]
   simp
  rw [hd] at hu
  obtain rfl := (List.cons.inj hu).1
  exact Kd.R_mono hR (fun k hk => ⟨hk.1.1, hk.2⟩)
 refine ⟨fun k => if some k = (Value.slice A0 l0.length c0).ownBlock then 0 else f k + 1, inner, ⟨by simp [hlen], fun j v l hv hl => ?_⟩, fun j v hv => ?_, hrd.2.1, Kd.C_max hrd.2.2⟩
 ·cases j with
  | zero =>
   obtain rfl := Option.some.inj (show some _ = some v from hv)
   obtain rfl := Option.some.inj (show some _ = some l from hl)
   exact Kd.R_flat (fun h => by rw [k84_openM h]; exact k84_mkM _ _ _ _) h0 (fun k hk ho => ⟨ho, if_pos hk.symm⟩)
  | succ j =>
   refine Kd.R_mono (hrow j v l (by simpa using hv) (by simpa using hl)) (fun k hk => ⟨hk.1.1, ?_⟩)
   show (if some k = (Value.slice A0 l0.length c0).ownBlock then 0 else f k + 1) = j + 1
   rw [if_neg hk.1.2, hk.2]
 ·have hj := (List.getElem?_eq_some_iff.1 hv).1
  obtain ⟨g, cap, e, hb, hlt⟩ := ho.form Z32
  injection e with e1 e2 e3
  subst e1 e3
  obtain ⟨cells, hcells⟩ := own_typed ho g rfl
  refine ⟨⟨g, 0, none⟩, rfl, ?_, hb, (hk1 g rfl).1, cells, hcells⟩
  have := ho.cells (g := g) rfl j v hv
  exact this
/-- No row at all. -/
theorem DOwn.none (W : World) (base : Nat) (ok : Nat → Prop) : DOwn W base ok none 0 [] none 0 [] (fun _ => 0) [] :=
 ⟨⟨rfl, fun j v l hv hl => by
  cases j with
  | zero =>
   obtain rfl := Option.some.inj (show some _ = some v from hv)
   obtain rfl := Option.some.inj (show some _ = some l from hl)
   exact Kd.R_nil _ _ _ _ _
  | succ j => simp at hl⟩, fun j v hv => by simp at hv, Nat.le_refl _, Z33⟩
/-- The last row of before is put in the place of the first row. -/
theorem DOwn.back {W : World} {base : Nat} {ok : Nat → Prop} {A0 : Option Addr} {c0 : Nat} {l0 : List S84} {A1 : Option Addr} {c1 : Nat} {l1 : List (List S84)} {f : Nat → Nat} {vs : List Value} (h : DOwn W base ok A0 c0 l0 A1 c1 l1 f vs) {n : Nat} (hn : n + 1 = l1.length) {Ae : Option Addr} {ce : Nat} {l : List S84} (hl : l1[n]? = some l) (hv : vs[n]? = some (.slice Ae l.length ce)) (c2 : Nat) (hc2 : n ≤ c2) : ∃ f', DOwn W base ok Ae ce l A1 c2 (l1.take n) f' (vs.take n) := by
 have hlen : vs.length = l1.length := by have := h.rows.1; simpa using this
 refine ⟨fun k => if f k = n + 1 then 0 else f k, ⟨by simp [hlen], fun j v x hv' hx => ?_⟩, fun j v hv' => ?_, by rw [List.length_take]; omega, by rw [List.length_take]; have := h.max; omega⟩
 ·cases j with
  | zero =>
   obtain rfl := Option.some.inj (show some _ = some v from hv')
   obtain rfl := Option.some.inj (show some _ = some x from hx)
   exact Kd.R_mono (h.rows.2 (n + 1) _ l (by simpa using hv) (by simpa using hl)) (fun k hk => ⟨hk.1, if_pos hk.2⟩)
  | succ j =>
   simp only [List.getElem?_cons_succ, List.getElem?_take] at hv' hx
   split at hv'
   ·rename_i hj
    rw [if_pos hj] at hx
    refine Kd.R_mono (h.rows.2 (j + 1) v x (by simpa using hv') (by simpa using hx)) (fun k hk => ⟨hk.1, ?_⟩)
    show (if f k = n + 1 then 0 else f k) = j + 1
    rw [if_neg Z32, hk.2]
   ·cases hv'
 ·rw [List.getElem?_take] at hv'
  split at hv'
  ·exact h.cells j v hv'
  ·cases hv'
theorem ORows.put {W W' : World} {base : Nat} {ok ok' : Nat → Prop} {f : Nat → Nat} {vs : List Value} {ls : List (List S84)} {j : Nat} {u : Value} {y : List S84} (h : ORows W base ok f vs ls) (hv : vs[j]? = some u) (hy : Kd.R k84 84 W' base ok' u y) (hk : Kept W W' (fun k => some k = u.ownBlock)) : ORows W' base ok f vs (ls.set j y) := by
 have hjl : j < ls.length := by have := (List.getElem?_eq_some_iff.1 hv).1; have := h.1; omega
 have hj := h.2 j u _ hv (List.getElem?_eq_getElem hjl)
 refine ⟨by rw [h.1]; simp, fun i v l hvi hli => ?_⟩
 by_cases hij : i = j
 ·subst hij
  rw [hv] at hvi
  obtain rfl := Option.some.inj hvi
  rw [List.getElem?_set_self hjl] at hli
  obtain rfl := Option.some.inj hli
  exact Kd.R_flat (fun h => by rw [k84_openM h]; exact k84_mkM _ _ _ _) hy (fun k hk _ => hj.1 k hk)
 ·rw [List.getElem?_set_ne (fun e => hij e.symm)] at hli
  refine Kd.R_step (h.2 i v l hvi hli) (fun k hok hlt => hk.2 k hlt (fun e => hij ?_))
  exact hok.2.symm.trans (hj.1 k e.symm).2
theorem OCells.put {W W' : World} {base : Nat} {ok : Nat → Prop} {A : Option Addr} {vs : List Value} {b : Nat} {okp : Nat → Prop} {u : Value} {x : List S84} (h : OCells W base ok A vs) (hu : Kd.R k84 84 W b okp u x) (hk : Kept W W' (fun k => some k = u.ownBlock)) : OCells W' base ok A vs := by
 intro j v hv
 obtain ⟨ad, rfl, hc, hb, ho, cells, hh⟩ := h j v hv
 have e := hk.2 _ (blk_lt hh) (fun e => by
  obtain ⟨cs, hcs⟩ := Kd.R_typed hu _ e.symm
  rw [hh] at hcs
  injection hcs with hcs
  injection hcs with _ ht
  exact absurd ht Z28)
 refine ⟨ad, rfl, ?_, hb, ho, cells, e.trans hh⟩
 have hbk : (ad.add j).block = ad.block := by unfold Addr.add; split <;> rfl
 rw [← hc]
 unfold World.cell?
 rw [hbk, e]
def inP (a lo hi : Int) : Bool := decide (lo ≤ a ∧ a ≤ hi)
theorem spec_l1In.is (a lo hi : Int) : spec_l1In.f a lo hi = some (inP a lo hi) := by
 unfold spec_l1In.f inP
 by_cases h : a ≥ lo
 ·rw [if_pos h]; congr 1; rw [decide_eq_decide]; omega
 ·rw [if_neg h]; exact congrArg some (decide_eq_false Z32).symm
def spec_CustomersOk.l0 : Nat → List S84 → Nat → Option Bool
  | 0, _, _ => none
  | k + 1, l, i => if i < l.length then
      (if inP (rd_T84 l (i : Int)).f0 0 60 = true ∧ inP (rd_T84 l (i : Int)).f1 1 9 = true ∧ (0 < i → ¬ (rd_T84 l (i : Int)).f0 < (rd_T84 l ((i : Int) - 1)).f0) then spec_CustomersOk.l0 k l (i + 1) else some false)
    else some (decide (l.length ≤ 8))
def spec_CustomersOk.f (k : Nat) (l0 : List S84) : Option Bool := spec_CustomersOk.l0 k l0 0
set_option maxHeartbeats 8000000 in
theorem spec_CustomersOk.calls (k : Nat) (A0 : Option Addr) (c0 : Nat) (l0 : List S84) (r : Bool) (w : World) (hr0 : Kd.C k84 w A0 l0.length l0) (hc0 : l0.length ≤ c0) (h : spec_CustomersOk.f k l0 = some r) :
 Calls Tryz.prog 49 #[.slice A0 l0.length c0] w fun e w' => e = .returned (.bool r) ∧ Below w.heap.size w w' := by
 have hu84 := Tryz.underlying84
 have HR0 := Aside0.mk hr0
 have HC0 := Aside0.mk hc0
 have H' := Aside0.mk (show spec_CustomersOk.l0 k l0 0 = some r from h)
 have HL := Aside0.mk (Kd.C_max hr0)
 clear hr0 hc0 h
 go_enter Tryz.func49, Tryz.ntmps49
 go_wp2
 go_loopg [3] k (fun kq v3 w' => ∃ (i : Nat) (xi : Int), v3 = .int .i64 xi ∧ Aside0 (xi = (i : Int)) ∧ Aside0 (spec_CustomersOk.l0 kq l0 i = some r) ∧ Aside0 (kq ≤ k) ∧ Aside0 (∃ n, w' = w.drewN n))
 case atStart => exact ⟨0, 0, rfl, ⟨rfl⟩, H', ⟨Nat.le_refl _⟩, ⟨0, rfl⟩⟩
 case round =>
  clear H'
  obtain ⟨i, xi, rfl, HX, HA, HK1, HD⟩ := hrel
  cases gk with
  | zero => exact absurd HA.out (by simp [spec_CustomersOk.l0])
  | succ k1 =>
   have H := HA.out
   clear HA
   simp only [spec_CustomersOk.l0] at H
   by_cases c : i < l0.length
   ·rw [if_pos c] at H
    have hx := HX.out
    have c3 : decide (xi < (l0.length : Int)) = true := decide_eq_true Z32
    have p1 : (0 ≤ xi) := Z32
    have q1 : xi < (l0.length : Int) := Z32
    obtain ⟨n, rfl⟩ := HD.out
    obtain ⟨ad, e, hx0, hx1⟩ := at_T84 HR0.out xi p1 q1
    cases e
    rw [← hx] at H
    have h1 := spec_l1In.is (rd_T84 l0 xi).f0 0 60
    have h2 := spec_l1In.is (rd_T84 l0 xi).f1 1 9
    have P1 := eq_true p1
    have Q1 := eq_true q1
    have HC := Aside0.mk c
    clear hx c
    by_cases b1 : inP (rd_T84 l0 xi).f0 0 60 = true
    ·rw [b1] at h1
     have H1 := Aside0.mk h1
     by_cases b2 : inP (rd_T84 l0 xi).f1 1 9 = true
     ·rw [b2] at h2
      have H2 := Aside0.mk h2
      clear h1 h2
      by_cases b3 : 0 < i
      ·have hx := HX.out
       have hc := HC.out
       have hl := HL.out
       have c4 : decide (0 < xi) = true := decide_eq_true Z32
       obtain ⟨ji, hj⟩ : ∃ j : Int, xi - 1 = j := ⟨_, rfl⟩
       have pw : IntKind.i64.wrap (xi - 1) = ji := Z75
       have p2 : (0 ≤ ji) := Z32
       have q2 : ji < (l0.length : Int) := Z32
       rw [hj] at H
       obtain ⟨ad2, e, hy0, hy1⟩ := at_T84 HR0.out ji p2 q2
       cases e
       have P2 := eq_true p2
       have Q2 := eq_true q2
       clear hc hl p1 q1 p2 q2 hj
       by_cases b4 : (rd_T84 l0 xi).f0 < (rd_T84 l0 ji).f0
       ·rw [if_neg (fun h => h.2.2 b3 b4)] at H
        obtain rfl := Option.some.inj H
        have c5 : decide ((rd_T84 l0 xi).f0 < (rd_T84 l0 ji).f0) = true := decide_eq_true b4
        clear H b3 b4 b1 b2 hx
        go_wp2_with (fail)
        go_quiet (first | (go_at_call 94; (with_reducible refine (spec_l1In.calls (rd_T84 l0 xi).f0 0 60 true _ H1.out).mono ?_); rintro e w' ⟨rfl, ⟨nd, rfl⟩⟩; first | exact ⟨rfl, _, World.drewN_drewN _ _ _⟩ | exact ⟨rfl, _, Eq.trans (World.drewN_drewN _ _ _) (congrArg (World.drewN _) (Nat.add_assoc _ _ _))⟩) | (go_at_call 94; (with_reducible refine (spec_l1In.calls (rd_T84 l0 xi).f1 1 9 true _ H2.out).mono ?_); rintro e w' ⟨rfl, ⟨nd, rfl⟩⟩; first | exact ⟨rfl, _, World.drewN_drewN _ _ _⟩ | exact ⟨rfl, _, Eq.trans (World.drewN_drewN _ _ _) (congrArg (World.drewN _) (Nat.add_assoc _ _ _))⟩))
        go_wp2
        go_ret
        exact ⟨rfl, Z68⟩
       ·rw [if_pos ⟨b1, b2, fun _ => b4⟩] at H
        have HN := Aside0.mk H
        have c5 : decide ((rd_T84 l0 xi).f0 < (rd_T84 l0 ji).f0) = false := decide_eq_false b4
        clear H b3 b4 b1 b2 hx
        go_wp2_with (fail)
        go_quiet (first | (go_at_call 94; (with_reducible refine (spec_l1In.calls (rd_T84 l0 xi).f0 0 60 true _ H1.out).mono ?_); rintro e w' ⟨rfl, ⟨nd, rfl⟩⟩; first | exact ⟨rfl, _, World.drewN_drewN _ _ _⟩ | exact ⟨rfl, _, Eq.trans (World.drewN_drewN _ _ _) (congrArg (World.drewN _) (Nat.add_assoc _ _ _))⟩) | (go_at_call 94; (with_reducible refine (spec_l1In.calls (rd_T84 l0 xi).f1 1 9 true _ H2.out).mono ?_); rintro e w' ⟨rfl, ⟨nd, rfl⟩⟩; first | exact ⟨rfl, _, World.drewN_drewN _ _ _⟩ | exact ⟨rfl, _, Eq.trans (World.drewN_drewN _ _ _) (congrArg (World.drewN _) (Nat.add_assoc _ _ _))⟩))
        go_wp2
        go_roundg k1
        case measure => have := HK1.out; omega
        case rel => exact ⟨i + 1, wrap64 (xi + 1), Z14, ⟨by have h1 := HX.out; have h2 := HC.out; have h3 := HL.out; rw [h1]; unfold wrap64; omega⟩, HN, ⟨Z35 HK1⟩, ⟨_, by first | rfl | exact World.drewN_drewN _ _ _⟩⟩
      ·rw [if_pos ⟨b1, b2, fun h => absurd h b3⟩] at H
       have HN := Aside0.mk H
       have c4 : decide (0 < xi) = false := decide_eq_false (Z35 HX)
       clear H b3 b1 b2 p1 q1
       go_wp2_with (fail)
       go_quiet (first | (go_at_call 94; (with_reducible refine (spec_l1In.calls (rd_T84 l0 xi).f0 0 60 true _ H1.out).mono ?_); rintro e w' ⟨rfl, ⟨nd, rfl⟩⟩; first | exact ⟨rfl, _, World.drewN_drewN _ _ _⟩ | exact ⟨rfl, _, Eq.trans (World.drewN_drewN _ _ _) (congrArg (World.drewN _) (Nat.add_assoc _ _ _))⟩) | (go_at_call 94; (with_reducible refine (spec_l1In.calls (rd_T84 l0 xi).f1 1 9 true _ H2.out).mono ?_); rintro e w' ⟨rfl, ⟨nd, rfl⟩⟩; first | exact ⟨rfl, _, World.drewN_drewN _ _ _⟩ | exact ⟨rfl, _, Eq.trans (World.drewN_drewN _ _ _) (congrArg (World.drewN _) (Nat.add_assoc _ _ _))⟩))
       go_wp2
       go_roundg k1
       case measure => have := HK1.out; omega
       case rel => exact ⟨i + 1, wrap64 (xi + 1), Z14, ⟨by have h1 := HX.out; have h2 := HC.out; have h3 := HL.out; rw [h1]; unfold wrap64; omega⟩, HN, ⟨Z35 HK1⟩, ⟨_, by first | rfl | exact World.drewN_drewN _ _ _⟩⟩
     ·rw [Bool.eq_false_iff.mpr b2] at h2
      have H2 := Aside0.mk h2
      rw [if_neg (fun h => b2 h.2.1)] at H
      obtain rfl := Option.some.inj H
      clear h1 h2 H b1 b2 p1 q1
      go_wp2_with (fail)
      go_quiet (first | (go_at_call 94; (with_reducible refine (spec_l1In.calls (rd_T84 l0 xi).f0 0 60 true _ H1.out).mono ?_); rintro e w' ⟨rfl, ⟨nd, rfl⟩⟩; first | exact ⟨rfl, _, World.drewN_drewN _ _ _⟩ | exact ⟨rfl, _, Eq.trans (World.drewN_drewN _ _ _) (congrArg (World.drewN _) (Nat.add_assoc _ _ _))⟩) | (go_at_call 94; (with_reducible refine (spec_l1In.calls (rd_T84 l0 xi).f1 1 9 false _ H2.out).mono ?_); rintro e w' ⟨rfl, ⟨nd, rfl⟩⟩; first | exact ⟨rfl, _, World.drewN_drewN _ _ _⟩ | exact ⟨rfl, _, Eq.trans (World.drewN_drewN _ _ _) (congrArg (World.drewN _) (Nat.add_assoc _ _ _))⟩))
      go_wp2
      go_ret
      exact ⟨rfl, Z68⟩
    ·rw [Bool.eq_false_iff.mpr b1] at h1
     have H1 := Aside0.mk h1
     rw [if_neg (fun h => b1 h.1)] at H
     obtain rfl := Option.some.inj H
     clear h1 h2 H b1 p1 q1
     go_wp2_with (fail)
     go_quiet (first | (go_at_call 94; (with_reducible refine (spec_l1In.calls (rd_T84 l0 xi).f0 0 60 false _ H1.out).mono ?_); rintro e w' ⟨rfl, ⟨nd, rfl⟩⟩; first | exact ⟨rfl, _, World.drewN_drewN _ _ _⟩ | exact ⟨rfl, _, Eq.trans (World.drewN_drewN _ _ _) (congrArg (World.drewN _) (Nat.add_assoc _ _ _))⟩))
     go_wp2
     go_ret
     exact ⟨rfl, Z68⟩
   ·rw [if_neg c] at H
    obtain rfl := Option.some.inj H
    have hx := HX.out
    have c3 : decide (xi < (l0.length : Int)) = false := decide_eq_false Z32
    have c5 : decide ((l0.length : Int) ≤ 8) = decide (l0.length ≤ 8) := by rw [decide_eq_decide]; omega
    obtain ⟨n, rfl⟩ := HD.out
    clear hx c H
    go_wp2
    go_ret
    exact ⟨by first | rfl | (simp; omega), pw_below_drewN (Below.refl _ _) _⟩

/-! ### spec_DeskOk: function 13 -/
def spec_DeskOk.l0 : Nat → Int → List (S84) → List (List (S84)) → Option (Bool)
  | 0, _, _, _ => none
  | k + 1, x3, x318000, x318001 => if x3 < (x318001.length : Int) then (if 0 ≤ x3 then ((spec_CustomersOk.f k (rd_L5 x318001 x3)).bind fun t319 => (if t319 = true then (spec_DeskOk.l0 k (wrap64 (x3 + 1)) x318000 x318001) else (some false))) else (none)) else ((spec_CustomersOk.f k x318000).bind fun t320 => (if t320 = true then (some (decide ((x318001.length : Int) ≤ 8))) else (some false)))
def spec_DeskOk.f (k : Nat) (l0_0 : List (S84)) (l0_1 : List (List (S84))) : Option (Bool) := spec_DeskOk.l0 k 0 l0_0 l0_1
set_option maxHeartbeats 8000000 in
set_option maxRecDepth 100000 in
theorem spec_DeskOk.calls (k : Nat) (A0_0 : Option Addr) (c0_0 : Nat) (l0_0 : List (S84)) (A0_1 : Option Addr) (c0_1 : Nat) (l0_1 : List (List (S84))) (r : Bool) (w : World) (hr0_0 : Kd.C k84 w A0_0 l0_0.length l0_0) (hc0_0 : l0_0.length ≤ c0_0) (hr0_1 : Kd.C (Kd.slice 84 k84) w A0_1 l0_1.length l0_1) (hc0_1 : l0_1.length ≤ c0_1) (h : spec_DeskOk.f k l0_0 l0_1 = some r) :
 Calls Tryz.prog 13 #[.agg #[.slice A0_0 l0_0.length c0_0, .slice A0_1 l0_1.length c0_1]] w fun e w' => e = .returned (.bool r) ∧ Below w.heap.size w w' := by
 have hu31 := Tryz.underlying31
 have HR0_0 := Aside0.mk hr0_0
 have HC0_0 := Aside0.mk hc0_0
 clear hr0_0 hc0_0
 have HR0_1 := Aside0.mk hr0_1
 have HC0_1 := Aside0.mk hc0_1
 clear hr0_1 hc0_1
 have HB := Aside0.mk (Below.refl w.heap.size w)
 have H : (spec_DeskOk.l0 k 0 l0_0 l0_1) = some r := h
 clear h
 have H' := Aside0.mk H
 clear H
 go_enter Tryz.func13, Tryz.ntmps13
 go_wp2_with (first | ((with_reducible refine gate_dst (N := 1) rfl ?_); (try (refine gate_guard Z90 ?_; dsimp only)); refine bE_ 1 #[.slice A0_0 l0_0.length c0_0, .slice A0_1 l0_1.length c0_1] 31 ?_; intro gb317 hg w2 hbox hb; have BK317 := Aside0.mk (hbox); have GW317 := Aside0.mk ((by rw [hg]; exact (below_size (Z0 HB)) : w.heap.size ≤ gb317)); have GE317 := Aside0.mk ((by rw [hg]; exact (below_size (Z0 HB)) : w.heap.size ≤ gb317)); replace HB := Aside0.mk (below_step (Z0 HB) hb); clear hb hbox hg))
 go_loopg [3] k (fun kq v3 w' => ∃ (x3_1 : Int), v3 = .int .i64 x3_1 ∧ Aside0 (spec_DeskOk.l0 kq x3_1 l0_0 l0_1 = some r) ∧ Aside0 (kq ≤ k) ∧ Aside0 (w'.heap[gb317]? = some (.cells #[(.slice A0_0 l0_0.length c0_0), (.slice A0_1 l0_1.length c0_1)] 31 (0, 0))) ∧ Aside0 (Below w.heap.size w w'))
 case atStart => exact ⟨(0), Z14, H', ⟨Nat.le_refl _⟩, ⟨Z2 BK317⟩, ⟨Z1 HB GE317⟩⟩
 case round =>
  clear H'
  try clear c1
  try clear p2
  obtain ⟨x3_1, rfl, HA, HK1, BK317, HB⟩ := hrel
  cases gk with
  | zero => exact absurd HA.out (by simp [spec_DeskOk.l0])
  | succ k1 =>
   have H := HA.out
   clear HA
   simp only [spec_DeskOk.l0] at H
   by_cases c3 : x3_1 < (l0_1.length : Int)
   ·rw [if_pos c3] at H
    have c3b0 : decide (x3_1 < (l0_1.length : Int)) = true := decide_eq_true c3
    clear c3
    by_cases c4 : 0 ≤ x3_1
    ·rw [if_pos c4] at H
     have c4b0 : decide (0 ≤ x3_1) = true := decide_eq_true c4
     clear c4
     replace H := Option.bind_eq_some_iff.mp H
     obtain ⟨t319, A50, H⟩ := H
     replace H : (if t319 = true then (spec_DeskOk.l0 k1 (wrap64 (x3_1 + 1)) l0_0 l0_1) else (some false)) = some r := H
     have A5 := Aside0.mk A50
     clear A50
     by_cases c6 : t319 = true
     ·subst c6
      have H1 : (spec_DeskOk.l0 k1 (wrap64 (x3_1 + 1)) l0_0 l0_1) = some r := Z37
      clear H
      have H := H1
      clear H1
      have H' := Aside0.mk H
      clear H
      have hcz7_0 : wr.cell? ⟨gb317, 0, none⟩ = some (.slice A0_0 l0_0.length c0_0) := (blk_cell BK317.out 0).trans rfl
      have hcz7_1 : wr.cell? ⟨gb317, 1, none⟩ = some (.slice A0_1 l0_1.length c0_1) := (blk_cell BK317.out 1).trans rfl
      have hfz7_0 := blk_frozen BK317.out 0
      have hfz7_1 := blk_frozen BK317.out 1
      have p318 : 0 ≤ (x3_1 : Int) := of_decide_eq_true Z10
      have q318 : x3_1 < (l0_1.length : Int) := of_decide_eq_true Z10
      obtain ⟨ad318, A318_0, c318_0, e318, hx318_0, hl318_0, hi318_0⟩ := at_L5 HR0_1.out x3_1 p318 q318
      cases e318
      replace hx318_0 := (HB.out.cell (World.block_lt_of_cell? w _ hx318_0)).trans hx318_0
      have HR318_0 := Aside0.mk hi318_0
      have HC318_0 := Aside0.mk hl318_0
      clear hi318_0 hl318_0
      replace p318 := eq_true p318
      replace q318 := eq_true q318
      go_wp2_with (first | ((with_reducible refine gate_callee (f := 49) rfl ?_); refine gL_ 16 Tryz.func49 #[.slice A318_0 (rd_L5 l0_1 x3_1).length c318_0] ?_; (with_reducible refine (spec_CustomersOk.calls k1 _ _ (rd_L5 l0_1 x3_1) true _ ?side1 ?side2 A5.out).mono ?_); (case side1 => exact Z9 HR318_0 HB); (case side2 => exact HC318_0.out); rintro e w8 ⟨rfl, hb⟩; refine ⟨_, rfl, ?_⟩; replace BK317 := Aside0.mk (blk_below (g := gb317) (o := .cells #[.slice A0_0 l0_0.length c0_0, .slice (some ad318) l0_1.length c0_1] 31 (0, 0)) (Z2 BK317) hb); replace HB := Aside0.mk (below_step (Z1 HB GE317) hb); (try clear hb)))
      go_roundg k1
      case measure => have := HK1.out; omega
      case rel => exact ⟨(wrap64 (x3_1 + 1)), Z14, H', ⟨Z35 HK1⟩, ⟨Z2 BK317⟩, ⟨Z1 HB GE317⟩⟩
     ·replace c6 := Bool.eq_false_iff.mpr c6
      subst c6
      have H1 : (some false) = some r := Z24
      clear H
      have H := H1
      clear H1
      obtain rfl := Option.some.inj H
      have hcz9_0 : wr.cell? ⟨gb317, 0, none⟩ = some (.slice A0_0 l0_0.length c0_0) := (blk_cell BK317.out 0).trans rfl
      have hcz9_1 : wr.cell? ⟨gb317, 1, none⟩ = some (.slice A0_1 l0_1.length c0_1) := (blk_cell BK317.out 1).trans rfl
      have hfz9_0 := blk_frozen BK317.out 0
      have hfz9_1 := blk_frozen BK317.out 1
      have p318 : 0 ≤ (x3_1 : Int) := of_decide_eq_true Z10
      have q318 : x3_1 < (l0_1.length : Int) := of_decide_eq_true Z10
      obtain ⟨ad318, A318_0, c318_0, e318, hx318_0, hl318_0, hi318_0⟩ := at_L5 HR0_1.out x3_1 p318 q318
      cases e318
      replace hx318_0 := (HB.out.cell (World.block_lt_of_cell? w _ hx318_0)).trans hx318_0
      have HR318_0 := Aside0.mk hi318_0
      have HC318_0 := Aside0.mk hl318_0
      clear hi318_0 hl318_0
      replace p318 := eq_true p318
      replace q318 := eq_true q318
      go_wp2_with (first | ((with_reducible refine gate_callee (f := 49) rfl ?_); refine gL_ 16 Tryz.func49 #[.slice A318_0 (rd_L5 l0_1 x3_1).length c318_0] ?_; (with_reducible refine (spec_CustomersOk.calls k1 _ _ (rd_L5 l0_1 x3_1) false _ ?side1 ?side2 A5.out).mono ?_); (case side1 => exact Z9 HR318_0 HB); (case side2 => exact HC318_0.out); rintro e w10 ⟨rfl, hb⟩; refine ⟨_, rfl, ?_⟩; replace BK317 := Aside0.mk (blk_below (g := gb317) (o := .cells #[.slice A0_0 l0_0.length c0_0, .slice (some ad318) l0_1.length c0_1] 31 (0, 0)) (Z2 BK317) hb); replace HB := Aside0.mk (below_step (Z1 HB GE317) hb); (try clear hb)))
      go_ret
      exact ⟨Z11, Z1 HB GE317⟩
    ·rw [if_neg c4] at H
     exact absurd H Z33
   ·rw [if_neg c3] at H
    have c3b0 : decide (x3_1 < (l0_1.length : Int)) = false := decide_eq_false c3
    clear c3
    replace H := Option.bind_eq_some_iff.mp H
    obtain ⟨t320, A110, H⟩ := H
    replace H : (if t320 = true then (some (decide ((l0_1.length : Int) ≤ 8))) else (some false)) = some r := H
    have A11 := Aside0.mk A110
    clear A110
    by_cases c12 : t320 = true
    ·subst c12
     have H1 : (some (decide ((l0_1.length : Int) ≤ 8))) = some r := Z37
     clear H
     have H := H1
     clear H1
     obtain rfl := Option.some.inj H
     have hcz13_0 : wr.cell? ⟨gb317, 0, none⟩ = some (.slice A0_0 l0_0.length c0_0) := (blk_cell BK317.out 0).trans rfl
     have hcz13_1 : wr.cell? ⟨gb317, 1, none⟩ = some (.slice A0_1 l0_1.length c0_1) := (blk_cell BK317.out 1).trans rfl
     have hfz13_0 := blk_frozen BK317.out 0
     have hfz13_1 := blk_frozen BK317.out 1
     go_wp2_with (first | ((with_reducible refine gate_callee (f := 49) rfl ?_); refine gL_ 20 Tryz.func49 #[.slice A0_0 l0_0.length c0_0] ?_; (with_reducible refine (spec_CustomersOk.calls k1 _ _ l0_0 true _ ?side1 ?side2 A11.out).mono ?_); (case side1 => exact Z9 HR0_0 HB); (case side2 => exact HC0_0.out); rintro e w14 ⟨rfl, hb⟩; refine ⟨_, rfl, ?_⟩; replace BK317 := Aside0.mk (blk_below (g := gb317) (o := .cells #[.slice A0_0 l0_0.length c0_0, .slice A0_1 l0_1.length c0_1] 31 (0, 0)) (Z2 BK317) hb); replace HB := Aside0.mk (below_step (Z1 HB GE317) hb); (try clear hb); (try clear hb2); (try clear hk); (try clear hi); have hcz15_0 : w14.cell? ⟨gb317, 0, none⟩ = some (.slice A0_0 l0_0.length c0_0) := (blk_cell BK317.out 0).trans rfl; have hcz15_1 : w14.cell? ⟨gb317, 1, none⟩ = some (.slice A0_1 l0_1.length c0_1) := (blk_cell BK317.out 1).trans rfl; have hfz15_0 := blk_frozen BK317.out 0; have hfz15_1 := blk_frozen BK317.out 1))
     go_ret
     exact ⟨Z11, Z1 HB GE317⟩
    ·replace c12 := Bool.eq_false_iff.mpr c12
     subst c12
     have H1 : (some false) = some r := Z24
     clear H
     have H := H1
     clear H1
     obtain rfl := Option.some.inj H
     have hcz16_0 : wr.cell? ⟨gb317, 0, none⟩ = some (.slice A0_0 l0_0.length c0_0) := (blk_cell BK317.out 0).trans rfl
     have hcz16_1 : wr.cell? ⟨gb317, 1, none⟩ = some (.slice A0_1 l0_1.length c0_1) := (blk_cell BK317.out 1).trans rfl
     have hfz16_0 := blk_frozen BK317.out 0
     have hfz16_1 := blk_frozen BK317.out 1
     go_wp2_with (first | ((with_reducible refine gate_callee (f := 49) rfl ?_); refine gL_ 20 Tryz.func49 #[.slice A0_0 l0_0.length c0_0] ?_; (with_reducible refine (spec_CustomersOk.calls k1 _ _ l0_0 false _ ?side1 ?side2 A11.out).mono ?_); (case side1 => exact Z9 HR0_0 HB); (case side2 => exact HC0_0.out); rintro e w17 ⟨rfl, hb⟩; refine ⟨_, rfl, ?_⟩; replace BK317 := Aside0.mk (blk_below (g := gb317) (o := .cells #[.slice A0_0 l0_0.length c0_0, .slice A0_1 l0_1.length c0_1] 31 (0, 0)) (Z2 BK317) hb); replace HB := Aside0.mk (below_step (Z1 HB GE317) hb); (try clear hb)))
     go_ret
     exact ⟨Z11, Z1 HB GE317⟩

end Go.Proofs.YtmmoojkhlkjdkaaGreatDoor.PFnReadJournal
