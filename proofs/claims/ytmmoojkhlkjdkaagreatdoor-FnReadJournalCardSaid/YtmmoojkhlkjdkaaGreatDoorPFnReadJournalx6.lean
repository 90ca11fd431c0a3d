-- Printed by this claim's own program; Lean checks it.
import Derived.Test.YtmmoojkhlkjdkaaGreatDoorPFnReadJournalx0
import Derived.Test.YtmmoojkhlkjdkaaGreatDoorPFnReadJournalx3
import Derived.Test.YtmmoojkhlkjdkaaGreatDoorPFnReadJournalx5
namespace Go.Proofs.YtmmoojkhlkjdkaaGreatDoor.PFnReadJournal
open Go.RowKit Go.Proofs.YtmmoojkhlkjdkaaGreatDoorW.PrintWords Go.Proofs.YtmmoojkhlkjdkaaGreatDoorW.PrintLast Go.Proofs.YtmmoojkhlkjdkaaGreatDoorW.PrintMore
attribute [local go_sem] max2_int min2_int max_two min_two max_three min_three max_four min_four   -- for this text's walks alone
set_option linter.unusedVariables false
set_option linter.unusedSimpArgs false

/-- What is kept along a draw: the reader of the code, and blocks made here. -/
structure LS (w0 w W : World) (g : Nat) (s : List Int) (p : Int) (Fs : List (Nat × Obj)) : Prop where
  i : IsS104 w0 W g s p
  b : Below w0.heap.size w0 W
  k : KeepBut w W g none
  z : w0.heap.size ≤ w.heap.size
  f : ∀ y o, (y, o) ∈ Fs → W.heap[y]? = some o ∧ y ≠ g ∧ w.heap.size ≤ y
theorem LS.mv {w0 w W W' : World} {g : Nat} {s : List Int} {p p' : Int} {Fs : List (Nat × Obj)} (h : LS w0 w W g s p Fs) (hi : IsS104 w0 W' g s p') (hb : Below w0.heap.size w0 W') (hk : KeepBut W W' g none) : LS w0 w W' g s p' Fs :=
 ⟨hi, hb, ⟨Nat.le_trans h.k.1 hk.1, fun i hl hn hr => (hk.2 i (Nat.lt_of_lt_of_le hl h.k.1) hn hr).trans (h.k.2 i hl hn hr)⟩, h.z, fun y o hm => by
  obtain ⟨h1, h2, h3⟩ := h.f y o hm
  exact ⟨(hk.2 y (Array.getElem?_eq_some_iff.1 h1).1 h2 Z33).trans h1, h2, h3⟩⟩
theorem LS.below {w0 w W W' : World} {g : Nat} {s : List Int} {p : Int} {Fs : List (Nat × Obj)} (h : LS w0 w W g s p Fs) (hb : Below W.heap.size W W') : LS w0 w W' g s p Fs := h.mv (h.i.below hb) (below_step h.b hb) (KeepBut.of_below hb _ _)
theorem LS.add {w0 w W W' : World} {g y : Nat} {o : Obj} {s : List Int} {p : Int} {Fs : List (Nat × Obj)} (h : LS w0 w W g s p Fs) (hb : Below W.heap.size W W') (ho : W'.heap[y]? = some o) (hy : W.heap.size ≤ y) : LS w0 w W' g s p ((y, o) :: Fs) := by
 have d := h.below hb
 have hg := h.i.lt
 refine ⟨d.i, d.b, d.k, d.z, fun z o' hm => ?_⟩
 rcases List.mem_cons.1 hm with e | hm
 ·injection e with e1 e2
  subst e1 e2
  exact ⟨ho, Z32, Nat.le_trans h.k.1 hy⟩
 ·exact d.f z o' hm
theorem LS.sub {w0 w W : World} {g : Nat} {s : List Int} {p : Int} {Fs Gs : List (Nat × Obj)} (h : LS w0 w W g s p Fs) (hs : ∀ z, z ∈ Gs → z ∈ Fs) : LS w0 w W g s p Gs := ⟨h.i, h.b, h.k, h.z, fun y o hm => h.f y o (hs _ hm)⟩
section
variable {P : Program} {ops : Array Oper} {Q : Exit → Act → World → Prop} {md : Region.Mode} {S : World → Prop} {ds : List Nat} {T : Bool × List (List Nat × List Nat)} {fuel : Nat} {l l' : Array Bool} {a : Act} {w : World}
theorem node_ (HT : rtab md ops = T) (rs : List Nat) (hr : (readyT T.2 l.toList == rs) = true) (hne : rs ≠ []) (h : AllReadyL P md ops Q S ds fuel l a w rs) : wpAnyLast P md ops Q S ds (fuel + 1) l a w :=
  wpAnyLast_ready (by subst HT; rw [ready_eq]; exact eq_of_beq hr) hne h
theorem normL_ (hl : l = l') (h : wpAnyLast P md ops Q S ds fuel l' a w) : wpAnyLast P md ops Q S ds fuel l a w := hl ▸ h
theorem fin_ (h : wpAnyLast P md ops Q S ds 1 l a w) : wpAnyLast P md ops Q S ds 1 l a w := h
theorem pure'_ {i : Nat} {N : Option Tmp} {oi : Oper} {v : Value} (HT : rtab md ops = T) (hi : ops[i]? = some oi) (hN : oi.dst = N) (hc : anyT T l.toList (l.toList.set i true) i = true)
 (hQ : ∀ c a w, Q (.panic c) (a.put oi.dst v) w → Q (.panic c) a w) (hy : Yields P ops oi v a) {a' : Act} (ha : a.put N v = a')
 (h : wpAnyLast P md ops Q S ds fuel (l.setIfInBounds i true) a' w) : wpAnyLast P md ops Q S ds (fuel + 1) l a w :=
 pure_ (l.setIfInBounds i true) hi hN (any_of HT (by rw [Array.toList_setIfInBounds]; exact hc)) hQ hy ha h
end
section
variable {P : Program} {ops : Array Oper} {o : Oper} {a : Act} {Q : Exit → Act → World → Prop} {Kc : Act → World → Prop}
theorem row_step {W : World} (hw : Region.wanted o (yielded ops a.tmps) = true) {N : Tmp} (_hd : o.dst = some N) {cs : Array Value} {t : TypeId} {n : Nat}
 (hrun : (execOp a.eval o).run P W = .ok (.value (.slice (some ⟨W.heap.size, 0, none⟩) n n)) (W.alloc (.cells cs t (0, 0))))
 (h : ∀ g, g = W.heap.size → ∀ w1, w1.heap[g]? = some (.cells cs t (0, 0)) → Below W.heap.size W w1 → Kc (a.put o.dst (.slice (some ⟨g, 0, none⟩) n n)) w1) : if Region.wanted o (yielded ops a.tmps) = true then Oper.wp P o a W Kc Q else Kc (a.put o.dst undef) W :=
 event_step hw hrun (h _ rfl _ (by unfold World.alloc; simp) (below_alloc (Below.refl _ _) _))
end
theorem lit_at (xs : List Int) (x : Int) (h0 : 0 ≤ x) (h1 : x < (xs.length : Int)) : ((xs.map (Value.int .i64)).toArray)[x.toNat]? = some (.int .i64 (rd xs x)) := by
  have hx : x.toNat < xs.length := Z32
  simp [rd, List.getElem?_eq_getElem hx, List.getD_eq_getElem?_getD]
/-! ### spec_l20Deed: function 93 -/
mutual
def spec_l20Deed.j1 : Nat → List Int → Int → Int → Int → Int → Option (Int × Int × Int × Int)
  | 0, _, _, _, _, _ => none
  | k + 1, x1000, x1001, x139000, x139001, x139002 => (spec_l20Rd_odd.f k x1000 x1001 40).bind fun bt152 => (if bt152.1 = true then ((some (([(-1), 61, 100] : List Int) : List Int)).bind fun y154 => ((spec_l20Rd_pick.f k x1000 bt152.2 3).bind fun bt157 => (if 0 ≤ bt157.1 then (if bt157.1 < (y154.length : Int) then (some (x139000, rd y154 bt157.1, x139002, bt157.2)) else (none)) else (none)))) else (some (x139000, x139001, x139002, bt152.2)))
def spec_l20Deed.j0 : Nat → Int → List Int → Int → Int → Int → Int → Option (Int × Int × Int × Int)
  | 0, _, _, _, _, _, _ => none
  | k + 1, x6, x1000, x1001, x139000, x139001, x139002 => (spec_l20Rd_pick.f k x1000 x1001 6).bind fun bt140 => ((spec_l20Rd_pick.f k x1000 bt140.2 10).bind fun bt142 => ((spec_l20Rd_pick.f k x1000 bt142.2 9).bind fun bt144 => ((spec_l20Rd_pick.f k x1000 bt144.2 20).bind fun bt146 => (spec_l20Deed.j1 k x1000 bt146.2 x139000 (mx (wrap64 ((wrap64 (x6 + bt140.1)) - (wrap64 (Int.tdiv bt142.1 9)))) 0) (wrap64 ((wrap64 (1 + bt144.1)) - (wrap64 (Int.tdiv bt146.1 19))))))))
end
def spec_l20Deed.f (k : Nat) (s0_0 : List Int) (s0_1 : Int) (l1 : List (S84)) : Option (Int × Int × Int × Int) := (some (([0, 0, 0, 1, 2, 3, 4] : List Int) : List Int)).bind fun y130 => ((spec_l20Rd_pick.f k s0_0 s0_1 7).bind fun bt133 => (if 0 ≤ bt133.1 then (if bt133.1 < (y130.length : Int) then ((spec_l20Rd_pick.f k s0_0 bt133.2 60).bind fun bt136 => (if (wrap64 ((rd y130 bt133.1) + (wrap64 ((wrap64 (Int.tdiv bt136.1 59)) * 5)))) = 0 then (if (l1.length : Int) > 0 then (if 0 ≤ (wrap64 ((l1.length : Int) - 1)) then (if (wrap64 ((l1.length : Int) - 1)) < (l1.length : Int) then (spec_l20Deed.j0 k ((rd_T84 l1 (wrap64 ((l1.length : Int) - 1))).f0) s0_0 bt136.2 (wrap64 ((rd y130 bt133.1) + (wrap64 ((wrap64 (Int.tdiv bt136.1 59)) * 5)))) 0 0) else (none)) else (none)) else (spec_l20Deed.j0 k 0 s0_0 bt136.2 (wrap64 ((rd y130 bt133.1) + (wrap64 ((wrap64 (Int.tdiv bt136.1 59)) * 5)))) 0 0)) else (if (wrap64 ((rd y130 bt133.1) + (wrap64 ((wrap64 (Int.tdiv bt136.1 59)) * 5)))) = 2 then ((spec_l20Rd_pick.f k s0_0 bt136.2 (mx (l1.length : Int) 1)).bind fun bt148 => (spec_l20Deed.j1 k s0_0 bt148.2 (wrap64 ((rd y130 bt133.1) + (wrap64 ((wrap64 (Int.tdiv bt136.1 59)) * 5)))) bt148.1 0)) else (if (wrap64 ((rd y130 bt133.1) + (wrap64 ((wrap64 (Int.tdiv bt136.1 59)) * 5)))) = 3 then ((spec_l20Rd_pick.f k s0_0 bt136.2 6).bind fun bt150 => (spec_l20Deed.j1 k s0_0 bt150.2 (wrap64 ((rd y130 bt133.1) + (wrap64 ((wrap64 (Int.tdiv bt136.1 59)) * 5)))) bt150.1 0)) else (spec_l20Deed.j1 k s0_0 bt136.2 (wrap64 ((rd y130 bt133.1) + (wrap64 ((wrap64 (Int.tdiv bt136.1 59)) * 5)))) 0 0))))) else (none)) else (none)))
def spec_l20Deed.T1 : Bool × List (List Nat × List Nat) := (true, [([], []), ([], []), ([1], [1]), ([0, 2], [0, 2]), ([3], [3]), ([], []), ([5, 2], [5]), ([6], [6]), ([7], [7]), ([4, 8], [4, 8]), ([9], [9]), ([], []), ([11, 10, 6, 0, 1, 2, 3, 4, 5, 6, 7, 8, 9, 10, 11], [10, 11])])
def spec_l20Deed.B1 : List Nat := [0, 0, 2, 7, 15, 0, 38, 102, 230, 511, 1023, 0, 4095]
theorem spec_l20Deed.tab1 : rtab .any (opsOf Tryz.f93 1) = spec_l20Deed.T1 := by kernel_rfl
theorem spec_l20Deed.bits1 : waitsOk spec_l20Deed.T1.2 spec_l20Deed.B1 = true := by kernel_rfl
set_option maxHeartbeats 8000000 in
set_option maxRecDepth 100000 in
theorem spec_l20Deed.calls (k : Nat) (g : Nat) (s0_0 : List Int) (s0_1 : Int) (A1 : Option Addr) (c1 : Nat) (l1 : List (S84)) (r1 : Int) (r2 : Int) (r3 : Int) (r4 : Int) (w0 w : World) (hI : IsS104 w0 w g s0_0 s0_1) (hB : Below w0.heap.size w0 w) (hr1 : ∀ W_, KeepBut w W_ g none → Kd.C k84 W_ A1 l1.length l1) (hc1 : l1.length ≤ c1) (h : spec_l20Deed.f k s0_0 s0_1 l1 = some (r1, r2, r3, r4)) :
 Calls Tryz.prog 93 #[.pointer (some ⟨g, 0, none⟩), .slice A1 l1.length c1] w fun e w' => e = .returned (.agg #[.int .i64 r1, .int .i64 r2, .int .i64 r3]) ∧ IsS104 w0 w' g s0_0 r4 ∧ Below w0.heap.size w0 w' ∧ KeepBut w w' g none := by
 have hu39 := Tryz.underlying39
 have HR1 := Aside0.mk hr1
 have HC1 := Aside0.mk hc1
 clear hr1 hc1
 have HI0 := Aside0.mk hI
 have HK := Aside0.mk (KeepBut.refl w g none)
 have HL := Aside0.mk hB.size
 clear hI
 have HW0 := Aside0.mk hB.size
 have HB := Aside0.mk hB
 clear hB
 have H : ((some (([0, 0, 0, 1, 2, 3, 4] : List Int) : List Int)).bind fun y130 => ((spec_l20Rd_pick.f k s0_0 s0_1 7).bind fun bt133 => (if 0 ≤ bt133.1 then (if bt133.1 < (y130.length : Int) then ((spec_l20Rd_pick.f k s0_0 bt133.2 60).bind fun bt136 => (if (wrap64 ((rd y130 bt133.1) + (wrap64 ((wrap64 (Int.tdiv bt136.1 59)) * 5)))) = 0 then (if (l1.length : Int) > 0 then (if 0 ≤ (wrap64 ((l1.length : Int) - 1)) then (if (wrap64 ((l1.length : Int) - 1)) < (l1.length : Int) then (spec_l20Deed.j0 k ((rd_T84 l1 (wrap64 ((l1.length : Int) - 1))).f0) s0_0 bt136.2 (wrap64 ((rd y130 bt133.1) + (wrap64 ((wrap64 (Int.tdiv bt136.1 59)) * 5)))) 0 0) else (none)) else (none)) else (spec_l20Deed.j0 k 0 s0_0 bt136.2 (wrap64 ((rd y130 bt133.1) + (wrap64 ((wrap64 (Int.tdiv bt136.1 59)) * 5)))) 0 0)) else (if (wrap64 ((rd y130 bt133.1) + (wrap64 ((wrap64 (Int.tdiv bt136.1 59)) * 5)))) = 2 then ((spec_l20Rd_pick.f k s0_0 bt136.2 (mx (l1.length : Int) 1)).bind fun bt148 => (spec_l20Deed.j1 k s0_0 bt148.2 (wrap64 ((rd y130 bt133.1) + (wrap64 ((wrap64 (Int.tdiv bt136.1 59)) * 5)))) bt148.1 0)) else (if (wrap64 ((rd y130 bt133.1) + (wrap64 ((wrap64 (Int.tdiv bt136.1 59)) * 5)))) = 3 then ((spec_l20Rd_pick.f k s0_0 bt136.2 6).bind fun bt150 => (spec_l20Deed.j1 k s0_0 bt150.2 (wrap64 ((rd y130 bt133.1) + (wrap64 ((wrap64 (Int.tdiv bt136.1 59)) * 5)))) bt150.1 0)) else (spec_l20Deed.j1 k s0_0 bt136.2 (wrap64 ((rd y130 bt133.1) + (wrap64 ((wrap64 (Int.tdiv bt136.1 59)) * 5)))) 0 0))))) else (none)) else (none)))) = some (r1, r2, r3, r4) := h
 clear h
 obtain ⟨y130, hy130⟩ : ∃ y_ : List Int, y_ = (([0, 0, 0, 1, 2, 3, 4] : List Int)) := ⟨_, rfl⟩
 replace H : ((spec_l20Rd_pick.f k s0_0 s0_1 7).bind fun bt133 => (if 0 ≤ bt133.1 then (if bt133.1 < (y130.length : Int) then ((spec_l20Rd_pick.f k s0_0 bt133.2 60).bind fun bt136 => (if (wrap64 ((rd y130 bt133.1) + (wrap64 ((wrap64 (Int.tdiv bt136.1 59)) * 5)))) = 0 then (if (l1.length : Int) > 0 then (if 0 ≤ (wrap64 ((l1.length : Int) - 1)) then (if (wrap64 ((l1.length : Int) - 1)) < (l1.length : Int) then (spec_l20Deed.j0 k ((rd_T84 l1 (wrap64 ((l1.length : Int) - 1))).f0) s0_0 bt136.2 (wrap64 ((rd y130 bt133.1) + (wrap64 ((wrap64 (Int.tdiv bt136.1 59)) * 5)))) 0 0) else (none)) else (none)) else (spec_l20Deed.j0 k 0 s0_0 bt136.2 (wrap64 ((rd y130 bt133.1) + (wrap64 ((wrap64 (Int.tdiv bt136.1 59)) * 5)))) 0 0)) else (if (wrap64 ((rd y130 bt133.1) + (wrap64 ((wrap64 (Int.tdiv bt136.1 59)) * 5)))) = 2 then ((spec_l20Rd_pick.f k s0_0 bt136.2 (mx (l1.length : Int) 1)).bind fun bt148 => (spec_l20Deed.j1 k s0_0 bt148.2 (wrap64 ((rd y130 bt133.1) + (wrap64 ((wrap64 (Int.tdiv bt136.1 59)) * 5)))) bt148.1 0)) else (if (wrap64 ((rd y130 bt133.1) + (wrap64 ((wrap64 (Int.tdiv bt136.1 59)) * 5)))) = 3 then ((spec_l20Rd_pick.f k s0_0 bt136.2 6).bind fun bt150 => (spec_l20Deed.j1 k s0_0 bt150.2 (wrap64 ((rd y130 bt133.1) + (wrap64 ((wrap64 (Int.tdiv bt136.1 59)) * 5)))) bt150.1 0)) else (spec_l20Deed.j1 k s0_0 bt136.2 (wrap64 ((rd y130 bt133.1) + (wrap64 ((wrap64 (Int.tdiv bt136.1 59)) * 5)))) 0 0))))) else (none)) else (none))) = some (r1, r2, r3, r4) := Z5 hy130
 have Ny130 := Aside0.mk hy130
 clear hy130
 replace H := Option.bind_eq_some_iff.mp H
 obtain ⟨⟨t133, t134⟩, A30, H⟩ := H
 replace H : (if 0 ≤ t133 then (if t133 < (y130.length : Int) then ((spec_l20Rd_pick.f k s0_0 t134 60).bind fun bt136 => (if (wrap64 ((rd y130 t133) + (wrap64 ((wrap64 (Int.tdiv bt136.1 59)) * 5)))) = 0 then (if (l1.length : Int) > 0 then (if 0 ≤ (wrap64 ((l1.length : Int) - 1)) then (if (wrap64 ((l1.length : Int) - 1)) < (l1.length : Int) then (spec_l20Deed.j0 k ((rd_T84 l1 (wrap64 ((l1.length : Int) - 1))).f0) s0_0 bt136.2 (wrap64 ((rd y130 t133) + (wrap64 ((wrap64 (Int.tdiv bt136.1 59)) * 5)))) 0 0) else (none)) else (none)) else (spec_l20Deed.j0 k 0 s0_0 bt136.2 (wrap64 ((rd y130 t133) + (wrap64 ((wrap64 (Int.tdiv bt136.1 59)) * 5)))) 0 0)) else (if (wrap64 ((rd y130 t133) + (wrap64 ((wrap64 (Int.tdiv bt136.1 59)) * 5)))) = 2 then ((spec_l20Rd_pick.f k s0_0 bt136.2 (mx (l1.length : Int) 1)).bind fun bt148 => (spec_l20Deed.j1 k s0_0 bt148.2 (wrap64 ((rd y130 t133) + (wrap64 ((wrap64 (Int.tdiv bt136.1 59)) * 5)))) bt148.1 0)) else (if (wrap64 ((rd y130 t133) + (wrap64 ((wrap64 (Int.tdiv bt136.1 59)) * 5)))) = 3 then ((spec_l20Rd_pick.f k s0_0 bt136.2 6).bind fun bt150 => (spec_l20Deed.j1 k s0_0 bt150.2 (wrap64 ((rd y130 t133) + (wrap64 ((wrap64 (Int.tdiv bt136.1 59)) * 5)))) bt150.1 0)) else (spec_l20Deed.j1 k s0_0 bt136.2 (wrap64 ((rd y130 t133) + (wrap64 ((wrap64 (Int.tdiv bt136.1 59)) * 5)))) 0 0))))) else (none)) else (none)) = some (r1, r2, r3, r4) := H
 have A3 := Aside0.mk A30
 clear A30
 by_cases c4 : 0 ≤ t133
 ·rw [if_pos c4] at H
  have c4b0 : decide (0 ≤ t133) = true := decide_eq_true c4
  clear c4
  by_cases c5 : t133 < (y130.length : Int)
  ·rw [if_pos c5] at H
   have c5b0 : decide (t133 < (y130.length : Int)) = true := decide_eq_true c5
   clear c5
   replace H := Option.bind_eq_some_iff.mp H
   obtain ⟨⟨t136, t137⟩, A60, H⟩ := H
   replace H : (if (wrap64 ((rd y130 t133) + (wrap64 ((wrap64 (Int.tdiv t136 59)) * 5)))) = 0 then (if (l1.length : Int) > 0 then (if 0 ≤ (wrap64 ((l1.length : Int) - 1)) then (if (wrap64 ((l1.length : Int) - 1)) < (l1.length : Int) then (spec_l20Deed.j0 k ((rd_T84 l1 (wrap64 ((l1.length : Int) - 1))).f0) s0_0 t137 (wrap64 ((rd y130 t133) + (wrap64 ((wrap64 (Int.tdiv t136 59)) * 5)))) 0 0) else (none)) else (none)) else (spec_l20Deed.j0 k 0 s0_0 t137 (wrap64 ((rd y130 t133) + (wrap64 ((wrap64 (Int.tdiv t136 59)) * 5)))) 0 0)) else (if (wrap64 ((rd y130 t133) + (wrap64 ((wrap64 (Int.tdiv t136 59)) * 5)))) = 2 then ((spec_l20Rd_pick.f k s0_0 t137 (mx (l1.length : Int) 1)).bind fun bt148 => (spec_l20Deed.j1 k s0_0 bt148.2 (wrap64 ((rd y130 t133) + (wrap64 ((wrap64 (Int.tdiv t136 59)) * 5)))) bt148.1 0)) else (if (wrap64 ((rd y130 t133) + (wrap64 ((wrap64 (Int.tdiv t136 59)) * 5)))) = 3 then ((spec_l20Rd_pick.f k s0_0 t137 6).bind fun bt150 => (spec_l20Deed.j1 k s0_0 bt150.2 (wrap64 ((rd y130 t133) + (wrap64 ((wrap64 (Int.tdiv t136 59)) * 5)))) bt150.1 0)) else (spec_l20Deed.j1 k s0_0 t137 (wrap64 ((rd y130 t133) + (wrap64 ((wrap64 (Int.tdiv t136 59)) * 5)))) 0 0)))) = some (r1, r2, r3, r4) := H
   have A6 := Aside0.mk A60
   clear A60
   have HC7 := Aside0.mk H
   clear H
   go_enter Tryz.func93, Tryz.ntmps93
   try go_wp2_with (first | ((with_reducible refine gate_dst (N := 4) rfl ?_); refine bE_ 4 #[.int .i64 0, .int .i64 0, .int .i64 0] 39 ?_; intro gb129 hg w8 hbox hb; replace HB := Aside0.mk (below_step (Z7 HB HI0) hb); have BK129 := Aside0.mk (hbox); have GW129 := Aside0.mk ((by rw [hg]; exact (keep_size (w := w) (g := g) (row := none) (Z8 HK)) : w.heap.size ≤ gb129)); have GE129 := Aside0.mk ((Nat.le_trans HW0.out (by rw [hg]; exact (keep_size (w := w) (g := g) (row := none) (Z8 HK)) : w.heap.size ≤ gb129) : w0.heap.size ≤ gb129)); replace HK := Aside0.mk (KeepBut.trans (Z8 HK) (KeepBut.of_below hb g none) (.inl rfl)); have NB0_129 := Aside0.mk ((by rw [hg]; exact Nat.ne_of_lt (IsS104.lt (show IsS104 w0 _ g s0_0 s0_1 from Z6 HI0)) : g ≠ gb129)); have NB129_0 := Aside0.mk ((by rw [hg]; exact Nat.ne_of_gt (IsS104.lt (show IsS104 w0 _ g s0_0 s0_1 from Z6 HI0)) : gb129 ≠ g)); replace HI0 := Aside0.mk (IsS104.below (Z6 HI0) hb); clear hb hbox hg))
   have pi135 : (0 ≤ (t133 : Int)) = True := eq_true (of_decide_eq_true Z10)
   have qi135 : (t133 < (y130.length : Int)) = True := eq_true (of_decide_eq_true Z10)
   replace BK129 := Aside0.mk (blk_drew BK129.out)
   replace HI0 := Aside0.mk (IsS104.drew HI0.out)
   replace HK := Aside0.mk (keep_drew HK.out)
   replace HB := Aside0.mk (below_drew1 HB.out)
   refine start_ (n := 13) (S := fun w' => True) (ds := []) (List.toArray [false, false, false, false, false, false, false, false, false, false, false, false, false]) Z15 rfl rfl trivial (fun hHeld => ?_); refine with_tabW spec_l20Deed.tab1 spec_l20Deed.bits1 (fun HT_ HW_ => ?_)
   generalize w8.drew = w9 at BK129 HI0 HK HB hHeld ⊢
   have LQ : Aside0 (LS w0 w w9 g s0_0 s0_1 [(gb129, .cells #[.int .i64 0, .int .i64 0, .int .i64 0] 39 (0, 0))]) := ⟨HI0.out, HB.out, HK.out, HL.out, fun y o hm => by simp only [List.mem_singleton, Prod.mk.injEq] at hm; obtain ⟨rfl, rfl⟩ := hm; exact ⟨BK129.out, NB129_0.out, GW129.out⟩⟩
   have C4 := Aside0.mk (of_decide_eq_true c4b0)
   have C5 : Aside0 (t133 < (([0, 0, 0, 1, 2, 3, 4] : List Int).length : Int)) := ⟨by rw [← Ny130.out]; exact of_decide_eq_true c5b0⟩
   have c7b := eq_true (show t133 < 7 from C5.out)
   have c7c : decide (t133 < 7) = true := decide_eq_true (show t133 < 7 from C5.out)
   clear BK129 HI0 HK HB
   refine join_ (σ := Nat × Nat) 1 (List.toArray [true, true, true, true, true, true, true, true, true, true, true, true, false]) (fun s_ => [(7, .slice (some ⟨s_.2, 0, none⟩) 7 7), (8, .pointer (some ⟨g, 0, none⟩)), (9, .int .i64 t133), (10, .pointer (some ⟨s_.2, t133.toNat, none⟩)), (11, .int .i64 (rd y130 t133)), (12, .pointer (some ⟨g, 0, none⟩)), (13, .int .i64 t136), (14, .int .i64 (wrap64 (Int.tdiv t136 59))), (15, .int .i64 (wrap64 (wrap64 (Int.tdiv t136 59) * 5))), (16, .int .i64 (wrap64 (rd y130 t133 + wrap64 (wrap64 (Int.tdiv t136 59) * 5)))), (17, .agg #[.int .i64 (wrap64 (rd y130 t133 + wrap64 (wrap64 (Int.tdiv t136 59) * 5))), .int .i64 0, .int .i64 0]), (5, .pointer (some ⟨s_.1, 0, none⟩))]) (fun s_ W => LS w0 w W g s0_0 t137 [(s_.1, .cells #[.int .i64 0, .int .i64 0, .int .i64 0] 39 (0, 0)), (gb129, .cells #[.int .i64 0, .int .i64 0, .int .i64 0] 39 (0, 0))] ∧ s_.1 ≠ gb129) ?_ ?_
   rotate_left
   ·intro hCont
    repeat' first
    | ((with_reducible change ite _ _ _); first | (refine row_step ?hg (N := 7) ?hd (cs := #[.int .i64 0, .int .i64 0, .int .i64 0, .int .i64 1, .int .i64 2, .int .i64 3, .int .i64 4]) (t := 3) (n := 7) ?hr ?_; (case hd => rfl); (case hg => rfl); (case hr => first | (go_simp; done) | (go_simp; rfl)); intro y hy W_ hbl hb_; replace LQ := Aside0.mk (LQ.out.add hb_ hbl (Nat.le_of_eq hy.symm)); clear hb_ hbl hy; refine hK.out _ _ trivial (fun _ => ?_); clear hK K; refine normL_ (l' := ?_) ?_ ?_; rotate_left; (simp only [List.setIfInBounds_toArray, List.set_cons_zero, List.set_cons_succ]; rfl); refine norm_ (a' := ?_) ?_ ?_; rotate_left; (show Act.put _ (some 7) _ = _; simp only [putAll, Act.put, List.setIfInBounds_toArray, List.set_cons_zero, List.set_cons_succ, i64_w, i32_w]; rfl)) | (refine goes_ Tryz.func41 (by kernel_rfl) rfl #[.pointer (some ⟨g, 0, none⟩), .int .i64 7] (by rfl) rfl rfl (by (try simp only [List.map_toArray, List.map_cons, List.map_nil]); first | done | rfl) ?_; refine (spec_l20Rd_pick.calls k g s0_0 s0_1 7 t133 t134 w0 _ LQ.out.i LQ.out.b A3.out).mono ?_; rintro e W_ ⟨rfl, hi_, hb_, hk_⟩; refine ⟨_, rfl, ?_⟩; replace LQ := Aside0.mk (LQ.out.mv hi_ hb_ hk_); clear hi_ hb_ hk_; refine hK.out _ _ trivial (fun _ => ?_); clear hK K; refine normL_ (l' := ?_) ?_ ?_; rotate_left; (simp only [List.setIfInBounds_toArray, List.set_cons_zero, List.set_cons_succ]; rfl); refine norm_ (a' := ?_) ?_ ?_; rotate_left; (show Act.put _ (some 9) _ = _; simp only [putAll, Act.put, List.setIfInBounds_toArray, List.set_cons_zero, List.set_cons_succ, i64_w, i32_w]; rfl)) | (refine goes_ Tryz.func41 (by kernel_rfl) rfl #[.pointer (some ⟨g, 0, none⟩), .int .i64 60] (by rfl) rfl rfl (by (try simp only [List.map_toArray, List.map_cons, List.map_nil]); first | done | rfl) ?_; refine (spec_l20Rd_pick.calls k g s0_0 t134 60 t136 t137 w0 _ LQ.out.i LQ.out.b A6.out).mono ?_; rintro e W_ ⟨rfl, hi_, hb_, hk_⟩; refine ⟨_, rfl, ?_⟩; replace LQ := Aside0.mk (LQ.out.mv hi_ hb_ hk_); clear hi_ hb_ hk_; refine hK.out _ _ trivial (fun _ => ?_); clear hK K; refine normL_ (l' := ?_) ?_ ?_; rotate_left; (simp only [List.setIfInBounds_toArray, List.set_cons_zero, List.set_cons_succ]; rfl); refine norm_ (a' := ?_) ?_ ?_; rotate_left; (show Act.put _ (some 13) _ = _; simp only [putAll, Act.put, List.setIfInBounds_toArray, List.set_cons_zero, List.set_cons_succ, i64_w, i32_w]; rfl)) | (refine box_step ?hg (N := 5) ?hd (cs := #[.int .i64 0, .int .i64 0, .int .i64 0]) (t := 39) ?hr ?_; (case hd => rfl); (case hg => rfl); (case hr => first | (go_simp; done) | (go_simp; rfl)); intro x hx W_ hbl hb_; have NX := Aside0.mk (show x ≠ gb129 from by have := blk_lt (LQ.out.f gb129 (.cells #[.int .i64 0, .int .i64 0, .int .i64 0] 39 (0, 0)) (by simp)).1; omega); replace LQ := Aside0.mk (LQ.out.add hb_ hbl (Nat.le_of_eq hx.symm)); clear hb_ hbl hx; refine hK.out _ _ trivial (fun _ => ?_); clear hK K; refine normL_ (l' := ?_) ?_ ?_; rotate_left; (simp only [List.setIfInBounds_toArray, List.set_cons_zero, List.set_cons_succ]; rfl); refine norm_ (a' := ?_) ?_ ?_; rotate_left; (show Act.put _ (some 5) _ = _; simp only [putAll, Act.put, List.setIfInBounds_toArray, List.set_cons_zero, List.set_cons_succ, i64_w, i32_w]; rfl)) | (have hc_ := (blk_cell (LQ.out.f y (.cells #[.int .i64 0, .int .i64 0, .int .i64 0, .int .i64 1, .int .i64 2, .int .i64 3, .int .i64 4] 3 (0, 0)) (by simp)).1 t133.toNat).trans (lit_at [0, 0, 0, 1, 2, 3, 4] t133 C4.out C5.out); rw [← Ny130.out] at hc_; refine value_ (w1 := ?_) (v := ?_) (by rfl) rfl ?_ ?_; rotate_left 2; (go_simp; constructor <;> rfl); clear hc_; refine hK.out _ _ trivial (fun _ => ?_); clear hK K; refine normL_ (l' := ?_) ?_ ?_; rotate_left; (simp only [List.setIfInBounds_toArray, List.set_cons_zero, List.set_cons_succ]; rfl); refine norm_ (a' := ?_) ?_ ?_; rotate_left; (show Act.put _ (some 11) _ = _; simp only [putAll, Act.put, List.setIfInBounds_toArray, List.set_cons_zero, List.set_cons_succ, i64_w, i32_w]; rfl)))
    | (refine AllReadyL.cons rfl Z33 (fun K hK => ?_) ?_) | (exact AllReadyL.nil)
    | ((with_reducible refine fin_ ?_); exact normL_ Z90 (norm_ Z44 (hCont (x, y) _ ⟨LQ.out.sub Z33, NX.out⟩)))
    | (refine pure'_ (i := 1) (N := some 8) (v := ?_) (a' := ?_) HT_.out rfl rfl (by decide +kernel) (fun _ _ _ h => h) (Or.inl ⟨by rfl, ?_⟩) ?_ ?_; rotate_left; (intro w'; go_simp; with_reducible rfl); rotate_left; (simp only [putAll, Act.put, List.setIfInBounds_toArray, List.set_cons_zero, List.set_cons_succ, i64_w, i32_w]; rfl); refine normL_ (l' := ?_) ?_ ?_; rotate_left; (simp only [List.setIfInBounds_toArray, List.set_cons_zero, List.set_cons_succ]; rfl))
    | (refine pure'_ (i := 5) (N := some 12) (v := ?_) (a' := ?_) HT_.out rfl rfl (by decide +kernel) (fun _ _ _ h => h) (Or.inl ⟨by rfl, ?_⟩) ?_ ?_; rotate_left; (intro w'; go_simp; with_reducible rfl); rotate_left; (simp only [putAll, Act.put, List.setIfInBounds_toArray, List.set_cons_zero, List.set_cons_succ, i64_w, i32_w]; rfl); refine normL_ (l' := ?_) ?_ ?_; rotate_left; (simp only [List.setIfInBounds_toArray, List.set_cons_zero, List.set_cons_succ]; rfl))
    | (refine pure'_ (i := 3) (N := some 10) (v := ?_) (a' := ?_) HT_.out rfl rfl (by decide +kernel) (fun _ _ _ h => h) (Or.inl ⟨by rfl, ?_⟩) ?_ ?_; rotate_left; (intro w'; go_simp; with_reducible rfl); rotate_left; (simp only [putAll, Act.put, List.setIfInBounds_toArray, List.set_cons_zero, List.set_cons_succ, i64_w, i32_w]; rfl); refine normL_ (l' := ?_) ?_ ?_; rotate_left; (simp only [List.setIfInBounds_toArray, List.set_cons_zero, List.set_cons_succ]; rfl))
    | (refine pure'_ (i := 7) (N := some 14) (v := ?_) (a' := ?_) HT_.out rfl rfl (by decide +kernel) (fun _ _ _ h => h) (Or.inl ⟨by rfl, ?_⟩) ?_ ?_; rotate_left; (intro w'; go_simp; with_reducible rfl); rotate_left; (simp only [putAll, Act.put, List.setIfInBounds_toArray, List.set_cons_zero, List.set_cons_succ, i64_w, i32_w]; rfl); refine normL_ (l' := ?_) ?_ ?_; rotate_left; (simp only [List.setIfInBounds_toArray, List.set_cons_zero, List.set_cons_succ]; rfl))
    | (refine pure'_ (i := 8) (N := some 15) (v := ?_) (a' := ?_) HT_.out rfl rfl (by decide +kernel) (fun _ _ _ h => h) (Or.inl ⟨by rfl, ?_⟩) ?_ ?_; rotate_left; (intro w'; go_simp; with_reducible rfl); rotate_left; (simp only [putAll, Act.put, List.setIfInBounds_toArray, List.set_cons_zero, List.set_cons_succ, i64_w, i32_w]; rfl); refine normL_ (l' := ?_) ?_ ?_; rotate_left; (simp only [List.setIfInBounds_toArray, List.set_cons_zero, List.set_cons_succ]; rfl))
    | (refine pure'_ (i := 9) (N := some 16) (v := ?_) (a' := ?_) HT_.out rfl rfl (by decide +kernel) (fun _ _ _ h => h) (Or.inl ⟨by rfl, ?_⟩) ?_ ?_; rotate_left; (intro w'; go_simp; with_reducible rfl); rotate_left; (simp only [putAll, Act.put, List.setIfInBounds_toArray, List.set_cons_zero, List.set_cons_succ, i64_w, i32_w]; rfl); refine normL_ (l' := ?_) ?_ ?_; rotate_left; (simp only [List.setIfInBounds_toArray, List.set_cons_zero, List.set_cons_succ]; rfl))
    | (refine pure'_ (i := 10) (N := some 17) (v := ?_) (a' := ?_) HT_.out rfl rfl (by decide +kernel) (fun _ _ _ h => h) (Or.inl ⟨by rfl, ?_⟩) ?_ ?_; rotate_left; (intro w'; go_simp; with_reducible rfl); rotate_left; (simp only [putAll, Act.put, List.setIfInBounds_toArray, List.set_cons_zero, List.set_cons_succ, i64_w, i32_w]; rfl); refine normL_ (l' := ?_) ?_ ?_; rotate_left; (simp only [List.setIfInBounds_toArray, List.set_cons_zero, List.set_cons_succ]; rfl))
    | (refine node_ HT_.out [0, 2, 11] (by decide +kernel) (by decide) ?_) | (refine node_ HT_.out [0, 2] (by decide +kernel) (by decide) ?_) | (refine node_ HT_.out [2, 11] (by decide +kernel) (by decide) ?_) | (refine node_ HT_.out [2] (by decide +kernel) (by decide) ?_) | (refine node_ HT_.out [0, 6, 11] (by decide +kernel) (by decide) ?_) | (refine node_ HT_.out [0, 6] (by decide +kernel) (by decide) ?_) | (refine node_ HT_.out [4, 6, 11] (by decide +kernel) (by decide) ?_) | (refine node_ HT_.out [4, 6] (by decide +kernel) (by decide) ?_) | (refine node_ HT_.out [6, 11] (by decide +kernel) (by decide) ?_) | (refine node_ HT_.out [6] (by decide +kernel) (by decide) ?_) | (refine node_ HT_.out [0, 11] (by decide +kernel) (by decide) ?_) | (refine node_ HT_.out [0] (by decide +kernel) (by decide) ?_) | (refine node_ HT_.out [4, 11] (by decide +kernel) (by decide) ?_) | (refine node_ HT_.out [4] (by decide +kernel) (by decide) ?_) | (refine node_ HT_.out [11] (by decide +kernel) (by decide) ?_)
   clear C4 C5 c7b c7c LQ
   rintro ⟨gb138, y⟩ w16 ⟨LQ, hne⟩
   dsimp only at LQ hne
   obtain ⟨b1, b2, b3⟩ := LQ.f gb138 _ (List.mem_cons_self ..)
   obtain ⟨b4, b5, b6⟩ := LQ.f gb129 _ (List.mem_cons_of_mem _ (List.mem_cons_self ..))
   have BK129 := Aside0.mk b4
   have BK138 := Aside0.mk b1
   have GW138 := Aside0.mk b3
   have GE138 := Aside0.mk (Nat.le_trans HL.out b3)
   have NB0_138 := Aside0.mk (Ne.symm b2)
   have NB138_0 := Aside0.mk b2
   have NB129_138 := Aside0.mk (Ne.symm hne)
   have NB138_129 := Aside0.mk hne
   have HI0 := Aside0.mk LQ.i
   have HK := Aside0.mk LQ.k
   have HB := Aside0.mk LQ.b
   clear LQ hne b1 b2 b3 b4 b5 b6
   have HO132 : Aside0 ((Kd.int .i64).R 3 w16 w.heap.size (fun _ => True) (.slice none 0 0) []) := ⟨Kd.R_nil _ _ _ _ _⟩
   have hHeld := trivial
   refine norm_ (a' := ?_) ?_ ?_
   rotate_left
   ·simp only [putAll, Act.put, List.setIfInBounds_toArray, List.set_cons_zero, List.set_cons_succ]
    rfl
   refine one_ (i := 12) (N := none) (bB 13 8191) rfl rfl (one_of HT_.out Z15) Z28 (fun K hK => ?_)
   have hs18 : w16.cell? ⟨gb138, 0, none⟩ = some (.int .i64 0) := (blk_cell BK138.out 0).trans rfl
   have hfs18 := blk_frozen BK138.out 0
   have hns18_0 := NB129_138.out
   have hms18_0 := NB138_129.out
   have hs19 : w16.cell? ⟨gb138, 1, none⟩ = some (.int .i64 0) := (blk_cell BK138.out 1).trans rfl
   have hfs19 := blk_frozen BK138.out 1
   have hns19_0 := NB129_138.out
   have hms19_0 := NB138_129.out
   have hs20 : w16.cell? ⟨gb138, 2, none⟩ = some (.int .i64 0) := (blk_cell BK138.out 2).trans rfl
   have hfs20 := blk_frozen BK138.out 2
   have hns20_0 := NB129_138.out
   have hms20_0 := NB138_129.out
   refine skip_ (w1 := ?_) Z90 rfl ?_ ?_
   rotate_left
   ·go_simp
    rfl
   refine hK.out _ _ trivial (fun hHeld => ?_)
   clear hK K
   refine done_ (done_of HT_.out Z15) ?_
   have hnb21 := NB138_129.out
   have hnc21 := NB129_138.out
   have hnb22 := NB138_0.out
   have hnc22 := NB0_138.out
   have hcz23_0 : w16.cell? ⟨gb138, 0, none⟩ = some (.int .i64 0) := (blk_cell BK138.out 0).trans rfl
   have hcz23_1 : w16.cell? ⟨gb138, 1, none⟩ = some (.int .i64 0) := (blk_cell BK138.out 1).trans rfl
   have hcz23_2 : w16.cell? ⟨gb138, 2, none⟩ = some (.int .i64 0) := (blk_cell BK138.out 2).trans rfl
   have hfz23_0 := blk_frozen BK138.out 0
   have hfz23_1 := blk_frozen BK138.out 1
   have hfz23_2 := blk_frozen BK138.out 2
   go_upto_block 0 with (fail)
   go_cut [] (fun wc => ∃ (kq : Nat) (x1001_6 : Int) (x139001_6 : Int) (x139002_6 : Int), Aside0 (spec_l20Deed.j1 kq s0_0 x1001_6 (wrap64 ((rd y130 t133) + (wrap64 ((wrap64 (Int.tdiv t136 59)) * 5)))) x139001_6 x139002_6 = some (r1, r2, r3, r4)) ∧ Aside0 (kq ≤ k) ∧ Aside0 (wc.heap[gb129]? = some (.cells #[.int .i64 0, .int .i64 0, .int .i64 0] 39 (0, 0))) ∧ Aside0 (wc.heap[gb138]? = some (.cells #[.int .i64 (wrap64 ((rd y130 t133) + (wrap64 ((wrap64 (Int.tdiv t136 59)) * 5)))), .int .i64 x139001_6, .int .i64 x139002_6] 39 (0, 0))) ∧ Aside0 (IsS104 w0 wc g s0_0 x1001_6) ∧ Aside0 (KeepBut w wc g none) ∧ Aside0 (Below w0.heap.size w0 wc))
   case first =>
    have H := HC7.out
    clear HC7
    by_cases c24 : (wrap64 ((rd y130 t133) + (wrap64 ((wrap64 (Int.tdiv t136 59)) * 5)))) = 0
    ·rw [if_pos c24] at H
     have c24b0 : ((wrap64 ((rd y130 t133) + (wrap64 ((wrap64 (Int.tdiv t136 59)) * 5)))) == 0) = true := beq_iff_eq.mpr c24
     have c24b1 : ((wrap64 ((rd y130 t133) + (wrap64 ((wrap64 (Int.tdiv t136 59)) * 5)))) != 0) = false := bne_eq_false_iff_eq.mpr c24
     clear c24
     (first | rw [c24b0] | (simp only [i64_w, i32_w]; rw [c24b0]) | skip)
     have HC25 := Aside0.mk H
     clear H
     go_upto_if 24 with (fail)
     go_cut [6] (fun v6 wc => ∃ (kq : Nat) (x6_24 : Int), v6 = .int .i64 x6_24 ∧ Aside0 (spec_l20Deed.j0 kq x6_24 s0_0 t137 (wrap64 ((rd y130 t133) + (wrap64 ((wrap64 (Int.tdiv t136 59)) * 5)))) 0 0 = some (r1, r2, r3, r4)) ∧ Aside0 (kq ≤ k) ∧ Aside0 (wc.heap[gb129]? = some (.cells #[.int .i64 0, .int .i64 0, .int .i64 0] 39 (0, 0))) ∧ Aside0 (wc.heap[gb138]? = some (.cells #[.int .i64 (wrap64 ((rd y130 t133) + (wrap64 ((wrap64 (Int.tdiv t136 59)) * 5)))), .int .i64 0, .int .i64 0] 39 (0, 0))) ∧ Aside0 (IsS104 w0 wc g s0_0 t137) ∧ Aside0 (KeepBut w wc g none) ∧ Aside0 (Below w0.heap.size w0 wc))
     case first =>
      have H := HC25.out
      clear HC25
      by_cases c26 : (l1.length : Int) > 0
      ·rw [if_pos c26] at H
       have c26b0 : decide (0 < (l1.length : Int)) = true := decide_eq_true c26
       have c26b1 : decide (0 < l1.length) = true := decide_eq_true Z32
       clear c26
       (first | rw [c26b0] | (simp only [i64_w, i32_w]; rw [c26b0]) | rw [c26b1] | skip)
       obtain ⟨ji27, hji27⟩ : ∃ j_ : Int, (wrap64 ((l1.length : Int) - 1)) = j_ := ⟨_, rfl⟩
       replace H : (if 0 ≤ (ji27) then (if (ji27) < (l1.length : Int) then (spec_l20Deed.j0 k ((rd_T84 l1 (ji27)).f0) s0_0 t137 (wrap64 ((rd y130 t133) + (wrap64 ((wrap64 (Int.tdiv t136 59)) * 5)))) 0 0) else (none)) else (none)) = some (r1, r2, r3, r4) := Z54 hji27
       have hji27w : (IntKind.i64.wrap ((l1.length : Int) - 1)) = ji27 := (i64_w _).trans hji27
       by_cases c28 : 0 ≤ (ji27)
       ·rw [if_pos c28] at H
        have c28b0 : decide (0 ≤ (ji27)) = true := decide_eq_true c28
        clear c28
        by_cases c29 : (ji27) < (l1.length : Int)
        ·rw [if_pos c29] at H
         have c29b0 : decide ((ji27) < (l1.length : Int)) = true := decide_eq_true c29
         clear c29
         have H' := Aside0.mk H
         clear H
         have p139 : 0 ≤ ((ji27) : Int) := of_decide_eq_true Z10
         have q139 : (ji27) < (l1.length : Int) := of_decide_eq_true Z10
         obtain ⟨ad139, e139, hx139_0, hx139_1⟩ := at_T84 (Kd.C_foot_now HR1.out (show KeepBut w (((w16.setCell ⟨gb138, 0, none⟩ (.int .i64 (wrap64 ((rd y130 t133) + (wrap64 ((wrap64 (Int.tdiv t136 59)) * 5)))))).setCell ⟨gb138, 1, none⟩ (.int .i64 0)).setCell ⟨gb138, 2, none⟩ (.int .i64 0)) g none from Z16 HK GW129 GW138)) (ji27) p139 q139
         cases e139
         replace p139 := eq_true p139
         replace q139 := eq_true q139
         go_wp2
         go_meet
         case rel => exact ⟨_, ((rd_T84 l1 (ji27)).f0), (by first | rfl | (simp; done) | (simp only [← hji27] <;> (first | rfl | simp)) | (simp [*]; done)), H', ⟨Z39⟩, ⟨Z27 NB129_138 BK129⟩, ⟨Z18 BK138⟩, ⟨Z13 HI0 NB0_129 NB0_138⟩, ⟨Z16 HK GW129 GW138⟩, ⟨Z12 HB HI0 GE129 GE138⟩⟩
        ·rw [if_neg c29] at H
         exact absurd H Z33
       ·rw [if_neg c28] at H
        exact absurd H Z33
      ·rw [if_neg c26] at H
       have c26b0 : decide (0 < (l1.length : Int)) = false := decide_eq_false c26
       have c26b1 : decide (0 < l1.length) = false := decide_eq_false Z32
       clear c26
       (first | rw [c26b0] | (simp only [i64_w, i32_w]; rw [c26b0]) | rw [c26b1] | skip)
       have H' := Aside0.mk H
       clear H
       go_wp2
       go_meet
       case rel => exact ⟨_, (0), Z14, H', ⟨Z39⟩, ⟨Z27 NB129_138 BK129⟩, ⟨Z18 BK138⟩, ⟨Z13 HI0 NB0_129 NB0_138⟩, ⟨Z16 HK GW129 GW138⟩, ⟨Z12 HB HI0 GE129 GE138⟩⟩
     case rest =>
      clear HC25
      try clear p1
      try clear q1
      try clear hx1
      try clear c2
      try clear p2
      try clear c4
      try clear p6
      try clear p13
      try clear q13
      try clear hx13
      try clear c21
      try clear c22
      try clear c24
      try clear c24b0
      try clear c24b1
      try clear c26
      try clear c26b0
      try clear c26b1
      try clear c28
      try clear c28b0
      try clear c29
      try clear c29b0
      try clear hcz23_0
      try clear hcz23_1
      try clear hcz23_2
      try clear hfz23_0
      try clear hfz23_1
      try clear hfz23_2
      try clear hx135_0
      try clear hx139_0
      try clear hx139_1
      try clear p135
      try clear p139
      try clear q135
      try clear q139
      obtain ⟨kq, x6_24, rfl, HA, HJ24, BK129, BK138, HI0, HK, HB⟩ := hcut
      cases kq with
      | zero => exact absurd HA.out (by simp [spec_l20Deed.j0])
      | succ kj24 =>
       have H := HA.out
       clear HA
       simp only [spec_l20Deed.j0] at H
       replace H := Option.bind_eq_some_iff.mp H
       obtain ⟨⟨t140, t141⟩, A300, H⟩ := H
       replace H : ((spec_l20Rd_pick.f kj24 s0_0 t141 10).bind fun bt142 => ((spec_l20Rd_pick.f kj24 s0_0 bt142.2 9).bind fun bt144 => ((spec_l20Rd_pick.f kj24 s0_0 bt144.2 20).bind fun bt146 => (spec_l20Deed.j1 kj24 s0_0 bt146.2 (wrap64 ((rd y130 t133) + (wrap64 ((wrap64 (Int.tdiv t136 59)) * 5)))) (mx (wrap64 ((wrap64 (x6_24 + t140)) - (wrap64 (Int.tdiv bt142.1 9)))) 0) (wrap64 ((wrap64 (1 + bt144.1)) - (wrap64 (Int.tdiv bt146.1 19)))))))) = some (r1, r2, r3, r4) := H
       have A30 := Aside0.mk A300
       clear A300
       replace H := Option.bind_eq_some_iff.mp H
       obtain ⟨⟨t142, t143⟩, A310, H⟩ := H
       replace H : ((spec_l20Rd_pick.f kj24 s0_0 t143 9).bind fun bt144 => ((spec_l20Rd_pick.f kj24 s0_0 bt144.2 20).bind fun bt146 => (spec_l20Deed.j1 kj24 s0_0 bt146.2 (wrap64 ((rd y130 t133) + (wrap64 ((wrap64 (Int.tdiv t136 59)) * 5)))) (mx (wrap64 ((wrap64 (x6_24 + t140)) - (wrap64 (Int.tdiv t142 9)))) 0) (wrap64 ((wrap64 (1 + bt144.1)) - (wrap64 (Int.tdiv bt146.1 19))))))) = some (r1, r2, r3, r4) := H
       have A31 := Aside0.mk A310
       clear A310
       obtain ⟨ji32, hji32⟩ : ∃ j_ : Int, (mx (wrap64 ((wrap64 (x6_24 + t140)) - (wrap64 (Int.tdiv t142 9)))) 0) = j_ := ⟨_, rfl⟩
       replace H : ((spec_l20Rd_pick.f kj24 s0_0 t143 9).bind fun bt144 => ((spec_l20Rd_pick.f kj24 s0_0 bt144.2 20).bind fun bt146 => (spec_l20Deed.j1 kj24 s0_0 bt146.2 (wrap64 ((rd y130 t133) + (wrap64 ((wrap64 (Int.tdiv t136 59)) * 5)))) ji32 (wrap64 ((wrap64 (1 + bt144.1)) - (wrap64 (Int.tdiv bt146.1 19))))))) = some (r1, r2, r3, r4) := Z54 hji32
       (try rw [hji32] at A30)
       (try rw [hji32] at A31)
       have hji32_ : (if (wrap64 ((wrap64 (x6_24 + t140)) - (wrap64 (Int.tdiv t142 9)))) < 0 then 0 else (wrap64 ((wrap64 (x6_24 + t140)) - (wrap64 (Int.tdiv t142 9))))) = ji32 := hji32
       replace H := Option.bind_eq_some_iff.mp H
       obtain ⟨⟨t144, t145⟩, A330, H⟩ := H
       replace H : ((spec_l20Rd_pick.f kj24 s0_0 t145 20).bind fun bt146 => (spec_l20Deed.j1 kj24 s0_0 bt146.2 (wrap64 ((rd y130 t133) + (wrap64 ((wrap64 (Int.tdiv t136 59)) * 5)))) ji32 (wrap64 ((wrap64 (1 + t144)) - (wrap64 (Int.tdiv bt146.1 19)))))) = some (r1, r2, r3, r4) := H
       have A33 := Aside0.mk A330
       clear A330
       replace H := Option.bind_eq_some_iff.mp H
       obtain ⟨⟨t146, t147⟩, A340, H⟩ := H
       replace H : (spec_l20Deed.j1 kj24 s0_0 t147 (wrap64 ((rd y130 t133) + (wrap64 ((wrap64 (Int.tdiv t136 59)) * 5)))) ji32 (wrap64 ((wrap64 (1 + t144)) - (wrap64 (Int.tdiv t146 19))))) = some (r1, r2, r3, r4) := H
       have A34 := Aside0.mk A340
       clear A340
       have H' := Aside0.mk H
       clear H
       go_wp2_with (first | ((with_reducible refine gate_callee (f := 41) rfl ?_); refine gL_ 34 Tryz.func41 #[.pointer (some ⟨g, 0, none⟩), .int .i64 6] ?_; (with_reducible refine (spec_l20Rd_pick.calls kj24 g s0_0 t137 6 t140 t141 w0 _ ?side1 ?side2 A30.out).mono ?_); (case side1 => exact Z93); (case side2 => exact Z94); rintro e w35 ⟨rfl, hi, hb, hk⟩; refine ⟨_, rfl, ?_⟩; replace BK129 := Aside0.mk (KeepBut.blk hk (g' := gb129) (o := .cells #[.int .i64 0, .int .i64 0, .int .i64 0] 39 (0, 0)) (Z2 BK129) NB129_0.out Z33); replace BK138 := Aside0.mk (KeepBut.blk hk (g' := gb138) (o := .cells #[.int .i64 (wrap64 ((rd y130 t133) + (wrap64 ((wrap64 (Int.tdiv t136 59)) * 5)))), .int .i64 0, .int .i64 0] 39 (0, 0)) (Z2 BK138) NB138_0.out Z33); replace HK := Aside0.mk (KeepBut.trans (Z16 HK GW129 GW138) hk (.inl rfl)); replace HB := Aside0.mk (hb); replace HI0 := Aside0.mk (hi); (try clear hb); (try clear hk); (try clear hi)) | ((with_reducible refine gate_callee (f := 41) rfl ?_); refine gL_ 37 Tryz.func41 #[.pointer (some ⟨g, 0, none⟩), .int .i64 10] ?_; (with_reducible refine (spec_l20Rd_pick.calls kj24 g s0_0 t141 10 t142 t143 w0 _ ?side1 ?side2 A31.out).mono ?_); (case side1 => exact Z93); (case side2 => exact Z94); rintro e w36 ⟨rfl, hi, hb, hk⟩; refine ⟨_, rfl, ?_⟩; replace BK129 := Aside0.mk (KeepBut.blk hk (g' := gb129) (o := .cells #[.int .i64 0, .int .i64 0, .int .i64 0] 39 (0, 0)) (Z2 BK129) NB129_0.out Z33); replace BK138 := Aside0.mk (KeepBut.blk hk (g' := gb138) (o := .cells #[.int .i64 (wrap64 ((rd y130 t133) + (wrap64 ((wrap64 (Int.tdiv t136 59)) * 5)))), .int .i64 0, .int .i64 0] 39 (0, 0)) (Z2 BK138) NB138_0.out Z33); replace HK := Aside0.mk (KeepBut.trans (Z16 HK GW129 GW138) hk (.inl rfl)); replace HB := Aside0.mk (hb); replace HI0 := Aside0.mk (hi); (try clear hb); (try clear hb2); (try clear hk); (try clear hi); have hnb37 := NB138_129.out; have hnc37 := NB129_138.out; have hnb38 := NB138_0.out; have hnc38 := NB0_138.out; have hcz39_0 : w36.cell? ⟨gb138, 0, none⟩ = some (.int .i64 (wrap64 ((rd y130 t133) + (wrap64 ((wrap64 (Int.tdiv t136 59)) * 5))))) := (blk_cell BK138.out 0).trans rfl; have hcz39_1 : w36.cell? ⟨gb138, 1, none⟩ = some (.int .i64 0) := (blk_cell BK138.out 1).trans rfl; have hcz39_2 : w36.cell? ⟨gb138, 2, none⟩ = some (.int .i64 0) := (blk_cell BK138.out 2).trans rfl; have hfz39_0 := blk_frozen BK138.out 0; have hfz39_1 := blk_frozen BK138.out 1; have hfz39_2 := blk_frozen BK138.out 2) | ((with_reducible refine gate_callee (f := 41) rfl ?_); refine gL_ 43 Tryz.func41 #[.pointer (some ⟨g, 0, none⟩), .int .i64 9] ?_; (with_reducible refine (spec_l20Rd_pick.calls kj24 g s0_0 t143 9 t144 t145 w0 _ ?side1 ?side2 A33.out).mono ?_); (case side1 => exact Z93); (case side2 => exact Z94); rintro e w40 ⟨rfl, hi, hb, hk⟩; refine ⟨_, rfl, ?_⟩; replace BK129 := Aside0.mk (KeepBut.blk hk (g' := gb129) (o := .cells #[.int .i64 0, .int .i64 0, .int .i64 0] 39 (0, 0)) (Z30 NB129_138 BK129) NB129_0.out Z33); replace BK138 := Aside0.mk (KeepBut.blk hk (g' := gb138) (o := .cells #[.int .i64 (wrap64 ((rd y130 t133) + (wrap64 ((wrap64 (Int.tdiv t136 59)) * 5)))), .int .i64 ji32, .int .i64 0] 39 (0, 0)) (Z47 BK138) NB138_0.out Z33); replace HK := Aside0.mk (KeepBut.trans (Z16 HK GW129 GW138) hk (.inl rfl)); replace HB := Aside0.mk (hb); replace HI0 := Aside0.mk (hi); (try clear hb); (try clear hk); (try clear hi)) | ((with_reducible refine gate_callee (f := 41) rfl ?_); refine gL_ 46 Tryz.func41 #[.pointer (some ⟨g, 0, none⟩), .int .i64 20] ?_; (with_reducible refine (spec_l20Rd_pick.calls kj24 g s0_0 t145 20 t146 t147 w0 _ ?side1 ?side2 A34.out).mono ?_); (case side1 => exact Z93); (case side2 => exact Z94); rintro e w41 ⟨rfl, hi, hb, hk⟩; refine ⟨_, rfl, ?_⟩; replace BK129 := Aside0.mk (KeepBut.blk hk (g' := gb129) (o := .cells #[.int .i64 0, .int .i64 0, .int .i64 0] 39 (0, 0)) (Z2 BK129) NB129_0.out Z33); replace BK138 := Aside0.mk (KeepBut.blk hk (g' := gb138) (o := .cells #[.int .i64 (wrap64 ((rd y130 t133) + (wrap64 ((wrap64 (Int.tdiv t136 59)) * 5)))), .int .i64 ji32, .int .i64 0] 39 (0, 0)) (Z2 BK138) NB138_0.out Z33); replace HK := Aside0.mk (KeepBut.trans (Z16 HK GW129 GW138) hk (.inl rfl)); replace HB := Aside0.mk (hb); replace HI0 := Aside0.mk (hi); (try clear hb); (try clear hb2); (try clear hk); (try clear hi); have hcz42_0 : w41.cell? ⟨gb138, 0, none⟩ = some (.int .i64 (wrap64 ((rd y130 t133) + (wrap64 ((wrap64 (Int.tdiv t136 59)) * 5))))) := (blk_cell BK138.out 0).trans rfl; have hcz42_1 : w41.cell? ⟨gb138, 1, none⟩ = some (.int .i64 ji32) := (blk_cell BK138.out 1).trans rfl; have hcz42_2 : w41.cell? ⟨gb138, 2, none⟩ = some (.int .i64 0) := (blk_cell BK138.out 2).trans rfl; have hfz42_0 := blk_frozen BK138.out 0; have hfz42_1 := blk_frozen BK138.out 1; have hfz42_2 := blk_frozen BK138.out 2))
       go_meet
       case rel => exact ⟨_, (t147), (ji32), (wrap64 ((wrap64 (1 + t144)) - (wrap64 (Int.tdiv t146 19)))), H', ⟨Z50 HJ24⟩, ⟨Z30 NB129_138 BK129⟩, ⟨by refine blk_put (cs := #[.int .i64 (wrap64 ((rd y130 t133) + (wrap64 ((wrap64 (Int.tdiv t136 59)) * 5)))), .int .i64 ji32, .int .i64 0]) ?_ 2 _ rfl; (with_reducible repeat (first | refine blk_drewN ?_ _ | refine blk_drew ?_ | refine blk_alloc ?_ _)); exact BK138.out⟩, ⟨Z13 HI0 NB0_129 NB0_138⟩, ⟨Z16 HK GW129 GW138⟩, ⟨Z12 HB HI0 GE129 GE138⟩⟩
    ·rw [if_neg c24] at H
     have c24b0 : ((wrap64 ((rd y130 t133) + (wrap64 ((wrap64 (Int.tdiv t136 59)) * 5)))) == 0) = false := beq_eq_false_iff_ne.mpr c24
     have c24b1 : ((wrap64 ((rd y130 t133) + (wrap64 ((wrap64 (Int.tdiv t136 59)) * 5)))) != 0) = true := bne_iff_ne.mpr c24
     (first | rw [c24b0] | (simp only [i64_w, i32_w]; rw [c24b0]) | skip)
     by_cases c43 : (wrap64 ((rd y130 t133) + (wrap64 ((wrap64 (Int.tdiv t136 59)) * 5)))) = 2
     ·rw [if_pos c43] at H
      have c43b0 : ((wrap64 ((rd y130 t133) + (wrap64 ((wrap64 (Int.tdiv t136 59)) * 5)))) == 2) = true := beq_iff_eq.mpr c43
      have c43b1 : ((wrap64 ((rd y130 t133) + (wrap64 ((wrap64 (Int.tdiv t136 59)) * 5)))) != 2) = false := bne_eq_false_iff_eq.mpr c43
      clear c43
      obtain ⟨ji44, hji44⟩ : ∃ j_ : Int, (mx (l1.length : Int) 1) = j_ := ⟨_, rfl⟩
      replace H : ((spec_l20Rd_pick.f k s0_0 t137 (ji44)).bind fun bt148 => (spec_l20Deed.j1 k s0_0 bt148.2 (wrap64 ((rd y130 t133) + (wrap64 ((wrap64 (Int.tdiv t136 59)) * 5)))) bt148.1 0)) = some (r1, r2, r3, r4) := Z54 hji44
      (try (have hji44l : 1 ≤ ji44 := by (rw [← hji44]; unfold mx; (repeat' split) <;> omega)))
      (try (have hji44m : 0 ≤ ji44 := Z32))
      have hji44_ : (if (l1.length : Int) < 1 then 1 else (l1.length : Int)) = ji44 := hji44
      replace H := Option.bind_eq_some_iff.mp H
      obtain ⟨⟨t148, t149⟩, A450, H⟩ := H
      replace H : (spec_l20Deed.j1 k s0_0 t149 (wrap64 ((rd y130 t133) + (wrap64 ((wrap64 (Int.tdiv t136 59)) * 5)))) t148 0) = some (r1, r2, r3, r4) := H
      have A45 := Aside0.mk A450
      clear A450
      have H' := Aside0.mk H
      clear H
      go_wp2_with (first | ((with_reducible refine gate_callee (f := 41) rfl ?_); refine goesL_ (some 56) rfl rfl Tryz.func41 Z15 rfl #[.pointer (some ⟨g, 0, none⟩), .int .i64 ji44] rfl (by (try simp only [List.map_toArray, List.map_cons, List.map_nil]); first | done | (simp only [hji44]; rfl) | rfl | (simp only [List.length_drop, List.length_take]; rfl)) ?_; (with_reducible refine (spec_l20Rd_pick.calls k g s0_0 t137 ji44 t148 t149 w0 _ ?side1 ?side2 A45.out).mono ?_); (case side1 => exact Z93); (case side2 => exact Z94); rintro e w46 ⟨rfl, hi, hb, hk⟩; refine ⟨_, rfl, ?_⟩; replace BK129 := Aside0.mk (KeepBut.blk hk (g' := gb129) (o := .cells #[.int .i64 0, .int .i64 0, .int .i64 0] 39 (0, 0)) (Z27 NB129_138 BK129) NB129_0.out Z33); replace HO132 := Aside0.mk (Kd.R_mono (Kd.R_keep (IsS104.apart (show IsS104 w0 _ g s0_0 t137 from Z13 HI0 NB0_129 NB0_138) (Z91 HO132 BK138) Z28) hk (fun _ h => h.2)) (fun _ h => h.1)); replace BK138 := Aside0.mk (KeepBut.blk hk (g' := gb138) (o := .cells #[.int .i64 (wrap64 ((rd y130 t133) + (wrap64 ((wrap64 (Int.tdiv t136 59)) * 5)))), .int .i64 0, .int .i64 0] 39 (0, 0)) (Z18 BK138) NB138_0.out Z33); replace HK := Aside0.mk (KeepBut.trans (Z16 HK GW129 GW138) hk (.inl rfl)); replace HB := Aside0.mk (hb); replace HI0 := Aside0.mk (hi); (try clear hb); (try clear hb2); (try clear hk); (try clear hi); have hnb47 := NB138_129.out; have hnc47 := NB129_138.out; have hnb48 := NB138_0.out; have hnc48 := NB0_138.out; have hcz49_0 : w46.cell? ⟨gb138, 0, none⟩ = some (.int .i64 (wrap64 ((rd y130 t133) + (wrap64 ((wrap64 (Int.tdiv t136 59)) * 5))))) := (blk_cell BK138.out 0).trans rfl; have hcz49_1 : w46.cell? ⟨gb138, 1, none⟩ = some (.int .i64 0) := (blk_cell BK138.out 1).trans rfl; have hcz49_2 : w46.cell? ⟨gb138, 2, none⟩ = some (.int .i64 0) := (blk_cell BK138.out 2).trans rfl; have hfz49_0 := blk_frozen BK138.out 0; have hfz49_1 := blk_frozen BK138.out 1; have hfz49_2 := blk_frozen BK138.out 2))
      go_meet
      case rel => exact ⟨_, (t149), (t148), (0), H', ⟨Z39⟩, ⟨Z30 NB129_138 BK129⟩, ⟨Z47 BK138⟩, ⟨Z13 HI0 NB0_129 NB0_138⟩, ⟨Z16 HK GW129 GW138⟩, ⟨Z12 HB HI0 GE129 GE138⟩⟩
     ·rw [if_neg c43] at H
      have c43b0 : ((wrap64 ((rd y130 t133) + (wrap64 ((wrap64 (Int.tdiv t136 59)) * 5)))) == 2) = false := beq_eq_false_iff_ne.mpr c43
      have c43b1 : ((wrap64 ((rd y130 t133) + (wrap64 ((wrap64 (Int.tdiv t136 59)) * 5)))) != 2) = true := bne_iff_ne.mpr c43
      by_cases c50 : (wrap64 ((rd y130 t133) + (wrap64 ((wrap64 (Int.tdiv t136 59)) * 5)))) = 3
      ·rw [if_pos c50] at H
       have c50b0 : ((wrap64 ((rd y130 t133) + (wrap64 ((wrap64 (Int.tdiv t136 59)) * 5)))) == 3) = true := beq_iff_eq.mpr c50
       have c50b1 : ((wrap64 ((rd y130 t133) + (wrap64 ((wrap64 (Int.tdiv t136 59)) * 5)))) != 3) = false := bne_eq_false_iff_eq.mpr c50
       clear c50
       replace H := Option.bind_eq_some_iff.mp H
       obtain ⟨⟨t150, t151⟩, A510, H⟩ := H
       replace H : (spec_l20Deed.j1 k s0_0 t151 (wrap64 ((rd y130 t133) + (wrap64 ((wrap64 (Int.tdiv t136 59)) * 5)))) t150 0) = some (r1, r2, r3, r4) := H
       have A51 := Aside0.mk A510
       clear A510
       have H' := Aside0.mk H
       clear H
       go_wp2_with (first | ((with_reducible refine gate_callee (f := 41) rfl ?_); refine gL_ 61 Tryz.func41 #[.pointer (some ⟨g, 0, none⟩), .int .i64 6] ?_; (with_reducible refine (spec_l20Rd_pick.calls k g s0_0 t137 6 t150 t151 w0 _ ?side1 ?side2 A51.out).mono ?_); (case side1 => exact Z93); (case side2 => exact Z94); rintro e w52 ⟨rfl, hi, hb, hk⟩; refine ⟨_, rfl, ?_⟩; replace BK129 := Aside0.mk (KeepBut.blk hk (g' := gb129) (o := .cells #[.int .i64 0, .int .i64 0, .int .i64 0] 39 (0, 0)) (Z27 NB129_138 BK129) NB129_0.out Z33); replace HO132 := Aside0.mk (Kd.R_mono (Kd.R_keep (IsS104.apart (show IsS104 w0 _ g s0_0 t137 from Z13 HI0 NB0_129 NB0_138) (Z91 HO132 BK138) Z28) hk (fun _ h => h.2)) (fun _ h => h.1)); replace BK138 := Aside0.mk (KeepBut.blk hk (g' := gb138) (o := .cells #[.int .i64 (wrap64 ((rd y130 t133) + (wrap64 ((wrap64 (Int.tdiv t136 59)) * 5)))), .int .i64 0, .int .i64 0] 39 (0, 0)) (Z18 BK138) NB138_0.out Z33); replace HK := Aside0.mk (KeepBut.trans (Z16 HK GW129 GW138) hk (.inl rfl)); replace HB := Aside0.mk (hb); replace HI0 := Aside0.mk (hi); (try clear hb); (try clear hb2); (try clear hk); (try clear hi); have hnb53 := NB138_129.out; have hnc53 := NB129_138.out; have hnb54 := NB138_0.out; have hnc54 := NB0_138.out; have hcz55_0 : w52.cell? ⟨gb138, 0, none⟩ = some (.int .i64 (wrap64 ((rd y130 t133) + (wrap64 ((wrap64 (Int.tdiv t136 59)) * 5))))) := (blk_cell BK138.out 0).trans rfl; have hcz55_1 : w52.cell? ⟨gb138, 1, none⟩ = some (.int .i64 0) := (blk_cell BK138.out 1).trans rfl; have hcz55_2 : w52.cell? ⟨gb138, 2, none⟩ = some (.int .i64 0) := (blk_cell BK138.out 2).trans rfl; have hfz55_0 := blk_frozen BK138.out 0; have hfz55_1 := blk_frozen BK138.out 1; have hfz55_2 := blk_frozen BK138.out 2))
       go_meet
       case rel => exact ⟨_, (t151), (t150), (0), H', ⟨Z39⟩, ⟨Z30 NB129_138 BK129⟩, ⟨Z47 BK138⟩, ⟨Z13 HI0 NB0_129 NB0_138⟩, ⟨Z16 HK GW129 GW138⟩, ⟨Z12 HB HI0 GE129 GE138⟩⟩
      ·rw [if_neg c50] at H
       have c50b0 : ((wrap64 ((rd y130 t133) + (wrap64 ((wrap64 (Int.tdiv t136 59)) * 5)))) == 3) = false := beq_eq_false_iff_ne.mpr c50
       have c50b1 : ((wrap64 ((rd y130 t133) + (wrap64 ((wrap64 (Int.tdiv t136 59)) * 5)))) != 3) = true := bne_iff_ne.mpr c50
       have H' := Aside0.mk H
       clear H
       go_wp2
       go_meet
       case rel => exact ⟨_, (t137), (0), (0), H', ⟨Z39⟩, ⟨Z27 NB129_138 BK129⟩, ⟨Z18 BK138⟩, ⟨Z13 HI0 NB0_129 NB0_138⟩, ⟨Z16 HK GW129 GW138⟩, ⟨Z12 HB HI0 GE129 GE138⟩⟩
   case rest =>
    clear HC7
    try clear p1
    try clear q1
    try clear hx1
    try clear c2
    try clear p2
    try clear c3
    try clear c4
    try clear c5
    try clear p6
    try clear p13
    try clear q13
    try clear hx13
    try clear c21
    try clear c22
    try clear c24
    try clear c24b0
    try clear c24b1
    try clear c26
    try clear c26b0
    try clear c26b1
    try clear c28
    try clear c28b0
    try clear c29
    try clear c29b0
    try clear c37
    try clear c38
    try clear c41
    try clear c43
    try clear c43b0
    try clear c43b1
    try clear c47
    try clear c48
    try clear c50
    try clear c50b0
    try clear c50b1
    try clear c53
    try clear c54
    try clear hcz23_0
    try clear hcz23_1
    try clear hcz23_2
    try clear hcz39_0
    try clear hcz39_1
    try clear hcz39_2
    try clear hcz42_0
    try clear hcz42_1
    try clear hcz42_2
    try clear hcz49_0
    try clear hcz49_1
    try clear hcz49_2
    try clear hcz55_0
    try clear hcz55_1
    try clear hcz55_2
    try clear hfz23_0
    try clear hfz23_1
    try clear hfz23_2
    try clear hfz39_0
    try clear hfz39_1
    try clear hfz39_2
    try clear hfz42_0
    try clear hfz42_1
    try clear hfz42_2
    try clear hfz49_0
    try clear hfz49_1
    try clear hfz49_2
    try clear hfz55_0
    try clear hfz55_1
    try clear hfz55_2
    try clear hx135_0
    try clear hx139_0
    try clear hx139_1
    try clear p1
    try clear p13
    try clear p135
    try clear p139
    try clear p2
    try clear p6
    try clear q1
    try clear q13
    try clear q135
    try clear q139
    obtain ⟨kq, x1001_6, x139001_6, x139002_6, HA, HJ6, BK129, BK138, HI0, HK, HB⟩ := hcut
    cases kq with
    | zero => exact absurd HA.out (by simp [spec_l20Deed.j1])
    | succ kj6 =>
     have H := HA.out
     clear HA
     simp only [spec_l20Deed.j1] at H
     replace H := Option.bind_eq_some_iff.mp H
     obtain ⟨⟨t152, t153⟩, A560, H⟩ := H
     replace H : (if t152 = true then ((some (([(-1), 61, 100] : List Int) : List Int)).bind fun y154 => ((spec_l20Rd_pick.f kj6 s0_0 t153 3).bind fun bt157 => (if 0 ≤ bt157.1 then (if bt157.1 < (y154.length : Int) then (some ((wrap64 ((rd y130 t133) + (wrap64 ((wrap64 (Int.tdiv t136 59)) * 5)))), rd y154 bt157.1, x139002_6, bt157.2)) else (none)) else (none)))) else (some ((wrap64 ((rd y130 t133) + (wrap64 ((wrap64 (Int.tdiv t136 59)) * 5)))), x139001_6, x139002_6, t153))) = some (r1, r2, r3, r4) := H
     have A56 := Aside0.mk A560
     clear A560
     by_cases c57 : t152 = true
     ·subst c57
      have H1 : ((some (([(-1), 61, 100] : List Int) : List Int)).bind fun y154 => ((spec_l20Rd_pick.f kj6 s0_0 t153 3).bind fun bt157 => (if 0 ≤ bt157.1 then (if bt157.1 < (y154.length : Int) then (some ((wrap64 ((rd y130 t133) + (wrap64 ((wrap64 (Int.tdiv t136 59)) * 5)))), rd y154 bt157.1, x139002_6, bt157.2)) else (none)) else (none)))) = some (r1, r2, r3, r4) := Z37
      clear H
      have H := H1
      clear H1
      obtain ⟨y154, hy154⟩ : ∃ y_ : List Int, y_ = (([(-1), 61, 100] : List Int)) := ⟨_, rfl⟩
      replace H : ((spec_l20Rd_pick.f kj6 s0_0 t153 3).bind fun bt157 => (if 0 ≤ bt157.1 then (if bt157.1 < (y154.length : Int) then (some ((wrap64 ((rd y130 t133) + (wrap64 ((wrap64 (Int.tdiv t136 59)) * 5)))), rd y154 bt157.1, x139002_6, bt157.2)) else (none)) else (none))) = some (r1, r2, r3, r4) := Z5 hy154
      have Ny154 := Aside0.mk hy154
      clear hy154
      replace H := Option.bind_eq_some_iff.mp H
      obtain ⟨⟨t157, t158⟩, A580, H⟩ := H
      replace H : (if 0 ≤ t157 then (if t157 < (y154.length : Int) then (some ((wrap64 ((rd y130 t133) + (wrap64 ((wrap64 (Int.tdiv t136 59)) * 5)))), rd y154 t157, x139002_6, t158)) else (none)) else (none)) = some (r1, r2, r3, r4) := H
      have A58 := Aside0.mk A580
      clear A580
      by_cases c59 : 0 ≤ t157
      ·rw [if_pos c59] at H
       have c59b0 : decide (0 ≤ t157) = true := decide_eq_true c59
       clear c59
       by_cases c60 : t157 < (y154.length : Int)
       ·rw [if_pos c60] at H
        have c60b0 : decide (t157 < (y154.length : Int)) = true := decide_eq_true c60
        clear c60
        simp only [Option.some.injEq, Prod.mk.injEq] at H
        obtain ⟨rfl, rfl, rfl, rfl⟩ := H
        go_wp2_with (first | ((with_reducible refine gate_callee (f := 47) rfl ?_); refine gL_ 64 Tryz.func47 #[.pointer (some ⟨g, 0, none⟩), .int .i64 40] ?_; (with_reducible refine (spec_l20Rd_odd.calls kj6 g s0_0 x1001_6 40 true t153 w0 _ ?side1 ?side2 A56.out).mono ?_); (case side1 => exact Z93); (case side2 => exact Z94); rintro e w61 ⟨rfl, hi, hb, hk⟩; refine ⟨_, rfl, ?_⟩; replace BK129 := Aside0.mk (KeepBut.blk hk (g' := gb129) (o := .cells #[.int .i64 0, .int .i64 0, .int .i64 0] 39 (0, 0)) (Z2 BK129) NB129_0.out Z33); replace BK138 := Aside0.mk (KeepBut.blk hk (g' := gb138) (o := .cells #[.int .i64 (wrap64 ((rd y130 t133) + (wrap64 ((wrap64 (Int.tdiv t136 59)) * 5)))), .int .i64 x139001_6, .int .i64 x139002_6] 39 (0, 0)) (Z2 BK138) NB138_0.out Z33); replace HK := Aside0.mk (KeepBut.trans (Z16 HK GW129 GW138) hk (.inl rfl)); replace HB := Aside0.mk (hb); replace HI0 := Aside0.mk (hi); (try clear hb); (try clear hk); (try clear hi)) | ((with_reducible refine gate_dst (N := 65) rfl ?_); refine Kd.R_lit (Kd.int .i64) _ 3 ?hg (N := 65) ?hd (xs := ([(-1), 61, 100] : List Int)) (inner := [.int .i64 (-1), .int .i64 61, .int .i64 100]) (ok := fun _ => True) (okp := fun _ => True) ?hr ?hp (fun _ hk => hk) trivial (Below.refl _ _) (Nat.le_refl _) Z33 ?_; (case hd => exact Z90); (case hg => exact Z90); (case hr => exact Z29); (case hp => exact (Reps.one (show Kd.M (Kd.int .i64) _ _ _ (-1) [.int .i64 (-1)] from rfl) (Reps.one (show Kd.M (Kd.int .i64) _ _ _ 61 [.int .i64 61] from rfl) (Reps.one (show Kd.M (Kd.int .i64) _ _ _ 100 [.int .i64 100] from rfl) (Reps.none _ _))))); intro v155 w62 ho63 hb hg_ hnew_; clear hg_ hnew_; (first | rw [← Ny154.out] at ho63 | (simp only [Int.reduceToNat] at ho63; rw [← Ny154.out] at ho63)); have HO156 := Aside0.mk (Kd.R_lower ho63 (keep_size (w := w) (g := g) (row := none) (Z16 HK GW129 GW138))); replace BK129 := Aside0.mk (blk_below (g := gb129) (o := .cells #[.int .i64 0, .int .i64 0, .int .i64 0] 39 (0, 0)) (Z2 BK129) hb); replace BK138 := Aside0.mk (blk_below (g := gb138) (o := .cells #[.int .i64 (wrap64 ((rd y130 t133) + (wrap64 ((wrap64 (Int.tdiv t136 59)) * 5)))), .int .i64 x139001_6, .int .i64 x139002_6] 39 (0, 0)) (Z2 BK138) hb); replace HK := Aside0.mk (KeepBut.trans (Z16 HK GW129 GW138) (KeepBut.of_below hb g none) (.inl rfl)); replace HB := Aside0.mk (below_step (Z12 HB HI0 GE129 GE138) hb); replace HI0 := Aside0.mk (IsS104.below (Z13 HI0 NB0_129 NB0_138) hb); clear hb ho63) | ((with_reducible refine gate_callee (f := 41) rfl ?_); refine gL_ 67 Tryz.func41 #[.pointer (some ⟨g, 0, none⟩), .int .i64 3] ?_; (with_reducible refine (spec_l20Rd_pick.calls kj6 g s0_0 t153 3 t157 t158 w0 _ ?side1 ?side2 A58.out).mono ?_); (case side1 => exact Z93); (case side2 => exact Z94); rintro e w64 ⟨rfl, hi, hb, hk⟩; refine ⟨_, rfl, ?_⟩; replace BK129 := Aside0.mk (KeepBut.blk hk (g' := gb129) (o := .cells #[.int .i64 0, .int .i64 0, .int .i64 0] 39 (0, 0)) (Z2 BK129) NB129_0.out Z33); replace BK138 := Aside0.mk (KeepBut.blk hk (g' := gb138) (o := .cells #[.int .i64 (wrap64 ((rd y130 t133) + (wrap64 ((wrap64 (Int.tdiv t136 59)) * 5)))), .int .i64 x139001_6, .int .i64 x139002_6] 39 (0, 0)) (Z2 BK138) NB138_0.out Z33); replace HO156 := Aside0.mk (Kd.R_mono (Kd.R_keep (IsS104.apart (show IsS104 w0 _ g s0_0 t153 from Z13 HI0 NB0_129 NB0_138) (Z4 HO156) Z28) hk (fun _ h => h.2)) (fun _ h => h.1)); replace HK := Aside0.mk (KeepBut.trans (Z16 HK GW129 GW138) hk (.inl rfl)); replace HB := Aside0.mk (hb); replace HI0 := Aside0.mk (hi); (try clear hb); (try clear hb2); (try clear hk); (try clear hi); obtain ⟨Ao65, co65, eo65⟩ := Kd.R_slice HO156.out; subst eo65; have p159 : 0 ≤ (t157 : Int) := of_decide_eq_true Z10; have q159 : t157 < (y154.length : Int) := of_decide_eq_true Z10; obtain ⟨ad159, e159, hx159_0⟩ := Kd.at_int (Kd.R_reads' HO156.out).2.2 t157 p159 q159; cases e159; replace p159 := eq_true p159; replace q159 := eq_true q159; have hnb66 := NB138_129.out; have hnc66 := NB129_138.out; have hnb67 := NB138_0.out; have hnc67 := NB0_138.out; have hcz68_0 : w64.cell? ⟨gb138, 0, none⟩ = some (.int .i64 (wrap64 ((rd y130 t133) + (wrap64 ((wrap64 (Int.tdiv t136 59)) * 5))))) := (blk_cell BK138.out 0).trans rfl; have hcz68_1 : w64.cell? ⟨gb138, 1, none⟩ = some (.int .i64 x139001_6) := (blk_cell BK138.out 1).trans rfl; have hcz68_2 : w64.cell? ⟨gb138, 2, none⟩ = some (.int .i64 x139002_6) := (blk_cell BK138.out 2).trans rfl; have hfz68_0 := blk_frozen BK138.out 0; have hfz68_1 := blk_frozen BK138.out 1; have hfz68_2 := blk_frozen BK138.out 2; have hnb69 := NB129_0.out; have hnc69 := NB0_129.out; have hcz70_0 : w64.cell? ⟨gb129, 0, none⟩ = some (.int .i64 0) := (blk_cell BK129.out 0).trans rfl; have hcz70_1 : w64.cell? ⟨gb129, 1, none⟩ = some (.int .i64 0) := (blk_cell BK129.out 1).trans rfl; have hcz70_2 : w64.cell? ⟨gb129, 2, none⟩ = some (.int .i64 0) := (blk_cell BK129.out 2).trans rfl; have hfz70_0 := blk_frozen BK129.out 0; have hfz70_1 := blk_frozen BK129.out 1; have hfz70_2 := blk_frozen BK129.out 2))
        refine bodyPost_ret (results_cell_row rfl _ _ gb129 39 #[.int .i64 (wrap64 ((rd y130 t133) + (wrap64 ((wrap64 (Int.tdiv t136 59)) * 5)))), .int .i64 (rd y154 t157), .int .i64 x139002_6] (0, 0) _ rfl (by refine blk_put (cs := #[.int .i64 (wrap64 ((rd y130 t133) + (wrap64 ((wrap64 (Int.tdiv t136 59)) * 5)))), .int .i64 (rd y154 t157), .int .i64 0]) ?_ 2 _ rfl; refine blk_put (cs := #[.int .i64 (wrap64 ((rd y130 t133) + (wrap64 ((wrap64 (Int.tdiv t136 59)) * 5)))), .int .i64 0, .int .i64 0]) ?_ 1 _ rfl; refine blk_put (cs := #[.int .i64 0, .int .i64 0, .int .i64 0]) ?_ 0 _ rfl; refine blk_far ?_ NB129_138.out _; (with_reducible repeat (first | refine blk_drewN ?_ _ | refine blk_drew ?_ | refine blk_alloc ?_ _)); exact BK129.out) Tryz.underlying39 rfl Z15) rfl ?_
        exact ⟨Z11, Z13 HI0 NB0_129 NB0_138, Z12 HB HI0 GE129 GE138, Z16 HK GW129 GW138⟩
       ·rw [if_neg c60] at H
        exact absurd H Z33
      ·rw [if_neg c59] at H
       exact absurd H Z33
     ·replace c57 := Bool.eq_false_iff.mpr c57
      subst c57
      have H1 : (some ((wrap64 ((rd y130 t133) + (wrap64 ((wrap64 (Int.tdiv t136 59)) * 5)))), x139001_6, x139002_6, t153)) = some (r1, r2, r3, r4) := Z24
      clear H
      have H := H1
      clear H1
      simp only [Option.some.injEq, Prod.mk.injEq] at H
      obtain ⟨rfl, rfl, rfl, rfl⟩ := H
      go_wp2_with (first | ((with_reducible refine gate_callee (f := 47) rfl ?_); refine gL_ 64 Tryz.func47 #[.pointer (some ⟨g, 0, none⟩), .int .i64 40] ?_; (with_reducible refine (spec_l20Rd_odd.calls kj6 g s0_0 x1001_6 40 false t153 w0 _ ?side1 ?side2 A56.out).mono ?_); (case side1 => exact Z93); (case side2 => exact Z94); rintro e w71 ⟨rfl, hi, hb, hk⟩; refine ⟨_, rfl, ?_⟩; replace BK129 := Aside0.mk (KeepBut.blk hk (g' := gb129) (o := .cells #[.int .i64 0, .int .i64 0, .int .i64 0] 39 (0, 0)) (Z2 BK129) NB129_0.out Z33); replace BK138 := Aside0.mk (KeepBut.blk hk (g' := gb138) (o := .cells #[.int .i64 (wrap64 ((rd y130 t133) + (wrap64 ((wrap64 (Int.tdiv t136 59)) * 5)))), .int .i64 x139001_6, .int .i64 x139002_6] 39 (0, 0)) (Z2 BK138) NB138_0.out Z33); replace HK := Aside0.mk (KeepBut.trans (Z16 HK GW129 GW138) hk (.inl rfl)); replace HB := Aside0.mk (hb); replace HI0 := Aside0.mk (hi); (try clear hb); (try clear hb2); (try clear hk); (try clear hi); have hnb72 := NB138_129.out; have hnc72 := NB129_138.out; have hnb73 := NB138_0.out; have hnc73 := NB0_138.out; have hcz74_0 : w71.cell? ⟨gb138, 0, none⟩ = some (.int .i64 (wrap64 ((rd y130 t133) + (wrap64 ((wrap64 (Int.tdiv t136 59)) * 5))))) := (blk_cell BK138.out 0).trans rfl; have hcz74_1 : w71.cell? ⟨gb138, 1, none⟩ = some (.int .i64 x139001_6) := (blk_cell BK138.out 1).trans rfl; have hcz74_2 : w71.cell? ⟨gb138, 2, none⟩ = some (.int .i64 x139002_6) := (blk_cell BK138.out 2).trans rfl; have hfz74_0 := blk_frozen BK138.out 0; have hfz74_1 := blk_frozen BK138.out 1; have hfz74_2 := blk_frozen BK138.out 2; have hnb75 := NB129_0.out; have hnc75 := NB0_129.out; have hcz76_0 : w71.cell? ⟨gb129, 0, none⟩ = some (.int .i64 0) := (blk_cell BK129.out 0).trans rfl; have hcz76_1 : w71.cell? ⟨gb129, 1, none⟩ = some (.int .i64 0) := (blk_cell BK129.out 1).trans rfl; have hcz76_2 : w71.cell? ⟨gb129, 2, none⟩ = some (.int .i64 0) := (blk_cell BK129.out 2).trans rfl; have hfz76_0 := blk_frozen BK129.out 0; have hfz76_1 := blk_frozen BK129.out 1; have hfz76_2 := blk_frozen BK129.out 2))
      refine bodyPost_ret (results_cell_row rfl _ _ gb129 39 #[.int .i64 (wrap64 ((rd y130 t133) + (wrap64 ((wrap64 (Int.tdiv t136 59)) * 5)))), .int .i64 x139001_6, .int .i64 x139002_6] (0, 0) _ rfl (by refine blk_put (cs := #[.int .i64 (wrap64 ((rd y130 t133) + (wrap64 ((wrap64 (Int.tdiv t136 59)) * 5)))), .int .i64 x139001_6, .int .i64 0]) ?_ 2 _ rfl; refine blk_put (cs := #[.int .i64 (wrap64 ((rd y130 t133) + (wrap64 ((wrap64 (Int.tdiv t136 59)) * 5)))), .int .i64 0, .int .i64 0]) ?_ 1 _ rfl; refine blk_put (cs := #[.int .i64 0, .int .i64 0, .int .i64 0]) ?_ 0 _ rfl; (with_reducible repeat (first | refine blk_drewN ?_ _ | refine blk_drew ?_ | refine blk_alloc ?_ _)); exact BK129.out) Tryz.underlying39 rfl Z15) rfl ?_
      exact ⟨Z11, Z13 HI0 NB0_129 NB0_138, Z12 HB HI0 GE129 GE138, Z16 HK GW129 GW138⟩
  ·rw [if_neg c5] at H
   exact absurd H Z33
 ·rw [if_neg c4] at H
  exact absurd H Z33

end Go.Proofs.YtmmoojkhlkjdkaaGreatDoor.PFnReadJournal
