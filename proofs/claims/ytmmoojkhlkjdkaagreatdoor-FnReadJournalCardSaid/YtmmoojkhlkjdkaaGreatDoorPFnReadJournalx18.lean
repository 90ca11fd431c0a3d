-- Printed by this claim's own program; Lean checks it.
import Derived.Test.YtmmoojkhlkjdkaaGreatDoorPFnReadJournalx0
import Derived.Test.YtmmoojkhlkjdkaaGreatDoorPFnReadJournalx3
import Derived.Test.YtmmoojkhlkjdkaaGreatDoorPFnReadJournalx5
import Derived.Test.YtmmoojkhlkjdkaaGreatDoorPFnReadJournalx6
import Derived.Test.YtmmoojkhlkjdkaaGreatDoorPFnReadJournalx7
import Derived.Test.YtmmoojkhlkjdkaaGreatDoorPFnReadJournalx17
namespace Go.Proofs.YtmmoojkhlkjdkaaGreatDoor.PFnReadJournal
open Go.RowKit Go.Proofs.YtmmoojkhlkjdkaaGreatDoorW.PrintWords Go.Proofs.YtmmoojkhlkjdkaaGreatDoorW.PrintLast Go.Proofs.YtmmoojkhlkjdkaaGreatDoorW.PrintMore
attribute [local go_sem] max2_int min2_int max_two min_two max_three min_three max_four min_four   -- for this text's walks alone
set_option linter.unusedVariables false
set_option linter.unusedSimpArgs false

/-! ### spec_l20Desk: function 46 -/
def spec_l20Desk.l0 : Nat → Int → Int → List Int → Int → List (S84) → List (List (S84)) → Option ((List (S84)) × (List (List (S84))) × Int)
  | 0, _, _, _, _, _, _ => none
  | k + 1, x1, x7, x1000, x1001, x343000, x343001 => if x7 > 0 then (if x343001.length < 8 then ((spec_l20Deed.f k x1000 x1001 x343000).bind fun bt345 => ((spec_DeskDo.f k x343000 x343001 bt345.1 bt345.2.1 bt345.2.2.1).bind fun bt349 => (if bt349.2.2 = true then (spec_l20Desk.l0 k x1 (wrap64 (x7 - 1)) x1000 bt345.2.2.2 bt349.1 bt349.2.1) else (spec_l20Desk.l0 k x1 (wrap64 (x7 - 1)) x1000 bt345.2.2.2 x343000 x343001)))) else none) else ((spec_l20Rd_odd.f k x1000 x1001 x1).bind fun bt357 => (if bt357.1 = true then ((spec_l20Rd_pick.f k x1000 bt357.2 2).bind fun bt359 => (if bt359.1 = 0 then (some ((([(⟨0, 10⟩ : S84)] : List (S84))), x343001, bt359.2)) else (if x343001.length < 5864062014805 then (some (x343000, (x343001 ++ [(([(⟨0, 0⟩ : S84)] : List (S84)))]), bt359.2)) else (none)))) else (some (x343000, x343001, bt357.2))))
def spec_l20Desk.f (k : Nat) (s0_0 : List Int) (s0_1 : Int) (a1 : Int) : Option ((List (S84)) × (List (List (S84))) × Int) := (spec_l20Customers.f k s0_0 s0_1 0).bind fun bt331 => ((spec_DeskNew.f k bt331.1).bind fun bt335 => ((spec_l20Rd_pick.f k s0_0 bt331.2 6).bind fun bt343 => (spec_l20Desk.l0 k a1 bt343.1 s0_0 bt343.2 bt335.1 bt335.2.1)))
/-- What is kept along the draw of a desk: the desk in a box, and the box of the result; all the desk needs lies below N. -/
structure LD (w0 w W : World) (gs gd N : Nat) (A0 : Option Addr) (c0 : Nat) (now : List S84) (A1 : Option Addr) (c1 : Nat) (past : List (List S84)) : Prop where
  d : W.heap[gd]? = some (.cells #[.slice A0 now.length c0, .slice A1 past.length c1] 31 (0, 0))
  r : W.heap[w.heap.size]? = some (.cells #[.slice none 0 0, .slice none 0 0] 31 (0, 0))
  v : Kd.V k84 84 W 0 (fun k => (w.heap.size < k ∧ k ≠ gd ∧ k < N) ∧ some k ≠ (Value.slice A1 past.length c1).ownBlock) (.slice A0 now.length c0) now
  s : Kd.S (Kd.slice 84 k84) 28 W w.heap.size (fun k => w.heap.size < k ∧ k ≠ gd ∧ k < N) (.slice A1 past.length c1) past
  b : Below w0.heap.size w0 W
  k : Kept w W (fun k => k = gs)
  n : w0.heap.size ≤ gs ∧ gs < w.heap.size ∧ w.heap.size < gd ∧ gd < N
theorem LD.kept {w0 w W W' : World} {gs gd N : Nat} {A0 : Option Addr} {c0 : Nat} {now : List S84} {A1 : Option Addr} {c1 : Nat} {past : List (List S84)} (h : LD w0 w W gs gd N A0 c0 now A1 c1 past) (hk : Kept W W' (fun k => k = gs ∨ N ≤ k)) (hb : Below w0.heap.size w0 W') : LD w0 w W' gs gd N A0 c0 now A1 c1 past := by
  have hn := h.n
  refine ⟨blk_kept h.d hk (fun h => Z32), blk_kept h.r hk (fun h => Z32), Kd.V_map h.v (fun _ hf => Kd.F_step hf (fun k hk' hlt => hk.2 k hlt (fun h => by have := hk'.1; omega))), Kd.S_step h.s (fun k hk' hlt => hk.2 k hlt (fun h => Z32)), hb, ⟨Nat.le_trans h.k.1 hk.1, fun i hi hne => (hk.2 i (Nat.lt_of_lt_of_le hi h.k.1) (fun h => by rcases h with h | h; exact hne h; omega)).trans (h.k.2 i hi hne)⟩, hn⟩
theorem LD.below {w0 w W W' : World} {gs gd N : Nat} {A0 : Option Addr} {c0 : Nat} {now : List S84} {A1 : Option Addr} {c1 : Nat} {past : List (List S84)} (h : LD w0 w W gs gd N A0 c0 now A1 c1 past) (hb : Below W.heap.size W W') : LD w0 w W' gs gd N A0 c0 now A1 c1 past := h.kept (Kept.of_below hb _) (below_step h.b hb)
theorem LD.but {w0 w W W' : World} {gs gd N : Nat} {A0 : Option Addr} {c0 : Nat} {now : List S84} {A1 : Option Addr} {c1 : Nat} {past : List (List S84)} (h : LD w0 w W gs gd N A0 c0 now A1 c1 past) (hk : KeepBut W W' gs none) (hb : Below w0.heap.size w0 W') : LD w0 w W' gs gd N A0 c0 now A1 c1 past := h.kept ⟨hk.1, fun i hi hn => hk.2 i hi (fun e => hn (.inl e)) Z33⟩ hb
theorem LD.up {w0 w W : World} {gs gd N N' : Nat} {A0 : Option Addr} {c0 : Nat} {now : List S84} {A1 : Option Addr} {c1 : Nat} {past : List (List S84)} (h : LD w0 w W gs gd N A0 c0 now A1 c1 past) (hn : W.heap.size ≤ N') : LD w0 w W gs gd N' A0 c0 now A1 c1 past :=
  ⟨h.d, h.r, Kd.V_mono (Kd.V_map (base' := 0) h.v (fun _ hf => Kd.F_bound hf)) (fun k hk => ⟨⟨hk.1.1.1, hk.1.1.2.1, by have := hk.2; omega⟩, hk.1.2⟩), Kd.S_mono (Kd.S_bound h.s) (fun k hk => ⟨hk.1.1, hk.1.2.1, by have := hk.2.2.1; omega⟩), h.b, h.k, ⟨h.n.1, h.n.2.1, h.n.2.2.1, by have := blk_lt h.d; omega⟩⟩
/-- How the draw ends. -/
theorem LD.ends {w0 w W : World} {gs gd N : Nat} {A0 : Option Addr} {c0 : Nat} {now : List S84} {A1 : Option Addr} {c1 : Nat} {past : List (List S84)} {s : List Int} {p : Int} (h : LD w0 w W gs gd N A0 c0 now A1 c1 past) (hi : IsS104 w0 W gs s p) {x y : Value} : ∃ v0_ v1_ : Value, Ending.returned (.agg #[.slice A0 now.length c0, .slice A1 past.length c1]) = .returned (.agg #[v0_, v1_]) ∧ Kd.V k84 84 ((W.setCell ⟨w.heap.size, 0, none⟩ x).setCell ⟨w.heap.size, 1, none⟩ y) w.heap.size (fun k_ => (w.heap.size ≤ k_) ∧ some k_ ≠ (v1_ : Value).ownBlock) v0_ now ∧ Kd.S (Kd.slice 84 k84) 28 ((W.setCell ⟨w.heap.size, 0, none⟩ x).setCell ⟨w.heap.size, 1, none⟩ y) w.heap.size (fun k_ => (w.heap.size ≤ k_)) v1_ past ∧ IsS104 w0 ((W.setCell ⟨w.heap.size, 0, none⟩ x).setCell ⟨w.heap.size, 1, none⟩ y) gs s p ∧ Below w0.heap.size w0 ((W.setCell ⟨w.heap.size, 0, none⟩ x).setCell ⟨w.heap.size, 1, none⟩ y) ∧ KeepBut w ((W.setCell ⟨w.heap.size, 0, none⟩ x).setCell ⟨w.heap.size, 1, none⟩ y) gs none := by
 have hn := h.n
 have hne : gs ≠ w.heap.size := Z32
 refine ⟨_, _, rfl, Kd.V_mono (Kd.V_far (p := ⟨w.heap.size, 1, none⟩) (Kd.V_far (p := ⟨w.heap.size, 0, none⟩) (Kd.V_lower h.v (Nat.le_refl _)) (fun k hk => by have := hk.1.1; show k ≠ w.heap.size; omega) x) (fun k hk => by have := hk.1.1; show k ≠ w.heap.size; omega) y) (fun k hk => ⟨by have := hk.1.1; omega, hk.2⟩), Kd.S_mono (Kd.S_far (p := ⟨w.heap.size, 1, none⟩) (Kd.S_far (p := ⟨w.heap.size, 0, none⟩) h.s (fun k hk => by have := hk.1; show k ≠ w.heap.size; omega) x) (fun k hk => by have := hk.1; show k ≠ w.heap.size; omega) y) (fun k hk => by have := hk.1; omega), (hi.far (p := ⟨w.heap.size, 0, none⟩) hne x).far (p := ⟨w.heap.size, 1, none⟩) hne y, below_set (below_set h.b Z32) Z32, ?_⟩
 exact ⟨by have := h.k.1; simpa [World.setCell] using this, fun i hi hg _ => (Below.heap_setCell _ ⟨w.heap.size, 1, none⟩ y i (by show i ≠ w.heap.size; omega)).trans ((Below.heap_setCell _ ⟨w.heap.size, 0, none⟩ x i (by show i ≠ w.heap.size; omega)).trans (h.k.2 i hi hg))⟩
structure GE (W W' : World) : Prop where mk :: (size : W.heap.size ≤ W'.heap.size)
def spec_l20Desk.T5 : Bool × List (List Nat × List Nat) := (true, [([], []), ([], []), ([], []), ([2], [2]), ([1, 3], [1, 3]), ([0, 4, 4], [0, 4]), ([5], [5]), ([6], [6]), ([6], [6]), ([], []), ([9, 7, 5, 0, 1, 2, 3, 4, 5, 6, 7, 9], [7, 9]), ([8, 10, 0, 1, 2, 3, 4, 5, 6, 7, 8, 9, 10], [8])])
def spec_l20Desk.B5 : List Nat := [0, 0, 0, 4, 14, 31, 63, 127, 127, 0, 767, 2047]
theorem spec_l20Desk.tab5 : rtab .any (opsOf Tryz.f46 5) = spec_l20Desk.T5 := by kernel_rfl
theorem spec_l20Desk.bits5 : waitsOk spec_l20Desk.T5.2 spec_l20Desk.B5 = true := by kernel_rfl
set_option maxHeartbeats 8000000 in
set_option maxRecDepth 100000 in
theorem spec_l20Desk.calls (k : Nat) (g : Nat) (s0_0 : List Int) (s0_1 : Int) (a1 : Int) (r1 : List (S84)) (r2 : List (List (S84))) (r3 : Int) (w0 w : World) (hI : IsS104 w0 w g s0_0 s0_1) (hB : Below w0.heap.size w0 w) (h : spec_l20Desk.f k s0_0 s0_1 a1 = some (r1, r2, r3)) :
 Calls Tryz.prog 46 #[.pointer (some ⟨g, 0, none⟩), .int .i64 a1] w fun e w' => ∃ v0_ v1_ : Value, e = .returned (.agg #[v0_, v1_]) ∧ Kd.V k84 84 w' w.heap.size (fun k_ => (w.heap.size ≤ k_) ∧ some k_ ≠ (v1_ : Value).ownBlock) v0_ r1 ∧ Kd.S (Kd.slice 84 k84) 28 w' w.heap.size (fun k_ => (w.heap.size ≤ k_)) v1_ r2 ∧ IsS104 w0 w' g s0_0 r3 ∧ Below w0.heap.size w0 w' ∧ KeepBut w w' g none := by
 have hu31 := Tryz.underlying31
 have hu39 := Tryz.underlying39
 have hu84 := Tryz.underlying84
 unfold spec_l20Desk.f at h
 obtain ⟨⟨cs, p1⟩, hC, h1⟩ := Option.bind_eq_some_iff.mp h
 obtain ⟨⟨d0, d1, dn⟩, hDN, h2⟩ := Option.bind_eq_some_iff.mp h1
 obtain ⟨⟨kn, p2⟩, hP, h3⟩ := Option.bind_eq_some_iff.mp h2
 dsimp only at hDN hP h3
 have HC := Aside0.mk hC
 have HDN := Aside0.mk hDN
 have HP := Aside0.mk hP
 have H3 := Aside0.mk h3
 obtain ⟨gs, hgs⟩ : ∃ gs, g = gs := ⟨_, rfl⟩
 subst hgs
 have HI := Aside0.mk hI
 have HB := Aside0.mk hB
 clear h h1 h2 hC hDN hP h3 hI hB
 go_enter Tryz.func46, Tryz.ntmps46
 go_wp2_with (fail)
 refine (spec_l20Customers.calls k g s0_0 s0_1 0 cs p1 w0 _ (HI.out.alloc _) (below_alloc HB.out _) HC.out).mono ?_
 rintro e w1 ⟨v, rfl, hv, hi, hb, hk⟩
 obtain ⟨Ac, cc, rfl⟩ := Kd.R_slice hv
 have I1 := Aside0.mk hi
 have B1 := Aside0.mk hb
 have R1 := Aside0.mk ((hk.2 _ (blk_lt (blk_new w (.cells #[.slice none 0 0, .slice none 0 0] 31))) (by have := HI.out.lt; omega) Z33).trans (blk_new w (.cells #[.slice none 0 0, .slice none 0 0] 31)))
 have K1 : Aside0 (Kept w w1 (fun k => k = g)) := ⟨(Kept.of_below (below_alloc (Below.refl w.heap.size w) (.cells #[.slice none 0 0, .slice none 0 0] 31)) _).then_ (S2 := fun k => k = g) ⟨hk.1, fun i hi hn => hk.2 i hi hn Z33⟩ (fun k hk => .inl hk)⟩
 have V1 := Aside0.mk hv
 clear hv hi hb hk
 go_wp2_with (fail)
 refine (spec_DeskNew.calls k _ _ cs d0 d1 dn _ (Kd.R_reads' V1.out).2.2 (Kd.R_reads' V1.out).2.1 HDN.out).mono ?_
 rintro e w2 ⟨v0, v1, rfl, hv0, hv1, hb⟩
 obtain ⟨A0, c0, rfl⟩ := Kd.R_slice hv0
 obtain ⟨A1, c1, rfl⟩ := Kd.S_slice hv1
 have I3 := Aside0.mk ((I1.out.below hb).alloc (.cells #[.slice A0 d0.length c0, .slice A1 d1.length c1] 31))
 have L3 : Aside0 (LD w0 w (w2.alloc (.cells #[.slice A0 d0.length c0, .slice A1 d1.length c1] 31)) g w2.heap.size (w2.heap.size + 1) A0 c0 d0 A1 c1 d1) := ⟨by
  have hlt := blk_lt R1.out
  have hg := HI.out.lt
  have hb' := below_alloc hb (.cells #[.slice A0 d0.length c0, .slice A1 d1.length c1] 31)
  refine ⟨blk_new _ _, blk_alloc1 ((hb.block _ hlt).trans R1.out), Kd.V_alloc (Kd.V_mono (Kd.R_V (base' := 0) (k84_own hv0)) (fun k hk => ?_)) _, Kd.S_alloc (Kd.S_lower (Kd.S_mono (Kd.S_bound hv1) (fun k hk => ⟨by have := hk.2.1; omega, by have := hk.2.2.1; omega, by have := hk.2.2.1; omega⟩)) Z32) _, below_alloc (below_step B1.out hb) _, (K1.out.below hb').mono (fun _ h => h), ⟨HI.out.ge, hg, by have := hb.size; omega, Nat.lt_succ_self _⟩⟩
  have h0 := Kd.R_bound hv0
  have h1 := h0.1 k hk
  exact ⟨⟨by have := h1.2.1; omega, by have := h1.2.2.1; omega, by have := h1.2.2.1; omega⟩, fun e => (Kd.S_R hv1).1 k e.symm hk.symm⟩⟩
 clear hv0 hv1 hb I1 B1 R1 K1 V1
 go_wp2_with (fail)
 generalize w2.alloc (.cells #[.slice A0 d0.length c0, .slice A1 d1.length c1] 31) = w3 at I3 L3 ⊢
 generalize w2.heap.size = gd at L3 ⊢
 generalize gd + 1 = N3 at L3
 refine (spec_l20Rd_pick.calls k g s0_0 p1 6 kn p2 w0 _ I3.out L3.out.b HP.out).mono ?_
 rintro e w4 ⟨rfl, hi, hb, hk⟩
 have I4 := Aside0.mk hi
 have L4 := Aside0.mk (L3.out.but hk hb)
 clear hi hb hk I3 L3 w3 w2
 go_upto_region 3 with (fail)
 go_loopg [7] k (fun kq v7 w' => ∃ (x7 p : Int) (now : List S84) (past : List (List S84)) (N : Nat) (A0 : Option Addr) (c0 : Nat) (A1 : Option Addr) (c1 : Nat), v7 = .int .i64 x7 ∧ Aside0 (spec_l20Desk.l0 kq a1 x7 s0_0 p now past = some (r1, r2, r3)) ∧ Aside0 (kq ≤ k) ∧ Aside0 (LD w0 w w' g gd N A0 c0 now A1 c1 past) ∧ Aside0 (IsS104 w0 w' g s0_0 p))
 case atStart => exact ⟨kn, p2, d0, d1, N3, A0, c0, A1, c1, rfl, H3, ⟨Nat.le_refl _⟩, L4, I4⟩
 case round =>
  clear H3 L4 I4
  obtain ⟨x7, p, now, past, N, A0, c0, A1, c1, rfl, HA, HK1, HL, HI⟩ := hrel
  cases gk with
  | zero => exact absurd HA.out (by simp [spec_l20Desk.l0])
  | succ k1 =>
   have H := HA.out
   clear HA
   simp only [spec_l20Desk.l0] at H
   by_cases c3 : x7 > 0
   ·rw [if_pos c3] at H
    have f0 : decide (0 < x7) = true := decide_eq_true c3
    clear c3
    have h8 : past.length < 8 := Decidable.byContradiction fun hc => by rw [if_neg hc] at H; cases H
    rw [if_pos h8] at H
    obtain ⟨⟨kd, aa, ab, p2⟩, hDe, h1⟩ := Option.bind_eq_some_iff.mp H
    obtain ⟨⟨x0, x1, b⟩, hDo, h2⟩ := Option.bind_eq_some_iff.mp h1
    dsimp only at hDo h2
    have HDE := Aside0.mk hDe
    have HDO := Aside0.mk hDo
    have HH := Aside0.mk h2
    have H8 := Aside0.mk h8
    clear H h1 hDe hDo h2 h8
    go_wp2_with (fail)
    clear f0
    obtain ⟨ENV, hE, HL_, HBe, HCe, HOu⟩ : ∃ ENV : World → Prop, ENV wr.drew ∧ Aside0 (∀ W W', ENV W → Kept W W' (fun k => k = g ∨ wr.drew.heap.size ≤ k) → Below w0.heap.size w0 W' → ENV W') ∧ Aside0 (∀ W, ENV W → Below w0.heap.size w0 W) ∧ Aside0 (∀ W, ENV W → W.cell? ⟨gd, 0, none⟩ = some (.slice A0 now.length c0) ∧ W.cell? ⟨gd, 1, none⟩ = some (.slice A1 past.length c1)) ∧ Aside0 (∀ W, ENV W → LD w0 w W g gd wr.drew.heap.size A0 c0 now A1 c1 past) :=
     ⟨fun W => LD w0 w W g gd wr.drew.heap.size A0 c0 now A1 c1 past, (HL.out.up (N' := wr.drew.heap.size) (Nat.le_refl _)).below (below_drew1 (Below.refl wr.heap.size wr)), ⟨fun W W' h hk hb => h.kept hk hb⟩, ⟨fun W h => h.b⟩, ⟨fun W h => ⟨(blk_cell h.d 0).trans rfl, (blk_cell h.d 1).trans rfl⟩⟩, ⟨fun W h => h⟩⟩
    have hS : IsS104 w0 wr.drew g s0_0 p := HI.out.drew
    have HNN := Aside0.mk (HOu.out _ hE).n
    have HC56 : Aside0 (∀ W, ENV W → IsS104 w0 W g s0_0 p → Calls Tryz.prog 93 #[.pointer (some ⟨g, 0, none⟩), (.slice A0 now.length c0)] W fun e W' => e = .returned (.agg #[.int .i64 kd, .int .i64 aa, .int .i64 ab]) ∧ IsS104 w0 W' g s0_0 p2 ∧ Below w0.heap.size w0 W' ∧ KeepBut W W' g none) := ⟨fun W h hi => spec_l20Deed.calls k1 g s0_0 p A0 c0 now kd aa ab p2 w0 W hi (HBe.out _ h) (fun W' hk => (Kd.V_reads' (Kd.V_map (base' := 0) (HOu.out _ h).v (fun _ hf => Kd.F_step hf (fun k hk' hlt => hk.2 k hlt (by have := hk'.1.1; have := HNN.out; omega) Z33)))).2.2) (Kd.V_reads' (HOu.out _ h).v).2.1 HDE.out⟩
    have HC33 : Aside0 (∀ W, ENV W → Calls Tryz.prog 58 #[.agg #[(.slice A0 now.length c0), (.slice A1 past.length c1)], .agg #[.int .i64 kd, .int .i64 aa, .int .i64 ab]] W fun e W' => ∃ (B0 : Option Addr) (e0 : Nat) (B1 : Option Addr) (e1 : Nat), e = .returned (.tuple #[.agg #[.slice B0 x0.length e0, .slice B1 x1.length e1], .bool b]) ∧ Kd.V k84 84 W' 0 (fun k => ((w.heap.size < k ∧ k ≠ gd ∧ k < wr.drew.heap.size) ∨ W.heap.size ≤ k) ∧ some k ≠ (Value.slice B1 x1.length e1).ownBlock) (.slice B0 x0.length e0) x0 ∧ Kd.S (Kd.slice 84 k84) 28 W' W.heap.size (fun k => W.heap.size ≤ k) (.slice B1 x1.length e1) x1 ∧ Below W.heap.size W W') := ⟨fun W h => by
     have hl := HOu.out _ h
     refine (spec_DeskDo.calls k1 A0 c0 now A1 c1 past kd aa ab x0 x1 b W _ (Kd.V_mono hl.v (fun _ hk => hk.1)) (Kd.S_reads' hl.s).2.2 (Kd.S_reads' hl.s).2.1 HDO.out).mono ?_
     rintro e W' ⟨v0, v1, rfl, hv0, -, hs, hb⟩
     obtain ⟨B0, e0, rfl⟩ := Kd.V_slice hv0
     obtain ⟨B1, e1, rfl⟩ := Kd.S_slice (hs H8.out)
     exact ⟨B0, e0, B1, e1, rfl, hv0, hs H8.out, hb⟩⟩
    refine start_ (n := 12) (S := ENV) (ds := []) (bB 12 0) Z15 rfl Z15 hE (fun hHeld => ?_); refine with_tabW spec_l20Desk.tab5 spec_l20Desk.bits5 (fun HT_ HW_ => ?_)
    clear hE
    have hE := hHeld
    generalize wr.drew = wa at hE HL_ hHeld HC33 HC56 HOu HNN hS ⊢
    have hw : GE wa wa := ⟨Nat.le_refl _⟩
    refine take_ (i := 0) (N := some 23) (v := ?_) (a' := ?_) (bB 12 1) rfl rfl (take_ofW HT_.out HW_.out Z15) (fun _ _ _ h => h) (Or.inl ⟨Z90, ?_⟩) hHeld ?_ ?_
    rotate_left
    ·intro w' hE_
     obtain ⟨t0_, t1_⟩ := HCe.out w' hE_
     go_simp
     with_reducible rfl
    rotate_left
    ·simp only [putAll, Act.put, List.setIfInBounds_toArray, List.set_cons_zero, List.set_cons_succ, i64_w, i32_w]
     rfl
    refine pure_ (i := 1) (N := some 24) (v := ?_) (a' := ?_) (bB 12 3) rfl rfl (any_of HT_.out Z15) (fun _ _ _ h => h) (Or.inl ⟨Z90, ?_⟩) ?_ ?_
    rotate_left
    ·intro w'
     go_simp
     with_reducible rfl
    rotate_left
    ·simp only [putAll, Act.put, List.setIfInBounds_toArray, List.set_cons_zero, List.set_cons_succ, i64_w, i32_w]
     rfl
    refine pure_ (i := 2) (N := some 25) (v := ?_) (a' := ?_) (bB 12 7) rfl rfl (any_of HT_.out Z15) (fun _ _ _ h => h) (Or.inl ⟨Z90, ?_⟩) ?_ ?_
    rotate_left
    ·intro w'
     go_simp
     with_reducible rfl
    rotate_left
    ·simp only [putAll, Act.put, List.setIfInBounds_toArray, List.set_cons_zero, List.set_cons_succ, i64_w, i32_w]
     rfl
    refine take_ (i := 3) (N := some 26) (v := ?_) (a' := ?_) (bB 12 15) rfl rfl (take_ofW HT_.out HW_.out Z15) (fun _ _ _ h => h) (Or.inl ⟨Z90, ?_⟩) hHeld ?_ ?_
    rotate_left
    ·intro w' hE_
     obtain ⟨t0_, t1_⟩ := HCe.out w' hE_
     go_simp
     with_reducible rfl
    rotate_left
    ·simp only [putAll, Act.put, List.setIfInBounds_toArray, List.set_cons_zero, List.set_cons_succ, i64_w, i32_w]
     rfl
    refine join_ (σ := Value × Value × Nat) 2 (bB 12 1023) (fun s_ => [(27, .agg #[.int .i64 kd, .int .i64 aa, .int .i64 ab]), (28, .tuple #[.agg #[s_.1, s_.2.1], .bool b]), (8, .pointer (some ⟨s_.2.2, 0, none⟩)), (22, .tuple #[.agg #[s_.1, s_.2.1], .bool b]), (29, .agg #[s_.1, s_.2.1]), (30, .bool b)]) (fun s_ W => ENV W ∧ IsS104 w0 W g s0_0 p2 ∧ W.heap[s_.2.2]? = some (.cells #[.slice none 0 0, .slice none 0 0] 31 (0, 0)) ∧ wa.heap.size ≤ s_.2.2 ∧ Kd.V k84 84 W 0 (fun k => ((w.heap.size < k ∧ k ≠ gd) ∧ k ≠ s_.2.2) ∧ some k ≠ s_.2.1.ownBlock) s_.1 x0 ∧ Kd.S (Kd.slice 84 k84) 28 W w.heap.size (fun k => (w.heap.size < k ∧ k ≠ gd) ∧ k ≠ s_.2.2) s_.2.1 x1) ?_ ?_
    rotate_left
    ·intro hCont
     refine two_ (i := 4) (j := 9) (Ni := some 27) (Nj := some 8) (bB 12 31) (bB 12 527) rfl rfl rfl rfl (two_of HT_.out Z15) Z28 Z28 (fun K hK => ?_) (fun K hK => ?_)
     ·skip
      refine goes_ Tryz.func93 Z15 rfl #[.pointer (some ⟨g, 0, none⟩), (.slice A0 now.length c0)] Z90 rfl rfl Z23 ?_
      refine (HC56.out _ hE hS).mono ?_
      rintro e W_ ⟨rfl, hi_, hb0_, hk_⟩
      refine ⟨_, rfl, ?_⟩
      replace hS := hi_
      replace hE := HL_.out _ _ hE ⟨hk_.1, fun i hi hn => hk_.2 i hi (fun e => hn (.inl e)) Z33⟩ hb0_
      replace hw : GE wa W_ := ⟨Nat.le_trans hw.size hk_.1⟩
      clear hi_ hb0_ hk_
      refine hK.out _ _ hE (fun hHeld => ?_)
      clear hK K
      refine norm_ (a' := ?_) ?_ ?_
      rotate_left
      ·show Act.put _ (some 27) _ = _
       simp only [putAll, Act.put, List.setIfInBounds_toArray, List.set_cons_zero, List.set_cons_succ, i64_w, i32_w]
       rfl
      refine two_ (i := 5) (j := 9) (Ni := some 28) (Nj := some 8) (bB 12 63) (bB 12 543) rfl rfl rfl rfl (two_of HT_.out Z15) Z28 Z28 (fun K hK => ?_) (fun K hK => ?_)
      ·skip
       refine goes_ Tryz.func58 Z15 rfl #[.agg #[(.slice A0 now.length c0), (.slice A1 past.length c1)], .agg #[.int .i64 kd, .int .i64 aa, .int .i64 ab]] Z90 rfl rfl Z23 ?_
       refine (HC33.out _ hE).mono ?_
       rintro e W_ ⟨B0, e0, B1, e1, rfl, hv0, hs1, hb_⟩
       refine ⟨_, rfl, ?_⟩
       have hq := HNN.out
       have hqs := hw.size
       replace hv0 := Kd.V_mono (ok' := fun k => (w.heap.size < k ∧ k ≠ gd) ∧ some k ≠ (Value.slice B1 x1.length e1).ownBlock) hv0 (fun k hk => ⟨by have := hk.1; omega, hk.2⟩)
       replace hs1 := Kd.S_mono (ok' := fun k => w.heap.size < k ∧ k ≠ gd) (Kd.S_lower hs1 (by have := HNN.out; have := hw.size; omega : w.heap.size ≤ _)) (fun k hk => Z32)
       clear hq hqs
       replace hS := hS.below hb_
       replace hE := HL_.out _ _ hE (Kept.of_below hb_ _) (below_step (HBe.out _ hE) hb_)
       replace hw := GE.mk (Nat.le_trans hw.size hb_.size)
       clear hb_
       refine hK.out _ _ hE (fun hHeld => ?_)
       clear hK K
       refine norm_ (a' := ?_) ?_ ?_
       rotate_left
       ·show Act.put _ (some 28) _ = _
        simp only [putAll, Act.put, List.setIfInBounds_toArray, List.set_cons_zero, List.set_cons_succ, i64_w, i32_w]
        rfl
       refine pure_ (i := 6) (N := some 22) (v := ?_) (a' := ?_) (bB 12 127) rfl rfl (any_of HT_.out Z15) (fun _ _ _ h => h) (Or.inl ⟨Z90, ?_⟩) ?_ ?_
       rotate_left
       ·intro w'
        go_simp
        with_reducible rfl
       rotate_left
       ·simp only [putAll, Act.put, List.setIfInBounds_toArray, List.set_cons_zero, List.set_cons_succ, i64_w, i32_w]
        rfl
       refine pure_ (i := 7) (N := some 29) (v := ?_) (a' := ?_) (bB 12 255) rfl rfl (any_of HT_.out Z15) (fun _ _ _ h => h) (Or.inl ⟨Z90, ?_⟩) ?_ ?_
       rotate_left
       ·intro w'
        go_simp
        with_reducible rfl
       rotate_left
       ·simp only [putAll, Act.put, List.setIfInBounds_toArray, List.set_cons_zero, List.set_cons_succ, i64_w, i32_w]
        rfl
       refine pure_ (i := 8) (N := some 30) (v := ?_) (a' := ?_) (bB 12 511) rfl rfl (any_of HT_.out Z15) (fun _ _ _ h => h) (Or.inl ⟨Z90, ?_⟩) ?_ ?_
       rotate_left
       ·intro w'
        go_simp
        with_reducible rfl
       rotate_left
       ·simp only [putAll, Act.put, List.setIfInBounds_toArray, List.set_cons_zero, List.set_cons_succ, i64_w, i32_w]
        rfl
       refine one_ (i := 9) (N := some 8) (bB 12 1023) rfl rfl (one_of HT_.out Z15) Z28 (fun K hK => ?_)
       refine box_step ?hg (N := 8) ?hd (cs := #[.slice none 0 0, .slice none 0 0]) (t := 31) ?hr ?_; (case hd => exact Z90); (case hg => exact Z90); (case hr => exact Z29)
       intro g9 hg W_ hbox hb_
       have hgl : wa.heap.size ≤ g9 := Z87
       replace hv0 := Kd.V_below (Kd.V_mono (ok' := fun k => ((w.heap.size < k ∧ k ≠ gd) ∧ k ≠ g9) ∧ some k ≠ (Value.slice B1 x1.length e1).ownBlock) (Kd.V_map (base' := 0) hv0 (fun _ hf => Kd.F_bound hf)) (fun k hk => ⟨⟨hk.1.1, by have := hk.2; omega⟩, hk.1.2⟩)) hb_
       replace hs1 := Kd.S_below (Kd.S_mono (ok' := fun k => (w.heap.size < k ∧ k ≠ gd) ∧ k ≠ g9) (Kd.S_bound hs1) (fun k hk => ⟨hk.1, by have := hk.2.2.1; omega⟩)) hb_
       replace hS := hS.below hb_
       replace hE := HL_.out _ _ hE (Kept.of_below hb_ _) (below_step (HBe.out _ hE) hb_)
       replace hw := GE.mk (Nat.le_trans hw.size hb_.size)
       clear hb_ hg
       refine hK.out _ _ hE (fun hHeld => ?_)
       clear hK K
       refine norm_ (a' := ?_) ?_ ?_
       rotate_left
       ·show Act.put _ (some 8) _ = _
        simp only [putAll, Act.put, List.setIfInBounds_toArray, List.set_cons_zero, List.set_cons_succ, i64_w, i32_w]
        rfl
       exact norm_ Z44 (hCont (.slice B0 x0.length e0, .slice B1 x1.length e1, g9) _ ⟨hE, hS, hbox, hgl, hv0, hs1⟩)
      ·skip
       refine box_step ?hg (N := 8) ?hd (cs := #[.slice none 0 0, .slice none 0 0]) (t := 31) ?hr ?_; (case hd => exact Z90); (case hg => exact Z90); (case hr => exact Z29)
       intro g9 hg W_ hbox hb_
       have hgl : wa.heap.size ≤ g9 := Z87
       replace hS := hS.below hb_
       replace hE := HL_.out _ _ hE (Kept.of_below hb_ _) (below_step (HBe.out _ hE) hb_)
       replace hw := GE.mk (Nat.le_trans hw.size hb_.size)
       clear hb_ hg
       refine hK.out _ _ hE (fun hHeld => ?_)
       clear hK K
       refine norm_ (a' := ?_) ?_ ?_
       rotate_left
       ·show Act.put _ (some 8) _ = _
        simp only [putAll, Act.put, List.setIfInBounds_toArray, List.set_cons_zero, List.set_cons_succ, i64_w, i32_w]
        rfl
       refine one_ (i := 5) (N := some 28) (bB 12 575) rfl rfl (one_of HT_.out Z15) Z28 (fun K hK => ?_)
       refine goes_ Tryz.func58 Z15 rfl #[.agg #[(.slice A0 now.length c0), (.slice A1 past.length c1)], .agg #[.int .i64 kd, .int .i64 aa, .int .i64 ab]] Z90 rfl rfl Z23 ?_
       refine (HC33.out _ hE).mono ?_
       rintro e W_ ⟨B0, e0, B1, e1, rfl, hv0, hs1, hb_⟩
       refine ⟨_, rfl, ?_⟩
       have hq := HNN.out
       have hqs := hw.size
       have hql := blk_lt hbox
       replace hv0 := Kd.V_mono (ok' := fun k => ((w.heap.size < k ∧ k ≠ gd) ∧ k ≠ g9) ∧ some k ≠ (Value.slice B1 x1.length e1).ownBlock) hv0 (fun k hk => ⟨by have := hk.1; omega, hk.2⟩)
       replace hs1 := Kd.S_mono (ok' := fun k => (w.heap.size < k ∧ k ≠ gd) ∧ k ≠ g9) (Kd.S_lower hs1 (by have := HNN.out; have := hw.size; omega : w.heap.size ≤ _)) (fun k hk => Z32)
       clear hq hqs hql
       replace hbox := (hb_.block _ (blk_lt hbox)).trans hbox
       replace hS := hS.below hb_
       replace hE := HL_.out _ _ hE (Kept.of_below hb_ _) (below_step (HBe.out _ hE) hb_)
       replace hw := GE.mk (Nat.le_trans hw.size hb_.size)
       clear hb_
       refine hK.out _ _ hE (fun hHeld => ?_)
       clear hK K
       refine norm_ (a' := ?_) ?_ ?_
       rotate_left
       ·show Act.put _ (some 28) _ = _
        simp only [putAll, Act.put, List.setIfInBounds_toArray, List.set_cons_zero, List.set_cons_succ, i64_w, i32_w]
        rfl
       refine pure_ (i := 6) (N := some 22) (v := ?_) (a' := ?_) (bB 12 639) rfl rfl (any_of HT_.out Z15) (fun _ _ _ h => h) (Or.inl ⟨Z90, ?_⟩) ?_ ?_
       rotate_left
       ·intro w'
        go_simp
        with_reducible rfl
       rotate_left
       ·simp only [putAll, Act.put, List.setIfInBounds_toArray, List.set_cons_zero, List.set_cons_succ, i64_w, i32_w]
        rfl
       refine pure_ (i := 7) (N := some 29) (v := ?_) (a' := ?_) (bB 12 767) rfl rfl (any_of HT_.out Z15) (fun _ _ _ h => h) (Or.inl ⟨Z90, ?_⟩) ?_ ?_
       rotate_left
       ·intro w'
        go_simp
        with_reducible rfl
       rotate_left
       ·simp only [putAll, Act.put, List.setIfInBounds_toArray, List.set_cons_zero, List.set_cons_succ, i64_w, i32_w]
        rfl
       refine pure_ (i := 8) (N := some 30) (v := ?_) (a' := ?_) (bB 12 1023) rfl rfl (any_of HT_.out Z15) (fun _ _ _ h => h) (Or.inl ⟨Z90, ?_⟩) ?_ ?_
       rotate_left
       ·intro w'
        go_simp
        with_reducible rfl
       rotate_left
       ·simp only [putAll, Act.put, List.setIfInBounds_toArray, List.set_cons_zero, List.set_cons_succ, i64_w, i32_w]
        rfl
       exact norm_ Z44 (hCont (.slice B0 x0.length e0, .slice B1 x1.length e1, g9) _ ⟨hE, hS, hbox, hgl, hv0, hs1⟩)
     ·skip
      refine box_step ?hg (N := 8) ?hd (cs := #[.slice none 0 0, .slice none 0 0]) (t := 31) ?hr ?_; (case hd => exact Z90); (case hg => exact Z90); (case hr => exact Z29)
      intro g9 hg W_ hbox hb_
      have hgl : wa.heap.size ≤ g9 := Z87
      replace hS := hS.below hb_
      replace hE := HL_.out _ _ hE (Kept.of_below hb_ _) (below_step (HBe.out _ hE) hb_)
      replace hw := GE.mk (Nat.le_trans hw.size hb_.size)
      clear hb_ hg
      refine hK.out _ _ hE (fun hHeld => ?_)
      clear hK K
      refine norm_ (a' := ?_) ?_ ?_
      rotate_left
      ·show Act.put _ (some 8) _ = _
       simp only [putAll, Act.put, List.setIfInBounds_toArray, List.set_cons_zero, List.set_cons_succ, i64_w, i32_w]
       rfl
      refine one_ (i := 4) (N := some 27) (bB 12 543) rfl rfl (one_of HT_.out Z15) Z28 (fun K hK => ?_)
      refine goes_ Tryz.func93 Z15 rfl #[.pointer (some ⟨g, 0, none⟩), (.slice A0 now.length c0)] Z90 rfl rfl Z23 ?_
      refine (HC56.out _ hE hS).mono ?_
      rintro e W_ ⟨rfl, hi_, hb0_, hk_⟩
      refine ⟨_, rfl, ?_⟩
      replace hS := hi_
      have hgne : g9 ≠ g := Z35 HNN
      replace hbox := (hk_.2 _ (blk_lt hbox) hgne Z33).trans hbox
      clear hgne
      replace hE := HL_.out _ _ hE ⟨hk_.1, fun i hi hn => hk_.2 i hi (fun e => hn (.inl e)) Z33⟩ hb0_
      replace hw : GE wa W_ := ⟨Nat.le_trans hw.size hk_.1⟩
      clear hi_ hb0_ hk_
      refine hK.out _ _ hE (fun hHeld => ?_)
      clear hK K
      refine norm_ (a' := ?_) ?_ ?_
      rotate_left
      ·show Act.put _ (some 27) _ = _
       simp only [putAll, Act.put, List.setIfInBounds_toArray, List.set_cons_zero, List.set_cons_succ, i64_w, i32_w]
       rfl
      refine one_ (i := 5) (N := some 28) (bB 12 575) rfl rfl (one_of HT_.out Z15) Z28 (fun K hK => ?_)
      refine goes_ Tryz.func58 Z15 rfl #[.agg #[(.slice A0 now.length c0), (.slice A1 past.length c1)], .agg #[.int .i64 kd, .int .i64 aa, .int .i64 ab]] Z90 rfl rfl Z23 ?_
      refine (HC33.out _ hE).mono ?_
      rintro e W_ ⟨B0, e0, B1, e1, rfl, hv0, hs1, hb_⟩
      refine ⟨_, rfl, ?_⟩
      have hq := HNN.out
      have hqs := hw.size
      have hql := blk_lt hbox
      replace hv0 := Kd.V_mono (ok' := fun k => ((w.heap.size < k ∧ k ≠ gd) ∧ k ≠ g9) ∧ some k ≠ (Value.slice B1 x1.length e1).ownBlock) hv0 (fun k hk => ⟨by have := hk.1; omega, hk.2⟩)
      replace hs1 := Kd.S_mono (ok' := fun k => (w.heap.size < k ∧ k ≠ gd) ∧ k ≠ g9) (Kd.S_lower hs1 (by have := HNN.out; have := hw.size; omega : w.heap.size ≤ _)) (fun k hk => Z32)
      clear hq hqs hql
      replace hbox := (hb_.block _ (blk_lt hbox)).trans hbox
      replace hS := hS.below hb_
      replace hE := HL_.out _ _ hE (Kept.of_below hb_ _) (below_step (HBe.out _ hE) hb_)
      replace hw := GE.mk (Nat.le_trans hw.size hb_.size)
      clear hb_
      refine hK.out _ _ hE (fun hHeld => ?_)
      clear hK K
      refine norm_ (a' := ?_) ?_ ?_
      rotate_left
      ·show Act.put _ (some 28) _ = _
       simp only [putAll, Act.put, List.setIfInBounds_toArray, List.set_cons_zero, List.set_cons_succ, i64_w, i32_w]
       rfl
      refine pure_ (i := 6) (N := some 22) (v := ?_) (a' := ?_) (bB 12 639) rfl rfl (any_of HT_.out Z15) (fun _ _ _ h => h) (Or.inl ⟨Z90, ?_⟩) ?_ ?_
      rotate_left
      ·intro w'
       go_simp
       with_reducible rfl
      rotate_left
      ·simp only [putAll, Act.put, List.setIfInBounds_toArray, List.set_cons_zero, List.set_cons_succ, i64_w, i32_w]
       rfl
      refine pure_ (i := 7) (N := some 29) (v := ?_) (a' := ?_) (bB 12 767) rfl rfl (any_of HT_.out Z15) (fun _ _ _ h => h) (Or.inl ⟨Z90, ?_⟩) ?_ ?_
      rotate_left
      ·intro w'
       go_simp
       with_reducible rfl
      rotate_left
      ·simp only [putAll, Act.put, List.setIfInBounds_toArray, List.set_cons_zero, List.set_cons_succ, i64_w, i32_w]
       rfl
      refine pure_ (i := 8) (N := some 30) (v := ?_) (a' := ?_) (bB 12 1023) rfl rfl (any_of HT_.out Z15) (fun _ _ _ h => h) (Or.inl ⟨Z90, ?_⟩) ?_ ?_
      rotate_left
      ·intro w'
       go_simp
       with_reducible rfl
      rotate_left
      ·simp only [putAll, Act.put, List.setIfInBounds_toArray, List.set_cons_zero, List.set_cons_succ, i64_w, i32_w]
       rfl
      exact norm_ Z44 (hCont (.slice B0 x0.length e0, .slice B1 x1.length e1, g9) _ ⟨hE, hS, hbox, hgl, hv0, hs1⟩)
    clear hE hS hw hHeld
    rintro ⟨u0, u1, g9⟩ W ⟨hE, hS, hbox, hgl, hv0, hs1⟩
    dsimp only at hbox hgl hv0 hs1
    obtain ⟨B0, e0, rfl⟩ := Kd.V_slice hv0
    obtain ⟨B1, e1, rfl⟩ := Kd.S_slice hs1
    have HHE := Aside0.mk hE
    have HV0 := Aside0.mk hv0
    have HV1 := Aside0.mk hs1
    have HGL := Aside0.mk hgl
    have HS := Aside0.mk hS
    clear hE hv0 hs1 hgl hS
    refine norm_ (a' := ?_) ?_ ?_
    rotate_left
    ·simp only [putAll, Act.put, List.setIfInBounds_toArray, List.set_cons_zero, List.set_cons_succ]
     rfl
    refine one_ (i := 10) (N := none) (bB 12 2047) rfl rfl (one_of HT_.out Z15) Z28 (fun K hK => ?_)
    have hs0 : W.cell? ⟨g9, 0, none⟩ = some (.slice none 0 0) := (blk_cell hbox 0).trans rfl
    have hs1 : W.cell? ⟨g9, 1, none⟩ = some (.slice none 0 0) := (blk_cell hbox 1).trans rfl
    have hf0 := blk_frozen hbox 0
    have hf1 := blk_frozen hbox 1
    have HHB := Aside0.mk hbox
    clear hbox
    refine skip_ (w1 := ?_) Z90 rfl ?_ ?_
    rotate_left
    ·go_simp
     rfl
    have hE := HL_.out _ _ HHE.out (Kept.setCell (Kept.setCell (Kept.refl W _) (p := ⟨g9, 0, none⟩) (.inl (.inr HGL.out)) (.slice B0 x0.length e0)) (p := ⟨g9, 1, none⟩) (.inl (.inr HGL.out)) (.slice B1 x1.length e1)) (below_set (below_set (HBe.out _ HHE.out) (Z69 HGL HNN)) (Z69 HGL HNN))
    refine hK.out _ _ hE (fun hHeld => ?_)
    clear hK K hHeld hs0 hs1 hf0 hf1
    refine pure_ (i := 11) (N := some 9) (v := ?_) (a' := ?_) (bB 12 4095) rfl rfl (any_of HT_.out Z15) (fun _ _ _ h => h) (Or.inl ⟨Z90, ?_⟩) ?_ ?_
    rotate_left
    ·intro w'
     go_simp
     with_reducible rfl
    rotate_left
    ·simp only [putAll, Act.put, List.setIfInBounds_toArray, List.set_cons_zero, List.set_cons_succ, i64_w, i32_w]
     rfl
    refine done_ (done_of HT_.out Z15) ?_
    have G6 := Aside0.mk (res_put (x := (.slice B0 x0.length e0)) (y := (.slice B1 x1.length e1)) HHB.out)
    have EN := Aside0.mk (HOu.out _ hE)
    have hg9 : g ≠ g9 := by have h1 := HGL.out; have h2 := HNN.out; omega
    have S6 := Aside0.mk ((HS.out.far (p := ⟨g9, 0, none⟩) hg9 (.slice B0 x0.length e0)).far (p := ⟨g9, 1, none⟩) hg9 (.slice B1 x1.length e1))
    have V6 := Aside0.mk (Kd.V_mono (ok' := fun k => (w.heap.size < k ∧ k ≠ gd) ∧ some k ≠ (Value.slice B1 x1.length e1).ownBlock) (Kd.V_far (p := ⟨g9, 1, none⟩) (Kd.V_far (p := ⟨g9, 0, none⟩) HV0.out (fun k hk => hk.1.2) (.slice B0 x0.length e0)) (fun k hk => hk.1.2) (.slice B1 x1.length e1)) (fun k hk => ⟨hk.1.1, hk.2⟩))
    have U6 := Aside0.mk (Kd.S_mono (ok' := fun k => w.heap.size < k ∧ k ≠ gd) (Kd.S_far (p := ⟨g9, 1, none⟩) (Kd.S_far (p := ⟨g9, 0, none⟩) HV1.out (fun k hk => hk.2) (.slice B0 x0.length e0)) (fun k hk => hk.2) (.slice B1 x1.length e1)) (fun k hk => hk.1))
    have hng : gd ≠ g9 := by have h1 := HGL.out; have h2 := HNN.out; omega
    have hng' : g9 ≠ gd := fun h => hng h.symm
    generalize (W.setCell ⟨g9, 0, none⟩ (.slice B0 x0.length e0)).setCell ⟨g9, 1, none⟩ (.slice B1 x1.length e1) = w6 at G6 EN V6 U6 S6 ⊢
    clear hE HHE HHB HV0 HV1 HL_ HBe HCe HOu HC33 HC56 HT_ HW_ hg9 HS
    have hg0 : w6.cell? ⟨g9, 0, none⟩ = some (.slice B0 x0.length e0) := (blk_cell G6.out 0).trans rfl
    have hg1 : w6.cell? ⟨g9, 1, none⟩ = some (.slice B1 x1.length e1) := (blk_cell G6.out 1).trans rfl
    have hd0 : w6.cell? ⟨gd, 0, none⟩ = some (.slice A0 now.length c0) := (blk_cell EN.out.d 0).trans rfl
    have hd1 : w6.cell? ⟨gd, 1, none⟩ = some (.slice A1 past.length c1) := (blk_cell EN.out.d 1).trans rfl
    have hf0 := blk_frozen EN.out.d 0
    have hf1 := blk_frozen EN.out.d 1
    cases b with
    | true =>
     have HH2 := Aside0.mk (show spec_l20Desk.l0 k1 a1 (wrap64 (x7 - 1)) s0_0 p2 x0 x1 = some (r1, r2, r3) from HH.out)
     go_wp2_with (fail)
     go_roundg k1
     case measure => have := HK1.out; omega
     case rel =>
      have hn := HNN.out
      have hgn : g ≠ gd := Z32
      refine ⟨wrap64 (x7 - 1), p2, x0, x1, w6.heap.size, B0, e0, B1, e1, Z14, HH2, ⟨Z35 HK1⟩, ⟨?_⟩, ⟨(S6.out.far (p := ⟨gd, 0, none⟩) hgn _).far (p := ⟨gd, 1, none⟩) hgn _⟩⟩
      refine ⟨res_put EN.out.d, blk_far (p := ⟨gd, 1, none⟩) (blk_far (p := ⟨gd, 0, none⟩) EN.out.r (by show w.heap.size ≠ gd; omega) _) (by show w.heap.size ≠ gd; omega) _, Kd.V_mono (Kd.V_far (p := ⟨gd, 1, none⟩) (Kd.V_far (p := ⟨gd, 0, none⟩) (Kd.V_map (base' := 0) V6.out (fun _ hf => Kd.F_bound hf)) (fun k hk => hk.1.1.2) _) (fun k hk => hk.1.1.2) _) (fun k hk => ⟨⟨hk.1.1.1, hk.1.1.2, hk.2⟩, hk.1.2⟩), Kd.S_mono (Kd.S_far (p := ⟨gd, 1, none⟩) (Kd.S_far (p := ⟨gd, 0, none⟩) (Kd.S_bound U6.out) (fun k hk => hk.1.2) _) (fun k hk => hk.1.2) _) (fun k hk => ⟨hk.1.1, hk.1.2, hk.2.2.1⟩), below_set (below_set EN.out.b Z32) Z32, Kept.setCell (Kept.setCell EN.out.k (.inr (by show w.heap.size ≤ gd; omega)) _) (.inr (by show w.heap.size ≤ gd; omega)) _, ⟨hn.1, hn.2.1, hn.2.2.1, by have := blk_lt EN.out.d; omega⟩⟩
    | false =>
     have HH2 := Aside0.mk (show spec_l20Desk.l0 k1 a1 (wrap64 (x7 - 1)) s0_0 p2 now past = some (r1, r2, r3) from HH.out)
     go_wp2_with (fail)
     go_roundg k1
     case measure => have := HK1.out; omega
     case rel => exact ⟨wrap64 (x7 - 1), p2, now, past, _, A0, c0, A1, c1, Z14, HH2, ⟨Z35 HK1⟩, EN, S6⟩
   ·rw [if_neg c3] at H
    have f0 : decide (0 < x7) = false := decide_eq_false c3
    clear c3
    obtain ⟨⟨o, q1⟩, hO, h1⟩ := Option.bind_eq_some_iff.mp H
    dsimp only at h1
    have HO := Aside0.mk hO
    clear H hO
    go_wp2_with (fail)
    refine (spec_l20Rd_odd.calls k1 g s0_0 p a1 o q1 w0 _ HI.out HL.out.b HO.out).mono ?_
    rintro e w5 ⟨rfl, hi, hb, hk⟩
    have I5 := Aside0.mk hi
    have L5 := Aside0.mk (HL.out.but hk hb)
    clear hi hb hk f0 HI HL
    have hn5 : w.heap.size ≠ gd := by have := L5.out.n; omega
    have hn5' : gd ≠ w.heap.size := fun h => hn5 h.symm
    have hd0 : w5.cell? ⟨gd, 0, none⟩ = some (.slice A0 now.length c0) := (blk_cell L5.out.d 0).trans rfl
    have hd1 : w5.cell? ⟨gd, 1, none⟩ = some (.slice A1 past.length c1) := (blk_cell L5.out.d 1).trans rfl
    have hr0 : w5.cell? ⟨w.heap.size, 0, none⟩ = some (.slice none 0 0) := (blk_cell L5.out.r 0).trans rfl
    have hr1 : w5.cell? ⟨w.heap.size, 1, none⟩ = some (.slice none 0 0) := (blk_cell L5.out.r 1).trans rfl
    have hf0 := blk_frozen L5.out.r 0
    have hf1 := blk_frozen L5.out.r 1
    cases o with
    | false =>
     rw [if_neg Z33] at h1
     simp only [Option.some.injEq, Prod.mk.injEq] at h1
     obtain ⟨rfl, rfl, rfl⟩ := h1
     go_wp2
     refine bodyPost_ret (results_cell_row rfl _ _ w.heap.size 31 #[(.slice A0 now.length c0), (.slice A1 past.length c1)] (0, 0) _ rfl (res_put L5.out.r) Tryz.underlying31 rfl Z15) rfl ?_
     exact L5.out.ends I5.out
    | true =>
     rw [if_pos rfl] at h1
     obtain ⟨⟨v, q2⟩, hP, h2⟩ := Option.bind_eq_some_iff.mp h1
     dsimp only at h2
     have HP2 := Aside0.mk hP
     clear h1 hP hd0 hd1 hr0 hr1 hf0 hf1
     go_wp2_with (fail)
     refine (spec_l20Rd_pick.calls k1 g s0_0 q1 2 v q2 w0 _ I5.out L5.out.b HP2.out).mono ?_
     rintro e w6 ⟨rfl, hi, hb, hk⟩
     have I6 := Aside0.mk hi
     have L6 := Aside0.mk ((L5.out.but hk hb).up (N' := w6.heap.size) (Nat.le_refl _))
     clear hi hb hk I5 L5
     by_cases hv : v = 0
     ·rw [if_pos hv] at h2
      subst hv
      simp only [Option.some.injEq, Prod.mk.injEq] at h2
      obtain ⟨rfl, rfl, rfl⟩ := h2
      go_wp2_with (first
       | ((with_reducible refine gate_dst (N := 40) rfl ?_); refine Kd.R_lit k84 (w0 := w6) w6.heap.size 84 ?hg (N := 40) ?hd (xs := ([(⟨0, 10⟩ : S84)] : List (S84))) (inner := [.int .i64 0, .int .i64 10]) (ok := fun _ => True) (okp := fun _ => True) ?hr ?hp (fun _ hk => hk) trivial (Below.refl _ _) (Nat.le_refl _) Z33 ?_; (case hd => exact Z90); (case hg => exact Z90); (case hr => exact Z29); (case hp => exact (Reps.c2 (show Kd.M k84 _ _ _ (⟨0, 10⟩ : S84) [.int .i64 0, .int .i64 10] from (k84_mkM _ _ _ (⟨0, 10⟩ : S84))) (Reps.none _ _))); intro v7 w7 ho hb hg_ hnew_; have I7 := Aside0.mk (I6.out.below hb); have L7 := Aside0.mk (L6.out.below hb); have O7 := Aside0.mk ho; have B7 := Aside0.mk hb.size; obtain ⟨A7, c7, e7⟩ := Kd.R_slice ho; subst e7; clear ho hb hg_ hnew_; have hd0 : w7.cell? ⟨gd, 0, none⟩ = some (.slice A0 now.length c0) := (blk_cell L7.out.d 0).trans rfl; have hd1 : w7.cell? ⟨gd, 1, none⟩ = some (.slice A1 past.length c1) := (blk_cell L7.out.d 1).trans rfl; have hg0 := blk_frozen L7.out.d 0; have hg1 := blk_frozen L7.out.d 1; have hr0 : w7.cell? ⟨w.heap.size, 0, none⟩ = some (.slice none 0 0) := (blk_cell L7.out.r 0).trans rfl; have hr1 : w7.cell? ⟨w.heap.size, 1, none⟩ = some (.slice none 0 0) := (blk_cell L7.out.r 1).trans rfl; have hf0 := blk_frozen L7.out.r 0; have hf1 := blk_frozen L7.out.r 1)
      )
      go_wp2
      have hn := L7.out.n
      have hgn : g ≠ gd := Z32
      have LZ : LD w0 w (w7.setCell ⟨gd, 0, none⟩ (.slice A7 ([(⟨0, 10⟩ : S84)] : List S84).length c7)) g gd w7.heap.size A7 c7 ([(⟨0, 10⟩ : S84)] : List S84) A1 c1 past := by
       refine ⟨blk_put (cs := #[.slice A0 now.length c0, .slice A1 past.length c1]) L7.out.d 0 _ rfl, blk_far (p := ⟨gd, 0, none⟩) L7.out.r (by show w.heap.size ≠ gd; omega) _, ?_, Kd.S_mono (Kd.S_far (p := ⟨gd, 0, none⟩) L7.out.s (fun k hk => hk.2.1) _) (fun k hk => ⟨hk.1, hk.2.1, by have := hk.2.2; have := B7.out; omega⟩), below_set L7.out.b Z32, Kept.setCell L7.out.k (.inr (by show w.heap.size ≤ gd; omega)) _, ⟨hn.1, hn.2.1, hn.2.2.1, Z35 B7⟩⟩
       have h7 := Kd.R_bound O7.out
       refine Kd.V_far (p := ⟨gd, 0, none⟩) (Kd.V_mono (Kd.R_V (base' := 0) h7) (fun k hk => ⟨⟨by have := hk.2.1; omega, by have := hk.2.1; omega, hk.2.2.1⟩, fun e => ?_⟩)) (fun k hk => hk.1.2.1) _
       have := ((Kd.S_R L6.out.s).1 k e.symm).2.2
       have := hk.2.1
       omega
      refine bodyPost_ret (results_cell_row rfl _ _ w.heap.size 31 #[.slice A7 ([(⟨0, 10⟩ : S84)] : List S84).length c7, (.slice A1 past.length c1)] (0, 0) _ rfl (res_put LZ.r) Tryz.underlying31 rfl Z15) rfl ?_
      exact LZ.ends (I7.out.far (p := ⟨gd, 0, none⟩) hgn _)
     ·rw [if_neg hv] at h2
      have hbig : past.length < 5864062014805 := Decidable.byContradiction fun hc => by rw [if_neg hc] at h2; cases h2
      rw [if_pos hbig] at h2
      simp only [Option.some.injEq, Prod.mk.injEq] at h2
      obtain ⟨rfl, rfl, rfl⟩ := h2
      have fv : (v == 0) = false := beq_eq_false_iff_ne.mpr hv
      have HBIG := Aside0.mk hbig
      obtain ⟨y, hy⟩ : ∃ y, y = past ++ [[(⟨0, 0⟩ : S84)]] := ⟨_, rfl⟩
      have HY := Aside0.mk hy
      clear hbig hv hy
      have hd0 : w6.cell? ⟨gd, 0, none⟩ = some (.slice A0 now.length c0) := (blk_cell L6.out.d 0).trans rfl
      have hd1 : w6.cell? ⟨gd, 1, none⟩ = some (.slice A1 past.length c1) := (blk_cell L6.out.d 1).trans rfl
      go_wp2_with (first
       | ((with_reducible refine gate_dst (N := 45) rfl ?_); refine Kd.R_lit k84 (w0 := w6) w6.heap.size 84 ?hg (N := 45) ?hd (xs := ([(⟨0, 0⟩ : S84)] : List (S84))) (inner := [.int .i64 0, .int .i64 0]) (ok := fun _ => True) (okp := fun _ => True) ?hr ?hp (fun _ hk => hk) trivial (Below.refl _ _) (Nat.le_refl _) Z33 ?_; (case hd => exact Z90); (case hg => exact Z90); (case hr => exact Z29); (case hp => exact (Reps.c2 (show Kd.M k84 _ _ _ (⟨0, 0⟩ : S84) [.int .i64 0, .int .i64 0] from (k84_mkM _ _ _ (⟨0, 0⟩ : S84))) (Reps.none _ _))); intro v7 w7 ho hb hg_ hnew_; clear hd0 hd1; have I7 := Aside0.mk (I6.out.below hb); have L7 := Aside0.mk (L6.out.below hb); have O7 := Aside0.mk ho; have B7 := Aside0.mk hb.size; obtain ⟨A7, c7, e7⟩ := Kd.R_slice ho; subst e7; clear ho hb hg_ hnew_; have hd0 : w7.cell? ⟨gd, 0, none⟩ = some (.slice A0 now.length c0) := (blk_cell L7.out.d 0).trans rfl; have hd1 : w7.cell? ⟨gd, 1, none⟩ = some (.slice A1 past.length c1) := (blk_cell L7.out.d 1).trans rfl; have hg0 := blk_frozen L7.out.d 0; have hg1 := blk_frozen L7.out.d 1; have hr0 : w7.cell? ⟨w.heap.size, 0, none⟩ = some (.slice none 0 0) := (blk_cell L7.out.r 0).trans rfl; have hr1 : w7.cell? ⟨w.heap.size, 1, none⟩ = some (.slice none 0 0) := (blk_cell L7.out.r 1).trans rfl; have hf0 := blk_frozen L7.out.r 0; have hf1 := blk_frozen L7.out.r 1; have N7 : Aside0 (∀ k, (Value.slice A7 ([(⟨0, 0⟩ : S84)] : List S84).length c7).ownBlock = some k → (w.heap.size < k ∧ k ≠ gd) ∧ some k ≠ (Value.slice A1 past.length c1).ownBlock ∧ w6.heap.size ≤ k) := ⟨fun k hk => by have hb7 := Kd.R_base O7.out k hk; have hn := L6.out.n; have hs := (Kd.S_R L6.out.s).1; exact ⟨⟨Z32, Z32⟩, fun e => by have := (hs k e.symm).2.2; omega, hb7⟩⟩)
       | ((with_reducible refine gate_builtin (b := .append) (xs := #[.tmp 43, .tmp 46]) rfl ?_); at_builtin; refine Kd.S_append (Kd.slice 84 k84) (w0 := w7) w.heap.size rfl (.tmp 43) (.tmp 46) 29 28 (.slice none 0 0) 24 rfl Tryz.underlying29 info28 rfl Z28 Z32 (.slice A1 past.length c1) past [(⟨0, 0⟩ : S84)] [.slice A7 ([(⟨0, 0⟩ : S84)] : List S84).length c7] (fun k => w.heap.size < k ∧ k ≠ gd) (fun k => (Value.slice A7 ([(⟨0, 0⟩ : S84)] : List S84).length c7).ownBlock = some k) rfl rfl ?aP ?aK ?aF ?aO (Below.refl _ _) ?aZ ?aL ?_; (case aP => exact Kd.M_row (Kd.R_lower (k84_own O7.out) (by have := L6.out.k.1; omega))); (case aK => exact fun k hk => ⟨(N7.out k hk).1, (N7.out k hk).2.1⟩); (case aF => exact fun k hk => by have := L7.out.n; have := blk_lt L7.out.d; omega); (case aO => exact Kd.S_mono L7.out.s (fun k hk => ⟨⟨hk.1, hk.2.1⟩, fun e => by have h1 := (N7.out k e).2.2; have h2 := hk.2.2; omega⟩)); (case aZ => exact L7.out.k.1); (case aL => exact Z35 HBIG); intro v9 w9 ho hb hg hat; rw [← HY.out] at ho; have O9 := Aside0.mk ho; have HG9 := Aside0.mk hg; have HT9 := Aside0.mk hat; have HB9 := Aside0.mk hb; obtain ⟨A9, c9, e9⟩ := Kd.S_slice ho; subst e9; have D9 := Aside0.mk ((hg.block _ (blk_lt L7.out.d) (Kd.S_ne L7.out.s L7.out.d Z28)).trans L7.out.d); have R9 := Aside0.mk ((hg.block _ (blk_lt L7.out.r) (Kd.S_ne L7.out.s L7.out.r Z28)).trans L7.out.r); clear ho hb hg hat hd0 hd1 hr0 hr1 hf0 hf1 hg0 hg1; have hd0 : w9.cell? ⟨gd, 0, none⟩ = some (.slice A0 now.length c0) := (blk_cell D9.out 0).trans rfl; have hd1 : w9.cell? ⟨gd, 1, none⟩ = some (.slice A1 past.length c1) := (blk_cell D9.out 1).trans rfl; have hg0 := blk_frozen D9.out 0; have hg1 := blk_frozen D9.out 1; have hr0 : w9.cell? ⟨w.heap.size, 0, none⟩ = some (.slice none 0 0) := (blk_cell R9.out 0).trans rfl; have hr1 : w9.cell? ⟨w.heap.size, 1, none⟩ = some (.slice none 0 0) := (blk_cell R9.out 1).trans rfl; have hf0 := blk_frozen R9.out 0; have hf1 := blk_frozen R9.out 1))
      go_wp2
      have hn := L7.out.n
      have hgn : g ≠ gd := Z32
      have K9 : Kept w7 w9 (fun k => w.heap.size ≤ k) := ⟨HB9.out.size, fun i hi hne => HB9.out.block i Z32⟩
      have LZ : LD w0 w (w9.setCell ⟨gd, 1, none⟩ (.slice A9 y.length c9)) g gd w9.heap.size A0 c0 now A9 c9 y := by
       refine ⟨blk_put (cs := #[.slice A0 now.length c0, .slice A1 past.length c1]) D9.out 1 _ rfl, blk_far (p := ⟨gd, 1, none⟩) R9.out (by show w.heap.size ≠ gd; omega) _, Kd.V_far (p := ⟨gd, 1, none⟩) (Kd.V_mono (Kd.V_after (ok := fun k => w.heap.size < k ∧ k ≠ gd ∧ k < w6.heap.size) L7.out.v HG9.out HT9.out) (fun k hk => ⟨⟨hk.1.1, hk.1.2.1, by have := hk.1.2.2; have := B7.out; have := K9.1; omega⟩, hk.2⟩)) (fun k hk => hk.1.2.1) _, Kd.S_far (p := ⟨gd, 1, none⟩) (Kd.S_mono (Kd.S_bound O9.out) (fun k hk => ⟨hk.1.1, hk.1.2, hk.2.2.1⟩)) (fun k hk => hk.2.1) _, below_set (L7.out.b.trans (HB9.out.mono Z32)) Z32, Kept.setCell (L7.out.k.then_ K9 (fun k hk => .inr hk)) (.inr (by show w.heap.size ≤ gd; omega)) _, ⟨hn.1, hn.2.1, hn.2.2.1, blk_lt D9.out⟩⟩
      refine bodyPost_ret (results_cell_row rfl _ _ w.heap.size 31 #[(.slice A0 now.length c0), .slice A9 y.length c9] (0, 0) _ rfl (res_put LZ.r) Tryz.underlying31 rfl Z15) rfl ?_
      rw [← HY.out]
      exact LZ.ends ((I7.out.kept K9 Z32).far (p := ⟨gd, 1, none⟩) hgn _)

end Go.Proofs.YtmmoojkhlkjdkaaGreatDoor.PFnReadJournal
