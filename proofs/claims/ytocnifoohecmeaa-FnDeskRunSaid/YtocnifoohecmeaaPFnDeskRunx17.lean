-- Printed by this claim's own program; Lean checks it.
import Derived.Test.YtocnifoohecmeaaPFnDeskRunx0
import Derived.Test.YtocnifoohecmeaaPFnDeskRunx5
import Derived.Test.YtocnifoohecmeaaPFnDeskRunx6
import Derived.Test.YtocnifoohecmeaaPFnDeskRunx10
namespace Go.Proofs.Ytocnifoohecmeaa.PFnDeskRun
open Go.RowKit Go.Proofs.YtocnifoohecmeaaW.PrintWords Go.Proofs.YtocnifoohecmeaaW.PrintLast Go.Proofs.YtocnifoohecmeaaW.PrintMore
attribute [local go_sem] max2_int min2_int max_two min_two max_three min_three max_four min_four   -- for this text's walks alone
set_option linter.unusedVariables false
set_option linter.unusedSimpArgs false

/-! ### spec_DeskRun: function 38 (by hand) -/
def spec_DeskRun.go (k : Nat) : List S52 → List S50 → List (List S50) → Int → Option (List S50 × List (List S50) × Int)
  | [], now, past, n => some (now, past, n)
  | d :: ds, now, past, n => (spec_DeskDo.f k now past d.f0 d.f1 d.f2).bind fun R => if R.2.2 = true then spec_DeskRun.go k ds R.1 R.2.1 (n + 1) else spec_DeskRun.go k ds now past n
def spec_DeskRun.f (k : Nat) (l0 : List S50) (l1 : List (List S50)) (l2 : List S52) : Option (List S50 × List (List S50) × Int) :=
  (spec_DeskOk.f k l0 l1).bind fun ok => if ok = false then some ([], [], 0) else if 40 < l2.length then some ([], [], 0) else (spec_l12Copy.f k l0 l1).bind fun S => spec_DeskRun.go k l2 S.1 S.2 0
theorem spec_DeskRun.mono_go : ∀ ds now past n k, LeO (spec_DeskRun.go k ds now past n) (spec_DeskRun.go (k + 1) ds now past n)
  | [], _, _, _, _ => LeO.refl _
  | d :: ds, now, past, n, k => LeO.bind (spec_DeskDo.mono _ _ _ _ _ _) (fun R => LeO.ite (spec_DeskRun.mono_go ds _ _ _ k) (spec_DeskRun.mono_go ds _ _ _ k))
def spec_DeskRun.T8 : Bool × List (List Nat × List Nat) := (true, [([], []), ([], []), ([], []), ([1, 2], [1, 2]), ([3], [3]), ([0, 4], [0, 4]), ([5], [5]), ([6], [6]), ([6], [6]), ([], []), ([9, 7, 5, 0, 1, 2, 3, 4, 5, 6, 7, 9], [7, 9]), ([8, 10, 0, 1, 2, 3, 4, 5, 6, 7, 8, 9, 10], [8])])
def spec_DeskRun.B8 : List Nat := [0, 0, 0, 6, 14, 31, 63, 127, 127, 0, 767, 2047]
theorem spec_DeskRun.tab8 : rtab .any (opsOf Try.f38 8) = spec_DeskRun.T8 := by kernel_rfl
theorem spec_DeskRun.bits8 : waitsOk spec_DeskRun.T8.2 spec_DeskRun.B8 = true := by kernel_rfl
set_option maxHeartbeats 8000000 in
set_option maxRecDepth 100000 in
theorem spec_DeskRun.calls (k : Nat) (A0_0 : Option Addr) (c0_0 : Nat) (l0_0 : List (S50)) (A0_1 : Option Addr) (c0_1 : Nat) (l0_1 : List (List (S50))) (A1 : Option Addr) (c1 : Nat) (l1 : List S52) (r1 : List (S50)) (r2 : List (List (S50))) (r3 : Int) (w : World) (hr0_0 : Kd.C k50 w A0_0 l0_0.length l0_0) (hc0_0 : l0_0.length ≤ c0_0) (hr0_1 : Kd.C (Kd.slice 50 k50) w A0_1 l0_1.length l0_1) (hc0_1 : l0_1.length ≤ c0_1) (hr1 : Kd.C k52 w A1 l1.length l1) (hc1 : l1.length ≤ c1) (h : spec_DeskRun.f k l0_0 l0_1 l1 = some (r1, r2, r3)) :
 Calls Try.prog 38 #[.agg #[.slice A0_0 l0_0.length c0_0, .slice A0_1 l0_1.length c0_1], .slice A1 l1.length c1] w fun e w' => ∃ v0_ v1_ : Value, e = .returned (.tuple #[.agg #[v0_, v1_], .int .i64 r3]) ∧ Kd.V k50 50 w' 0 (fun k_ => w.heap.size ≤ k_) v0_ r1 ∧ Kd.V (Kd.slice 50 k50) 23 w' 0 (fun k_ => w.heap.size ≤ k_) v1_ r2 ∧ Below w.heap.size w w' := by
 have hu27 := Try.underlying27
 have hu52 := Try.underlying52
 unfold spec_DeskRun.f at h
 obtain ⟨okd, hOK, h1⟩ := Option.bind_eq_some_iff.mp h
 have HOK := Aside0.mk hOK
 have HR0 := Aside0.mk hr0_0
 have HC0 := Aside0.mk hc0_0
 have HR1 := Aside0.mk hr0_1
 have HC1 := Aside0.mk hc0_1
 have HR2 := Aside0.mk hr1
 have HM2 := Aside0.mk (Kd.C_max hr1)
 clear h hOK hr0_0 hc0_0 hr0_1 hc0_1 hr1
 go_enter Try.func38, Try.ntmps38
 go_wp2_with (fail)
 have B0 := Aside0.mk (below_alloc (below_alloc (Below.refl w.heap.size w) (.cells #[.slice A0_0 l0_0.length c0_0, .slice A0_1 l0_1.length c0_1] 27)) (.cells #[.slice none 0 0, .slice none 0 0] 27))
 have D0 := Aside0.mk (blk_alloc1 (o' := .cells #[.slice none 0 0, .slice none 0 0] 27) (blk_new w (.cells #[.slice A0_0 l0_0.length c0_0, .slice A0_1 l0_1.length c0_1] 27)))
 have R0 := Aside0.mk (blk_new (w.alloc (.cells #[.slice A0_0 l0_0.length c0_0, .slice A0_1 l0_1.length c0_1] 27)) (.cells #[.slice none 0 0, .slice none 0 0] 27))
 rw [size_alloc1] at R0
 refine (spec_DeskOk.calls k _ _ l0_0 _ _ l0_1 okd _ (Kd.C_below HR0.out B0.out) HC0.out (Kd.C_below HR1.out B0.out) HC1.out HOK.out).mono ?_
 rintro e w1 ⟨rfl, hb1⟩
 have B1 := Aside0.mk (below_step B0.out hb1)
 have D1 := Aside0.mk ((hb1.block _ (blk_lt D0.out)).trans D0.out)
 have R1 := Aside0.mk ((hb1.block _ (blk_lt R0.out)).trans R0.out)
 clear hb1 B0 D0 R0 HOK
 have hr0 : w1.cell? ⟨w.heap.size + 1, 0, none⟩ = some (.slice none 0 0) := (blk_cell R1.out 0).trans rfl
 have hr1 : w1.cell? ⟨w.heap.size + 1, 1, none⟩ = some (.slice none 0 0) := (blk_cell R1.out 1).trans rfl
 have hf0 := blk_frozen R1.out 0
 have hf1 := blk_frozen R1.out 1
 cases okd with
 | false =>
  rw [if_pos rfl] at h1
  simp only [Option.some.injEq, Prod.mk.injEq] at h1
  obtain ⟨rfl, rfl, rfl⟩ := h1
  go_wp2
  refine bodyPost_ret (results_ct rfl _ _ (w.heap.size + 1) 27 #[.slice none 0 0, .slice none 0 0] (0, 0) _ rfl (res_put R1.out) Try.underlying27 rfl (by kernel_rfl)) rfl ?_
  exact ⟨_, _, rfl, Kd.V_nil k50 50 _ 0 _, Kd.V_nil (Kd.slice 50 k50) 23 _ 0 _, below_set (below_set B1.out (by omega)) (by omega)⟩
 | true =>
  rw [if_neg (by simp)] at h1
  by_cases h40 : 40 < l1.length
  ·rw [if_pos h40] at h1
   simp only [Option.some.injEq, Prod.mk.injEq] at h1
   obtain ⟨rfl, rfl, rfl⟩ := h1
   have f40 : decide (40 < (l1.length : Int)) = true := decide_eq_true (by omega)
   have f40' : decide (40 < l1.length) = true := decide_eq_true h40
   clear h40
   go_wp2
   refine bodyPost_ret (results_ct rfl _ _ (w.heap.size + 1) 27 #[.slice none 0 0, .slice none 0 0] (0, 0) _ rfl (res_put R1.out) Try.underlying27 rfl (by kernel_rfl)) rfl ?_
   exact ⟨_, _, rfl, Kd.V_nil k50 50 _ 0 _, Kd.V_nil (Kd.slice 50 k50) 23 _ 0 _, below_set (below_set B1.out (by omega)) (by omega)⟩
  ·rw [if_neg h40] at h1
   have f40 : decide (40 < (l1.length : Int)) = false := decide_eq_false (by omega)
   have f40' : decide (40 < l1.length) = false := decide_eq_false h40
   have HF := Aside0.mk h40
   clear h40 hr0 hr1 hf0 hf1
   obtain ⟨⟨s0, s1⟩, hS, h2⟩ := Option.bind_eq_some_iff.mp h1
   have HS := Aside0.mk hS
   have H2 := Aside0.mk (show spec_DeskRun.go k l1 s0 s1 0 = some (r1, r2, r3) from h2)
   clear h1 hS h2
   have hd0 : w1.cell? ⟨w.heap.size, 0, none⟩ = some (.slice A0_0 l0_0.length c0_0) := (blk_cell D1.out 0).trans rfl
   have hd1 : w1.cell? ⟨w.heap.size, 1, none⟩ = some (.slice A0_1 l0_1.length c0_1) := (blk_cell D1.out 1).trans rfl
   go_wp2_with (fail)
   refine (spec_l12Copy.calls k _ _ l0_0 _ _ l0_1 s0 s1 _ (Kd.C_below HR0.out B1.out) HC0.out (Kd.C_below HR1.out B1.out) HC1.out HS.out).mono ?_
   rintro e w2 ⟨v0, v1, rfl, hv, hs, hb2⟩
   obtain ⟨As0, cs0, rfl⟩ := Kd.R_slice hv
   obtain ⟨As1, cs1, rfl⟩ := Kd.S_slice hs
   clear hd0 hd1 f40 f40'
   have E := Aside0.mk (blk_lt R1.out)
   have R3 := Aside0.mk (blk_alloc1 (o' := .cells #[.slice As0 s0.length cs0, .slice As1 s1.length cs1] 27) ((hb2.block _ (blk_lt R1.out)).trans R1.out))
   have D3 := Aside0.mk (blk_new w2 (.cells #[.slice As0 s0.length cs0, .slice As1 s1.length cs1] 27))
   have B3 := Aside0.mk (below_alloc (below_step B1.out hb2) (.cells #[.slice As0 s0.length cs0, .slice As1 s1.length cs1] 27))
   have V3 := Aside0.mk (show Kd.V k50 50 _ 0 (fun k => w1.heap.size ≤ k ∧ k ≠ w2.heap.size) _ s0 from Kd.V_alloc (Kd.V_mono (Kd.R_V (base' := 0) (Kd.R_bound hv)) (fun k hk => ⟨hk.2.1, by have := hk.2.2.1; omega⟩)) (.cells #[.slice As0 s0.length cs0, .slice As1 s1.length cs1] 27))
   have U3 := Aside0.mk (show Kd.V (Kd.slice 50 k50) 23 _ 0 (fun k => w1.heap.size ≤ k ∧ k ≠ w2.heap.size) _ s1 from Kd.V_alloc (Kd.V_mono (Kd.R_V (base' := 0) (Kd.R_bound (Kd.S_R hs))) (fun k hk => ⟨hk.2.1, by have := hk.2.2.1; omega⟩)) (.cells #[.slice As0 s0.length cs0, .slice As1 s1.length cs1] 27))
   have Z2 := Aside0.mk hb2.size
   clear hv hs hb2 D1 R1 B1
   go_upto_region 6 with (fail)
   generalize w2.alloc (.cells #[.slice As0 s0.length cs0, .slice As1 s1.length cs1] 27) = w3 at R3 D3 B3 V3 U3 ⊢
   generalize w2.heap.size = go at R3 D3 B3 V3 U3 Z2 ⊢
   clear w2
   go_loopg [7, 8] (l1.length + 1) (fun kq v7 v8 w' => ∃ (done rest : List S52) (now : List S50) (past : List (List S50)) (n xi : Int) (A0 : Option Addr) (c0 : Nat) (A1_ : Option Addr) (c1_ : Nat), v7 = .int .i64 n ∧ v8 = .int .i64 xi ∧ Aside0 (xi = (done.length : Int)) ∧ Aside0 (l1 = done ++ rest) ∧ Aside0 (spec_DeskRun.go k rest now past n = some (r1, r2, r3)) ∧ Aside0 (0 ≤ n ∧ n ≤ (done.length : Int)) ∧ Aside0 (rest.length < kq) ∧ Aside0 (w'.heap[go]? = some (.cells #[.slice A0 now.length c0, .slice A1_ past.length c1_] 27 (0, 0))) ∧ Aside0 (Kd.V k50 50 w' 0 (fun k => w1.heap.size ≤ k ∧ k ≠ go) (.slice A0 now.length c0) now) ∧ Aside0 (Kd.V (Kd.slice 50 k50) 23 w' 0 (fun k => w1.heap.size ≤ k ∧ k ≠ go) (.slice A1_ past.length c1_) past) ∧ Aside0 (w'.heap[w.heap.size + 1]? = some (.cells #[.slice none 0 0, .slice none 0 0] 27 (0, 0))) ∧ Aside0 (Below w.heap.size w w'))
   case atStart => exact ⟨[], l1, s0, s1, 0, 0, As0, cs0, As1, cs1, rfl, rfl, ⟨rfl⟩, ⟨rfl⟩, H2, ⟨by simp⟩, ⟨by omega⟩, D3, V3, U3, R3, B3⟩
   case round =>
    clear H2 D3 R3 B3 V3 U3
    obtain ⟨done, rest, now, past, n, xi, A0, c0, A1_, c1_, rfl, rfl, HX, HL, HA, HN, HK, DB, DV, DU, RB, BB⟩ := hrel
    have hlen : l1.length = done.length + rest.length := by rw [HL.out]; simp
    have HGO := Aside0.mk (show w.heap.size + 1 < go ∧ w.heap.size + 1 < w1.heap.size ∧ w1.heap.size ≤ go from by have h1 := E.out; have h2 := Z2.out; omega)
    cases rest with
    | nil =>
     obtain ⟨rfl, rfl, rfl⟩ : now = r1 ∧ past = r2 ∧ n = r3 := by have := HA.out; simpa [spec_DeskRun.go] using this
     have c3 : decide (xi < (l1.length : Int)) = false := decide_eq_false (by have := HX.out; simp at hlen; omega)
     clear hlen
     have hd0 : wr.cell? ⟨go, 0, none⟩ = some (.slice A0 now.length c0) := (blk_cell DB.out 0).trans rfl
     have hd1 : wr.cell? ⟨go, 1, none⟩ = some (.slice A1_ past.length c1_) := (blk_cell DB.out 1).trans rfl
     have hr0 : wr.cell? ⟨w.heap.size + 1, 0, none⟩ = some (.slice none 0 0) := (blk_cell RB.out 0).trans rfl
     have hr1 : wr.cell? ⟨w.heap.size + 1, 1, none⟩ = some (.slice none 0 0) := (blk_cell RB.out 1).trans rfl
     have hf0 := blk_frozen RB.out 0
     have hf1 := blk_frozen RB.out 1
     have hne : w.heap.size + 1 ≠ go := by have := HGO.out; omega
     go_wp2
     refine bodyPost_ret (results_ct rfl _ _ (w.heap.size + 1) 27 #[(.slice A0 now.length c0), (.slice A1_ past.length c1_)] (0, 0) _ rfl (res_put RB.out) Try.underlying27 rfl (by kernel_rfl)) rfl ?_
     have hg := HGO.out
     exact ⟨_, _, rfl, Kd.V_mono (Kd.V_far (p := ⟨w.heap.size + 1, 1, none⟩) (Kd.V_far (p := ⟨w.heap.size + 1, 0, none⟩) DV.out (fun k hk => by have := hk.1; show k ≠ w.heap.size + 1; omega) _) (fun k hk => by have := hk.1; show k ≠ w.heap.size + 1; omega) _) (fun k hk => by have := hk.1; omega), Kd.V_mono (Kd.V_far (p := ⟨w.heap.size + 1, 1, none⟩) (Kd.V_far (p := ⟨w.heap.size + 1, 0, none⟩) DU.out (fun k hk => by have := hk.1; show k ≠ w.heap.size + 1; omega) _) (fun k hk => by have := hk.1; show k ≠ w.heap.size + 1; omega) _) (fun k hk => by have := hk.1; omega), below_set (below_set BB.out (by omega)) (by omega)⟩
    | cons d ds =>
     simp only [List.length_cons] at hlen
     have hx := HX.out
     have hm := HM2.out
     have hf := HF.out
     obtain ⟨⟨x0, x1, b⟩, hD, h2⟩ := Option.bind_eq_some_iff.mp (show ((spec_DeskDo.f k now past d.f0 d.f1 d.f2).bind fun R => if R.2.2 = true then spec_DeskRun.go k ds R.1 R.2.1 (n + 1) else spec_DeskRun.go k ds now past n) = some (r1, r2, r3) from HA.out)
     dsimp only at h2
     have c3 : decide (xi < (l1.length : Int)) = true := decide_eq_true (by omega)
     have p1 : 0 ≤ xi := by omega
     have q1 : xi < (l1.length : Int) := by omega
     have pw : IntKind.i64.wrap (xi + 1) = xi + 1 := by rw [IntKind.wrap_i64]; omega
     have pn : IntKind.i64.wrap (n + 1) = n + 1 := by have := HN.out; rw [IntKind.wrap_i64]; omega
     have hd : rd_T52 l1 xi = d := by
      unfold rd_T52
      rw [HL.out, show xi.toNat = done.length by omega]
      simp
     obtain ⟨f0, hf0⟩ : ∃ z, d.f0 = z := ⟨_, rfl⟩
     obtain ⟨f1, hf1⟩ : ∃ z, d.f1 = z := ⟨_, rfl⟩
     obtain ⟨f2, hf2⟩ : ∃ z, d.f2 = z := ⟨_, rfl⟩
     obtain ⟨ad, hA1, hcell⟩ : ∃ ad, A1 = some ad ∧ ∀ W, Below w.heap.size w W → W.cell? (ad.add (xi.toNat * 3)) = some (.int .i64 f0) ∧ W.cell? ⟨(ad.add (xi.toNat * 3)).block, (ad.add (xi.toNat * 3)).off + 1, none⟩ = some (.int .i64 f1) ∧ W.cell? ⟨(ad.add (xi.toNat * 3)).block, (ad.add (xi.toNat * 3)).off + 2, none⟩ = some (.int .i64 f2) := by
      obtain ⟨ad, e, _⟩ := at_T52 HR2.out xi p1 q1
      refine ⟨ad, e, fun W hW => ?_⟩
      obtain ⟨ad', e', h0, h1, h2⟩ := at_T52 (Kd.C_below HR2.out hW) xi p1 q1
      rw [e] at e'
      obtain rfl := Option.some.inj e'
      rw [hd, hf0] at h0
      rw [hd, hf1] at h1
      rw [hd, hf2] at h2
      exact ⟨h0, h1, h2⟩
     subst hA1
     have P1 := eq_true p1
     have Q1 := eq_true q1
     rw [hf0, hf1, hf2] at hD
     have HD := Aside0.mk hD
     have HH := Aside0.mk h2
     have HLEN := Aside0.mk hlen
     have HPW := Aside0.mk pw
     have HPN := Aside0.mk pn
     have HCELL := Aside0.mk hcell
     clear hx hm hf hlen p1 q1 pw pn hD h2 hd hf0 hf1 hf2 HA hcell
     go_wp2_with (fail)
     clear c3
     have hb0_ := below_drew1 (Below.refl wr.heap.size wr)
     have HGW := Aside0.mk (show go < wr.drew.heap.size ∧ w.heap.size + 1 < wr.drew.heap.size from ⟨blk_lt DB.out, blk_lt RB.out⟩)
     obtain ⟨ENV, hE, HL_, HBe, HCe, HOu⟩ : ∃ ENV : World → Prop, ENV wr.drew ∧ Aside0 (∀ W W', ENV W → Kept W W' (fun k => wr.drew.heap.size ≤ k) → Below w.heap.size w W' → ENV W') ∧ Aside0 (∀ W, ENV W → Below w.heap.size w W) ∧ Aside0 (∀ W, ENV W → W.cell? ⟨go, 0, none⟩ = some (.slice A0 now.length c0) ∧ W.cell? ⟨go, 1, none⟩ = some (.slice A1_ past.length c1_) ∧ W.cell? (ad.add (xi.toNat * 3)) = some (.int .i64 f0) ∧ W.cell? ⟨(ad.add (xi.toNat * 3)).block, (ad.add (xi.toNat * 3)).off + 1, none⟩ = some (.int .i64 f1) ∧ W.cell? ⟨(ad.add (xi.toNat * 3)).block, (ad.add (xi.toNat * 3)).off + 2, none⟩ = some (.int .i64 f2)) ∧ Aside0 (∀ W, ENV W → (W.heap[go]? = some (.cells #[(.slice A0 now.length c0), (.slice A1_ past.length c1_)] 27 (0, 0))) ∧ (W.heap[w.heap.size + 1]? = some (.cells #[.slice none 0 0, .slice none 0 0] 27 (0, 0))) ∧ Below w.heap.size w W ∧ Kd.V k50 50 W 0 (fun k => (w1.heap.size ≤ k ∧ k ≠ go) ∧ k < wr.drew.heap.size) (.slice A0 now.length c0) now ∧ Kd.V (Kd.slice 50 k50) 23 W 0 (fun k => (w1.heap.size ≤ k ∧ k ≠ go) ∧ k < wr.drew.heap.size) (.slice A1_ past.length c1_) past) := by
      refine ⟨fun W => (W.heap[go]? = some (.cells #[(.slice A0 now.length c0), (.slice A1_ past.length c1_)] 27 (0, 0))) ∧ (W.heap[w.heap.size + 1]? = some (.cells #[.slice none 0 0, .slice none 0 0] 27 (0, 0))) ∧ Below w.heap.size w W ∧ Kd.V k50 50 W 0 (fun k => (w1.heap.size ≤ k ∧ k ≠ go) ∧ k < wr.drew.heap.size) (.slice A0 now.length c0) now ∧ Kd.V (Kd.slice 50 k50) 23 W 0 (fun k => (w1.heap.size ≤ k ∧ k ≠ go) ∧ k < wr.drew.heap.size) (.slice A1_ past.length c1_) past, ⟨(hb0_.block _ (blk_lt DB.out)).trans DB.out, (hb0_.block _ (blk_lt RB.out)).trans RB.out, below_step BB.out hb0_, V_low (w := wr) DV.out hb0_, V_low (w := wr) DU.out hb0_⟩, ⟨fun W W' h hk hb => ?_⟩, ⟨fun W h => h.2.2.1⟩, ⟨fun W h => ?_⟩, ⟨fun W h => h⟩⟩
      ·obtain ⟨p0, p1, p2, p3, p4⟩ := h
       have hg := HGW.out
       exact ⟨blk_kept p0 hk (fun h => by omega), blk_kept p1 hk (fun h => by omega), hb, Kd.V_map p3 (fun _ hf => Kd.F_step hf (fun k hk' hlt => hk.2 k hlt (fun h => by have := hk'.2; omega))), Kd.V_map p4 (fun _ hf => Kd.F_step hf (fun k hk' hlt => hk.2 k hlt (fun h => by have := hk'.2; omega)))⟩
      ·exact ⟨(blk_cell h.1 0).trans rfl, (blk_cell h.1 1).trans rfl, HCELL.out W h.2.2.1⟩
     clear hb0_
     have HC33 : Aside0 (∀ W, ENV W → Calls Try.prog 33 #[.agg #[(.slice A0 now.length c0), (.slice A1_ past.length c1_)], .agg #[.int .i64 f0, .int .i64 f1, .int .i64 f2]] W fun e W' => ∃ (B0 : Option Addr) (e0 : Nat) (B1 : Option Addr) (e1 : Nat), e = .returned (.tuple #[.agg #[.slice B0 x0.length e0, .slice B1 x1.length e1], .bool b]) ∧ Kd.V k50 50 W' 0 (fun k => ((w1.heap.size ≤ k ∧ k ≠ go) ∧ k < wr.drew.heap.size) ∨ W.heap.size ≤ k) (.slice B0 x0.length e0) x0 ∧ Kd.V (Kd.slice 50 k50) 23 W' 0 (fun k => W.heap.size ≤ k) (.slice B1 x1.length e1) x1 ∧ Below W.heap.size W W') := ⟨fun W h => by
      obtain ⟨-, -, -, p3, p4⟩ := HOu.out W h
      refine (spec_DeskDo.calls k A0 c0 now A1_ c1_ past f0 f1 f2 x0 x1 b W _ p3 (Kd.V_reads' p4).2.2 (Kd.V_reads' p4).2.1 HD.out).mono ?_
      rintro e W' ⟨v0, v1, rfl, hv0, hv1, _, hb⟩
      obtain ⟨B0, e0, rfl⟩ := Kd.V_slice hv0
      obtain ⟨B1, e1, rfl⟩ := Kd.V_slice hv1
      exact ⟨B0, e0, B1, e1, rfl, Kd.V_mono hv0 (fun _ hk => hk.1), hv1, hb⟩⟩
     refine start_ (n := 12) (S := ENV) (ds := []) #[false, false, false, false, false, false, false, false, false, false, false, false] (by kernel_rfl) rfl rfl hE (fun hHeld => ?_); refine with_tabW spec_DeskRun.tab8 spec_DeskRun.bits8 (fun HT_ HW_ => ?_)
     clear hE
     have hE := hHeld
     have HGW2 := Aside0.mk (show go < wr.drew.heap.size ∧ w1.heap.size ≤ wr.drew.heap.size ∧ w.heap.size + 1 < wr.drew.heap.size from by have h1 := HGW.out; have h2 := HGO.out; omega)
     clear HGW
     generalize wr.drew = wa at hE HL_ hHeld HC33 HOu HGW2 ⊢
     have hw : Below wa.heap.size wa wa := Below.refl _ _
     refine take_ (i := 0) (N := some 29) (v := ?_) (a' := ?_) #[true, false, false, false, false, false, false, false, false, false, false, false] rfl rfl (take_ofW HT_.out HW_.out (by kernel_rfl)) (fun _ _ _ h => h) (Or.inl ⟨by rfl, ?_⟩) hHeld ?_ ?_
     rotate_left
     ·intro w' hE_
      obtain ⟨t0_, t1_, t2_, t3_, t4_⟩ := HCe.out w' hE_
      go_simp
      with_reducible rfl
     rotate_left
     ·simp only [putAll, Act.put, List.setIfInBounds_toArray, List.set_cons_zero, List.set_cons_succ, i64_w, i32_w]
      rfl
     refine pure_ (i := 1) (N := some 30) (v := ?_) (a' := ?_) #[true, true, false, false, false, false, false, false, false, false, false, false] rfl rfl (any_of HT_.out (by kernel_rfl)) (fun _ _ _ h => h) (Or.inl ⟨by rfl, ?_⟩) ?_ ?_
     rotate_left
     ·intro w'
      go_simp
      with_reducible rfl
     rotate_left
     ·simp only [putAll, Act.put, List.setIfInBounds_toArray, List.set_cons_zero, List.set_cons_succ, i64_w, i32_w]
      rfl
     refine pure_ (i := 2) (N := some 31) (v := ?_) (a' := ?_) #[true, true, true, false, false, false, false, false, false, false, false, false] rfl rfl (any_of HT_.out (by kernel_rfl)) (fun _ _ _ h => h) (Or.inl ⟨by rfl, ?_⟩) ?_ ?_
     rotate_left
     ·intro w'
      go_simp
      with_reducible rfl
     rotate_left
     ·simp only [putAll, Act.put, List.setIfInBounds_toArray, List.set_cons_zero, List.set_cons_succ, i64_w, i32_w]
      rfl
     refine pure_ (i := 3) (N := some 32) (v := ?_) (a' := ?_) #[true, true, true, true, false, false, false, false, false, false, false, false] rfl rfl (any_of HT_.out (by kernel_rfl)) (fun _ _ _ h => h) (Or.inl ⟨by rfl, ?_⟩) ?_ ?_
     rotate_left
     ·intro w'
      go_simp
      with_reducible rfl
     rotate_left
     ·simp only [putAll, Act.put, List.setIfInBounds_toArray, List.set_cons_zero, List.set_cons_succ, i64_w, i32_w]
      rfl
     refine take_ (i := 4) (N := some 33) (v := ?_) (a' := ?_) #[true, true, true, true, true, false, false, false, false, false, false, false] rfl rfl (take_ofW HT_.out HW_.out (by kernel_rfl)) (fun _ _ _ h => h) (Or.inl ⟨by rfl, ?_⟩) hHeld ?_ ?_
     rotate_left
     ·intro w' hE_
      obtain ⟨t0_, t1_, t2_, t3_, t4_⟩ := HCe.out w' hE_
      go_simp
      with_reducible rfl
     rotate_left
     ·simp only [putAll, Act.put, List.setIfInBounds_toArray, List.set_cons_zero, List.set_cons_succ, i64_w, i32_w]
      rfl
     refine join_ (σ := Value × Value × Nat) 2 #[true, true, true, true, true, true, true, true, true, true, false, false] (fun s_ => [(34, .tuple #[.agg #[s_.1, s_.2.1], .bool b]), (9, .pointer (some ⟨s_.2.2, 0, none⟩)), (28, .tuple #[.agg #[s_.1, s_.2.1], .bool b]), (35, .agg #[s_.1, s_.2.1]), (36, .bool b)]) (fun s_ W => ENV W ∧ W.heap[s_.2.2]? = some (.cells #[.slice none 0 0, .slice none 0 0] 27 (0, 0)) ∧ wa.heap.size ≤ s_.2.2 ∧ Kd.V k50 50 W 0 (fun k => k ≠ s_.2.2 ∧ (w1.heap.size ≤ k ∧ k ≠ go)) s_.1 x0 ∧ Kd.V (Kd.slice 50 k50) 23 W 0 (fun k => k ≠ s_.2.2 ∧ (w1.heap.size ≤ k ∧ k ≠ go)) s_.2.1 x1 ∧ Below wa.heap.size wa W) ?_ ?_
     rotate_left
     ·intro hCont
      refine two_ (i := 5) (j := 9) (Ni := some 34) (Nj := some 9) #[true, true, true, true, true, true, false, false, false, false, false, false] #[true, true, true, true, true, false, false, false, false, true, false, false] rfl rfl rfl rfl (two_of HT_.out (by kernel_rfl)) (by decide) (by decide) (fun K hK => ?_) (fun K hK => ?_)
      ·skip
       refine goes_ Try.func33 (by kernel_rfl) rfl #[.agg #[(.slice A0 now.length c0), (.slice A1_ past.length c1_)], .agg #[.int .i64 f0, .int .i64 f1, .int .i64 f2]] (by rfl) rfl rfl (by (try simp only [List.map_toArray, List.map_cons, List.map_nil]); first | done | rfl | (simp only [List.length_drop, List.length_take]; rfl)) ?_
       refine (HC33.out _ hE).mono ?_
       rintro e W_ ⟨B0, e0, B1, e1, rfl, hv0, hv1, hb_⟩
       refine ⟨_, rfl, ?_⟩
       have hq := HGW2.out
       have hqs := hw.size
       replace hv0 := Kd.V_mono (ok' := fun k => w1.heap.size ≤ k ∧ k ≠ go) hv0 (fun k hk => hk.elim (fun h => h.1) (fun h => by omega))
       replace hv1 := Kd.V_mono (ok' := fun k => w1.heap.size ≤ k ∧ k ≠ go) hv1 (fun k hk => by omega)
       clear hq hqs
       replace hE := HL_.out _ _ hE (Kept.of_below hb_ _) (below_step (HBe.out _ hE) hb_)
       replace hw := below_step hw hb_
       clear hb_
       refine hK.out _ _ hE (fun hHeld => ?_)
       clear hK K
       refine norm_ (a' := ?_) ?_ ?_
       rotate_left
       ·show Act.put _ (some 34) _ = _
        simp only [putAll, Act.put, List.setIfInBounds_toArray, List.set_cons_zero, List.set_cons_succ, i64_w, i32_w]
        rfl
       refine pure_ (i := 6) (N := some 28) (v := ?_) (a' := ?_) #[true, true, true, true, true, true, true, false, false, false, false, false] rfl rfl (any_of HT_.out (by kernel_rfl)) (fun _ _ _ h => h) (Or.inl ⟨by rfl, ?_⟩) ?_ ?_
       rotate_left
       ·intro w'
        go_simp
        with_reducible rfl
       rotate_left
       ·simp only [putAll, Act.put, List.setIfInBounds_toArray, List.set_cons_zero, List.set_cons_succ, i64_w, i32_w]
        rfl
       refine pure_ (i := 7) (N := some 35) (v := ?_) (a' := ?_) #[true, true, true, true, true, true, true, true, false, false, false, false] rfl rfl (any_of HT_.out (by kernel_rfl)) (fun _ _ _ h => h) (Or.inl ⟨by rfl, ?_⟩) ?_ ?_
       rotate_left
       ·intro w'
        go_simp
        with_reducible rfl
       rotate_left
       ·simp only [putAll, Act.put, List.setIfInBounds_toArray, List.set_cons_zero, List.set_cons_succ, i64_w, i32_w]
        rfl
       refine pure_ (i := 8) (N := some 36) (v := ?_) (a' := ?_) #[true, true, true, true, true, true, true, true, true, false, false, false] rfl rfl (any_of HT_.out (by kernel_rfl)) (fun _ _ _ h => h) (Or.inl ⟨by rfl, ?_⟩) ?_ ?_
       rotate_left
       ·intro w'
        go_simp
        with_reducible rfl
       rotate_left
       ·simp only [putAll, Act.put, List.setIfInBounds_toArray, List.set_cons_zero, List.set_cons_succ, i64_w, i32_w]
        rfl
       refine one_ (i := 9) (N := some 9) #[true, true, true, true, true, true, true, true, true, true, false, false] rfl rfl (one_of HT_.out (by kernel_rfl)) (by decide) (fun K hK => ?_)
       refine box_step ?hg (N := 9) ?hd (cs := #[.slice none 0 0, .slice none 0 0]) (t := 27) ?hr ?_; (case hd => rfl); (case hg => rfl); (case hr => first | (go_simp; done) | (go_simp; rfl))
       intro g hg W_ hbox hb_
       have hgl : wa.heap.size ≤ g := by rw [hg]; exact hw.size
       replace hv0 := Kd.V_below (Kd.V_mono (ok' := fun k => k ≠ g ∧ (w1.heap.size ≤ k ∧ k ≠ go)) (Kd.V_map (base' := 0) hv0 (fun _ hf => Kd.F_bound hf)) (fun k hk => ⟨by have := hk.2; omega, hk.1⟩)) hb_
       replace hv1 := Kd.V_below (Kd.V_mono (ok' := fun k => k ≠ g ∧ (w1.heap.size ≤ k ∧ k ≠ go)) (Kd.V_map (base' := 0) hv1 (fun _ hf => Kd.F_bound hf)) (fun k hk => ⟨by have := hk.2; omega, hk.1⟩)) hb_
       replace hE := HL_.out _ _ hE (Kept.of_below hb_ _) (below_step (HBe.out _ hE) hb_)
       replace hw := below_step hw hb_
       clear hb_ hg
       refine hK.out _ _ hE (fun hHeld => ?_)
       clear hK K
       refine norm_ (a' := ?_) ?_ ?_
       rotate_left
       ·show Act.put _ (some 9) _ = _
        simp only [putAll, Act.put, List.setIfInBounds_toArray, List.set_cons_zero, List.set_cons_succ, i64_w, i32_w]
        rfl
       exact norm_ (by simp only [putAll, Act.put, List.setIfInBounds_toArray, List.set_cons_zero, List.set_cons_succ, i64_w, i32_w]) (hCont (.slice B0 x0.length e0, .slice B1 x1.length e1, g) _ ⟨hE, hbox, hgl, hv0, hv1, hw⟩)
      ·skip
       refine box_step ?hg (N := 9) ?hd (cs := #[.slice none 0 0, .slice none 0 0]) (t := 27) ?hr ?_; (case hd => rfl); (case hg => rfl); (case hr => first | (go_simp; done) | (go_simp; rfl))
       intro g hg W_ hbox hb_
       have hgl : wa.heap.size ≤ g := by rw [hg]; exact hw.size
       replace hE := HL_.out _ _ hE (Kept.of_below hb_ _) (below_step (HBe.out _ hE) hb_)
       replace hw := below_step hw hb_
       clear hb_ hg
       refine hK.out _ _ hE (fun hHeld => ?_)
       clear hK K
       refine norm_ (a' := ?_) ?_ ?_
       rotate_left
       ·show Act.put _ (some 9) _ = _
        simp only [putAll, Act.put, List.setIfInBounds_toArray, List.set_cons_zero, List.set_cons_succ, i64_w, i32_w]
        rfl
       refine one_ (i := 5) (N := some 34) #[true, true, true, true, true, true, false, false, false, true, false, false] rfl rfl (one_of HT_.out (by kernel_rfl)) (by decide) (fun K hK => ?_)
       refine goes_ Try.func33 (by kernel_rfl) rfl #[.agg #[(.slice A0 now.length c0), (.slice A1_ past.length c1_)], .agg #[.int .i64 f0, .int .i64 f1, .int .i64 f2]] (by rfl) rfl rfl (by (try simp only [List.map_toArray, List.map_cons, List.map_nil]); first | done | rfl | (simp only [List.length_drop, List.length_take]; rfl)) ?_
       refine (HC33.out _ hE).mono ?_
       rintro e W_ ⟨B0, e0, B1, e1, rfl, hv0, hv1, hb_⟩
       refine ⟨_, rfl, ?_⟩
       have hq := HGW2.out
       have hqs := hw.size
       have hql := blk_lt hbox
       replace hv0 := Kd.V_mono (ok' := fun k => k ≠ g ∧ (w1.heap.size ≤ k ∧ k ≠ go)) hv0 (fun k hk => hk.elim (fun h => ⟨by have := h.2; omega, h.1⟩) (fun h => by omega))
       replace hv1 := Kd.V_mono (ok' := fun k => k ≠ g ∧ (w1.heap.size ≤ k ∧ k ≠ go)) hv1 (fun k hk => by omega)
       clear hq hqs hql
       replace hbox := (hb_.block _ (blk_lt hbox)).trans hbox
       replace hE := HL_.out _ _ hE (Kept.of_below hb_ _) (below_step (HBe.out _ hE) hb_)
       replace hw := below_step hw hb_
       clear hb_
       refine hK.out _ _ hE (fun hHeld => ?_)
       clear hK K
       refine norm_ (a' := ?_) ?_ ?_
       rotate_left
       ·show Act.put _ (some 34) _ = _
        simp only [putAll, Act.put, List.setIfInBounds_toArray, List.set_cons_zero, List.set_cons_succ, i64_w, i32_w]
        rfl
       refine pure_ (i := 6) (N := some 28) (v := ?_) (a' := ?_) #[true, true, true, true, true, true, true, false, false, true, false, false] rfl rfl (any_of HT_.out (by kernel_rfl)) (fun _ _ _ h => h) (Or.inl ⟨by rfl, ?_⟩) ?_ ?_
       rotate_left
       ·intro w'
        go_simp
        with_reducible rfl
       rotate_left
       ·simp only [putAll, Act.put, List.setIfInBounds_toArray, List.set_cons_zero, List.set_cons_succ, i64_w, i32_w]
        rfl
       refine pure_ (i := 7) (N := some 35) (v := ?_) (a' := ?_) #[true, true, true, true, true, true, true, true, false, true, false, false] rfl rfl (any_of HT_.out (by kernel_rfl)) (fun _ _ _ h => h) (Or.inl ⟨by rfl, ?_⟩) ?_ ?_
       rotate_left
       ·intro w'
        go_simp
        with_reducible rfl
       rotate_left
       ·simp only [putAll, Act.put, List.setIfInBounds_toArray, List.set_cons_zero, List.set_cons_succ, i64_w, i32_w]
        rfl
       refine pure_ (i := 8) (N := some 36) (v := ?_) (a' := ?_) #[true, true, true, true, true, true, true, true, true, true, false, false] rfl rfl (any_of HT_.out (by kernel_rfl)) (fun _ _ _ h => h) (Or.inl ⟨by rfl, ?_⟩) ?_ ?_
       rotate_left
       ·intro w'
        go_simp
        with_reducible rfl
       rotate_left
       ·simp only [putAll, Act.put, List.setIfInBounds_toArray, List.set_cons_zero, List.set_cons_succ, i64_w, i32_w]
        rfl
       exact norm_ (by simp only [putAll, Act.put, List.setIfInBounds_toArray, List.set_cons_zero, List.set_cons_succ, i64_w, i32_w]) (hCont (.slice B0 x0.length e0, .slice B1 x1.length e1, g) _ ⟨hE, hbox, hgl, hv0, hv1, hw⟩)
     clear hE hw hHeld
     rintro ⟨u0, u1, g⟩ W ⟨hE, hbox, hgl, hv0, hv1, hw⟩
     dsimp only at hbox hgl hv0 hv1
     obtain ⟨B0, e0, rfl⟩ := Kd.V_slice hv0
     obtain ⟨B1, e1, rfl⟩ := Kd.V_slice hv1
     have HHE := Aside0.mk hE
     have HV0 := Aside0.mk hv0
     have HV1 := Aside0.mk hv1
     have HGL := Aside0.mk hgl
     clear hE hv0 hv1 hw hgl
     refine norm_ (a' := ?_) ?_ ?_
     rotate_left
     ·simp only [putAll, Act.put, List.setIfInBounds_toArray, List.set_cons_zero, List.set_cons_succ]
      rfl
     refine one_ (i := 10) (N := none) #[true, true, true, true, true, true, true, true, true, true, true, false] rfl rfl (one_of HT_.out (by kernel_rfl)) (by decide) (fun K hK => ?_)
     have hs0 : W.cell? ⟨g, 0, none⟩ = some (.slice none 0 0) := (blk_cell hbox 0).trans rfl
     have hs1 : W.cell? ⟨g, 1, none⟩ = some (.slice none 0 0) := (blk_cell hbox 1).trans rfl
     have hf0 := blk_frozen hbox 0
     have hf1 := blk_frozen hbox 1
     have HHB := Aside0.mk hbox
     clear hbox
     refine skip_ (w1 := ?_) (by rfl) rfl ?_ ?_
     rotate_left
     ·go_simp
      rfl
     have hE := HL_.out _ _ HHE.out (Kept.setCell (Kept.setCell (Kept.refl W _) (p := ⟨g, 0, none⟩) (.inl HGL.out) (.slice B0 x0.length e0)) (p := ⟨g, 1, none⟩) (.inl HGL.out) (.slice B1 x1.length e1)) (below_set (below_set (HBe.out _ HHE.out) (by have := HGL.out; have := HGW2.out; omega)) (by have := HGL.out; have := HGW2.out; omega))
     refine hK.out _ _ hE (fun hHeld => ?_)
     clear hK K hHeld hs0 hs1 hf0 hf1
     refine pure_ (i := 11) (N := some 10) (v := ?_) (a' := ?_) #[true, true, true, true, true, true, true, true, true, true, true, true] rfl rfl (any_of HT_.out (by kernel_rfl)) (fun _ _ _ h => h) (Or.inl ⟨by rfl, ?_⟩) ?_ ?_
     rotate_left
     ·intro w'
      go_simp
      with_reducible rfl
     rotate_left
     ·simp only [putAll, Act.put, List.setIfInBounds_toArray, List.set_cons_zero, List.set_cons_succ, i64_w, i32_w]
      rfl
     refine done_ (done_of HT_.out (by kernel_rfl)) ?_
     have G6 := Aside0.mk (res_put (x := (.slice B0 x0.length e0)) (y := (.slice B1 x1.length e1)) HHB.out)
     have EN := Aside0.mk (HOu.out _ hE)
     have V6 := Aside0.mk (Kd.V_mono (ok' := fun k => w1.heap.size ≤ k ∧ k ≠ go) (Kd.V_far (p := ⟨g, 1, none⟩) (Kd.V_far (p := ⟨g, 0, none⟩) HV0.out (fun k hk => hk.1) (.slice B0 x0.length e0)) (fun k hk => hk.1) (.slice B1 x1.length e1)) (fun k hk => hk.2))
     have U6 := Aside0.mk (Kd.V_mono (ok' := fun k => w1.heap.size ≤ k ∧ k ≠ go) (Kd.V_far (p := ⟨g, 1, none⟩) (Kd.V_far (p := ⟨g, 0, none⟩) HV1.out (fun k hk => hk.1) (.slice B0 x0.length e0)) (fun k hk => hk.1) (.slice B1 x1.length e1)) (fun k hk => hk.2))
     have hng : go ≠ g := by have h1 := HGL.out; have h2 := HGW2.out; omega
     have hng' : g ≠ go := fun h => hng h.symm
     generalize (W.setCell ⟨g, 0, none⟩ (.slice B0 x0.length e0)).setCell ⟨g, 1, none⟩ (.slice B1 x1.length e1) = w6 at G6 EN V6 U6 ⊢
     clear hE HHE HHB HV0 HV1 HL_ HBe HCe HOu HC33 HT_ HW_
     have hg0 : w6.cell? ⟨g, 0, none⟩ = some (.slice B0 x0.length e0) := (blk_cell G6.out 0).trans rfl
     have hg1 : w6.cell? ⟨g, 1, none⟩ = some (.slice B1 x1.length e1) := (blk_cell G6.out 1).trans rfl
     have hd0 : w6.cell? ⟨go, 0, none⟩ = some (.slice A0 now.length c0) := (blk_cell EN.out.1 0).trans rfl
     have hd1 : w6.cell? ⟨go, 1, none⟩ = some (.slice A1_ past.length c1_) := (blk_cell EN.out.1 1).trans rfl
     have hf0 := blk_frozen EN.out.1 0
     have hf1 := blk_frozen EN.out.1 1
     have pw := HPW.out
     have pn := HPN.out
     cases b with
     | true =>
      have HH2 := Aside0.mk (show spec_DeskRun.go k ds x0 x1 (n + 1) = some (r1, r2, r3) from HH.out)
      go_wp2_with (fail)
      go_roundg (ds.length + 1)
      case measure => have := HK.out; simp at this; omega
      case rel => exact ⟨done ++ [d], ds, x0, x1, n + 1, xi + 1, B0, e0, B1, e1, by simp [pn], by simp [pw], ⟨by have := HX.out; simp; omega⟩, ⟨by rw [HL.out]; simp⟩, HH2, ⟨by have := HN.out; simp; omega⟩, ⟨Nat.lt_succ_self _⟩, ⟨res_put EN.out.1⟩, ⟨Kd.V_far (p := ⟨go, 1, none⟩) (Kd.V_far (p := ⟨go, 0, none⟩) V6.out (fun k hk => hk.2) _) (fun k hk => hk.2) _⟩, ⟨Kd.V_far (p := ⟨go, 1, none⟩) (Kd.V_far (p := ⟨go, 0, none⟩) U6.out (fun k hk => hk.2) _) (fun k hk => hk.2) _⟩, ⟨blk_far (p := ⟨go, 1, none⟩) (blk_far (p := ⟨go, 0, none⟩) EN.out.2.1 (by have := HGO.out; show w.heap.size + 1 ≠ go; omega) _) (by have := HGO.out; show w.heap.size + 1 ≠ go; omega) _⟩, ⟨below_set (below_set EN.out.2.2.1 (by have := HGO.out; omega)) (by have := HGO.out; omega)⟩⟩
     | false =>
      have HH2 := Aside0.mk (show spec_DeskRun.go k ds now past n = some (r1, r2, r3) from HH.out)
      go_wp2_with (fail)
      go_roundg (ds.length + 1)
      case measure => have := HK.out; simp at this; omega
      case rel => exact ⟨done ++ [d], ds, now, past, n, xi + 1, A0, c0, A1_, c1_, rfl, by simp [pw], ⟨by have := HX.out; simp; omega⟩, ⟨by rw [HL.out]; simp⟩, HH2, ⟨by have := HN.out; simp; omega⟩, ⟨Nat.lt_succ_self _⟩, ⟨EN.out.1⟩, ⟨Kd.V_mono EN.out.2.2.2.1 (fun _ hk => hk.1)⟩, ⟨Kd.V_mono EN.out.2.2.2.2 (fun _ hk => hk.1)⟩, ⟨EN.out.2.1⟩, ⟨EN.out.2.2.1⟩⟩

end Go.Proofs.Ytocnifoohecmeaa.PFnDeskRun
