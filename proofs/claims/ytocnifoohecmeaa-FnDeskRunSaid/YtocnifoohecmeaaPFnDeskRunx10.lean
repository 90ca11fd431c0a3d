-- Printed by this claim's own program; Lean checks it.
import Derived.Test.YtocnifoohecmeaaPFnDeskRunx0
import Derived.Test.YtocnifoohecmeaaPFnDeskRunx2
import Derived.Test.YtocnifoohecmeaaPFnDeskRunx5
import Derived.Test.YtocnifoohecmeaaPFnDeskRunx6
import Derived.Test.YtocnifoohecmeaaPFnDeskRunx9
namespace Go.Proofs.Ytocnifoohecmeaa.PFnDeskRun
open Go.RowKit Go.Proofs.YtocnifoohecmeaaW.PrintWords Go.Proofs.YtocnifoohecmeaaW.PrintLast Go.Proofs.YtocnifoohecmeaaW.PrintMore
attribute [local go_sem] max2_int min2_int max_two min_two max_three min_three max_four min_four   -- for this text's walks alone
set_option linter.unusedVariables false
set_option linter.unusedSimpArgs false

attribute [local go_sem high] eqA52
/-! ### spec_DeskDo: function 33 -/
theorem sd_done {w W W5 : World} {g go : Nat} {Pz : Nat → Prop} {v0 v1 : Value} {l : List S50} {ll : List (List S50)} {p : Prop} (hB5 : Below w.heap.size w W5) (hK : Kept W W5 (fun k => k = g ∨ k = go)) (h0 : Kd.V k50 50 W 0 (fun k => (Pz k ∧ some k ≠ v1.ownBlock) ∧ k ≠ g ∧ k ≠ go) v0 l) (h1 : Kd.V (Kd.slice 50 k50) 23 W 0 (fun k => w.heap.size ≤ k ∧ k ≠ g ∧ k ≠ go) v1 ll) (h2 : p → Kd.S (Kd.slice 50 k50) 23 W w.heap.size (fun k => w.heap.size ≤ k ∧ k ≠ g ∧ k ≠ go) v1 ll) :
 Kd.V k50 50 W5 0 (fun k => Pz k ∧ some k ≠ v1.ownBlock) v0 l ∧ Kd.V (Kd.slice 50 k50) 23 W5 0 (fun k => w.heap.size ≤ k) v1 ll ∧ (p → Kd.S (Kd.slice 50 k50) 23 W5 w.heap.size (fun k => w.heap.size ≤ k) v1 ll) ∧ Below w.heap.size w W5 :=
 ⟨Kd.V_mono (Kd.V_map h0 (fun _ hf => Kd.F_step hf (fun k hk hlt => hK.2 k hlt (fun h => h.elim hk.2.1 hk.2.2)))) (fun _ hk => hk.1),
  Kd.V_mono (Kd.V_map h1 (fun _ hf => Kd.F_step hf (fun k hk hlt => hK.2 k hlt (fun h => h.elim hk.2.1 hk.2.2)))) (fun _ hk => hk.1),
  fun hp => Kd.S_mono (Kd.S_step (h2 hp) (fun k hk hlt => hK.2 k hlt (fun h => h.elim hk.2.1 hk.2.2))) (fun _ hk => hk.1), hB5⟩
theorem V_low {α : Type} {d : Kd α} {e base base' : Nat} {ok : Nat → Prop} {w W : World} {v : Value} {xs : List α} (h : Kd.V d e w base ok v xs) (hb : Below w.heap.size w W) : Kd.V d e W base' (fun k => ok k ∧ k < w.heap.size) v xs :=
  Kd.V_below (Kd.V_map h (fun _ hf => Kd.F_bound hf)) hb
def spec_DeskDo.after (s0 : List S50) (s1 : List (List S50)) (x : List S50) (o : Bool) : Option (List S50 × List (List S50) × Bool) :=
  if o = false then some (s0, s1, false) else if s1.length < 1000000 then some (x, (if s1.length + 1 > 8 then (s1 ++ [s0]).drop 1 else s1 ++ [s0]), true) else none
def spec_DeskDo.f (k : Nat) (d0 : List S50) (d1 : List (List S50)) (ak aa ab : Int) : Option (List S50 × List (List S50) × Bool) :=
  (spec_DeskOk.f k d0 d1).bind fun okd => if okd = false then some ([], [], false) else (spec_l12Copy.f k d0 d1).bind fun S =>
    if S.2.length = d1.length then
      (if (ak = 4 ∧ aa = 0 ∧ ab = 0) ∧ 0 < d1.length then some (S.2.getD (S.2.length - 1) [], S.2.take (S.2.length - 1), true)
      else (spec_l12Made.f k d0 ak aa ab).bind fun N => spec_DeskDo.after S.1 S.2 N.1 N.2)
    else none
theorem spec_DeskDo.mono : ∀ a0 a1 a2 a3 a4 k, LeO (spec_DeskDo.f k a0 a1 a2 a3 a4) (spec_DeskDo.f (k + 1) a0 a1 a2 a3 a4) := by
 intro a0 a1 a2 a3 a4 k
 unfold spec_DeskDo.f
 refine LeO.bind (spec_DeskOk.mono _ _ _) (fun _ => LeO.ite (LeO.refl _) (LeO.bind (spec_l12Copy.mono _ _ _) (fun _ => LeO.ite (LeO.ite (LeO.refl _) (LeO.bind (spec_l12Made.mono _ _ _ _ _) (fun _ => LeO.refl _))) (LeO.refl _))))
set_option maxHeartbeats 8000000 in
set_option maxRecDepth 100000 in
theorem spec_DeskDo.calls (k : Nat) (A0_0 : Option Addr) (c0_0 : Nat) (l0_0 : List (S50)) (A0_1 : Option Addr) (c0_1 : Nat) (l0_1 : List (List (S50))) (a1_0 : Int) (a1_1 : Int) (a1_2 : Int) (r1 : List (S50)) (r2 : List (List (S50))) (r3 : Bool) (w : World) (P0_ : Nat → Prop) (hs0_0 : Kd.V k50 50 w 0 P0_ (.slice A0_0 l0_0.length c0_0) l0_0) (hr0_1 : Kd.C (Kd.slice 50 k50) w A0_1 l0_1.length l0_1) (hc0_1 : l0_1.length ≤ c0_1) (h : spec_DeskDo.f k l0_0 l0_1 a1_0 a1_1 a1_2 = some (r1, r2, r3)) :
 Calls Try.prog 33 #[.agg #[.slice A0_0 l0_0.length c0_0, .slice A0_1 l0_1.length c0_1], .agg #[.int .i64 a1_0, .int .i64 a1_1, .int .i64 a1_2]] w fun e w' => ∃ v0_ v1_ : Value, e = .returned (.tuple #[.agg #[v0_, v1_], .bool r3]) ∧ Kd.V k50 50 w' 0 (fun k_ => (P0_ k_ ∨ w.heap.size ≤ k_) ∧ some k_ ≠ v1_.ownBlock) v0_ r1 ∧ Kd.V (Kd.slice 50 k50) 23 w' 0 (fun k_ => w.heap.size ≤ k_) v1_ r2 ∧ (l0_1.length < 8 → Kd.S (Kd.slice 50 k50) 23 w' w.heap.size (fun k_ => w.heap.size ≤ k_) v1_ r2) ∧ Below w.heap.size w w' := by
 have hu27 := Try.underlying27
 have hu52 := Try.underlying52
 unfold spec_DeskDo.f at h
 obtain ⟨okd, hOK, h1⟩ := Option.bind_eq_some_iff.mp h
 have HOK := Aside0.mk hOK
 have HV0 := Aside0.mk hs0_0
 have HR0 := Aside0.mk (Kd.V_reads' hs0_0).2.2
 have HC0 := Aside0.mk (Kd.V_reads' hs0_0).2.1
 have HR1 := Aside0.mk hr0_1
 have HC1 := Aside0.mk hc0_1
 clear h hOK hs0_0 hr0_1 hc0_1
 go_enter Try.func33, Try.ntmps33
 go_wp2_with (fail)
 have B0 := Aside0.mk (below_alloc (below_alloc (below_alloc (Below.refl w.heap.size w) (.cells #[.slice A0_0 l0_0.length c0_0, .slice A0_1 l0_1.length c0_1] 27)) (.cells #[.int .i64 a1_0, .int .i64 a1_1, .int .i64 a1_2] 52)) (.cells #[.slice none 0 0, .slice none 0 0] 27))
 have D0 := Aside0.mk (blk_alloc1 (o' := .cells #[.slice none 0 0, .slice none 0 0] 27) (blk_alloc1 (o' := .cells #[.int .i64 a1_0, .int .i64 a1_1, .int .i64 a1_2] 52) (blk_new w (.cells #[.slice A0_0 l0_0.length c0_0, .slice A0_1 l0_1.length c0_1] 27))))
 have A0 := Aside0.mk (blk_alloc1 (o' := .cells #[.slice none 0 0, .slice none 0 0] 27) (blk_new (w.alloc (.cells #[.slice A0_0 l0_0.length c0_0, .slice A0_1 l0_1.length c0_1] 27)) (.cells #[.int .i64 a1_0, .int .i64 a1_1, .int .i64 a1_2] 52)))
 have R0 := Aside0.mk (blk_new ((w.alloc (.cells #[.slice A0_0 l0_0.length c0_0, .slice A0_1 l0_1.length c0_1] 27)).alloc (.cells #[.int .i64 a1_0, .int .i64 a1_1, .int .i64 a1_2] 52)) (.cells #[.slice none 0 0, .slice none 0 0] 27))
 rw [size_alloc1] at A0
 rw [size_alloc1, size_alloc1] at R0
 refine (spec_DeskOk.calls k _ _ l0_0 _ _ l0_1 okd _ (Kd.C_below HR0.out B0.out) HC0.out (Kd.C_below HR1.out B0.out) HC1.out HOK.out).mono ?_
 rintro e w1 ⟨rfl, hb1⟩
 have B1 := Aside0.mk (below_step B0.out hb1)
 have D1 := Aside0.mk ((hb1.block _ (blk_lt D0.out)).trans D0.out)
 have A1 := Aside0.mk ((hb1.block _ (blk_lt A0.out)).trans A0.out)
 have R1 := Aside0.mk ((hb1.block _ (blk_lt R0.out)).trans R0.out)
 clear hb1 B0 D0 A0 R0 HOK
 cases okd with
 | false =>
  rw [if_pos rfl] at h1
  simp only [Option.some.injEq, Prod.mk.injEq] at h1
  obtain ⟨rfl, rfl, rfl⟩ := h1
  have hr0 : w1.cell? ⟨w.heap.size + 1 + 1, 0, none⟩ = some (.slice none 0 0) := (blk_cell R1.out 0).trans rfl
  have hr1 : w1.cell? ⟨w.heap.size + 1 + 1, 1, none⟩ = some (.slice none 0 0) := (blk_cell R1.out 1).trans rfl
  have hf0 := blk_frozen R1.out 0
  have hf1 := blk_frozen R1.out 1
  go_wp2
  refine bodyPost_ret (results_ct rfl _ _ (w.heap.size + 1 + 1) 27 #[.slice none 0 0, .slice none 0 0] (0, 0) _ rfl (res_put R1.out) Try.underlying27 rfl (by kernel_rfl)) rfl ?_
  exact ⟨_, _, rfl, sd_done (g := w.heap.size + 1 + 1) (go := w.heap.size + 1 + 1) (below_set (below_set B1.out (by omega)) (by omega)) (Kept.setCell (Kept.setCell (Kept.refl _ _) (.inl (.inl rfl)) _) (.inl (.inl rfl)) _) (Kd.V_nil k50 50 w1 0 _) (Kd.V_nil (Kd.slice 50 k50) 23 w1 0 _) (fun _ => Kd.S_nil _ _ _ _ _)⟩
 | true =>
  rw [if_neg (by simp)] at h1
  obtain ⟨⟨s0, s1⟩, hS, h2⟩ := Option.bind_eq_some_iff.mp h1
  have HS := Aside0.mk hS
  clear h1 hS
  dsimp only at h2
  have hd0 : w1.cell? ⟨w.heap.size, 0, none⟩ = some (.slice A0_0 l0_0.length c0_0) := (blk_cell D1.out 0).trans rfl
  have hd1 : w1.cell? ⟨w.heap.size, 1, none⟩ = some (.slice A0_1 l0_1.length c0_1) := (blk_cell D1.out 1).trans rfl
  go_wp2_with (fail)
  refine (spec_l12Copy.calls k _ _ l0_0 _ _ l0_1 s0 s1 _ (Kd.C_below HR0.out B1.out) HC0.out (Kd.C_below HR1.out B1.out) HC1.out HS.out).mono ?_
  rintro e w2 ⟨v0, v1, rfl, hv, hs, hb2⟩
  obtain ⟨As0, cs0, rfl⟩ := Kd.R_slice hv
  obtain ⟨As1, cs1, rfl⟩ := Kd.S_slice hs
  clear hd0 hd1
  have E := Aside0.mk (blk_lt R1.out)
  have WSZ := Aside0.mk hb2.size
  have B2 := Aside0.mk (below_alloc (below_step B1.out hb2) (.cells #[.slice As0 s0.length cs0, .slice As1 s1.length cs1] 27))
  have D2 := Aside0.mk (blk_alloc1 (o' := .cells #[.slice As0 s0.length cs0, .slice As1 s1.length cs1] 27) ((hb2.block _ (blk_lt D1.out)).trans D1.out))
  have A2 := Aside0.mk (blk_alloc1 (o' := .cells #[.slice As0 s0.length cs0, .slice As1 s1.length cs1] 27) ((hb2.block _ (blk_lt A1.out)).trans A1.out))
  have R2 := Aside0.mk (blk_alloc1 (o' := .cells #[.slice As0 s0.length cs0, .slice As1 s1.length cs1] 27) ((hb2.block _ (blk_lt R1.out)).trans R1.out))
  have S2 := Aside0.mk (blk_new w2 (.cells #[.slice As0 s0.length cs0, .slice As1 s1.length cs1] 27))
  have V0 := Aside0.mk (Kd.R_alloc (Kd.R_mono (ok' := fun k => w1.heap.size ≤ k ∧ k < w2.heap.size) (Kd.R_bound hv) (fun k hk => ⟨hk.2.1, hk.2.2.1⟩)) (.cells #[.slice As0 s0.length cs0, .slice As1 s1.length cs1] 27))
  have VS := Aside0.mk (Kd.S_alloc (Kd.S_mono (ok' := fun k => (some k ≠ (Value.slice As0 s0.length cs0).ownBlock) ∧ w1.heap.size ≤ k ∧ k < w2.heap.size) (Kd.S_bound hs) (fun k hk => ⟨hk.1, hk.2.1, hk.2.2.1⟩)) (.cells #[.slice As0 s0.length cs0, .slice As1 s1.length cs1] 27))
  have V1 := Aside0.mk (Kd.S_R VS.out)
  have NE := Aside0.mk (show w.heap.size + 1 + 1 < w2.heap.size from Nat.lt_of_lt_of_le E.out hb2.size)
  have m2 : w.heap.size + 1 < w2.heap.size := Nat.lt_of_lt_of_le (blk_lt A1.out) hb2.size
  have m3 := NE.out
  have m4 : w.heap.size < w2.heap.size := by omega
  clear hv hs hb2 B1 D1 A1 R1
  go_upto_region 4 with (fail)
  clear m2 m3 m4
  have E2 := Aside0.mk (size_alloc1 w2 (.cells #[.slice As0 s0.length cs0, .slice As1 s1.length cs1] 27))
  generalize w2.alloc (.cells #[.slice As0 s0.length cs0, .slice As1 s1.length cs1] 27) = w3 at *
  have H2 := Aside0.mk h2
  clear h2
  go_cut [24] (fun v24 wc => v24 = .bool (decide ((a1_0 = 4 ∧ a1_1 = 0 ∧ a1_2 = 0) ∧ 0 < l0_1.length)) ∧ wc = w3)
  ·have ha0 : w3.cell? ⟨w.heap.size + 1, 0, none⟩ = some (.int .i64 a1_0) := (blk_cell A2.out 0).trans rfl
   have ha1 : w3.cell? ⟨w.heap.size + 1, 1, none⟩ = some (.int .i64 a1_1) := (blk_cell A2.out 1).trans rfl
   have ha2 : w3.cell? ⟨w.heap.size + 1, 2, none⟩ = some (.int .i64 a1_2) := (blk_cell A2.out 2).trans rfl
   have hd1 : w3.cell? ⟨w.heap.size, 1, none⟩ = some (.slice A0_1 l0_1.length c0_1) := (blk_cell D2.out 1).trans rfl
   by_cases hk : a1_0 = 4 ∧ a1_1 = 0 ∧ a1_2 = 0
   ·have e0 : (a1_0 == 4) = true := beq_iff_eq.mpr hk.1
    have e1 : (a1_1 == 0) = true := beq_iff_eq.mpr hk.2.1
    have e2 : (a1_2 == 0) = true := beq_iff_eq.mpr hk.2.2
    have HK_ := Aside0.mk hk
    clear hk
    by_cases hl : 0 < l0_1.length
    ·have hl1 : decide (0 < (l0_1.length : Int)) = true := decide_eq_true (by omega)
     have HL_ := Aside0.mk hl
     clear hl
     go_wp2_with (fail)
     go_meet
     exact ⟨congrArg Value.bool (by simp [HK_.out, HL_.out] <;> exact hl1), rfl⟩
    ·have hl1 : decide (0 < (l0_1.length : Int)) = false := decide_eq_false (by omega)
     have HL_ := Aside0.mk hl
     clear hl
     go_wp2_with (fail)
     go_meet
     exact ⟨congrArg Value.bool (by simp [HK_.out, HL_.out] <;> exact hl1), rfl⟩
   ·by_cases h0 : a1_0 = 4
    all_goals by_cases h1 : a1_1 = 0
    all_goals by_cases h2 : a1_2 = 0
    all_goals first | have e0 : (a1_0 == 4) = true := beq_iff_eq.mpr (by assumption) | have e0 : (a1_0 == 4) = false := beq_eq_false_iff_ne.mpr (by assumption)
    all_goals first | have e1 : (a1_1 == 0) = true := beq_iff_eq.mpr (by assumption) | have e1 : (a1_1 == 0) = false := beq_eq_false_iff_ne.mpr (by assumption)
    all_goals first | have e2 : (a1_2 == 0) = true := beq_iff_eq.mpr (by assumption) | have e2 : (a1_2 == 0) = false := beq_eq_false_iff_ne.mpr (by assumption)
    all_goals try (exfalso; omega)
    all_goals have HK_ := Aside0.mk hk
    all_goals clear hk h0 h1 h2
    all_goals go_wp2_with (fail)
    all_goals go_meet
    all_goals exact ⟨congrArg Value.bool (by simp [HK_.out]), rfl⟩
  case rest =>
   obtain ⟨rfl, hw3⟩ := hcut
   have hw3' := hw3.symm
   subst hw3'
   clear hw3
   have hs0 : w3.cell? ⟨w2.heap.size, 0, none⟩ = some (.slice As0 s0.length cs0) := (blk_cell S2.out 0).trans rfl
   have hs1 : w3.cell? ⟨w2.heap.size, 1, none⟩ = some (.slice As1 s1.length cs1) := (blk_cell S2.out 1).trans rfl
   have hne : w.heap.size + 1 + 1 ≠ w2.heap.size := by have := NE.out; omega
   have h2 := H2.out
   clear H2
   by_cases hls : s1.length = l0_1.length
   ·rw [if_pos hls] at h2
    have HLS := Aside0.mk hls
    clear hls
    by_cases hback : (a1_0 = 4 ∧ a1_1 = 0 ∧ a1_2 = 0) ∧ 0 < l0_1.length
    ·rw [if_pos hback] at h2
     simp only [Option.some.injEq, Prod.mk.injEq] at h2
     obtain ⟨rfl, rfl, rfl⟩ := h2
     rw [decide_eq_true hback]
     have hpos : 0 < s1.length := by have := HLS.out; have := hback.2; omega
     clear hback
     have hfo0 := blk_frozen S2.out 0
     have hfo1 := blk_frozen S2.out 1
     have hr0 : w3.cell? ⟨w.heap.size + 1 + 1, 0, none⟩ = some (.slice none 0 0) := (blk_cell R2.out 0).trans rfl
     have hr1 : w3.cell? ⟨w.heap.size + 1 + 1, 1, none⟩ = some (.slice none 0 0) := (blk_cell R2.out 1).trans rfl
     have hf0 := blk_frozen R2.out 0
     have hf1 := blk_frozen R2.out 1
     obtain ⟨gp, cp, ep, hgb, hgl, cells, hcells⟩ := Kd.R_form V1.out hpos
     injection ep with ep1 ep2 ep3
     subst ep1 ep3
     have hmax := Kd.C_max (Kd.R_reads' V1.out).2.2
     have hcap := (Kd.R_reads' V1.out).2.1
     have gne := V1.out.1 gp rfl
     have gn1 : gp ≠ w2.heap.size := by have := gne.2.2; omega
     have gn2 : gp ≠ w.heap.size + 1 + 1 := by have := gne.2.1; have := E.out; omega
     obtain ⟨ji, hji⟩ : ∃ j : Int, ((s1.length - 1 : Nat) : Int) = j := ⟨_, rfl⟩
     have pw : IntKind.i64.wrap ((s1.length : Int) - 1) = ji := by rw [IntKind.wrap_i64]; omega
     have p0 : 0 ≤ ji := by omega
     have q0 : ji < (s1.length : Int) := by omega
     have q1 : ji ≤ (cs1 : Int) := by omega
     obtain ⟨cs, hcl, hM, hcc⟩ := Kd.R_getA V1.out ([] : List S50) ji p0 q0
     obtain ⟨elm, helm⟩ : ∃ z, s1.getD ji.toNat ([] : List S50) = z := ⟨_, rfl⟩
     rw [helm] at hM
     obtain ⟨Ae, ce, rfl, hle, hF⟩ := Kd.FK_slice_open (Kd.FK_of_M hM)
     have hel : w3.cell? ⟨gp, ji.toNat, none⟩ = some (.slice Ae elm.length ce) := by
      have := hcc 0 _ rfl
      rw [show (Kd.slice 50 k50).sz = 1 from rfl, Nat.mul_one, Nat.add_zero, show (⟨gp, 0, none⟩ : Addr).add ji.toNat = ⟨gp, ji.toNat, none⟩ from by simp [Addr.add]; intro h; omega] at this
      exact this
     have hT : ji.toNat = s1.length - 1 := by omega
     have HTS := Aside0.mk (Kd.S_take (m := ji.toNat) VS.out (by omega))
     have HTK := Aside0.mk (Kd.S_R HTS.out)
     have HT := Aside0.mk hT
     have HE := Aside0.mk helm
     have HVE := Aside0.mk (Kd.V_mk (e := 50) (base := 0) hle hF)
     have HTL := Aside0.mk (show (s1.take ji.toNat).length = ji.toNat by rw [List.length_take]; omega)
     have GN := Aside0.mk (And.intro gn1 gn2)
     clear hT helm hM hcc hcl hF hmax hcap hcells hgl hgb gne hji hpos hle
     go_wp2_with (fail)
     go_wp2
     refine bodyPost_ret (results_ct rfl _ _ (w.heap.size + 1 + 1) 27 #[.slice Ae elm.length ce, .slice (some ⟨gp, 0, none⟩) ji.toNat cs1] (0, 0) _ rfl (res_put (blk_kept R2.out (Kept.setCell (Kept.setCell (Kept.refl w3 (fun k => k = w2.heap.size)) (.inl rfl) _) (.inl rfl) _) hne)) Try.underlying27 rfl (by kernel_rfl)) rfl ?_
     refine ⟨_, _, rfl, ?_⟩
     rw [← HT.out, show s1[ji.toNat]?.getD [] = elm from HE.out]
     exact sd_done (W := w3) (g := w.heap.size + 1 + 1) (go := w2.heap.size) (below_set (below_set (below_set (below_set B2.out (by have := NE.out; omega)) (by have := NE.out; omega)) (by omega)) (by omega)) (Kept.setCell (Kept.setCell (Kept.setCell (Kept.setCell (Kept.refl _ _) (.inl (.inr rfl)) _) (.inl (.inr rfl)) _) (.inl (.inl rfl)) _) (.inl (.inl rfl)) _) (Kd.V_mono HVE.out (fun k hk => ⟨⟨.inr (by have := hk.1.2.1; have := E.out; omega), hk.2⟩, by have := hk.1.2.1; have := E.out; omega, by have := hk.1.2.2; omega⟩)) (Kd.V_mono (Kd.R_V HTK.out) (fun k hk => ⟨by have := hk.2.1; have := E.out; omega, by have := hk.2.1; have := E.out; omega, by have := hk.2.2; omega⟩)) (fun _ => Kd.S_mono (Kd.S_lower HTS.out (by have := E.out; omega)) (fun k hk => ⟨by have := hk.2.1; have := E.out; omega, by have := hk.2.1; have := E.out; omega, by have := hk.2.2; omega⟩))
    ·rw [if_neg hback] at h2
     rw [decide_eq_false hback]
     clear hback
     have hd0 : w3.cell? ⟨w.heap.size, 0, none⟩ = some (.slice A0_0 l0_0.length c0_0) := (blk_cell D2.out 0).trans rfl
     have ha0 : w3.cell? ⟨w.heap.size + 1, 0, none⟩ = some (.int .i64 a1_0) := (blk_cell A2.out 0).trans rfl
     have ha1 : w3.cell? ⟨w.heap.size + 1, 1, none⟩ = some (.int .i64 a1_1) := (blk_cell A2.out 1).trans rfl
     have ha2 : w3.cell? ⟨w.heap.size + 1, 2, none⟩ = some (.int .i64 a1_2) := (blk_cell A2.out 2).trans rfl
     obtain ⟨⟨x, o⟩, hN, hA⟩ := Option.bind_eq_some_iff.mp h2
     have HN := Aside0.mk hN
     have HA := Aside0.mk hA
     clear h2 hN hA hs0 hs1
     go_wp2_with (fail)
     refine (spec_l12Made.calls k (fun k => P0_ k ∧ k < w.heap.size) _ _ l0_0 a1_0 a1_1 a1_2 x o _ (V_low HV0.out B2.out) HN.out).mono ?_
     rintro e w4 ⟨v0, rfl, hx, hb4⟩
     obtain ⟨An, cn, rfl⟩ := Kd.V_slice hx
     have B4 := Aside0.mk (below_step B2.out hb4)
     have R4 := Aside0.mk ((hb4.block _ (blk_lt R2.out)).trans R2.out)
     have S4 := Aside0.mk ((hb4.block _ (blk_lt S2.out)).trans S2.out)
     have W0 := Aside0.mk (Kd.R_below V0.out hb4)
     have WS := Aside0.mk (Kd.S_below VS.out hb4)
     have W1 := Aside0.mk (Kd.S_R WS.out)
     have VX := Aside0.mk (show Kd.V k50 50 w4 0 (fun k => ((P0_ k ∧ k < w.heap.size) ∨ w3.heap.size ≤ k) ∧ k < w4.heap.size) _ x from Kd.V_map hx (fun _ hf => Kd.F_bound hf))
     have HZ := Aside0.mk hb4.size
     have hA := HA.out
     clear HA hx hb4 hd0 ha0 ha1 ha2
     have hs0 : w4.cell? ⟨w2.heap.size, 0, none⟩ = some (.slice As0 s0.length cs0) := (blk_cell S4.out 0).trans rfl
     have hs1 : w4.cell? ⟨w2.heap.size, 1, none⟩ = some (.slice As1 s1.length cs1) := (blk_cell S4.out 1).trans rfl
     have hfo0 := blk_frozen S4.out 0
     have hfo1 := blk_frozen S4.out 1
     cases o with
     | false =>
      obtain ⟨rfl, rfl, rfl⟩ : s0 = r1 ∧ s1 = r2 ∧ false = r3 := by simpa [spec_DeskDo.after] using hA
      clear hA
      have hr0 : w4.cell? ⟨w.heap.size + 1 + 1, 0, none⟩ = some (.slice none 0 0) := (blk_cell R4.out 0).trans rfl
      have hr1 : w4.cell? ⟨w.heap.size + 1 + 1, 1, none⟩ = some (.slice none 0 0) := (blk_cell R4.out 1).trans rfl
      have hf0 := blk_frozen R4.out 0
      have hf1 := blk_frozen R4.out 1
      go_wp2
      refine bodyPost_ret (results_ct rfl _ _ (w.heap.size + 1 + 1) 27 #[.slice As0 s0.length cs0, .slice As1 s1.length cs1] (0, 0) _ rfl (res_put R4.out) Try.underlying27 rfl (by kernel_rfl)) rfl ?_
      exact ⟨_, _, rfl, sd_done (W := w4) (g := w.heap.size + 1 + 1) (go := w2.heap.size) (below_set (below_set B4.out (by omega)) (by omega)) (Kept.setCell (Kept.setCell (Kept.refl _ _) (.inl (.inl rfl)) _) (.inl (.inl rfl)) _) (Kd.V_mono (Kd.R_V (k50_own W0.out)) (fun k hk => ⟨⟨.inr (by have := (W0.out.1 k hk).1; have := E.out; omega), fun e => (W1.out.1 k e.symm).1 hk.symm⟩, by have := (W0.out.1 k hk).1; have := E.out; omega, by have := (W0.out.1 k hk).2; omega⟩)) (Kd.V_mono (Kd.R_V W1.out) (fun k hk => ⟨by have := hk.2.1; have := E.out; omega, by have := hk.2.1; have := E.out; omega, by have := hk.2.2; omega⟩)) (fun _ => Kd.S_mono (Kd.S_lower WS.out (by have := E.out; omega)) (fun k hk => ⟨by have := hk.2.1; have := E.out; omega, by have := hk.2.1; have := E.out; omega, by have := hk.2.2; omega⟩))⟩
     | true =>
      unfold spec_DeskDo.after at hA
      rw [if_neg (by simp)] at hA
      by_cases hbig : s1.length < 1000000
      ·rw [if_pos hbig] at hA
       simp only [Option.some.injEq, Prod.mk.injEq] at hA
       obtain ⟨rfl, hq, rfl⟩ := hA
       obtain ⟨y, hy⟩ : ∃ y, y = s1 ++ [s0] := ⟨_, rfl⟩
       have hyl : y.length = s1.length + 1 := by rw [hy]; simp
       rw [← hy, ← hyl] at hq
       have HQ := Aside0.mk hq
       have HY := Aside0.mk hy
       have HYL := Aside0.mk hyl
       have HBIG := Aside0.mk hbig
       clear hq hy hyl hbig
       have VY := Aside0.mk (Kd.V_mono (ok' := fun k => (((P0_ k ∧ k < w.heap.size) ∨ w3.heap.size ≤ k) ∧ k < w4.heap.size) ∧ some k ≠ (Value.slice As1 s1.length cs1).ownBlock) VX.out (fun k hk => ⟨hk, fun e => by
        have h1 := (W1.out.1 k e.symm).2
        have h2 := E.out
        have h3 := E2.out
        rcases hk.1 with h | h
        ·have := h.2; omega
        ·omega⟩))
       by_cases h8 : y.length > 8
       ·have f8 : decide (8 < (y.length : Int)) = true := decide_eq_true (by omega)
        have f8' : decide (8 < y.length) = true := decide_eq_true h8
        have HQ8 := Aside0.mk (show r2 = y.drop 1 from by have := HQ.out; rw [if_pos h8] at this; exact this.symm)
        have H8 := Aside0.mk h8
        clear h8 HQ
        go_wp2_with (first
         | ((with_reducible refine gate_builtin (b := .append) (xs := #[.tmp 52, .tmp 55]) rfl ?_); at_builtin; refine Kd.S_append (Kd.slice 50 k50) (w0 := w4) w1.heap.size rfl (.tmp 52) (.tmp 55) 25 23 (.slice none 0 0) 24 rfl Try.underlying25 info23 rfl (by decide) (by omega) (.slice As1 s1.length cs1) s1 s0 [.slice As0 s0.length cs0] (fun k => w1.heap.size ≤ k ∧ k ≠ w2.heap.size) (fun k_ => (Value.slice As0 s0.length cs0).ownBlock = some k_) rfl rfl ?aP ?aK ?aF ?aO (Below.refl _ _) ?aZ ?aL ?_; (case aP => exact Kd.M_row (Kd.R_mono (k50_own W0.out) (fun _ h => h))); (case aK => exact fun k hk => ⟨⟨(W0.out.1 k hk).1, by have := (W0.out.1 k hk).2; omega⟩, fun e => (W1.out.1 k e.symm).1 hk.symm⟩); (case aF => exact fun k hk => ⟨by have := WSZ.out; have := HZ.out; have := E2.out; omega, by have := HZ.out; have := E2.out; omega⟩); (case aO => exact Kd.S_mono WS.out (fun k hk => ⟨⟨hk.2.1, by have := hk.2.2; omega⟩, fun e => hk.1 e.symm⟩)); (case aZ => have := WSZ.out; have := HZ.out; have := E2.out; omega); (case aL => have := HBIG.out; omega); intro v7 w7 ho hb hg hat; rw [← HY.out] at ho; have HS7 := Aside0.mk ho; have HO7 := Aside0.mk (Kd.S_R ho); have HB7 := Aside0.mk (B4.out.trans (hb.mono (by have := E.out; omega))); have HV7 := Aside0.mk (Kd.V_after VY.out hg hat); have R7 := Aside0.mk ((hg.block _ (blk_lt R4.out) (Kd.R_ne W1.out R4.out (by decide))).trans R4.out); have S7 := Aside0.mk ((hg.block _ (blk_lt S4.out) (Kd.R_ne W1.out S4.out (by decide))).trans S4.out); clear ho hb hg hat hs0 hs1 hfo0 hfo1; obtain ⟨g7, c7, e7, _, _, _⟩ := Kd.R_form HO7.out (by have := HYL.out; omega); subst e7; have hfo0 := blk_frozen S7.out 0; have hfo1 := blk_frozen S7.out 1; have hs0 : w7.cell? ⟨w2.heap.size, 0, none⟩ = some (.slice As0 s0.length cs0) := (blk_cell S7.out 0).trans rfl; have hs1 : w7.cell? ⟨w2.heap.size, 1, none⟩ = some (.slice As1 s1.length cs1) := (blk_cell S7.out 1).trans rfl; have hr0 : w7.cell? ⟨w.heap.size + 1 + 1, 0, none⟩ = some (.slice none 0 0) := (blk_cell R7.out 0).trans rfl; have hr1 : w7.cell? ⟨w.heap.size + 1 + 1, 1, none⟩ = some (.slice none 0 0) := (blk_cell R7.out 1).trans rfl; have hf0 := blk_frozen R7.out 0; have hf1 := blk_frozen R7.out 1; have hcap := (Kd.R_reads' HO7.out).2.1; have h9 := H8.out))
        go_wp2
        refine bodyPost_ret (results_ct rfl _ _ (w.heap.size + 1 + 1) 27 #[.slice An x.length cn, (.slice (some ⟨g7, 1, none⟩) (y.length - 1) (c7 - 1))] (0, 0) _ rfl (res_put (blk_kept R7.out (Kept.setCell (Kept.setCell (Kept.setCell (Kept.refl w7 (fun k => k = w2.heap.size)) (.inl rfl) _) (.inl rfl) _) (.inl rfl) _) hne)) Try.underlying27 rfl (by kernel_rfl)) rfl ?_
        refine ⟨_, _, rfl, ?_⟩
        rw [HQ8.out, show y.length - 1 = (y.drop 1).length from by rw [List.length_drop]]
        exact sd_done (W := w7) (g := w.heap.size + 1 + 1) (go := w2.heap.size) (below_set (below_set (below_set (below_set (below_set HB7.out (by have := NE.out; omega)) (by have := NE.out; omega)) (by have := NE.out; omega)) (by omega)) (by omega)) (Kept.setCell (Kept.setCell (Kept.setCell (Kept.setCell (Kept.setCell (Kept.refl _ _) (.inl (.inr rfl)) _) (.inl (.inr rfl)) _) (.inl (.inr rfl)) _) (.inl (.inl rfl)) _) (.inl (.inl rfl)) _) (Kd.V_mono HV7.out (fun k hk => ⟨⟨hk.1.1.elim (fun h => .inl h.1) (fun h => .inr (by have := E.out; have := WSZ.out; have := E2.out; omega)), hk.2⟩, by have := hk.1.1.imp (fun h => h.2) id; have := E.out; have := WSZ.out; have := E2.out; omega, by have := hk.1.1.imp (fun h => h.2) id; have := NE.out; have := E2.out; omega⟩)) (by have hF := Kd.V_F (Kd.R_V (base' := 0) HO7.out); exact Kd.V_mono (Kd.V_mk (A := some ⟨g7, 1, none⟩) (by rw [List.length_drop]; omega) (Kd.F_imp hF (fun W' hC => by have h7 := Kd.C_drop (m := 1) (c := c7) hC (by have := HYL.out; omega) (by have := (Kd.R_reads' HO7.out).2.1; omega); rw [if_neg (by have h1 := H8.out; have h2 := (Kd.R_reads' HO7.out).2.1; omega)] at h7; exact h7))) (fun k hk => ⟨by have := hk.1; have := E.out; omega, by have := hk.1; have := E.out; omega, hk.2⟩)) (fun hlt => by exfalso; have h1 := HYL.out; have h2 := HLS.out; have h3 := H8.out; omega)
       ·have f8 : decide (8 < (y.length : Int)) = false := decide_eq_false (by omega)
        have f8' : decide (8 < y.length) = false := decide_eq_false h8
        have HQ8 := Aside0.mk (show r2 = y from by have := HQ.out; rw [if_neg h8] at this; exact this.symm)
        clear h8 HQ
        go_wp2_with (first
         | ((with_reducible refine gate_builtin (b := .append) (xs := #[.tmp 52, .tmp 55]) rfl ?_); at_builtin; refine Kd.S_append (Kd.slice 50 k50) (w0 := w4) w1.heap.size rfl (.tmp 52) (.tmp 55) 25 23 (.slice none 0 0) 24 rfl Try.underlying25 info23 rfl (by decide) (by omega) (.slice As1 s1.length cs1) s1 s0 [.slice As0 s0.length cs0] (fun k => w1.heap.size ≤ k ∧ k ≠ w2.heap.size) (fun k_ => (Value.slice As0 s0.length cs0).ownBlock = some k_) rfl rfl ?aP ?aK ?aF ?aO (Below.refl _ _) ?aZ ?aL ?_; (case aP => exact Kd.M_row (Kd.R_mono (k50_own W0.out) (fun _ h => h))); (case aK => exact fun k hk => ⟨⟨(W0.out.1 k hk).1, by have := (W0.out.1 k hk).2; omega⟩, fun e => (W1.out.1 k e.symm).1 hk.symm⟩); (case aF => exact fun k hk => ⟨by have := WSZ.out; have := HZ.out; have := E2.out; omega, by have := HZ.out; have := E2.out; omega⟩); (case aO => exact Kd.S_mono WS.out (fun k hk => ⟨⟨hk.2.1, by have := hk.2.2; omega⟩, fun e => hk.1 e.symm⟩)); (case aZ => have := WSZ.out; have := HZ.out; have := E2.out; omega); (case aL => have := HBIG.out; omega); intro v7 w7 ho hb hg hat; rw [← HY.out] at ho; have HS7 := Aside0.mk ho; have HO7 := Aside0.mk (Kd.S_R ho); have HB7 := Aside0.mk (B4.out.trans (hb.mono (by have := E.out; omega))); have HV7 := Aside0.mk (Kd.V_after VY.out hg hat); have R7 := Aside0.mk ((hg.block _ (blk_lt R4.out) (Kd.R_ne W1.out R4.out (by decide))).trans R4.out); have S7 := Aside0.mk ((hg.block _ (blk_lt S4.out) (Kd.R_ne W1.out S4.out (by decide))).trans S4.out); clear ho hb hg hat hs0 hs1 hfo0 hfo1; obtain ⟨g7, c7, e7, _, _, _⟩ := Kd.R_form HO7.out (by have := HYL.out; omega); subst e7; have hfo0 := blk_frozen S7.out 0; have hfo1 := blk_frozen S7.out 1; have hs0 : w7.cell? ⟨w2.heap.size, 0, none⟩ = some (.slice As0 s0.length cs0) := (blk_cell S7.out 0).trans rfl; have hs1 : w7.cell? ⟨w2.heap.size, 1, none⟩ = some (.slice As1 s1.length cs1) := (blk_cell S7.out 1).trans rfl; have hr0 : w7.cell? ⟨w.heap.size + 1 + 1, 0, none⟩ = some (.slice none 0 0) := (blk_cell R7.out 0).trans rfl; have hr1 : w7.cell? ⟨w.heap.size + 1 + 1, 1, none⟩ = some (.slice none 0 0) := (blk_cell R7.out 1).trans rfl; have hf0 := blk_frozen R7.out 0; have hf1 := blk_frozen R7.out 1))
        go_wp2
        refine bodyPost_ret (results_ct rfl _ _ (w.heap.size + 1 + 1) 27 #[.slice An x.length cn, (.slice (some ⟨g7, 0, none⟩) y.length c7)] (0, 0) _ rfl (res_put (blk_kept R7.out (Kept.setCell (Kept.setCell (Kept.refl w7 (fun k => k = w2.heap.size)) (.inl rfl) _) (.inl rfl) _) hne)) Try.underlying27 rfl (by kernel_rfl)) rfl ?_
        refine ⟨_, _, rfl, ?_⟩
        rw [HQ8.out]
        exact sd_done (W := w7) (g := w.heap.size + 1 + 1) (go := w2.heap.size) (below_set (below_set (below_set (below_set HB7.out (by have := NE.out; omega)) (by have := NE.out; omega)) (by omega)) (by omega)) (Kept.setCell (Kept.setCell (Kept.setCell (Kept.setCell (Kept.refl _ _) (.inl (.inr rfl)) _) (.inl (.inr rfl)) _) (.inl (.inl rfl)) _) (.inl (.inl rfl)) _) (Kd.V_mono HV7.out (fun k hk => ⟨⟨hk.1.1.elim (fun h => .inl h.1) (fun h => .inr (by have := E.out; have := WSZ.out; have := E2.out; omega)), hk.2⟩, by have := hk.1.1.imp (fun h => h.2) id; have := E.out; have := WSZ.out; have := E2.out; omega, by have := hk.1.1.imp (fun h => h.2) id; have := NE.out; have := E2.out; omega⟩)) (Kd.V_mono (Kd.R_V HO7.out) (fun k hk => ⟨by have := hk.1; have := E.out; omega, by have := hk.1; have := E.out; omega, hk.2⟩)) (fun _ => Kd.S_mono (Kd.S_lower HS7.out (by have := E.out; omega)) (fun k hk => ⟨by have := hk.1; have := E.out; omega, by have := hk.1; have := E.out; omega, hk.2⟩))
      ·rw [if_neg hbig] at hA; cases hA
   ·rw [if_neg hls] at h2; cases h2

/-! ### spec_l20Rd_pick: function 67 -/
def spec_l20Rd_pick.j0 : Nat → Int → Bool → List Int → Int → Option (Int × Int)
  | 0, _, _, _, _ => none
  | k + 1, x1, x24, x1000, x1001 => if x24 = true then (some (0, x1001)) else (if (wrap64 (x1001 - 1)) < (x1000.length : Int) then (if 0 ≤ (wrap64 (x1001 - 1)) then (if x1 = 0 then (none) else (some (Int.tmod (wrap64 (rd x1000 (wrap64 (x1001 - 1)))) x1, x1001))) else (none)) else (if (x1000.length : Int) = 0 then (none) else (if 0 ≤ (Int.tmod (wrap64 (x1001 - 1)) (x1000.length : Int)) then (if (Int.tmod (wrap64 (x1001 - 1)) (x1000.length : Int)) < (x1000.length : Int) then (if 0 ≤ (Int.tmod (wrap64 ((wrap64 ((wrap64 (x1001 - 1)) * 7)) + 3)) (x1000.length : Int)) then (if (Int.tmod (wrap64 ((wrap64 ((wrap64 (x1001 - 1)) * 7)) + 3)) (x1000.length : Int)) < (x1000.length : Int) then (if x1 = 0 then (none) else (some (Int.tmod (Go.bits .xor .i64 (wrap64 ((wrap64 ((wrap64 ((wrap64 ((wrap64 (rd x1000 (Int.tmod (wrap64 (x1001 - 1)) (x1000.length : Int)))) * 131)) + (wrap64 ((wrap64 (rd x1000 (Int.tmod (wrap64 ((wrap64 ((wrap64 (x1001 - 1)) * 7)) + 3)) (x1000.length : Int)))) * 1117)))) + (wrap64 ((wrap64 (x1001 - 1)) * 29)))) + (wrap64 ((wrap64 (Int.tdiv (wrap64 (x1001 - 1)) (x1000.length : Int))) * 53)))) (wrap64 (Int.tdiv (wrap64 ((wrap64 ((wrap64 ((wrap64 ((wrap64 (rd x1000 (Int.tmod (wrap64 (x1001 - 1)) (x1000.length : Int)))) * 131)) + (wrap64 ((wrap64 (rd x1000 (Int.tmod (wrap64 ((wrap64 ((wrap64 (x1001 - 1)) * 7)) + 3)) (x1000.length : Int)))) * 1117)))) + (wrap64 ((wrap64 (x1001 - 1)) * 29)))) + (wrap64 ((wrap64 (Int.tdiv (wrap64 (x1001 - 1)) (x1000.length : Int))) * 53)))) 64))) x1, x1001))) else (none)) else (none)) else (none)) else (none))))
def spec_l20Rd_pick.f (k : Nat) (s0_0 : List Int) (s0_1 : Int) (a1 : Int) : Option (Int × Int) := if a1 < 1 then (spec_l20Rd_pick.j0 k a1 true s0_0 (wrap64 (s0_1 + 1))) else (spec_l20Rd_pick.j0 k a1 ((s0_0.length : Int) == 0) s0_0 (wrap64 (s0_1 + 1)))
set_option maxHeartbeats 8000000 in
set_option maxRecDepth 100000 in
theorem spec_l20Rd_pick.calls (k : Nat) (g : Nat) (s0_0 : List Int) (s0_1 : Int) (a1 : Int) (r1 : Int) (r2 : Int) (w0 w : World) (hI : IsS95 w0 w g s0_0 s0_1) (hB : Below w0.heap.size w0 w) (h : spec_l20Rd_pick.f k s0_0 s0_1 a1 = some (r1, r2)) :
 Calls Try.prog 67 #[.pointer (some ⟨g, 0, none⟩), .int .i64 a1] w fun e w' => e = .returned (.int .i64 r1) ∧ IsS95 w0 w' g s0_0 r2 ∧ Below w0.heap.size w0 w' ∧ KeepBut w w' g none := by
 have HI0 := Aside0.mk hI
 have HK := Aside0.mk (KeepBut.refl w g none)
 have HL := Aside0.mk hB.size
 clear hI
 have HW0 := Aside0.mk hB.size
 have HB := Aside0.mk hB
 clear hB
 have H : (if a1 < 1 then (spec_l20Rd_pick.j0 k a1 true s0_0 (wrap64 (s0_1 + 1))) else (spec_l20Rd_pick.j0 k a1 ((s0_0.length : Int) == 0) s0_0 (wrap64 (s0_1 + 1)))) = some (r1, r2) := h
 clear h
 have HC3 := Aside0.mk H
 clear H
 obtain ⟨ASz4_0, cSz4_0, HGz4, hgz4, HSz4_0⟩ := HI0.out
 have hcz4_0 := cellS95_0 HGz4
 have hcz4_1 := cellS95_1 HGz4
 have hfz4_1 := blk_frozen HGz4 1
 clear HGz4 hgz4
 go_enter Try.func67, Try.ntmps67
 go_upto_region 2 with (fail)
 repeat (go_quiet (fail); go_upto_region 2 with (fail))
 go_cut [24] (fun v24 wc => ∃ (kq : Nat) (x24_2 : Bool), v24 = .bool x24_2 ∧ Aside0 (spec_l20Rd_pick.j0 kq a1 x24_2 s0_0 (wrap64 (s0_1 + 1)) = some (r1, r2)) ∧ Aside0 (kq ≤ k) ∧ Aside0 (IsS95 w0 wc g s0_0 (wrap64 (s0_1 + 1))) ∧ Aside0 (KeepBut w wc g none) ∧ Aside0 (Below w0.heap.size w0 wc))
 case first =>
  have H := HC3.out
  clear HC3
  by_cases c5 : a1 < 1
  ·rw [if_pos c5] at H
   have c5b0 : decide (a1 < 1) = true := decide_eq_true c5
   clear c5
   (first | rw [c5b0] | (simp only [i64_w, i32_w]; rw [c5b0]) | skip)
   have H' := Aside0.mk H
   clear H
   go_wp2
   repeat (go_quiet (fail); try go_wp2)
   go_meet
   case rel => exact ⟨_, (true), (by first | rfl | (simp; done) | (simp [*]; done)), H', ⟨by first | omega | exact Nat.le_refl _⟩, ⟨by repeat (first | (with_reducible first | exact HI0.out | apply IsS95.alloc | apply IsS95.drewN | apply IsS95.drew | apply IsS95.set_1) | exact HI0.out)⟩, ⟨by repeat (first | (with_reducible first | exact HK.out | apply KeepBut.set_ | apply keep_drewN | apply keep_drew | apply keep_alloc) | exact HK.out)⟩, ⟨by repeat (first | (with_reducible first | exact HB.out | apply below_alloc | apply pw_below_drewN | apply below_drew1 | refine below_set ?_ (IsS95.ge HI0.out)) | exact HB.out)⟩⟩
  ·rw [if_neg c5] at H
   have c5b0 : decide (a1 < 1) = false := decide_eq_false c5
   clear c5
   (first | rw [c5b0] | (simp only [i64_w, i32_w]; rw [c5b0]) | skip)
   have H' := Aside0.mk H
   clear H
   obtain ⟨ASz6_0, cSz6_0, HGz6, hgz6, HSz6_0⟩ := HI0.out
   have hcz6_0 := cellS95_0 HGz6
   have hcz6_1 := cellS95_1 HGz6
   have hfz6_1 := blk_frozen HGz6 1
   clear HGz6 hgz6
   go_wp2
   repeat (go_quiet (fail); try go_wp2)
   go_meet
   case rel => exact ⟨_, (((s0_0.length : Int) == 0)), (by first | rfl | (simp; done) | (simp [*]; done)), H', ⟨by first | omega | exact Nat.le_refl _⟩, ⟨by repeat (first | (with_reducible first | exact HI0.out | apply IsS95.alloc | apply IsS95.drewN | apply IsS95.drew | apply IsS95.set_1) | exact HI0.out)⟩, ⟨by repeat (first | (with_reducible first | exact HK.out | apply KeepBut.set_ | apply keep_drewN | apply keep_drew | apply keep_alloc) | exact HK.out)⟩, ⟨by repeat (first | (with_reducible first | exact HB.out | apply below_alloc | apply pw_below_drewN | apply below_drew1 | refine below_set ?_ (IsS95.ge HI0.out)) | exact HB.out)⟩⟩
 case rest =>
  clear HC3
  try clear p2
  try clear c5
  try clear c5b0
  try clear c6
  try clear p6
  try clear hcz4_0
  try clear hcz4_1
  try clear hcz6_0
  try clear hcz6_1
  try clear hfz4_1
  try clear hfz6_1
  obtain ⟨kq, x24_2, rfl, HA, HJ2, HI0, HK, HB⟩ := hcut
  cases kq with
  | zero => exact absurd HA.out (by simp [spec_l20Rd_pick.j0])
  | succ kj2 =>
   have H := HA.out
   clear HA
   simp only [spec_l20Rd_pick.j0] at H
   by_cases c7 : x24_2 = true
   ·subst c7
    have H1 : (some (0, (wrap64 (s0_1 + 1)))) = some (r1, r2) := by rw [if_pos rfl] at H; exact H
    clear H
    have H := H1
    clear H1
    simp only [Option.some.injEq, Prod.mk.injEq] at H
    obtain ⟨rfl, rfl⟩ := H
    go_wp2
    repeat (go_quiet (fail); try go_wp2)
    go_ret
    exact ⟨by first | rfl | (simp [errW_none, errW_some] <;> rfl) | (simp [*, errW_none, errW_some] <;> rfl), by repeat (first | (with_reducible first | exact HI0.out | apply IsS95.alloc | apply IsS95.drewN | apply IsS95.drew | apply IsS95.set_1) | exact HI0.out), by repeat (first | (with_reducible first | exact HB.out | apply below_alloc | apply pw_below_drewN | apply below_drew1 | refine below_set ?_ (IsS95.ge HI0.out)) | exact HB.out), by repeat (first | (with_reducible first | exact HK.out | apply KeepBut.set_ | apply keep_drewN | apply keep_drew | apply keep_alloc) | exact HK.out)⟩
   ·replace c7 := Bool.eq_false_iff.mpr c7
    subst c7
    have H1 : (if (wrap64 ((wrap64 (s0_1 + 1)) - 1)) < (s0_0.length : Int) then (if 0 ≤ (wrap64 ((wrap64 (s0_1 + 1)) - 1)) then (if a1 = 0 then (none) else (some (Int.tmod (wrap64 (rd s0_0 (wrap64 ((wrap64 (s0_1 + 1)) - 1)))) a1, (wrap64 (s0_1 + 1))))) else (none)) else (if (s0_0.length : Int) = 0 then (none) else (if 0 ≤ (Int.tmod (wrap64 ((wrap64 (s0_1 + 1)) - 1)) (s0_0.length : Int)) then (if (Int.tmod (wrap64 ((wrap64 (s0_1 + 1)) - 1)) (s0_0.length : Int)) < (s0_0.length : Int) then (if 0 ≤ (Int.tmod (wrap64 ((wrap64 ((wrap64 ((wrap64 (s0_1 + 1)) - 1)) * 7)) + 3)) (s0_0.length : Int)) then (if (Int.tmod (wrap64 ((wrap64 ((wrap64 ((wrap64 (s0_1 + 1)) - 1)) * 7)) + 3)) (s0_0.length : Int)) < (s0_0.length : Int) then (if a1 = 0 then (none) else (some (Int.tmod (Go.bits .xor .i64 (wrap64 ((wrap64 ((wrap64 ((wrap64 ((wrap64 (rd s0_0 (Int.tmod (wrap64 ((wrap64 (s0_1 + 1)) - 1)) (s0_0.length : Int)))) * 131)) + (wrap64 ((wrap64 (rd s0_0 (Int.tmod (wrap64 ((wrap64 ((wrap64 ((wrap64 (s0_1 + 1)) - 1)) * 7)) + 3)) (s0_0.length : Int)))) * 1117)))) + (wrap64 ((wrap64 ((wrap64 (s0_1 + 1)) - 1)) * 29)))) + (wrap64 ((wrap64 (Int.tdiv (wrap64 ((wrap64 (s0_1 + 1)) - 1)) (s0_0.length : Int))) * 53)))) (wrap64 (Int.tdiv (wrap64 ((wrap64 ((wrap64 ((wrap64 ((wrap64 (rd s0_0 (Int.tmod (wrap64 ((wrap64 (s0_1 + 1)) - 1)) (s0_0.length : Int)))) * 131)) + (wrap64 ((wrap64 (rd s0_0 (Int.tmod (wrap64 ((wrap64 ((wrap64 ((wrap64 (s0_1 + 1)) - 1)) * 7)) + 3)) (s0_0.length : Int)))) * 1117)))) + (wrap64 ((wrap64 ((wrap64 (s0_1 + 1)) - 1)) * 29)))) + (wrap64 ((wrap64 (Int.tdiv (wrap64 ((wrap64 (s0_1 + 1)) - 1)) (s0_0.length : Int))) * 53)))) 64))) a1, (wrap64 (s0_1 + 1))))) else (none)) else (none)) else (none)) else (none)))) = some (r1, r2) := by rw [if_neg (show ¬ (false = true) by decide)] at H; exact H
    clear H
    have H := H1
    clear H1
    by_cases c8 : (wrap64 ((wrap64 (s0_1 + 1)) - 1)) < (s0_0.length : Int)
    ·rw [if_pos c8] at H
     have c8b0 : decide ((wrap64 ((wrap64 (s0_1 + 1)) - 1)) < (s0_0.length : Int)) = true := decide_eq_true c8
     clear c8
     obtain ⟨ji9, hji9⟩ : ∃ j_ : Int, (wrap64 ((wrap64 (s0_1 + 1)) - 1)) = j_ := ⟨_, rfl⟩
     replace H : (if 0 ≤ (ji9) then (if a1 = 0 then (none) else (some (Int.tmod (wrap64 (rd s0_0 (ji9))) a1, (wrap64 (s0_1 + 1))))) else (none)) = some (r1, r2) := by first | (rw [hji9] at H; exact H) | (simp only [hji9] at H ⊢; exact H)
     (try rw [hji9] at c8b0)
     have hji9w : (IntKind.i64.wrap ((wrap64 (s0_1 + 1)) - 1)) = ji9 := (i64_w _).trans hji9
     by_cases c10 : 0 ≤ (ji9)
     ·rw [if_pos c10] at H
      have c10b0 : decide (0 ≤ (ji9)) = true := decide_eq_true c10
      clear c10
      by_cases c11 : a1 = 0
      ·rw [if_pos c11] at H
       exact absurd H (by simp)
      ·rw [if_neg c11] at H
       have c11b0 : (a1 == 0) = false := beq_eq_false_iff_ne.mpr c11
       have c11b1 : (a1 != 0) = true := bne_iff_ne.mpr c11
       simp only [Option.some.injEq, Prod.mk.injEq] at H
       obtain ⟨rfl, rfl⟩ := H
       obtain ⟨ASz12_0, cSz12_0, HGz12, hgz12, HSz12_0⟩ := HI0.out
       have hcz12_0 := cellS95_0 HGz12
       have hcz12_1 := cellS95_1 HGz12
       have hfz12_1 := blk_frozen HGz12 1
       clear HGz12 hgz12
       have p253 : 0 ≤ ((ji9) : Int) := of_decide_eq_true (by first | (with_reducible assumption) | assumption)
       have q253 : (ji9) < (s0_0.length : Int) := of_decide_eq_true (by first | (with_reducible assumption) | assumption)
       obtain ⟨ad253, e253, hx253_0⟩ := Kd.at_int HSz12_0 (ji9) p253 q253
       cases e253
       replace hx253_0 := pw_cell_below HB.out hx253_0
       replace p253 := eq_true p253
       replace q253 := eq_true q253
       go_wp2
       repeat (go_quiet (fail); try go_wp2)
       go_ret
       exact ⟨by first | rfl | (simp [errW_none, errW_some] <;> rfl) | (simp only [← hji9]; first | rfl | (simp [errW_none, errW_some] <;> rfl)) | (simp [*, errW_none, errW_some] <;> rfl), by repeat (first | (with_reducible first | exact HI0.out | apply IsS95.alloc | apply IsS95.drewN | apply IsS95.drew | apply IsS95.set_1) | exact HI0.out), by repeat (first | (with_reducible first | exact HB.out | apply below_alloc | apply pw_below_drewN | apply below_drew1 | refine below_set ?_ (IsS95.ge HI0.out)) | exact HB.out), by repeat (first | (with_reducible first | exact HK.out | apply KeepBut.set_ | apply keep_drewN | apply keep_drew | apply keep_alloc) | exact HK.out)⟩
     ·rw [if_neg c10] at H
      exact absurd H (by simp)
    ·rw [if_neg c8] at H
     have c8b0 : decide ((wrap64 ((wrap64 (s0_1 + 1)) - 1)) < (s0_0.length : Int)) = false := decide_eq_false c8
     clear c8
     by_cases c13 : (s0_0.length : Int) = 0
     ·rw [if_pos c13] at H
      exact absurd H (by simp)
     ·rw [if_neg c13] at H
      have c13b0 : ((s0_0.length : Int) == 0) = false := beq_eq_false_iff_ne.mpr c13
      have c13b1 : ((s0_0.length : Int) != 0) = true := bne_iff_ne.mpr c13
      have c13b2 : ¬ (s0_0 = []) := fun h_ => c13 (by rw [h_]; rfl)
      obtain ⟨ji14, hji14⟩ : ∃ j_ : Int, (Int.tmod (wrap64 ((wrap64 (s0_1 + 1)) - 1)) (s0_0.length : Int)) = j_ := ⟨_, rfl⟩
      replace H : (if 0 ≤ (ji14) then (if (ji14) < (s0_0.length : Int) then (if 0 ≤ (Int.tmod (wrap64 ((wrap64 ((wrap64 ((wrap64 (s0_1 + 1)) - 1)) * 7)) + 3)) (s0_0.length : Int)) then (if (Int.tmod (wrap64 ((wrap64 ((wrap64 ((wrap64 (s0_1 + 1)) - 1)) * 7)) + 3)) (s0_0.length : Int)) < (s0_0.length : Int) then (if a1 = 0 then (none) else (some (Int.tmod (Go.bits .xor .i64 (wrap64 ((wrap64 ((wrap64 ((wrap64 ((wrap64 (rd s0_0 (ji14))) * 131)) + (wrap64 ((wrap64 (rd s0_0 (Int.tmod (wrap64 ((wrap64 ((wrap64 ((wrap64 (s0_1 + 1)) - 1)) * 7)) + 3)) (s0_0.length : Int)))) * 1117)))) + (wrap64 ((wrap64 ((wrap64 (s0_1 + 1)) - 1)) * 29)))) + (wrap64 ((wrap64 (Int.tdiv (wrap64 ((wrap64 (s0_1 + 1)) - 1)) (s0_0.length : Int))) * 53)))) (wrap64 (Int.tdiv (wrap64 ((wrap64 ((wrap64 ((wrap64 ((wrap64 (rd s0_0 (ji14))) * 131)) + (wrap64 ((wrap64 (rd s0_0 (Int.tmod (wrap64 ((wrap64 ((wrap64 ((wrap64 (s0_1 + 1)) - 1)) * 7)) + 3)) (s0_0.length : Int)))) * 1117)))) + (wrap64 ((wrap64 ((wrap64 (s0_1 + 1)) - 1)) * 29)))) + (wrap64 ((wrap64 (Int.tdiv (wrap64 ((wrap64 (s0_1 + 1)) - 1)) (s0_0.length : Int))) * 53)))) 64))) a1, (wrap64 (s0_1 + 1))))) else (none)) else (none)) else (none)) else (none)) = some (r1, r2) := by first | (rw [hji14] at H; exact H) | (simp only [hji14] at H ⊢; exact H)
      by_cases c15 : 0 ≤ (ji14)
      ·rw [if_pos c15] at H
       have c15b0 : decide (0 ≤ (ji14)) = true := decide_eq_true c15
       clear c15
       by_cases c16 : (ji14) < (s0_0.length : Int)
       ·rw [if_pos c16] at H
        have c16b0 : decide ((ji14) < (s0_0.length : Int)) = true := decide_eq_true c16
        clear c16
        obtain ⟨ji17, hji17⟩ : ∃ j_ : Int, (Int.tmod (wrap64 ((wrap64 ((wrap64 ((wrap64 (s0_1 + 1)) - 1)) * 7)) + 3)) (s0_0.length : Int)) = j_ := ⟨_, rfl⟩
        replace H : (if 0 ≤ (ji17) then (if (ji17) < (s0_0.length : Int) then (if a1 = 0 then (none) else (some (Int.tmod (Go.bits .xor .i64 (wrap64 ((wrap64 ((wrap64 ((wrap64 ((wrap64 (rd s0_0 (ji14))) * 131)) + (wrap64 ((wrap64 (rd s0_0 (ji17))) * 1117)))) + (wrap64 ((wrap64 ((wrap64 (s0_1 + 1)) - 1)) * 29)))) + (wrap64 ((wrap64 (Int.tdiv (wrap64 ((wrap64 (s0_1 + 1)) - 1)) (s0_0.length : Int))) * 53)))) (wrap64 (Int.tdiv (wrap64 ((wrap64 ((wrap64 ((wrap64 ((wrap64 (rd s0_0 (ji14))) * 131)) + (wrap64 ((wrap64 (rd s0_0 (ji17))) * 1117)))) + (wrap64 ((wrap64 ((wrap64 (s0_1 + 1)) - 1)) * 29)))) + (wrap64 ((wrap64 (Int.tdiv (wrap64 ((wrap64 (s0_1 + 1)) - 1)) (s0_0.length : Int))) * 53)))) 64))) a1, (wrap64 (s0_1 + 1))))) else (none)) else (none)) = some (r1, r2) := by first | (rw [hji17] at H; exact H) | (simp only [hji17] at H ⊢; exact H)
        by_cases c18 : 0 ≤ (ji17)
        ·rw [if_pos c18] at H
         have c18b0 : decide (0 ≤ (ji17)) = true := decide_eq_true c18
         clear c18
         by_cases c19 : (ji17) < (s0_0.length : Int)
         ·rw [if_pos c19] at H
          have c19b0 : decide ((ji17) < (s0_0.length : Int)) = true := decide_eq_true c19
          clear c19
          by_cases c20 : a1 = 0
          ·rw [if_pos c20] at H
           exact absurd H (by simp)
          ·rw [if_neg c20] at H
           have c20b0 : (a1 == 0) = false := beq_eq_false_iff_ne.mpr c20
           have c20b1 : (a1 != 0) = true := bne_iff_ne.mpr c20
           simp only [Option.some.injEq, Prod.mk.injEq] at H
           obtain ⟨rfl, rfl⟩ := H
           obtain ⟨ASz21_0, cSz21_0, HGz21, hgz21, HSz21_0⟩ := HI0.out
           have hcz21_0 := cellS95_0 HGz21
           have hcz21_1 := cellS95_1 HGz21
           have hfz21_1 := blk_frozen HGz21 1
           clear HGz21 hgz21
           have p254 : 0 ≤ ((ji14) : Int) := of_decide_eq_true (by first | (with_reducible assumption) | assumption)
           have q254 : (ji14) < (s0_0.length : Int) := of_decide_eq_true (by first | (with_reducible assumption) | assumption)
           obtain ⟨ad254, e254, hx254_0⟩ := Kd.at_int HSz21_0 (ji14) p254 q254
           cases e254
           replace hx254_0 := pw_cell_below HB.out hx254_0
           replace p254 := eq_true p254
           replace q254 := eq_true q254
           have p255 : 0 ≤ ((ji17) : Int) := of_decide_eq_true (by first | (with_reducible assumption) | assumption)
           have q255 : (ji17) < (s0_0.length : Int) := of_decide_eq_true (by first | (with_reducible assumption) | assumption)
           obtain ⟨ad255, e255, hx255_0⟩ := Kd.at_int HSz21_0 (ji17) p255 q255
           obtain rfl : ad254 = ad255 := (by injection e255)
           replace hx255_0 := pw_cell_below HB.out hx255_0
           replace p255 := eq_true p255
           replace q255 := eq_true q255
           go_wp2
           repeat (go_quiet (fail); try go_wp2)
           go_ret
           exact ⟨by first | rfl | (simp [errW_none, errW_some] <;> rfl) | (simp only [← hji14, ← hji17]; first | rfl | (simp [errW_none, errW_some] <;> rfl)) | (simp [*, errW_none, errW_some] <;> rfl), by repeat (first | (with_reducible first | exact HI0.out | apply IsS95.alloc | apply IsS95.drewN | apply IsS95.drew | apply IsS95.set_1) | exact HI0.out), by repeat (first | (with_reducible first | exact HB.out | apply below_alloc | apply pw_below_drewN | apply below_drew1 | refine below_set ?_ (IsS95.ge HI0.out)) | exact HB.out), by repeat (first | (with_reducible first | exact HK.out | apply KeepBut.set_ | apply keep_drewN | apply keep_drew | apply keep_alloc) | exact HK.out)⟩
         ·rw [if_neg c19] at H
          exact absurd H (by simp)
        ·rw [if_neg c18] at H
         exact absurd H (by simp)
       ·rw [if_neg c16] at H
        exact absurd H (by simp)
      ·rw [if_neg c15] at H
       exact absurd H (by simp)

/-! ### spec_l20Rd_odd: function 64 -/
def spec_l20Rd_odd.f (k : Nat) (s0_0 : List Int) (s0_1 : Int) (a1 : Int) : Option (Bool × Int) := if a1 > 0 then ((spec_l20Rd_pick.f k s0_0 s0_1 a1).bind fun bt256 => (some ((bt256.1 == (wrap64 (a1 - 1))), bt256.2))) else (some (false, s0_1))
set_option maxHeartbeats 8000000 in
set_option maxRecDepth 100000 in
theorem spec_l20Rd_odd.calls (k : Nat) (g : Nat) (s0_0 : List Int) (s0_1 : Int) (a1 : Int) (r1 : Bool) (r2 : Int) (w0 w : World) (hI : IsS95 w0 w g s0_0 s0_1) (hB : Below w0.heap.size w0 w) (h : spec_l20Rd_odd.f k s0_0 s0_1 a1 = some (r1, r2)) :
 Calls Try.prog 64 #[.pointer (some ⟨g, 0, none⟩), .int .i64 a1] w fun e w' => e = .returned (.bool r1) ∧ IsS95 w0 w' g s0_0 r2 ∧ Below w0.heap.size w0 w' ∧ KeepBut w w' g none := by
 have HI0 := Aside0.mk hI
 have HK := Aside0.mk (KeepBut.refl w g none)
 have HL := Aside0.mk hB.size
 clear hI
 have HW0 := Aside0.mk hB.size
 have HB := Aside0.mk hB
 clear hB
 have H : (if a1 > 0 then ((spec_l20Rd_pick.f k s0_0 s0_1 a1).bind fun bt256 => (some ((bt256.1 == (wrap64 (a1 - 1))), bt256.2))) else (some (false, s0_1))) = some (r1, r2) := h
 clear h
 by_cases c3 : a1 > 0
 ·rw [if_pos c3] at H
  have c3b0 : decide (0 < a1) = true := decide_eq_true c3
  clear c3
  replace H := Option.bind_eq_some_iff.mp H
  obtain ⟨⟨t256, t257⟩, A40, H⟩ := H
  replace H : (some ((t256 == (wrap64 (a1 - 1))), t257)) = some (r1, r2) := H
  have A4 := Aside0.mk A40
  clear A40
  simp only [Option.some.injEq, Prod.mk.injEq] at H
  obtain ⟨rfl, rfl⟩ := H
  go_enter Try.func64, Try.ntmps64
  go_wp2_with (first | (go_at_call 67; (with_reducible refine (spec_l20Rd_pick.calls k g s0_0 s0_1 a1 t256 t257 w0 _ ?side1 ?side2 A4.out).mono ?_); (case side1 => repeat (first | (with_reducible first | exact HI0.out | apply IsS95.alloc | apply IsS95.drewN | apply IsS95.drew | apply IsS95.set_1) | exact HI0.out)); (case side2 => repeat (first | (with_reducible first | exact HB.out | apply below_alloc | apply pw_below_drewN | apply below_drew1 | refine below_set ?_ (IsS95.ge HI0.out)) | exact HB.out)); rintro e w5 ⟨rfl, hi, hb, hk⟩; have n0_ := Aside0.mk (KeepBut.trans (by repeat (first | (with_reducible first | exact HK.out | apply KeepBut.set_ | apply keep_drewN | apply keep_drew | apply keep_alloc) | exact HK.out)) hk (.inl rfl)); have n1_ := Aside0.mk (hb); have n2_ := Aside0.mk (hi); clear HK; clear HB; clear HI0; have HK := n0_; have HB := n1_; have HI0 := n2_; clear n0_ n1_ n2_; (try clear hb); (try clear hb2); (try clear hk); (try clear hi)))
  go_ret
  exact ⟨by first | rfl | (simp [errW_none, errW_some] <;> rfl) | (simp [*, errW_none, errW_some] <;> rfl), by repeat (first | (with_reducible first | exact HI0.out | apply IsS95.alloc | apply IsS95.drewN | apply IsS95.drew | apply IsS95.set_1) | exact HI0.out), by repeat (first | (with_reducible first | exact HB.out | apply below_alloc | apply pw_below_drewN | apply below_drew1 | refine below_set ?_ (IsS95.ge HI0.out)) | exact HB.out), by repeat (first | (with_reducible first | exact HK.out | apply KeepBut.set_ | apply keep_drewN | apply keep_drew | apply keep_alloc) | exact HK.out)⟩
 ·rw [if_neg c3] at H
  have c3b0 : decide (0 < a1) = false := decide_eq_false c3
  clear c3
  simp only [Option.some.injEq, Prod.mk.injEq] at H
  obtain ⟨rfl, rfl⟩ := H
  go_enter Try.func64, Try.ntmps64
  go_wp2
  go_ret
  exact ⟨by first | rfl | (simp [errW_none, errW_some] <;> rfl) | (simp [*, errW_none, errW_some] <;> rfl), by repeat (first | (with_reducible first | exact HI0.out | apply IsS95.alloc | apply IsS95.drewN | apply IsS95.drew | apply IsS95.set_1) | exact HI0.out), by repeat (first | (with_reducible first | exact HB.out | apply below_alloc | apply pw_below_drewN | apply below_drew1 | refine below_set ?_ (IsS95.ge HI0.out)) | exact HB.out), by repeat (first | (with_reducible first | exact HK.out | apply KeepBut.set_ | apply keep_drewN | apply keep_drew | apply keep_alloc) | exact HK.out)⟩

end Go.Proofs.Ytocnifoohecmeaa.PFnDeskRun
