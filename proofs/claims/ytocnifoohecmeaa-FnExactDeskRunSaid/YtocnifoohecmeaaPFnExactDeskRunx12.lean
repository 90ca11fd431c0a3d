-- Printed by this claim's own program; Lean checks it.
import Derived.Test.YtocnifoohecmeaaPFnExactDeskRunx0
import Derived.Test.YtocnifoohecmeaaPFnExactDeskRunx4
import Derived.Test.YtocnifoohecmeaaPFnExactDeskRunx7
import Derived.Test.YtocnifoohecmeaaPFnExactDeskRunx8
import Derived.Test.YtocnifoohecmeaaPFnExactDeskRunx11
namespace Go.Proofs.Ytocnifoohecmeaa.PFnExactDeskRun
open Go.RowKit Go.Proofs.YtocnifoohecmeaaW.PrintWords Go.Proofs.YtocnifoohecmeaaW.PrintLast Go.Proofs.YtocnifoohecmeaaW.PrintMore
attribute [local go_sem] max2_int min2_int max_two min_two max_three min_three max_four min_four   -- for this text's walks alone
set_option linter.unusedVariables false
set_option linter.unusedSimpArgs false

/-! ### spec_DeskDo: function 33 (by hand) -/
theorem sd_done {w W W5 : World} {g go : Nat} {Pz : Nat → Prop} {v0 v1 : Value} {l : List S50} {ll : List (List S50)} {p : Prop} (hB5 : Below w.heap.size w W5) (hK : Kept W W5 (fun k => k = g ∨ k = go)) (h0 : Kd.V k50 50 W 0 (fun k => (Pz k ∧ some k ≠ v1.ownBlock) ∧ k ≠ g ∧ k ≠ go) v0 l) (h1 : Kd.V (Kd.slice 50 k50) 23 W 0 (fun k => w.heap.size ≤ k ∧ k ≠ g ∧ k ≠ go) v1 ll) (h2 : p → Kd.R (Kd.slice 50 k50) 23 W w.heap.size (fun k => w.heap.size ≤ k ∧ k ≠ g ∧ k ≠ go) v1 ll) :
    Kd.V k50 50 W5 0 (fun k => Pz k ∧ some k ≠ v1.ownBlock) v0 l ∧ Kd.V (Kd.slice 50 k50) 23 W5 0 (fun k => w.heap.size ≤ k) v1 ll ∧ (p → Kd.R (Kd.slice 50 k50) 23 W5 w.heap.size (fun k => w.heap.size ≤ k) v1 ll) ∧ Below w.heap.size w W5 :=
  ⟨Kd.V_mono (Kd.V_map h0 (fun _ hf => Kd.F_step hf (fun k hk hlt => hK.2 k hlt (fun h => h.elim hk.2.1 hk.2.2)))) (fun _ hk => hk.1),
   Kd.V_mono (Kd.V_map h1 (fun _ hf => Kd.F_step hf (fun k hk hlt => hK.2 k hlt (fun h => h.elim hk.2.1 hk.2.2)))) (fun _ hk => hk.1),
   fun hp => Kd.R_mono (Kd.R_step (h2 hp) (fun k hk hlt => hK.2 k hlt (fun h => h.elim hk.2.1 hk.2.2))) (fun _ hk => hk.1), hB5⟩
theorem V_low {α : Type} {d : Kd α} {e base base' : Nat} {ok : Nat → Prop} {w W : World} {v : Value} {xs : List α} (h : Kd.V d e w base ok v xs) (hb : Below w.heap.size w W) : Kd.V d e W base' (fun k => ok k ∧ k < w.heap.size) v xs :=
  Kd.V_below (Kd.V_map h (fun _ hf => Kd.F_bound hf)) hb
def spec_DeskDo.after (s0 : List S50) (s1 : List (List S50)) (x : List S50) (o : Bool) : Option (List S50 × List (List S50) × Bool) :=
  if o = false then some (s0, s1, false) else if s1.length < 1000000 then some (x, (if s1.length + 1 > 8 then (s1 ++ [s0]).drop 1 else s1 ++ [s0]), true) else none
def spec_DeskDo.f (k : Nat) (d0 : List S50) (d1 : List (List S50)) (ak aa ab : Int) : Option (List S50 × List (List S50) × Bool) :=
  (spec_DeskOk.f k d0 d1).bind fun okd => if okd = false then some ([], [], false) else (spec_l12Copy.f k d0 d1).bind fun S =>
    if S.2.length = d1.length then
      (if (ak = 4 ∧ aa = 0 ∧ ab = 0) ∧ 0 < d1.length then some (S.2.getD (S.2.length - 1) [], S.2.take (S.2.length - 1), true)
      else (spec_l12Made.f k d0 ak aa ab).bind fun N => spec_DeskDo.after S.1 S.2 N.1 N.2)
    else none
theorem spec_DeskDo.mono : ∀ a0 a1 a2 a3 a4 k, LeO (spec_DeskDo.f k a0 a1 a2 a3 a4) (spec_DeskDo.f (k + 1) a0 a1 a2 a3 a4) := by
  intro a0 a1 a2 a3 a4 k
  unfold spec_DeskDo.f
  refine LeO.bind (spec_DeskOk.mono _ _ _) (fun _ => LeO.ite (LeO.refl _) (LeO.bind (spec_l12Copy.mono _ _ _) (fun _ => LeO.ite (LeO.ite (LeO.refl _) (LeO.bind (spec_l12Made.mono _ _ _ _ _) (fun _ => LeO.refl _))) (LeO.refl _))))
set_option maxHeartbeats 8000000 in
set_option maxRecDepth 100000 in
theorem spec_DeskDo.calls (k : Nat) (A0_0 : Option Addr) (c0_0 : Nat) (l0_0 : List (S50)) (A0_1 : Option Addr) (c0_1 : Nat) (l0_1 : List (List (S50))) (a1_0 : Int) (a1_1 : Int) (a1_2 : Int) (r1 : List (S50)) (r2 : List (List (S50))) (r3 : Bool) (w : World) (P0_ : Nat → Prop) (hs0_0 : Kd.V k50 50 w 0 P0_ (.slice A0_0 l0_0.length c0_0) l0_0) (hr0_1 : Kd.C (Kd.slice 50 k50) w A0_1 l0_1.length l0_1) (hc0_1 : l0_1.length ≤ c0_1) (h : spec_DeskDo.f k l0_0 l0_1 a1_0 a1_1 a1_2 = some (r1, r2, r3)) :
    Calls Try.prog 33 #[.agg #[.slice A0_0 l0_0.length c0_0, .slice A0_1 l0_1.length c0_1], .agg #[.int .i64 a1_0, .int .i64 a1_1, .int .i64 a1_2]] w fun e w' => ∃ v0_ v1_ : Value, e = .returned (.tuple #[.agg #[v0_, v1_], .bool r3]) ∧ Kd.V k50 50 w' 0 (fun k_ => (P0_ k_ ∨ w.heap.size ≤ k_) ∧ some k_ ≠ v1_.ownBlock) v0_ r1 ∧ Kd.V (Kd.slice 50 k50) 23 w' 0 (fun k_ => w.heap.size ≤ k_) v1_ r2 ∧ (l0_1.length < 8 → Kd.R (Kd.slice 50 k50) 23 w' w.heap.size (fun k_ => w.heap.size ≤ k_) v1_ r2) ∧ Below w.heap.size w w' := by
  have hu27 := Try.underlying27
  have hu52 := Try.underlying52
  unfold spec_DeskDo.f at h
  obtain ⟨okd, hOK, h1⟩ := Option.bind_eq_some_iff.mp h
  have HOK := Aside0.mk hOK
  have HV0 := Aside0.mk hs0_0
  have HR0 := Aside0.mk (Kd.V_reads' hs0_0).2.2
  have HC0 := Aside0.mk (Kd.V_reads' hs0_0).2.1
  have HR1 := Aside0.mk hr0_1
  have HC1 := Aside0.mk hc0_1
  clear h hOK hs0_0 hr0_1 hc0_1
  go_enter Try.func33, Try.ntmps33
  go_wp2_with (fail)
  have B0 := Aside0.mk (below_alloc (below_alloc (below_alloc (Below.refl w.heap.size w) (.cells #[.slice A0_0 l0_0.length c0_0, .slice A0_1 l0_1.length c0_1] 27)) (.cells #[.int .i64 a1_0, .int .i64 a1_1, .int .i64 a1_2] 52)) (.cells #[.slice none 0 0, .slice none 0 0] 27))
  have D0 := Aside0.mk (blk_alloc1 (o' := .cells #[.slice none 0 0, .slice none 0 0] 27) (blk_alloc1 (o' := .cells #[.int .i64 a1_0, .int .i64 a1_1, .int .i64 a1_2] 52) (blk_new w (.cells #[.slice A0_0 l0_0.length c0_0, .slice A0_1 l0_1.length c0_1] 27))))
  have A0 := Aside0.mk (blk_alloc1 (o' := .cells #[.slice none 0 0, .slice none 0 0] 27) (blk_new (w.alloc (.cells #[.slice A0_0 l0_0.length c0_0, .slice A0_1 l0_1.length c0_1] 27)) (.cells #[.int .i64 a1_0, .int .i64 a1_1, .int .i64 a1_2] 52)))
  have R0 := Aside0.mk (blk_new ((w.alloc (.cells #[.slice A0_0 l0_0.length c0_0, .slice A0_1 l0_1.length c0_1] 27)).alloc (.cells #[.int .i64 a1_0, .int .i64 a1_1, .int .i64 a1_2] 52)) (.cells #[.slice none 0 0, .slice none 0 0] 27))
  rw [size_alloc1] at A0
  rw [size_alloc1, size_alloc1] at R0
  refine (spec_DeskOk.calls k _ _ l0_0 _ _ l0_1 okd _ (Kd.C_below HR0.out B0.out) HC0.out (Kd.C_below HR1.out B0.out) HC1.out HOK.out).mono ?_
  rintro e w1 ⟨rfl, hb1⟩
  have B1 := Aside0.mk (below_step B0.out hb1)
  have D1 := Aside0.mk ((hb1.block _ (blk_lt D0.out)).trans D0.out)
  have A1 := Aside0.mk ((hb1.block _ (blk_lt A0.out)).trans A0.out)
  have R1 := Aside0.mk ((hb1.block _ (blk_lt R0.out)).trans R0.out)
  clear hb1 B0 D0 A0 R0 HOK
  cases okd with
  | false =>
    rw [if_pos rfl] at h1
    simp only [Option.some.injEq, Prod.mk.injEq] at h1
    obtain ⟨rfl, rfl, rfl⟩ := h1
    have hr0 : w1.cell? ⟨w.heap.size + 1 + 1, 0, none⟩ = some (.slice none 0 0) := (blk_cell R1.out 0).trans rfl
    have hr1 : w1.cell? ⟨w.heap.size + 1 + 1, 1, none⟩ = some (.slice none 0 0) := (blk_cell R1.out 1).trans rfl
    have hf0 := blk_frozen R1.out 0
    have hf1 := blk_frozen R1.out 1
    go_wp2
    refine bodyPost_ret (results_ct rfl _ _ (w.heap.size + 1 + 1) 27 #[.slice none 0 0, .slice none 0 0] (0, 0) _ rfl (res_put R1.out) Try.underlying27 rfl (by kernel_rfl)) rfl ?_
    exact ⟨_, _, rfl, sd_done (g := w.heap.size + 1 + 1) (go := w.heap.size + 1 + 1) (below_set (below_set B1.out (by omega)) (by omega)) (Kept.setCell (Kept.setCell (Kept.refl _ _) (.inl (.inl rfl)) _) (.inl (.inl rfl)) _) (Kd.V_nil k50 50 w1 0 _) (Kd.V_nil (Kd.slice 50 k50) 23 w1 0 _) (fun _ => Kd.R_nil _ _ _ _ _)⟩
  | true =>
    rw [if_neg (by simp)] at h1
    obtain ⟨⟨s0, s1⟩, hS, h2⟩ := Option.bind_eq_some_iff.mp h1
    have HS := Aside0.mk hS
    clear h1 hS
    dsimp only at h2
    have hd0 : w1.cell? ⟨w.heap.size, 0, none⟩ = some (.slice A0_0 l0_0.length c0_0) := (blk_cell D1.out 0).trans rfl
    have hd1 : w1.cell? ⟨w.heap.size, 1, none⟩ = some (.slice A0_1 l0_1.length c0_1) := (blk_cell D1.out 1).trans rfl
    go_wp2_with (fail)
    refine (spec_l12Copy.calls k _ _ l0_0 _ _ l0_1 s0 s1 _ (Kd.C_below HR0.out B1.out) HC0.out (Kd.C_below HR1.out B1.out) HC1.out HS.out).mono ?_
    rintro e w2 ⟨v0, v1, rfl, hv, hs, hb2⟩
    obtain ⟨As0, cs0, rfl⟩ := Kd.R_slice hv
    obtain ⟨As1, cs1, rfl⟩ := Kd.S_slice hs
    clear hd0 hd1
    have E := Aside0.mk (blk_lt R1.out)
    have WSZ := Aside0.mk hb2.size
    have B2 := Aside0.mk (below_alloc (below_step B1.out hb2) (.cells #[.slice As0 s0.length cs0, .slice As1 s1.length cs1] 27))
    have D2 := Aside0.mk (blk_alloc1 (o' := .cells #[.slice As0 s0.length cs0, .slice As1 s1.length cs1] 27) ((hb2.block _ (blk_lt D1.out)).trans D1.out))
    have A2 := Aside0.mk (blk_alloc1 (o' := .cells #[.slice As0 s0.length cs0, .slice As1 s1.length cs1] 27) ((hb2.block _ (blk_lt A1.out)).trans A1.out))
    have R2 := Aside0.mk (blk_alloc1 (o' := .cells #[.slice As0 s0.length cs0, .slice As1 s1.length cs1] 27) ((hb2.block _ (blk_lt R1.out)).trans R1.out))
    have S2 := Aside0.mk (blk_new w2 (.cells #[.slice As0 s0.length cs0, .slice As1 s1.length cs1] 27))
    have V0 := Aside0.mk (Kd.R_alloc (Kd.R_mono (ok' := fun k => w1.heap.size ≤ k ∧ k < w2.heap.size) (Kd.R_bound hv) (fun k hk => ⟨hk.2.1, hk.2.2.1⟩)) (.cells #[.slice As0 s0.length cs0, .slice As1 s1.length cs1] 27))
    have V1 := Aside0.mk (Kd.R_alloc (Kd.R_mono (ok' := fun k => (some k ≠ (Value.slice As0 s0.length cs0).ownBlock) ∧ w1.heap.size ≤ k ∧ k < w2.heap.size) (Kd.R_bound (Kd.S_R hs)) (fun k hk => ⟨hk.1, hk.2.1, hk.2.2.1⟩)) (.cells #[.slice As0 s0.length cs0, .slice As1 s1.length cs1] 27))
    have NE := Aside0.mk (show w.heap.size + 1 + 1 < w2.heap.size from Nat.lt_of_lt_of_le E.out hb2.size)
    have m2 : w.heap.size + 1 < w2.heap.size := Nat.lt_of_lt_of_le (blk_lt A1.out) hb2.size
    have m3 := NE.out
    have m4 : w.heap.size < w2.heap.size := by omega
    clear hv hs hb2 B1 D1 A1 R1
    go_upto_region 4 with (fail)
    clear m2 m3 m4
    have E2 := Aside0.mk (size_alloc1 w2 (.cells #[.slice As0 s0.length cs0, .slice As1 s1.length cs1] 27))
    generalize w2.alloc (.cells #[.slice As0 s0.length cs0, .slice As1 s1.length cs1] 27) = w3 at *
    have H2 := Aside0.mk h2
    clear h2
    go_cut [24] (fun v24 wc => v24 = .bool (decide ((a1_0 = 4 ∧ a1_1 = 0 ∧ a1_2 = 0) ∧ 0 < l0_1.length)) ∧ wc = w3)
    · have ha0 : w3.cell? ⟨w.heap.size + 1, 0, none⟩ = some (.int .i64 a1_0) := (blk_cell A2.out 0).trans rfl
      have ha1 : w3.cell? ⟨w.heap.size + 1, 1, none⟩ = some (.int .i64 a1_1) := (blk_cell A2.out 1).trans rfl
      have ha2 : w3.cell? ⟨w.heap.size + 1, 2, none⟩ = some (.int .i64 a1_2) := (blk_cell A2.out 2).trans rfl
      have hd1 : w3.cell? ⟨w.heap.size, 1, none⟩ = some (.slice A0_1 l0_1.length c0_1) := (blk_cell D2.out 1).trans rfl
      by_cases hk : a1_0 = 4 ∧ a1_1 = 0 ∧ a1_2 = 0
      · have e0 : (a1_0 == 4) = true := beq_iff_eq.mpr hk.1
        have e1 : (a1_1 == 0) = true := beq_iff_eq.mpr hk.2.1
        have e2 : (a1_2 == 0) = true := beq_iff_eq.mpr hk.2.2
        have HK_ := Aside0.mk hk
        clear hk
        by_cases hl : 0 < l0_1.length
        · have hl1 : decide (0 < (l0_1.length : Int)) = true := decide_eq_true (by omega)
          have HL_ := Aside0.mk hl
          clear hl
          go_wp2_with (fail)
          go_meet
          exact ⟨congrArg Value.bool (by simp [HK_.out, HL_.out] <;> exact hl1), rfl⟩
        · have hl1 : decide (0 < (l0_1.length : Int)) = false := decide_eq_false (by omega)
          have HL_ := Aside0.mk hl
          clear hl
          go_wp2_with (fail)
          go_meet
          exact ⟨congrArg Value.bool (by simp [HK_.out, HL_.out] <;> exact hl1), rfl⟩
      · by_cases h0 : a1_0 = 4
        all_goals by_cases h1 : a1_1 = 0
        all_goals by_cases h2 : a1_2 = 0
        all_goals first | have e0 : (a1_0 == 4) = true := beq_iff_eq.mpr (by assumption) | have e0 : (a1_0 == 4) = false := beq_eq_false_iff_ne.mpr (by assumption)
        all_goals first | have e1 : (a1_1 == 0) = true := beq_iff_eq.mpr (by assumption) | have e1 : (a1_1 == 0) = false := beq_eq_false_iff_ne.mpr (by assumption)
        all_goals first | have e2 : (a1_2 == 0) = true := beq_iff_eq.mpr (by assumption) | have e2 : (a1_2 == 0) = false := beq_eq_false_iff_ne.mpr (by assumption)
        all_goals try (exfalso; omega)
        all_goals have HK_ := Aside0.mk hk
        all_goals clear hk h0 h1 h2
        all_goals go_wp2_with (fail)
        all_goals go_meet
        all_goals exact ⟨congrArg Value.bool (by simp [HK_.out]), rfl⟩
    case rest =>
      obtain ⟨rfl, hw3⟩ := hcut
      have hw3' := hw3.symm
      subst hw3'
      clear hw3
      have hs0 : w3.cell? ⟨w2.heap.size, 0, none⟩ = some (.slice As0 s0.length cs0) := (blk_cell S2.out 0).trans rfl
      have hs1 : w3.cell? ⟨w2.heap.size, 1, none⟩ = some (.slice As1 s1.length cs1) := (blk_cell S2.out 1).trans rfl
      have hne : w.heap.size + 1 + 1 ≠ w2.heap.size := by have := NE.out; omega
      have h2 := H2.out
      clear H2
      by_cases hls : s1.length = l0_1.length
      · rw [if_pos hls] at h2
        have HLS := Aside0.mk hls
        clear hls
        by_cases hback : (a1_0 = 4 ∧ a1_1 = 0 ∧ a1_2 = 0) ∧ 0 < l0_1.length
        · rw [if_pos hback] at h2
          simp only [Option.some.injEq, Prod.mk.injEq] at h2
          obtain ⟨rfl, rfl, rfl⟩ := h2
          rw [decide_eq_true hback]
          have hpos : 0 < s1.length := by have := HLS.out; have := hback.2; omega
          clear hback
          have hfo0 := blk_frozen S2.out 0
          have hfo1 := blk_frozen S2.out 1
          have hr0 : w3.cell? ⟨w.heap.size + 1 + 1, 0, none⟩ = some (.slice none 0 0) := (blk_cell R2.out 0).trans rfl
          have hr1 : w3.cell? ⟨w.heap.size + 1 + 1, 1, none⟩ = some (.slice none 0 0) := (blk_cell R2.out 1).trans rfl
          have hf0 := blk_frozen R2.out 0
          have hf1 := blk_frozen R2.out 1
          obtain ⟨gp, cp, ep, hgb, hgl, cells, hcells⟩ := Kd.R_form V1.out hpos
          injection ep with ep1 ep2 ep3
          subst ep1 ep3
          have hmax := Kd.C_max (Kd.R_reads' V1.out).2.2
          have hcap := (Kd.R_reads' V1.out).2.1
          have gne := V1.out.1 gp rfl
          have gn1 : gp ≠ w2.heap.size := by have := gne.2.2; omega
          have gn2 : gp ≠ w.heap.size + 1 + 1 := by have := gne.2.1; have := E.out; omega
          obtain ⟨ji, hji⟩ : ∃ j : Int, ((s1.length - 1 : Nat) : Int) = j := ⟨_, rfl⟩
          have pw : IntKind.i64.wrap ((s1.length : Int) - 1) = ji := by rw [IntKind.wrap_i64]; omega
          have p0 : 0 ≤ ji := by omega
          have q0 : ji < (s1.length : Int) := by omega
          have q1 : ji ≤ (cs1 : Int) := by omega
          obtain ⟨cs, hcl, hM, hcc⟩ := Kd.R_getA V1.out ([] : List S50) ji p0 q0
          obtain ⟨elm, helm⟩ : ∃ z, s1.getD ji.toNat ([] : List S50) = z := ⟨_, rfl⟩
          rw [helm] at hM
          obtain ⟨Ae, ce, rfl, hle, hF⟩ := Kd.FK_slice_open (Kd.FK_of_M hM)
          have hel : w3.cell? ⟨gp, ji.toNat, none⟩ = some (.slice Ae elm.length ce) := by
            have := hcc 0 _ rfl
            rw [show (Kd.slice 50 k50).sz = 1 from rfl, Nat.mul_one, Nat.add_zero, show (⟨gp, 0, none⟩ : Addr).add ji.toNat = ⟨gp, ji.toNat, none⟩ from by simp [Addr.add]; intro h; omega] at this
            exact this
          have hT : ji.toNat = s1.length - 1 := by omega
          have HTK := Aside0.mk (Kd.R_take (m := ji.toNat) V1.out (by omega))
          have HT := Aside0.mk hT
          have HE := Aside0.mk helm
          have HVE := Aside0.mk (Kd.V_mk (e := 50) (base := 0) hle hF)
          have HTL := Aside0.mk (show (s1.take ji.toNat).length = ji.toNat by rw [List.length_take]; omega)
          have GN := Aside0.mk (And.intro gn1 gn2)
          clear hT helm hM hcc hcl hF hmax hcap hcells hgl hgb gne hji hpos hle
          go_wp2_with (fail)
          go_wp2
          refine bodyPost_ret (results_ct rfl _ _ (w.heap.size + 1 + 1) 27 #[.slice Ae elm.length ce, .slice (some ⟨gp, 0, none⟩) ji.toNat cs1] (0, 0) _ rfl (res_put (blk_kept R2.out (Kept.setCell (Kept.setCell (Kept.refl w3 (fun k => k = w2.heap.size)) (.inl rfl) _) (.inl rfl) _) hne)) Try.underlying27 rfl (by kernel_rfl)) rfl ?_
          refine ⟨_, _, rfl, ?_⟩
          rw [← HT.out, show s1[ji.toNat]?.getD [] = elm from HE.out]
          exact sd_done (W := w3) (g := w.heap.size + 1 + 1) (go := w2.heap.size) (below_set (below_set (below_set (below_set B2.out (by have := NE.out; omega)) (by have := NE.out; omega)) (by omega)) (by omega)) (Kept.setCell (Kept.setCell (Kept.setCell (Kept.setCell (Kept.refl _ _) (.inl (.inr rfl)) _) (.inl (.inr rfl)) _) (.inl (.inl rfl)) _) (.inl (.inl rfl)) _) (Kd.V_mono HVE.out (fun k hk => ⟨⟨.inr (by have := hk.1.2.1; have := E.out; omega), hk.2⟩, by have := hk.1.2.1; have := E.out; omega, by have := hk.1.2.2; omega⟩)) (Kd.V_mono (Kd.R_V HTK.out) (fun k hk => ⟨by have := hk.2.1; have := E.out; omega, by have := hk.2.1; have := E.out; omega, by have := hk.2.2; omega⟩)) (fun _ => Kd.R_mono (Kd.R_lower HTK.out (by have := E.out; omega)) (fun k hk => ⟨by have := hk.2.1; have := E.out; omega, by have := hk.2.1; have := E.out; omega, by have := hk.2.2; omega⟩))
        · rw [if_neg hback] at h2
          rw [decide_eq_false hback]
          clear hback
          have hd0 : w3.cell? ⟨w.heap.size, 0, none⟩ = some (.slice A0_0 l0_0.length c0_0) := (blk_cell D2.out 0).trans rfl
          have ha0 : w3.cell? ⟨w.heap.size + 1, 0, none⟩ = some (.int .i64 a1_0) := (blk_cell A2.out 0).trans rfl
          have ha1 : w3.cell? ⟨w.heap.size + 1, 1, none⟩ = some (.int .i64 a1_1) := (blk_cell A2.out 1).trans rfl
          have ha2 : w3.cell? ⟨w.heap.size + 1, 2, none⟩ = some (.int .i64 a1_2) := (blk_cell A2.out 2).trans rfl
          obtain ⟨⟨x, o⟩, hN, hA⟩ := Option.bind_eq_some_iff.mp h2
          have HN := Aside0.mk hN
          have HA := Aside0.mk hA
          clear h2 hN hA hs0 hs1
          go_wp2_with (fail)
          refine (spec_l12Made.calls k (fun k => P0_ k ∧ k < w.heap.size) _ _ l0_0 a1_0 a1_1 a1_2 x o _ (V_low HV0.out B2.out) HN.out).mono ?_
          rintro e w4 ⟨v0, rfl, hx, hb4⟩
          obtain ⟨An, cn, rfl⟩ := Kd.V_slice hx
          have B4 := Aside0.mk (below_step B2.out hb4)
          have R4 := Aside0.mk ((hb4.block _ (blk_lt R2.out)).trans R2.out)
          have S4 := Aside0.mk ((hb4.block _ (blk_lt S2.out)).trans S2.out)
          have W0 := Aside0.mk (Kd.R_below V0.out hb4)
          have W1 := Aside0.mk (Kd.R_below V1.out hb4)
          have VX := Aside0.mk (show Kd.V k50 50 w4 0 (fun k => ((P0_ k ∧ k < w.heap.size) ∨ w3.heap.size ≤ k) ∧ k < w4.heap.size) _ x from Kd.V_map hx (fun _ hf => Kd.F_bound hf))
          have HZ := Aside0.mk hb4.size
          have hA := HA.out
          clear HA hx hb4 hd0 ha0 ha1 ha2
          have hs0 : w4.cell? ⟨w2.heap.size, 0, none⟩ = some (.slice As0 s0.length cs0) := (blk_cell S4.out 0).trans rfl
          have hs1 : w4.cell? ⟨w2.heap.size, 1, none⟩ = some (.slice As1 s1.length cs1) := (blk_cell S4.out 1).trans rfl
          have hfo0 := blk_frozen S4.out 0
          have hfo1 := blk_frozen S4.out 1
          cases o with
          | false =>
            obtain ⟨rfl, rfl, rfl⟩ : s0 = r1 ∧ s1 = r2 ∧ false = r3 := by simpa [spec_DeskDo.after] using hA
            clear hA
            have hr0 : w4.cell? ⟨w.heap.size + 1 + 1, 0, none⟩ = some (.slice none 0 0) := (blk_cell R4.out 0).trans rfl
            have hr1 : w4.cell? ⟨w.heap.size + 1 + 1, 1, none⟩ = some (.slice none 0 0) := (blk_cell R4.out 1).trans rfl
            have hf0 := blk_frozen R4.out 0
            have hf1 := blk_frozen R4.out 1
            go_wp2
            refine bodyPost_ret (results_ct rfl _ _ (w.heap.size + 1 + 1) 27 #[.slice As0 s0.length cs0, .slice As1 s1.length cs1] (0, 0) _ rfl (res_put R4.out) Try.underlying27 rfl (by kernel_rfl)) rfl ?_
            exact ⟨_, _, rfl, sd_done (W := w4) (g := w.heap.size + 1 + 1) (go := w2.heap.size) (below_set (below_set B4.out (by omega)) (by omega)) (Kept.setCell (Kept.setCell (Kept.refl _ _) (.inl (.inl rfl)) _) (.inl (.inl rfl)) _) (Kd.V_mono (Kd.R_V (k50_own W0.out)) (fun k hk => ⟨⟨.inr (by have := (W0.out.1 k hk).1; have := E.out; omega), fun e => (W1.out.1 k e.symm).1 hk.symm⟩, by have := (W0.out.1 k hk).1; have := E.out; omega, by have := (W0.out.1 k hk).2; omega⟩)) (Kd.V_mono (Kd.R_V W1.out) (fun k hk => ⟨by have := hk.2.1; have := E.out; omega, by have := hk.2.1; have := E.out; omega, by have := hk.2.2; omega⟩)) (fun _ => Kd.R_mono (Kd.R_lower W1.out (by have := E.out; omega)) (fun k hk => ⟨by have := hk.2.1; have := E.out; omega, by have := hk.2.1; have := E.out; omega, by have := hk.2.2; omega⟩))⟩
          | true =>
            unfold spec_DeskDo.after at hA
            rw [if_neg (by simp)] at hA
            by_cases hbig : s1.length < 1000000
            · rw [if_pos hbig] at hA
              simp only [Option.some.injEq, Prod.mk.injEq] at hA
              obtain ⟨rfl, hq, rfl⟩ := hA
              obtain ⟨y, hy⟩ : ∃ y, y = s1 ++ [s0] := ⟨_, rfl⟩
              have hyl : y.length = s1.length + 1 := by rw [hy]; simp
              rw [← hy, ← hyl] at hq
              have HQ := Aside0.mk hq
              have HY := Aside0.mk hy
              have HYL := Aside0.mk hyl
              have HBIG := Aside0.mk hbig
              clear hq hy hyl hbig
              have VY := Aside0.mk (Kd.V_mono (ok' := fun k => (((P0_ k ∧ k < w.heap.size) ∨ w3.heap.size ≤ k) ∧ k < w4.heap.size) ∧ some k ≠ (Value.slice As1 s1.length cs1).ownBlock) VX.out (fun k hk => ⟨hk, fun e => by
                have h1 := (W1.out.1 k e.symm).2
                have h2 := E.out
                have h3 := E2.out
                rcases hk.1 with h | h
                · have := h.2; omega
                · omega⟩))
              by_cases h8 : y.length > 8
              · have f8 : decide (8 < (y.length : Int)) = true := decide_eq_true (by omega)
                have f8' : decide (8 < y.length) = true := decide_eq_true h8
                have HQ8 := Aside0.mk (show r2 = y.drop 1 from by have := HQ.out; rw [if_pos h8] at this; exact this.symm)
                have H8 := Aside0.mk h8
                clear h8 HQ
                go_wp2_with (first
                  | ((with_reducible refine gate_builtin (b := .append) (xs := #[.tmp 52, .tmp 55]) rfl ?_); at_builtin; refine Kd.R_append (Kd.slice 50 k50) (w0 := w4) w1.heap.size rfl (.tmp 52) (.tmp 55) 25 23 (.slice none 0 0) 24 rfl Try.underlying25 info23 rfl (by decide) (by omega) (.slice As1 s1.length cs1) s1 s0 [.slice As0 s0.length cs0] (fun k => w1.heap.size ≤ k ∧ k ≠ w2.heap.size) (fun k_ => (Value.slice As0 s0.length cs0).ownBlock = some k_) rfl rfl ?aP ?aK ?aF ?aO (Below.refl _ _) ?aZ ?aL ?_; (case aP => exact Kd.M_row (Kd.R_mono (k50_own W0.out) (fun _ h => h))); (case aK => exact fun k hk => ⟨⟨(W0.out.1 k hk).1, by have := (W0.out.1 k hk).2; omega⟩, fun e => (W1.out.1 k e.symm).1 hk.symm⟩); (case aF => exact fun k hk => ⟨by have := WSZ.out; have := HZ.out; have := E2.out; omega, by have := HZ.out; have := E2.out; omega⟩); (case aO => exact Kd.R_mono W1.out (fun k hk => ⟨hk.2.1, by have := hk.2.2; omega⟩)); (case aZ => have := WSZ.out; have := HZ.out; have := E2.out; omega); (case aL => have := HBIG.out; omega); intro v7 w7 ho hb hg hat; rw [← HY.out] at ho; have HO7 := Aside0.mk ho; have HB7 := Aside0.mk (B4.out.trans (hb.mono (by have := E.out; omega))); have HV7 := Aside0.mk (Kd.V_after VY.out hg hat); have R7 := Aside0.mk ((hg.block _ (blk_lt R4.out) (Kd.R_ne W1.out R4.out (by decide))).trans R4.out); have S7 := Aside0.mk ((hg.block _ (blk_lt S4.out) (Kd.R_ne W1.out S4.out (by decide))).trans S4.out); clear ho hb hg hat hs0 hs1 hfo0 hfo1; obtain ⟨g7, c7, e7, _, _, _⟩ := Kd.R_form HO7.out (by have := HYL.out; omega); subst e7; have hfo0 := blk_frozen S7.out 0; have hfo1 := blk_frozen S7.out 1; have hs0 : w7.cell? ⟨w2.heap.size, 0, none⟩ = some (.slice As0 s0.length cs0) := (blk_cell S7.out 0).trans rfl; have hs1 : w7.cell? ⟨w2.heap.size, 1, none⟩ = some (.slice As1 s1.length cs1) := (blk_cell S7.out 1).trans rfl; have hr0 : w7.cell? ⟨w.heap.size + 1 + 1, 0, none⟩ = some (.slice none 0 0) := (blk_cell R7.out 0).trans rfl; have hr1 : w7.cell? ⟨w.heap.size + 1 + 1, 1, none⟩ = some (.slice none 0 0) := (blk_cell R7.out 1).trans rfl; have hf0 := blk_frozen R7.out 0; have hf1 := blk_frozen R7.out 1; have hcap := (Kd.R_reads' HO7.out).2.1; have h9 := H8.out))
                go_wp2
                refine bodyPost_ret (results_ct rfl _ _ (w.heap.size + 1 + 1) 27 #[.slice An x.length cn, (.slice (some ⟨g7, 1, none⟩) (y.length - 1) (c7 - 1))] (0, 0) _ rfl (res_put (blk_kept R7.out (Kept.setCell (Kept.setCell (Kept.setCell (Kept.refl w7 (fun k => k = w2.heap.size)) (.inl rfl) _) (.inl rfl) _) (.inl rfl) _) hne)) Try.underlying27 rfl (by kernel_rfl)) rfl ?_
                refine ⟨_, _, rfl, ?_⟩
                rw [HQ8.out, show y.length - 1 = (y.drop 1).length from by rw [List.length_drop]]
                exact sd_done (W := w7) (g := w.heap.size + 1 + 1) (go := w2.heap.size) (below_set (below_set (below_set (below_set (below_set HB7.out (by have := NE.out; omega)) (by have := NE.out; omega)) (by have := NE.out; omega)) (by omega)) (by omega)) (Kept.setCell (Kept.setCell (Kept.setCell (Kept.setCell (Kept.setCell (Kept.refl _ _) (.inl (.inr rfl)) _) (.inl (.inr rfl)) _) (.inl (.inr rfl)) _) (.inl (.inl rfl)) _) (.inl (.inl rfl)) _) (Kd.V_mono HV7.out (fun k hk => ⟨⟨hk.1.1.elim (fun h => .inl h.1) (fun h => .inr (by have := E.out; have := WSZ.out; have := E2.out; omega)), hk.2⟩, by have := hk.1.1.imp (fun h => h.2) id; have := E.out; have := WSZ.out; have := E2.out; omega, by have := hk.1.1.imp (fun h => h.2) id; have := NE.out; have := E2.out; omega⟩)) (by have hF := Kd.V_F (Kd.R_V (base' := 0) HO7.out); exact Kd.V_mono (Kd.V_mk (A := some ⟨g7, 1, none⟩) (by rw [List.length_drop]; omega) (Kd.F_imp hF (fun W' hC => by have h7 := Kd.C_drop (m := 1) (c := c7) hC (by have := HYL.out; omega) (by have := (Kd.R_reads' HO7.out).2.1; omega); rw [if_neg (by have h1 := H8.out; have h2 := (Kd.R_reads' HO7.out).2.1; omega)] at h7; exact h7))) (fun k hk => ⟨by have := hk.1; have := E.out; omega, by have := hk.1; have := E.out; omega, hk.2⟩)) (fun hlt => by exfalso; have h1 := HYL.out; have h2 := HLS.out; have h3 := H8.out; omega)
              · have f8 : decide (8 < (y.length : Int)) = false := decide_eq_false (by omega)
                have f8' : decide (8 < y.length) = false := decide_eq_false h8
                have HQ8 := Aside0.mk (show r2 = y from by have := HQ.out; rw [if_neg h8] at this; exact this.symm)
                clear h8 HQ
                go_wp2_with (first
                  | ((with_reducible refine gate_builtin (b := .append) (xs := #[.tmp 52, .tmp 55]) rfl ?_); at_builtin; refine Kd.R_append (Kd.slice 50 k50) (w0 := w4) w1.heap.size rfl (.tmp 52) (.tmp 55) 25 23 (.slice none 0 0) 24 rfl Try.underlying25 info23 rfl (by decide) (by omega) (.slice As1 s1.length cs1) s1 s0 [.slice As0 s0.length cs0] (fun k => w1.heap.size ≤ k ∧ k ≠ w2.heap.size) (fun k_ => (Value.slice As0 s0.length cs0).ownBlock = some k_) rfl rfl ?aP ?aK ?aF ?aO (Below.refl _ _) ?aZ ?aL ?_; (case aP => exact Kd.M_row (Kd.R_mono (k50_own W0.out) (fun _ h => h))); (case aK => exact fun k hk => ⟨⟨(W0.out.1 k hk).1, by have := (W0.out.1 k hk).2; omega⟩, fun e => (W1.out.1 k e.symm).1 hk.symm⟩); (case aF => exact fun k hk => ⟨by have := WSZ.out; have := HZ.out; have := E2.out; omega, by have := HZ.out; have := E2.out; omega⟩); (case aO => exact Kd.R_mono W1.out (fun k hk => ⟨hk.2.1, by have := hk.2.2; omega⟩)); (case aZ => have := WSZ.out; have := HZ.out; have := E2.out; omega); (case aL => have := HBIG.out; omega); intro v7 w7 ho hb hg hat; rw [← HY.out] at ho; have HO7 := Aside0.mk ho; have HB7 := Aside0.mk (B4.out.trans (hb.mono (by have := E.out; omega))); have HV7 := Aside0.mk (Kd.V_after VY.out hg hat); have R7 := Aside0.mk ((hg.block _ (blk_lt R4.out) (Kd.R_ne W1.out R4.out (by decide))).trans R4.out); have S7 := Aside0.mk ((hg.block _ (blk_lt S4.out) (Kd.R_ne W1.out S4.out (by decide))).trans S4.out); clear ho hb hg hat hs0 hs1 hfo0 hfo1; obtain ⟨g7, c7, e7, _, _, _⟩ := Kd.R_form HO7.out (by have := HYL.out; omega); subst e7; have hfo0 := blk_frozen S7.out 0; have hfo1 := blk_frozen S7.out 1; have hs0 : w7.cell? ⟨w2.heap.size, 0, none⟩ = some (.slice As0 s0.length cs0) := (blk_cell S7.out 0).trans rfl; have hs1 : w7.cell? ⟨w2.heap.size, 1, none⟩ = some (.slice As1 s1.length cs1) := (blk_cell S7.out 1).trans rfl; have hr0 : w7.cell? ⟨w.heap.size + 1 + 1, 0, none⟩ = some (.slice none 0 0) := (blk_cell R7.out 0).trans rfl; have hr1 : w7.cell? ⟨w.heap.size + 1 + 1, 1, none⟩ = some (.slice none 0 0) := (blk_cell R7.out 1).trans rfl; have hf0 := blk_frozen R7.out 0; have hf1 := blk_frozen R7.out 1))
                go_wp2
                refine bodyPost_ret (results_ct rfl _ _ (w.heap.size + 1 + 1) 27 #[.slice An x.length cn, (.slice (some ⟨g7, 0, none⟩) y.length c7)] (0, 0) _ rfl (res_put (blk_kept R7.out (Kept.setCell (Kept.setCell (Kept.refl w7 (fun k => k = w2.heap.size)) (.inl rfl) _) (.inl rfl) _) hne)) Try.underlying27 rfl (by kernel_rfl)) rfl ?_
                refine ⟨_, _, rfl, ?_⟩
                rw [HQ8.out]
                exact sd_done (W := w7) (g := w.heap.size + 1 + 1) (go := w2.heap.size) (below_set (below_set (below_set (below_set HB7.out (by have := NE.out; omega)) (by have := NE.out; omega)) (by omega)) (by omega)) (Kept.setCell (Kept.setCell (Kept.setCell (Kept.setCell (Kept.refl _ _) (.inl (.inr rfl)) _) (.inl (.inr rfl)) _) (.inl (.inl rfl)) _) (.inl (.inl rfl)) _) (Kd.V_mono HV7.out (fun k hk => ⟨⟨hk.1.1.elim (fun h => .inl h.1) (fun h => .inr (by have := E.out; have := WSZ.out; have := E2.out; omega)), hk.2⟩, by have := hk.1.1.imp (fun h => h.2) id; have := E.out; have := WSZ.out; have := E2.out; omega, by have := hk.1.1.imp (fun h => h.2) id; have := NE.out; have := E2.out; omega⟩)) (Kd.V_mono (Kd.R_V HO7.out) (fun k hk => ⟨by have := hk.1; have := E.out; omega, by have := hk.1; have := E.out; omega, hk.2⟩)) (fun _ => Kd.R_mono (Kd.R_lower HO7.out (by have := E.out; omega)) (fun k hk => ⟨by have := hk.1; have := E.out; omega, by have := hk.1; have := E.out; omega, hk.2⟩))
            · rw [if_neg hbig] at hA; cases hA
      · rw [if_neg hls] at h2; cases h2

/-! ### spec_DeskRun: function 38 (by hand) -/
def spec_DeskRun.go (k : Nat) : List S52 → List S50 → List (List S50) → Int → Option (List S50 × List (List S50) × Int)
  | [], now, past, n => some (now, past, n)
  | d :: ds, now, past, n => (spec_DeskDo.f k now past d.f0 d.f1 d.f2).bind fun R => if R.2.2 = true then spec_DeskRun.go k ds R.1 R.2.1 (n + 1) else spec_DeskRun.go k ds now past n
def spec_DeskRun.f (k : Nat) (l0 : List S50) (l1 : List (List S50)) (l2 : List S52) : Option (List S50 × List (List S50) × Int) :=
  (spec_DeskOk.f k l0 l1).bind fun ok => if ok = false then some ([], [], 0) else if 40 < l2.length then some ([], [], 0) else (spec_l12Copy.f k l0 l1).bind fun S => spec_DeskRun.go k l2 S.1 S.2 0
theorem spec_DeskRun.mono_go : ∀ ds now past n k, LeO (spec_DeskRun.go k ds now past n) (spec_DeskRun.go (k + 1) ds now past n)
  | [], _, _, _, _ => LeO.refl _
  | d :: ds, now, past, n, k => LeO.bind (spec_DeskDo.mono _ _ _ _ _ _) (fun R => LeO.ite (spec_DeskRun.mono_go ds _ _ _ k) (spec_DeskRun.mono_go ds _ _ _ k))
theorem spec_DeskRun.mono : ∀ a0 a1 a2 k, LeO (spec_DeskRun.f k a0 a1 a2) (spec_DeskRun.f (k + 1) a0 a1 a2) := fun a0 a1 a2 k =>
  LeO.bind (spec_DeskOk.mono _ _ _) (fun _ => LeO.ite (LeO.refl _) (LeO.ite (LeO.refl _) (LeO.bind (spec_l12Copy.mono _ _ _) (fun _ => spec_DeskRun.mono_go _ _ _ _ _))))
def spec_DeskRun.T8 : Bool × List (List Nat × List Nat) := (true, [([], []), ([], []), ([], []), ([1, 2], [1, 2]), ([3], [3]), ([0, 4], [0, 4]), ([5], [5]), ([6], [6]), ([6], [6]), ([], []), ([9, 7, 5, 0, 1, 2, 3, 4, 5, 6, 7, 9], [7, 9]), ([8, 10, 0, 1, 2, 3, 4, 5, 6, 7, 8, 9, 10], [8])])
def spec_DeskRun.B8 : List Nat := [0, 0, 0, 6, 14, 31, 63, 127, 127, 0, 767, 2047]
theorem spec_DeskRun.tab8 : rtab .any (opsOf Try.f38 8) = spec_DeskRun.T8 := by kernel_rfl
theorem spec_DeskRun.bits8 : waitsOk spec_DeskRun.T8.2 spec_DeskRun.B8 = true := by kernel_rfl
set_option maxHeartbeats 8000000 in
set_option maxRecDepth 100000 in
theorem spec_DeskRun.calls (k : Nat) (A0_0 : Option Addr) (c0_0 : Nat) (l0_0 : List (S50)) (A0_1 : Option Addr) (c0_1 : Nat) (l0_1 : List (List (S50))) (A1 : Option Addr) (c1 : Nat) (l1 : List S52) (r1 : List (S50)) (r2 : List (List (S50))) (r3 : Int) (w : World) (hr0_0 : Kd.C k50 w A0_0 l0_0.length l0_0) (hc0_0 : l0_0.length ≤ c0_0) (hr0_1 : Kd.C (Kd.slice 50 k50) w A0_1 l0_1.length l0_1) (hc0_1 : l0_1.length ≤ c0_1) (hr1 : Kd.C k52 w A1 l1.length l1) (hc1 : l1.length ≤ c1) (h : spec_DeskRun.f k l0_0 l0_1 l1 = some (r1, r2, r3)) :
    Calls Try.prog 38 #[.agg #[.slice A0_0 l0_0.length c0_0, .slice A0_1 l0_1.length c0_1], .slice A1 l1.length c1] w fun e w' => ∃ v0_ v1_ : Value, e = .returned (.tuple #[.agg #[v0_, v1_], .int .i64 r3]) ∧ Kd.V k50 50 w' 0 (fun k_ => w.heap.size ≤ k_) v0_ r1 ∧ Kd.V (Kd.slice 50 k50) 23 w' 0 (fun k_ => w.heap.size ≤ k_) v1_ r2 ∧ Below w.heap.size w w' := by
  have hu27 := Try.underlying27
  have hu52 := Try.underlying52
  unfold spec_DeskRun.f at h
  obtain ⟨okd, hOK, h1⟩ := Option.bind_eq_some_iff.mp h
  have HOK := Aside0.mk hOK
  have HR0 := Aside0.mk hr0_0
  have HC0 := Aside0.mk hc0_0
  have HR1 := Aside0.mk hr0_1
  have HC1 := Aside0.mk hc0_1
  have HR2 := Aside0.mk hr1
  have HM2 := Aside0.mk (Kd.C_max hr1)
  clear h hOK hr0_0 hc0_0 hr0_1 hc0_1 hr1
  go_enter Try.func38, Try.ntmps38
  go_wp2_with (fail)
  have B0 := Aside0.mk (below_alloc (below_alloc (Below.refl w.heap.size w) (.cells #[.slice A0_0 l0_0.length c0_0, .slice A0_1 l0_1.length c0_1] 27)) (.cells #[.slice none 0 0, .slice none 0 0] 27))
  have D0 := Aside0.mk (blk_alloc1 (o' := .cells #[.slice none 0 0, .slice none 0 0] 27) (blk_new w (.cells #[.slice A0_0 l0_0.length c0_0, .slice A0_1 l0_1.length c0_1] 27)))
  have R0 := Aside0.mk (blk_new (w.alloc (.cells #[.slice A0_0 l0_0.length c0_0, .slice A0_1 l0_1.length c0_1] 27)) (.cells #[.slice none 0 0, .slice none 0 0] 27))
  rw [size_alloc1] at R0
  refine (spec_DeskOk.calls k _ _ l0_0 _ _ l0_1 okd _ (Kd.C_below HR0.out B0.out) HC0.out (Kd.C_below HR1.out B0.out) HC1.out HOK.out).mono ?_
  rintro e w1 ⟨rfl, hb1⟩
  have B1 := Aside0.mk (below_step B0.out hb1)
  have D1 := Aside0.mk ((hb1.block _ (blk_lt D0.out)).trans D0.out)
  have R1 := Aside0.mk ((hb1.block _ (blk_lt R0.out)).trans R0.out)
  clear hb1 B0 D0 R0 HOK
  have hr0 : w1.cell? ⟨w.heap.size + 1, 0, none⟩ = some (.slice none 0 0) := (blk_cell R1.out 0).trans rfl
  have hr1 : w1.cell? ⟨w.heap.size + 1, 1, none⟩ = some (.slice none 0 0) := (blk_cell R1.out 1).trans rfl
  have hf0 := blk_frozen R1.out 0
  have hf1 := blk_frozen R1.out 1
  cases okd with
  | false =>
    rw [if_pos rfl] at h1
    simp only [Option.some.injEq, Prod.mk.injEq] at h1
    obtain ⟨rfl, rfl, rfl⟩ := h1
    go_wp2
    refine bodyPost_ret (results_ct rfl _ _ (w.heap.size + 1) 27 #[.slice none 0 0, .slice none 0 0] (0, 0) _ rfl (res_put R1.out) Try.underlying27 rfl (by kernel_rfl)) rfl ?_
    exact ⟨_, _, rfl, Kd.V_nil k50 50 _ 0 _, Kd.V_nil (Kd.slice 50 k50) 23 _ 0 _, below_set (below_set B1.out (by omega)) (by omega)⟩
  | true =>
    rw [if_neg (by simp)] at h1
    by_cases h40 : 40 < l1.length
    · rw [if_pos h40] at h1
      simp only [Option.some.injEq, Prod.mk.injEq] at h1
      obtain ⟨rfl, rfl, rfl⟩ := h1
      have f40 : decide (40 < (l1.length : Int)) = true := decide_eq_true (by omega)
      have f40' : decide (40 < l1.length) = true := decide_eq_true h40
      clear h40
      go_wp2
      refine bodyPost_ret (results_ct rfl _ _ (w.heap.size + 1) 27 #[.slice none 0 0, .slice none 0 0] (0, 0) _ rfl (res_put R1.out) Try.underlying27 rfl (by kernel_rfl)) rfl ?_
      exact ⟨_, _, rfl, Kd.V_nil k50 50 _ 0 _, Kd.V_nil (Kd.slice 50 k50) 23 _ 0 _, below_set (below_set B1.out (by omega)) (by omega)⟩
    · rw [if_neg h40] at h1
      have f40 : decide (40 < (l1.length : Int)) = false := decide_eq_false (by omega)
      have f40' : decide (40 < l1.length) = false := decide_eq_false h40
      have HF := Aside0.mk h40
      clear h40 hr0 hr1 hf0 hf1
      obtain ⟨⟨s0, s1⟩, hS, h2⟩ := Option.bind_eq_some_iff.mp h1
      have HS := Aside0.mk hS
      have H2 := Aside0.mk (show spec_DeskRun.go k l1 s0 s1 0 = some (r1, r2, r3) from h2)
      clear h1 hS h2
      have hd0 : w1.cell? ⟨w.heap.size, 0, none⟩ = some (.slice A0_0 l0_0.length c0_0) := (blk_cell D1.out 0).trans rfl
      have hd1 : w1.cell? ⟨w.heap.size, 1, none⟩ = some (.slice A0_1 l0_1.length c0_1) := (blk_cell D1.out 1).trans rfl
      go_wp2_with (fail)
      refine (spec_l12Copy.calls k _ _ l0_0 _ _ l0_1 s0 s1 _ (Kd.C_below HR0.out B1.out) HC0.out (Kd.C_below HR1.out B1.out) HC1.out HS.out).mono ?_
      rintro e w2 ⟨v0, v1, rfl, hv, hs, hb2⟩
      obtain ⟨As0, cs0, rfl⟩ := Kd.R_slice hv
      obtain ⟨As1, cs1, rfl⟩ := Kd.S_slice hs
      clear hd0 hd1 f40 f40'
      have E := Aside0.mk (blk_lt R1.out)
      have R3 := Aside0.mk (blk_alloc1 (o' := .cells #[.slice As0 s0.length cs0, .slice As1 s1.length cs1] 27) ((hb2.block _ (blk_lt R1.out)).trans R1.out))
      have D3 := Aside0.mk (blk_new w2 (.cells #[.slice As0 s0.length cs0, .slice As1 s1.length cs1] 27))
      have B3 := Aside0.mk (below_alloc (below_step B1.out hb2) (.cells #[.slice As0 s0.length cs0, .slice As1 s1.length cs1] 27))
      have V3 := Aside0.mk (show Kd.V k50 50 _ 0 (fun k => w1.heap.size ≤ k ∧ k ≠ w2.heap.size) _ s0 from Kd.V_alloc (Kd.V_mono (Kd.R_V (base' := 0) (Kd.R_bound hv)) (fun k hk => ⟨hk.2.1, by have := hk.2.2.1; omega⟩)) (.cells #[.slice As0 s0.length cs0, .slice As1 s1.length cs1] 27))
      have U3 := Aside0.mk (show Kd.V (Kd.slice 50 k50) 23 _ 0 (fun k => w1.heap.size ≤ k ∧ k ≠ w2.heap.size) _ s1 from Kd.V_alloc (Kd.V_mono (Kd.R_V (base' := 0) (Kd.R_bound (Kd.S_R hs))) (fun k hk => ⟨hk.2.1, by have := hk.2.2.1; omega⟩)) (.cells #[.slice As0 s0.length cs0, .slice As1 s1.length cs1] 27))
      have Z2 := Aside0.mk hb2.size
      clear hv hs hb2 D1 R1 B1
      go_upto_region 6 with (fail)
      generalize w2.alloc (.cells #[.slice As0 s0.length cs0, .slice As1 s1.length cs1] 27) = w3 at R3 D3 B3 V3 U3 ⊢
      generalize w2.heap.size = go at R3 D3 B3 V3 U3 Z2 ⊢
      clear w2
      go_loopg [7, 8] (l1.length + 1) (fun kq v7 v8 w' => ∃ (done rest : List S52) (now : List S50) (past : List (List S50)) (n xi : Int) (A0 : Option Addr) (c0 : Nat) (A1_ : Option Addr) (c1_ : Nat), v7 = .int .i64 n ∧ v8 = .int .i64 xi ∧ Aside0 (xi = (done.length : Int)) ∧ Aside0 (l1 = done ++ rest) ∧ Aside0 (spec_DeskRun.go k rest now past n = some (r1, r2, r3)) ∧ Aside0 (0 ≤ n ∧ n ≤ (done.length : Int)) ∧ Aside0 (rest.length < kq) ∧ Aside0 (w'.heap[go]? = some (.cells #[.slice A0 now.length c0, .slice A1_ past.length c1_] 27 (0, 0))) ∧ Aside0 (Kd.V k50 50 w' 0 (fun k => w1.heap.size ≤ k ∧ k ≠ go) (.slice A0 now.length c0) now) ∧ Aside0 (Kd.V (Kd.slice 50 k50) 23 w' 0 (fun k => w1.heap.size ≤ k ∧ k ≠ go) (.slice A1_ past.length c1_) past) ∧ Aside0 (w'.heap[w.heap.size + 1]? = some (.cells #[.slice none 0 0, .slice none 0 0] 27 (0, 0))) ∧ Aside0 (Below w.heap.size w w'))
      case atStart => exact ⟨[], l1, s0, s1, 0, 0, As0, cs0, As1, cs1, rfl, rfl, ⟨rfl⟩, ⟨rfl⟩, H2, ⟨by simp⟩, ⟨by omega⟩, D3, V3, U3, R3, B3⟩
      case round =>
        clear H2 D3 R3 B3 V3 U3
        obtain ⟨done, rest, now, past, n, xi, A0, c0, A1_, c1_, rfl, rfl, HX, HL, HA, HN, HK, DB, DV, DU, RB, BB⟩ := hrel
        have hlen : l1.length = done.length + rest.length := by rw [HL.out]; simp
        have HGO := Aside0.mk (show w.heap.size + 1 < go ∧ w.heap.size + 1 < w1.heap.size ∧ w1.heap.size ≤ go from by have h1 := E.out; have h2 := Z2.out; omega)
        cases rest with
        | nil =>
          obtain ⟨rfl, rfl, rfl⟩ : now = r1 ∧ past = r2 ∧ n = r3 := by have := HA.out; simpa [spec_DeskRun.go] using this
          have c3 : decide (xi < (l1.length : Int)) = false := decide_eq_false (by have := HX.out; simp at hlen; omega)
          clear hlen
          have hd0 : wr.cell? ⟨go, 0, none⟩ = some (.slice A0 now.length c0) := (blk_cell DB.out 0).trans rfl
          have hd1 : wr.cell? ⟨go, 1, none⟩ = some (.slice A1_ past.length c1_) := (blk_cell DB.out 1).trans rfl
          have hr0 : wr.cell? ⟨w.heap.size + 1, 0, none⟩ = some (.slice none 0 0) := (blk_cell RB.out 0).trans rfl
          have hr1 : wr.cell? ⟨w.heap.size + 1, 1, none⟩ = some (.slice none 0 0) := (blk_cell RB.out 1).trans rfl
          have hf0 := blk_frozen RB.out 0
          have hf1 := blk_frozen RB.out 1
          have hne : w.heap.size + 1 ≠ go := by have := HGO.out; omega
          go_wp2
          refine bodyPost_ret (results_ct rfl _ _ (w.heap.size + 1) 27 #[(.slice A0 now.length c0), (.slice A1_ past.length c1_)] (0, 0) _ rfl (res_put RB.out) Try.underlying27 rfl (by kernel_rfl)) rfl ?_
          have hg := HGO.out
          exact ⟨_, _, rfl, Kd.V_mono (Kd.V_far (p := ⟨w.heap.size + 1, 1, none⟩) (Kd.V_far (p := ⟨w.heap.size + 1, 0, none⟩) DV.out (fun k hk => by have := hk.1; show k ≠ w.heap.size + 1; omega) _) (fun k hk => by have := hk.1; show k ≠ w.heap.size + 1; omega) _) (fun k hk => by have := hk.1; omega), Kd.V_mono (Kd.V_far (p := ⟨w.heap.size + 1, 1, none⟩) (Kd.V_far (p := ⟨w.heap.size + 1, 0, none⟩) DU.out (fun k hk => by have := hk.1; show k ≠ w.heap.size + 1; omega) _) (fun k hk => by have := hk.1; show k ≠ w.heap.size + 1; omega) _) (fun k hk => by have := hk.1; omega), below_set (below_set BB.out (by omega)) (by omega)⟩
        | cons d ds =>
          simp only [List.length_cons] at hlen
          have hx := HX.out
          have hm := HM2.out
          have hf := HF.out
          obtain ⟨⟨x0, x1, b⟩, hD, h2⟩ := Option.bind_eq_some_iff.mp (show ((spec_DeskDo.f k now past d.f0 d.f1 d.f2).bind fun R => if R.2.2 = true then spec_DeskRun.go k ds R.1 R.2.1 (n + 1) else spec_DeskRun.go k ds now past n) = some (r1, r2, r3) from HA.out)
          dsimp only at h2
          have c3 : decide (xi < (l1.length : Int)) = true := decide_eq_true (by omega)
          have p1 : 0 ≤ xi := by omega
          have q1 : xi < (l1.length : Int) := by omega
          have pw : IntKind.i64.wrap (xi + 1) = xi + 1 := by rw [IntKind.wrap_i64]; omega
          have pn : IntKind.i64.wrap (n + 1) = n + 1 := by have := HN.out; rw [IntKind.wrap_i64]; omega
          have hd : rd_T52 l1 xi = d := by
            unfold rd_T52
            rw [HL.out, show xi.toNat = done.length by omega]
            simp
          obtain ⟨f0, hf0⟩ : ∃ z, d.f0 = z := ⟨_, rfl⟩
          obtain ⟨f1, hf1⟩ : ∃ z, d.f1 = z := ⟨_, rfl⟩
          obtain ⟨f2, hf2⟩ : ∃ z, d.f2 = z := ⟨_, rfl⟩
          obtain ⟨ad, hA1, hcell⟩ : ∃ ad, A1 = some ad ∧ ∀ W, Below w.heap.size w W → W.cell? (ad.add (xi.toNat * 3)) = some (.int .i64 f0) ∧ W.cell? ⟨(ad.add (xi.toNat * 3)).block, (ad.add (xi.toNat * 3)).off + 1, none⟩ = some (.int .i64 f1) ∧ W.cell? ⟨(ad.add (xi.toNat * 3)).block, (ad.add (xi.toNat * 3)).off + 2, none⟩ = some (.int .i64 f2) := by
            obtain ⟨ad, e, _⟩ := at_T52 HR2.out xi p1 q1
            refine ⟨ad, e, fun W hW => ?_⟩
            obtain ⟨ad', e', h0, h1, h2⟩ := at_T52 (Kd.C_below HR2.out hW) xi p1 q1
            rw [e] at e'
            obtain rfl := Option.some.inj e'
            rw [hd, hf0] at h0
            rw [hd, hf1] at h1
            rw [hd, hf2] at h2
            exact ⟨h0, h1, h2⟩
          subst hA1
          have P1 := eq_true p1
          have Q1 := eq_true q1
          rw [hf0, hf1, hf2] at hD
          have HD := Aside0.mk hD
          have HH := Aside0.mk h2
          have HLEN := Aside0.mk hlen
          have HPW := Aside0.mk pw
          have HPN := Aside0.mk pn
          have HCELL := Aside0.mk hcell
          clear hx hm hf hlen p1 q1 pw pn hD h2 hd hf0 hf1 hf2 HA hcell
          go_wp2_with (fail)
          clear c3
          have hb0_ := below_drew1 (Below.refl wr.heap.size wr)
          have HGW := Aside0.mk (show go < wr.drew.heap.size ∧ w.heap.size + 1 < wr.drew.heap.size from ⟨blk_lt DB.out, blk_lt RB.out⟩)
          obtain ⟨ENV, hE, HL_, HBe, HCe, HOu⟩ : ∃ ENV : World → Prop, ENV wr.drew ∧ Aside0 (∀ W W', ENV W → Kept W W' (fun k => wr.drew.heap.size ≤ k) → Below w.heap.size w W' → ENV W') ∧ Aside0 (∀ W, ENV W → Below w.heap.size w W) ∧ Aside0 (∀ W, ENV W → W.cell? ⟨go, 0, none⟩ = some (.slice A0 now.length c0) ∧ W.cell? ⟨go, 1, none⟩ = some (.slice A1_ past.length c1_) ∧ W.cell? (ad.add (xi.toNat * 3)) = some (.int .i64 f0) ∧ W.cell? ⟨(ad.add (xi.toNat * 3)).block, (ad.add (xi.toNat * 3)).off + 1, none⟩ = some (.int .i64 f1) ∧ W.cell? ⟨(ad.add (xi.toNat * 3)).block, (ad.add (xi.toNat * 3)).off + 2, none⟩ = some (.int .i64 f2)) ∧ Aside0 (∀ W, ENV W → (W.heap[go]? = some (.cells #[(.slice A0 now.length c0), (.slice A1_ past.length c1_)] 27 (0, 0))) ∧ (W.heap[w.heap.size + 1]? = some (.cells #[.slice none 0 0, .slice none 0 0] 27 (0, 0))) ∧ Below w.heap.size w W ∧ Kd.V k50 50 W 0 (fun k => (w1.heap.size ≤ k ∧ k ≠ go) ∧ k < wr.drew.heap.size) (.slice A0 now.length c0) now ∧ Kd.V (Kd.slice 50 k50) 23 W 0 (fun k => (w1.heap.size ≤ k ∧ k ≠ go) ∧ k < wr.drew.heap.size) (.slice A1_ past.length c1_) past) := by
            refine ⟨fun W => (W.heap[go]? = some (.cells #[(.slice A0 now.length c0), (.slice A1_ past.length c1_)] 27 (0, 0))) ∧ (W.heap[w.heap.size + 1]? = some (.cells #[.slice none 0 0, .slice none 0 0] 27 (0, 0))) ∧ Below w.heap.size w W ∧ Kd.V k50 50 W 0 (fun k => (w1.heap.size ≤ k ∧ k ≠ go) ∧ k < wr.drew.heap.size) (.slice A0 now.length c0) now ∧ Kd.V (Kd.slice 50 k50) 23 W 0 (fun k => (w1.heap.size ≤ k ∧ k ≠ go) ∧ k < wr.drew.heap.size) (.slice A1_ past.length c1_) past, ⟨(hb0_.block _ (blk_lt DB.out)).trans DB.out, (hb0_.block _ (blk_lt RB.out)).trans RB.out, below_step BB.out hb0_, V_low (w := wr) DV.out hb0_, V_low (w := wr) DU.out hb0_⟩, ⟨fun W W' h hk hb => ?_⟩, ⟨fun W h => h.2.2.1⟩, ⟨fun W h => ?_⟩, ⟨fun W h => h⟩⟩
            · obtain ⟨p0, p1, p2, p3, p4⟩ := h
              have hg := HGW.out
              exact ⟨blk_kept p0 hk (fun h => by omega), blk_kept p1 hk (fun h => by omega), hb, Kd.V_map p3 (fun _ hf => Kd.F_step hf (fun k hk' hlt => hk.2 k hlt (fun h => by have := hk'.2; omega))), Kd.V_map p4 (fun _ hf => Kd.F_step hf (fun k hk' hlt => hk.2 k hlt (fun h => by have := hk'.2; omega)))⟩
            · exact ⟨(blk_cell h.1 0).trans rfl, (blk_cell h.1 1).trans rfl, HCELL.out W h.2.2.1⟩
          clear hb0_
          have HC33 : Aside0 (∀ W, ENV W → Calls Try.prog 33 #[.agg #[(.slice A0 now.length c0), (.slice A1_ past.length c1_)], .agg #[.int .i64 f0, .int .i64 f1, .int .i64 f2]] W fun e W' => ∃ (B0 : Option Addr) (e0 : Nat) (B1 : Option Addr) (e1 : Nat), e = .returned (.tuple #[.agg #[.slice B0 x0.length e0, .slice B1 x1.length e1], .bool b]) ∧ Kd.V k50 50 W' 0 (fun k => ((w1.heap.size ≤ k ∧ k ≠ go) ∧ k < wr.drew.heap.size) ∨ W.heap.size ≤ k) (.slice B0 x0.length e0) x0 ∧ Kd.V (Kd.slice 50 k50) 23 W' 0 (fun k => W.heap.size ≤ k) (.slice B1 x1.length e1) x1 ∧ Below W.heap.size W W') := ⟨fun W h => by
            obtain ⟨-, -, -, p3, p4⟩ := HOu.out W h
            refine (spec_DeskDo.calls k A0 c0 now A1_ c1_ past f0 f1 f2 x0 x1 b W _ p3 (Kd.V_reads' p4).2.2 (Kd.V_reads' p4).2.1 HD.out).mono ?_
            rintro e W' ⟨v0, v1, rfl, hv0, hv1, _, hb⟩
            obtain ⟨B0, e0, rfl⟩ := Kd.V_slice hv0
            obtain ⟨B1, e1, rfl⟩ := Kd.V_slice hv1
            exact ⟨B0, e0, B1, e1, rfl, Kd.V_mono hv0 (fun _ hk => hk.1), hv1, hb⟩⟩
          refine start_ (n := 12) (S := ENV) (ds := []) #[false, false, false, false, false, false, false, false, false, false, false, false] (by kernel_rfl) rfl rfl hE (fun hHeld => ?_); refine with_tabW spec_DeskRun.tab8 spec_DeskRun.bits8 (fun HT_ HW_ => ?_)
          clear hE
          have hE := hHeld
          have HGW2 := Aside0.mk (show go < wr.drew.heap.size ∧ w1.heap.size ≤ wr.drew.heap.size ∧ w.heap.size + 1 < wr.drew.heap.size from by have h1 := HGW.out; have h2 := HGO.out; omega)
          clear HGW
          generalize wr.drew = wa at hE HL_ hHeld HC33 HOu HGW2 ⊢
          have hw : Below wa.heap.size wa wa := Below.refl _ _
          refine take_ (i := 0) (N := some 29) (v := ?_) (a' := ?_) #[true, false, false, false, false, false, false, false, false, false, false, false] rfl rfl (take_ofW HT_.out HW_.out (by kernel_rfl)) (fun _ _ _ h => h) (Or.inl ⟨by rfl, ?_⟩) hHeld ?_ ?_
          rotate_left
          · intro w' hE_
            obtain ⟨t0_, t1_, t2_, t3_, t4_⟩ := HCe.out w' hE_
            go_simp
            with_reducible rfl
          rotate_left
          · simp only [putAll, Act.put, List.setIfInBounds_toArray, List.set_cons_zero, List.set_cons_succ, i64_w, i32_w]
            rfl
          refine pure_ (i := 1) (N := some 30) (v := ?_) (a' := ?_) #[true, true, false, false, false, false, false, false, false, false, false, false] rfl rfl (any_of HT_.out (by kernel_rfl)) (fun _ _ _ h => h) (Or.inl ⟨by rfl, ?_⟩) ?_ ?_
          rotate_left
          · intro w'
            go_simp
            with_reducible rfl
          rotate_left
          · simp only [putAll, Act.put, List.setIfInBounds_toArray, List.set_cons_zero, List.set_cons_succ, i64_w, i32_w]
            rfl
          refine pure_ (i := 2) (N := some 31) (v := ?_) (a' := ?_) #[true, true, true, false, false, false, false, false, false, false, false, false] rfl rfl (any_of HT_.out (by kernel_rfl)) (fun _ _ _ h => h) (Or.inl ⟨by rfl, ?_⟩) ?_ ?_
          rotate_left
          · intro w'
            go_simp
            with_reducible rfl
          rotate_left
          · simp only [putAll, Act.put, List.setIfInBounds_toArray, List.set_cons_zero, List.set_cons_succ, i64_w, i32_w]
            rfl
          refine pure_ (i := 3) (N := some 32) (v := ?_) (a' := ?_) #[true, true, true, true, false, false, false, false, false, false, false, false] rfl rfl (any_of HT_.out (by kernel_rfl)) (fun _ _ _ h => h) (Or.inl ⟨by rfl, ?_⟩) ?_ ?_
          rotate_left
          · intro w'
            go_simp
            with_reducible rfl
          rotate_left
          · simp only [putAll, Act.put, List.setIfInBounds_toArray, List.set_cons_zero, List.set_cons_succ, i64_w, i32_w]
            rfl
          refine take_ (i := 4) (N := some 33) (v := ?_) (a' := ?_) #[true, true, true, true, true, false, false, false, false, false, false, false] rfl rfl (take_ofW HT_.out HW_.out (by kernel_rfl)) (fun _ _ _ h => h) (Or.inl ⟨by rfl, ?_⟩) hHeld ?_ ?_
          rotate_left
          · intro w' hE_
            obtain ⟨t0_, t1_, t2_, t3_, t4_⟩ := HCe.out w' hE_
            go_simp
            with_reducible rfl
          rotate_left
          · simp only [putAll, Act.put, List.setIfInBounds_toArray, List.set_cons_zero, List.set_cons_succ, i64_w, i32_w]
            rfl
          refine join_ (σ := Value × Value × Nat) 2 #[true, true, true, true, true, true, true, true, true, true, false, false] (fun s_ => [(34, .tuple #[.agg #[s_.1, s_.2.1], .bool b]), (9, .pointer (some ⟨s_.2.2, 0, none⟩)), (28, .tuple #[.agg #[s_.1, s_.2.1], .bool b]), (35, .agg #[s_.1, s_.2.1]), (36, .bool b)]) (fun s_ W => ENV W ∧ W.heap[s_.2.2]? = some (.cells #[.slice none 0 0, .slice none 0 0] 27 (0, 0)) ∧ wa.heap.size ≤ s_.2.2 ∧ Kd.V k50 50 W 0 (fun k => k ≠ s_.2.2 ∧ (w1.heap.size ≤ k ∧ k ≠ go)) s_.1 x0 ∧ Kd.V (Kd.slice 50 k50) 23 W 0 (fun k => k ≠ s_.2.2 ∧ (w1.heap.size ≤ k ∧ k ≠ go)) s_.2.1 x1 ∧ Below wa.heap.size wa W) ?_ ?_
          rotate_left
          · intro hCont
            refine two_ (i := 5) (j := 9) (Ni := some 34) (Nj := some 9) #[true, true, true, true, true, true, false, false, false, false, false, false] #[true, true, true, true, true, false, false, false, false, true, false, false] rfl rfl rfl rfl (two_of HT_.out (by kernel_rfl)) (by decide) (by decide) (fun K hK => ?_) (fun K hK => ?_)
            · skip
              refine goes_ Try.func33 (by kernel_rfl) rfl #[.agg #[(.slice A0 now.length c0), (.slice A1_ past.length c1_)], .agg #[.int .i64 f0, .int .i64 f1, .int .i64 f2]] (by rfl) rfl rfl (by (try simp only [List.map_toArray, List.map_cons, List.map_nil]); first | done | rfl | (simp only [List.length_drop, List.length_take]; rfl)) ?_
              refine (HC33.out _ hE).mono ?_
              rintro e W_ ⟨B0, e0, B1, e1, rfl, hv0, hv1, hb_⟩
              refine ⟨_, rfl, ?_⟩
              have hq := HGW2.out
              have hqs := hw.size
              replace hv0 := Kd.V_mono (ok' := fun k => w1.heap.size ≤ k ∧ k ≠ go) hv0 (fun k hk => hk.elim (fun h => h.1) (fun h => by omega))
              replace hv1 := Kd.V_mono (ok' := fun k => w1.heap.size ≤ k ∧ k ≠ go) hv1 (fun k hk => by omega)
              clear hq hqs
              replace hE := HL_.out _ _ hE (Kept.of_below hb_ _) (below_step (HBe.out _ hE) hb_)
              replace hw := below_step hw hb_
              clear hb_
              refine hK.out _ _ hE (fun hHeld => ?_)
              clear hK K
              refine norm_ (a' := ?_) ?_ ?_
              rotate_left
              · show Act.put _ (some 34) _ = _
                simp only [putAll, Act.put, List.setIfInBounds_toArray, List.set_cons_zero, List.set_cons_succ, i64_w, i32_w]
                rfl
              refine pure_ (i := 6) (N := some 28) (v := ?_) (a' := ?_) #[true, true, true, true, true, true, true, false, false, false, false, false] rfl rfl (any_of HT_.out (by kernel_rfl)) (fun _ _ _ h => h) (Or.inl ⟨by rfl, ?_⟩) ?_ ?_
              rotate_left
              · intro w'
                go_simp
                with_reducible rfl
              rotate_left
              · simp only [putAll, Act.put, List.setIfInBounds_toArray, List.set_cons_zero, List.set_cons_succ, i64_w, i32_w]
                rfl
              refine pure_ (i := 7) (N := some 35) (v := ?_) (a' := ?_) #[true, true, true, true, true, true, true, true, false, false, false, false] rfl rfl (any_of HT_.out (by kernel_rfl)) (fun _ _ _ h => h) (Or.inl ⟨by rfl, ?_⟩) ?_ ?_
              rotate_left
              · intro w'
                go_simp
                with_reducible rfl
              rotate_left
              · simp only [putAll, Act.put, List.setIfInBounds_toArray, List.set_cons_zero, List.set_cons_succ, i64_w, i32_w]
                rfl
              refine pure_ (i := 8) (N := some 36) (v := ?_) (a' := ?_) #[true, true, true, true, true, true, true, true, true, false, false, false] rfl rfl (any_of HT_.out (by kernel_rfl)) (fun _ _ _ h => h) (Or.inl ⟨by rfl, ?_⟩) ?_ ?_
              rotate_left
              · intro w'
                go_simp
                with_reducible rfl
              rotate_left
              · simp only [putAll, Act.put, List.setIfInBounds_toArray, List.set_cons_zero, List.set_cons_succ, i64_w, i32_w]
                rfl
              refine one_ (i := 9) (N := some 9) #[true, true, true, true, true, true, true, true, true, true, false, false] rfl rfl (one_of HT_.out (by kernel_rfl)) (by decide) (fun K hK => ?_)
              refine box_step ?hg (N := 9) ?hd (cs := #[.slice none 0 0, .slice none 0 0]) (t := 27) ?hr ?_; (case hd => rfl); (case hg => rfl); (case hr => first | (go_simp; done) | (go_simp; rfl))
              intro g hg W_ hbox hb_
              have hgl : wa.heap.size ≤ g := by rw [hg]; exact hw.size
              replace hv0 := Kd.V_below (Kd.V_mono (ok' := fun k => k ≠ g ∧ (w1.heap.size ≤ k ∧ k ≠ go)) (Kd.V_map (base' := 0) hv0 (fun _ hf => Kd.F_bound hf)) (fun k hk => ⟨by have := hk.2; omega, hk.1⟩)) hb_
              replace hv1 := Kd.V_below (Kd.V_mono (ok' := fun k => k ≠ g ∧ (w1.heap.size ≤ k ∧ k ≠ go)) (Kd.V_map (base' := 0) hv1 (fun _ hf => Kd.F_bound hf)) (fun k hk => ⟨by have := hk.2; omega, hk.1⟩)) hb_
              replace hE := HL_.out _ _ hE (Kept.of_below hb_ _) (below_step (HBe.out _ hE) hb_)
              replace hw := below_step hw hb_
              clear hb_ hg
              refine hK.out _ _ hE (fun hHeld => ?_)
              clear hK K
              refine norm_ (a' := ?_) ?_ ?_
              rotate_left
              · show Act.put _ (some 9) _ = _
                simp only [putAll, Act.put, List.setIfInBounds_toArray, List.set_cons_zero, List.set_cons_succ, i64_w, i32_w]
                rfl
              exact norm_ (by simp only [putAll, Act.put, List.setIfInBounds_toArray, List.set_cons_zero, List.set_cons_succ, i64_w, i32_w]) (hCont (.slice B0 x0.length e0, .slice B1 x1.length e1, g) _ ⟨hE, hbox, hgl, hv0, hv1, hw⟩)
            · skip
              refine box_step ?hg (N := 9) ?hd (cs := #[.slice none 0 0, .slice none 0 0]) (t := 27) ?hr ?_; (case hd => rfl); (case hg => rfl); (case hr => first | (go_simp; done) | (go_simp; rfl))
              intro g hg W_ hbox hb_
              have hgl : wa.heap.size ≤ g := by rw [hg]; exact hw.size
              replace hE := HL_.out _ _ hE (Kept.of_below hb_ _) (below_step (HBe.out _ hE) hb_)
              replace hw := below_step hw hb_
              clear hb_ hg
              refine hK.out _ _ hE (fun hHeld => ?_)
              clear hK K
              refine norm_ (a' := ?_) ?_ ?_
              rotate_left
              · show Act.put _ (some 9) _ = _
                simp only [putAll, Act.put, List.setIfInBounds_toArray, List.set_cons_zero, List.set_cons_succ, i64_w, i32_w]
                rfl
              refine one_ (i := 5) (N := some 34) #[true, true, true, true, true, true, false, false, false, true, false, false] rfl rfl (one_of HT_.out (by kernel_rfl)) (by decide) (fun K hK => ?_)
              refine goes_ Try.func33 (by kernel_rfl) rfl #[.agg #[(.slice A0 now.length c0), (.slice A1_ past.length c1_)], .agg #[.int .i64 f0, .int .i64 f1, .int .i64 f2]] (by rfl) rfl rfl (by (try simp only [List.map_toArray, List.map_cons, List.map_nil]); first | done | rfl | (simp only [List.length_drop, List.length_take]; rfl)) ?_
              refine (HC33.out _ hE).mono ?_
              rintro e W_ ⟨B0, e0, B1, e1, rfl, hv0, hv1, hb_⟩
              refine ⟨_, rfl, ?_⟩
              have hq := HGW2.out
              have hqs := hw.size
              have hql := blk_lt hbox
              replace hv0 := Kd.V_mono (ok' := fun k => k ≠ g ∧ (w1.heap.size ≤ k ∧ k ≠ go)) hv0 (fun k hk => hk.elim (fun h => ⟨by have := h.2; omega, h.1⟩) (fun h => by omega))
              replace hv1 := Kd.V_mono (ok' := fun k => k ≠ g ∧ (w1.heap.size ≤ k ∧ k ≠ go)) hv1 (fun k hk => by omega)
              clear hq hqs hql
              replace hbox := (hb_.block _ (blk_lt hbox)).trans hbox
              replace hE := HL_.out _ _ hE (Kept.of_below hb_ _) (below_step (HBe.out _ hE) hb_)
              replace hw := below_step hw hb_
              clear hb_
              refine hK.out _ _ hE (fun hHeld => ?_)
              clear hK K
              refine norm_ (a' := ?_) ?_ ?_
              rotate_left
              · show Act.put _ (some 34) _ = _
                simp only [putAll, Act.put, List.setIfInBounds_toArray, List.set_cons_zero, List.set_cons_succ, i64_w, i32_w]
                rfl
              refine pure_ (i := 6) (N := some 28) (v := ?_) (a' := ?_) #[true, true, true, true, true, true, true, false, false, true, false, false] rfl rfl (any_of HT_.out (by kernel_rfl)) (fun _ _ _ h => h) (Or.inl ⟨by rfl, ?_⟩) ?_ ?_
              rotate_left
              · intro w'
                go_simp
                with_reducible rfl
              rotate_left
              · simp only [putAll, Act.put, List.setIfInBounds_toArray, List.set_cons_zero, List.set_cons_succ, i64_w, i32_w]
                rfl
              refine pure_ (i := 7) (N := some 35) (v := ?_) (a' := ?_) #[true, true, true, true, true, true, true, true, false, true, false, false] rfl rfl (any_of HT_.out (by kernel_rfl)) (fun _ _ _ h => h) (Or.inl ⟨by rfl, ?_⟩) ?_ ?_
              rotate_left
              · intro w'
                go_simp
                with_reducible rfl
              rotate_left
              · simp only [putAll, Act.put, List.setIfInBounds_toArray, List.set_cons_zero, List.set_cons_succ, i64_w, i32_w]
                rfl
              refine pure_ (i := 8) (N := some 36) (v := ?_) (a' := ?_) #[true, true, true, true, true, true, true, true, true, true, false, false] rfl rfl (any_of HT_.out (by kernel_rfl)) (fun _ _ _ h => h) (Or.inl ⟨by rfl, ?_⟩) ?_ ?_
              rotate_left
              · intro w'
                go_simp
                with_reducible rfl
              rotate_left
              · simp only [putAll, Act.put, List.setIfInBounds_toArray, List.set_cons_zero, List.set_cons_succ, i64_w, i32_w]
                rfl
              exact norm_ (by simp only [putAll, Act.put, List.setIfInBounds_toArray, List.set_cons_zero, List.set_cons_succ, i64_w, i32_w]) (hCont (.slice B0 x0.length e0, .slice B1 x1.length e1, g) _ ⟨hE, hbox, hgl, hv0, hv1, hw⟩)
          clear hE hw hHeld
          rintro ⟨u0, u1, g⟩ W ⟨hE, hbox, hgl, hv0, hv1, hw⟩
          dsimp only at hbox hgl hv0 hv1
          obtain ⟨B0, e0, rfl⟩ := Kd.V_slice hv0
          obtain ⟨B1, e1, rfl⟩ := Kd.V_slice hv1
          have HHE := Aside0.mk hE
          have HV0 := Aside0.mk hv0
          have HV1 := Aside0.mk hv1
          have HGL := Aside0.mk hgl
          clear hE hv0 hv1 hw hgl
          refine norm_ (a' := ?_) ?_ ?_
          rotate_left
          · simp only [putAll, Act.put, List.setIfInBounds_toArray, List.set_cons_zero, List.set_cons_succ]
            rfl
          refine one_ (i := 10) (N := none) #[true, true, true, true, true, true, true, true, true, true, true, false] rfl rfl (one_of HT_.out (by kernel_rfl)) (by decide) (fun K hK => ?_)
          have hs0 : W.cell? ⟨g, 0, none⟩ = some (.slice none 0 0) := (blk_cell hbox 0).trans rfl
          have hs1 : W.cell? ⟨g, 1, none⟩ = some (.slice none 0 0) := (blk_cell hbox 1).trans rfl
          have hf0 := blk_frozen hbox 0
          have hf1 := blk_frozen hbox 1
          have HHB := Aside0.mk hbox
          clear hbox
          refine skip_ (w1 := ?_) (by rfl) rfl ?_ ?_
          rotate_left
          · go_simp
            rfl
          have hE := HL_.out _ _ HHE.out (Kept.setCell (Kept.setCell (Kept.refl W _) (p := ⟨g, 0, none⟩) (.inl HGL.out) (.slice B0 x0.length e0)) (p := ⟨g, 1, none⟩) (.inl HGL.out) (.slice B1 x1.length e1)) (below_set (below_set (HBe.out _ HHE.out) (by have := HGL.out; have := HGW2.out; omega)) (by have := HGL.out; have := HGW2.out; omega))
          refine hK.out _ _ hE (fun hHeld => ?_)
          clear hK K hHeld hs0 hs1 hf0 hf1
          refine pure_ (i := 11) (N := some 10) (v := ?_) (a' := ?_) #[true, true, true, true, true, true, true, true, true, true, true, true] rfl rfl (any_of HT_.out (by kernel_rfl)) (fun _ _ _ h => h) (Or.inl ⟨by rfl, ?_⟩) ?_ ?_
          rotate_left
          · intro w'
            go_simp
            with_reducible rfl
          rotate_left
          · simp only [putAll, Act.put, List.setIfInBounds_toArray, List.set_cons_zero, List.set_cons_succ, i64_w, i32_w]
            rfl
          refine done_ (done_of HT_.out (by kernel_rfl)) ?_
          have G6 := Aside0.mk (res_put (x := (.slice B0 x0.length e0)) (y := (.slice B1 x1.length e1)) HHB.out)
          have EN := Aside0.mk (HOu.out _ hE)
          have V6 := Aside0.mk (Kd.V_mono (ok' := fun k => w1.heap.size ≤ k ∧ k ≠ go) (Kd.V_far (p := ⟨g, 1, none⟩) (Kd.V_far (p := ⟨g, 0, none⟩) HV0.out (fun k hk => hk.1) (.slice B0 x0.length e0)) (fun k hk => hk.1) (.slice B1 x1.length e1)) (fun k hk => hk.2))
          have U6 := Aside0.mk (Kd.V_mono (ok' := fun k => w1.heap.size ≤ k ∧ k ≠ go) (Kd.V_far (p := ⟨g, 1, none⟩) (Kd.V_far (p := ⟨g, 0, none⟩) HV1.out (fun k hk => hk.1) (.slice B0 x0.length e0)) (fun k hk => hk.1) (.slice B1 x1.length e1)) (fun k hk => hk.2))
          have hng : go ≠ g := by have h1 := HGL.out; have h2 := HGW2.out; omega
          have hng' : g ≠ go := fun h => hng h.symm
          generalize (W.setCell ⟨g, 0, none⟩ (.slice B0 x0.length e0)).setCell ⟨g, 1, none⟩ (.slice B1 x1.length e1) = w6 at G6 EN V6 U6 ⊢
          clear hE HHE HHB HV0 HV1 HL_ HBe HCe HOu HC33 HT_ HW_
          have hg0 : w6.cell? ⟨g, 0, none⟩ = some (.slice B0 x0.length e0) := (blk_cell G6.out 0).trans rfl
          have hg1 : w6.cell? ⟨g, 1, none⟩ = some (.slice B1 x1.length e1) := (blk_cell G6.out 1).trans rfl
          have hd0 : w6.cell? ⟨go, 0, none⟩ = some (.slice A0 now.length c0) := (blk_cell EN.out.1 0).trans rfl
          have hd1 : w6.cell? ⟨go, 1, none⟩ = some (.slice A1_ past.length c1_) := (blk_cell EN.out.1 1).trans rfl
          have hf0 := blk_frozen EN.out.1 0
          have hf1 := blk_frozen EN.out.1 1
          have pw := HPW.out
          have pn := HPN.out
          cases b with
          | true =>
            have HH2 := Aside0.mk (show spec_DeskRun.go k ds x0 x1 (n + 1) = some (r1, r2, r3) from HH.out)
            go_wp2_with (fail)
            go_roundg (ds.length + 1)
            case measure => have := HK.out; simp at this; omega
            case rel => exact ⟨done ++ [d], ds, x0, x1, n + 1, xi + 1, B0, e0, B1, e1, by simp [pn], by simp [pw], ⟨by have := HX.out; simp; omega⟩, ⟨by rw [HL.out]; simp⟩, HH2, ⟨by have := HN.out; simp; omega⟩, ⟨Nat.lt_succ_self _⟩, ⟨res_put EN.out.1⟩, ⟨Kd.V_far (p := ⟨go, 1, none⟩) (Kd.V_far (p := ⟨go, 0, none⟩) V6.out (fun k hk => hk.2) _) (fun k hk => hk.2) _⟩, ⟨Kd.V_far (p := ⟨go, 1, none⟩) (Kd.V_far (p := ⟨go, 0, none⟩) U6.out (fun k hk => hk.2) _) (fun k hk => hk.2) _⟩, ⟨blk_far (p := ⟨go, 1, none⟩) (blk_far (p := ⟨go, 0, none⟩) EN.out.2.1 (by have := HGO.out; show w.heap.size + 1 ≠ go; omega) _) (by have := HGO.out; show w.heap.size + 1 ≠ go; omega) _⟩, ⟨below_set (below_set EN.out.2.2.1 (by have := HGO.out; omega)) (by have := HGO.out; omega)⟩⟩
          | false =>
            have HH2 := Aside0.mk (show spec_DeskRun.go k ds now past n = some (r1, r2, r3) from HH.out)
            go_wp2_with (fail)
            go_roundg (ds.length + 1)
            case measure => have := HK.out; simp at this; omega
            case rel => exact ⟨done ++ [d], ds, now, past, n, xi + 1, A0, c0, A1_, c1_, rfl, by simp [pw], ⟨by have := HX.out; simp; omega⟩, ⟨by rw [HL.out]; simp⟩, HH2, ⟨by have := HN.out; simp; omega⟩, ⟨Nat.lt_succ_self _⟩, ⟨EN.out.1⟩, ⟨Kd.V_mono EN.out.2.2.2.1 (fun _ hk => hk.1)⟩, ⟨Kd.V_mono EN.out.2.2.2.2 (fun _ hk => hk.1)⟩, ⟨EN.out.2.1⟩, ⟨EN.out.2.2.1⟩⟩

/-! ### laws_szDeedS: function 39 -/
def laws_szDeedS.f (l0 : List (S57)) (a1 : Int) : Option (Int) := if (wrap64 (a1 - (l0.length : Int))) < 0 then (some (-1)) else (some (wrap64 (a1 - (l0.length : Int))))
set_option maxHeartbeats 8000000 in
set_option maxRecDepth 100000 in
theorem laws_szDeedS.calls (A0 : Option Addr) (c0 : Nat) (l0 : List (S57)) (a1 : Int) (r : Int) (w : World) (hr0 : Kd.C k57 w A0 l0.length l0) (hc0 : l0.length ≤ c0) (h : laws_szDeedS.f l0 a1 = some r) :
    Calls Try.prog 39 #[.slice A0 l0.length c0, .int .i64 a1] w fun e w' => e = .returned (.int .i64 r) ∧ Drawn0 w w' := by
  have HR0 := Aside0.mk hr0
  have HC0 := Aside0.mk hc0
  clear hr0 hc0
  have H : (if (wrap64 (a1 - (l0.length : Int))) < 0 then (some (-1)) else (some (wrap64 (a1 - (l0.length : Int))))) = some r := h
  clear h
  by_cases c3 : (wrap64 (a1 - (l0.length : Int))) < 0
  · rw [if_pos c3] at H
    have c3b0 : decide ((wrap64 (a1 - (l0.length : Int))) < 0) = true := decide_eq_true c3
    clear c3
    obtain rfl := Option.some.inj H
    go_enter Try.func39, Try.ntmps39
    go_wp2
    go_ret
    exact ⟨by first | rfl | (simp; done) | (simp [*]; done), by repeat (first | exact Drawn0.refl _ | apply Drawn0.step)⟩
  · rw [if_neg c3] at H
    have c3b0 : decide ((wrap64 (a1 - (l0.length : Int))) < 0) = false := decide_eq_false c3
    clear c3
    obtain rfl := Option.some.inj H
    go_enter Try.func39, Try.ntmps39
    go_wp2
    go_ret
    exact ⟨by first | rfl | (simp; done) | (simp [*]; done), by repeat (first | exact Drawn0.refl _ | apply Drawn0.step)⟩

/-! ### laws_toDeed: function 35 -/
def laws_toDeed.f (a0_0 : Int) (a0_1 : Int) (a0_2 : Int) : Option (Int × Int × Int) := some (a0_0, a0_1, a0_2)
set_option maxHeartbeats 8000000 in
set_option maxRecDepth 100000 in
theorem laws_toDeed.calls (a0_0 : Int) (a0_1 : Int) (a0_2 : Int) (r1 : Int) (r2 : Int) (r3 : Int) (w : World) (h : laws_toDeed.f a0_0 a0_1 a0_2 = some (r1, r2, r3)) :
    Calls Try.prog 35 #[.agg #[.int .i64 a0_0, .int .i64 a0_1, .int .i64 a0_2]] w fun e w' => e = .returned (.agg #[.int .i64 r1, .int .i64 r2, .int .i64 r3]) ∧ Below w.heap.size w w' := by
  have hu57 := Try.underlying57
  have hu52 := Try.underlying52
  have HB := Aside0.mk (Below.refl w.heap.size w)
  have H : (some (a0_0, a0_1, a0_2)) = some (r1, r2, r3) := h
  clear h
  simp only [Option.some.injEq, Prod.mk.injEq] at H
  obtain ⟨rfl, rfl, rfl⟩ := H
  go_enter Try.func35, Try.ntmps35
  go_wp2_with (first | ((with_reducible refine gate_dst (N := 1) rfl ?_); refine box_event ?hg (N := 1) ?hd (cs := #[.int .i64 a0_0, .int .i64 a0_1, .int .i64 a0_2]) (t := 57) ?hr ?_; (case hd => rfl); (case hg => rfl); (case hr => first | (go_simp; done) | (go_simp; rfl)); intro gb288 hg w2 hbox hb; have n0_ := Aside0.mk (below_step (by repeat (first | (with_reducible first | exact HB.out | apply below_alloc | apply pw_below_drewN | apply below_drew1) | exact HB.out)) hb); have n1_ := Aside0.mk (hbox); have n2_ := Aside0.mk ((by rw [hg]; exact (below_size (by repeat (first | (with_reducible first | exact HB.out | apply below_alloc | apply pw_below_drewN | apply below_drew1) | exact HB.out))) : w.heap.size ≤ gb288)); have n3_ := Aside0.mk ((by rw [hg]; exact (below_size (by repeat (first | (with_reducible first | exact HB.out | apply below_alloc | apply pw_below_drewN | apply below_drew1) | exact HB.out))) : w.heap.size ≤ gb288)); clear HB; have HB := n0_; have BK288 := n1_; have GW288 := n2_; have GE288 := n3_; clear n0_ n1_ n2_ n3_; clear hb hbox hg) | ((with_reducible refine gate_dst (N := 2) rfl ?_); refine box_event ?hg (N := 2) ?hd (cs := #[.int .i64 0, .int .i64 0, .int .i64 0]) (t := 52) ?hr ?_; (case hd => rfl); (case hg => rfl); (case hr => first | (go_simp; done) | (go_simp; rfl)); intro gb289 hg w3 hbox hb; have n0_ := Aside0.mk (blk_below (g := gb288) (o := .cells #[.int .i64 a0_0, .int .i64 a0_1, .int .i64 a0_2] 57 (0, 0)) (by (with_reducible repeat (first | refine blk_drewN ?_ _ | refine blk_drew ?_ | refine blk_alloc ?_ _)); exact BK288.out) hb); have n1_ := Aside0.mk (below_step (by repeat (first | (with_reducible first | exact HB.out | apply below_alloc | apply pw_below_drewN | apply below_drew1 | refine below_set ?_ GE288.out) | exact HB.out)) hb); have n2_ := Aside0.mk (hbox); have n3_ := Aside0.mk ((by rw [hg]; exact (below_size (by repeat (first | (with_reducible first | exact HB.out | apply below_alloc | apply pw_below_drewN | apply below_drew1 | refine below_set ?_ GE288.out) | exact HB.out))) : w.heap.size ≤ gb289)); have n4_ := Aside0.mk ((by rw [hg]; exact (below_size (by repeat (first | (with_reducible first | exact HB.out | apply below_alloc | apply pw_below_drewN | apply below_drew1 | refine below_set ?_ GE288.out) | exact HB.out))) : w.heap.size ≤ gb289)); have n5_ := Aside0.mk ((by rw [hg]; exact Nat.ne_of_lt (blk_lt (g := gb288) (o := .cells #[.int .i64 a0_0, .int .i64 a0_1, .int .i64 a0_2] 57 (0, 0)) (by (with_reducible repeat (first | refine blk_drewN ?_ _ | refine blk_drew ?_ | refine blk_alloc ?_ _)); exact BK288.out)) : gb288 ≠ gb289)); have n6_ := Aside0.mk ((by rw [hg]; exact Nat.ne_of_gt (blk_lt (g := gb288) (o := .cells #[.int .i64 a0_0, .int .i64 a0_1, .int .i64 a0_2] 57 (0, 0)) (by (with_reducible repeat (first | refine blk_drewN ?_ _ | refine blk_drew ?_ | refine blk_alloc ?_ _)); exact BK288.out)) : gb289 ≠ gb288)); clear BK288; clear HB; have BK288 := n0_; have HB := n1_; have BK289 := n2_; have GW289 := n3_; have GE289 := n4_; have NB288_289 := n5_; have NB289_288 := n6_; clear n0_ n1_ n2_ n3_ n4_ n5_ n6_; clear hb hbox hg) | ((with_reducible refine gate_dst (N := 3) rfl ?_); refine box_event ?hg (N := 3) ?hd (cs := #[.int .i64 0, .int .i64 0, .int .i64 0]) (t := 52) ?hr ?_; (case hd => rfl); (case hg => rfl); (case hr => first | (go_simp; done) | (go_simp; rfl)); intro gb290 hg w4 hbox hb; have n0_ := Aside0.mk (blk_below (g := gb288) (o := .cells #[.int .i64 a0_0, .int .i64 a0_1, .int .i64 a0_2] 57 (0, 0)) (by (with_reducible repeat (first | refine blk_drewN ?_ _ | refine blk_drew ?_ | refine blk_alloc ?_ _)); exact BK288.out) hb); have n1_ := Aside0.mk (blk_below (g := gb289) (o := .cells #[.int .i64 0, .int .i64 0, .int .i64 0] 52 (0, 0)) (by (with_reducible repeat (first | refine blk_drewN ?_ _ | refine blk_drew ?_ | refine blk_alloc ?_ _)); exact BK289.out) hb); have n2_ := Aside0.mk (below_step (by repeat (first | (with_reducible first | exact HB.out | apply below_alloc | apply pw_below_drewN | apply below_drew1 | refine below_set ?_ GE288.out | refine below_set ?_ GE289.out) | exact HB.out)) hb); have n3_ := Aside0.mk (hbox); have n4_ := Aside0.mk ((by rw [hg]; exact (below_size (by repeat (first | (with_reducible first | exact HB.out | apply below_alloc | apply pw_below_drewN | apply below_drew1 | refine below_set ?_ GE288.out | refine below_set ?_ GE289.out) | exact HB.out))) : w.heap.size ≤ gb290)); have n5_ := Aside0.mk ((by rw [hg]; exact (below_size (by repeat (first | (with_reducible first | exact HB.out | apply below_alloc | apply pw_below_drewN | apply below_drew1 | refine below_set ?_ GE288.out | refine below_set ?_ GE289.out) | exact HB.out))) : w.heap.size ≤ gb290)); have n6_ := Aside0.mk ((by rw [hg]; exact Nat.ne_of_lt (blk_lt (g := gb288) (o := .cells #[.int .i64 a0_0, .int .i64 a0_1, .int .i64 a0_2] 57 (0, 0)) (by (with_reducible repeat (first | refine blk_drewN ?_ _ | refine blk_drew ?_ | refine blk_alloc ?_ _)); exact BK288.out)) : gb288 ≠ gb290)); have n7_ := Aside0.mk ((by rw [hg]; exact Nat.ne_of_gt (blk_lt (g := gb288) (o := .cells #[.int .i64 a0_0, .int .i64 a0_1, .int .i64 a0_2] 57 (0, 0)) (by (with_reducible repeat (first | refine blk_drewN ?_ _ | refine blk_drew ?_ | refine blk_alloc ?_ _)); exact BK288.out)) : gb290 ≠ gb288)); have n8_ := Aside0.mk ((by rw [hg]; exact Nat.ne_of_lt (blk_lt (g := gb289) (o := .cells #[.int .i64 0, .int .i64 0, .int .i64 0] 52 (0, 0)) (by (with_reducible repeat (first | refine blk_drewN ?_ _ | refine blk_drew ?_ | refine blk_alloc ?_ _)); exact BK289.out)) : gb289 ≠ gb290)); have n9_ := Aside0.mk ((by rw [hg]; exact Nat.ne_of_gt (blk_lt (g := gb289) (o := .cells #[.int .i64 0, .int .i64 0, .int .i64 0] 52 (0, 0)) (by (with_reducible repeat (first | refine blk_drewN ?_ _ | refine blk_drew ?_ | refine blk_alloc ?_ _)); exact BK289.out)) : gb290 ≠ gb289)); clear BK288; clear BK289; clear HB; have BK288 := n0_; have BK289 := n1_; have HB := n2_; have BK290 := n3_; have GW290 := n4_; have GE290 := n5_; have NB288_290 := n6_; have NB290_288 := n7_; have NB289_290 := n8_; have NB290_289 := n9_; clear n0_ n1_ n2_ n3_ n4_ n5_ n6_ n7_ n8_ n9_; clear hb hbox hg; have hnb5 := NB288_289.out; have hnc5 := NB289_288.out; have hnb6 := NB288_290.out; have hnc6 := NB290_288.out; have hcz7_0 : w4.cell? ⟨gb288, 0, none⟩ = some (.int .i64 a0_0) := (blk_cell BK288.out 0).trans rfl; have hcz7_1 : w4.cell? ⟨gb288, 1, none⟩ = some (.int .i64 a0_1) := (blk_cell BK288.out 1).trans rfl; have hcz7_2 : w4.cell? ⟨gb288, 2, none⟩ = some (.int .i64 a0_2) := (blk_cell BK288.out 2).trans rfl; have hfz7_0 := blk_frozen BK288.out 0; have hfz7_1 := blk_frozen BK288.out 1; have hfz7_2 := blk_frozen BK288.out 2; have hnb8 := NB290_289.out; have hnc8 := NB289_290.out; have hcz9_0 : w4.cell? ⟨gb290, 0, none⟩ = some (.int .i64 0) := (blk_cell BK290.out 0).trans rfl; have hcz9_1 : w4.cell? ⟨gb290, 1, none⟩ = some (.int .i64 0) := (blk_cell BK290.out 1).trans rfl; have hcz9_2 : w4.cell? ⟨gb290, 2, none⟩ = some (.int .i64 0) := (blk_cell BK290.out 2).trans rfl; have hfz9_0 := blk_frozen BK290.out 0; have hfz9_1 := blk_frozen BK290.out 1; have hfz9_2 := blk_frozen BK290.out 2; have hcz10_0 : w4.cell? ⟨gb289, 0, none⟩ = some (.int .i64 0) := (blk_cell BK289.out 0).trans rfl; have hcz10_1 : w4.cell? ⟨gb289, 1, none⟩ = some (.int .i64 0) := (blk_cell BK289.out 1).trans rfl; have hcz10_2 : w4.cell? ⟨gb289, 2, none⟩ = some (.int .i64 0) := (blk_cell BK289.out 2).trans rfl; have hfz10_0 := blk_frozen BK289.out 0; have hfz10_1 := blk_frozen BK289.out 1; have hfz10_2 := blk_frozen BK289.out 2))
  refine bodyPost_ret (results_cell_row rfl _ _ gb289 52 #[.int .i64 a0_0, .int .i64 a0_1, .int .i64 a0_2] (0, 0) _ rfl (by (with_reducible repeat (first | refine blk_drewN ?_ _ | refine blk_drew ?_ | refine blk_alloc ?_ _)); refine blk_put (cs := #[.int .i64 a0_0, .int .i64 a0_1, .int .i64 0]) ?_ 2 _ rfl; (with_reducible repeat (first | refine blk_drewN ?_ _ | refine blk_drew ?_ | refine blk_alloc ?_ _)); refine blk_put (cs := #[.int .i64 a0_0, .int .i64 0, .int .i64 0]) ?_ 1 _ rfl; (with_reducible repeat (first | refine blk_drewN ?_ _ | refine blk_drew ?_ | refine blk_alloc ?_ _)); refine blk_put (cs := #[.int .i64 0, .int .i64 0, .int .i64 0]) ?_ 0 _ rfl; (with_reducible repeat (first | refine blk_drewN ?_ _ | refine blk_drew ?_ | refine blk_alloc ?_ _)); refine blk_far ?_ NB289_290.out _; (with_reducible repeat (first | refine blk_drewN ?_ _ | refine blk_drew ?_ | refine blk_alloc ?_ _)); refine blk_far ?_ NB289_290.out _; (with_reducible repeat (first | refine blk_drewN ?_ _ | refine blk_drew ?_ | refine blk_alloc ?_ _)); refine blk_far ?_ NB289_290.out _; (with_reducible repeat (first | refine blk_drewN ?_ _ | refine blk_drew ?_ | refine blk_alloc ?_ _)); exact BK289.out) Try.underlying52 rfl (by kernel_rfl)) rfl ?_
  exact ⟨by first | rfl | (simp [errW_none, errW_some] <;> rfl) | (simp [*, errW_none, errW_some] <;> rfl), by repeat (first | (with_reducible first | exact HB.out | apply below_alloc | apply pw_below_drewN | apply below_drew1 | refine below_set ?_ GE288.out | refine below_set ?_ GE289.out | refine below_set ?_ GE290.out) | exact HB.out)⟩

/-! ### laws_toDeedS: function 40 -/
def laws_toDeedS.l0 : Nat → List (S57) → List (S52) → Int → Option ((List (S52)))
  | 0, _, _, _ => none
  | k + 1, x0, x3, x4 => if x4 < (x0.length : Int) then (if 0 ≤ x4 then ((laws_toDeed.f ((rd_T57 x0 x4).f0) ((rd_T57 x0 x4).f1) ((rd_T57 x0 x4).f2)).bind fun bt295 => (if x4 < (x3.length : Int) then (laws_toDeedS.l0 k x0 (x3.set (x4 : Int).toNat (⟨bt295.1, bt295.2.1, bt295.2.2⟩ : S52)) (wrap64 (x4 + 1))) else (none))) else (none)) else (some x3)
def laws_toDeedS.f (k : Nat) (l0 : List (S57)) : Option ((List (S52))) := if 0 ≤ (l0.length : Int) then (if ((l0.length : Int) : Int).toNat ≤ 11728124029610 then (laws_toDeedS.l0 k l0 (List.replicate ((l0.length : Int) : Int).toNat z52) 0) else (none)) else (none)
theorem laws_toDeedS.mono_l : ∀ k, (∀ y0 y1 y2, LeO (laws_toDeedS.l0 k y0 y1 y2) (laws_toDeedS.l0 (k + 1) y0 y1 y2))
  | 0 => fun _ _ _ r h => by simp [laws_toDeedS.l0] at h
  | k + 1 => by
    have ih0 := laws_toDeedS.mono_l k
    · intro y0 y1 y2
      unfold laws_toDeedS.l0
      repeat' first
      | (with_reducible exact ih0 _ _ _)
      | (with_reducible exact LeO.refl _)
      | (with_reducible exact LeO.none _)
      | (with_reducible refine LeO.ite ?_ ?_)
      | (with_reducible refine LeO.bind ?_ (fun _ => ?_))
      | exact ih0 _ _ _
      | exact LeO.none _
      | refine LeO.ite ?_ ?_
      | refine LeO.bind ?_ (fun _ => ?_)
theorem laws_toDeedS.mono : ∀ a0 k, LeO (laws_toDeedS.f k a0) (laws_toDeedS.f (k + 1) a0) := by
  intro a0 k
  have ih0 := laws_toDeedS.mono_l k
  unfold laws_toDeedS.f
  repeat' first
      | (with_reducible exact ih0 _ _ _)
      | (with_reducible exact LeO.refl _)
      | (with_reducible exact LeO.none _)
      | (with_reducible refine LeO.ite ?_ ?_)
      | (with_reducible refine LeO.bind ?_ (fun _ => ?_))
      | exact ih0 _ _ _
      | exact LeO.none _
      | refine LeO.ite ?_ ?_
      | refine LeO.bind ?_ (fun _ => ?_)
set_option maxHeartbeats 8000000 in
set_option maxRecDepth 100000 in
theorem laws_toDeedS.calls (k : Nat) (A0 : Option Addr) (c0 : Nat) (l0 : List (S57)) (r : List (S52)) (w : World) (hr0 : Kd.C k57 w A0 l0.length l0) (hc0 : l0.length ≤ c0) (h : laws_toDeedS.f k l0 = some r) :
    Calls Try.prog 40 #[.slice A0 l0.length c0] w fun e w' => ∃ v0_ : Value, e = .returned (v0_) ∧ Kd.R k52 52 w' w.heap.size (fun _ => True) v0_ r ∧ Below w.heap.size w w' := by
  have hu57 := Try.underlying57
  have hu52 := Try.underlying52
  have HR0 := Aside0.mk hr0
  have HC0 := Aside0.mk hc0
  clear hr0 hc0
  have HB := Aside0.mk (Below.refl w.heap.size w)
  have H : (if 0 ≤ (l0.length : Int) then (if ((l0.length : Int) : Int).toNat ≤ 11728124029610 then (laws_toDeedS.l0 k l0 (List.replicate ((l0.length : Int) : Int).toNat z52) 0) else (none)) else (none)) = some r := h
  clear h
  by_cases c2 : 0 ≤ (l0.length : Int)
  · rw [if_pos c2] at H
    have c2b0 := eq_true c2
    have c2b1 : decide (0 ≤ (l0.length : Int)) = true := decide_eq_true c2
    clear c2
    by_cases c3 : ((l0.length : Int) : Int).toNat ≤ 11728124029610
    · rw [if_pos c3] at H
      have c3b0 := eq_true c3
      have c3b1 : decide (((l0.length : Int) : Int).toNat ≤ 11728124029610) = true := decide_eq_true c3
      clear c3
      obtain ⟨y291, hy291⟩ : ∃ y_ : List (S52), y_ = (List.replicate ((l0.length : Int) : Int).toNat z52) := ⟨_, rfl⟩
      replace H : (laws_toDeedS.l0 k l0 y291 0) = some r := by first | (rw [hy291]; with_reducible exact H) | (have H2_ := (Option.bind_some _ _).symm.trans H; rw [hy291]; with_reducible exact H2_) | (have H2_ := (Option.bind_some _ _).symm.trans H; with_reducible exact H2_) | with_reducible exact H | (rw [hy291]; exact H) | exact H
      have Ny291 := Aside0.mk hy291
      clear hy291
      have H' := Aside0.mk H
      clear H
      go_enter Try.func40, Try.ntmps40
      go_wp2_with (first | ((with_reducible refine gate_dst (N := 7) rfl ?_); refine Kd.R_make k52 _ 52 rfl (N := 7) rfl 60 _ _ rfl (l0.length : Int) rfl rfl Try.underlying60 (.agg #[(.int .i64 0), (.int .i64 0), (.int .i64 0)]) 24 info52 rfl (by decide) (by omega) z52 (ok := fun _ => True) (okp := fun _ => True) (k52_mkM _ _ _ z52 ) (fun _ hk => hk) trivial (of_decide_eq_true (by first | (with_reducible assumption) | assumption)) (Nat.le_trans (Nat.mul_le_mul_right _ (of_decide_eq_true (by first | (with_reducible assumption) | assumption) : (l0.length : Int).toNat ≤ 11728124029610)) (by omega)) (Below.refl _ _) (Nat.le_refl _) ?_; intro v292 w4 ho5 hb hg_ hnew_; clear hg_ hnew_; (first | rw [← Ny291.out] at ho5 | (simp only [Int.reduceToNat] at ho5; rw [← Ny291.out] at ho5)); have n0_ := Aside0.mk (Kd.R_lower ho5 (below_size (by repeat (first | (with_reducible first | exact HB.out | apply below_alloc | apply pw_below_drewN | apply below_drew1) | exact HB.out)))); have n1_ := Aside0.mk (below_step (by repeat (first | (with_reducible first | exact HB.out | apply below_alloc | apply pw_below_drewN | apply below_drew1) | exact HB.out)) hb); clear HB; have HO293 := n0_; have HB := n1_; clear n0_ n1_; clear hb ho5))
      go_loopg [4] k (fun kq v4 w' => ∃ (x3_1 : List (S52)) (x4_1 : Int), v4 = .int .i64 x4_1 ∧ Aside0 (laws_toDeedS.l0 kq l0 x3_1 x4_1 = some r) ∧ Aside0 (kq ≤ k) ∧ Aside0 (Kd.R k52 52 w' w.heap.size (fun _ => True) v292 x3_1) ∧ Aside0 (Below w.heap.size w w'))
      case atStart => exact ⟨(y291), (0), (by first | rfl | (simp; done) | (simp [*]; done)), H', ⟨Nat.le_refl _⟩, ⟨by (with_reducible repeat (first | apply Kd.R_alloc | apply Kd.R_drewN | apply Kd.R_drew)); exact HO293.out⟩, ⟨by repeat (first | (with_reducible first | exact HB.out | apply below_alloc | apply pw_below_drewN | apply below_drew1) | exact HB.out)⟩⟩
      case round =>
        clear H'
        try clear c2
        try clear c2b0
        try clear c2b1
        try clear p2
        try clear c3
        try clear c3b0
        try clear c3b1
        try clear c4
        obtain ⟨x3_1, x4_1, rfl, HA, HK1, HO_3, HB⟩ := hrel
        cases gk with
        | zero => exact absurd HA.out (by simp [laws_toDeedS.l0])
        | succ k1 =>
          have H := HA.out
          clear HA
          simp only [laws_toDeedS.l0] at H
          by_cases c6 : x4_1 < (l0.length : Int)
          · rw [if_pos c6] at H
            have c6b0 : decide (x4_1 < (l0.length : Int)) = true := decide_eq_true c6
            clear c6
            by_cases c7 : 0 ≤ x4_1
            · rw [if_pos c7] at H
              have c7b0 : decide (0 ≤ x4_1) = true := decide_eq_true c7
              clear c7
              replace H := Option.bind_eq_some_iff.mp H
              obtain ⟨⟨t295, t296, t297⟩, A80, H⟩ := H
              replace H : (if x4_1 < (x3_1.length : Int) then (laws_toDeedS.l0 k1 l0 (x3_1.set (x4_1 : Int).toNat (⟨t295, t296, t297⟩ : S52)) (wrap64 (x4_1 + 1))) else (none)) = some r := H
              have A8 := Aside0.mk A80
              clear A80
              by_cases c9 : x4_1 < (x3_1.length : Int)
              · rw [if_pos c9] at H
                have c9b0 : decide (x4_1 < (x3_1.length : Int)) = true := decide_eq_true c9
                clear c9
                obtain ⟨y298, hy298⟩ : ∃ y_ : List (S52), y_ = (x3_1.set (x4_1 : Int).toNat (⟨t295, t296, t297⟩ : S52)) := ⟨_, rfl⟩
                replace H : (laws_toDeedS.l0 k1 l0 y298 (wrap64 (x4_1 + 1))) = some r := by first | (rw [hy298]; with_reducible exact H) | (have H2_ := (Option.bind_some _ _).symm.trans H; rw [hy298]; with_reducible exact H2_) | (have H2_ := (Option.bind_some _ _).symm.trans H; with_reducible exact H2_) | with_reducible exact H | (rw [hy298]; exact H) | exact H
                have Ny298 := Aside0.mk hy298
                clear hy298
                have H' := Aside0.mk H
                clear H
                have p294 : 0 ≤ (x4_1 : Int) := of_decide_eq_true (by first | (with_reducible assumption) | assumption)
                have q294 : x4_1 < (l0.length : Int) := of_decide_eq_true (by first | (with_reducible assumption) | assumption)
                obtain ⟨ad294, e294, hx294_0, hx294_1, hx294_2⟩ := at_T57 HR0.out x4_1 p294 q294
                cases e294
                replace hx294_0 := (HB.out.cell (World.block_lt_of_cell? w _ hx294_0)).trans hx294_0
                replace hx294_1 := (HB.out.cell (World.block_lt_of_cell? w _ hx294_1)).trans hx294_1
                replace hx294_2 := (HB.out.cell (World.block_lt_of_cell? w _ hx294_2)).trans hx294_2
                replace p294 := eq_true p294
                replace q294 := eq_true q294
                go_wp2_with (first | ((with_reducible refine gate_callee (f := 35) rfl ?_); refine goesL_ (some 20) rfl rfl Try.func35 (by kernel_rfl) rfl #[.agg #[.int .i64 ((rd_T57 l0 x4_1).f0), .int .i64 ((rd_T57 l0 x4_1).f1), .int .i64 ((rd_T57 l0 x4_1).f2)]] rfl (by (try simp only [List.map_toArray, List.map_cons, List.map_nil]); first | done | rfl | (simp only [List.length_drop, List.length_take]; rfl)) ?_; (with_reducible refine (laws_toDeed.calls ((rd_T57 l0 x4_1).f0) ((rd_T57 l0 x4_1).f1) ((rd_T57 l0 x4_1).f2) t295 t296 t297 _ A8.out).mono ?_); rintro e w11 ⟨rfl, hb⟩; refine ⟨_, rfl, ?_⟩; have n0_ := Aside0.mk (Kd.R_below (by (with_reducible repeat (first | apply Kd.R_alloc | apply Kd.R_drewN | apply Kd.R_drew)); exact HO_3.out) hb); have n1_ := Aside0.mk (below_step (by repeat (first | (with_reducible first | exact HB.out | apply below_alloc | apply pw_below_drewN | apply below_drew1) | exact HB.out)) hb); clear HO_3; clear HB; have HO_3 := n0_; have HB := n1_; clear n0_ n1_; (try clear hb); (try clear hb2); (try clear hk); (try clear hi); have p10 : 0 ≤ (x4_1 : Int) := of_decide_eq_true (by first | (with_reducible assumption) | assumption); have q10 : (x4_1 : Int) < ((x3_1.length : Int) : Int) := of_decide_eq_true (by first | (with_reducible assumption) | assumption); obtain ⟨go10, co10, eo10, gb10, gl10, cl10, HG10⟩ := Kd.R_form HO_3.out (by omega); (first | cases eo10 | (injection eo10 with ea_ en_ ec_; (first | subst ea_ | (injection ea_ with ea_; subst ea_)); subst ec_; clear en_)); have GB10 := Aside0.mk gb10; have GG10 := Aside0.mk HG10; clear gb10 gl10 HG10; obtain ⟨ce10, hcl10, hM10, hcc10, hfr10⟩ := Kd.R_elem HO_3.out z52 (x4_1 : Int) p10 q10; obtain rfl := k52_openM hM10; have hx10_0 : w11.cell? ⟨go10, (x4_1 : Int).toNat * 3, none⟩ = some (.int .i64 ((rd_T52 x3_1 x4_1).f0)) := hcc10 0 _ rfl; have hx10_1 : w11.cell? ⟨go10, (x4_1 : Int).toNat * 3 + 1, none⟩ = some (.int .i64 ((rd_T52 x3_1 x4_1).f1)) := hcc10 1 _ rfl; have hx10_2 : w11.cell? ⟨go10, (x4_1 : Int).toNat * 3 + 2, none⟩ = some (.int .i64 ((rd_T52 x3_1 x4_1).f2)) := hcc10 2 _ rfl; have hf10_0 : w11.frozen? ⟨go10, (x4_1 : Int).toNat * 3, none⟩ = false := hfr10 0; have hf10_1 : w11.frozen? ⟨go10, (x4_1 : Int).toNat * 3 + 1, none⟩ = false := hfr10 1; have hf10_2 : w11.frozen? ⟨go10, (x4_1 : Int).toNat * 3 + 2, none⟩ = false := hfr10 2; (try clear hM10); clear hcl10 hcc10 hfr10; replace p10 := eq_true p10; replace q10 := eq_true q10; have HX12 := Aside0.mk (show Kd.R k52 52 w11 w.heap.size (fun _ => True) (.slice (some ⟨go10, 0, none⟩) x3_1.length co10) x3_1 from (by (with_reducible repeat (first | apply Kd.R_alloc | apply Kd.R_drewN | apply Kd.R_drew)); exact HO_3.out)); obtain ⟨ce12, hcl12, hM12, hcc12, hfr12⟩ := Kd.R_elem HX12.out z52 (x4_1 : Int) (of_decide_eq_true (by first | (with_reducible assumption) | assumption)) (by have h_ : (x4_1 : Int) < ((x3_1.length : Int) : Int) := of_decide_eq_true (by first | (with_reducible assumption) | assumption); first | exact h_ | (have e_ := (Kd.R_reads' HO_3.out).1; omega) | simpa using h_); obtain rfl := k52_openM hM12; have HP12 := Kd.R_seg HX12.out (x4_1 : Int) (of_decide_eq_true (by first | (with_reducible assumption) | assumption)) (by have h_ : (x4_1 : Int) < ((x3_1.length : Int) : Int) := of_decide_eq_true (by first | (with_reducible assumption) | assumption); first | exact h_ | (have e_ := (Kd.R_reads' HO_3.out).1; omega) | simpa using h_) (seg := [.int .i64 t295, .int .i64 t296, .int .i64 t297]) (j := 0) hcl12 hcc12 (show 3 ≤ 3 from by decide) (x' := (⟨t295, t296, t297⟩ : S52)) (k52_mkM _ _ _ (⟨t295, t296, t297⟩ : S52) ) (fun _ hk => hk); have hx12_0 := hcc12 0 _ rfl; (try simp only [show (k52).sz = 3 from rfl, Nat.mul_one, Nat.add_zero] at hx12_0); have hf12_0 := hfr12 0; (try simp only [show (k52).sz = 3 from rfl, Nat.mul_one, Nat.add_zero] at hf12_0); have hx12_1 := hcc12 1 _ rfl; (try simp only [show (k52).sz = 3 from rfl, Nat.mul_one, Nat.add_zero] at hx12_1); have hf12_1 := hfr12 1; (try simp only [show (k52).sz = 3 from rfl, Nat.mul_one, Nat.add_zero] at hf12_1); have hx12_2 := hcc12 2 _ rfl; (try simp only [show (k52).sz = 3 from rfl, Nat.mul_one, Nat.add_zero] at hx12_2); have hf12_2 := hfr12 2; (try simp only [show (k52).sz = 3 from rfl, Nat.mul_one, Nat.add_zero] at hf12_2); (try clear hM12); clear hcl12 hcc12 hfr12) | ((with_reducible refine gate_store (t := 52) (p := 21) rfl ?_); refine store_event (t := 52) (p := 21) (v := ?vo_w13) (w1 := (((w11.setCell ⟨go10, (x4_1 : Int).toNat * 3, none⟩ (.int .i64 t295)).setCell ⟨go10, (x4_1 : Int).toNat * 3 + 1, none⟩ (.int .i64 t296)).setCell ⟨go10, (x4_1 : Int).toNat * 3 + 2, none⟩ (.int .i64 t297))) ?hg ?ho ?hn ?hr ?_; (case ho => rfl); (case hg => rfl); (case hn => rfl); (case hr => first | (go_simp; done) | (go_simp; rfl)); intro w13 hw; have hg : w11.grownBy w13 (some go10) := (by rw [hw]; exact HP12.2); have hp_ : Kd.R k52 52 w13 w.heap.size (fun _ => True) (.slice (some ⟨go10, 0, none⟩) x3_1.length co10) y298 := (by rw [hw, Ny298.out]; exact HP12.1); clear HP12; have n0_ := Aside0.mk (hp_); have n1_ := Aside0.mk ((by rw [hw]; exact below_set (below_set (below_set (HB.out) GB10.out) GB10.out) GB10.out : Below w.heap.size w w13)); clear HO_3; clear HB; have HO_3 := n0_; have HB := n1_; clear n0_ n1_; clear hg hw hp_))
                go_roundg k1
                case measure => have := HK1.out; omega
                case rel => exact ⟨(y298), (wrap64 (x4_1 + 1)), (by first | rfl | (simp; done) | (simp [*]; done)), H', ⟨by have := HK1.out; omega⟩, ⟨by (with_reducible repeat (first | apply Kd.R_alloc | apply Kd.R_drewN | apply Kd.R_drew)); exact HO_3.out⟩, ⟨by repeat (first | (with_reducible first | exact HB.out | apply below_alloc | apply pw_below_drewN | apply below_drew1) | exact HB.out)⟩⟩
              · rw [if_neg c9] at H
                exact absurd H (by simp)
            · rw [if_neg c7] at H
              exact absurd H (by simp)
          · rw [if_neg c6] at H
            have c6b0 : decide (x4_1 < (l0.length : Int)) = false := decide_eq_false c6
            clear c6
            obtain rfl := Option.some.inj H
            go_wp2
            go_ret
            exact ⟨_, by first | rfl | (simp [errW_none, errW_some] <;> rfl) | (simp [*, errW_none, errW_some] <;> rfl), by (with_reducible repeat (first | apply Kd.R_alloc | apply Kd.R_drewN | apply Kd.R_drew)); exact HO_3.out, by repeat (first | (with_reducible first | exact HB.out | apply below_alloc | apply pw_below_drewN | apply below_drew1) | exact HB.out)⟩
    · rw [if_neg c3] at H
      exact absurd H (by simp)
  · rw [if_neg c2] at H
    exact absurd H (by simp)

end Go.Proofs.Ytocnifoohecmeaa.PFnExactDeskRun
