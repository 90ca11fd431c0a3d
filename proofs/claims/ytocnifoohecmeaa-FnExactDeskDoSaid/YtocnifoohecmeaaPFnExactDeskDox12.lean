-- Printed by this claim's own program; Lean checks it.
import Derived.Test.YtocnifoohecmeaaPFnExactDeskDox0
import Derived.Test.YtocnifoohecmeaaPFnExactDeskDox4
import Derived.Test.YtocnifoohecmeaaPFnExactDeskDox7
import Derived.Test.YtocnifoohecmeaaPFnExactDeskDox8
import Derived.Test.YtocnifoohecmeaaPFnExactDeskDox11
namespace Go.Proofs.Ytocnifoohecmeaa.PFnExactDeskDo
open Go.RowKit Go.Proofs.YtocnifoohecmeaaW.PrintWords Go.Proofs.YtocnifoohecmeaaW.PrintLast Go.Proofs.YtocnifoohecmeaaW.PrintMore
attribute [local go_sem] max2_int min2_int max_two min_two max_three min_three max_four min_four   -- for this text's walks alone
set_option linter.unusedVariables false
set_option linter.unusedSimpArgs false

/-! ### spec_DeskDo: function 33 (by hand) -/
theorem sd_done {w W W5 : World} {g go : Nat} {Pz : Nat → Prop} {v0 v1 : Value} {l : List S50} {ll : List (List S50)} {p : Prop} (hB5 : Below w.heap.size w W5) (hK : Kept W W5 (fun k => k = g ∨ k = go)) (h0 : Kd.V k50 50 W 0 (fun k => (Pz k ∧ some k ≠ v1.ownBlock) ∧ k ≠ g ∧ k ≠ go) v0 l) (h1 : Kd.V (Kd.slice 50 k50) 23 W 0 (fun k => w.heap.size ≤ k ∧ k ≠ g ∧ k ≠ go) v1 ll) (h2 : p → Kd.R (Kd.slice 50 k50) 23 W w.heap.size (fun k => w.heap.size ≤ k ∧ k ≠ g ∧ k ≠ go) v1 ll) :
    Kd.V k50 50 W5 0 (fun k => Pz k ∧ some k ≠ v1.ownBlock) v0 l ∧ Kd.V (Kd.slice 50 k50) 23 W5 0 (fun k => w.heap.size ≤ k) v1 ll ∧ (p → Kd.R (Kd.slice 50 k50) 23 W5 w.heap.size (fun k => w.heap.size ≤ k) v1 ll) ∧ Below w.heap.size w W5 :=
  ⟨Kd.V_mono (Kd.V_map h0 (fun _ hf => Kd.F_step hf (fun k hk hlt => hK.2 k hlt (fun h => h.elim hk.2.1 hk.2.2)))) (fun _ hk => hk.1),
   Kd.V_mono (Kd.V_map h1 (fun _ hf => Kd.F_step hf (fun k hk hlt => hK.2 k hlt (fun h => h.elim hk.2.1 hk.2.2)))) (fun _ hk => hk.1),
   fun hp => Kd.R_mono (Kd.R_step (h2 hp) (fun k hk hlt => hK.2 k hlt (fun h => h.elim hk.2.1 hk.2.2))) (fun _ hk => hk.1), hB5⟩
theorem V_low {α : Type} {d : Kd α} {e base base' : Nat} {ok : Nat → Prop} {w W : World} {v : Value} {xs : List α} (h : Kd.V d e w base ok v xs) (hb : Below w.heap.size w W) : Kd.V d e W base' (fun k => ok k ∧ k < w.heap.size) v xs :=
  Kd.V_below (Kd.V_map h (fun _ hf => Kd.F_bound hf)) hb
def spec_DeskDo.after (s0 : List S50) (s1 : List (List S50)) (x : List S50) (o : Bool) : Option (List S50 × List (List S50) × Bool) :=
  if o = false then some (s0, s1, false) else if s1.length < 1000000 then some (x, (if s1.length + 1 > 8 then (s1 ++ [s0]).drop 1 else s1 ++ [s0]), true) else none
def spec_DeskDo.f (k : Nat) (d0 : List S50) (d1 : List (List S50)) (ak aa ab : Int) : Option (List S50 × List (List S50) × Bool) :=
  (spec_DeskOk.f k d0 d1).bind fun okd => if okd = false then some ([], [], false) else (spec_l12Copy.f k d0 d1).bind fun S =>
    if S.2.length = d1.length then
      (if (ak = 4 ∧ aa = 0 ∧ ab = 0) ∧ 0 < d1.length then some (S.2.getD (S.2.length - 1) [], S.2.take (S.2.length - 1), true)
      else (spec_l12Made.f k d0 ak aa ab).bind fun N => spec_DeskDo.after S.1 S.2 N.1 N.2)
    else none
theorem spec_DeskDo.mono : ∀ a0 a1 a2 a3 a4 k, LeO (spec_DeskDo.f k a0 a1 a2 a3 a4) (spec_DeskDo.f (k + 1) a0 a1 a2 a3 a4) := by
  intro a0 a1 a2 a3 a4 k
  unfold spec_DeskDo.f
  refine LeO.bind (spec_DeskOk.mono _ _ _) (fun _ => LeO.ite (LeO.refl _) (LeO.bind (spec_l12Copy.mono _ _ _) (fun _ => LeO.ite (LeO.ite (LeO.refl _) (LeO.bind (spec_l12Made.mono _ _ _ _ _) (fun _ => LeO.refl _))) (LeO.refl _))))
set_option maxHeartbeats 8000000 in
set_option maxRecDepth 100000 in
theorem spec_DeskDo.calls (k : Nat) (A0_0 : Option Addr) (c0_0 : Nat) (l0_0 : List (S50)) (A0_1 : Option Addr) (c0_1 : Nat) (l0_1 : List (List (S50))) (a1_0 : Int) (a1_1 : Int) (a1_2 : Int) (r1 : List (S50)) (r2 : List (List (S50))) (r3 : Bool) (w : World) (P0_ : Nat → Prop) (hs0_0 : Kd.V k50 50 w 0 P0_ (.slice A0_0 l0_0.length c0_0) l0_0) (hr0_1 : Kd.C (Kd.slice 50 k50) w A0_1 l0_1.length l0_1) (hc0_1 : l0_1.length ≤ c0_1) (h : spec_DeskDo.f k l0_0 l0_1 a1_0 a1_1 a1_2 = some (r1, r2, r3)) :
    Calls Try.prog 33 #[.agg #[.slice A0_0 l0_0.length c0_0, .slice A0_1 l0_1.length c0_1], .agg #[.int .i64 a1_0, .int .i64 a1_1, .int .i64 a1_2]] w fun e w' => ∃ v0_ v1_ : Value, e = .returned (.tuple #[.agg #[v0_, v1_], .bool r3]) ∧ Kd.V k50 50 w' 0 (fun k_ => (P0_ k_ ∨ w.heap.size ≤ k_) ∧ some k_ ≠ v1_.ownBlock) v0_ r1 ∧ Kd.V (Kd.slice 50 k50) 23 w' 0 (fun k_ => w.heap.size ≤ k_) v1_ r2 ∧ (l0_1.length < 8 → Kd.R (Kd.slice 50 k50) 23 w' w.heap.size (fun k_ => w.heap.size ≤ k_) v1_ r2) ∧ Below w.heap.size w w' := by
  have hu27 := Try.underlying27
  have hu52 := Try.underlying52
  unfold spec_DeskDo.f at h
  obtain ⟨okd, hOK, h1⟩ := Option.bind_eq_some_iff.mp h
  have HOK := Aside0.mk hOK
  have HV0 := Aside0.mk hs0_0
  have HR0 := Aside0.mk (Kd.V_reads' hs0_0).2.2
  have HC0 := Aside0.mk (Kd.V_reads' hs0_0).2.1
  have HR1 := Aside0.mk hr0_1
  have HC1 := Aside0.mk hc0_1
  clear h hOK hs0_0 hr0_1 hc0_1
  go_enter Try.func33, Try.ntmps33
  go_wp2_with (fail)
  have B0 := Aside0.mk (below_alloc (below_alloc (below_alloc (Below.refl w.heap.size w) (.cells #[.slice A0_0 l0_0.length c0_0, .slice A0_1 l0_1.length c0_1] 27)) (.cells #[.int .i64 a1_0, .int .i64 a1_1, .int .i64 a1_2] 52)) (.cells #[.slice none 0 0, .slice none 0 0] 27))
  have D0 := Aside0.mk (blk_alloc1 (o' := .cells #[.slice none 0 0, .slice none 0 0] 27) (blk_alloc1 (o' := .cells #[.int .i64 a1_0, .int .i64 a1_1, .int .i64 a1_2] 52) (blk_new w (.cells #[.slice A0_0 l0_0.length c0_0, .slice A0_1 l0_1.length c0_1] 27))))
  have A0 := Aside0.mk (blk_alloc1 (o' := .cells #[.slice none 0 0, .slice none 0 0] 27) (blk_new (w.alloc (.cells #[.slice A0_0 l0_0.length c0_0, .slice A0_1 l0_1.length c0_1] 27)) (.cells #[.int .i64 a1_0, .int .i64 a1_1, .int .i64 a1_2] 52)))
  have R0 := Aside0.mk (blk_new ((w.alloc (.cells #[.slice A0_0 l0_0.length c0_0, .slice A0_1 l0_1.length c0_1] 27)).alloc (.cells #[.int .i64 a1_0, .int .i64 a1_1, .int .i64 a1_2] 52)) (.cells #[.slice none 0 0, .slice none 0 0] 27))
  rw [size_alloc1] at A0
  rw [size_alloc1, size_alloc1] at R0
  refine (spec_DeskOk.calls k _ _ l0_0 _ _ l0_1 okd _ (Kd.C_below HR0.out B0.out) HC0.out (Kd.C_below HR1.out B0.out) HC1.out HOK.out).mono ?_
  rintro e w1 ⟨rfl, hb1⟩
  have B1 := Aside0.mk (below_step B0.out hb1)
  have D1 := Aside0.mk ((hb1.block _ (blk_lt D0.out)).trans D0.out)
  have A1 := Aside0.mk ((hb1.block _ (blk_lt A0.out)).trans A0.out)
  have R1 := Aside0.mk ((hb1.block _ (blk_lt R0.out)).trans R0.out)
  clear hb1 B0 D0 A0 R0 HOK
  cases okd with
  | false =>
    rw [if_pos rfl] at h1
    simp only [Option.some.injEq, Prod.mk.injEq] at h1
    obtain ⟨rfl, rfl, rfl⟩ := h1
    have hr0 : w1.cell? ⟨w.heap.size + 1 + 1, 0, none⟩ = some (.slice none 0 0) := (blk_cell R1.out 0).trans rfl
    have hr1 : w1.cell? ⟨w.heap.size + 1 + 1, 1, none⟩ = some (.slice none 0 0) := (blk_cell R1.out 1).trans rfl
    have hf0 := blk_frozen R1.out 0
    have hf1 := blk_frozen R1.out 1
    go_wp2
    refine bodyPost_ret (results_ct rfl _ _ (w.heap.size + 1 + 1) 27 #[.slice none 0 0, .slice none 0 0] (0, 0) _ rfl (res_put R1.out) Try.underlying27 rfl (by kernel_rfl)) rfl ?_
    exact ⟨_, _, rfl, sd_done (g := w.heap.size + 1 + 1) (go := w.heap.size + 1 + 1) (below_set (below_set B1.out (by omega)) (by omega)) (Kept.setCell (Kept.setCell (Kept.refl _ _) (.inl (.inl rfl)) _) (.inl (.inl rfl)) _) (Kd.V_nil k50 50 w1 0 _) (Kd.V_nil (Kd.slice 50 k50) 23 w1 0 _) (fun _ => Kd.R_nil _ _ _ _ _)⟩
  | true =>
    rw [if_neg (by simp)] at h1
    obtain ⟨⟨s0, s1⟩, hS, h2⟩ := Option.bind_eq_some_iff.mp h1
    have HS := Aside0.mk hS
    clear h1 hS
    dsimp only at h2
    have hd0 : w1.cell? ⟨w.heap.size, 0, none⟩ = some (.slice A0_0 l0_0.length c0_0) := (blk_cell D1.out 0).trans rfl
    have hd1 : w1.cell? ⟨w.heap.size, 1, none⟩ = some (.slice A0_1 l0_1.length c0_1) := (blk_cell D1.out 1).trans rfl
    go_wp2_with (fail)
    refine (spec_l12Copy.calls k _ _ l0_0 _ _ l0_1 s0 s1 _ (Kd.C_below HR0.out B1.out) HC0.out (Kd.C_below HR1.out B1.out) HC1.out HS.out).mono ?_
    rintro e w2 ⟨v0, v1, rfl, hv, hs, hb2⟩
    obtain ⟨As0, cs0, rfl⟩ := Kd.R_slice hv
    obtain ⟨As1, cs1, rfl⟩ := Kd.S_slice hs
    clear hd0 hd1
    have E := Aside0.mk (blk_lt R1.out)
    have WSZ := Aside0.mk hb2.size
    have B2 := Aside0.mk (below_alloc (below_step B1.out hb2) (.cells #[.slice As0 s0.length cs0, .slice As1 s1.length cs1] 27))
    have D2 := Aside0.mk (blk_alloc1 (o' := .cells #[.slice As0 s0.length cs0, .slice As1 s1.length cs1] 27) ((hb2.block _ (blk_lt D1.out)).trans D1.out))
    have A2 := Aside0.mk (blk_alloc1 (o' := .cells #[.slice As0 s0.length cs0, .slice As1 s1.length cs1] 27) ((hb2.block _ (blk_lt A1.out)).trans A1.out))
    have R2 := Aside0.mk (blk_alloc1 (o' := .cells #[.slice As0 s0.length cs0, .slice As1 s1.length cs1] 27) ((hb2.block _ (blk_lt R1.out)).trans R1.out))
    have S2 := Aside0.mk (blk_new w2 (.cells #[.slice As0 s0.length cs0, .slice As1 s1.length cs1] 27))
    have V0 := Aside0.mk (Kd.R_alloc (Kd.R_mono (ok' := fun k => w1.heap.size ≤ k ∧ k < w2.heap.size) (Kd.R_bound hv) (fun k hk => ⟨hk.2.1, hk.2.2.1⟩)) (.cells #[.slice As0 s0.length cs0, .slice As1 s1.length cs1] 27))
    have V1 := Aside0.mk (Kd.R_alloc (Kd.R_mono (ok' := fun k => (some k ≠ (Value.slice As0 s0.length cs0).ownBlock) ∧ w1.heap.size ≤ k ∧ k < w2.heap.size) (Kd.R_bound (Kd.S_R hs)) (fun k hk => ⟨hk.1, hk.2.1, hk.2.2.1⟩)) (.cells #[.slice As0 s0.length cs0, .slice As1 s1.length cs1] 27))
    have NE := Aside0.mk (show w.heap.size + 1 + 1 < w2.heap.size from Nat.lt_of_lt_of_le E.out hb2.size)
    have m2 : w.heap.size + 1 < w2.heap.size := Nat.lt_of_lt_of_le (blk_lt A1.out) hb2.size
    have m3 := NE.out
    have m4 : w.heap.size < w2.heap.size := by omega
    clear hv hs hb2 B1 D1 A1 R1
    go_upto_region 4 with (fail)
    clear m2 m3 m4
    have E2 := Aside0.mk (size_alloc1 w2 (.cells #[.slice As0 s0.length cs0, .slice As1 s1.length cs1] 27))
    generalize w2.alloc (.cells #[.slice As0 s0.length cs0, .slice As1 s1.length cs1] 27) = w3 at *
    have H2 := Aside0.mk h2
    clear h2
    go_cut [24] (fun v24 wc => v24 = .bool (decide ((a1_0 = 4 ∧ a1_1 = 0 ∧ a1_2 = 0) ∧ 0 < l0_1.length)) ∧ wc = w3)
    · have ha0 : w3.cell? ⟨w.heap.size + 1, 0, none⟩ = some (.int .i64 a1_0) := (blk_cell A2.out 0).trans rfl
      have ha1 : w3.cell? ⟨w.heap.size + 1, 1, none⟩ = some (.int .i64 a1_1) := (blk_cell A2.out 1).trans rfl
      have ha2 : w3.cell? ⟨w.heap.size + 1, 2, none⟩ = some (.int .i64 a1_2) := (blk_cell A2.out 2).trans rfl
      have hd1 : w3.cell? ⟨w.heap.size, 1, none⟩ = some (.slice A0_1 l0_1.length c0_1) := (blk_cell D2.out 1).trans rfl
      by_cases hk : a1_0 = 4 ∧ a1_1 = 0 ∧ a1_2 = 0
      · have e0 : (a1_0 == 4) = true := beq_iff_eq.mpr hk.1
        have e1 : (a1_1 == 0) = true := beq_iff_eq.mpr hk.2.1
        have e2 : (a1_2 == 0) = true := beq_iff_eq.mpr hk.2.2
        have HK_ := Aside0.mk hk
        clear hk
        by_cases hl : 0 < l0_1.length
        · have hl1 : decide (0 < (l0_1.length : Int)) = true := decide_eq_true (by omega)
          have HL_ := Aside0.mk hl
          clear hl
          go_wp2_with (fail)
          go_meet
          exact ⟨congrArg Value.bool (by simp [HK_.out, HL_.out] <;> exact hl1), rfl⟩
        · have hl1 : decide (0 < (l0_1.length : Int)) = false := decide_eq_false (by omega)
          have HL_ := Aside0.mk hl
          clear hl
          go_wp2_with (fail)
          go_meet
          exact ⟨congrArg Value.bool (by simp [HK_.out, HL_.out] <;> exact hl1), rfl⟩
      · by_cases h0 : a1_0 = 4
        all_goals by_cases h1 : a1_1 = 0
        all_goals by_cases h2 : a1_2 = 0
        all_goals first | have e0 : (a1_0 == 4) = true := beq_iff_eq.mpr (by assumption) | have e0 : (a1_0 == 4) = false := beq_eq_false_iff_ne.mpr (by assumption)
        all_goals first | have e1 : (a1_1 == 0) = true := beq_iff_eq.mpr (by assumption) | have e1 : (a1_1 == 0) = false := beq_eq_false_iff_ne.mpr (by assumption)
        all_goals first | have e2 : (a1_2 == 0) = true := beq_iff_eq.mpr (by assumption) | have e2 : (a1_2 == 0) = false := beq_eq_false_iff_ne.mpr (by assumption)
        all_goals try (exfalso; omega)
        all_goals have HK_ := Aside0.mk hk
        all_goals clear hk h0 h1 h2
        all_goals go_wp2_with (fail)
        all_goals go_meet
        all_goals exact ⟨congrArg Value.bool (by simp [HK_.out]), rfl⟩
    case rest =>
      obtain ⟨rfl, hw3⟩ := hcut
      have hw3' := hw3.symm
      subst hw3'
      clear hw3
      have hs0 : w3.cell? ⟨w2.heap.size, 0, none⟩ = some (.slice As0 s0.length cs0) := (blk_cell S2.out 0).trans rfl
      have hs1 : w3.cell? ⟨w2.heap.size, 1, none⟩ = some (.slice As1 s1.length cs1) := (blk_cell S2.out 1).trans rfl
      have hne : w.heap.size + 1 + 1 ≠ w2.heap.size := by have := NE.out; omega
      have h2 := H2.out
      clear H2
      by_cases hls : s1.length = l0_1.length
      · rw [if_pos hls] at h2
        have HLS := Aside0.mk hls
        clear hls
        by_cases hback : (a1_0 = 4 ∧ a1_1 = 0 ∧ a1_2 = 0) ∧ 0 < l0_1.length
        · rw [if_pos hback] at h2
          simp only [Option.some.injEq, Prod.mk.injEq] at h2
          obtain ⟨rfl, rfl, rfl⟩ := h2
          rw [decide_eq_true hback]
          have hpos : 0 < s1.length := by have := HLS.out; have := hback.2; omega
          clear hback
          have hfo0 := blk_frozen S2.out 0
          have hfo1 := blk_frozen S2.out 1
          have hr0 : w3.cell? ⟨w.heap.size + 1 + 1, 0, none⟩ = some (.slice none 0 0) := (blk_cell R2.out 0).trans rfl
          have hr1 : w3.cell? ⟨w.heap.size + 1 + 1, 1, none⟩ = some (.slice none 0 0) := (blk_cell R2.out 1).trans rfl
          have hf0 := blk_frozen R2.out 0
          have hf1 := blk_frozen R2.out 1
          obtain ⟨gp, cp, ep, hgb, hgl, cells, hcells⟩ := Kd.R_form V1.out hpos
          injection ep with ep1 ep2 ep3
          subst ep1 ep3
          have hmax := Kd.C_max (Kd.R_reads' V1.out).2.2
          have hcap := (Kd.R_reads' V1.out).2.1
          have gne := V1.out.1 gp rfl
          have gn1 : gp ≠ w2.heap.size := by have := gne.2.2; omega
          have gn2 : gp ≠ w.heap.size + 1 + 1 := by have := gne.2.1; have := E.out; omega
          obtain ⟨ji, hji⟩ : ∃ j : Int, ((s1.length - 1 : Nat) : Int) = j := ⟨_, rfl⟩
          have pw : IntKind.i64.wrap ((s1.length : Int) - 1) = ji := by rw [IntKind.wrap_i64]; omega
          have p0 : 0 ≤ ji := by omega
          have q0 : ji < (s1.length : Int) := by omega
          have q1 : ji ≤ (cs1 : Int) := by omega
          obtain ⟨cs, hcl, hM, hcc⟩ := Kd.R_getA V1.out ([] : List S50) ji p0 q0
          obtain ⟨elm, helm⟩ : ∃ z, s1.getD ji.toNat ([] : List S50) = z := ⟨_, rfl⟩
          rw [helm] at hM
          obtain ⟨Ae, ce, rfl, hle, hF⟩ := Kd.FK_slice_open (Kd.FK_of_M hM)
          have hel : w3.cell? ⟨gp, ji.toNat, none⟩ = some (.slice Ae elm.length ce) := by
            have := hcc 0 _ rfl
            rw [show (Kd.slice 50 k50).sz = 1 from rfl, Nat.mul_one, Nat.add_zero, show (⟨gp, 0, none⟩ : Addr).add ji.toNat = ⟨gp, ji.toNat, none⟩ from by simp [Addr.add]; intro h; omega] at this
            exact this
          have hT : ji.toNat = s1.length - 1 := by omega
          have HTK := Aside0.mk (Kd.R_take (m := ji.toNat) V1.out (by omega))
          have HT := Aside0.mk hT
          have HE := Aside0.mk helm
          have HVE := Aside0.mk (Kd.V_mk (e := 50) (base := 0) hle hF)
          have HTL := Aside0.mk (show (s1.take ji.toNat).length = ji.toNat by rw [List.length_take]; omega)
          have GN := Aside0.mk (And.intro gn1 gn2)
          clear hT helm hM hcc hcl hF hmax hcap hcells hgl hgb gne hji hpos hle
          go_wp2_with (fail)
          go_wp2
          refine bodyPost_ret (results_ct rfl _ _ (w.heap.size + 1 + 1) 27 #[.slice Ae elm.length ce, .slice (some ⟨gp, 0, none⟩) ji.toNat cs1] (0, 0) _ rfl (res_put (blk_kept R2.out (Kept.setCell (Kept.setCell (Kept.refl w3 (fun k => k = w2.heap.size)) (.inl rfl) _) (.inl rfl) _) hne)) Try.underlying27 rfl (by kernel_rfl)) rfl ?_
          refine ⟨_, _, rfl, ?_⟩
          rw [← HT.out, show s1[ji.toNat]?.getD [] = elm from HE.out]
          exact sd_done (W := w3) (g := w.heap.size + 1 + 1) (go := w2.heap.size) (below_set (below_set (below_set (below_set B2.out (by have := NE.out; omega)) (by have := NE.out; omega)) (by omega)) (by omega)) (Kept.setCell (Kept.setCell (Kept.setCell (Kept.setCell (Kept.refl _ _) (.inl (.inr rfl)) _) (.inl (.inr rfl)) _) (.inl (.inl rfl)) _) (.inl (.inl rfl)) _) (Kd.V_mono HVE.out (fun k hk => ⟨⟨.inr (by have := hk.1.2.1; have := E.out; omega), hk.2⟩, by have := hk.1.2.1; have := E.out; omega, by have := hk.1.2.2; omega⟩)) (Kd.V_mono (Kd.R_V HTK.out) (fun k hk => ⟨by have := hk.2.1; have := E.out; omega, by have := hk.2.1; have := E.out; omega, by have := hk.2.2; omega⟩)) (fun _ => Kd.R_mono (Kd.R_lower HTK.out (by have := E.out; omega)) (fun k hk => ⟨by have := hk.2.1; have := E.out; omega, by have := hk.2.1; have := E.out; omega, by have := hk.2.2; omega⟩))
        · rw [if_neg hback] at h2
          rw [decide_eq_false hback]
          clear hback
          have hd0 : w3.cell? ⟨w.heap.size, 0, none⟩ = some (.slice A0_0 l0_0.length c0_0) := (blk_cell D2.out 0).trans rfl
          have ha0 : w3.cell? ⟨w.heap.size + 1, 0, none⟩ = some (.int .i64 a1_0) := (blk_cell A2.out 0).trans rfl
          have ha1 : w3.cell? ⟨w.heap.size + 1, 1, none⟩ = some (.int .i64 a1_1) := (blk_cell A2.out 1).trans rfl
          have ha2 : w3.cell? ⟨w.heap.size + 1, 2, none⟩ = some (.int .i64 a1_2) := (blk_cell A2.out 2).trans rfl
          obtain ⟨⟨x, o⟩, hN, hA⟩ := Option.bind_eq_some_iff.mp h2
          have HN := Aside0.mk hN
          have HA := Aside0.mk hA
          clear h2 hN hA hs0 hs1
          go_wp2_with (fail)
          refine (spec_l12Made.calls k (fun k => P0_ k ∧ k < w.heap.size) _ _ l0_0 a1_0 a1_1 a1_2 x o _ (V_low HV0.out B2.out) HN.out).mono ?_
          rintro e w4 ⟨v0, rfl, hx, hb4⟩
          obtain ⟨An, cn, rfl⟩ := Kd.V_slice hx
          have B4 := Aside0.mk (below_step B2.out hb4)
          have R4 := Aside0.mk ((hb4.block _ (blk_lt R2.out)).trans R2.out)
          have S4 := Aside0.mk ((hb4.block _ (blk_lt S2.out)).trans S2.out)
          have W0 := Aside0.mk (Kd.R_below V0.out hb4)
          have W1 := Aside0.mk (Kd.R_below V1.out hb4)
          have VX := Aside0.mk (show Kd.V k50 50 w4 0 (fun k => ((P0_ k ∧ k < w.heap.size) ∨ w3.heap.size ≤ k) ∧ k < w4.heap.size) _ x from Kd.V_map hx (fun _ hf => Kd.F_bound hf))
          have HZ := Aside0.mk hb4.size
          have hA := HA.out
          clear HA hx hb4 hd0 ha0 ha1 ha2
          have hs0 : w4.cell? ⟨w2.heap.size, 0, none⟩ = some (.slice As0 s0.length cs0) := (blk_cell S4.out 0).trans rfl
          have hs1 : w4.cell? ⟨w2.heap.size, 1, none⟩ = some (.slice As1 s1.length cs1) := (blk_cell S4.out 1).trans rfl
          have hfo0 := blk_frozen S4.out 0
          have hfo1 := blk_frozen S4.out 1
          cases o with
          | false =>
            obtain ⟨rfl, rfl, rfl⟩ : s0 = r1 ∧ s1 = r2 ∧ false = r3 := by simpa [spec_DeskDo.after] using hA
            clear hA
            have hr0 : w4.cell? ⟨w.heap.size + 1 + 1, 0, none⟩ = some (.slice none 0 0) := (blk_cell R4.out 0).trans rfl
            have hr1 : w4.cell? ⟨w.heap.size + 1 + 1, 1, none⟩ = some (.slice none 0 0) := (blk_cell R4.out 1).trans rfl
            have hf0 := blk_frozen R4.out 0
            have hf1 := blk_frozen R4.out 1
            go_wp2
            refine bodyPost_ret (results_ct rfl _ _ (w.heap.size + 1 + 1) 27 #[.slice As0 s0.length cs0, .slice As1 s1.length cs1] (0, 0) _ rfl (res_put R4.out) Try.underlying27 rfl (by kernel_rfl)) rfl ?_
            exact ⟨_, _, rfl, sd_done (W := w4) (g := w.heap.size + 1 + 1) (go := w2.heap.size) (below_set (below_set B4.out (by omega)) (by omega)) (Kept.setCell (Kept.setCell (Kept.refl _ _) (.inl (.inl rfl)) _) (.inl (.inl rfl)) _) (Kd.V_mono (Kd.R_V (k50_own W0.out)) (fun k hk => ⟨⟨.inr (by have := (W0.out.1 k hk).1; have := E.out; omega), fun e => (W1.out.1 k e.symm).1 hk.symm⟩, by have := (W0.out.1 k hk).1; have := E.out; omega, by have := (W0.out.1 k hk).2; omega⟩)) (Kd.V_mono (Kd.R_V W1.out) (fun k hk => ⟨by have := hk.2.1; have := E.out; omega, by have := hk.2.1; have := E.out; omega, by have := hk.2.2; omega⟩)) (fun _ => Kd.R_mono (Kd.R_lower W1.out (by have := E.out; omega)) (fun k hk => ⟨by have := hk.2.1; have := E.out; omega, by have := hk.2.1; have := E.out; omega, by have := hk.2.2; omega⟩))⟩
          | true =>
            unfold spec_DeskDo.after at hA
            rw [if_neg (by simp)] at hA
            by_cases hbig : s1.length < 1000000
            · rw [if_pos hbig] at hA
              simp only [Option.some.injEq, Prod.mk.injEq] at hA
              obtain ⟨rfl, hq, rfl⟩ := hA
              obtain ⟨y, hy⟩ : ∃ y, y = s1 ++ [s0] := ⟨_, rfl⟩
              have hyl : y.length = s1.length + 1 := by rw [hy]; simp
              rw [← hy, ← hyl] at hq
              have HQ := Aside0.mk hq
              have HY := Aside0.mk hy
              have HYL := Aside0.mk hyl
              have HBIG := Aside0.mk hbig
              clear hq hy hyl hbig
              have VY := Aside0.mk (Kd.V_mono (ok' := fun k => (((P0_ k ∧ k < w.heap.size) ∨ w3.heap.size ≤ k) ∧ k < w4.heap.size) ∧ some k ≠ (Value.slice As1 s1.length cs1).ownBlock) VX.out (fun k hk => ⟨hk, fun e => by
                have h1 := (W1.out.1 k e.symm).2
                have h2 := E.out
                have h3 := E2.out
                rcases hk.1 with h | h
                · have := h.2; omega
                · omega⟩))
              by_cases h8 : y.length > 8
              · have f8 : decide (8 < (y.length : Int)) = true := decide_eq_true (by omega)
                have f8' : decide (8 < y.length) = true := decide_eq_true h8
                have HQ8 := Aside0.mk (show r2 = y.drop 1 from by have := HQ.out; rw [if_pos h8] at this; exact this.symm)
                have H8 := Aside0.mk h8
                clear h8 HQ
                go_wp2_with (first
                  | ((with_reducible refine gate_builtin (b := .append) (xs := #[.tmp 52, .tmp 55]) rfl ?_); at_builtin; refine Kd.R_append (Kd.slice 50 k50) (w0 := w4) w1.heap.size rfl (.tmp 52) (.tmp 55) 25 23 (.slice none 0 0) 24 rfl Try.underlying25 info23 rfl (by decide) (by omega) (.slice As1 s1.length cs1) s1 s0 [.slice As0 s0.length cs0] (fun k => w1.heap.size ≤ k ∧ k ≠ w2.heap.size) (fun k_ => (Value.slice As0 s0.length cs0).ownBlock = some k_) rfl rfl ?aP ?aK ?aF ?aO (Below.refl _ _) ?aZ ?aL ?_; (case aP => exact Kd.M_row (Kd.R_mono (k50_own W0.out) (fun _ h => h))); (case aK => exact fun k hk => ⟨⟨(W0.out.1 k hk).1, by have := (W0.out.1 k hk).2; omega⟩, fun e => (W1.out.1 k e.symm).1 hk.symm⟩); (case aF => exact fun k hk => ⟨by have := WSZ.out; have := HZ.out; have := E2.out; omega, by have := HZ.out; have := E2.out; omega⟩); (case aO => exact Kd.R_mono W1.out (fun k hk => ⟨hk.2.1, by have := hk.2.2; omega⟩)); (case aZ => have := WSZ.out; have := HZ.out; have := E2.out; omega); (case aL => have := HBIG.out; omega); intro v7 w7 ho hb hg hat; rw [← HY.out] at ho; have HO7 := Aside0.mk ho; have HB7 := Aside0.mk (B4.out.trans (hb.mono (by have := E.out; omega))); have HV7 := Aside0.mk (Kd.V_after VY.out hg hat); have R7 := Aside0.mk ((hg.block _ (blk_lt R4.out) (Kd.R_ne W1.out R4.out (by decide))).trans R4.out); have S7 := Aside0.mk ((hg.block _ (blk_lt S4.out) (Kd.R_ne W1.out S4.out (by decide))).trans S4.out); clear ho hb hg hat hs0 hs1 hfo0 hfo1; obtain ⟨g7, c7, e7, _, _, _⟩ := Kd.R_form HO7.out (by have := HYL.out; omega); subst e7; have hfo0 := blk_frozen S7.out 0; have hfo1 := blk_frozen S7.out 1; have hs0 : w7.cell? ⟨w2.heap.size, 0, none⟩ = some (.slice As0 s0.length cs0) := (blk_cell S7.out 0).trans rfl; have hs1 : w7.cell? ⟨w2.heap.size, 1, none⟩ = some (.slice As1 s1.length cs1) := (blk_cell S7.out 1).trans rfl; have hr0 : w7.cell? ⟨w.heap.size + 1 + 1, 0, none⟩ = some (.slice none 0 0) := (blk_cell R7.out 0).trans rfl; have hr1 : w7.cell? ⟨w.heap.size + 1 + 1, 1, none⟩ = some (.slice none 0 0) := (blk_cell R7.out 1).trans rfl; have hf0 := blk_frozen R7.out 0; have hf1 := blk_frozen R7.out 1; have hcap := (Kd.R_reads' HO7.out).2.1; have h9 := H8.out))
                go_wp2
                refine bodyPost_ret (results_ct rfl _ _ (w.heap.size + 1 + 1) 27 #[.slice An x.length cn, (.slice (some ⟨g7, 1, none⟩) (y.length - 1) (c7 - 1))] (0, 0) _ rfl (res_put (blk_kept R7.out (Kept.setCell (Kept.setCell (Kept.setCell (Kept.refl w7 (fun k => k = w2.heap.size)) (.inl rfl) _) (.inl rfl) _) (.inl rfl) _) hne)) Try.underlying27 rfl (by kernel_rfl)) rfl ?_
                refine ⟨_, _, rfl, ?_⟩
                rw [HQ8.out, show y.length - 1 = (y.drop 1).length from by rw [List.length_drop]]
                exact sd_done (W := w7) (g := w.heap.size + 1 + 1) (go := w2.heap.size) (below_set (below_set (below_set (below_set (below_set HB7.out (by have := NE.out; omega)) (by have := NE.out; omega)) (by have := NE.out; omega)) (by omega)) (by omega)) (Kept.setCell (Kept.setCell (Kept.setCell (Kept.setCell (Kept.setCell (Kept.refl _ _) (.inl (.inr rfl)) _) (.inl (.inr rfl)) _) (.inl (.inr rfl)) _) (.inl (.inl rfl)) _) (.inl (.inl rfl)) _) (Kd.V_mono HV7.out (fun k hk => ⟨⟨hk.1.1.elim (fun h => .inl h.1) (fun h => .inr (by have := E.out; have := WSZ.out; have := E2.out; omega)), hk.2⟩, by have := hk.1.1.imp (fun h => h.2) id; have := E.out; have := WSZ.out; have := E2.out; omega, by have := hk.1.1.imp (fun h => h.2) id; have := NE.out; have := E2.out; omega⟩)) (by have hF := Kd.V_F (Kd.R_V (base' := 0) HO7.out); exact Kd.V_mono (Kd.V_mk (A := some ⟨g7, 1, none⟩) (by rw [List.length_drop]; omega) (Kd.F_imp hF (fun W' hC => by have h7 := Kd.C_drop (m := 1) (c := c7) hC (by have := HYL.out; omega) (by have := (Kd.R_reads' HO7.out).2.1; omega); rw [if_neg (by have h1 := H8.out; have h2 := (Kd.R_reads' HO7.out).2.1; omega)] at h7; exact h7))) (fun k hk => ⟨by have := hk.1; have := E.out; omega, by have := hk.1; have := E.out; omega, hk.2⟩)) (fun hlt => by exfalso; have h1 := HYL.out; have h2 := HLS.out; have h3 := H8.out; omega)
              · have f8 : decide (8 < (y.length : Int)) = false := decide_eq_false (by omega)
                have f8' : decide (8 < y.length) = false := decide_eq_false h8
                have HQ8 := Aside0.mk (show r2 = y from by have := HQ.out; rw [if_neg h8] at this; exact this.symm)
                clear h8 HQ
                go_wp2_with (first
                  | ((with_reducible refine gate_builtin (b := .append) (xs := #[.tmp 52, .tmp 55]) rfl ?_); at_builtin; refine Kd.R_append (Kd.slice 50 k50) (w0 := w4) w1.heap.size rfl (.tmp 52) (.tmp 55) 25 23 (.slice none 0 0) 24 rfl Try.underlying25 info23 rfl (by decide) (by omega) (.slice As1 s1.length cs1) s1 s0 [.slice As0 s0.length cs0] (fun k => w1.heap.size ≤ k ∧ k ≠ w2.heap.size) (fun k_ => (Value.slice As0 s0.length cs0).ownBlock = some k_) rfl rfl ?aP ?aK ?aF ?aO (Below.refl _ _) ?aZ ?aL ?_; (case aP => exact Kd.M_row (Kd.R_mono (k50_own W0.out) (fun _ h => h))); (case aK => exact fun k hk => ⟨⟨(W0.out.1 k hk).1, by have := (W0.out.1 k hk).2; omega⟩, fun e => (W1.out.1 k e.symm).1 hk.symm⟩); (case aF => exact fun k hk => ⟨by have := WSZ.out; have := HZ.out; have := E2.out; omega, by have := HZ.out; have := E2.out; omega⟩); (case aO => exact Kd.R_mono W1.out (fun k hk => ⟨hk.2.1, by have := hk.2.2; omega⟩)); (case aZ => have := WSZ.out; have := HZ.out; have := E2.out; omega); (case aL => have := HBIG.out; omega); intro v7 w7 ho hb hg hat; rw [← HY.out] at ho; have HO7 := Aside0.mk ho; have HB7 := Aside0.mk (B4.out.trans (hb.mono (by have := E.out; omega))); have HV7 := Aside0.mk (Kd.V_after VY.out hg hat); have R7 := Aside0.mk ((hg.block _ (blk_lt R4.out) (Kd.R_ne W1.out R4.out (by decide))).trans R4.out); have S7 := Aside0.mk ((hg.block _ (blk_lt S4.out) (Kd.R_ne W1.out S4.out (by decide))).trans S4.out); clear ho hb hg hat hs0 hs1 hfo0 hfo1; obtain ⟨g7, c7, e7, _, _, _⟩ := Kd.R_form HO7.out (by have := HYL.out; omega); subst e7; have hfo0 := blk_frozen S7.out 0; have hfo1 := blk_frozen S7.out 1; have hs0 : w7.cell? ⟨w2.heap.size, 0, none⟩ = some (.slice As0 s0.length cs0) := (blk_cell S7.out 0).trans rfl; have hs1 : w7.cell? ⟨w2.heap.size, 1, none⟩ = some (.slice As1 s1.length cs1) := (blk_cell S7.out 1).trans rfl; have hr0 : w7.cell? ⟨w.heap.size + 1 + 1, 0, none⟩ = some (.slice none 0 0) := (blk_cell R7.out 0).trans rfl; have hr1 : w7.cell? ⟨w.heap.size + 1 + 1, 1, none⟩ = some (.slice none 0 0) := (blk_cell R7.out 1).trans rfl; have hf0 := blk_frozen R7.out 0; have hf1 := blk_frozen R7.out 1))
                go_wp2
                refine bodyPost_ret (results_ct rfl _ _ (w.heap.size + 1 + 1) 27 #[.slice An x.length cn, (.slice (some ⟨g7, 0, none⟩) y.length c7)] (0, 0) _ rfl (res_put (blk_kept R7.out (Kept.setCell (Kept.setCell (Kept.refl w7 (fun k => k = w2.heap.size)) (.inl rfl) _) (.inl rfl) _) hne)) Try.underlying27 rfl (by kernel_rfl)) rfl ?_
                refine ⟨_, _, rfl, ?_⟩
                rw [HQ8.out]
                exact sd_done (W := w7) (g := w.heap.size + 1 + 1) (go := w2.heap.size) (below_set (below_set (below_set (below_set HB7.out (by have := NE.out; omega)) (by have := NE.out; omega)) (by omega)) (by omega)) (Kept.setCell (Kept.setCell (Kept.setCell (Kept.setCell (Kept.refl _ _) (.inl (.inr rfl)) _) (.inl (.inr rfl)) _) (.inl (.inl rfl)) _) (.inl (.inl rfl)) _) (Kd.V_mono HV7.out (fun k hk => ⟨⟨hk.1.1.elim (fun h => .inl h.1) (fun h => .inr (by have := E.out; have := WSZ.out; have := E2.out; omega)), hk.2⟩, by have := hk.1.1.imp (fun h => h.2) id; have := E.out; have := WSZ.out; have := E2.out; omega, by have := hk.1.1.imp (fun h => h.2) id; have := NE.out; have := E2.out; omega⟩)) (Kd.V_mono (Kd.R_V HO7.out) (fun k hk => ⟨by have := hk.1; have := E.out; omega, by have := hk.1; have := E.out; omega, hk.2⟩)) (fun _ => Kd.R_mono (Kd.R_lower HO7.out (by have := E.out; omega)) (fun k hk => ⟨by have := hk.1; have := E.out; omega, by have := hk.1; have := E.out; omega, hk.2⟩))
            · rw [if_neg hbig] at hA; cases hA
      · rw [if_neg hls] at h2; cases h2

/-! ### laws_toDeed: function 35 -/
def laws_toDeed.f (a0_0 : Int) (a0_1 : Int) (a0_2 : Int) : Option (Int × Int × Int) := some (a0_0, a0_1, a0_2)
set_option maxHeartbeats 8000000 in
set_option maxRecDepth 100000 in
theorem laws_toDeed.calls (a0_0 : Int) (a0_1 : Int) (a0_2 : Int) (r1 : Int) (r2 : Int) (r3 : Int) (w : World) (h : laws_toDeed.f a0_0 a0_1 a0_2 = some (r1, r2, r3)) :
    Calls Try.prog 35 #[.agg #[.int .i64 a0_0, .int .i64 a0_1, .int .i64 a0_2]] w fun e w' => e = .returned (.agg #[.int .i64 r1, .int .i64 r2, .int .i64 r3]) ∧ Below w.heap.size w w' := by
  have hu57 := Try.underlying57
  have hu52 := Try.underlying52
  have HB := Aside0.mk (Below.refl w.heap.size w)
  have H : (some (a0_0, a0_1, a0_2)) = some (r1, r2, r3) := h
  clear h
  simp only [Option.some.injEq, Prod.mk.injEq] at H
  obtain ⟨rfl, rfl, rfl⟩ := H
  go_enter Try.func35, Try.ntmps35
  go_wp2_with (first | ((with_reducible refine gate_dst (N := 1) rfl ?_); refine box_event ?hg (N := 1) ?hd (cs := #[.int .i64 a0_0, .int .i64 a0_1, .int .i64 a0_2]) (t := 57) ?hr ?_; (case hd => rfl); (case hg => rfl); (case hr => first | (go_simp; done) | (go_simp; rfl)); intro gb288 hg w2 hbox hb; have n0_ := Aside0.mk (below_step (by repeat (first | (with_reducible first | exact HB.out | apply below_alloc | apply pw_below_drewN | apply below_drew1) | exact HB.out)) hb); have n1_ := Aside0.mk (hbox); have n2_ := Aside0.mk ((by rw [hg]; exact (below_size (by repeat (first | (with_reducible first | exact HB.out | apply below_alloc | apply pw_below_drewN | apply below_drew1) | exact HB.out))) : w.heap.size ≤ gb288)); have n3_ := Aside0.mk ((by rw [hg]; exact (below_size (by repeat (first | (with_reducible first | exact HB.out | apply below_alloc | apply pw_below_drewN | apply below_drew1) | exact HB.out))) : w.heap.size ≤ gb288)); clear HB; have HB := n0_; have BK288 := n1_; have GW288 := n2_; have GE288 := n3_; clear n0_ n1_ n2_ n3_; clear hb hbox hg) | ((with_reducible refine gate_dst (N := 2) rfl ?_); refine box_event ?hg (N := 2) ?hd (cs := #[.int .i64 0, .int .i64 0, .int .i64 0]) (t := 52) ?hr ?_; (case hd => rfl); (case hg => rfl); (case hr => first | (go_simp; done) | (go_simp; rfl)); intro gb289 hg w3 hbox hb; have n0_ := Aside0.mk (blk_below (g := gb288) (o := .cells #[.int .i64 a0_0, .int .i64 a0_1, .int .i64 a0_2] 57 (0, 0)) (by (with_reducible repeat (first | refine blk_drewN ?_ _ | refine blk_drew ?_ | refine blk_alloc ?_ _)); exact BK288.out) hb); have n1_ := Aside0.mk (below_step (by repeat (first | (with_reducible first | exact HB.out | apply below_alloc | apply pw_below_drewN | apply below_drew1 | refine below_set ?_ GE288.out) | exact HB.out)) hb); have n2_ := Aside0.mk (hbox); have n3_ := Aside0.mk ((by rw [hg]; exact (below_size (by repeat (first | (with_reducible first | exact HB.out | apply below_alloc | apply pw_below_drewN | apply below_drew1 | refine below_set ?_ GE288.out) | exact HB.out))) : w.heap.size ≤ gb289)); have n4_ := Aside0.mk ((by rw [hg]; exact (below_size (by repeat (first | (with_reducible first | exact HB.out | apply below_alloc | apply pw_below_drewN | apply below_drew1 | refine below_set ?_ GE288.out) | exact HB.out))) : w.heap.size ≤ gb289)); have n5_ := Aside0.mk ((by rw [hg]; exact Nat.ne_of_lt (blk_lt (g := gb288) (o := .cells #[.int .i64 a0_0, .int .i64 a0_1, .int .i64 a0_2] 57 (0, 0)) (by (with_reducible repeat (first | refine blk_drewN ?_ _ | refine blk_drew ?_ | refine blk_alloc ?_ _)); exact BK288.out)) : gb288 ≠ gb289)); have n6_ := Aside0.mk ((by rw [hg]; exact Nat.ne_of_gt (blk_lt (g := gb288) (o := .cells #[.int .i64 a0_0, .int .i64 a0_1, .int .i64 a0_2] 57 (0, 0)) (by (with_reducible repeat (first | refine blk_drewN ?_ _ | refine blk_drew ?_ | refine blk_alloc ?_ _)); exact BK288.out)) : gb289 ≠ gb288)); clear BK288; clear HB; have BK288 := n0_; have HB := n1_; have BK289 := n2_; have GW289 := n3_; have GE289 := n4_; have NB288_289 := n5_; have NB289_288 := n6_; clear n0_ n1_ n2_ n3_ n4_ n5_ n6_; clear hb hbox hg) | ((with_reducible refine gate_dst (N := 3) rfl ?_); refine box_event ?hg (N := 3) ?hd (cs := #[.int .i64 0, .int .i64 0, .int .i64 0]) (t := 52) ?hr ?_; (case hd => rfl); (case hg => rfl); (case hr => first | (go_simp; done) | (go_simp; rfl)); intro gb290 hg w4 hbox hb; have n0_ := Aside0.mk (blk_below (g := gb288) (o := .cells #[.int .i64 a0_0, .int .i64 a0_1, .int .i64 a0_2] 57 (0, 0)) (by (with_reducible repeat (first | refine blk_drewN ?_ _ | refine blk_drew ?_ | refine blk_alloc ?_ _)); exact BK288.out) hb); have n1_ := Aside0.mk (blk_below (g := gb289) (o := .cells #[.int .i64 0, .int .i64 0, .int .i64 0] 52 (0, 0)) (by (with_reducible repeat (first | refine blk_drewN ?_ _ | refine blk_drew ?_ | refine blk_alloc ?_ _)); exact BK289.out) hb); have n2_ := Aside0.mk (below_step (by repeat (first | (with_reducible first | exact HB.out | apply below_alloc | apply pw_below_drewN | apply below_drew1 | refine below_set ?_ GE288.out | refine below_set ?_ GE289.out) | exact HB.out)) hb); have n3_ := Aside0.mk (hbox); have n4_ := Aside0.mk ((by rw [hg]; exact (below_size (by repeat (first | (with_reducible first | exact HB.out | apply below_alloc | apply pw_below_drewN | apply below_drew1 | refine below_set ?_ GE288.out | refine below_set ?_ GE289.out) | exact HB.out))) : w.heap.size ≤ gb290)); have n5_ := Aside0.mk ((by rw [hg]; exact (below_size (by repeat (first | (with_reducible first | exact HB.out | apply below_alloc | apply pw_below_drewN | apply below_drew1 | refine below_set ?_ GE288.out | refine below_set ?_ GE289.out) | exact HB.out))) : w.heap.size ≤ gb290)); have n6_ := Aside0.mk ((by rw [hg]; exact Nat.ne_of_lt (blk_lt (g := gb288) (o := .cells #[.int .i64 a0_0, .int .i64 a0_1, .int .i64 a0_2] 57 (0, 0)) (by (with_reducible repeat (first | refine blk_drewN ?_ _ | refine blk_drew ?_ | refine blk_alloc ?_ _)); exact BK288.out)) : gb288 ≠ gb290)); have n7_ := Aside0.mk ((by rw [hg]; exact Nat.ne_of_gt (blk_lt (g := gb288) (o := .cells #[.int .i64 a0_0, .int .i64 a0_1, .int .i64 a0_2] 57 (0, 0)) (by (with_reducible repeat (first | refine blk_drewN ?_ _ | refine blk_drew ?_ | refine blk_alloc ?_ _)); exact BK288.out)) : gb290 ≠ gb288)); have n8_ := Aside0.mk ((by rw [hg]; exact Nat.ne_of_lt (blk_lt (g := gb289) (o := .cells #[.int .i64 0, .int .i64 0, .int .i64 0] 52 (0, 0)) (by (with_reducible repeat (first | refine blk_drewN ?_ _ | refine blk_drew ?_ | refine blk_alloc ?_ _)); exact BK289.out)) : gb289 ≠ gb290)); have n9_ := Aside0.mk ((by rw [hg]; exact Nat.ne_of_gt (blk_lt (g := gb289) (o := .cells #[.int .i64 0, .int .i64 0, .int .i64 0] 52 (0, 0)) (by (with_reducible repeat (first | refine blk_drewN ?_ _ | refine blk_drew ?_ | refine blk_alloc ?_ _)); exact BK289.out)) : gb290 ≠ gb289)); clear BK288; clear BK289; clear HB; have BK288 := n0_; have BK289 := n1_; have HB := n2_; have BK290 := n3_; have GW290 := n4_; have GE290 := n5_; have NB288_290 := n6_; have NB290_288 := n7_; have NB289_290 := n8_; have NB290_289 := n9_; clear n0_ n1_ n2_ n3_ n4_ n5_ n6_ n7_ n8_ n9_; clear hb hbox hg; have hnb5 := NB288_289.out; have hnc5 := NB289_288.out; have hnb6 := NB288_290.out; have hnc6 := NB290_288.out; have hcz7_0 : w4.cell? ⟨gb288, 0, none⟩ = some (.int .i64 a0_0) := (blk_cell BK288.out 0).trans rfl; have hcz7_1 : w4.cell? ⟨gb288, 1, none⟩ = some (.int .i64 a0_1) := (blk_cell BK288.out 1).trans rfl; have hcz7_2 : w4.cell? ⟨gb288, 2, none⟩ = some (.int .i64 a0_2) := (blk_cell BK288.out 2).trans rfl; have hfz7_0 := blk_frozen BK288.out 0; have hfz7_1 := blk_frozen BK288.out 1; have hfz7_2 := blk_frozen BK288.out 2; have hnb8 := NB290_289.out; have hnc8 := NB289_290.out; have hcz9_0 : w4.cell? ⟨gb290, 0, none⟩ = some (.int .i64 0) := (blk_cell BK290.out 0).trans rfl; have hcz9_1 : w4.cell? ⟨gb290, 1, none⟩ = some (.int .i64 0) := (blk_cell BK290.out 1).trans rfl; have hcz9_2 : w4.cell? ⟨gb290, 2, none⟩ = some (.int .i64 0) := (blk_cell BK290.out 2).trans rfl; have hfz9_0 := blk_frozen BK290.out 0; have hfz9_1 := blk_frozen BK290.out 1; have hfz9_2 := blk_frozen BK290.out 2; have hcz10_0 : w4.cell? ⟨gb289, 0, none⟩ = some (.int .i64 0) := (blk_cell BK289.out 0).trans rfl; have hcz10_1 : w4.cell? ⟨gb289, 1, none⟩ = some (.int .i64 0) := (blk_cell BK289.out 1).trans rfl; have hcz10_2 : w4.cell? ⟨gb289, 2, none⟩ = some (.int .i64 0) := (blk_cell BK289.out 2).trans rfl; have hfz10_0 := blk_frozen BK289.out 0; have hfz10_1 := blk_frozen BK289.out 1; have hfz10_2 := blk_frozen BK289.out 2))
  refine bodyPost_ret (results_cell_row rfl _ _ gb289 52 #[.int .i64 a0_0, .int .i64 a0_1, .int .i64 a0_2] (0, 0) _ rfl (by (with_reducible repeat (first | refine blk_drewN ?_ _ | refine blk_drew ?_ | refine blk_alloc ?_ _)); refine blk_put (cs := #[.int .i64 a0_0, .int .i64 a0_1, .int .i64 0]) ?_ 2 _ rfl; (with_reducible repeat (first | refine blk_drewN ?_ _ | refine blk_drew ?_ | refine blk_alloc ?_ _)); refine blk_put (cs := #[.int .i64 a0_0, .int .i64 0, .int .i64 0]) ?_ 1 _ rfl; (with_reducible repeat (first | refine blk_drewN ?_ _ | refine blk_drew ?_ | refine blk_alloc ?_ _)); refine blk_put (cs := #[.int .i64 0, .int .i64 0, .int .i64 0]) ?_ 0 _ rfl; (with_reducible repeat (first | refine blk_drewN ?_ _ | refine blk_drew ?_ | refine blk_alloc ?_ _)); refine blk_far ?_ NB289_290.out _; (with_reducible repeat (first | refine blk_drewN ?_ _ | refine blk_drew ?_ | refine blk_alloc ?_ _)); refine blk_far ?_ NB289_290.out _; (with_reducible repeat (first | refine blk_drewN ?_ _ | refine blk_drew ?_ | refine blk_alloc ?_ _)); refine blk_far ?_ NB289_290.out _; (with_reducible repeat (first | refine blk_drewN ?_ _ | refine blk_drew ?_ | refine blk_alloc ?_ _)); exact BK289.out) Try.underlying52 rfl (by kernel_rfl)) rfl ?_
  exact ⟨by first | rfl | (simp [errW_none, errW_some] <;> rfl) | (simp [*, errW_none, errW_some] <;> rfl), by repeat (first | (with_reducible first | exact HB.out | apply below_alloc | apply pw_below_drewN | apply below_drew1 | refine below_set ?_ GE288.out | refine below_set ?_ GE289.out | refine below_set ?_ GE290.out) | exact HB.out)⟩

end Go.Proofs.Ytocnifoohecmeaa.PFnExactDeskDo
