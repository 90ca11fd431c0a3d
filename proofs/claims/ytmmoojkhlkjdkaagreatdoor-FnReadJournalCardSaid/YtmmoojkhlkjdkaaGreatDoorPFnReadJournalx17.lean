-- Printed by this claim's own program; Lean checks it.
import Derived.Test.YtmmoojkhlkjdkaaGreatDoorPFnReadJournalx0
import Derived.Test.YtmmoojkhlkjdkaaGreatDoorPFnReadJournalx1
import Derived.Test.YtmmoojkhlkjdkaaGreatDoorPFnReadJournalx12
import Derived.Test.YtmmoojkhlkjdkaaGreatDoorPFnReadJournalx13
import Derived.Test.YtmmoojkhlkjdkaaGreatDoorPFnReadJournalx16
namespace Go.Proofs.YtmmoojkhlkjdkaaGreatDoor.PFnReadJournal
open Go.RowKit Go.Proofs.YtmmoojkhlkjdkaaGreatDoorW.PrintWords Go.Proofs.YtmmoojkhlkjdkaaGreatDoorW.PrintLast Go.Proofs.YtmmoojkhlkjdkaaGreatDoorW.PrintMore
attribute [local go_sem] max2_int min2_int max_two min_two max_three min_three max_four min_four   -- for this text's walks alone
set_option linter.unusedVariables false
set_option linter.unusedSimpArgs false

attribute [local go_sem high] eqA39
/-! ### spec_DeskDo: function 58 -/
theorem sd_done {w W W5 : World} {g go : Nat} {Pz : Nat → Prop} {v0 v1 : Value} {l : List S84} {ll : List (List S84)} {p : Prop} (hB5 : Below w.heap.size w W5) (hK : Kept W W5 (fun k => k = g ∨ k = go)) (h0 : Kd.V k84 84 W 0 (fun k => (Pz k ∧ some k ≠ v1.ownBlock) ∧ k ≠ g ∧ k ≠ go) v0 l) (h1 : Kd.V (Kd.slice 84 k84) 28 W 0 (fun k => w.heap.size ≤ k ∧ k ≠ g ∧ k ≠ go) v1 ll) (h2 : p → Kd.S (Kd.slice 84 k84) 28 W w.heap.size (fun k => w.heap.size ≤ k ∧ k ≠ g ∧ k ≠ go) v1 ll) :
 Kd.V k84 84 W5 0 (fun k => Pz k ∧ some k ≠ v1.ownBlock) v0 l ∧ Kd.V (Kd.slice 84 k84) 28 W5 0 (fun k => w.heap.size ≤ k) v1 ll ∧ (p → Kd.S (Kd.slice 84 k84) 28 W5 w.heap.size (fun k => w.heap.size ≤ k) v1 ll) ∧ Below w.heap.size w W5 :=
 ⟨Kd.V_mono (Kd.V_map h0 (fun _ hf => Kd.F_step hf (fun k hk hlt => hK.2 k hlt (fun h => h.elim hk.2.1 hk.2.2)))) (fun _ hk => hk.1),
  Kd.V_mono (Kd.V_map h1 (fun _ hf => Kd.F_step hf (fun k hk hlt => hK.2 k hlt (fun h => h.elim hk.2.1 hk.2.2)))) (fun _ hk => hk.1),
  fun hp => Kd.S_mono (Kd.S_step (h2 hp) (fun k hk hlt => hK.2 k hlt (fun h => h.elim hk.2.1 hk.2.2))) (fun _ hk => hk.1), hB5⟩
theorem V_low {α : Type} {d : Kd α} {e base base' : Nat} {ok : Nat → Prop} {w W : World} {v : Value} {xs : List α} (h : Kd.V d e w base ok v xs) (hb : Below w.heap.size w W) : Kd.V d e W base' (fun k => ok k ∧ k < w.heap.size) v xs :=
  Kd.V_below (Kd.V_map h (fun _ hf => Kd.F_bound hf)) hb
def spec_DeskDo.after (s0 : List S84) (s1 : List (List S84)) (x : List S84) (o : Bool) : Option (List S84 × List (List S84) × Bool) :=
  if o = false then some (s0, s1, false) else if s1.length < 1000000 then some (x, (if s1.length + 1 > 8 then (s1 ++ [s0]).drop 1 else s1 ++ [s0]), true) else none
def spec_DeskDo.f (k : Nat) (d0 : List S84) (d1 : List (List S84)) (ak aa ab : Int) : Option (List S84 × List (List S84) × Bool) :=
  (spec_DeskOk.f k d0 d1).bind fun okd => if okd = false then some ([], [], false) else (spec_l12Copy.f k d0 d1).bind fun S =>
    if S.2.length = d1.length then
      (if (ak = 4 ∧ aa = 0 ∧ ab = 0) ∧ 0 < d1.length then some (S.2.getD (S.2.length - 1) [], S.2.take (S.2.length - 1), true)
      else (spec_l12Made.f k d0 ak aa ab).bind fun N => spec_DeskDo.after S.1 S.2 N.1 N.2)
    else none
set_option maxHeartbeats 8000000 in
set_option maxRecDepth 100000 in
theorem spec_DeskDo.calls (k : Nat) (A0_0 : Option Addr) (c0_0 : Nat) (l0_0 : List (S84)) (A0_1 : Option Addr) (c0_1 : Nat) (l0_1 : List (List (S84))) (a1_0 : Int) (a1_1 : Int) (a1_2 : Int) (r1 : List (S84)) (r2 : List (List (S84))) (r3 : Bool) (w : World) (P0_ : Nat → Prop) (hs0_0 : Kd.V k84 84 w 0 P0_ (.slice A0_0 l0_0.length c0_0) l0_0) (hr0_1 : Kd.C (Kd.slice 84 k84) w A0_1 l0_1.length l0_1) (hc0_1 : l0_1.length ≤ c0_1) (h : spec_DeskDo.f k l0_0 l0_1 a1_0 a1_1 a1_2 = some (r1, r2, r3)) :
 Calls Tryz.prog 58 #[.agg #[.slice A0_0 l0_0.length c0_0, .slice A0_1 l0_1.length c0_1], .agg #[.int .i64 a1_0, .int .i64 a1_1, .int .i64 a1_2]] w fun e w' => ∃ v0_ v1_ : Value, e = .returned (.tuple #[.agg #[v0_, v1_], .bool r3]) ∧ Kd.V k84 84 w' 0 (fun k_ => (P0_ k_ ∨ w.heap.size ≤ k_) ∧ some k_ ≠ v1_.ownBlock) v0_ r1 ∧ Kd.V (Kd.slice 84 k84) 28 w' 0 (fun k_ => w.heap.size ≤ k_) v1_ r2 ∧ (l0_1.length < 8 → Kd.S (Kd.slice 84 k84) 28 w' w.heap.size (fun k_ => w.heap.size ≤ k_) v1_ r2) ∧ Below w.heap.size w w' := by
 have hu31 := Tryz.underlying31
 have hu39 := Tryz.underlying39
 unfold spec_DeskDo.f at h
 obtain ⟨okd, hOK, h1⟩ := Option.bind_eq_some_iff.mp h
 have HOK := Aside0.mk hOK
 have HV0 := Aside0.mk hs0_0
 have HR0 := Aside0.mk (Kd.V_reads' hs0_0).2.2
 have HC0 := Aside0.mk (Kd.V_reads' hs0_0).2.1
 have HR1 := Aside0.mk hr0_1
 have HC1 := Aside0.mk hc0_1
 clear h hOK hs0_0 hr0_1 hc0_1
 go_enter Tryz.func58, Tryz.ntmps58
 go_wp2_with (fail)
 have B0 := Aside0.mk (below_alloc (below_alloc (below_alloc (Below.refl w.heap.size w) (.cells #[.slice A0_0 l0_0.length c0_0, .slice A0_1 l0_1.length c0_1] 31)) (.cells #[.int .i64 a1_0, .int .i64 a1_1, .int .i64 a1_2] 39)) (.cells #[.slice none 0 0, .slice none 0 0] 31))
 have D0 := Aside0.mk (blk_alloc1 (o' := .cells #[.slice none 0 0, .slice none 0 0] 31) (blk_alloc1 (o' := .cells #[.int .i64 a1_0, .int .i64 a1_1, .int .i64 a1_2] 39) (blk_new w (.cells #[.slice A0_0 l0_0.length c0_0, .slice A0_1 l0_1.length c0_1] 31))))
 have A0 := Aside0.mk (blk_alloc1 (o' := .cells #[.slice none 0 0, .slice none 0 0] 31) (blk_new (w.alloc (.cells #[.slice A0_0 l0_0.length c0_0, .slice A0_1 l0_1.length c0_1] 31)) (.cells #[.int .i64 a1_0, .int .i64 a1_1, .int .i64 a1_2] 39)))
 have R0 := Aside0.mk (blk_new ((w.alloc (.cells #[.slice A0_0 l0_0.length c0_0, .slice A0_1 l0_1.length c0_1] 31)).alloc (.cells #[.int .i64 a1_0, .int .i64 a1_1, .int .i64 a1_2] 39)) (.cells #[.slice none 0 0, .slice none 0 0] 31))
 rw [size_alloc1] at A0
 rw [size_alloc1, size_alloc1] at R0
 refine (spec_DeskOk.calls k _ _ l0_0 _ _ l0_1 okd _ (Kd.C_below HR0.out B0.out) HC0.out (Kd.C_below HR1.out B0.out) HC1.out HOK.out).mono ?_
 rintro e w1 ⟨rfl, hb1⟩
 have B1 := Aside0.mk (below_step B0.out hb1)
 have D1 := Aside0.mk ((hb1.block _ (blk_lt D0.out)).trans D0.out)
 have A1 := Aside0.mk ((hb1.block _ (blk_lt A0.out)).trans A0.out)
 have R1 := Aside0.mk ((hb1.block _ (blk_lt R0.out)).trans R0.out)
 clear hb1 B0 D0 A0 R0 HOK
 cases okd with
 | false =>
  rw [if_pos rfl] at h1
  simp only [Option.some.injEq, Prod.mk.injEq] at h1
  obtain ⟨rfl, rfl, rfl⟩ := h1
  have hr0 : w1.cell? ⟨w.heap.size + 1 + 1, 0, none⟩ = some (.slice none 0 0) := (blk_cell R1.out 0).trans rfl
  have hr1 : w1.cell? ⟨w.heap.size + 1 + 1, 1, none⟩ = some (.slice none 0 0) := (blk_cell R1.out 1).trans rfl
  have hf0 := blk_frozen R1.out 0
  have hf1 := blk_frozen R1.out 1
  go_wp2
  refine bodyPost_ret (results_ct rfl _ _ (w.heap.size + 1 + 1) 31 #[.slice none 0 0, .slice none 0 0] (0, 0) _ rfl (res_put R1.out) Tryz.underlying31 rfl Z15) rfl ?_
  exact ⟨_, _, rfl, sd_done (g := w.heap.size + 1 + 1) (go := w.heap.size + 1 + 1) (below_set (below_set B1.out Z32) Z32) (Kept.setCell (Kept.setCell (Kept.refl _ _) (.inl (.inl rfl)) _) (.inl (.inl rfl)) _) (Kd.V_nil k84 84 w1 0 _) (Kd.V_nil (Kd.slice 84 k84) 23 w1 0 _) (fun _ => Kd.S_nil _ _ _ _ _)⟩
 | true =>
  rw [if_neg Z33] at h1
  obtain ⟨⟨s0, s1⟩, hS, h2⟩ := Option.bind_eq_some_iff.mp h1
  have HS := Aside0.mk hS
  clear h1 hS
  dsimp only at h2
  have hd0 : w1.cell? ⟨w.heap.size, 0, none⟩ = some (.slice A0_0 l0_0.length c0_0) := (blk_cell D1.out 0).trans rfl
  have hd1 : w1.cell? ⟨w.heap.size, 1, none⟩ = some (.slice A0_1 l0_1.length c0_1) := (blk_cell D1.out 1).trans rfl
  go_wp2_with (fail)
  refine (spec_l12Copy.calls k _ _ l0_0 _ _ l0_1 s0 s1 _ (Kd.C_below HR0.out B1.out) HC0.out (Kd.C_below HR1.out B1.out) HC1.out HS.out).mono ?_
  rintro e w2 ⟨v0, v1, rfl, hv, hs, hb2⟩
  obtain ⟨As0, cs0, rfl⟩ := Kd.R_slice hv
  obtain ⟨As1, cs1, rfl⟩ := Kd.S_slice hs
  clear hd0 hd1
  have E := Aside0.mk (blk_lt R1.out)
  have WSZ := Aside0.mk hb2.size
  have B2 := Aside0.mk (below_alloc (below_step B1.out hb2) (.cells #[.slice As0 s0.length cs0, .slice As1 s1.length cs1] 31))
  have D2 := Aside0.mk (blk_alloc1 (o' := .cells #[.slice As0 s0.length cs0, .slice As1 s1.length cs1] 31) ((hb2.block _ (blk_lt D1.out)).trans D1.out))
  have A2 := Aside0.mk (blk_alloc1 (o' := .cells #[.slice As0 s0.length cs0, .slice As1 s1.length cs1] 31) ((hb2.block _ (blk_lt A1.out)).trans A1.out))
  have R2 := Aside0.mk (blk_alloc1 (o' := .cells #[.slice As0 s0.length cs0, .slice As1 s1.length cs1] 31) ((hb2.block _ (blk_lt R1.out)).trans R1.out))
  have S2 := Aside0.mk (blk_new w2 (.cells #[.slice As0 s0.length cs0, .slice As1 s1.length cs1] 31))
  have V0 := Aside0.mk (Kd.R_alloc (Kd.R_mono (ok' := fun k => w1.heap.size ≤ k ∧ k < w2.heap.size) (Kd.R_bound hv) (fun k hk => ⟨hk.2.1, hk.2.2.1⟩)) (.cells #[.slice As0 s0.length cs0, .slice As1 s1.length cs1] 31))
  have VS := Aside0.mk (Kd.S_alloc (Kd.S_mono (ok' := fun k => (some k ≠ (Value.slice As0 s0.length cs0).ownBlock) ∧ w1.heap.size ≤ k ∧ k < w2.heap.size) (Kd.S_bound hs) (fun k hk => ⟨hk.1, hk.2.1, hk.2.2.1⟩)) (.cells #[.slice As0 s0.length cs0, .slice As1 s1.length cs1] 31))
  have V1 := Aside0.mk (Kd.S_R VS.out)
  have NE := Aside0.mk (show w.heap.size + 1 + 1 < w2.heap.size from Nat.lt_of_lt_of_le E.out hb2.size)
  have m2 : w.heap.size + 1 < w2.heap.size := Nat.lt_of_lt_of_le (blk_lt A1.out) hb2.size
  have m3 := NE.out
  have m4 : w.heap.size < w2.heap.size := Z32
  clear hv hs hb2 B1 D1 A1 R1
  go_upto_region 4 with (fail)
  clear m2 m3 m4
  have E2 := Aside0.mk (size_alloc1 w2 (.cells #[.slice As0 s0.length cs0, .slice As1 s1.length cs1] 31))
  generalize w2.alloc (.cells #[.slice As0 s0.length cs0, .slice As1 s1.length cs1] 31) = w3 at *
  have H2 := Aside0.mk h2
  clear h2
  go_cut [24] (fun v24 wc => v24 = .bool (decide ((a1_0 = 4 ∧ a1_1 = 0 ∧ a1_2 = 0) ∧ 0 < l0_1.length)) ∧ wc = w3)
  ·have ha0 : w3.cell? ⟨w.heap.size + 1, 0, none⟩ = some (.int .i64 a1_0) := (blk_cell A2.out 0).trans rfl
   have ha1 : w3.cell? ⟨w.heap.size + 1, 1, none⟩ = some (.int .i64 a1_1) := (blk_cell A2.out 1).trans rfl
   have ha2 : w3.cell? ⟨w.heap.size + 1, 2, none⟩ = some (.int .i64 a1_2) := (blk_cell A2.out 2).trans rfl
   have hd1 : w3.cell? ⟨w.heap.size, 1, none⟩ = some (.slice A0_1 l0_1.length c0_1) := (blk_cell D2.out 1).trans rfl
   by_cases hk : a1_0 = 4 ∧ a1_1 = 0 ∧ a1_2 = 0
   ·have e0 : (a1_0 == 4) = true := beq_iff_eq.mpr hk.1
    have e1 : (a1_1 == 0) = true := beq_iff_eq.mpr hk.2.1
    have e2 : (a1_2 == 0) = true := beq_iff_eq.mpr hk.2.2
    have HK_ := Aside0.mk hk
    clear hk
    by_cases hl : 0 < l0_1.length
    ·have hl1 : decide (0 < (l0_1.length : Int)) = true := decide_eq_true Z32
     have HL_ := Aside0.mk hl
     clear hl
     go_wp2_with (fail)
     go_meet
     exact ⟨congrArg Value.bool (by simp [HK_.out, HL_.out] <;> exact hl1), rfl⟩
    ·have hl1 : decide (0 < (l0_1.length : Int)) = false := decide_eq_false Z32
     have HL_ := Aside0.mk hl
     clear hl
     go_wp2_with (fail)
     go_meet
     exact ⟨congrArg Value.bool (by simp [HK_.out, HL_.out] <;> exact hl1), rfl⟩
   ·by_cases h0 : a1_0 = 4
    all_goals by_cases h1 : a1_1 = 0
    all_goals by_cases h2 : a1_2 = 0
    all_goals first | have e0 : (a1_0 == 4) = true := beq_iff_eq.mpr (by assumption) | have e0 : (a1_0 == 4) = false := beq_eq_false_iff_ne.mpr (by assumption)
    all_goals first | have e1 : (a1_1 == 0) = true := beq_iff_eq.mpr (by assumption) | have e1 : (a1_1 == 0) = false := beq_eq_false_iff_ne.mpr (by assumption)
    all_goals first | have e2 : (a1_2 == 0) = true := beq_iff_eq.mpr (by assumption) | have e2 : (a1_2 == 0) = false := beq_eq_false_iff_ne.mpr (by assumption)
    all_goals try (exfalso; omega)
    all_goals have HK_ := Aside0.mk hk
    all_goals clear hk h0 h1 h2
    all_goals go_wp2_with (fail)
    all_goals go_meet
    all_goals exact ⟨congrArg Value.bool (by simp [HK_.out]), rfl⟩
  case rest =>
   obtain ⟨rfl, hw3⟩ := hcut
   have hw3' := hw3.symm
   subst hw3'
   clear hw3
   have hs0 : w3.cell? ⟨w2.heap.size, 0, none⟩ = some (.slice As0 s0.length cs0) := (blk_cell S2.out 0).trans rfl
   have hs1 : w3.cell? ⟨w2.heap.size, 1, none⟩ = some (.slice As1 s1.length cs1) := (blk_cell S2.out 1).trans rfl
   have hne : w.heap.size + 1 + 1 ≠ w2.heap.size := Z35 NE
   have h2 := H2.out
   clear H2
   by_cases hls : s1.length = l0_1.length
   ·rw [if_pos hls] at h2
    have HLS := Aside0.mk hls
    clear hls
    by_cases hback : (a1_0 = 4 ∧ a1_1 = 0 ∧ a1_2 = 0) ∧ 0 < l0_1.length
    ·rw [if_pos hback] at h2
     simp only [Option.some.injEq, Prod.mk.injEq] at h2
     obtain ⟨rfl, rfl, rfl⟩ := h2
     rw [decide_eq_true hback]
     have hpos : 0 < s1.length := by have := HLS.out; have := hback.2; omega
     clear hback
     have hfo0 := blk_frozen S2.out 0
     have hfo1 := blk_frozen S2.out 1
     have hr0 : w3.cell? ⟨w.heap.size + 1 + 1, 0, none⟩ = some (.slice none 0 0) := (blk_cell R2.out 0).trans rfl
     have hr1 : w3.cell? ⟨w.heap.size + 1 + 1, 1, none⟩ = some (.slice none 0 0) := (blk_cell R2.out 1).trans rfl
     have hf0 := blk_frozen R2.out 0
     have hf1 := blk_frozen R2.out 1
     obtain ⟨gp, cp, ep, hgb, hgl, cells, hcells⟩ := Kd.R_form V1.out hpos
     injection ep with ep1 ep2 ep3
     subst ep1 ep3
     have hmax := Kd.C_max (Kd.R_reads' V1.out).2.2
     have hcap := (Kd.R_reads' V1.out).2.1
     have gne := V1.out.1 gp rfl
     have gn1 : gp ≠ w2.heap.size := by have := gne.2.2; omega
     have gn2 : gp ≠ w.heap.size + 1 + 1 := by have := gne.2.1; have := E.out; omega
     obtain ⟨ji, hji⟩ : ∃ j : Int, ((s1.length - 1 : Nat) : Int) = j := ⟨_, rfl⟩
     have pw : IntKind.i64.wrap ((s1.length : Int) - 1) = ji := Z75
     have p0 : 0 ≤ ji := Z32
     have q0 : ji < (s1.length : Int) := Z32
     have q1 : ji ≤ (cs1 : Int) := Z32
     obtain ⟨cs, hcl, hM, hcc⟩ := Kd.R_getA V1.out ([] : List S84) ji p0 q0
     obtain ⟨elm, helm⟩ : ∃ z, s1.getD ji.toNat ([] : List S84) = z := ⟨_, rfl⟩
     rw [helm] at hM
     obtain ⟨Ae, ce, rfl, hle, hF⟩ := Kd.FK_slice_open (Kd.FK_of_M hM)
     have hel : w3.cell? ⟨gp, ji.toNat, none⟩ = some (.slice Ae elm.length ce) := by
      have := hcc 0 _ rfl
      rw [show (Kd.slice 84 k84).sz = 1 from rfl, Nat.mul_one, Nat.add_zero, show (⟨gp, 0, none⟩ : Addr).add ji.toNat = ⟨gp, ji.toNat, none⟩ from by simp [Addr.add]; intro h; omega] at this
      exact this
     have hT : ji.toNat = s1.length - 1 := Z32
     have HTS := Aside0.mk (Kd.S_take (m := ji.toNat) VS.out Z32)
     have HTK := Aside0.mk (Kd.S_R HTS.out)
     have HT := Aside0.mk hT
     have HE := Aside0.mk helm
     have HVE := Aside0.mk (Kd.V_mk (e := 50) (base := 0) hle hF)
     have HTL := Aside0.mk (show (s1.take ji.toNat).length = ji.toNat by rw [List.length_take]; omega)
     have GN := Aside0.mk (And.intro gn1 gn2)
     clear hT helm hM hcc hcl hF hmax hcap hcells hgl hgb gne hji hpos hle
     go_wp2_with (fail)
     go_wp2
     refine bodyPost_ret (results_ct rfl _ _ (w.heap.size + 1 + 1) 31 #[.slice Ae elm.length ce, .slice (some ⟨gp, 0, none⟩) ji.toNat cs1] (0, 0) _ rfl (res_put (blk_kept R2.out (Kept.setCell (Kept.setCell (Kept.refl w3 (fun k => k = w2.heap.size)) (.inl rfl) _) (.inl rfl) _) hne)) Tryz.underlying31 rfl Z15) rfl ?_
     refine ⟨_, _, rfl, ?_⟩
     rw [← HT.out, show s1[ji.toNat]?.getD [] = elm from HE.out]
     exact sd_done (W := w3) (g := w.heap.size + 1 + 1) (go := w2.heap.size) (below_set (below_set (below_set (below_set B2.out (Z35 NE)) (Z35 NE)) Z32) Z32) (Kept.setCell (Kept.setCell (Kept.setCell (Kept.setCell (Kept.refl _ _) (.inl (.inr rfl)) _) (.inl (.inr rfl)) _) (.inl (.inl rfl)) _) (.inl (.inl rfl)) _) (Kd.V_mono HVE.out (fun k hk => ⟨⟨.inr (by have := hk.1.2.1; have := E.out; omega), hk.2⟩, by have := hk.1.2.1; have := E.out; omega, by have := hk.1.2.2; omega⟩)) (Kd.V_mono (Kd.R_V HTK.out) (fun k hk => ⟨Z70 E, Z70 E, Z88⟩)) (fun _ => Kd.S_mono (Kd.S_lower HTS.out (Z35 E)) (fun k hk => ⟨Z70 E, Z70 E, Z88⟩))
    ·rw [if_neg hback] at h2
     rw [decide_eq_false hback]
     clear hback
     have hd0 : w3.cell? ⟨w.heap.size, 0, none⟩ = some (.slice A0_0 l0_0.length c0_0) := (blk_cell D2.out 0).trans rfl
     have ha0 : w3.cell? ⟨w.heap.size + 1, 0, none⟩ = some (.int .i64 a1_0) := (blk_cell A2.out 0).trans rfl
     have ha1 : w3.cell? ⟨w.heap.size + 1, 1, none⟩ = some (.int .i64 a1_1) := (blk_cell A2.out 1).trans rfl
     have ha2 : w3.cell? ⟨w.heap.size + 1, 2, none⟩ = some (.int .i64 a1_2) := (blk_cell A2.out 2).trans rfl
     obtain ⟨⟨x, o⟩, hN, hA⟩ := Option.bind_eq_some_iff.mp h2
     have HN := Aside0.mk hN
     have HA := Aside0.mk hA
     clear h2 hN hA hs0 hs1
     go_wp2_with (fail)
     refine (spec_l12Made.calls k (fun k => P0_ k ∧ k < w.heap.size) _ _ l0_0 a1_0 a1_1 a1_2 x o _ (V_low HV0.out B2.out) HN.out).mono ?_
     rintro e w4 ⟨v0, rfl, hx, hb4⟩
     obtain ⟨An, cn, rfl⟩ := Kd.V_slice hx
     have B4 := Aside0.mk (below_step B2.out hb4)
     have R4 := Aside0.mk ((hb4.block _ (blk_lt R2.out)).trans R2.out)
     have S4 := Aside0.mk ((hb4.block _ (blk_lt S2.out)).trans S2.out)
     have W0 := Aside0.mk (Kd.R_below V0.out hb4)
     have WS := Aside0.mk (Kd.S_below VS.out hb4)
     have W1 := Aside0.mk (Kd.S_R WS.out)
     have VX := Aside0.mk (show Kd.V k84 84 w4 0 (fun k => ((P0_ k ∧ k < w.heap.size) ∨ w3.heap.size ≤ k) ∧ k < w4.heap.size) _ x from Kd.V_map hx (fun _ hf => Kd.F_bound hf))
     have HZ := Aside0.mk hb4.size
     have hA := HA.out
     clear HA hx hb4 hd0 ha0 ha1 ha2
     have hs0 : w4.cell? ⟨w2.heap.size, 0, none⟩ = some (.slice As0 s0.length cs0) := (blk_cell S4.out 0).trans rfl
     have hs1 : w4.cell? ⟨w2.heap.size, 1, none⟩ = some (.slice As1 s1.length cs1) := (blk_cell S4.out 1).trans rfl
     have hfo0 := blk_frozen S4.out 0
     have hfo1 := blk_frozen S4.out 1
     cases o with
     | false =>
      obtain ⟨rfl, rfl, rfl⟩ : s0 = r1 ∧ s1 = r2 ∧ false = r3 := by simpa [spec_DeskDo.after] using hA
      clear hA
      have hr0 : w4.cell? ⟨w.heap.size + 1 + 1, 0, none⟩ = some (.slice none 0 0) := (blk_cell R4.out 0).trans rfl
      have hr1 : w4.cell? ⟨w.heap.size + 1 + 1, 1, none⟩ = some (.slice none 0 0) := (blk_cell R4.out 1).trans rfl
      have hf0 := blk_frozen R4.out 0
      have hf1 := blk_frozen R4.out 1
      go_wp2
      refine bodyPost_ret (results_ct rfl _ _ (w.heap.size + 1 + 1) 31 #[.slice As0 s0.length cs0, .slice As1 s1.length cs1] (0, 0) _ rfl (res_put R4.out) Tryz.underlying31 rfl Z15) rfl ?_
      exact ⟨_, _, rfl, sd_done (W := w4) (g := w.heap.size + 1 + 1) (go := w2.heap.size) (below_set (below_set B4.out Z32) Z32) (Kept.setCell (Kept.setCell (Kept.refl _ _) (.inl (.inl rfl)) _) (.inl (.inl rfl)) _) (Kd.V_mono (Kd.R_V (k84_own W0.out)) (fun k hk => ⟨⟨.inr (by have := (W0.out.1 k hk).1; have := E.out; omega), fun e => (W1.out.1 k e.symm).1 hk.symm⟩, by have := (W0.out.1 k hk).1; have := E.out; omega, by have := (W0.out.1 k hk).2; omega⟩)) (Kd.V_mono (Kd.R_V W1.out) (fun k hk => ⟨Z70 E, Z70 E, Z88⟩)) (fun _ => Kd.S_mono (Kd.S_lower WS.out (Z35 E)) (fun k hk => ⟨Z70 E, Z70 E, Z88⟩))⟩
     | true =>
      unfold spec_DeskDo.after at hA
      rw [if_neg Z33] at hA
      by_cases hbig : s1.length < 1000000
      ·rw [if_pos hbig] at hA
       simp only [Option.some.injEq, Prod.mk.injEq] at hA
       obtain ⟨rfl, hq, rfl⟩ := hA
       obtain ⟨y, hy⟩ : ∃ y, y = s1 ++ [s0] := ⟨_, rfl⟩
       have hyl : y.length = s1.length + 1 := by rw [hy]; simp
       rw [← hy, ← hyl] at hq
       have HQ := Aside0.mk hq
       have HY := Aside0.mk hy
       have HYL := Aside0.mk hyl
       have HBIG := Aside0.mk hbig
       clear hq hy hyl hbig
       have VY := Aside0.mk (Kd.V_mono (ok' := fun k => (((P0_ k ∧ k < w.heap.size) ∨ w3.heap.size ≤ k) ∧ k < w4.heap.size) ∧ some k ≠ (Value.slice As1 s1.length cs1).ownBlock) VX.out (fun k hk => ⟨hk, fun e => by
        have h1 := (W1.out.1 k e.symm).2
        have h2 := E.out
        have h3 := E2.out
        rcases hk.1 with h | h
        ·have := h.2; omega
        ·omega⟩))
       by_cases h8 : y.length > 8
       ·have f8 : decide (8 < (y.length : Int)) = true := decide_eq_true Z32
        have f8' : decide (8 < y.length) = true := decide_eq_true h8
        have HQ8 := Aside0.mk (show r2 = y.drop 1 from by have := HQ.out; rw [if_pos h8] at this; exact this.symm)
        have H8 := Aside0.mk h8
        clear h8 HQ
        go_wp2_with (first
         | ((with_reducible refine gate_builtin (b := .append) (xs := #[.tmp 52, .tmp 55]) rfl ?_); at_builtin; refine Kd.S_append (Kd.slice 84 k84) (w0 := w4) w1.heap.size rfl (.tmp 52) (.tmp 55) 29 28 (.slice none 0 0) 24 rfl Tryz.underlying29 info28 rfl Z28 Z32 (.slice As1 s1.length cs1) s1 s0 [.slice As0 s0.length cs0] (fun k => w1.heap.size ≤ k ∧ k ≠ w2.heap.size) (fun k_ => (Value.slice As0 s0.length cs0).ownBlock = some k_) rfl rfl ?aP ?aK ?aF ?aO (Below.refl _ _) ?aZ ?aL ?_; (case aP => exact Kd.M_row (Kd.R_mono (k84_own W0.out) (fun _ h => h))); (case aK => exact fun k hk => ⟨⟨(W0.out.1 k hk).1, by have := (W0.out.1 k hk).2; omega⟩, fun e => (W1.out.1 k e.symm).1 hk.symm⟩); (case aF => exact fun k hk => ⟨Z71 WSZ HZ E2, Z69 HZ E2⟩); (case aO => exact Kd.S_mono WS.out (fun k hk => ⟨⟨hk.2.1, Z88⟩, fun e => hk.1 e.symm⟩)); (case aZ => exact Z71 WSZ HZ E2); (case aL => exact Z35 HBIG); intro v7 w7 ho hb hg hat; rw [← HY.out] at ho; have HS7 := Aside0.mk ho; have HO7 := Aside0.mk (Kd.S_R ho); have HB7 := Aside0.mk (B4.out.trans (hb.mono (Z35 E))); have HV7 := Aside0.mk (Kd.V_after VY.out hg hat); have R7 := Aside0.mk ((hg.block _ (blk_lt R4.out) (Kd.R_ne W1.out R4.out Z28)).trans R4.out); have S7 := Aside0.mk ((hg.block _ (blk_lt S4.out) (Kd.R_ne W1.out S4.out Z28)).trans S4.out); clear ho hb hg hat hs0 hs1 hfo0 hfo1; obtain ⟨g7, c7, e7, _, _, _⟩ := Kd.R_form HO7.out (Z35 HYL); subst e7; have hfo0 := blk_frozen S7.out 0; have hfo1 := blk_frozen S7.out 1; have hs0 : w7.cell? ⟨w2.heap.size, 0, none⟩ = some (.slice As0 s0.length cs0) := (blk_cell S7.out 0).trans rfl; have hs1 : w7.cell? ⟨w2.heap.size, 1, none⟩ = some (.slice As1 s1.length cs1) := (blk_cell S7.out 1).trans rfl; have hr0 : w7.cell? ⟨w.heap.size + 1 + 1, 0, none⟩ = some (.slice none 0 0) := (blk_cell R7.out 0).trans rfl; have hr1 : w7.cell? ⟨w.heap.size + 1 + 1, 1, none⟩ = some (.slice none 0 0) := (blk_cell R7.out 1).trans rfl; have hf0 := blk_frozen R7.out 0; have hf1 := blk_frozen R7.out 1; have hcap := (Kd.R_reads' HO7.out).2.1; have h9 := H8.out))
        go_wp2
        refine bodyPost_ret (results_ct rfl _ _ (w.heap.size + 1 + 1) 31 #[.slice An x.length cn, (.slice (some ⟨g7, 1, none⟩) (y.length - 1) (c7 - 1))] (0, 0) _ rfl (res_put (blk_kept R7.out (Kept.setCell (Kept.setCell (Kept.setCell (Kept.refl w7 (fun k => k = w2.heap.size)) (.inl rfl) _) (.inl rfl) _) (.inl rfl) _) hne)) Tryz.underlying31 rfl Z15) rfl ?_
        refine ⟨_, _, rfl, ?_⟩
        rw [HQ8.out, show y.length - 1 = (y.drop 1).length from by rw [List.length_drop]]
        exact sd_done (W := w7) (g := w.heap.size + 1 + 1) (go := w2.heap.size) (below_set (below_set (below_set (below_set (below_set HB7.out (Z35 NE)) (Z35 NE)) (Z35 NE)) Z32) Z32) (Kept.setCell (Kept.setCell (Kept.setCell (Kept.setCell (Kept.setCell (Kept.refl _ _) (.inl (.inr rfl)) _) (.inl (.inr rfl)) _) (.inl (.inr rfl)) _) (.inl (.inl rfl)) _) (.inl (.inl rfl)) _) (Kd.V_mono HV7.out (fun k hk => ⟨⟨hk.1.1.elim (fun h => .inl h.1) (fun h => .inr (Z71 E WSZ E2)), hk.2⟩, by have := hk.1.1.imp (fun h => h.2) id; have := E.out; have := WSZ.out; have := E2.out; omega, by have := hk.1.1.imp (fun h => h.2) id; have := NE.out; have := E2.out; omega⟩)) (by have hF := Kd.V_F (Kd.R_V (base' := 0) HO7.out); exact Kd.V_mono (Kd.V_mk (A := some ⟨g7, 1, none⟩) (by rw [List.length_drop]; omega) (Kd.F_imp hF (fun W' hC => by have h7 := Kd.C_drop (m := 1) (c := c7) hC (Z35 HYL) (by have := (Kd.R_reads' HO7.out).2.1; omega); rw [if_neg (by have h1 := H8.out; have h2 := (Kd.R_reads' HO7.out).2.1; omega)] at h7; exact h7))) (fun k hk => ⟨Z83 E, Z83 E, hk.2⟩)) (fun hlt => by exfalso; have h1 := HYL.out; have h2 := HLS.out; have h3 := H8.out; omega)
       ·have f8 : decide (8 < (y.length : Int)) = false := decide_eq_false Z32
        have f8' : decide (8 < y.length) = false := decide_eq_false h8
        have HQ8 := Aside0.mk (show r2 = y from by have := HQ.out; rw [if_neg h8] at this; exact this.symm)
        clear h8 HQ
        go_wp2_with (first
         | ((with_reducible refine gate_builtin (b := .append) (xs := #[.tmp 52, .tmp 55]) rfl ?_); at_builtin; refine Kd.S_append (Kd.slice 84 k84) (w0 := w4) w1.heap.size rfl (.tmp 52) (.tmp 55) 29 28 (.slice none 0 0) 24 rfl Tryz.underlying29 info28 rfl Z28 Z32 (.slice As1 s1.length cs1) s1 s0 [.slice As0 s0.length cs0] (fun k => w1.heap.size ≤ k ∧ k ≠ w2.heap.size) (fun k_ => (Value.slice As0 s0.length cs0).ownBlock = some k_) rfl rfl ?aP ?aK ?aF ?aO (Below.refl _ _) ?aZ ?aL ?_; (case aP => exact Kd.M_row (Kd.R_mono (k84_own W0.out) (fun _ h => h))); (case aK => exact fun k hk => ⟨⟨(W0.out.1 k hk).1, by have := (W0.out.1 k hk).2; omega⟩, fun e => (W1.out.1 k e.symm).1 hk.symm⟩); (case aF => exact fun k hk => ⟨Z71 WSZ HZ E2, Z69 HZ E2⟩); (case aO => exact Kd.S_mono WS.out (fun k hk => ⟨⟨hk.2.1, Z88⟩, fun e => hk.1 e.symm⟩)); (case aZ => exact Z71 WSZ HZ E2); (case aL => exact Z35 HBIG); intro v7 w7 ho hb hg hat; rw [← HY.out] at ho; have HS7 := Aside0.mk ho; have HO7 := Aside0.mk (Kd.S_R ho); have HB7 := Aside0.mk (B4.out.trans (hb.mono (Z35 E))); have HV7 := Aside0.mk (Kd.V_after VY.out hg hat); have R7 := Aside0.mk ((hg.block _ (blk_lt R4.out) (Kd.R_ne W1.out R4.out Z28)).trans R4.out); have S7 := Aside0.mk ((hg.block _ (blk_lt S4.out) (Kd.R_ne W1.out S4.out Z28)).trans S4.out); clear ho hb hg hat hs0 hs1 hfo0 hfo1; obtain ⟨g7, c7, e7, _, _, _⟩ := Kd.R_form HO7.out (Z35 HYL); subst e7; have hfo0 := blk_frozen S7.out 0; have hfo1 := blk_frozen S7.out 1; have hs0 : w7.cell? ⟨w2.heap.size, 0, none⟩ = some (.slice As0 s0.length cs0) := (blk_cell S7.out 0).trans rfl; have hs1 : w7.cell? ⟨w2.heap.size, 1, none⟩ = some (.slice As1 s1.length cs1) := (blk_cell S7.out 1).trans rfl; have hr0 : w7.cell? ⟨w.heap.size + 1 + 1, 0, none⟩ = some (.slice none 0 0) := (blk_cell R7.out 0).trans rfl; have hr1 : w7.cell? ⟨w.heap.size + 1 + 1, 1, none⟩ = some (.slice none 0 0) := (blk_cell R7.out 1).trans rfl; have hf0 := blk_frozen R7.out 0; have hf1 := blk_frozen R7.out 1))
        go_wp2
        refine bodyPost_ret (results_ct rfl _ _ (w.heap.size + 1 + 1) 31 #[.slice An x.length cn, (.slice (some ⟨g7, 0, none⟩) y.length c7)] (0, 0) _ rfl (res_put (blk_kept R7.out (Kept.setCell (Kept.setCell (Kept.refl w7 (fun k => k = w2.heap.size)) (.inl rfl) _) (.inl rfl) _) hne)) Tryz.underlying31 rfl Z15) rfl ?_
        refine ⟨_, _, rfl, ?_⟩
        rw [HQ8.out]
        exact sd_done (W := w7) (g := w.heap.size + 1 + 1) (go := w2.heap.size) (below_set (below_set (below_set (below_set HB7.out (Z35 NE)) (Z35 NE)) Z32) Z32) (Kept.setCell (Kept.setCell (Kept.setCell (Kept.setCell (Kept.refl _ _) (.inl (.inr rfl)) _) (.inl (.inr rfl)) _) (.inl (.inl rfl)) _) (.inl (.inl rfl)) _) (Kd.V_mono HV7.out (fun k hk => ⟨⟨hk.1.1.elim (fun h => .inl h.1) (fun h => .inr (Z71 E WSZ E2)), hk.2⟩, by have := hk.1.1.imp (fun h => h.2) id; have := E.out; have := WSZ.out; have := E2.out; omega, by have := hk.1.1.imp (fun h => h.2) id; have := NE.out; have := E2.out; omega⟩)) (Kd.V_mono (Kd.R_V HO7.out) (fun k hk => ⟨Z83 E, Z83 E, hk.2⟩)) (fun _ => Kd.S_mono (Kd.S_lower HS7.out (Z35 E)) (fun k hk => ⟨Z83 E, Z83 E, hk.2⟩))
      ·rw [if_neg hbig] at hA; cases hA
   ·rw [if_neg hls] at h2; cases h2

/-! ### spec_DeskNew: function 92 -/
def spec_DeskNew.f (k : Nat) (l0 : List (S84)) : Option ((List (S84)) × (List (List (S84))) × Bool) := (spec_CustomersOk.f k l0).bind fun t434 => (if t434 = true then ((some (([] : List (S84)) : List (S84))).bind fun y435 => (if y435.length + l0.length < 8796093022208 then (some ((y435 ++ l0), ([] : List (List (S84))), true)) else (none))) else (some (([] : List (S84)), ([] : List (List (S84))), false)))
set_option maxHeartbeats 8000000 in
set_option maxRecDepth 100000 in
theorem spec_DeskNew.calls (k : Nat) (A0 : Option Addr) (c0 : Nat) (l0 : List (S84)) (r1 : List (S84)) (r2 : List (List (S84))) (r3 : Bool) (w : World) (hr0 : Kd.C k84 w A0 l0.length l0) (hc0 : l0.length ≤ c0) (h : spec_DeskNew.f k l0 = some (r1, r2, r3)) :
 Calls Tryz.prog 92 #[.slice A0 l0.length c0] w fun e w' => ∃ v0_ v1_ : Value, e = .returned (.tuple #[.agg #[v0_, v1_], .bool r3]) ∧ Kd.R k84 84 w' w.heap.size (fun _ => True) v0_ r1 ∧ Kd.S (Kd.slice 84 k84) 28 w' w.heap.size (fun k_ => some k_ ≠ (v0_ : Value).ownBlock) v1_ r2 ∧ Below w.heap.size w w' := by
 have hu31 := Tryz.underlying31
 have HR0 := Aside0.mk hr0
 have HC0 := Aside0.mk hc0
 clear hr0 hc0
 have HB := Aside0.mk (Below.refl w.heap.size w)
 have H : ((spec_CustomersOk.f k l0).bind fun t434 => (if t434 = true then ((some (([] : List (S84)) : List (S84))).bind fun y435 => (if y435.length + l0.length < 8796093022208 then (some ((y435 ++ l0), ([] : List (List (S84))), true)) else (none))) else (some (([] : List (S84)), ([] : List (List (S84))), false)))) = some (r1, r2, r3) := h
 clear h
 replace H := Option.bind_eq_some_iff.mp H
 obtain ⟨t434, A20, H⟩ := H
 replace H : (if t434 = true then ((some (([] : List (S84)) : List (S84))).bind fun y435 => (if y435.length + l0.length < 8796093022208 then (some ((y435 ++ l0), ([] : List (List (S84))), true)) else (none))) else (some (([] : List (S84)), ([] : List (List (S84))), false))) = some (r1, r2, r3) := H
 have A2 := Aside0.mk A20
 clear A20
 by_cases c3 : t434 = true
 ·subst c3
  have H1 : ((some (([] : List (S84)) : List (S84))).bind fun y435 => (if y435.length + l0.length < 8796093022208 then (some ((y435 ++ l0), ([] : List (List (S84))), true)) else (none))) = some (r1, r2, r3) := Z37
  clear H
  have H := H1
  clear H1
  obtain ⟨y435, hy435⟩ : ∃ y_ : List (S84), y_ = (([] : List (S84))) := ⟨_, rfl⟩
  replace H : (if y435.length + l0.length < 8796093022208 then (some ((y435 ++ l0), ([] : List (List (S84))), true)) else (none)) = some (r1, r2, r3) := Z5 hy435
  have Ny435 := Aside0.mk hy435
  clear hy435
  by_cases c4 : y435.length + l0.length < 8796093022208
  ·rw [if_pos c4] at H
   have LMc4 := Aside0.mk c4
   clear c4
   obtain ⟨y438, hy438⟩ : ∃ y_ : List (S84), y_ = (y435 ++ l0) := ⟨_, rfl⟩
   replace H : (some (y438, ([] : List (List (S84))), true)) = some (r1, r2, r3) := Z5 hy438
   have Ny438 := Aside0.mk hy438
   clear hy438
   simp only [Option.some.injEq, Prod.mk.injEq] at H
   obtain ⟨rfl, rfl, rfl⟩ := H
   go_enter Tryz.func92, Tryz.ntmps92
   go_wp2_with (first | ((with_reducible refine gate_dst (N := 2) rfl ?_); refine bE_ 2 #[.slice none 0 0, .slice none 0 0] 31 ?_; intro gb433 hg w5 hbox hb; have BK433 := Aside0.mk (hbox); have GW433 := Aside0.mk ((by rw [hg]; exact (below_size (Z0 HB)) : w.heap.size ≤ gb433)); have GE433 := Aside0.mk ((by rw [hg]; exact (below_size (Z0 HB)) : w.heap.size ≤ gb433)); replace HB := Aside0.mk (below_step (Z0 HB) hb); clear hb hbox hg) | ((with_reducible refine gate_callee (f := 49) rfl ?_); refine gL_ 5 Tryz.func49 #[.slice A0 l0.length c0] ?_; (with_reducible refine (spec_CustomersOk.calls k _ _ l0 true _ ?side1 ?side2 A2.out).mono ?_); (case side1 => exact Z9 HR0 HB); (case side2 => exact HC0.out); rintro e w6 ⟨rfl, hb⟩; refine ⟨_, rfl, ?_⟩; replace BK433 := Aside0.mk (blk_below (g := gb433) (o := .cells #[.slice none 0 0, .slice none 0 0] 31 (0, 0)) (Z2 BK433) hb); replace HB := Aside0.mk (below_step (Z1 HB GE433) hb); (try clear hb)) | ((with_reducible refine gate_dst (N := 8) rfl ?_); refine Kd.R_lit k84 _ 84 ?hg (N := 8) ?hd (xs := ([] : List (S84))) (inner := []) (ok := fun _ => True) (okp := fun _ => True) ?hr ?hp (fun _ hk => hk) trivial (Below.refl _ _) (Nat.le_refl _) Z33 ?_; (case hd => exact Z90); (case hg => exact Z90); (case hr => exact Z29); (case hp => exact Z67); intro v436 w7 ho8 hb hg_ hnew_; clear hg_ hnew_; (first | rw [← Ny435.out] at ho8 | (simp only [Int.reduceToNat] at ho8; rw [← Ny435.out] at ho8)); have HO437 := Aside0.mk (Kd.R_lower ho8 (below_size (Z1 HB GE433))); replace BK433 := Aside0.mk (blk_below (g := gb433) (o := .cells #[.slice none 0 0, .slice none 0 0] 31 (0, 0)) (Z2 BK433) hb); replace HB := Aside0.mk (below_step (Z1 HB GE433) hb); clear hb ho8) | ((with_reducible refine gate_builtin (b := .append) (xs := #[.tmp 8, .tmp 9]) rfl ?_); at_builtin; refine Kd.R_append_rows k84 (w0 := w) w.heap.size rfl (.tmp 8) (.tmp 9) 28 84 (.agg #[(.int .i64 0), (.int .i64 0)]) 16 rfl Tryz.underlying28 info84 rfl Z28 Z32 v436 y435 l0 _ _ _ (fun _ => True) (fun _ => False) rfl rfl ?aO ?aR (fun _ _ h => h) (fun _ h => h.elim) ?aF ?aB ?aS ?aL ?_; (case aR => exact Z9 HR0 HB); (case aB => exact (Z1 HB GE433)); (case aF => exact Z77); (case aO => exact (Z4 HO437)); (case aS => exact (below_size (Z1 HB GE433))); (case aL => exact Z35 LMc4); intro v439 w9 ho hb hg hat; rw [← Ny438.out] at ho; replace BK433 := Aside0.mk (blk_grown (g := gb433) (o := .cells #[.slice none 0 0, .slice none 0 0] 31 (0, 0)) (Z2 BK433) hg (Kd.R_ne HO437.out BK433.out Z28)); replace HB := Aside0.mk (hb); have HO440 := Aside0.mk (ho); clear HO437; clear ho hb hg hat; obtain ⟨Ao10, co10, eo10⟩ := Kd.R_slice HO440.out; subst eo10; have hcz11_0 : w9.cell? ⟨gb433, 0, none⟩ = some (.slice none 0 0) := (blk_cell BK433.out 0).trans rfl; have hcz11_1 : w9.cell? ⟨gb433, 1, none⟩ = some (.slice none 0 0) := (blk_cell BK433.out 1).trans rfl; have hfz11_0 := blk_frozen BK433.out 0; have hfz11_1 := blk_frozen BK433.out 1))
   refine bodyPost_ret (results_ct rfl _ _ gb433 31 #[.slice Ao10 y438.length co10, .slice none 0 0] (0, 0) _ rfl (by refine blk_put (cs := #[.slice Ao10 y438.length co10, .slice none 0 0]) ?_ 1 _ rfl; refine blk_put (cs := #[.slice none 0 0, .slice none 0 0]) ?_ 0 _ rfl; (with_reducible repeat (first | refine blk_drewN ?_ _ | refine blk_drew ?_ | refine blk_alloc ?_ _)); exact BK433.out) Tryz.underlying31 rfl Z15) rfl ?_
   exact ⟨_, _, Z11, by (with_reducible repeat (first | apply Kd.R_alloc | apply Kd.R_drewN | apply Kd.R_drew)); exact Kd.R_mono (Kd.R_far (p := ⟨gb433, 1, none⟩) (Kd.R_far (p := ⟨gb433, 0, none⟩) (Kd.R_types HO440.out BK433.out Z28) (fun _ hk => hk.2) (.slice Ao10 y438.length co10)) (fun _ hk => hk.2) (.slice none 0 0)) (fun _ hk => trivial), Z61, Z1 HB GE433⟩
  ·rw [if_neg c4] at H
   exact absurd H Z33
 ·replace c3 := Bool.eq_false_iff.mpr c3
  subst c3
  have H1 : (some (([] : List (S84)), ([] : List (List (S84))), false)) = some (r1, r2, r3) := Z24
  clear H
  have H := H1
  clear H1
  simp only [Option.some.injEq, Prod.mk.injEq] at H
  obtain ⟨rfl, rfl, rfl⟩ := H
  go_enter Tryz.func92, Tryz.ntmps92
  go_wp2_with (first | ((with_reducible refine gate_dst (N := 2) rfl ?_); refine bE_ 2 #[.slice none 0 0, .slice none 0 0] 31 ?_; intro gb433 hg w12 hbox hb; have BK433 := Aside0.mk (hbox); have GW433 := Aside0.mk ((by rw [hg]; exact (below_size (Z0 HB)) : w.heap.size ≤ gb433)); have GE433 := Aside0.mk ((by rw [hg]; exact (below_size (Z0 HB)) : w.heap.size ≤ gb433)); replace HB := Aside0.mk (below_step (Z0 HB) hb); clear hb hbox hg) | ((with_reducible refine gate_callee (f := 49) rfl ?_); refine gL_ 5 Tryz.func49 #[.slice A0 l0.length c0] ?_; (with_reducible refine (spec_CustomersOk.calls k _ _ l0 false _ ?side1 ?side2 A2.out).mono ?_); (case side1 => exact Z9 HR0 HB); (case side2 => exact HC0.out); rintro e w13 ⟨rfl, hb⟩; refine ⟨_, rfl, ?_⟩; replace BK433 := Aside0.mk (blk_below (g := gb433) (o := .cells #[.slice none 0 0, .slice none 0 0] 31 (0, 0)) (Z2 BK433) hb); replace HB := Aside0.mk (below_step (Z1 HB GE433) hb); (try clear hb); (try clear hb2); (try clear hk); (try clear hi); have hcz14_0 : w13.cell? ⟨gb433, 0, none⟩ = some (.slice none 0 0) := (blk_cell BK433.out 0).trans rfl; have hcz14_1 : w13.cell? ⟨gb433, 1, none⟩ = some (.slice none 0 0) := (blk_cell BK433.out 1).trans rfl; have hfz14_0 := blk_frozen BK433.out 0; have hfz14_1 := blk_frozen BK433.out 1))
  refine bodyPost_ret (results_ct rfl _ _ gb433 31 #[.slice none 0 0, .slice none 0 0] (0, 0) _ rfl (by refine blk_put (cs := #[.slice none 0 0, .slice none 0 0]) ?_ 1 _ rfl; refine blk_put (cs := #[.slice none 0 0, .slice none 0 0]) ?_ 0 _ rfl; (with_reducible repeat (first | refine blk_drewN ?_ _ | refine blk_drew ?_ | refine blk_alloc ?_ _)); exact BK433.out) Tryz.underlying31 rfl Z15) rfl ?_
  exact ⟨_, _, Z11, Z43, Z61, Z1 HB GE433⟩

end Go.Proofs.YtmmoojkhlkjdkaaGreatDoor.PFnReadJournal
