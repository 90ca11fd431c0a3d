/- How an argument that can be read as data is told by the kinds of the printed texts: slices of structs, structs of slices, slices of slices. No condition. -/
import Derived.Test.YtanmcbjlooknoaaWWords
import Derived.Deep.Slices
import Derived.Deep.Fields
import Derived.ChangeSame
import Derived.ChangeArms
import Derived.WideShapes
namespace Go.Proofs.Ytanmcbjlooknoaa.Opens
open Go.ChangeShapes Go.WideShapes Go.Deep Go.Proofs.YtanmcbjlooknoaaW.PrintWords
/-- Whatever reads as data of type t is a value of the kind d, of which P holds. -/
def Opens {α : Type} (P : Program) (d : Kd α) (t : TypeId) (wf : α → Prop) : Prop :=
  ∀ {H : Type} (enc : TypeId × Value → H) (w : World) (base : Nat) (spare : Nat → Bool) (held : Bool) (fuel : Nat) (cs : List Value) (x : DataW H × List MemPlace), DataW.trod enc P w base spare held fuel t cs = some x → ∃ a : α, d.K w a cs ∧ wf a
theorem opens_int {P : Program} {k : IntKind} {t : TypeId} (ht : P.underlying t = some (.int k)) : Opens P (Kd.int k) t (fun n => (Lit.int k n).wf = true) := by
  intro H enc w base spare held fuel cs x h
  obtain ⟨n, rfl, -, hw⟩ := DataW.trod_int ht h
  exact ⟨n, rfl, hw⟩
theorem opens_bool {P : Program} {t : TypeId} (ht : P.underlying t = some .bool) : Opens P Kd.bool t (fun _ => True) := by
  intro H enc w base spare held fuel cs x h
  obtain ⟨b, rfl, -⟩ := DataW.trod_bool ht h
  exact ⟨b, rfl, trivial⟩
theorem opens_string {P : Program} {t : TypeId} (ht : P.underlying t = some .string) : Opens P Kd.string t (fun s => s.size ≤ maxLen) := by
  intro H enc w base spare held fuel cs x h
  obtain ⟨s, rfl, -, hs⟩ := DataW.trod_string ht h
  exact ⟨s, rfl, hs⟩
theorem opens_iso {α β : Type} {P : Program} {d : Kd α} {t : TypeId} {wf : α → Prop} (f : β → α) (g : α → β) (hfg : ∀ a, f (g a) = a) (h : Opens P d t wf) : Opens P (Kd.iso d f) t (fun b => wf (f b)) := by
  intro H enc w base spare held fuel cs x hx
  obtain ⟨a, ha, hw⟩ := h enc w base spare held fuel cs x hx
  refine ⟨g a, ?_, ?_⟩
  · show d.K w (f (g a)) cs
    rw [hfg]; exact ha
  · show wf (f (g a))
    rw [hfg]; exact hw
theorem cells_len {w : World} {base n : Nat} {a : Addr} {cs : List Value} (h : w.cells? base a n = some cs) : cs.length = n ∧ ∀ j, j < n → w.cell? (a.add j) = cs[j]? := by
  obtain ⟨_, h1, h2⟩ := World.cells?_some h
  exact ⟨h1, h2⟩
/-- A slice, its elements being told. -/
theorem opens_slice {α : Type} {P : Program} {d : Kd α} {t e : TypeId} {wf : α → Prop} (z : α) (ht : P.underlying t = some (.slice e)) (hC : P.cellsOf e = d.sz) (h : Opens P d e wf) : Opens P (Kd.slice e d) t (fun l => l.length ≤ maxLen ∧ ∀ a ∈ l, wf a) := by
  intro H enc w base spare held fuel cs x hx
  rcases open_slice ht hx with ⟨rfl, -⟩ | ⟨a, len, cap, m, n, D, Pl, rfl, hb, hl, hm, hmm, -, hi⟩
  · exact ⟨[], ⟨none, 0, rfl, Nat.le_refl _, rfl, by simp, fun h => absurd h (Nat.lt_irrefl 0)⟩, by simp, fun a ha => by cases ha⟩
  · have hlm : len ≤ m := by rw [hmm]; split <;> omega
    haveI : Inhabited α := ⟨z⟩
    obtain ⟨f, hf⟩ := choose_lt (n := len) (p := fun i (y : α) => ∃ cs', w.cells? base (a.add (i * P.cellsOf e)) (P.cellsOf e) = some cs' ∧ d.K w y cs' ∧ wf y) (fun i hlt => by
      obtain ⟨cs', h1, h2⟩ := hi i (by omega)
      obtain ⟨y, hy, hw⟩ := h enc w base spare held n cs' _ h2
      exact ⟨y, cs', h1, hy, hw⟩)
    have hlen : ((List.range len).map f).length = len := by simp
    refine ⟨(List.range len).map f, ⟨some a, cap, by rw [hlen], by rw [hlen]; exact hl, rfl, by rw [hlen]; unfold maxLen at hm; omega, fun _ => ⟨a, rfl, fun j p hp => ?_⟩⟩, by rw [hlen]; omega, fun y hy => ?_⟩
    · obtain ⟨hj, e1⟩ := List.getElem?_eq_some_iff.1 hp
      rw [hlen] at hj
      rw [List.getElem_map, List.getElem_range] at e1
      subst e1
      obtain ⟨cs', h1, h2, -⟩ := hf j hj
      obtain ⟨hl2, hc⟩ := cells_len h1
      refine ⟨cs', by rw [hl2, hC], h2, fun i u hu => ?_⟩
      have hiu := (List.getElem?_eq_some_iff.1 hu).1
      have := hc i (by omega)
      rw [Go.Deep.add_add, hC] at this
      rw [this]; exact hu
    · obtain ⟨i, hi2, rfl⟩ := List.mem_map.1 hy
      obtain ⟨_, _, _, h3⟩ := hf i (List.mem_range.1 hi2)
      exact h3
/-- Structs of two and of three fields. -/
theorem opens_pair {α β : Type} {P : Program} {d0 : Kd α} {d1 : Kd β} {t : TypeId} {f0 f1 : Field} {w0 : α → Prop} {w1 : β → Prop} (ht : P.underlying t = some (.struct #[f0, f1])) (o0 : f0.offset = 0) (o1 : f1.offset = d0.sz) (c0 : P.cellsOf f0.type = d0.sz) (c1 : P.cellsOf f1.type = d1.sz) (hC : P.cellsOf t = d0.sz + d1.sz) (h0 : Opens P d0 f0.type w0) (h1 : Opens P d1 f1.type w1) : Opens P (Kd.pair d0 d1) t (fun p => w0 p.1 ∧ w1 p.2) := by
  intro H enc w base spare held fuel cs x hx
  obtain ⟨xs, n, -, -, hl, hxl, hf⟩ := DataW.trod_struct ht hx
  have e0 := hf 0 f0 rfl
  have e1 := hf 1 f1 rfl
  have l0 : 0 < xs.length := by rw [hxl]; exact Nat.zero_lt_succ _
  have l1 : 1 < xs.length := by rw [hxl]; exact Nat.succ_lt_succ (Nat.zero_lt_succ _)
  rw [List.getElem?_eq_getElem l0] at e0
  rw [List.getElem?_eq_getElem l1] at e1
  obtain ⟨a, ha, hwa⟩ := h0 enc w base spare held n _ _ e0
  obtain ⟨b, hb, hwb⟩ := h1 enc w base spare held n _ _ e1
  refine ⟨(a, b), ⟨_, _, ?_, ha, hb⟩, hwa, hwb⟩
  rw [o0, o1, c0, c1, List.drop_zero, List.take_of_length_le (l := cs.drop d0.sz) (by rw [List.length_drop]; omega), List.take_append_drop]
theorem opens_triple {α β γ : Type} {P : Program} {d0 : Kd α} {d1 : Kd β} {d2 : Kd γ} {t : TypeId} {f0 f1 f2 : Field} {w0 : α → Prop} {w1 : β → Prop} {w2 : γ → Prop} (ht : P.underlying t = some (.struct #[f0, f1, f2])) (o0 : f0.offset = 0) (o1 : f1.offset = d0.sz) (o2 : f2.offset = d0.sz + d1.sz) (c0 : P.cellsOf f0.type = d0.sz) (c1 : P.cellsOf f1.type = d1.sz) (c2 : P.cellsOf f2.type = d2.sz) (hC : P.cellsOf t = d0.sz + (d1.sz + d2.sz)) (h0 : Opens P d0 f0.type w0) (h1 : Opens P d1 f1.type w1) (h2 : Opens P d2 f2.type w2) : Opens P (Kd.pair d0 (Kd.pair d1 d2)) t (fun p => w0 p.1 ∧ w1 p.2.1 ∧ w2 p.2.2) := by
  intro H enc w base spare held fuel cs x hx
  obtain ⟨xs, n, -, -, hl, hxl, hf⟩ := DataW.trod_struct ht hx
  have e0 := hf 0 f0 rfl
  have e1 := hf 1 f1 rfl
  have e2 := hf 2 f2 rfl
  have l0 : 0 < xs.length := by rw [hxl]; exact Nat.zero_lt_succ _
  have l1 : 1 < xs.length := by rw [hxl]; exact Nat.succ_lt_succ (Nat.zero_lt_succ _)
  have l2 : 2 < xs.length := by rw [hxl]; exact Nat.succ_lt_succ (Nat.succ_lt_succ (Nat.zero_lt_succ _))
  rw [List.getElem?_eq_getElem l0] at e0
  rw [List.getElem?_eq_getElem l1] at e1
  rw [List.getElem?_eq_getElem l2] at e2
  obtain ⟨a, ha, hwa⟩ := h0 enc w base spare held n _ _ e0
  obtain ⟨b, hb, hwb⟩ := h1 enc w base spare held n _ _ e1
  obtain ⟨c, hc, hwc⟩ := h2 enc w base spare held n _ _ e2
  refine ⟨(a, b, c), ⟨_, _, ?_, ha, ⟨_, _, rfl, hb, hc⟩⟩, hwa, hwb, hwc⟩
  rw [o0, o1, o2, c0, c1, c2, List.drop_zero]
  rw [List.take_of_length_le (l := cs.drop (d0.sz + d1.sz)) (by rw [List.length_drop]; omega)]
  rw [← List.drop_drop, List.take_append_drop, List.take_append_drop]
/-- A slice that came in as an argument. -/
theorem arg_slice {α : Type} {P : Program} {d : Kd α} {t e : TypeId} {wf : List α → Prop} (h : Opens P (Kd.slice e d) t wf) {H : Type} {enc : TypeId × Value → H} {w : World} {base : Nat} {spare : Nat → Bool} {held : Bool} {a : Option Addr} {len cap : Nat} {x : DataW H} {ps : List MemPlace} (ht : DataW.Trod enc P w base spare held t (.slice a len cap) x ps) :
    ∃ l : List α, len = l.length ∧ l.length ≤ cap ∧ d.C w a l.length l ∧ wf l := by
  obtain ⟨fuel, hf⟩ := ht
  obtain ⟨l, ⟨A, c, hcs, hle, hC⟩, hw⟩ := h enc w base spare held fuel _ _ hf
  simp [Value.cells] at hcs
  obtain ⟨rfl, rfl, rfl⟩ := hcs
  exact ⟨l, rfl, hle, hC, hw⟩
/-- A struct by value: its cells. -/
theorem arg_agg {α : Type} {P : Program} {d : Kd α} {t : TypeId} {wf : α → Prop} (h : Opens P d t wf) {H : Type} {enc : TypeId × Value → H} {w : World} {base : Nat} {spare : Nat → Bool} {held : Bool} {cs : Array Value} {x : DataW H} {ps : List MemPlace} (ht : DataW.Trod enc P w base spare held t (.agg cs) x ps) :
    ∃ a : α, d.K w a cs.toList ∧ wf a := by
  obtain ⟨fuel, hf⟩ := ht
  exact h enc w base spare held fuel _ _ hf
theorem opens_wf {α : Type} {P : Program} {d : Kd α} {t : TypeId} {wf wf' : α → Prop} (h : Opens P d t wf) (hw : ∀ a, wf a → wf' a) : Opens P d t wf' := by
  intro H enc w base spare held fuel cs x hx
  obtain ⟨a, ha, hwa⟩ := h enc w base spare held fuel cs x hx
  exact ⟨a, ha, hw a hwa⟩
end Go.Proofs.Ytanmcbjlooknoaa.Opens
