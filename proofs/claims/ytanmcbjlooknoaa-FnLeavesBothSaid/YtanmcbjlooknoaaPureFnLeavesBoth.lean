/- The pure part of the proof of FnLeavesBoth: the printed functions answer true, for every drawn or given argument within the row's own bounds; no further condition. -/
import Derived.Test.YtanmcbjlooknoaaPFnLeavesBothx4
import Derived.Laws.BitsLemmas
namespace Go.Proofs.Ytanmcbjlooknoaa.Pure
open Go.RowKit Go.Proofs.Ytanmcbjlooknoaa.PFnLeavesBoth Go.Proofs.YtanmcbjlooknoaaW.PrintWords Go.Proofs.YtanmcbjlooknoaaW.PrintLast Go.Proofs.YtanmcbjlooknoaaW.PrintMore
set_option linter.unusedVariables false
set_option linter.unusedSimpArgs false
/-! base -/
theorem w64 {x : Int} (h0 : -9223372036854775808 ≤ x) (h1 : x ≤ 9223372036854775807) : wrap64 x = x := by
  unfold wrap64
  omega
theorem w64s (n : Nat) (h : n ≤ 4611686018427387904) : wrap64 ((n : Int) + 1) = ((n + 1 : Nat) : Int) := by
  unfold wrap64
  omega
theorem drop_split {α : Type} {l : List α} {i : Nat} {x : α} {xs : List α} (h : l.drop i = x :: xs) : i < l.length ∧ l.drop (i + 1) = xs ∧ ∀ d, l.getD i d = x := by
  have hi : i < l.length := by
    have h2 : 0 < (l.drop i).length := by rw [h]; simp
    rw [List.length_drop] at h2
    omega
  rw [List.drop_eq_getElem_cons hi] at h
  injection h with h1 h2
  exact ⟨hi, h2, fun d => by rw [List.getD_eq_getElem?_getD, List.getElem?_eq_getElem hi, h1]; rfl⟩
theorem drop_nil {α : Type} {l : List α} {i : Nat} (h : l.drop i = []) : l.length ≤ i := List.drop_eq_nil_iff.1 h
theorem getD_lt {α : Type} {l : List α} {i : Nat} (h : i < l.length) (d : α) : l.getD i d = l[i] := by
  rw [List.getD_eq_getElem?_getD, List.getElem?_eq_getElem h]; rfl
theorem rd_nat (l : List Int) (i : Nat) : rd l (i : Int) = l.getD i 0 := by
  unfold rd
  rw [Int.toNat_natCast]
theorem getD_mem {α : Type} {l : List α} {i : Nat} (h : i < l.length) (d : α) : l.getD i d ∈ l := by
  rw [getD_lt h]; exact List.getElem_mem h
theorem take_succ_getD {α : Type} {l : List α} {i : Nat} (h : i < l.length) (d : α) : l.take (i + 1) = l.take i ++ [l.getD i d] := by
  rw [getD_lt h, List.take_succ_eq_append_getElem h]
theorem mx_max (a b : Int) : mx a b = max a b := by
  unfold mx; omega
theorem mn_min (a b : Int) : mn a b = min a b := by
  unfold mn; omega
theorem bind_of {α β : Type} {o : Option α} {r : α} {f : α → Option β} {s : Option β} (h : o = some r) (h2 : f r = s) : o.bind f = s := by rw [h]; exact h2

/-! pick -/
theorem xor_small (a b : Int) (ha : 0 ≤ a) (ha2 : a < 1099511627776) (hb : 0 ≤ b) (hb2 : b < 1099511627776) : 0 ≤ Go.bits .xor .i64 a b ∧ Go.bits .xor .i64 a b < 1099511627776 := by
  obtain ⟨x, rfl⟩ := Int.eq_ofNat_of_zero_le ha
  obtain ⟨y, rfl⟩ := Int.eq_ofNat_of_zero_le hb
  have hx : x < 2 ^ 40 := by have : (x : Int) < 1099511627776 := ha2; omega
  have hy : y < 2 ^ 40 := by have : (y : Int) < 1099511627776 := hb2; omega
  have hz : x ^^^ y < 2 ^ 40 := Nat.xor_lt_two_pow hx hy
  have e : Go.bits .xor .i64 (x : Int) (y : Int) = ((x ^^^ y : Nat) : Int) := by
    have hx' : x % 2 ^ IntKind.i64.bits = x := Nat.mod_eq_of_lt (Nat.lt_of_lt_of_le hx (Nat.pow_le_pow_right (by decide) (by decide)))
    have hy' : y % 2 ^ IntKind.i64.bits = y := Nat.mod_eq_of_lt (Nat.lt_of_lt_of_le hy (Nat.pow_le_pow_right (by decide) (by decide)))
    simp only [bits, BitVec.ofInt_natCast, BitVec.toNat_xor, BitVec.toNat_ofNat, hx', hy']
    rw [IntKind.wrap_i64]
    omega
  rw [e]
  omega
theorem tmod_in (x n : Int) (hx : 0 ≤ x) (hn : 1 ≤ n) : 0 ≤ Int.tmod x n ∧ Int.tmod x n < n := by
  rw [Int.tmod_eq_emod_of_nonneg hx]
  exact ⟨Int.emod_nonneg _ (by omega), Int.emod_lt_of_pos _ (by omega)⟩
theorem rd_byte {s : List Int} (hs : ∀ x ∈ s, 0 ≤ x ∧ x ≤ 255) (i : Int) : 0 ≤ rd s i ∧ rd s i ≤ 255 := by
  unfold rd
  by_cases h : i.toNat < s.length
  · exact hs _ (getD_mem h 0)
  · rw [List.getD_eq_getElem?_getD, List.getElem?_eq_none (by omega)]; simp
/-- The reader: what it draws lies in 0..n-1, and its place goes on by one. -/
theorem pick_ok {k : Nat} (hk : 1 ≤ k) {s : List Int} (hs : ∀ x ∈ s, 0 ≤ x ∧ x ≤ 255) (hl : s.length ≤ 2000) (p : Int) (hp : 0 ≤ p) (hp2 : p ≤ 1000000) (n : Int) :
    ∃ v, spec_l20Rd_pick.f k s p n = some (v, p + 1) ∧ 0 ≤ v ∧ (1 ≤ n → v < n) ∧ (n < 1 → v = 0) := by
  obtain ⟨k, rfl⟩ : ∃ m, k = m + 1 := ⟨k - 1, by omega⟩
  have hw : wrap64 (p + 1) = p + 1 := w64 (by omega) (by omega)
  unfold spec_l20Rd_pick.f
  by_cases hn : n < 1
  · refine ⟨0, ?_, by omega, by omega, fun _ => rfl⟩
    rw [if_pos hn, hw]
    simp only [spec_l20Rd_pick.j0]
    rw [if_pos trivial]
  · rw [if_neg hn, hw]
    simp only [spec_l20Rd_pick.j0]
    by_cases he : (s.length : Int) = 0
    · refine ⟨0, ?_, by omega, by omega, fun _ => rfl⟩
      rw [if_pos (by simpa using he)]
    · have hpp : wrap64 (p + 1 - 1) = p := by rw [w64 (by omega) (by omega)]; omega
      rw [if_neg (by simpa using he), hpp]
      have hn0 : ¬ n = 0 := by omega
      have hb := fun i => rd_byte hs i
      by_cases hlt : p < (s.length : Int)
      · have hr := hb p
        have hwr : wrap64 (rd s p) = rd s p := w64 (by omega) (by omega)
        rw [if_pos hlt, if_pos hp, if_neg hn0, hwr]
        have ht := tmod_in (rd s p) n hr.1 (by omega)
        exact ⟨_, rfl, ht.1, fun _ => ht.2, fun h => absurd h hn⟩
      · have hL : 1 ≤ (s.length : Int) := by omega
        have e7 : wrap64 (p * 7) = p * 7 := w64 (by omega) (by omega)
        have e73 : wrap64 (p * 7 + 3) = p * 7 + 3 := w64 (by omega) (by omega)
        have t1 := tmod_in p (s.length : Int) hp hL
        have t2 := tmod_in (p * 7 + 3) (s.length : Int) (by omega) hL
        have r1 := hb (Int.tmod p (s.length : Int))
        have r2 := hb (Int.tmod (p * 7 + 3) (s.length : Int))
        rw [if_neg hlt, if_neg he, if_pos t1.1, if_pos t1.2, e7, e73, if_pos t2.1, if_pos t2.2, if_neg hn0]
        generalize rd s (Int.tmod p (s.length : Int)) = a at *
        generalize rd s (Int.tmod (p * 7 + 3) (s.length : Int)) = b at *
        have hq : Int.tdiv p (s.length : Int) = p / (s.length : Int) := Int.tdiv_eq_ediv_of_nonneg hp
        have q0 : 0 ≤ p / (s.length : Int) := Int.ediv_nonneg hp (by omega)
        have q1 : p / (s.length : Int) ≤ p := Int.ediv_le_self _ hp
        rw [hq]
        generalize p / (s.length : Int) = q at *
        have ea : wrap64 a = a := w64 (by omega) (by omega)
        have eb : wrap64 b = b := w64 (by omega) (by omega)
        have ea2 : wrap64 (a * 131) = a * 131 := w64 (by omega) (by omega)
        have eb2 : wrap64 (b * 1117) = b * 1117 := w64 (by omega) (by omega)
        have ep : wrap64 (p * 29) = p * 29 := w64 (by omega) (by omega)
        have eq_ : wrap64 q = q := w64 (by omega) (by omega)
        have eq2 : wrap64 (q * 53) = q * 53 := w64 (by omega) (by omega)
        have e1 : wrap64 (a * 131 + b * 1117) = a * 131 + b * 1117 := w64 (by omega) (by omega)
        have e2 : wrap64 (a * 131 + b * 1117 + p * 29) = a * 131 + b * 1117 + p * 29 := w64 (by omega) (by omega)
        have e3 : wrap64 (a * 131 + b * 1117 + p * 29 + q * 53) = a * 131 + b * 1117 + p * 29 + q * 53 := w64 (by omega) (by omega)
        rw [ea, eb, ea2, eb2, ep, eq_, eq2, e1, e2, e3]
        have hX0 : 0 ≤ a * 131 + b * 1117 + p * 29 + q * 53 := by omega
        have hX1 : a * 131 + b * 1117 + p * 29 + q * 53 < 1099511627776 := by omega
        generalize a * 131 + b * 1117 + p * 29 + q * 53 = X at *
        have hd : Int.tdiv X 64 = X / 64 := Int.tdiv_eq_ediv_of_nonneg hX0
        have ed : wrap64 (X / 64) = X / 64 := w64 (by omega) (by omega)
        rw [hd, ed]
        have hx := xor_small X (X / 64) hX0 hX1 (by omega) (by omega)
        have ht := tmod_in (Go.bits .xor .i64 X (X / 64)) n hx.1 (by omega)
        exact ⟨_, rfl, ht.1, fun _ => ht.2, fun h => absurd h hn⟩
theorem odd_ok {k : Nat} (hk : 1 ≤ k) {s : List Int} (hs : ∀ x ∈ s, 0 ≤ x ∧ x ≤ 255) (hl : s.length ≤ 2000) (p : Int) (hp : 0 ≤ p) (hp2 : p ≤ 1000000) (n : Int) (hn : n ≤ 1000) :
    ∃ b q, spec_l20Rd_odd.f k s p n = some (b, q) ∧ p ≤ q ∧ q ≤ p + 1 ∧ (n ≤ 0 → b = false) := by
  unfold spec_l20Rd_odd.f
  by_cases h : n > 0
  · obtain ⟨v, hv, -⟩ := pick_ok hk hs hl p hp hp2 n
    rw [if_pos h, hv]
    exact ⟨_, _, rfl, by simp only; omega, by simp only; omega, fun hh => by omega⟩
  · rw [if_neg h]
    exact ⟨_, _, rfl, by omega, by omega, fun _ => rfl⟩
theorem open_ok {s : List Int} (hs : ∀ x ∈ s, 0 ≤ x ∧ x ≤ 255) : ∃ t, spec_l20Open.f s = some (t, 0) ∧ (∀ x ∈ t, 0 ≤ x ∧ x ≤ 255) ∧ t.length ≤ 2000 := by
  unfold spec_l20Open.f
  by_cases h : (s.length : Int) > 2000
  · rw [if_pos h, if_pos (by omega)]
    exact ⟨_, rfl, fun x hx => hs x (List.mem_of_mem_take hx), by rw [List.length_take]; omega⟩
  · rw [if_neg h]
    exact ⟨_, rfl, hs, by omega⟩
theorem bytes_of {l : List Int} (h : ∀ x ∈ l, (Lit.int .u8 x).wf = true) : ∀ x ∈ l, 0 ≤ x ∧ x ≤ 255 := by
  intro x hx
  have := h x hx
  simp only [Lit.wf, IntKind.min, IntKind.max, IntKind.signed, IntKind.bits, Bool.and_eq_true, decide_eq_true_eq, Bool.false_eq_true, if_false] at this
  omega

/-! drawboth -/
theorem l20Both_loop {s : List Int} (hs : ∀ x ∈ s, 0 ≤ x ∧ x ≤ 255) (hl : s.length ≤ 2000) (m high : Int) (hm : m ≤ 1000) (hh : 1 ≤ high) (hh2 : high ≤ 1000) : ∀ (d : Nat) (k : Nat) (l : List S31) (p : Int), d + 2 ≤ k → 0 ≤ p → p + 2 * d + 3 ≤ 1000000 → l.length + d ≤ 100 → 1 ≤ l.length + d →
    ∃ r q, spec_l20Both.l0 k m l high d s p = some (r, q) ∧ r.length ≤ 200 ∧ 0 ≤ q ∧ q ≤ p + 2 * d + 3 := by
  intro d
  induction d with
  | zero =>
    intro k l p hk hp hp2 hll h0
    obtain ⟨k, rfl⟩ : ∃ m, k = m + 1 := ⟨k - 1, by omega⟩
    simp only [spec_l20Both.l0]
    rw [if_neg (by omega)]
    obtain ⟨b, q, e, hq1, hq2, -⟩ := odd_ok (k := k) (by omega) hs hl p hp (by omega) m hm
    rw [e]; simp only [Option.bind_some]
    cases b with
    | false => rw [if_neg (by simp)]; exact ⟨_, _, rfl, by omega, by omega, by omega⟩
    | true =>
      rw [if_pos rfl]
      obtain ⟨v, e2, hv⟩ := pick_ok (k := k) (by omega) hs hl q (by omega) (by omega) 3
      rw [e2]; simp only [Option.bind_some]
      by_cases v0 : v = 0
      · rw [if_pos v0]; exact ⟨_, _, rfl, by simp, by omega, by omega⟩
      · rw [if_neg v0]
        by_cases v1 : v = 1
        · rw [if_pos v1, if_pos (by omega)]; exact ⟨_, _, rfl, by rw [List.length_set]; omega, by omega, by omega⟩
        · rw [if_neg v1, if_pos (by omega)]; exact ⟨_, _, rfl, by simp, by omega, by omega⟩
  | succ d ih =>
    intro k l p hk hp hp2 hll h0
    obtain ⟨k, rfl⟩ : ∃ m, k = m + 1 := ⟨k - 1, by omega⟩
    simp only [spec_l20Both.l0]
    rw [if_pos (by omega)]
    obtain ⟨v, e, hv0, hv1, -⟩ := pick_ok (k := k) (by omega) hs hl p hp (by omega) high
    rw [e]; simp only [Option.bind_some]
    obtain ⟨v2, e2, hv2, hv3, -⟩ := pick_ok (k := k) (by omega) hs hl (p + 1) (by omega) (by omega) high
    rw [e2]; simp only [Option.bind_some]
    rw [if_pos (by omega), show wrap64 (((d + 1 : Nat) : Int) - 1) = (d : Int) from by rw [w64 (by omega) (by omega)]; omega]
    obtain ⟨r, q, e3, h1, h2, h3⟩ := ih k (l ++ [⟨wrap64 (1 + v), wrap64 (1 + v2)⟩]) (p + 1 + 1) (by omega) (by omega) (by omega) (by rw [List.length_append]; simp; omega) (by rw [List.length_append]; simp; omega)
    exact ⟨r, q, e3, h1, h2, by omega⟩
theorem l20Both_ok {s : List Int} (hs : ∀ x ∈ s, 0 ≤ x ∧ x ≤ 255) (hl : s.length ≤ 2000) (m : Int) (hm : m ≤ 1000) (k : Nat) (hk : 20 ≤ k) (p : Int) (hp : 0 ≤ p) (hp2 : p ≤ 1000) :
    ∃ r q, spec_l20Both.f k s p m = some (r, q) ∧ r.length ≤ 200 ∧ 0 ≤ q ∧ q ≤ p + 20 := by
  unfold spec_l20Both.f
  simp only [Option.bind_some]
  obtain ⟨v, e, hv0, hv1, -⟩ := pick_ok (k := k) (by omega) hs hl p hp (by omega) 2
  have hv1 := hv1 (by omega)
  rw [e]; simp only [Option.bind_some]
  rw [if_pos hv0, if_pos (by simp; omega)]
  obtain ⟨v2, e2, hv2, hv3, -⟩ := pick_ok (k := k) (by omega) hs hl (p + 1) (by omega) (by omega) 5
  have hv3 := hv3 (by omega)
  rw [e2]; simp only [Option.bind_some]
  have hr : 1 ≤ rd [3, 9] v ∧ rd [3, 9] v ≤ 1000 := by
    have : v = 0 ∨ v = 1 := by omega
    rcases this with rfl | rfl <;> decide
  rw [w64 (by omega) (by omega), show (1 + v2) = ((v2.toNat + 1 : Nat) : Int) from by omega]
  obtain ⟨r, q, e3, h1, h2, h3⟩ := l20Both_loop hs hl m (rd [3, 9] v) hm hr.1 hr.2 (v2.toNat + 1) k [] (p + 1 + 1) (by omega) (by omega) (by omega) (by simp only [List.length_nil]; omega) (by simp only [List.length_nil]; omega)
  exact ⟨r, q, e3, h1, h2, by omega⟩

/-! both -/
/-- Customers of two counters, as both texts ask. -/
def bothOk (l : List S31) : Bool := decide ((∀ b ∈ l, 1 ≤ b.f0 ∧ b.f0 ≤ 9 ∧ 1 ≤ b.f1 ∧ b.f1 ≤ 9) ∧ 1 ≤ l.length ∧ l.length ≤ 6)
theorem bothOk_mem {l : List S31} (h : bothOk l = true) : ∀ b ∈ l, 1 ≤ b.f0 ∧ b.f0 ≤ 9 ∧ 1 ≤ b.f1 ∧ b.f1 ≤ 9 := (of_decide_eq_true h).1
theorem bothOk_len {l : List S31} (h : bothOk l = true) : 1 ≤ l.length ∧ l.length ≤ 6 := (of_decide_eq_true h).2
theorem bothOk_take {l : List S31} (h : bothOk l = true) (n : Nat) (hn : 1 ≤ n) : bothOk (l.take n) = true := by
  have h1 := bothOk_mem h
  have h2 := bothOk_len h
  exact decide_eq_true ⟨fun b hb => h1 b (List.mem_of_mem_take hb), by rw [List.length_take]; omega, by rw [List.length_take]; omega⟩
theorem rd_Both_nat (l : List S31) (i : Nat) : rd_T31 l (i : Int) = l.getD i z31 := by
  unfold rd_T31
  rw [Int.toNat_natCast]
theorem impl_BothOk_loop (l : List S31) (hl : l.length ≤ 1048576) : ∀ (suf : List S31) (i k : Nat), l.drop i = suf → suf.length < k → i ≤ l.length →
    impl_BothOk.l0 k l l (l.length : Int) i = some (decide ((∀ b ∈ suf, 1 ≤ b.f0 ∧ b.f0 ≤ 9 ∧ 1 ≤ b.f1 ∧ b.f1 ≤ 9) ∧ 1 ≤ l.length ∧ l.length ≤ 6)) := by
  intro suf
  induction suf with
  | nil =>
    intro i k hd hk hi
    obtain ⟨k, rfl⟩ : ∃ m, k = m + 1 := ⟨k - 1, by omega⟩
    have := drop_nil hd
    simp only [impl_BothOk.l0]
    rw [if_neg (by omega)]
    by_cases h1 : (l.length : Int) ≥ 1
    · rw [if_pos h1]
      congr 1
      apply decide_eq_decide.2
      constructor
      · intro h; exact ⟨by simp, by omega, by omega⟩
      · intro h; omega
    · rw [if_neg h1]
      congr 1
      symm
      exact decide_eq_false (fun h => by omega)
  | cons x xs ih =>
    intro i k hd hk hi
    obtain ⟨k, rfl⟩ : ∃ m, k = m + 1 := ⟨k - 1, by omega⟩
    obtain ⟨hlt, hd2, hx⟩ := drop_split hd
    simp only [impl_BothOk.l0]
    rw [if_pos (by omega), if_pos (by omega), if_pos (by omega), rd_Both_nat, hx, w64s i (by omega), ih (i + 1) k hd2 (by simp at hk; omega) (by omega)]
    repeat' split
    all_goals congr 1
    any_goals
      symm
      apply decide_eq_false
      intro h
      have := h.1 x (by simp)
      omega
    apply decide_eq_decide.2
    constructor
    · intro h
      refine ⟨fun b hb => ?_, h.2⟩
      rcases List.mem_cons.1 hb with rfl | hb
      · omega
      · exact h.1 b hb
    · intro h
      exact ⟨fun b hb => h.1 b (List.mem_cons_of_mem _ hb), h.2⟩
theorem impl_BothOk_is (l : List S31) (hl : l.length ≤ 1048576) (k : Nat) (hk : l.length < k) : impl_BothOk.f k l = some (bothOk l) :=
  impl_BothOk_loop l hl l 0 k rfl hk (by omega)
theorem spec_l1In_is (a b c : Int) : spec_l1In.f a b c = some (decide (b ≤ a ∧ a ≤ c)) := by
  unfold spec_l1In.f
  by_cases h : a ≥ b
  · rw [if_pos h]
    congr 1
    apply decide_eq_decide.2
    omega
  · rw [if_neg h]
    congr 1
    symm
    exact decide_eq_false (by omega)
theorem spec_BothOk_loop (l : List S31) (hl : l.length ≤ 1048576) : ∀ (suf : List S31) (i k : Nat), l.drop i = suf → suf.length < k → i ≤ l.length →
    spec_BothOk.l0 k l i = some (decide ((∀ b ∈ suf, 1 ≤ b.f0 ∧ b.f0 ≤ 9 ∧ 1 ≤ b.f1 ∧ b.f1 ≤ 9) ∧ 1 ≤ l.length ∧ l.length ≤ 6)) := by
  intro suf
  induction suf with
  | nil =>
    intro i k hd hk hi
    obtain ⟨k, rfl⟩ : ∃ m, k = m + 1 := ⟨k - 1, by omega⟩
    have := drop_nil hd
    simp only [spec_BothOk.l0]
    rw [if_neg (by omega), spec_l1In_is]
    simp only [Option.bind_some]
    congr 1
    apply decide_eq_decide.2
    constructor
    · intro h; exact ⟨by simp, by omega, by omega⟩
    · intro h; omega
  | cons x xs ih =>
    intro i k hd hk hi
    obtain ⟨k, rfl⟩ : ∃ m, k = m + 1 := ⟨k - 1, by omega⟩
    obtain ⟨hlt, hd2, hx⟩ := drop_split hd
    simp only [spec_BothOk.l0]
    rw [if_pos (by omega), if_pos (by omega), rd_Both_nat, hx, spec_l1In_is, spec_l1In_is, w64s i (by omega), ih (i + 1) k hd2 (by simp at hk; omega) (by omega)]
    simp only [Option.bind_some, decide_eq_true_eq]
    repeat' split
    all_goals congr 1
    any_goals
      symm
      apply decide_eq_false
      intro h
      have := h.1 x (by simp)
      omega
    apply decide_eq_decide.2
    constructor
    · intro h
      refine ⟨fun b hb => ?_, h.2⟩
      rcases List.mem_cons.1 hb with rfl | hb
      · omega
      · exact h.1 b hb
    · intro h
      exact ⟨fun b hb => h.1 b (List.mem_cons_of_mem _ hb), h.2⟩
theorem spec_BothOk_is (l : List S31) (hl : l.length ≤ 1048576) (k : Nat) (hk : l.length < k) : spec_BothOk.f k l = some (bothOk l) :=
  spec_BothOk_loop l hl l 0 k rfl hk (by omega)

/-! customers -/
/-- Customers, as both texts ask: seen from a place on, with the one ahead. -/
def custFrom : Option S54 → List S54 → Bool
  | _, [] => true
  | none, c :: cs => decide (0 ≤ c.f0 ∧ c.f0 ≤ 60 ∧ 1 ≤ c.f1 ∧ c.f1 ≤ 9) && custFrom (some c) cs
  | some p, c :: cs => decide (0 ≤ c.f0 ∧ c.f0 ≤ 60 ∧ 1 ≤ c.f1 ∧ c.f1 ≤ 9 ∧ p.f0 ≤ c.f0) && custFrom (some c) cs
def custOk (l : List S54) : Bool := custFrom none l && decide (l.length ≤ 8)
theorem rd_Customer_nat (l : List S54) (i : Nat) : rd_T54 l (i : Int) = l.getD i z54 := by
  unfold rd_T54
  rw [Int.toNat_natCast]
theorem cust_bad {p : Option S54} {x : S54} {xs : List S54} (h : ¬ (0 ≤ x.f0 ∧ x.f0 ≤ 60 ∧ 1 ≤ x.f1 ∧ x.f1 ≤ 9)) : custFrom p (x :: xs) = false := by
  cases p with
  | none => simp only [custFrom, decide_eq_false h, Bool.false_and]
  | some q => simp only [custFrom, decide_eq_false (show ¬ (0 ≤ x.f0 ∧ x.f0 ≤ 60 ∧ 1 ≤ x.f1 ∧ x.f1 ≤ 9 ∧ q.f0 ≤ x.f0) from fun hh => h ⟨hh.1, hh.2.1, hh.2.2.1, hh.2.2.2.1⟩), Bool.false_and]
theorem cust_bad2 {p x : S54} {xs : List S54} (h : x.f0 < p.f0) : custFrom (some p) (x :: xs) = false := by
  simp only [custFrom, decide_eq_false (show ¬ (0 ≤ x.f0 ∧ x.f0 ≤ 60 ∧ 1 ≤ x.f1 ∧ x.f1 ≤ 9 ∧ p.f0 ≤ x.f0) from fun hh => by omega), Bool.false_and]
theorem impl_CustomersOk_loop (l : List S54) (hl : l.length ≤ 1048576) : ∀ (suf : List S54) (i k : Nat), l.drop i = suf → suf.length < k → i ≤ l.length →
    impl_CustomersOk.l0 k l l (l.length : Int) i = some (custFrom (if i = 0 then none else some (l.getD (i - 1) z54)) suf && decide (l.length ≤ 8)) := by
  intro suf
  induction suf with
  | nil =>
    intro i k hd hk hi
    obtain ⟨k, rfl⟩ : ∃ m, k = m + 1 := ⟨k - 1, by omega⟩
    have := drop_nil hd
    simp only [impl_CustomersOk.l0]
    rw [if_neg (by omega)]
    congr 1
    have e : (decide ((l.length : Int) ≤ 8)) = decide (l.length ≤ 8) := decide_eq_decide.2 (by omega)
    rw [e]
    split <;> simp [custFrom]
  | cons x xs ih =>
    intro i k hd hk hi
    obtain ⟨k, rfl⟩ : ∃ m, k = m + 1 := ⟨k - 1, by omega⟩
    obtain ⟨hlt, hd2, hx⟩ := drop_split hd
    simp only [impl_CustomersOk.l0]
    rw [if_pos (by omega), if_pos (by omega), if_pos (by omega), rd_Customer_nat, hx, w64s i (by omega), ih (i + 1) k hd2 (by simp at hk; omega) (by omega)]
    rw [if_neg (show ¬ i + 1 = 0 by omega), show i + 1 - 1 = i from rfl, hx]
    by_cases h1 : x.f0 < 0
    · rw [if_pos h1, cust_bad (by omega), Bool.false_and]
    rw [if_neg h1]
    by_cases h2 : x.f0 > 60
    · rw [if_pos h2, cust_bad (by omega), Bool.false_and]
    rw [if_neg h2]
    by_cases hi0 : i = 0
    · subst hi0
      rw [if_neg (by omega)]
      by_cases h3 : x.f1 < 1
      · rw [if_pos h3, cust_bad (by omega), Bool.false_and]
      rw [if_neg h3]
      by_cases h4 : x.f1 > 9
      · rw [if_pos h4, cust_bad (by omega), Bool.false_and]
      rw [if_neg h4, if_pos rfl]
      have e : decide (0 ≤ x.f0 ∧ x.f0 ≤ 60 ∧ 1 ≤ x.f1 ∧ x.f1 ≤ 9) = true := decide_eq_true (by omega)
      simp only [custFrom, e, Bool.true_and]
    · rw [if_pos (by omega), show wrap64 ((i : Int) - 1) = ((i - 1 : Nat) : Int) from by rw [w64 (by omega) (by omega)]; omega, if_pos (by omega), if_pos (by omega), rd_Customer_nat, if_neg hi0]
      by_cases h5 : x.f0 < (l.getD (i - 1) z54).f0
      · rw [if_pos h5, cust_bad2 h5, Bool.false_and]
      rw [if_neg h5]
      by_cases h3 : x.f1 < 1
      · rw [if_pos h3, cust_bad (by omega), Bool.false_and]
      rw [if_neg h3]
      by_cases h4 : x.f1 > 9
      · rw [if_pos h4, cust_bad (by omega), Bool.false_and]
      rw [if_neg h4]
      have e : decide (0 ≤ x.f0 ∧ x.f0 ≤ 60 ∧ 1 ≤ x.f1 ∧ x.f1 ≤ 9 ∧ (l.getD (i - 1) z54).f0 ≤ x.f0) = true := decide_eq_true (by omega)
      simp only [custFrom, e, Bool.true_and]
theorem impl_CustomersOk_is (l : List S54) (hl : l.length ≤ 1048576) (k : Nat) (hk : l.length < k) : impl_CustomersOk.f k l = some (custOk l) := by
  unfold impl_CustomersOk.f
  exact impl_CustomersOk_loop l hl l 0 k rfl hk (by omega)

/-! alive -/
theorem alive_is (k : Nat) (hk : 2 ≤ k) : laws_alive.f k = some true := by
  unfold laws_alive.f
  rw [impl_CustomersOk_is _ (by simp) k (by simp; omega)]
  simp only [Option.bind_some]
  rw [if_pos (by decide), impl_CustomersOk_is _ (by simp) k (by simp; omega)]
  rfl

/-! sameints -/
theorem sameInts_loop (a : List Int) (ha : a.length ≤ 1048576) : ∀ (suf : List Int) (i k : Nat), a.drop i = suf → suf.length < k → laws_sameInts.l0 k a a i = some true := by
  intro suf
  induction suf with
  | nil =>
    intro i k hd hk
    obtain ⟨k, rfl⟩ : ∃ m, k = m + 1 := ⟨k - 1, by omega⟩
    have := drop_nil hd
    simp only [laws_sameInts.l0]
    rw [if_neg (by omega)]
  | cons x xs ih =>
    intro i k hd hk
    obtain ⟨k, rfl⟩ : ∃ m, k = m + 1 := ⟨k - 1, by omega⟩
    obtain ⟨hlt, hd2, hx⟩ := drop_split hd
    simp only [laws_sameInts.l0]
    rw [if_pos (by omega), if_pos (by omega), if_pos (by omega), if_pos trivial, w64s i (by omega), ih (i + 1) k hd2 (by simp at hk; omega)]
theorem sameInts_is (a : List Int) (ha : a.length ≤ 1048576) (k : Nat) (hk : a.length < k) : laws_sameInts.f k a a = some true := by
  unfold laws_sameInts.f
  rw [if_pos rfl]
  exact sameInts_loop a ha a 0 k rfl hk

/-! leaves -/
/-- When each leaves the second counter, those ahead having left the first one at a and the second one at b. -/
def leavesP : List S31 → Int → Int → List Int
  | [], _, _ => []
  | x :: xs, a, b => (max (a + x.f0) b + x.f1) :: leavesP xs (a + x.f0) (max (a + x.f0) b + x.f1)
theorem leavesP_length (l : List S31) : ∀ a b, (leavesP l a b).length = l.length := by
  induction l with
  | nil => intro a b; rfl
  | cons x xs ih => intro a b; simp [leavesP, ih]
theorem impl_LeavesBoth_loop (l : List S31) (hl : l.length ≤ 6) (hm : ∀ b ∈ l, 1 ≤ b.f0 ∧ b.f0 ≤ 9 ∧ 1 ≤ b.f1 ∧ b.f1 ≤ 9) : ∀ (suf : List S31) (i k : Nat) (out : List Int) (a b : Int), l.drop i = suf → suf.length < k → out.length ≤ i → i ≤ l.length →
    0 ≤ a → a ≤ 9 * i → 0 ≤ b → b ≤ 18 * i → impl_LeavesBoth.l0 k out a b l (l.length : Int) i = some (out ++ leavesP suf a b) := by
  intro suf
  induction suf with
  | nil =>
    intro i k out a b hd hk ho hi _ _ _ _
    obtain ⟨k, rfl⟩ : ∃ m, k = m + 1 := ⟨k - 1, by omega⟩
    have := drop_nil hd
    simp only [impl_LeavesBoth.l0]
    rw [if_neg (by omega)]
    simp [leavesP]
  | cons x xs ih =>
    intro i k out a b hd hk ho hi ha0 ha hb0 hb
    obtain ⟨k, rfl⟩ : ∃ m, k = m + 1 := ⟨k - 1, by omega⟩
    obtain ⟨hlt, hd2, hx⟩ := drop_split hd
    have hxm : x ∈ l := by rw [← hx z31]; exact getD_mem hlt _
    have hxb := hm x hxm
    simp only [impl_LeavesBoth.l0]
    have e1 : wrap64 (a + x.f0) = a + x.f0 := w64 (by omega) (by omega)
    have e2 : wrap64 (max (a + x.f0) b + x.f1) = max (a + x.f0) b + x.f1 := w64 (by omega) (by omega)
    rw [if_pos (by omega), if_pos (by omega), if_pos (by omega), if_pos (by omega), rd_Both_nat, hx, e1, mx_max, e2, w64s i (by omega)]
    rw [ih (i + 1) k _ _ _ hd2 (by simp at hk; omega) (by rw [List.length_append]; simp; omega) (by omega) (by omega) (by omega) (by omega) (by omega)]
    simp [leavesP]
theorem impl_LeavesBoth_is (l : List S31) (hl : l.length ≤ 1048576) (k : Nat) (hk : l.length < k) : impl_LeavesBoth.f k l = some (if bothOk l = true then leavesP l 0 0 else []) := by
  unfold impl_LeavesBoth.f
  rw [impl_BothOk_is l hl k hk]
  simp only [Option.bind_some]
  by_cases h : bothOk l = true
  · have h1 := bothOk_len h
    rw [if_pos h, if_pos h]
    exact impl_LeavesBoth_loop l h1.2 (bothOk_mem h) l 0 k [] 0 0 rfl hk (by simp) (by omega) (by omega) (by omega) (by omega) (by omega)
  · rw [if_neg h, if_neg h]
theorem spec_LeavesBoth_loop (l : List S31) (hok : bothOk l = true) : ∀ (suf : List S31) (i k : Nat) (out : List Int) (a b : Int), l.drop i = suf → l.length + suf.length < k → out.length ≤ i → i ≤ l.length →
    0 ≤ a → a ≤ 9 * i → 0 ≤ b → b ≤ 18 * i → spec_LeavesBoth.l0 k l out a b i = some (out ++ leavesP suf a b) := by
  have hl := (bothOk_len hok).2
  have hm := bothOk_mem hok
  intro suf
  induction suf with
  | nil =>
    intro i k out a b hd hk ho hi _ _ _ _
    obtain ⟨k, rfl⟩ : ∃ m, k = m + 1 := ⟨k - 1, by omega⟩
    have := drop_nil hd
    simp only [spec_LeavesBoth.l0]
    rw [if_neg (by omega)]
    simp [leavesP]
  | cons x xs ih =>
    intro i k out a b hd hk ho hi ha0 ha hb0 hb
    obtain ⟨k, rfl⟩ : ∃ m, k = m + 1 := ⟨k - 1, by omega⟩
    obtain ⟨hlt, hd2, hx⟩ := drop_split hd
    have hxm : x ∈ l := by rw [← hx z31]; exact getD_mem hlt _
    have hxb := hm x hxm
    simp only [spec_LeavesBoth.l0]
    have e1 : wrap64 (a + x.f0) = a + x.f0 := w64 (by omega) (by omega)
    have e2 : wrap64 (max (a + x.f0) b + x.f1) = max (a + x.f0) b + x.f1 := w64 (by omega) (by omega)
    simp only [List.length_cons] at hk
    rw [if_pos (by omega), spec_BothOk_is l (by omega) k (by omega)]
    simp only [Option.bind_some]
    rw [if_pos hok, if_pos (by omega), if_pos (by omega), rd_Both_nat, hx, e1, mx_max, e2, w64s i (by omega)]
    rw [ih (i + 1) k _ _ _ hd2 (by omega) (by rw [List.length_append]; simp; omega) (by omega) (by omega) (by omega) (by omega) (by omega)]
    simp [leavesP]
theorem spec_LeavesBoth_is (l : List S31) (hl : l.length ≤ 1048576) (k : Nat) (hk : 2 * l.length + 1 < k) : spec_LeavesBoth.f k l = some (if bothOk l = true then leavesP l 0 0 else []) := by
  unfold spec_LeavesBoth.f
  by_cases h : bothOk l = true
  · have h1 := bothOk_len h
    rw [if_pos h]
    exact spec_LeavesBoth_loop l h l 0 k [] 0 0 rfl (by omega) (by simp) (by omega) (by omega) (by omega) (by omega) (by omega)
  · obtain ⟨k, rfl⟩ : ∃ m, k = m + 1 := ⟨k - 1, by omega⟩
    rw [if_neg h]
    simp only [spec_LeavesBoth.l0]
    by_cases h0 : (0 : Int) < (l.length : Int)
    · rw [if_pos h0, spec_BothOk_is l hl k (by omega)]
      simp only [Option.bind_some]
      rw [if_neg h]
    · rw [if_neg h0]

/-! longest -/
def sum0 : List S31 → Int
  | [] => 0
  | x :: xs => x.f0 + sum0 xs
def sum1 : List S31 → Int
  | [] => 0
  | x :: xs => x.f1 + sum1 xs
/-- The longest way, those ahead having needed a at the first counter; at least m. -/
def lwP : List S31 → Int → Int → Int
  | [], _, m => m
  | x :: xs, a, m => lwP xs (a + x.f0) (max m (a + x.f0 + sum1 (x :: xs)))
def lw (l : List S31) : Int := lwP l 0 0
theorem sum0_append (l r : List S31) : sum0 (l ++ r) = sum0 l + sum0 r := by
  induction l with
  | nil => simp [sum0]
  | cons x xs ih => simp [sum0, ih]; omega
theorem sum1_append (l r : List S31) : sum1 (l ++ r) = sum1 l + sum1 r := by
  induction l with
  | nil => simp [sum1]
  | cons x xs ih => simp [sum1, ih]; omega
theorem sum1_bound (l : List S31) (hm : ∀ b ∈ l, 1 ≤ b.f0 ∧ b.f0 ≤ 9 ∧ 1 ≤ b.f1 ∧ b.f1 ≤ 9) : 0 ≤ sum1 l ∧ sum1 l ≤ 9 * l.length := by
  induction l with
  | nil => simp [sum1]
  | cons x xs ih =>
    have := ih (fun b hb => hm b (List.mem_cons_of_mem _ hb))
    have := hm x (by simp)
    simp only [sum1, List.length_cons]
    omega
theorem sum0_bound (l : List S31) (hm : ∀ b ∈ l, 1 ≤ b.f0 ∧ b.f0 ≤ 9 ∧ 1 ≤ b.f1 ∧ b.f1 ≤ 9) : 0 ≤ sum0 l ∧ sum0 l ≤ 9 * l.length := by
  induction l with
  | nil => simp [sum0]
  | cons x xs ih =>
    have := ih (fun b hb => hm b (List.mem_cons_of_mem _ hb))
    have := hm x (by simp)
    simp only [sum0, List.length_cons]
    omega
theorem impl_longestWay_inner (l : List S31) (ys : List S31) (hys : ys.length ≤ 6) (hm : ∀ b ∈ ys, 1 ≤ b.f0 ∧ b.f0 ≤ 9 ∧ 1 ≤ b.f1 ∧ b.f1 ≤ 9) (most first : Int) (r : List S31) (len at_ : Int) : ∀ (suf : List S31) (i k : Nat) (n : Int), ys.drop i = suf → i ≤ ys.length → 0 ≤ n → n ≤ 1000 + 9 * i →
    impl_longestWay.l1 (k + suf.length + 1) l most first n r len at_ ys (ys.length : Int) i = impl_longestWay.l0 k l (max most (n + sum1 suf)) first r len (wrap64 (at_ + 1)) := by
  intro suf
  induction suf with
  | nil =>
    intro i k n hd hi hn0 hn
    have := drop_nil hd
    simp only [List.length_nil, Nat.add_zero, impl_longestWay.l1]
    rw [if_neg (by omega), mx_max]
    simp [sum1]
  | cons x xs ih =>
    intro i k n hd hi hn0 hn
    obtain ⟨hlt, hd2, hx⟩ := drop_split hd
    have hxb := hm x (by rw [← hx z31]; exact getD_mem hlt _)
    rw [show k + (x :: xs).length + 1 = (k + xs.length + 1) + 1 from by simp only [List.length_cons]; omega]
    rw [impl_longestWay.l1]
    rw [if_pos (by omega), if_pos (by omega), if_pos (by omega), rd_Both_nat, hx, w64s i (by omega), show wrap64 (n + x.f1) = n + x.f1 from w64 (by omega) (by omega)]
    rw [ih (i + 1) k _ hd2 (by omega) (by omega) (by omega)]
    simp only [sum1]
    rw [Int.add_assoc]
theorem impl_longestWay_mono : ∀ k, (∀ y0 y1 y2 y3 y4 y5, LeO (impl_longestWay.l0 k y0 y1 y2 y3 y4 y5) (impl_longestWay.l0 (k + 1) y0 y1 y2 y3 y4 y5)) := fun k => (impl_longestWay.mono_l k).1
theorem impl_longestWay_loop (l : List S31) (hl : l.length ≤ 6) (hm : ∀ b ∈ l, 1 ≤ b.f0 ∧ b.f0 ≤ 9 ∧ 1 ≤ b.f1 ∧ b.f1 ≤ 9) : ∀ (suf : List S31) (i k : Nat) (most first : Int), l.drop i = suf → i ≤ l.length → suf.length * 10 + 1 ≤ k → 0 ≤ first → first ≤ 9 * i →
    impl_longestWay.l0 k l most first l (l.length : Int) i = some (lwP suf first most) := by
  intro suf
  induction suf with
  | nil =>
    intro i k most first hd hi hk h0 h1
    obtain ⟨k, rfl⟩ : ∃ m, k = m + 1 := ⟨k - 1, by omega⟩
    have := drop_nil hd
    simp only [impl_longestWay.l0]
    rw [if_neg (by omega)]
    rfl
  | cons x xs ih =>
    intro i k most first hd hi hk h0 h1
    obtain ⟨hlt, hd2, hx⟩ := drop_split hd
    have hxb := hm x (by rw [← hx z31]; exact getD_mem hlt _)
    have hmd : ∀ b ∈ x :: xs, 1 ≤ b.f0 ∧ b.f0 ≤ 9 ∧ 1 ≤ b.f1 ∧ b.f1 ≤ 9 := fun b hb => hm b (by rw [← hd] at hb; exact List.mem_of_mem_drop hb)
    have hlen : (x :: xs).length ≤ 6 := by rw [← hd, List.length_drop]; omega
    simp only [List.length_cons] at hk hlen
    obtain ⟨k, rfl⟩ : ∃ m, k = (m + (x :: xs).length + 1) + 1 := ⟨k - ((x :: xs).length + 2), by simp only [List.length_cons]; omega⟩
    simp only [List.length_cons] at hk
    rw [impl_longestWay.l0]
    rw [if_pos (by omega), if_pos (by omega), if_pos (by omega), if_pos (by omega)]
    simp only [Option.bind_some]
    rw [Int.toNat_natCast, hd, rd_Both_nat, hx, show wrap64 (first + x.f0) = first + x.f0 from w64 (by omega) (by omega)]
    have hi1 := impl_longestWay_inner l (x :: xs) (by simp only [List.length_cons]; omega) hmd most (first + x.f0) l (l.length : Int) i (x :: xs) 0 k (first + x.f0) rfl (by omega) (by omega) (by omega)
    rw [show ((0 : Nat) : Int) = 0 from rfl] at hi1
    rw [hi1, w64s i (by omega), ih (i + 1) k _ _ hd2 (by omega) (by omega) (by omega) (by omega)]
    rfl
theorem impl_longestWay_is (l : List S31) (h : bothOk l = true) (k : Nat) (hk : 61 ≤ k) : impl_longestWay.f k l = some (lw l) := by
  have h1 := bothOk_len h
  unfold impl_longestWay.f
  exact impl_longestWay_loop l h1.2 (bothOk_mem h) l 0 k 0 0 rfl (by omega) (by omega) (by omega) (by omega)
theorem impl_LongestWay_is (l : List S31) (hl : l.length ≤ 1048576) (k : Nat) (hk : l.length + 61 ≤ k) : impl_LongestWay.f k l = some (if bothOk l = true then lw l else -1) := by
  unfold impl_LongestWay.f
  rw [impl_BothOk_is l hl k (by omega)]
  simp only [Option.bind_some]
  by_cases h : bothOk l = true
  · rw [if_pos h, if_pos h, impl_longestWay_is l h k (by omega)]
    rfl
  · rw [if_neg h, if_neg h]
/-! Ways and leaves. -/
theorem lwP_snoc (l : List S31) (x : S31) : ∀ a m, lwP (l ++ [x]) a (m + x.f1) = max (lwP l a m) (a + sum0 l + x.f0) + x.f1 := by
  induction l with
  | nil => intro a m; simp only [List.nil_append, lwP, sum1, sum0]; omega
  | cons y ys ih =>
    intro a m
    simp only [List.cons_append, lwP, sum0]
    rw [show max (m + x.f1) (a + y.f0 + sum1 (y :: (ys ++ [x]))) = max m (a + y.f0 + sum1 (y :: ys)) + x.f1 from by simp only [sum1, sum1_append]; omega, ih]
    omega
theorem lwP_most (l : List S31) : ∀ a m, 0 ≤ m → lwP l a m = max m (lwP l a 0) := by
  induction l with
  | nil => intro a m hm; simp only [lwP]; omega
  | cons y ys ih =>
    intro a m hm
    simp only [lwP]
    rw [ih (a + y.f0) (max m (a + y.f0 + sum1 (y :: ys))) (by omega), ih (a + y.f0) (max 0 (a + y.f0 + sum1 (y :: ys))) (by omega)]
    omega
theorem lw_snoc (l : List S31) (x : S31) (hx : 1 ≤ x.f0 ∧ 1 ≤ x.f1) (h0 : 0 ≤ sum0 l) : lw (l ++ [x]) = max (lw l) (sum0 l + x.f0) + x.f1 := by
  have h := lwP_snoc l x 0 0
  unfold lw
  rw [lwP_most (l ++ [x]) 0 (0 + x.f1) (by omega)] at h
  omega
theorem lw_bound (l : List S31) (hm : ∀ b ∈ l, 1 ≤ b.f0 ∧ b.f0 ≤ 9 ∧ 1 ≤ b.f1 ∧ b.f1 ≤ 9) : 0 ≤ lw l ∧ lw l ≤ 18 * l.length := by
  induction h : l.length generalizing l with
  | zero => have := List.length_eq_zero_iff.1 h; subst this; simp [lw, lwP]
  | succ n ih =>
    have hne : l ≠ [] := fun e => by rw [e] at h; simp at h
    obtain ⟨ys, x, rfl⟩ : ∃ ys x, l = ys ++ [x] := ⟨l.dropLast, l.getLast hne, (List.dropLast_concat_getLast hne).symm⟩
    have hys : ∀ b ∈ ys, 1 ≤ b.f0 ∧ b.f0 ≤ 9 ∧ 1 ≤ b.f1 ∧ b.f1 ≤ 9 := fun b hb => hm b (List.mem_append_left _ hb)
    have hx := hm x (by simp)
    have hl2 : ys.length = n := by simpa using h
    have i1 := ih ys hys hl2
    have s0 := sum0_bound ys hys
    rw [lw_snoc ys x ⟨hx.1, hx.2.2.1⟩ s0.1]
    omega
/-- Both counters' state behind some customers. -/
theorem getLastD_snoc (l : List Int) (x d : Int) : (l ++ [x]).getLastD d = x := by
  rw [List.getLastD_eq_getLast?, List.getLast?_concat]
  rfl
theorem leavesP_snoc (l : List S31) (x : S31) : ∀ a b, leavesP (l ++ [x]) a b = leavesP l a b ++ [max (a + sum0 l + x.f0) ((leavesP l a b).getLastD b) + x.f1] := by
  induction l with
  | nil => intro a b; simp [leavesP, sum0]
  | cons y ys ih =>
    intro a b
    simp only [List.cons_append, leavesP, ih, sum0]
    congr 3
    rw [List.getLastD_cons]
    rw [Int.add_assoc a y.f0 (sum0 ys)]
theorem leaves_last (l : List S31) (hm : ∀ b ∈ l, 1 ≤ b.f0 ∧ b.f0 ≤ 9 ∧ 1 ≤ b.f1 ∧ b.f1 ≤ 9) : (leavesP l 0 0).getLastD 0 = lw l := by
  induction h : l.length generalizing l with
  | zero => have := List.length_eq_zero_iff.1 h; subst this; rfl
  | succ n ih =>
    have hne : l ≠ [] := fun e => by rw [e] at h; simp at h
    obtain ⟨ys, x, rfl⟩ : ∃ ys x, l = ys ++ [x] := ⟨l.dropLast, l.getLast hne, (List.dropLast_concat_getLast hne).symm⟩
    have hys : ∀ b ∈ ys, 1 ≤ b.f0 ∧ b.f0 ≤ 9 ∧ 1 ≤ b.f1 ∧ b.f1 ≤ 9 := fun b hb => hm b (List.mem_append_left _ hb)
    have hx := hm x (by simp)
    rw [leavesP_snoc, getLastD_snoc]
    rw [ih ys hys (by simpa using h), lw_snoc ys x ⟨hx.1, hx.2.2.1⟩ (sum0_bound ys hys).1]
    omega
theorem leaves_take (l : List S31) : ∀ a b n, (leavesP l a b).take n = leavesP (l.take n) a b := by
  induction l with
  | nil => intro a b n; simp [leavesP]
  | cons x xs ih =>
    intro a b n
    cases n with
    | zero => simp [leavesP]
    | succ n => simp [leavesP, ih]
theorem getLastD_take_succ (l : List Int) (n : Nat) (h : n < l.length) (d : Int) : (l.take (n + 1)).getLastD d = l.getD n 0 := by
  rw [take_succ_getD h 0, getLastD_snoc]
/-- Each leaves after the longest way of all up to this one. -/
theorem leaves_at (l : List S31) (hm : ∀ b ∈ l, 1 ≤ b.f0 ∧ b.f0 ≤ 9 ∧ 1 ≤ b.f1 ∧ b.f1 ≤ 9) (n : Nat) (h : n < l.length) : (leavesP l 0 0).getD n 0 = lw (l.take (n + 1)) := by
  rw [← leaves_last (l.take (n + 1)) (fun b hb => hm b (List.mem_of_mem_take hb)), ← leaves_take]
  rw [getLastD_take_succ _ n (by rw [leavesP_length]; exact h)]

/-! law_LeavesBoth -/
theorem law_loop (l : List S31) (hok : bothOk l = true) : ∀ (d i k : Nat), l.length - i = d → i + d = l.length → 1 ≤ i → d + 80 ≤ k → laws_FnLeavesBoth.l0 k l (leavesP l 0 0) i = some true := by
  have hl := bothOk_len hok
  have hm := bothOk_mem hok
  have hlen := leavesP_length l 0 0
  intro d
  induction d with
  | zero =>
    intro i k hd he hi hk
    obtain ⟨k, rfl⟩ : ∃ m, k = m + 1 := ⟨k - 1, by omega⟩
    simp only [laws_FnLeavesBoth.l0]
    rw [hlen, if_neg (by omega), if_pos (by omega), if_pos (by omega)]
    have h0 : rd (leavesP l 0 0) 0 = (rd_T31 l 0).f0 + (rd_T31 l 0).f1 := by
      cases l with
      | nil => simp at hl
      | cons x xs =>
        have := hm x (by simp)
        show max (0 + x.f0) 0 + x.f1 = x.f0 + x.f1
        omega
    have hx := hm (rd_T31 l 0) (by unfold rd_T31; exact getD_mem (by simp; omega) _)
    rw [show wrap64 ((rd_T31 l 0).f0 + (rd_T31 l 0).f1) = (rd_T31 l 0).f0 + (rd_T31 l 0).f1 from w64 (by omega) (by omega), if_pos h0]
    rw [show wrap64 ((l.length : Int) - 1) = ((l.length - 1 : Nat) : Int) from by rw [w64 (by omega) (by omega)]; omega]
    rw [if_pos (by omega), if_pos (by omega), impl_LongestWay_is l (by omega) k (by omega), if_pos hok]
    simp only [Option.bind_some]
    congr 1
    rw [rd_nat, leaves_at l hm (l.length - 1) (by omega), List.take_of_length_le (by omega)]
    simp
  | succ d ih =>
    intro i k hd he hi hk
    obtain ⟨k, rfl⟩ : ∃ m, k = m + 1 := ⟨k - 1, by omega⟩
    simp only [laws_FnLeavesBoth.l0]
    have hlt : i < l.length := by omega
    rw [hlen, if_pos (by omega), if_pos (by omega), show wrap64 ((i : Int) - 1) = ((i - 1 : Nat) : Int) from by rw [w64 (by omega) (by omega)]; omega]
    rw [if_pos (by omega), if_pos (by omega), if_pos (by omega), rd_nat, rd_nat, rd_Both_nat, w64s i (by omega), if_pos (by omega : (0 : Int) ≤ ((i + 1 : Nat) : Int)), if_pos (by omega : ((i + 1 : Nat) : Int) ≤ (l.length : Int)), Int.toNat_natCast]
    have hb := hm (l.getD i z31) (getD_mem hlt _)
    have hs1 : l.take (i + 1) = l.take i ++ [l.getD i z31] := take_succ_getD hlt _
    have hmt : ∀ n, ∀ b ∈ l.take n, 1 ≤ b.f0 ∧ b.f0 ≤ 9 ∧ 1 ≤ b.f1 ∧ b.f1 ≤ 9 := fun n b hb => hm b (List.mem_of_mem_take hb)
    have e1 := leaves_at l hm (i - 1) (by omega)
    have e2 := leaves_at l hm i hlt
    rw [show i - 1 + 1 = i from by omega] at e1
    rw [hs1, lw_snoc _ _ ⟨hb.1, hb.2.2.1⟩ (sum0_bound _ (hmt i)).1] at e2
    have hlw := lw_bound (l.take i) (hmt i)
    have hlt2 : (l.take i).length ≤ 6 := by rw [List.length_take]; omega
    rw [e1, show wrap64 (lw (l.take i) + (l.getD i z31).f1) = lw (l.take i) + (l.getD i z31).f1 from w64 (by omega) (by omega)]
    rw [if_neg (by omega), impl_LongestWay_is _ (by rw [List.length_take]; omega) k (by rw [List.length_take]; omega), if_pos (bothOk_take hok _ (by omega))]
    simp only [Option.bind_some]
    rw [leaves_at l hm i hlt, if_pos rfl]
    exact ih (i + 1) k (by omega) (by omega) (by omega) (by omega)
theorem FnLeavesBoth : laws_FnLeavesBoth.Pure := by
  intro s hs1 hs2 hs3
  refine ⟨1000, ?_⟩
  unfold laws_FnLeavesBoth.f
  by_cases hbig : (s.length : Int) > 1048576
  · rw [if_pos hbig]
  rw [if_neg hbig]
  obtain ⟨t, et, ht, htl⟩ := open_ok (bytes_of hs3)
  obtain ⟨l, q, el, hl, -⟩ := l20Both_ok ht htl 9 (by omega) 1000 (by omega) 0 (by omega) (by omega)
  unfold spec_DrawLeavesBoth.f
  rw [et]; simp only [Option.bind_some]
  rw [el]; simp only [Option.bind_some]
  rw [impl_LeavesBoth_is l (by omega) _ (by omega)]; simp only [Option.bind_some]
  rw [spec_LeavesBoth_is l (by omega) _ (by omega)]; simp only [Option.bind_some]
  have hlen := leavesP_length l 0 0
  by_cases hok : bothOk l = true
  · have h1 := bothOk_len hok
    rw [if_pos hok, sameInts_is _ (by omega) _ (by omega)]; simp only [Option.bind_some]
    rw [if_pos trivial, hlen, if_neg (by omega)]
    exact law_loop l hok (l.length - 1) 1 1000 (by omega) (by omega) (by omega) (by omega)
  · rw [if_neg hok, sameInts_is _ (by simp) _ (by simp)]; simp only [Option.bind_some]
    rw [if_pos trivial, if_pos (by simp), impl_BothOk_is l (by omega) _ (by omega)]
    simp only [Option.bind_some]
    rw [if_neg hok, alive_is _ (by omega)]
    rfl

end Go.Proofs.Ytanmcbjlooknoaa.Pure
