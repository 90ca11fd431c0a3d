/- The pure part of the proof of FnByPairs: the printed functions answer true, for every drawn or given argument within the row's own bounds; no further condition. -/
import Derived.Test.YtanmcbjlooknoaaPFnByPairsx6
import Derived.Laws.BitsLemmas
namespace Go.Proofs.Ytanmcbjlooknoaa.Pure
open Go.RowKit Go.Proofs.Ytanmcbjlooknoaa.PFnByPairs Go.Proofs.YtanmcbjlooknoaaW.PrintWords Go.Proofs.YtanmcbjlooknoaaW.PrintLast Go.Proofs.YtanmcbjlooknoaaW.PrintMore
set_option linter.unusedVariables false
set_option linter.unusedSimpArgs false
/-! base -/
theorem w64 {x : Int} (h0 : -9223372036854775808 ≤ x) (h1 : x ≤ 9223372036854775807) : wrap64 x = x := by
  unfold wrap64
  omega
theorem w64s (n : Nat) (h : n ≤ 4611686018427387904) : wrap64 ((n : Int) + 1) = ((n + 1 : Nat) : Int) := by
  unfold wrap64
  omega
theorem drop_split {α : Type} {l : List α} {i : Nat} {x : α} {xs : List α} (h : l.drop i = x :: xs) : i < l.length ∧ l.drop (i + 1) = xs ∧ ∀ d, l.getD i d = x := by
  have hi : i < l.length := by
    have h2 : 0 < (l.drop i).length := by rw [h]; simp
    rw [List.length_drop] at h2
    omega
  rw [List.drop_eq_getElem_cons hi] at h
  injection h with h1 h2
  exact ⟨hi, h2, fun d => by rw [List.getD_eq_getElem?_getD, List.getElem?_eq_getElem hi, h1]; rfl⟩
theorem drop_nil {α : Type} {l : List α} {i : Nat} (h : l.drop i = []) : l.length ≤ i := List.drop_eq_nil_iff.1 h
theorem getD_lt {α : Type} {l : List α} {i : Nat} (h : i < l.length) (d : α) : l.getD i d = l[i] := by
  rw [List.getD_eq_getElem?_getD, List.getElem?_eq_getElem h]; rfl
theorem rd_nat (l : List Int) (i : Nat) : rd l (i : Int) = l.getD i 0 := by
  unfold rd
  rw [Int.toNat_natCast]
theorem getD_mem {α : Type} {l : List α} {i : Nat} (h : i < l.length) (d : α) : l.getD i d ∈ l := by
  rw [getD_lt h]; exact List.getElem_mem h
theorem take_succ_getD {α : Type} {l : List α} {i : Nat} (h : i < l.length) (d : α) : l.take (i + 1) = l.take i ++ [l.getD i d] := by
  rw [getD_lt h, List.take_succ_eq_append_getElem h]
theorem mx_max (a b : Int) : mx a b = max a b := by
  unfold mx; omega
theorem mn_min (a b : Int) : mn a b = min a b := by
  unfold mn; omega
theorem bind_of {α β : Type} {o : Option α} {r : α} {f : α → Option β} {s : Option β} (h : o = some r) (h2 : f r = s) : o.bind f = s := by rw [h]; exact h2
theorem getD_snoc_last {α : Type} (l : List α) (x d : α) {i : Nat} (h : l.length = i) : (l ++ [x]).getD i d = x := by
  subst h
  rw [List.getD_eq_getElem?_getD, List.getElem?_append_right (Nat.le_refl _), Nat.sub_self]
  rfl
theorem getD_snoc_lt {α : Type} (l r : List α) (d : α) {i : Nat} (h : i < l.length) : (l ++ r).getD i d = l.getD i d := by
  rw [List.getD_eq_getElem?_getD, List.getElem?_append_left h, List.getD_eq_getElem?_getD]

/-! pick -/
theorem xor_small (a b : Int) (ha : 0 ≤ a) (ha2 : a < 1099511627776) (hb : 0 ≤ b) (hb2 : b < 1099511627776) : 0 ≤ Go.bits .xor .i64 a b ∧ Go.bits .xor .i64 a b < 1099511627776 := by
  obtain ⟨x, rfl⟩ := Int.eq_ofNat_of_zero_le ha
  obtain ⟨y, rfl⟩ := Int.eq_ofNat_of_zero_le hb
  have hx : x < 2 ^ 40 := by have : (x : Int) < 1099511627776 := ha2; omega
  have hy : y < 2 ^ 40 := by have : (y : Int) < 1099511627776 := hb2; omega
  have hz : x ^^^ y < 2 ^ 40 := Nat.xor_lt_two_pow hx hy
  have e : Go.bits .xor .i64 (x : Int) (y : Int) = ((x ^^^ y : Nat) : Int) := by
    have hx' : x % 2 ^ IntKind.i64.bits = x := Nat.mod_eq_of_lt (Nat.lt_of_lt_of_le hx (Nat.pow_le_pow_right (by decide) (by decide)))
    have hy' : y % 2 ^ IntKind.i64.bits = y := Nat.mod_eq_of_lt (Nat.lt_of_lt_of_le hy (Nat.pow_le_pow_right (by decide) (by decide)))
    simp only [bits, BitVec.ofInt_natCast, BitVec.toNat_xor, BitVec.toNat_ofNat, hx', hy']
    rw [IntKind.wrap_i64]
    omega
  rw [e]
  omega
theorem tmod_in (x n : Int) (hx : 0 ≤ x) (hn : 1 ≤ n) : 0 ≤ Int.tmod x n ∧ Int.tmod x n < n := by
  rw [Int.tmod_eq_emod_of_nonneg hx]
  exact ⟨Int.emod_nonneg _ (by omega), Int.emod_lt_of_pos _ (by omega)⟩
theorem rd_byte {s : List Int} (hs : ∀ x ∈ s, 0 ≤ x ∧ x ≤ 255) (i : Int) : 0 ≤ rd s i ∧ rd s i ≤ 255 := by
  unfold rd
  by_cases h : i.toNat < s.length
  · exact hs _ (getD_mem h 0)
  · rw [List.getD_eq_getElem?_getD, List.getElem?_eq_none (by omega)]; simp
/-- The reader: what it draws lies in 0..n-1, and its place goes on by one. -/
theorem pick_ok {k : Nat} (hk : 1 ≤ k) {s : List Int} (hs : ∀ x ∈ s, 0 ≤ x ∧ x ≤ 255) (hl : s.length ≤ 2000) (p : Int) (hp : 0 ≤ p) (hp2 : p ≤ 1000000) (n : Int) :
    ∃ v, spec_l20Rd_pick.f k s p n = some (v, p + 1) ∧ 0 ≤ v ∧ (1 ≤ n → v < n) ∧ (n < 1 → v = 0) := by
  obtain ⟨k, rfl⟩ : ∃ m, k = m + 1 := ⟨k - 1, by omega⟩
  have hw : wrap64 (p + 1) = p + 1 := w64 (by omega) (by omega)
  unfold spec_l20Rd_pick.f
  by_cases hn : n < 1
  · refine ⟨0, ?_, by omega, by omega, fun _ => rfl⟩
    rw [if_pos hn, hw]
    simp only [spec_l20Rd_pick.j0]
    rw [if_pos trivial]
  · rw [if_neg hn, hw]
    simp only [spec_l20Rd_pick.j0]
    by_cases he : (s.length : Int) = 0
    · refine ⟨0, ?_, by omega, by omega, fun _ => rfl⟩
      rw [if_pos (by simpa using he)]
    · have hpp : wrap64 (p + 1 - 1) = p := by rw [w64 (by omega) (by omega)]; omega
      rw [if_neg (by simpa using he), hpp]
      have hn0 : ¬ n = 0 := by omega
      have hb := fun i => rd_byte hs i
      by_cases hlt : p < (s.length : Int)
      · have hr := hb p
        have hwr : wrap64 (rd s p) = rd s p := w64 (by omega) (by omega)
        rw [if_pos hlt, if_pos hp, if_neg hn0, hwr]
        have ht := tmod_in (rd s p) n hr.1 (by omega)
        exact ⟨_, rfl, ht.1, fun _ => ht.2, fun h => absurd h hn⟩
      · have hL : 1 ≤ (s.length : Int) := by omega
        have e7 : wrap64 (p * 7) = p * 7 := w64 (by omega) (by omega)
        have e73 : wrap64 (p * 7 + 3) = p * 7 + 3 := w64 (by omega) (by omega)
        have t1 := tmod_in p (s.length : Int) hp hL
        have t2 := tmod_in (p * 7 + 3) (s.length : Int) (by omega) hL
        have r1 := hb (Int.tmod p (s.length : Int))
        have r2 := hb (Int.tmod (p * 7 + 3) (s.length : Int))
        rw [if_neg hlt, if_neg he, if_pos t1.1, if_pos t1.2, e7, e73, if_pos t2.1, if_pos t2.2, if_neg hn0]
        generalize rd s (Int.tmod p (s.length : Int)) = a at *
        generalize rd s (Int.tmod (p * 7 + 3) (s.length : Int)) = b at *
        have hq : Int.tdiv p (s.length : Int) = p / (s.length : Int) := Int.tdiv_eq_ediv_of_nonneg hp
        have q0 : 0 ≤ p / (s.length : Int) := Int.ediv_nonneg hp (by omega)
        have q1 : p / (s.length : Int) ≤ p := Int.ediv_le_self _ hp
        rw [hq]
        generalize p / (s.length : Int) = q at *
        have ea : wrap64 a = a := w64 (by omega) (by omega)
        have eb : wrap64 b = b := w64 (by omega) (by omega)
        have ea2 : wrap64 (a * 131) = a * 131 := w64 (by omega) (by omega)
        have eb2 : wrap64 (b * 1117) = b * 1117 := w64 (by omega) (by omega)
        have ep : wrap64 (p * 29) = p * 29 := w64 (by omega) (by omega)
        have eq_ : wrap64 q = q := w64 (by omega) (by omega)
        have eq2 : wrap64 (q * 53) = q * 53 := w64 (by omega) (by omega)
        have e1 : wrap64 (a * 131 + b * 1117) = a * 131 + b * 1117 := w64 (by omega) (by omega)
        have e2 : wrap64 (a * 131 + b * 1117 + p * 29) = a * 131 + b * 1117 + p * 29 := w64 (by omega) (by omega)
        have e3 : wrap64 (a * 131 + b * 1117 + p * 29 + q * 53) = a * 131 + b * 1117 + p * 29 + q * 53 := w64 (by omega) (by omega)
        rw [ea, eb, ea2, eb2, ep, eq_, eq2, e1, e2, e3]
        have hX0 : 0 ≤ a * 131 + b * 1117 + p * 29 + q * 53 := by omega
        have hX1 : a * 131 + b * 1117 + p * 29 + q * 53 < 1099511627776 := by omega
        generalize a * 131 + b * 1117 + p * 29 + q * 53 = X at *
        have hd : Int.tdiv X 64 = X / 64 := Int.tdiv_eq_ediv_of_nonneg hX0
        have ed : wrap64 (X / 64) = X / 64 := w64 (by omega) (by omega)
        rw [hd, ed]
        have hx := xor_small X (X / 64) hX0 hX1 (by omega) (by omega)
        have ht := tmod_in (Go.bits .xor .i64 X (X / 64)) n hx.1 (by omega)
        exact ⟨_, rfl, ht.1, fun _ => ht.2, fun h => absurd h hn⟩
theorem odd_ok {k : Nat} (hk : 1 ≤ k) {s : List Int} (hs : ∀ x ∈ s, 0 ≤ x ∧ x ≤ 255) (hl : s.length ≤ 2000) (p : Int) (hp : 0 ≤ p) (hp2 : p ≤ 1000000) (n : Int) (hn : n ≤ 1000) :
    ∃ b q, spec_l20Rd_odd.f k s p n = some (b, q) ∧ p ≤ q ∧ q ≤ p + 1 ∧ (n ≤ 0 → b = false) := by
  unfold spec_l20Rd_odd.f
  by_cases h : n > 0
  · obtain ⟨v, hv, -⟩ := pick_ok hk hs hl p hp hp2 n
    rw [if_pos h, hv]
    exact ⟨_, _, rfl, by simp only; omega, by simp only; omega, fun hh => by omega⟩
  · rw [if_neg h]
    exact ⟨_, _, rfl, by omega, by omega, fun _ => rfl⟩
theorem open_ok {s : List Int} (hs : ∀ x ∈ s, 0 ≤ x ∧ x ≤ 255) : ∃ t, spec_l20Open.f s = some (t, 0) ∧ (∀ x ∈ t, 0 ≤ x ∧ x ≤ 255) ∧ t.length ≤ 2000 := by
  unfold spec_l20Open.f
  by_cases h : (s.length : Int) > 2000
  · rw [if_pos h, if_pos (by omega)]
    exact ⟨_, rfl, fun x hx => hs x (List.mem_of_mem_take hx), by rw [List.length_take]; omega⟩
  · rw [if_neg h]
    exact ⟨_, rfl, hs, by omega⟩
theorem bytes_of {l : List Int} (h : ∀ x ∈ l, (Lit.int .u8 x).wf = true) : ∀ x ∈ l, 0 ≤ x ∧ x ≤ 255 := by
  intro x hx
  have := h x hx
  simp only [Lit.wf, IntKind.min, IntKind.max, IntKind.signed, IntKind.bits, Bool.and_eq_true, decide_eq_true_eq, Bool.false_eq_true, if_false] at this
  omega

/-! drawboth -/
theorem l20Both_loop {s : List Int} (hs : ∀ x ∈ s, 0 ≤ x ∧ x ≤ 255) (hl : s.length ≤ 2000) (m high : Int) (hm : m ≤ 1000) (hh : 1 ≤ high) (hh2 : high ≤ 1000) : ∀ (d : Nat) (k : Nat) (l : List S31) (p : Int), d + 2 ≤ k → 0 ≤ p → p + 2 * d + 3 ≤ 1000000 → l.length + d ≤ 100 → 1 ≤ l.length + d →
    ∃ r q, spec_l20Both.l0 k m l high d s p = some (r, q) ∧ r.length ≤ 200 ∧ 0 ≤ q ∧ q ≤ p + 2 * d + 3 := by
  intro d
  induction d with
  | zero =>
    intro k l p hk hp hp2 hll h0
    obtain ⟨k, rfl⟩ : ∃ m, k = m + 1 := ⟨k - 1, by omega⟩
    simp only [spec_l20Both.l0]
    rw [if_neg (by omega)]
    obtain ⟨b, q, e, hq1, hq2, -⟩ := odd_ok (k := k) (by omega) hs hl p hp (by omega) m hm
    rw [e]; simp only [Option.bind_some]
    cases b with
    | false => rw [if_neg (by simp)]; exact ⟨_, _, rfl, by omega, by omega, by omega⟩
    | true =>
      rw [if_pos rfl]
      obtain ⟨v, e2, hv⟩ := pick_ok (k := k) (by omega) hs hl q (by omega) (by omega) 3
      rw [e2]; simp only [Option.bind_some]
      by_cases v0 : v = 0
      · rw [if_pos v0]; exact ⟨_, _, rfl, by simp, by omega, by omega⟩
      · rw [if_neg v0]
        by_cases v1 : v = 1
        · rw [if_pos v1, if_pos (by omega)]; exact ⟨_, _, rfl, by rw [List.length_set]; omega, by omega, by omega⟩
        · rw [if_neg v1, if_pos (by omega)]; exact ⟨_, _, rfl, by simp, by omega, by omega⟩
  | succ d ih =>
    intro k l p hk hp hp2 hll h0
    obtain ⟨k, rfl⟩ : ∃ m, k = m + 1 := ⟨k - 1, by omega⟩
    simp only [spec_l20Both.l0]
    rw [if_pos (by omega)]
    obtain ⟨v, e, hv0, hv1, -⟩ := pick_ok (k := k) (by omega) hs hl p hp (by omega) high
    rw [e]; simp only [Option.bind_some]
    obtain ⟨v2, e2, hv2, hv3, -⟩ := pick_ok (k := k) (by omega) hs hl (p + 1) (by omega) (by omega) high
    rw [e2]; simp only [Option.bind_some]
    rw [if_pos (by omega), show wrap64 (((d + 1 : Nat) : Int) - 1) = (d : Int) from by rw [w64 (by omega) (by omega)]; omega]
    obtain ⟨r, q, e3, h1, h2, h3⟩ := ih k (l ++ [⟨wrap64 (1 + v), wrap64 (1 + v2)⟩]) (p + 1 + 1) (by omega) (by omega) (by omega) (by rw [List.length_append]; simp; omega) (by rw [List.length_append]; simp; omega)
    exact ⟨r, q, e3, h1, h2, by omega⟩
theorem l20Both_ok {s : List Int} (hs : ∀ x ∈ s, 0 ≤ x ∧ x ≤ 255) (hl : s.length ≤ 2000) (m : Int) (hm : m ≤ 1000) (k : Nat) (hk : 20 ≤ k) (p : Int) (hp : 0 ≤ p) (hp2 : p ≤ 1000) :
    ∃ r q, spec_l20Both.f k s p m = some (r, q) ∧ r.length ≤ 200 ∧ 0 ≤ q ∧ q ≤ p + 20 := by
  unfold spec_l20Both.f
  simp only [Option.bind_some]
  obtain ⟨v, e, hv0, hv1, -⟩ := pick_ok (k := k) (by omega) hs hl p hp (by omega) 2
  have hv1 := hv1 (by omega)
  rw [e]; simp only [Option.bind_some]
  rw [if_pos hv0, if_pos (by simp; omega)]
  obtain ⟨v2, e2, hv2, hv3, -⟩ := pick_ok (k := k) (by omega) hs hl (p + 1) (by omega) (by omega) 5
  have hv3 := hv3 (by omega)
  rw [e2]; simp only [Option.bind_some]
  have hr : 1 ≤ rd [3, 9] v ∧ rd [3, 9] v ≤ 1000 := by
    have : v = 0 ∨ v = 1 := by omega
    rcases this with rfl | rfl <;> decide
  rw [w64 (by omega) (by omega), show (1 + v2) = ((v2.toNat + 1 : Nat) : Int) from by omega]
  obtain ⟨r, q, e3, h1, h2, h3⟩ := l20Both_loop hs hl m (rd [3, 9] v) hm hr.1 hr.2 (v2.toNat + 1) k [] (p + 1 + 1) (by omega) (by omega) (by omega) (by simp only [List.length_nil]; omega) (by simp only [List.length_nil]; omega)
  exact ⟨r, q, e3, h1, h2, by omega⟩

/-! l1in -/
theorem spec_l1In_is (a b c : Int) : spec_l1In.f a b c = some (decide (b ≤ a ∧ a ≤ c)) := by
  unfold spec_l1In.f
  by_cases h : a ≥ b
  · rw [if_pos h]
    congr 1
    apply decide_eq_decide.2
    omega
  · rw [if_neg h]
    congr 1
    symm
    exact decide_eq_false (by omega)

/-! both -/
/-- Customers of two counters, as both texts ask. -/
def bothOk (l : List S31) : Bool := decide ((∀ b ∈ l, 1 ≤ b.f0 ∧ b.f0 ≤ 9 ∧ 1 ≤ b.f1 ∧ b.f1 ≤ 9) ∧ 1 ≤ l.length ∧ l.length ≤ 6)
theorem bothOk_mem {l : List S31} (h : bothOk l = true) : ∀ b ∈ l, 1 ≤ b.f0 ∧ b.f0 ≤ 9 ∧ 1 ≤ b.f1 ∧ b.f1 ≤ 9 := (of_decide_eq_true h).1
theorem bothOk_len {l : List S31} (h : bothOk l = true) : 1 ≤ l.length ∧ l.length ≤ 6 := (of_decide_eq_true h).2
theorem bothOk_take {l : List S31} (h : bothOk l = true) (n : Nat) (hn : 1 ≤ n) : bothOk (l.take n) = true := by
  have h1 := bothOk_mem h
  have h2 := bothOk_len h
  exact decide_eq_true ⟨fun b hb => h1 b (List.mem_of_mem_take hb), by rw [List.length_take]; omega, by rw [List.length_take]; omega⟩
theorem rd_Both_nat (l : List S31) (i : Nat) : rd_T31 l (i : Int) = l.getD i z31 := by
  unfold rd_T31
  rw [Int.toNat_natCast]
theorem impl_BothOk_loop (l : List S31) (hl : l.length ≤ 1048576) : ∀ (suf : List S31) (i k : Nat), l.drop i = suf → suf.length < k → i ≤ l.length →
    impl_BothOk.l0 k l l (l.length : Int) i = some (decide ((∀ b ∈ suf, 1 ≤ b.f0 ∧ b.f0 ≤ 9 ∧ 1 ≤ b.f1 ∧ b.f1 ≤ 9) ∧ 1 ≤ l.length ∧ l.length ≤ 6)) := by
  intro suf
  induction suf with
  | nil =>
    intro i k hd hk hi
    obtain ⟨k, rfl⟩ : ∃ m, k = m + 1 := ⟨k - 1, by omega⟩
    have := drop_nil hd
    simp only [impl_BothOk.l0]
    rw [if_neg (by omega)]
    by_cases h1 : (l.length : Int) ≥ 1
    · rw [if_pos h1]
      congr 1
      apply decide_eq_decide.2
      constructor
      · intro h; exact ⟨by simp, by omega, by omega⟩
      · intro h; omega
    · rw [if_neg h1]
      congr 1
      symm
      exact decide_eq_false (fun h => by omega)
  | cons x xs ih =>
    intro i k hd hk hi
    obtain ⟨k, rfl⟩ : ∃ m, k = m + 1 := ⟨k - 1, by omega⟩
    obtain ⟨hlt, hd2, hx⟩ := drop_split hd
    simp only [impl_BothOk.l0]
    rw [if_pos (by omega), if_pos (by omega), if_pos (by omega), rd_Both_nat, hx, w64s i (by omega), ih (i + 1) k hd2 (by simp at hk; omega) (by omega)]
    repeat' split
    all_goals congr 1
    any_goals
      symm
      apply decide_eq_false
      intro h
      have := h.1 x (by simp)
      omega
    apply decide_eq_decide.2
    constructor
    · intro h
      refine ⟨fun b hb => ?_, h.2⟩
      rcases List.mem_cons.1 hb with rfl | hb
      · omega
      · exact h.1 b hb
    · intro h
      exact ⟨fun b hb => h.1 b (List.mem_cons_of_mem _ hb), h.2⟩
theorem impl_BothOk_is (l : List S31) (hl : l.length ≤ 1048576) (k : Nat) (hk : l.length < k) : impl_BothOk.f k l = some (bothOk l) :=
  impl_BothOk_loop l hl l 0 k rfl hk (by omega)
theorem spec_BothOk_loop (l : List S31) (hl : l.length ≤ 1048576) : ∀ (suf : List S31) (i k : Nat), l.drop i = suf → suf.length < k → i ≤ l.length →
    spec_BothOk.l0 k l i = some (decide ((∀ b ∈ suf, 1 ≤ b.f0 ∧ b.f0 ≤ 9 ∧ 1 ≤ b.f1 ∧ b.f1 ≤ 9) ∧ 1 ≤ l.length ∧ l.length ≤ 6)) := by
  intro suf
  induction suf with
  | nil =>
    intro i k hd hk hi
    obtain ⟨k, rfl⟩ : ∃ m, k = m + 1 := ⟨k - 1, by omega⟩
    have := drop_nil hd
    simp only [spec_BothOk.l0]
    rw [if_neg (by omega), spec_l1In_is]
    simp only [Option.bind_some]
    congr 1
    apply decide_eq_decide.2
    constructor
    · intro h; exact ⟨by simp, by omega, by omega⟩
    · intro h; omega
  | cons x xs ih =>
    intro i k hd hk hi
    obtain ⟨k, rfl⟩ : ∃ m, k = m + 1 := ⟨k - 1, by omega⟩
    obtain ⟨hlt, hd2, hx⟩ := drop_split hd
    simp only [spec_BothOk.l0]
    rw [if_pos (by omega), if_pos (by omega), rd_Both_nat, hx, spec_l1In_is, spec_l1In_is, w64s i (by omega), ih (i + 1) k hd2 (by simp at hk; omega) (by omega)]
    simp only [Option.bind_some, decide_eq_true_eq]
    repeat' split
    all_goals congr 1
    any_goals
      symm
      apply decide_eq_false
      intro h
      have := h.1 x (by simp)
      omega
    apply decide_eq_decide.2
    constructor
    · intro h
      refine ⟨fun b hb => ?_, h.2⟩
      rcases List.mem_cons.1 hb with rfl | hb
      · omega
      · exact h.1 b hb
    · intro h
      exact ⟨fun b hb => h.1 b (List.mem_cons_of_mem _ hb), h.2⟩
theorem spec_BothOk_is (l : List S31) (hl : l.length ≤ 1048576) (k : Nat) (hk : l.length < k) : spec_BothOk.f k l = some (bothOk l) :=
  spec_BothOk_loop l hl l 0 k rfl hk (by omega)

/-! customers -/
/-- Customers, as both texts ask: seen from a place on, with the one ahead. -/
def custFrom : Option S54 → List S54 → Bool
  | _, [] => true
  | none, c :: cs => decide (0 ≤ c.f0 ∧ c.f0 ≤ 60 ∧ 1 ≤ c.f1 ∧ c.f1 ≤ 9) && custFrom (some c) cs
  | some p, c :: cs => decide (0 ≤ c.f0 ∧ c.f0 ≤ 60 ∧ 1 ≤ c.f1 ∧ c.f1 ≤ 9 ∧ p.f0 ≤ c.f0) && custFrom (some c) cs
def custOk (l : List S54) : Bool := custFrom none l && decide (l.length ≤ 8)
theorem rd_Customer_nat (l : List S54) (i : Nat) : rd_T54 l (i : Int) = l.getD i z54 := by
  unfold rd_T54
  rw [Int.toNat_natCast]
theorem cust_bad {p : Option S54} {x : S54} {xs : List S54} (h : ¬ (0 ≤ x.f0 ∧ x.f0 ≤ 60 ∧ 1 ≤ x.f1 ∧ x.f1 ≤ 9)) : custFrom p (x :: xs) = false := by
  cases p with
  | none => simp only [custFrom, decide_eq_false h, Bool.false_and]
  | some q => simp only [custFrom, decide_eq_false (show ¬ (0 ≤ x.f0 ∧ x.f0 ≤ 60 ∧ 1 ≤ x.f1 ∧ x.f1 ≤ 9 ∧ q.f0 ≤ x.f0) from fun hh => h ⟨hh.1, hh.2.1, hh.2.2.1, hh.2.2.2.1⟩), Bool.false_and]
theorem cust_bad2 {p x : S54} {xs : List S54} (h : x.f0 < p.f0) : custFrom (some p) (x :: xs) = false := by
  simp only [custFrom, decide_eq_false (show ¬ (0 ≤ x.f0 ∧ x.f0 ≤ 60 ∧ 1 ≤ x.f1 ∧ x.f1 ≤ 9 ∧ p.f0 ≤ x.f0) from fun hh => by omega), Bool.false_and]
theorem impl_CustomersOk_loop (l : List S54) (hl : l.length ≤ 1048576) : ∀ (suf : List S54) (i k : Nat), l.drop i = suf → suf.length < k → i ≤ l.length →
    impl_CustomersOk.l0 k l l (l.length : Int) i = some (custFrom (if i = 0 then none else some (l.getD (i - 1) z54)) suf && decide (l.length ≤ 8)) := by
  intro suf
  induction suf with
  | nil =>
    intro i k hd hk hi
    obtain ⟨k, rfl⟩ : ∃ m, k = m + 1 := ⟨k - 1, by omega⟩
    have := drop_nil hd
    simp only [impl_CustomersOk.l0]
    rw [if_neg (by omega)]
    congr 1
    have e : (decide ((l.length : Int) ≤ 8)) = decide (l.length ≤ 8) := decide_eq_decide.2 (by omega)
    rw [e]
    split <;> simp [custFrom]
  | cons x xs ih =>
    intro i k hd hk hi
    obtain ⟨k, rfl⟩ : ∃ m, k = m + 1 := ⟨k - 1, by omega⟩
    obtain ⟨hlt, hd2, hx⟩ := drop_split hd
    simp only [impl_CustomersOk.l0]
    rw [if_pos (by omega), if_pos (by omega), if_pos (by omega), rd_Customer_nat, hx, w64s i (by omega), ih (i + 1) k hd2 (by simp at hk; omega) (by omega)]
    rw [if_neg (show ¬ i + 1 = 0 by omega), show i + 1 - 1 = i from rfl, hx]
    by_cases h1 : x.f0 < 0
    · rw [if_pos h1, cust_bad (by omega), Bool.false_and]
    rw [if_neg h1]
    by_cases h2 : x.f0 > 60
    · rw [if_pos h2, cust_bad (by omega), Bool.false_and]
    rw [if_neg h2]
    by_cases hi0 : i = 0
    · subst hi0
      rw [if_neg (by omega)]
      by_cases h3 : x.f1 < 1
      · rw [if_pos h3, cust_bad (by omega), Bool.false_and]
      rw [if_neg h3]
      by_cases h4 : x.f1 > 9
      · rw [if_pos h4, cust_bad (by omega), Bool.false_and]
      rw [if_neg h4, if_pos rfl]
      have e : decide (0 ≤ x.f0 ∧ x.f0 ≤ 60 ∧ 1 ≤ x.f1 ∧ x.f1 ≤ 9) = true := decide_eq_true (by omega)
      simp only [custFrom, e, Bool.true_and]
    · rw [if_pos (by omega), show wrap64 ((i : Int) - 1) = ((i - 1 : Nat) : Int) from by rw [w64 (by omega) (by omega)]; omega, if_pos (by omega), if_pos (by omega), rd_Customer_nat, if_neg hi0]
      by_cases h5 : x.f0 < (l.getD (i - 1) z54).f0
      · rw [if_pos h5, cust_bad2 h5, Bool.false_and]
      rw [if_neg h5]
      by_cases h3 : x.f1 < 1
      · rw [if_pos h3, cust_bad (by omega), Bool.false_and]
      rw [if_neg h3]
      by_cases h4 : x.f1 > 9
      · rw [if_pos h4, cust_bad (by omega), Bool.false_and]
      rw [if_neg h4]
      have e : decide (0 ≤ x.f0 ∧ x.f0 ≤ 60 ∧ 1 ≤ x.f1 ∧ x.f1 ≤ 9 ∧ (l.getD (i - 1) z54).f0 ≤ x.f0) = true := decide_eq_true (by omega)
      simp only [custFrom, e, Bool.true_and]
theorem impl_CustomersOk_is (l : List S54) (hl : l.length ≤ 1048576) (k : Nat) (hk : l.length < k) : impl_CustomersOk.f k l = some (custOk l) := by
  unfold impl_CustomersOk.f
  exact impl_CustomersOk_loop l hl l 0 k rfl hk (by omega)

/-! alive -/
theorem alive_is (k : Nat) (hk : 2 ≤ k) : laws_alive.f k = some true := by
  unfold laws_alive.f
  rw [impl_CustomersOk_is _ (by simp) k (by simp; omega)]
  simp only [Option.bind_some]
  rw [if_pos (by decide), impl_CustomersOk_is _ (by simp) k (by simp; omega)]
  rfl

/-! longest_lw -/
def sum0 : List S31 → Int
  | [] => 0
  | x :: xs => x.f0 + sum0 xs
def sum1 : List S31 → Int
  | [] => 0
  | x :: xs => x.f1 + sum1 xs
/-- The longest way, those ahead having needed a at the first counter; at least m. -/
def lwP : List S31 → Int → Int → Int
  | [], _, m => m
  | x :: xs, a, m => lwP xs (a + x.f0) (max m (a + x.f0 + sum1 (x :: xs)))
def lw (l : List S31) : Int := lwP l 0 0
theorem sum0_append (l r : List S31) : sum0 (l ++ r) = sum0 l + sum0 r := by
  induction l with
  | nil => simp [sum0]
  | cons x xs ih => simp [sum0, ih]; omega
theorem sum1_append (l r : List S31) : sum1 (l ++ r) = sum1 l + sum1 r := by
  induction l with
  | nil => simp [sum1]
  | cons x xs ih => simp [sum1, ih]; omega
theorem sum1_bound (l : List S31) (hm : ∀ b ∈ l, 1 ≤ b.f0 ∧ b.f0 ≤ 9 ∧ 1 ≤ b.f1 ∧ b.f1 ≤ 9) : 0 ≤ sum1 l ∧ sum1 l ≤ 9 * l.length := by
  induction l with
  | nil => simp [sum1]
  | cons x xs ih =>
    have := ih (fun b hb => hm b (List.mem_cons_of_mem _ hb))
    have := hm x (by simp)
    simp only [sum1, List.length_cons]
    omega
theorem sum0_bound (l : List S31) (hm : ∀ b ∈ l, 1 ≤ b.f0 ∧ b.f0 ≤ 9 ∧ 1 ≤ b.f1 ∧ b.f1 ≤ 9) : 0 ≤ sum0 l ∧ sum0 l ≤ 9 * l.length := by
  induction l with
  | nil => simp [sum0]
  | cons x xs ih =>
    have := ih (fun b hb => hm b (List.mem_cons_of_mem _ hb))
    have := hm x (by simp)
    simp only [sum0, List.length_cons]
    omega
theorem impl_longestWay_inner (l : List S31) (ys : List S31) (hys : ys.length ≤ 6) (hm : ∀ b ∈ ys, 1 ≤ b.f0 ∧ b.f0 ≤ 9 ∧ 1 ≤ b.f1 ∧ b.f1 ≤ 9) (most first : Int) (r : List S31) (len at_ : Int) : ∀ (suf : List S31) (i k : Nat) (n : Int), ys.drop i = suf → i ≤ ys.length → 0 ≤ n → n ≤ 1000 + 9 * i →
    impl_longestWay.l1 (k + suf.length + 1) l most first n r len at_ ys (ys.length : Int) i = impl_longestWay.l0 k l (max most (n + sum1 suf)) first r len (wrap64 (at_ + 1)) := by
  intro suf
  induction suf with
  | nil =>
    intro i k n hd hi hn0 hn
    have := drop_nil hd
    simp only [List.length_nil, Nat.add_zero, impl_longestWay.l1]
    rw [if_neg (by omega), mx_max]
    simp [sum1]
  | cons x xs ih =>
    intro i k n hd hi hn0 hn
    obtain ⟨hlt, hd2, hx⟩ := drop_split hd
    have hxb := hm x (by rw [← hx z31]; exact getD_mem hlt _)
    rw [show k + (x :: xs).length + 1 = (k + xs.length + 1) + 1 from by simp only [List.length_cons]; omega]
    rw [impl_longestWay.l1]
    rw [if_pos (by omega), if_pos (by omega), if_pos (by omega), rd_Both_nat, hx, w64s i (by omega), show wrap64 (n + x.f1) = n + x.f1 from w64 (by omega) (by omega)]
    rw [ih (i + 1) k _ hd2 (by omega) (by omega) (by omega)]
    simp only [sum1]
    rw [Int.add_assoc]
theorem impl_longestWay_mono : ∀ k, (∀ y0 y1 y2 y3 y4 y5, LeO (impl_longestWay.l0 k y0 y1 y2 y3 y4 y5) (impl_longestWay.l0 (k + 1) y0 y1 y2 y3 y4 y5)) := fun k => (impl_longestWay.mono_l k).1
theorem impl_longestWay_loop (l : List S31) (hl : l.length ≤ 6) (hm : ∀ b ∈ l, 1 ≤ b.f0 ∧ b.f0 ≤ 9 ∧ 1 ≤ b.f1 ∧ b.f1 ≤ 9) : ∀ (suf : List S31) (i k : Nat) (most first : Int), l.drop i = suf → i ≤ l.length → suf.length * 10 + 1 ≤ k → 0 ≤ first → first ≤ 9 * i →
    impl_longestWay.l0 k l most first l (l.length : Int) i = some (lwP suf first most) := by
  intro suf
  induction suf with
  | nil =>
    intro i k most first hd hi hk h0 h1
    obtain ⟨k, rfl⟩ : ∃ m, k = m + 1 := ⟨k - 1, by omega⟩
    have := drop_nil hd
    simp only [impl_longestWay.l0]
    rw [if_neg (by omega)]
    rfl
  | cons x xs ih =>
    intro i k most first hd hi hk h0 h1
    obtain ⟨hlt, hd2, hx⟩ := drop_split hd
    have hxb := hm x (by rw [← hx z31]; exact getD_mem hlt _)
    have hmd : ∀ b ∈ x :: xs, 1 ≤ b.f0 ∧ b.f0 ≤ 9 ∧ 1 ≤ b.f1 ∧ b.f1 ≤ 9 := fun b hb => hm b (by rw [← hd] at hb; exact List.mem_of_mem_drop hb)
    have hlen : (x :: xs).length ≤ 6 := by rw [← hd, List.length_drop]; omega
    simp only [List.length_cons] at hk hlen
    obtain ⟨k, rfl⟩ : ∃ m, k = (m + (x :: xs).length + 1) + 1 := ⟨k - ((x :: xs).length + 2), by simp only [List.length_cons]; omega⟩
    simp only [List.length_cons] at hk
    rw [impl_longestWay.l0]
    rw [if_pos (by omega), if_pos (by omega), if_pos (by omega), if_pos (by omega)]
    simp only [Option.bind_some]
    rw [Int.toNat_natCast, hd, rd_Both_nat, hx, show wrap64 (first + x.f0) = first + x.f0 from w64 (by omega) (by omega)]
    have hi1 := impl_longestWay_inner l (x :: xs) (by simp only [List.length_cons]; omega) hmd most (first + x.f0) l (l.length : Int) i (x :: xs) 0 k (first + x.f0) rfl (by omega) (by omega) (by omega)
    rw [show ((0 : Nat) : Int) = 0 from rfl] at hi1
    rw [hi1, w64s i (by omega), ih (i + 1) k _ _ hd2 (by omega) (by omega) (by omega) (by omega)]
    rfl
theorem impl_longestWay_is (l : List S31) (h : bothOk l = true) (k : Nat) (hk : 61 ≤ k) : impl_longestWay.f k l = some (lw l) := by
  have h1 := bothOk_len h
  unfold impl_longestWay.f
  exact impl_longestWay_loop l h1.2 (bothOk_mem h) l 0 k 0 0 rfl (by omega) (by omega) (by omega) (by omega)
theorem impl_LongestWay_is (l : List S31) (hl : l.length ≤ 1048576) (k : Nat) (hk : l.length + 61 ≤ k) : impl_LongestWay.f k l = some (if bothOk l = true then lw l else -1) := by
  unfold impl_LongestWay.f
  rw [impl_BothOk_is l hl k (by omega)]
  simp only [Option.bind_some]
  by_cases h : bothOk l = true
  · rw [if_pos h, if_pos h, impl_longestWay_is l h k (by omega)]
    rfl
  · rw [if_neg h, if_neg h]
/-! Ways and leaves. -/
theorem lwP_snoc (l : List S31) (x : S31) : ∀ a m, lwP (l ++ [x]) a (m + x.f1) = max (lwP l a m) (a + sum0 l + x.f0) + x.f1 := by
  induction l with
  | nil => intro a m; simp only [List.nil_append, lwP, sum1, sum0]; omega
  | cons y ys ih =>
    intro a m
    simp only [List.cons_append, lwP, sum0]
    rw [show max (m + x.f1) (a + y.f0 + sum1 (y :: (ys ++ [x]))) = max m (a + y.f0 + sum1 (y :: ys)) + x.f1 from by simp only [sum1, sum1_append]; omega, ih]
    omega
theorem lwP_most (l : List S31) : ∀ a m, 0 ≤ m → lwP l a m = max m (lwP l a 0) := by
  induction l with
  | nil => intro a m hm; simp only [lwP]; omega
  | cons y ys ih =>
    intro a m hm
    simp only [lwP]
    rw [ih (a + y.f0) (max m (a + y.f0 + sum1 (y :: ys))) (by omega), ih (a + y.f0) (max 0 (a + y.f0 + sum1 (y :: ys))) (by omega)]
    omega
theorem lw_snoc (l : List S31) (x : S31) (hx : 1 ≤ x.f0 ∧ 1 ≤ x.f1) (h0 : 0 ≤ sum0 l) : lw (l ++ [x]) = max (lw l) (sum0 l + x.f0) + x.f1 := by
  have h := lwP_snoc l x 0 0
  unfold lw
  rw [lwP_most (l ++ [x]) 0 (0 + x.f1) (by omega)] at h
  omega
theorem lw_bound (l : List S31) (hm : ∀ b ∈ l, 1 ≤ b.f0 ∧ b.f0 ≤ 9 ∧ 1 ≤ b.f1 ∧ b.f1 ≤ 9) : 0 ≤ lw l ∧ lw l ≤ 18 * l.length := by
  induction h : l.length generalizing l with
  | zero => have := List.length_eq_zero_iff.1 h; subst this; simp [lw, lwP]
  | succ n ih =>
    have hne : l ≠ [] := fun e => by rw [e] at h; simp at h
    obtain ⟨ys, x, rfl⟩ : ∃ ys x, l = ys ++ [x] := ⟨l.dropLast, l.getLast hne, (List.dropLast_concat_getLast hne).symm⟩
    have hys : ∀ b ∈ ys, 1 ≤ b.f0 ∧ b.f0 ≤ 9 ∧ 1 ≤ b.f1 ∧ b.f1 ≤ 9 := fun b hb => hm b (List.mem_append_left _ hb)
    have hx := hm x (by simp)
    have hl2 : ys.length = n := by simpa using h
    have i1 := ih ys hys hl2
    have s0 := sum0_bound ys hys
    rw [lw_snoc ys x ⟨hx.1, hx.2.2.1⟩ s0.1]
    omega

/-! once_impl -/
/-- Each number of a row lies in 0..many-1, and is not among those ahead. -/
def onceFrom (many : Int) : List Int → List Int → Bool
  | _, [] => true
  | seen, x :: xs => decide (0 ≤ x ∧ x < many ∧ ¬ x ∈ seen) && onceFrom many (seen ++ [x]) xs
def onceP (row : List Int) (many : Int) : Bool := onceFrom many [] row && decide (1 ≤ many ∧ many ≤ 6 ∧ (row.length : Int) = many)
theorem once_bad {many x : Int} {seen xs : List Int} (h : ¬ (0 ≤ x ∧ x < many ∧ ¬ x ∈ seen)) : onceFrom many seen (x :: xs) = false := by
  simp only [onceFrom, decide_eq_false h, Bool.false_and]
theorem once_good {many x : Int} {seen xs : List Int} (h : 0 ≤ x ∧ x < many ∧ ¬ x ∈ seen) : onceFrom many seen (x :: xs) = onceFrom many (seen ++ [x]) xs := by
  simp only [onceFrom, decide_eq_true h, Bool.true_and]
theorem index_all (F : List Int) (v : Int) (hF : F.length ≤ 1048576) : ∀ (suf : List Int) (i k : Nat), F.drop i = suf → suf.length < k → i ≤ F.length → ∃ r, slices_Index_int_int.l0 k F v (F.length : Int) i = some r ∧ (r ≥ 0 ↔ v ∈ suf) := by
  intro suf
  induction suf with
  | nil =>
    intro i k hd hk hi
    obtain ⟨k, rfl⟩ : ∃ m, k = m + 1 := ⟨k - 1, by omega⟩
    have := drop_nil hd
    simp only [slices_Index_int_int.l0]
    rw [if_neg (by omega)]
    exact ⟨-1, rfl, by simp⟩
  | cons x xs ih =>
    intro i k hd hk hi
    obtain ⟨k, rfl⟩ : ∃ m, k = m + 1 := ⟨k - 1, by omega⟩
    obtain ⟨hlt, hd2, hx⟩ := drop_split hd
    simp only [slices_Index_int_int.l0]
    rw [if_pos (by omega), if_pos (by omega), if_pos (by omega), rd_nat, hx]
    by_cases hv : v = x
    · rw [if_pos hv]; exact ⟨(i : Int), rfl, by rw [hv]; simp⟩
    · rw [if_neg hv, w64s i (by omega)]
      obtain ⟨r, e, hr⟩ := ih (i + 1) k hd2 (by simp at hk; omega) (by omega)
      exact ⟨r, e, by rw [hr, List.mem_cons]; simp [hv]⟩
theorem contains_is (F : List Int) (v : Int) (hF : F.length ≤ 1048576) (k : Nat) (hk : F.length < k) : slices_Contains_int_int.f k F v = some (decide (v ∈ F)) := by
  unfold slices_Contains_int_int.f slices_Index_int_int.f
  obtain ⟨r, e, hr⟩ := index_all F v hF F 0 k rfl hk (by omega)
  rw [show ((0 : Nat) : Int) = 0 from rfl] at e
  rw [e]
  simp only [Option.bind_some]
  congr 1
  exact decide_eq_decide.2 hr
theorem impl_EachOnce_loop (row : List Int) (many : Int) (hl : row.length ≤ 1048576) : ∀ (suf : List Int) (i k : Nat), row.drop i = suf → row.length + suf.length + 2 < k → i ≤ row.length →
    impl_EachOnce.l0 k row many row (row.length : Int) i = some (onceFrom many (row.take i) suf && decide (1 ≤ many ∧ many ≤ 6 ∧ (row.length : Int) = many)) := by
  intro suf
  induction suf with
  | nil =>
    intro i k hd hk hi
    obtain ⟨k, rfl⟩ : ∃ m, k = m + 1 := ⟨k - 1, by omega⟩
    have := drop_nil hd
    simp only [impl_EachOnce.l0]
    rw [if_neg (by omega)]
    simp only [onceFrom, Bool.true_and]
    by_cases h1 : many ≥ 1
    · rw [if_pos h1]
      by_cases h2 : many ≤ 6
      · rw [if_pos h2]
        congr 1
        rw [Bool.eq_iff_iff]
        simp
        omega
      · rw [if_neg h2, decide_eq_false (by omega)]
    · rw [if_neg h1, decide_eq_false (by omega)]
  | cons x xs ih =>
    intro i k hd hk hi
    obtain ⟨k, rfl⟩ : ∃ m, k = m + 1 := ⟨k - 1, by omega⟩
    obtain ⟨hlt, hd2, hx⟩ := drop_split hd
    simp only [List.length_cons] at hk
    simp only [impl_EachOnce.l0]
    rw [if_pos (by omega), if_pos (by omega), if_pos (by omega), rd_nat, hx]
    by_cases h1 : x < 0
    · rw [if_pos h1, once_bad (by omega), Bool.false_and]
    rw [if_neg h1]
    by_cases h2 : x ≥ many
    · rw [if_pos h2, once_bad (by omega), Bool.false_and]
    rw [if_neg h2, if_pos (by omega), Int.toNat_natCast, contains_is (row.take i) x (by rw [List.length_take]; omega) k (by rw [List.length_take]; omega)]
    simp only [Option.bind_some, decide_eq_true_eq]
    by_cases h3 : x ∈ row.take i
    · rw [if_pos h3, once_bad (fun h => h.2.2 h3), Bool.false_and]
    rw [if_neg h3, w64s i (by omega), ih (i + 1) k hd2 (by omega) (by omega), once_good ⟨by omega, by omega, h3⟩]
    rw [take_succ_getD hlt 0, hx]
theorem impl_EachOnce_is (row : List Int) (many : Int) (hl : row.length ≤ 1048576) (k : Nat) (hk : 2 * row.length + 2 < k) : impl_EachOnce.f k row many = some (onceP row many) := by
  unfold impl_EachOnce.f onceP
  have h := impl_EachOnce_loop row many hl row 0 k rfl (by omega) (by omega)
  exact h
theorem onceFrom_mem {many : Int} : ∀ {xs seen : List Int}, onceFrom many seen xs = true → ∀ x ∈ xs, 0 ≤ x ∧ x < many := by
  intro xs
  induction xs with
  | nil => intro seen _ x hx; cases hx
  | cons y ys ih =>
    intro seen h x hx
    simp only [onceFrom, Bool.and_eq_true, decide_eq_true_eq] at h
    rcases List.mem_cons.1 hx with rfl | hx
    · exact ⟨h.1.1, h.1.2.1⟩
    · exact ih h.2 x hx
theorem onceP_mem {row : List Int} {many : Int} (h : onceP row many = true) : ∀ x ∈ row, 0 ≤ x ∧ x < many := by
  unfold onceP at h
  rw [Bool.and_eq_true] at h
  exact onceFrom_mem h.1
theorem onceP_len {row : List Int} {many : Int} (h : onceP row many = true) : (row.length : Int) = many ∧ 1 ≤ many ∧ many ≤ 6 := by
  unfold onceP at h
  rw [Bool.and_eq_true, decide_eq_true_eq] at h
  exact ⟨h.2.2.2, h.2.1, h.2.2.1⟩

/-! inorder_impl -/
/-- The customers in an order. -/
def picked (l : List S31) (row : List Int) : List S31 := row.map fun i => l.getD i.toNat z31
theorem impl_inOrder_loop (l : List S31) (row : List Int) (hl : row.length ≤ 1048576) (hm : ∀ x ∈ row, 0 ≤ x ∧ x < (l.length : Int)) : ∀ (suf : List Int) (i k : Nat) (out : List S31), row.drop i = suf → suf.length < k → i ≤ row.length → out.length ≤ i →
    impl_inOrder.l0 k l out row (row.length : Int) i = some (out ++ picked l suf) := by
  intro suf
  induction suf with
  | nil =>
    intro i k out hd hk hi ho
    obtain ⟨k, rfl⟩ : ∃ m, k = m + 1 := ⟨k - 1, by omega⟩
    have := drop_nil hd
    simp only [impl_inOrder.l0]
    rw [if_neg (by omega)]
    simp [picked]
  | cons x xs ih =>
    intro i k out hd hk hi ho
    obtain ⟨k, rfl⟩ : ∃ m, k = m + 1 := ⟨k - 1, by omega⟩
    obtain ⟨hlt, hd2, hx⟩ := drop_split hd
    have hxm := hm x (by rw [← hx 0]; exact getD_mem hlt _)
    simp only [impl_inOrder.l0]
    rw [if_pos (by omega), if_pos (by omega), if_pos (by omega), rd_nat, hx, if_pos hxm.1, if_pos hxm.2, if_pos (by omega), w64s i (by omega)]
    rw [ih (i + 1) k _ hd2 (by simp at hk; omega) (by omega) (by rw [List.length_append]; simp; omega)]
    simp [picked, rd_T31]
theorem impl_inOrder_is (l : List S31) (row : List Int) (hl : row.length ≤ 1048576) (hm : ∀ x ∈ row, 0 ≤ x ∧ x < (l.length : Int)) (k : Nat) (hk : row.length < k) : impl_inOrder.f k l row = some (picked l row) := by
  unfold impl_inOrder.f
  exact impl_inOrder_loop l row hl hm row 0 k [] rfl hk (by omega) (by simp)
def inOrderP (l : List S31) (row : List Int) : List S31 × Bool := if bothOk l = true ∧ onceP row l.length = true then (picked l row, true) else ([], false)
theorem impl_InOrder_is (l : List S31) (row : List Int) (hl : l.length ≤ 1048576) (hr : row.length ≤ 1048576) (k : Nat) (hk : 2 * row.length + l.length + 2 < k) : impl_InOrder.f k l row = some (inOrderP l row) := by
  unfold impl_InOrder.f inOrderP
  rw [impl_BothOk_is l hl k (by omega)]
  simp only [Option.bind_some]
  by_cases h : bothOk l = true
  · rw [if_pos h, impl_EachOnce_is row _ hr k (by omega)]
    simp only [Option.bind_some]
    by_cases h2 : onceP row (l.length : Int) = true
    · rw [if_pos h2, if_pos ⟨h, h2⟩, impl_inOrder_is l row hr (onceP_mem h2) k (by omega)]
      rfl
    · rw [if_neg h2, if_neg (fun h => h2 h.2)]
  · rw [if_neg h, if_neg (fun hh => h hh.1)]

/-! leastway -/
theorem mn_le (a b : Int) : mn a b ≤ a ∧ mn a b ≤ b := by
  rw [mn_min]; omega
theorem clone_int (o : List Int) (h : o.length ≤ 1048576) : slices_Clone_int_int.f o = some o := by
  unfold slices_Clone_int_int.f
  rw [Option.bind_some, if_pos (by simp only [List.length_nil]; omega), List.nil_append]
theorem picked_ok (l : List S31) (hok : bothOk l = true) (o : List Int) (ho : ∀ x ∈ o, 0 ≤ x ∧ x < (l.length : Int)) (hlen : o.length = l.length) : bothOk (picked l o) = true := by
  have h1 := bothOk_mem hok
  have h2 := bothOk_len hok
  refine decide_eq_true ⟨?_, by unfold picked; rw [List.length_map]; omega, by unfold picked; rw [List.length_map]; omega⟩
  intro b hb
  unfold picked at hb
  obtain ⟨x, hx, rfl⟩ := List.mem_map.1 hb
  have := ho x hx
  exact h1 _ (getD_mem (by omega) _)
/-- The least of what is met: no more than m, and than the longest way of each order that goes on o. -/
theorem go_least (l : List S31) (hok : bothOk l = true) (k : Nat) (hk : 100 ≤ k) : ∀ (d : Nat) (o : List Int) (m : Int), (∀ x ∈ o, 0 ≤ x ∧ x < (l.length : Int)) → o.length ≤ l.length → l.length < o.length + d →
    ∃ r, impl_LeastWay.go k l d o m = some r ∧ r ≤ m ∧ ∀ rest, onceFrom l.length o rest = true → o.length + rest.length = l.length → r ≤ lw (picked l (o ++ rest)) := by
  have h6 := bothOk_len hok
  intro d
  induction d with
  | zero => intro o m ho h1 h2; omega
  | succ d ih =>
    intro o m ho h1 h2
    simp only [impl_LeastWay.go]
    by_cases hl : o.length = l.length
    · rw [if_pos hl, impl_inOrder_is l o (by omega) ho k (by omega), Option.bind_some, impl_longestWay_is _ (picked_ok l hok o ho hl) k (by omega), Option.bind_some]
      refine ⟨_, rfl, (mn_le _ _).1, fun rest _ hr => ?_⟩
      have : rest = [] := List.eq_nil_of_length_eq_zero (by omega)
      rw [this, List.append_nil]
      exact (mn_le _ _).2
    · rw [if_neg hl]
      have hr : ∀ (q i : Nat) (m : Int), i + q = l.length + 1 → 1 ≤ q → ∃ r, impl_LeastWay.rounds k (impl_LeastWay.go k l d) o l.length q i m = some r ∧ r ≤ m ∧ ∀ j : Nat, i ≤ j → j < l.length → ¬ (j : Int) ∈ o → ∀ rest, onceFrom l.length (o ++ [(j : Int)]) rest = true → o.length + 1 + rest.length = l.length → r ≤ lw (picked l (o ++ [(j : Int)] ++ rest)) := by
        intro q
        induction q with
        | zero => intro i m _ h; omega
        | succ q ihq =>
          intro i m hi _
          simp only [impl_LeastWay.rounds]
          by_cases hin : i < l.length
          · rw [if_pos hin, contains_is o _ (by omega) k (by omega), Option.bind_some]
            by_cases hc : (i : Int) ∈ o
            · rw [if_pos (decide_eq_true hc)]
              obtain ⟨r, e, hrm, hrr⟩ := ihq (i + 1) m (by omega) (by omega)
              refine ⟨r, e, hrm, fun j hj hjn hjo rest ho1 ho2 => ?_⟩
              have hne : i ≠ j := fun e => hjo (by rw [← e]; exact hc)
              exact hrr j (by omega) hjn hjo rest ho1 ho2
            · rw [if_neg (by simpa using hc), clone_int o (by omega), Option.bind_some]
              have hv : ∀ x ∈ o ++ [(i : Int)], 0 ≤ x ∧ x < (l.length : Int) := by
                intro x hx
                rcases List.mem_append.1 hx with hx | hx
                · exact ho x hx
                · rw [List.mem_singleton.1 hx]; omega
              obtain ⟨m', e, hm', hrest⟩ := ih (o ++ [(i : Int)]) m hv (by rw [List.length_append]; simp; omega) (by rw [List.length_append]; simp; omega)
              rw [e, Option.bind_some]
              obtain ⟨r, e2, hrm, hrr⟩ := ihq (i + 1) m' (by omega) (by omega)
              refine ⟨r, e2, by omega, fun j hj hjn hjo rest ho1 ho2 => ?_⟩
              by_cases hij : i = j
              · subst hij
                have := hrest rest ho1 (by rw [List.length_append]; simp; omega)
                omega
              · exact hrr j (by omega) hjn hjo rest ho1 ho2
          · rw [if_neg hin]
            exact ⟨m, rfl, Int.le_refl _, fun j hj hjn => by omega⟩
      obtain ⟨r, e, hrm, hrr⟩ := hr (l.length + 1) 0 m (by omega) (by omega)
      refine ⟨r, e, hrm, fun rest ho1 ho2 => ?_⟩
      cases rest with
      | nil => simp at ho2; omega
      | cons x xs =>
        by_cases hg : 0 ≤ x ∧ x < (l.length : Int) ∧ ¬ x ∈ o
        · rw [once_good hg] at ho1
          obtain ⟨j, rfl⟩ := Int.eq_ofNat_of_zero_le hg.1
          simp only [List.length_cons] at ho2
          have := hrr j (by omega) (by omega) hg.2.2 xs ho1 (by omega)
          rw [List.append_assoc, List.singleton_append] at this
          exact this
        · rw [once_bad hg] at ho1; cases ho1
theorem impl_LeastWay_le (l : List S31) (hok : bothOk l = true) (order : List Int) (ho : onceP order l.length = true) : ∃ r, impl_LeastWay.f l = some r ∧ r ≤ lw (picked l order) := by
  have h6 := bothOk_len hok
  have hlen := onceP_len ho
  have hof : onceFrom l.length [] order = true := by
    unfold onceP at ho
    simp only [Bool.and_eq_true] at ho
    exact ho.1
  unfold impl_LeastWay.f
  rw [impl_BothOk_is l (by omega) _ (by omega), Option.bind_some, if_pos hok, if_pos (by omega), impl_longestWay_is l hok _ (by omega), Option.bind_some]
  obtain ⟨r, e, -, hr⟩ := go_least l hok (l.length * 100 + 1000) (by omega) (l.length + 2) [] (lw l) (by simp) (by simp) (by simp)
  exact ⟨r, e, by simpa using hr order hof (by simp; omega)⟩

/-! isleast -/
/-- A least longest way of the orders that go on o. -/
def isLeast (l : List S31) (o : List Int) (r : Int) : Prop := 0 ≤ r ∧ (∃ rest, onceFrom l.length o rest = true ∧ o.length + rest.length = l.length ∧ r = lw (picked l (o ++ rest))) ∧ ∀ rest, onceFrom l.length o rest = true → o.length + rest.length = l.length → r ≤ lw (picked l (o ++ rest))
theorem isLeast_one {l : List S31} {o : List Int} {r s : Int} (h1 : isLeast l o r) (h2 : isLeast l o s) : r = s := by
  obtain ⟨-, ⟨a, a1, a2, a3⟩, a4⟩ := h1
  obtain ⟨-, ⟨b, b1, b2, b3⟩, b4⟩ := h2
  have := a4 b b1 b2
  have := b4 a a1 a2
  omega
theorem pigeon : ∀ (n : Nat) (o : List Int), (∀ i : Nat, i < n → (i : Int) ∈ o) → n ≤ o.length := by
  intro n
  induction n with
  | zero => intro o _; omega
  | succ n ih =>
    intro o h
    have hn := h n (by omega)
    have := ih (o.erase (n : Int)) (fun i hi => (List.mem_erase_of_ne (by omega)).2 (h i (by omega)))
    rw [List.length_erase_of_mem hn] at this
    have hp := List.length_pos_of_mem hn
    omega
theorem onceFrom_snoc {many : Int} : ∀ {xs seen : List Int} {x : Int}, onceFrom many seen xs = true → 0 ≤ x → x < many → ¬ x ∈ seen ++ xs → onceFrom many seen (xs ++ [x]) = true := by
  intro xs
  induction xs with
  | nil =>
    intro seen x _ h0 h1 h2
    rw [List.append_nil] at h2
    show onceFrom many seen (x :: []) = true
    rw [once_good ⟨h0, h1, h2⟩]; rfl
  | cons y ys ih =>
    intro seen x h h0 h1 h2
    by_cases hg : 0 ≤ y ∧ y < many ∧ ¬ y ∈ seen
    · rw [once_good hg] at h
      show onceFrom many seen (y :: (ys ++ [x])) = true
      rw [once_good hg]
      exact ih h h0 h1 (by rw [List.append_assoc, List.singleton_append]; exact h2)
    · rw [once_bad hg] at h; cases h
theorem isLeast_cons {l : List S31} {o : List Int} {j : Nat} {r : Int} (hj : j < l.length) (hjo : ¬ (j : Int) ∈ o) {rest : List Int} (h : onceFrom l.length (o ++ [(j : Int)]) rest = true) (hl : (o ++ [(j : Int)]).length + rest.length = l.length) (hr : r = lw (picked l (o ++ [(j : Int)] ++ rest))) :
    ∃ rest, onceFrom l.length o rest = true ∧ o.length + rest.length = l.length ∧ r = lw (picked l (o ++ rest)) := by
  refine ⟨(j : Int) :: rest, ?_, ?_, ?_⟩
  · rw [once_good ⟨by omega, by omega, hjo⟩]; exact h
  · simp only [List.length_append, List.length_cons, List.length_nil] at *; omega
  · rw [hr, List.append_assoc, List.singleton_append]
theorem rest_cons {l : List S31} {o rest : List Int} (h : onceFrom l.length o rest = true) (hl : o.length + rest.length = l.length) (ho : o.length < l.length) : ∃ (j : Nat) (rest' : List Int), rest = (j : Int) :: rest' ∧ j < l.length ∧ ¬ (j : Int) ∈ o ∧ onceFrom l.length (o ++ [(j : Int)]) rest' = true ∧ (o ++ [(j : Int)]).length + rest'.length = l.length := by
  cases rest with
  | nil => simp at hl; omega
  | cons x xs =>
    by_cases hg : 0 ≤ x ∧ x < (l.length : Int) ∧ ¬ x ∈ o
    · rw [once_good hg] at h
      obtain ⟨j, rfl⟩ := Int.eq_ofNat_of_zero_le hg.1
      exact ⟨j, xs, rfl, by omega, hg.2.2, h, by simp only [List.length_append, List.length_cons, List.length_nil] at *; omega⟩
    · rw [once_bad hg] at h; cases h
/-- The same of the program's own walk, begun at m. -/
theorem go_least2 (l : List S31) (hok : bothOk l = true) (k : Nat) (hk : 100 ≤ k) : ∀ (d : Nat) (o : List Int) (m : Int), (∀ x ∈ o, 0 ≤ x ∧ x < (l.length : Int)) → o.length ≤ l.length → l.length < o.length + d →
    ∃ r, impl_LeastWay.go k l d o m = some r ∧ (r = m ∨ ∃ rest, onceFrom l.length o rest = true ∧ o.length + rest.length = l.length ∧ r = lw (picked l (o ++ rest))) := by
  have h6 := bothOk_len hok
  intro d
  induction d with
  | zero => intro o m ho h1 h2; omega
  | succ d ih =>
    intro o m ho h1 h2
    simp only [impl_LeastWay.go]
    by_cases hl : o.length = l.length
    · rw [if_pos hl, impl_inOrder_is l o (by omega) ho k (by omega), Option.bind_some, impl_longestWay_is _ (picked_ok l hok o ho hl) k (by omega), Option.bind_some]
      refine ⟨_, rfl, ?_⟩
      unfold mn
      split
      · exact .inr ⟨[], rfl, by simp; omega, by rw [List.append_nil]⟩
      · exact .inl rfl
    · rw [if_neg hl]
      have hr : ∀ (q i : Nat) (m : Int), i + q = l.length + 1 → 1 ≤ q → ∃ r, impl_LeastWay.rounds k (impl_LeastWay.go k l d) o l.length q i m = some r ∧ (r = m ∨ ∃ rest, onceFrom l.length o rest = true ∧ o.length + rest.length = l.length ∧ r = lw (picked l (o ++ rest))) := by
        intro q
        induction q with
        | zero => intro i m _ h; omega
        | succ q ihq =>
          intro i m hi _
          simp only [impl_LeastWay.rounds]
          by_cases hin : i < l.length
          · rw [if_pos hin, contains_is o _ (by omega) k (by omega), Option.bind_some]
            by_cases hc : (i : Int) ∈ o
            · rw [if_pos (decide_eq_true hc)]
              exact ihq (i + 1) m (by omega) (by omega)
            · rw [if_neg (by simpa using hc), clone_int o (by omega), Option.bind_some]
              have hv : ∀ x ∈ o ++ [(i : Int)], 0 ≤ x ∧ x < (l.length : Int) := by
                intro x hx
                rcases List.mem_append.1 hx with hx | hx
                · exact ho x hx
                · rw [List.mem_singleton.1 hx]; omega
              obtain ⟨m', e, hm'⟩ := ih (o ++ [(i : Int)]) m hv (by rw [List.length_append]; simp; omega) (by rw [List.length_append]; simp; omega)
              rw [e, Option.bind_some]
              obtain ⟨r, e2, hr⟩ := ihq (i + 1) m' (by omega) (by omega)
              refine ⟨r, e2, ?_⟩
              rcases hr with rfl | hr
              · rcases hm' with h | ⟨rest, g1, g2, g3⟩
                · exact .inl h
                · exact .inr (isLeast_cons hin hc g1 g2 g3)
              · exact .inr hr
          · rw [if_neg hin]
            exact ⟨m, rfl, .inl rfl⟩
      exact hr (l.length + 1) 0 m (by omega) (by omega)
/-- The customers' own order is one. -/
def idn (n : Nat) : List Int := (List.range n).map Int.ofNat
theorem idn_once (n : Nat) : ∀ j, j ≤ n → onceFrom (n : Int) [] (idn j) = true := by
  intro j
  induction j with
  | zero => intro _; rfl
  | succ j ih =>
    intro hj
    have e : idn (j + 1) = idn j ++ [(j : Int)] := by unfold idn; rw [List.range_succ, List.map_append]; rfl
    rw [e]
    refine onceFrom_snoc (ih (by omega)) (by omega) (by omega) ?_
    intro h
    rw [List.nil_append] at h
    obtain ⟨x, hx, hxe⟩ := List.mem_map.1 h
    have := List.mem_range.1 hx
    have : (x : Int) = j := hxe
    omega
theorem idn_picked (l : List S31) : picked l (idn l.length) = l := by
  unfold picked idn
  rw [List.map_map]
  apply List.ext_getElem
  · simp
  · intro i h1 h2
    simp only [List.getElem_map, List.getElem_range, Function.comp_apply]
    show l.getD ((i : Int)).toNat z31 = l[i]
    rw [Int.toNat_natCast, getD_lt h2]
theorem impl_LeastWay_is (l : List S31) (hok : bothOk l = true) : ∃ r, impl_LeastWay.f l = some r ∧ isLeast l [] r := by
  have h6 := bothOk_len hok
  have hid := idn_once l.length l.length (Nat.le_refl _)
  have hidl : (idn l.length).length = l.length := by unfold idn; simp
  unfold impl_LeastWay.f
  rw [impl_BothOk_is l (by omega) _ (by omega), Option.bind_some, if_pos hok, if_pos (by omega), impl_longestWay_is l hok _ (by omega), Option.bind_some]
  obtain ⟨r, e, hrm, hr⟩ := go_least l hok (l.length * 100 + 1000) (by omega) (l.length + 2) [] (lw l) (by simp) (by simp) (by simp)
  obtain ⟨r2, e2, hr2⟩ := go_least2 l hok (l.length * 100 + 1000) (by omega) (l.length + 2) [] (lw l) (by simp) (by simp) (by simp)
  have : r = r2 := Option.some.inj (e.symm.trans e2)
  subst this
  have hat : ∃ rest, onceFrom l.length [] rest = true ∧ ([] : List Int).length + rest.length = l.length ∧ r = lw (picked l ([] ++ rest)) := by
    rcases hr2 with h | h
    · exact ⟨idn l.length, hid, by rw [hidl]; simp, by rw [h, List.nil_append, idn_picked]⟩
    · exact h
  refine ⟨r, e, ?_, hat, hr⟩
  obtain ⟨rest, g1, g2, g3⟩ := hat
  rw [g3, List.nil_append]
  have hv : ∀ x ∈ rest, 0 ≤ x ∧ x < (l.length : Int) := onceFrom_mem g1
  exact (lw_bound _ (bothOk_mem (picked_ok l hok rest hv (by simpa using g2)))).1

/-! picked_perm -/
theorem valid_of {n : Int} : ∀ {xs seen : List Int}, onceFrom n seen xs = true → xs.Nodup ∧ ∀ x ∈ xs, 0 ≤ x ∧ x < n ∧ ¬ x ∈ seen := by
  intro xs
  induction xs with
  | nil => intro seen _; exact ⟨List.nodup_nil, by simp⟩
  | cons x xs ih =>
    intro seen h
    by_cases hg : 0 ≤ x ∧ x < n ∧ ¬ x ∈ seen
    · rw [once_good hg] at h
      obtain ⟨h1, h2⟩ := ih h
      refine ⟨List.nodup_cons.2 ⟨fun hx => (h2 x hx).2.2 (by simp), h1⟩, fun y hy => ?_⟩
      rcases List.mem_cons.1 hy with rfl | hy
      · exact hg
      · have := h2 y hy
        exact ⟨this.1, this.2.1, fun hs => this.2.2 (List.mem_append_left _ hs)⟩
    · rw [once_bad hg] at h; cases h
theorem valid_to {n : Int} : ∀ {xs seen : List Int}, xs.Nodup → (∀ x ∈ xs, 0 ≤ x ∧ x < n ∧ ¬ x ∈ seen) → onceFrom n seen xs = true := by
  intro xs
  induction xs with
  | nil => intro seen _ _; rfl
  | cons x xs ih =>
    intro seen h1 h2
    rw [once_good (h2 x (by simp))]
    obtain ⟨h3, h4⟩ := List.nodup_cons.1 h1
    refine ih h4 (fun y hy => ?_)
    have := h2 y (by simp [hy])
    refine ⟨this.1, this.2.1, fun hs => ?_⟩
    rcases List.mem_append.1 hs with hs | hs
    · exact this.2.2 hs
    · rw [List.mem_singleton.1 hs] at hy; exact h3 hy
theorem len_le : ∀ (o R : List Int), o.Nodup → (∀ x ∈ o, x ∈ R) → o.length ≤ R.length := by
  intro o
  induction o with
  | nil => intro R _ _; exact Nat.zero_le _
  | cons x xs ih =>
    intro R h1 h2
    obtain ⟨h3, h4⟩ := List.nodup_cons.1 h1
    have hx := h2 x (by simp)
    have := ih (R.erase x) h4 (fun y hy => (List.mem_erase_of_ne (fun e => h3 (by rw [← e]; exact hy))).2 (h2 y (by simp [hy])))
    rw [List.length_erase_of_mem hx] at this
    have := List.length_pos_of_mem hx
    simp only [List.length_cons]; omega
theorem idn_mem (n : Nat) (x : Int) : x ∈ idn n ↔ 0 ≤ x ∧ x < n := by
  unfold idn
  rw [List.mem_map]
  constructor
  · rintro ⟨i, hi, rfl⟩
    have := List.mem_range.1 hi
    show 0 ≤ (i : Int) ∧ (i : Int) < n
    omega
  · rintro ⟨h0, h1⟩
    obtain ⟨i, rfl⟩ := Int.eq_ofNat_of_zero_le h0
    exact ⟨i, List.mem_range.2 (by omega), rfl⟩
theorem perm_idn : ∀ (n : Nat) (o : List Int), o.length = n → (∀ i : Nat, i < n → (i : Int) ∈ o) → o.Perm (idn n) := by
  intro n
  induction n with
  | zero => intro o h _; rw [List.eq_nil_of_length_eq_zero h]; exact List.Perm.refl _
  | succ n ih =>
    intro o h1 h2
    have hn := h2 n (by omega)
    have h3 := ih (o.erase (n : Int)) (by rw [List.length_erase_of_mem hn]; omega) (fun i hi => (List.mem_erase_of_ne (by omega)).2 (h2 i (by omega)))
    have e : idn (n + 1) = idn n ++ [(n : Int)] := by unfold idn; rw [List.range_succ, List.map_append]; rfl
    rw [e]
    exact (List.perm_cons_erase hn).trans ((List.Perm.cons _ h3).trans (List.perm_append_singleton _ _).symm)
theorem valid_perm {n : Nat} {o : List Int} (h : onceFrom (n : Int) [] o = true) (hl : o.length = n) : o.Perm (idn n) := by
  obtain ⟨h1, h2⟩ := valid_of h
  refine perm_idn n o hl (fun i hi => ?_)
  by_cases hc : (i : Int) ∈ o
  · exact hc
  · exfalso
    have hil : (idn n).length = n := by unfold idn; simp
    have := len_le ((i : Int) :: o) (idn n) (List.nodup_cons.2 ⟨hc, h1⟩) (fun x hx => by
      rw [idn_mem]
      rcases List.mem_cons.1 hx with rfl | hx
      · omega
      · have := h2 x hx; omega)
    rw [hil] at this
    simp only [List.length_cons] at this
    omega
theorem sum0_perm {a b : List S31} (h : a.Perm b) : sum0 a = sum0 b := by
  induction h with
  | nil => rfl
  | cons x _ ih => simp only [sum0]; omega
  | swap x y l => simp only [sum0]; omega
  | trans _ _ h1 h2 => omega
theorem picked_perm (l : List S31) {o : List Int} (h : onceFrom (l.length : Int) [] o = true) (hl : o.length = l.length) : (picked l o).Perm l := by
  have := (valid_perm h hl).map (fun i => l.getD i.toNat z31)
  have e := idn_picked l
  unfold picked at *
  rw [e] at this
  exact this
theorem lwP_shift : ∀ (l : List S31) (a m : Int), (∀ b ∈ l, 1 ≤ b.f0 ∧ b.f0 ≤ 9 ∧ 1 ≤ b.f1 ∧ b.f1 ≤ 9) → 0 ≤ a → l ≠ [] → lwP l a m = max m (a + lw l) := by
  intro l
  induction l with
  | nil => intro a m _ _ h; exact absurd rfl h
  | cons x xs ih =>
    intro a m hm ha _
    have hx := hm x (by simp)
    have hs := sum1_bound (x :: xs) hm
    have hxs : ∀ b ∈ xs, 1 ≤ b.f0 ∧ b.f0 ≤ 9 ∧ 1 ≤ b.f1 ∧ b.f1 ≤ 9 := fun b hb => hm b (by simp [hb])
    unfold lw
    simp only [lwP]
    by_cases hn : xs = []
    · subst hn; simp only [lwP]; omega
    · rw [ih (a + x.f0) _ hxs (by omega) hn, ih (0 + x.f0) _ hxs (by omega) hn]
      omega
theorem lw_cons (x : S31) (xs : List S31) (hm : ∀ b ∈ x :: xs, 1 ≤ b.f0 ∧ b.f0 ≤ 9 ∧ 1 ≤ b.f1 ∧ b.f1 ≤ 9) : lw (x :: xs) = x.f0 + max (x.f1 + sum1 xs) (lw xs) := by
  have hx := hm x (by simp)
  have hs := sum1_bound (x :: xs) hm
  have hxs : ∀ b ∈ xs, 1 ≤ b.f0 ∧ b.f0 ≤ 9 ∧ 1 ≤ b.f1 ∧ b.f1 ≤ 9 := fun b hb => hm b (by simp [hb])
  have e : sum1 (x :: xs) = x.f1 + sum1 xs := rfl
  have h0 := sum1_bound xs hxs
  show lwP xs (0 + x.f0) (max 0 (0 + x.f0 + sum1 (x :: xs))) = _
  by_cases hn : xs = []
  · subst hn; simp only [lwP, lw, sum1]; omega
  · rw [lwP_shift xs _ _ hxs (by omega) hn, e]; omega

/-! sameints -/
theorem sameInts_loop (a : List Int) (ha : a.length ≤ 1048576) : ∀ (suf : List Int) (i k : Nat), a.drop i = suf → suf.length < k → laws_sameInts.l0 k a a i = some true := by
  intro suf
  induction suf with
  | nil =>
    intro i k hd hk
    obtain ⟨k, rfl⟩ : ∃ m, k = m + 1 := ⟨k - 1, by omega⟩
    have := drop_nil hd
    simp only [laws_sameInts.l0]
    rw [if_neg (by omega)]
  | cons x xs ih =>
    intro i k hd hk
    obtain ⟨k, rfl⟩ : ∃ m, k = m + 1 := ⟨k - 1, by omega⟩
    obtain ⟨hlt, hd2, hx⟩ := drop_split hd
    simp only [laws_sameInts.l0]
    rw [if_pos (by omega), if_pos (by omega), if_pos (by omega), if_pos trivial, w64s i (by omega), ih (i + 1) k hd2 (by simp at hk; omega)]
theorem sameInts_is (a : List Int) (ha : a.length ≤ 1048576) (k : Nat) (hk : a.length < k) : laws_sameInts.f k a a = some true := by
  unfold laws_sameInts.f
  rw [if_pos rfl]
  exact sameInts_loop a ha a 0 k rfl hk

/-! bypairs_core -/
theorem bp_get {α : Type} [Inhabited α] (P C : List α) (x : α) (i : Nat) (h : i = P.length) : (P ++ x :: C).toArray[i]! = x := by
  subst h; simp
theorem bp_swp {α : Type} [Inhabited α] (P C : List α) (b x : α) (j : Nat) (h : j = P.length) : Sort.swp (P ++ b :: x :: C).toArray (j + 1) j = (P ++ x :: b :: C).toArray := by
  unfold Sort.swp
  rw [bp_get P (x :: C) b j h, show P ++ b :: x :: C = (P ++ [b]) ++ x :: C from by simp, bp_get (P ++ [b]) C x (j + 1) (by simp [h])]
  subst h
  simp
theorem bp_inner {α : Type} [Inhabited α] (lt : α → α → Bool) (x : α) (A : List α) (hA : A = [] ∨ ∃ A' y, A = A' ++ [y] ∧ lt x y = false) : ∀ (n : Nat) (B C : List α), B.length = n → (∀ b ∈ B, lt x b = true) → Sort.insInner lt 0 (A.length + B.length) (A ++ B ++ x :: C).toArray = (A ++ x :: (B ++ C)).toArray := by
  intro n
  induction n with
  | zero =>
    intro B C hB _
    obtain rfl := List.eq_nil_of_length_eq_zero hB
    rcases hA with rfl | ⟨A', y, rfl, hy⟩
    · simp [Sort.insInner]
    · have e : (A' ++ [y]).length + ([] : List α).length = A'.length + 1 := by simp
      rw [e]
      unfold Sort.insInner
      rw [show A' ++ [y] ++ [] ++ x :: C = (A' ++ [y]) ++ x :: C from by simp, bp_get (A' ++ [y]) C x (A'.length + 1) (by simp), show (A' ++ [y]) ++ x :: C = A' ++ y :: (x :: C) from by simp, bp_get A' (x :: C) y A'.length rfl, hy]
      simp
  | succ n ih =>
    intro B C hB hlt
    have hne : B ≠ [] := fun e => by rw [e] at hB; simp at hB
    obtain ⟨B', b, rfl⟩ : ∃ B' b, B = B' ++ [b] := ⟨B.dropLast, B.getLast hne, (List.dropLast_concat_getLast hne).symm⟩
    have e : A.length + (B' ++ [b]).length = (A.length + B'.length) + 1 := by simp; omega
    rw [e]
    unfold Sort.insInner
    have e1 : A ++ (B' ++ [b]) ++ x :: C = (A ++ B' ++ [b]) ++ x :: C := by simp
    have e2 : A ++ (B' ++ [b]) ++ x :: C = (A ++ B') ++ b :: x :: C := by simp
    have g1 : (A ++ (B' ++ [b]) ++ x :: C).toArray[A.length + B'.length + 1]! = x := by rw [e1]; exact bp_get _ _ _ _ (by simp; omega)
    have g2 : (A ++ (B' ++ [b]) ++ x :: C).toArray[A.length + B'.length]! = b := by rw [e2]; exact bp_get _ _ _ _ (by simp)
    rw [g1, g2, hlt b (by simp), e2, bp_swp (A ++ B') C b x (A.length + B'.length) (by simp)]
    have := ih B' (b :: C) (by simpa using hB) (fun c hc => hlt c (by simp [hc]))
    rw [if_pos (by simp), this]
    simp
def bpB {α : Type} (key : α → Int) (vs : List Int) (L : List α) : List α := vs.flatMap (fun v => L.filter (fun a => decide (key a = v)))
theorem bp_same {α : Type} (key : α → Int) (L : List α) (x : α) : ∀ vs : List Int, (∀ v ∈ vs, v ≠ key x) → bpB key vs (L ++ [x]) = bpB key vs L := by
  intro vs
  induction vs with
  | nil => intro _; rfl
  | cons v vs ih =>
    intro h
    unfold bpB at *
    rw [List.flatMap_cons, List.flatMap_cons, ih (fun u hu => h u (by simp [hu])), List.filter_append]
    have := h v (by simp)
    simp [Ne.symm this]
theorem bp_app {α : Type} (key : α → Int) (L : List α) (v1 v2 : List Int) : bpB key (v1 ++ v2) L = bpB key v1 L ++ bpB key v2 L := by
  unfold bpB; simp
theorem bp_mem {α : Type} (key : α → Int) (L : List α) (vs : List Int) (a : α) (h : a ∈ bpB key vs L) : key a ∈ vs ∧ a ∈ L := by
  unfold bpB at h
  obtain ⟨v, hv, h⟩ := List.mem_flatMap.1 h
  have := List.mem_filter.1 h
  have h2 := of_decide_eq_true this.2
  exact ⟨by rw [h2]; exact hv, this.1⟩
theorem bp_split : ∀ (vs : List Int) (u : Int), vs.Pairwise (· < ·) → u ∈ vs → ∃ v1 v2, vs = v1 ++ u :: v2 ∧ (∀ v ∈ v1, v < u) ∧ ∀ v ∈ v2, u < v := by
  intro vs u hp hu
  obtain ⟨v1, v2, rfl⟩ := List.append_of_mem hu
  rw [List.pairwise_append] at hp
  obtain ⟨-, h2, h3⟩ := hp
  rw [List.pairwise_cons] at h2
  exact ⟨v1, v2, rfl, fun v hv => h3 v hv u (by simp), h2.1⟩
/-- Where a further one goes. -/
theorem bp_snoc {α : Type} (key : α → Int) (vs : List Int) (hp : vs.Pairwise (· < ·)) (L : List α) (x : α) (hx : key x ∈ vs) : ∃ A B, bpB key vs L = A ++ B ∧ bpB key vs (L ++ [x]) = A ++ x :: B ∧ (∀ a ∈ A, key a ≤ key x) ∧ ∀ b ∈ B, key x < key b := by
  obtain ⟨v1, v2, rfl, h1, h2⟩ := bp_split vs _ hp hx
  refine ⟨bpB key v1 L ++ L.filter (fun a => decide (key a = key x)), bpB key v2 L, ?_, ?_, ?_, ?_⟩
  · rw [bp_app]; unfold bpB; simp
  · rw [bp_app, bp_same key L x v1 (fun v hv => by have := h1 v hv; omega), show key x :: v2 = [key x] ++ v2 from rfl, bp_app, bp_same key L x v2 (fun v hv => by have := h2 v hv; omega)]
    unfold bpB; simp
  · intro a ha
    rcases List.mem_append.1 ha with ha | ha
    · have := h1 _ (bp_mem key L v1 a ha).1; omega
    · have := of_decide_eq_true (List.mem_filter.1 ha).2; omega
  · intro b hb
    have := h2 _ (bp_mem key L v2 b hb).1; omega
theorem bp_perm {α : Type} (key : α → Int) (vs : List Int) (hp : vs.Pairwise (· < ·)) : ∀ (n : Nat) (L : List α), L.length = n → (∀ a ∈ L, key a ∈ vs) → (bpB key vs L).Perm L := by
  intro n
  induction n with
  | zero =>
    intro L hL _
    obtain rfl := List.eq_nil_of_length_eq_zero hL
    have : bpB key vs ([] : List α) = [] := by unfold bpB; simp
    rw [this]
  | succ n ih =>
    intro L hL h
    have hne : L ≠ [] := fun e => by rw [e] at hL; simp at hL
    obtain ⟨M, x, rfl⟩ : ∃ M x, L = M ++ [x] := ⟨L.dropLast, L.getLast hne, (List.dropLast_concat_getLast hne).symm⟩
    obtain ⟨A, B, e1, e2, -, -⟩ := bp_snoc key vs hp M x (h x (by simp))
    have := ih M (by simpa using hL) (fun a ha => h a (by simp [ha]))
    rw [e2]
    rw [e1] at this
    exact List.perm_middle.trans ((List.Perm.cons x this).trans (by simpa using (List.perm_append_comm (l₁ := [x]) (l₂ := M))))
theorem bp_outer {α : Type} [Inhabited α] (lt : α → α → Bool) (key : α → Int) (hlt : ∀ x y, lt x y = decide (key x < key y)) (vs : List Int) (hp : vs.Pairwise (· < ·)) : ∀ (suf pre : List α) (m : Nat), m = pre.length + suf.length → (∀ a ∈ pre ++ suf, key a ∈ vs) → Sort.insOuter lt 0 m pre.length (bpB key vs pre ++ suf).toArray = (bpB key vs (pre ++ suf)).toArray := by
  intro suf
  induction suf with
  | nil =>
    intro pre m hm _
    unfold Sort.insOuter
    rw [if_neg (by simp at hm; omega)]
    simp
  | cons x xs ih =>
    intro pre m hm hk
    unfold Sort.insOuter
    rw [if_pos (by simp at hm; omega)]
    obtain ⟨A, B, e1, e2, hA, hB⟩ := bp_snoc key vs hp pre x (hk x (by simp))
    have hl : pre.length = A.length + B.length := by
      have := (bp_perm key vs hp pre.length pre rfl (fun a ha => hk a (by simp [ha]))).length_eq
      rw [e1, List.length_append] at this; omega
    have hA2 : A = [] ∨ ∃ A' y, A = A' ++ [y] ∧ lt x y = false := by
      by_cases h : A = []
      · exact .inl h
      · refine .inr ⟨A.dropLast, A.getLast h, (List.dropLast_concat_getLast h).symm, ?_⟩
        rw [hlt]
        have := hA _ (List.getLast_mem h)
        exact decide_eq_false (by omega)
    have hin := bp_inner lt x A hA2 B.length B xs rfl (fun b hb => by rw [hlt]; exact decide_eq_true (hB b hb))
    rw [e1]
    conv => lhs; rw [hl]
    have hin2 : Sort.insInner lt 0 (A.length + B.length) (A ++ B ++ x :: xs).toArray = (bpB key vs (pre ++ [x]) ++ xs).toArray := by rw [hin, e2]; simp
    rw [hin2]
    have := ih (pre ++ [x]) m (by simp at hm ⊢; omega) (by simpa using hk)
    rw [show A.length + B.length + 1 = (pre ++ [x]).length from by simp; omega, this]
    simp
theorem bp_sorted {α : Type} [Inhabited α] (lt : α → α → Bool) (key : α → Int) (hlt : ∀ x y, lt x y = decide (key x < key y)) (vs : List Int) (hp : vs.Pairwise (· < ·)) (L : List α) (hL : L ≠ []) (hk : ∀ a ∈ L, key a ∈ vs) : (Sort.insertionSort lt L.toArray 0 L.length).toList = bpB key vs L := by
  cases L with
  | nil => exact absurd rfl hL
  | cons x xs =>
    unfold Sort.insertionSort
    have h1 : bpB key vs [x] = [x] := by
      have := bp_perm key vs hp 1 [x] rfl (fun a ha => hk a (by simp at ha; simp [ha]))
      exact List.perm_singleton.1 this
    have := bp_outer lt key hlt vs hp xs [x] (x :: xs).length (by simp; omega) (by simpa using hk)
    rw [h1] at this
    have e : (0 + 1 : Nat) = [x].length := rfl
    rw [e, show (x :: xs) = [x] ++ xs from rfl] at *
    rw [this]
theorem bp_key_sorted {α : Type} (key : α → Int) (L : List α) : ∀ vs : List Int, vs.Pairwise (· < ·) → (bpB key vs L).Pairwise (fun a b => key a ≤ key b) := by
  intro vs
  induction vs with
  | nil => intro _; exact List.Pairwise.nil
  | cons v vs ih =>
    intro h
    rw [List.pairwise_cons] at h
    rw [show v :: vs = [v] ++ vs from rfl, bp_app, List.pairwise_append]
    refine ⟨?_, ih h.2, fun a ha b hb => ?_⟩
    · refine List.pairwise_iff_forall_sublist.2 (fun {a b} hs => ?_)
      have ha := (bp_mem key L [v] a (hs.subset (by simp))).1
      have hb := (bp_mem key L [v] b (hs.subset (by simp))).1
      simp at ha hb
      omega
    · have ha := (bp_mem key L [v] a ha).1
      have hb := (bp_mem key L vs b hb).1
      simp at ha
      have := h.1 _ hb
      omega
/-- A rank by pairs: who needs no more at the first counter first, by ascending needs there; then the others by descending needs at the second one. -/
def bpKey (x : S31) : Int := if x.f0 ≤ x.f1 then x.f0 else 100 - x.f1
def bpVs : List Int := [1, 2, 3, 4, 5, 6, 7, 8, 9, 91, 92, 93, 94, 95, 96, 97, 98, 99]
theorem bpVs_asc : bpVs.Pairwise (· < ·) := by decide
theorem bpVs_mem (x : S31) (h : 1 ≤ x.f0 ∧ x.f0 ≤ 9 ∧ 1 ≤ x.f1 ∧ x.f1 ≤ 9) : bpKey x ∈ bpVs := by
  have : (1 ≤ bpKey x ∧ bpKey x ≤ 9) ∨ (91 ≤ bpKey x ∧ bpKey x ≤ 99) := by unfold bpKey; split <;> omega
  generalize bpKey x = u at this
  unfold bpVs
  simp only [List.mem_cons, List.not_mem_nil, or_false]
  omega

/-! bypairs -/
def idx (n : Nat) : List Int := (List.range n).map (fun i : Nat => (i : Int))
theorem idx_length (n : Nat) : (idx n).length = n := by unfold idx; simp
theorem idx_get (n i : Nat) (h : i < (idx n).length) : (idx n)[i] = (i : Int) := by simp [idx]
theorem idx_drop (n i : Nat) (h : i < n) : (idx n).drop i = (i : Int) :: (idx n).drop (i + 1) := by
  have hl : i < (idx n).length := by rw [idx_length]; exact h
  rw [List.drop_eq_getElem_cons hl, idx_get]
theorem idx_mem {n : Nat} {x : Int} (h : x ∈ idx n) : 0 ≤ x ∧ x < (n : Int) := by
  unfold idx at h
  obtain ⟨i, hi, rfl⟩ := List.mem_map.1 h
  have := List.mem_range.1 hi
  omega
def keyI (l : List S31) (x : Int) : Int := bpKey (l.getD x.toNat z31)
theorem keyI_nat (l : List S31) (i : Nat) : keyI l (i : Int) = bpKey (l.getD i z31) := by unfold keyI; rw [Int.toNat_natCast]
def byPairsP (l : List S31) : List Int := bpB (keyI l) bpVs (idx l.length)
def bpUp : Nat → List Int
  | 0 => []
  | d + 1 => (10 - ((d + 1 : Nat) : Int)) :: bpUp d
def bpDn : Nat → List Int
  | 0 => []
  | d + 1 => (100 - ((d + 1 : Nat) : Int)) :: bpDn d
theorem bp_cons {α : Type} (key : α → Int) (v : Int) (vs : List Int) (L : List α) : bpB key (v :: vs) L = L.filter (fun a => decide (key a = v)) ++ bpB key vs L := by
  unfold bpB; rw [List.flatMap_cons]
theorem spec_ByPairs_l1 (l : List S31) (hok : bothOk l = true) (n : Int) (n1 : 1 ≤ n) (n9 : n ≤ 9) (R : List Int) (K : Nat) : ∀ (q i k : Nat) (out : List Int), i + q = l.length → out.length + q ≤ 1000 → q + 1 + K ≤ k →
    (∀ k', K ≤ k' → spec_ByPairs.l0 k' l (out ++ ((idx l.length).drop i).filter (fun a => decide (keyI l a = n))) (n + 1) = some R) → spec_ByPairs.l1 k l out n i = some R := by
  have h6 := bothOk_len hok
  have hm := bothOk_mem hok
  intro q
  induction q with
  | zero =>
    intro i k out hi ho hk hn
    obtain ⟨k, rfl⟩ : ∃ m, k = m + 1 := ⟨k - 1, by omega⟩
    simp only [spec_ByPairs.l1]
    rw [if_neg (by omega), show wrap64 (n + 1) = n + 1 from w64 (by omega) (by omega)]
    have := hn k (by omega)
    rw [List.drop_eq_nil_of_le (by rw [idx_length]; omega), List.filter_nil, List.append_nil] at this
    exact this
  | succ q ih =>
    intro i k out hi ho hk hn
    obtain ⟨k, rfl⟩ : ∃ m, k = m + 1 := ⟨k - 1, by omega⟩
    have hb := hm (l.getD i z31) (getD_mem (by omega) _)
    rw [idx_drop _ _ (by omega), List.filter_cons, keyI_nat] at hn
    simp only [spec_ByPairs.l1]
    rw [if_pos (by omega), if_pos (by omega), rd_Both_nat, w64s i (by omega)]
    by_cases hc : bpKey (l.getD i z31) = n
    · have h1 : (l.getD i z31).f0 ≤ (l.getD i z31).f1 ∧ (l.getD i z31).f0 = n := by
        unfold bpKey at hc; split at hc <;> omega
      rw [if_pos h1.1, if_pos h1.2, if_pos (by omega)]
      rw [if_pos (decide_eq_true hc)] at hn
      refine ih (i + 1) k (out ++ [(i : Int)]) (by omega) (by rw [List.length_append]; simp; omega) (by omega) (fun k' hk' => ?_)
      have := hn k' hk'
      rw [List.append_assoc, List.singleton_append]; exact this
    · rw [if_neg (by simpa using hc)] at hn
      have := ih (i + 1) k out (by omega) (by omega) (by omega) hn
      by_cases h1 : (l.getD i z31).f0 ≤ (l.getD i z31).f1
      · rw [if_pos h1, if_neg (fun h2 => hc (by unfold bpKey; rw [if_pos h1]; exact h2))]; exact this
      · rw [if_neg h1]; exact this
theorem spec_ByPairs_l3 (l : List S31) (hok : bothOk l = true) (n : Int) (n1 : 1 ≤ n) (n9 : n ≤ 9) (R : List Int) (K : Nat) : ∀ (q i k : Nat) (out : List Int), i + q = l.length → out.length + q ≤ 1000 → q + 1 + K ≤ k →
    (∀ k', K ≤ k' → spec_ByPairs.l2 k' l (out ++ ((idx l.length).drop i).filter (fun a => decide (keyI l a = 100 - n))) (n - 1) = some R) → spec_ByPairs.l3 k l out n i = some R := by
  have h6 := bothOk_len hok
  have hm := bothOk_mem hok
  intro q
  induction q with
  | zero =>
    intro i k out hi ho hk hn
    obtain ⟨k, rfl⟩ : ∃ m, k = m + 1 := ⟨k - 1, by omega⟩
    simp only [spec_ByPairs.l3]
    rw [if_neg (by omega), show wrap64 (n - 1) = n - 1 from w64 (by omega) (by omega)]
    have := hn k (by omega)
    rw [List.drop_eq_nil_of_le (by rw [idx_length]; omega), List.filter_nil, List.append_nil] at this
    exact this
  | succ q ih =>
    intro i k out hi ho hk hn
    obtain ⟨k, rfl⟩ : ∃ m, k = m + 1 := ⟨k - 1, by omega⟩
    have hb := hm (l.getD i z31) (getD_mem (by omega) _)
    rw [idx_drop _ _ (by omega), List.filter_cons, keyI_nat] at hn
    simp only [spec_ByPairs.l3]
    rw [if_pos (by omega), if_pos (by omega), rd_Both_nat, w64s i (by omega)]
    by_cases hc : bpKey (l.getD i z31) = 100 - n
    · have h1 : (l.getD i z31).f0 > (l.getD i z31).f1 ∧ (l.getD i z31).f1 = n := by
        unfold bpKey at hc; split at hc <;> omega
      rw [if_pos h1.1, if_pos h1.2, if_pos (by omega)]
      rw [if_pos (decide_eq_true hc)] at hn
      refine ih (i + 1) k (out ++ [(i : Int)]) (by omega) (by rw [List.length_append]; simp; omega) (by omega) (fun k' hk' => ?_)
      have := hn k' hk'
      rw [List.append_assoc, List.singleton_append]; exact this
    · rw [if_neg (by simpa using hc)] at hn
      have := ih (i + 1) k out (by omega) (by omega) (by omega) hn
      by_cases h1 : (l.getD i z31).f0 > (l.getD i z31).f1
      · rw [if_pos h1, if_neg (fun h2 => hc (by unfold bpKey; rw [if_neg (by omega)]; omega))]; exact this
      · rw [if_neg h1]; exact this
theorem idx_filter_le (l : List S31) (p : Int → Bool) : ((idx l.length).filter p).length ≤ l.length := by
  have := List.length_filter_le p (idx l.length)
  rw [idx_length] at this; exact this
theorem spec_ByPairs_l2 (l : List S31) (hok : bothOk l = true) : ∀ (d k : Nat) (out : List Int), d ≤ 9 → out.length + 6 * d ≤ 900 → d * 10 + 1 ≤ k → spec_ByPairs.l2 k l out d = some (out ++ bpB (keyI l) (bpDn d) (idx l.length)) := by
  have h6 := bothOk_len hok
  intro d
  induction d with
  | zero =>
    intro k out hd ho hk
    obtain ⟨k, rfl⟩ : ∃ m, k = m + 1 := ⟨k - 1, by omega⟩
    simp only [spec_ByPairs.l2]
    rw [if_neg (by omega)]
    unfold bpDn bpB; simp
  | succ d ih =>
    intro k out hd ho hk
    obtain ⟨k, rfl⟩ : ∃ m, k = m + 1 := ⟨k - 1, by omega⟩
    simp only [spec_ByPairs.l2]
    rw [if_pos (by omega)]
    refine spec_ByPairs_l3 l hok _ (by omega) (by omega) _ (d * 10 + 1) l.length 0 k out (by omega) (by omega) (by omega) (fun k' hk' => ?_)
    have hf := idx_filter_le l (fun a => decide (keyI l a = 100 - ((d + 1 : Nat) : Int)))
    rw [show (((d + 1 : Nat) : Int) - 1) = (d : Int) from by omega, List.drop_zero, ih k' _ (by omega) (by rw [List.length_append]; omega) hk', List.append_assoc]
    rw [show bpDn (d + 1) = (100 - ((d + 1 : Nat) : Int)) :: bpDn d from rfl, bp_cons]
theorem spec_ByPairs_l0 (l : List S31) (hok : bothOk l = true) : ∀ (d k : Nat) (out : List Int), d ≤ 9 → out.length + 6 * d ≤ 500 → d * 10 + 200 ≤ k → spec_ByPairs.l0 k l out (10 - (d : Int)) = some (out ++ bpB (keyI l) (bpUp d) (idx l.length) ++ bpB (keyI l) (bpDn 9) (idx l.length)) := by
  have h6 := bothOk_len hok
  intro d
  induction d with
  | zero =>
    intro k out hd ho hk
    obtain ⟨k, rfl⟩ : ∃ m, k = m + 1 := ⟨k - 1, by omega⟩
    simp only [spec_ByPairs.l0]
    rw [if_neg (by omega)]
    have := spec_ByPairs_l2 l hok 9 k out (by omega) (by omega) (by omega)
    rw [show (9 : Int) = ((9 : Nat) : Int) from rfl, this]
    unfold bpUp; rw [show bpB (keyI l) [] (idx l.length) = [] from rfl, List.append_nil]
  | succ d ih =>
    intro k out hd ho hk
    obtain ⟨k, rfl⟩ : ∃ m, k = m + 1 := ⟨k - 1, by omega⟩
    simp only [spec_ByPairs.l0]
    rw [if_pos (by omega)]
    refine spec_ByPairs_l1 l hok _ (by omega) (by omega) _ (d * 10 + 200) l.length 0 k out (by omega) (by omega) (by omega) (fun k' hk' => ?_)
    have hf := idx_filter_le l (fun a => decide (keyI l a = 10 - ((d + 1 : Nat) : Int)))
    rw [show ((10 : Int) - ((d + 1 : Nat) : Int) + 1) = 10 - (d : Int) from by omega, List.drop_zero, ih k' _ (by omega) (by rw [List.length_append]; omega) hk']
    rw [show bpUp (d + 1) = (10 - ((d + 1 : Nat) : Int)) :: bpUp d from rfl, bp_cons, List.append_assoc out]
theorem spec_ByPairs_is (l : List S31) (hl : l.length ≤ 1048576) (k : Nat) (hk : l.length + 1000 < k) : spec_ByPairs.f k l = some (if bothOk l = true then byPairsP l else []) := by
  unfold spec_ByPairs.f
  rw [Option.bind_some, spec_BothOk_is l hl k (by omega), Option.bind_some]
  by_cases hok : bothOk l = true
  · rw [if_pos hok, if_pos hok]
    have := spec_ByPairs_l0 l hok 9 k [] (by omega) (by simp) (by omega)
    rw [show (10 : Int) - ((9 : Nat) : Int) = 1 from rfl] at this
    rw [this, List.nil_append, ← bp_app]
    rfl
  · rw [if_neg hok, if_neg hok]
theorem impl_numbered_loop (n : Nat) (hn : n ≤ 1048576) : ∀ (q i k : Nat), i + q = n → q < k → impl_numbered.l0 k ((idx n).take i) n i = some (idx n) := by
  intro q
  induction q with
  | zero =>
    intro i k hi hk
    obtain ⟨k, rfl⟩ : ∃ m, k = m + 1 := ⟨k - 1, by omega⟩
    simp only [impl_numbered.l0]
    rw [if_neg (by omega), List.take_of_length_le (by rw [idx_length]; omega)]
  | succ q ih =>
    intro i k hi hk
    obtain ⟨k, rfl⟩ : ∃ m, k = m + 1 := ⟨k - 1, by omega⟩
    have hl : i < (idx n).length := by rw [idx_length]; omega
    simp only [impl_numbered.l0]
    rw [if_pos (by omega), if_pos (by rw [List.length_take]; omega), w64s i (by omega)]
    have e : (idx n).take i ++ [(i : Int)] = (idx n).take (i + 1) := by
      rw [List.take_succ_eq_append_getElem hl, idx_get]
    rw [e]
    exact ih (i + 1) k (by omega) (by omega)
theorem impl_numbered_is (n : Nat) (hn : n ≤ 1048576) (k : Nat) (hk : n < k) : impl_numbered.f k n = some (idx n) := by
  have := impl_numbered_loop n hn n 0 k (by omega) hk
  rw [List.take_zero] at this
  exact this
theorem bp_map {α : Type} (key : α → Int) (g : α → Int) (key2 : Int → Int) (h : ∀ a, key2 (g a) = key a) (L : List α) : ∀ vs : List Int, (bpB key vs L).map g = bpB key2 vs (L.map g) := by
  intro vs
  induction vs with
  | nil => rfl
  | cons v vs ih =>
    rw [bp_cons, bp_cons, List.map_append, ih, List.filter_map]
    congr 2
    apply List.filter_congr
    intro a _
    show _ = decide (key2 (g a) = v)
    rw [h]
theorem cf_key (l : List S31) (m : Nat) (hl : l.length = m + 1) (hm : ∀ b ∈ l, 1 ≤ b.f0 ∧ b.f0 ≤ 9 ∧ 1 ≤ b.f1 ∧ b.f1 ≤ 9) (i j : Fin (m + 1)) : ltOf (impl_ByPairs.cf l m) i j = decide (keyI l (i.val : Int) < keyI l (j.val : Int)) := by
  have hi := hm (l.getD i.val z31) (getD_mem (by omega) _)
  have hj := hm (l.getD j.val z31) (getD_mem (by omega) _)
  unfold ltOf
  rw [keyI_nat, keyI_nat]
  unfold impl_ByPairs.cf
  rw [rd_Both_nat, rd_Both_nat]
  generalize l.getD i.val z31 = x at *
  generalize l.getD j.val z31 = y at *
  rw [show wrap64 (x.f0 - y.f0) = x.f0 - y.f0 from w64 (by omega) (by omega), show wrap64 (y.f1 - x.f1) = y.f1 - x.f1 from w64 (by omega) (by omega)]
  unfold bpKey
  rw [decide_eq_decide]
  split <;> split <;> omega
theorem sorted_is (l : List S31) (hok : bothOk l = true) : impl_ByPairs.sorted l l.length = byPairsP l := by
  have h6 := bothOk_len hok
  have hm := bothOk_mem hok
  obtain ⟨m, hl⟩ : ∃ m, l.length = m + 1 := ⟨l.length - 1, by omega⟩
  unfold byPairsP
  rw [hl]
  show (Sort.insertionSort (ltOf (impl_ByPairs.cf l m)) (List.finRange (m + 1)).toArray 0 (m + 1)).toList.map (fun i => (i.val : Int)) = _
  have hs := bp_sorted (ltOf (impl_ByPairs.cf l m)) (fun i : Fin (m + 1) => keyI l (i.val : Int)) (cf_key l m hl hm) bpVs bpVs_asc (List.finRange (m + 1)) (by intro e; have := congrArg List.length e; simp at this) (fun a _ => by
    rw [keyI_nat]
    exact bpVs_mem _ (hm _ (getD_mem (by omega) _)))
  rw [List.length_finRange] at hs
  rw [hs, bp_map (fun i : Fin (m + 1) => keyI l (i.val : Int)) (fun i => (i.val : Int)) (keyI l) (fun _ => rfl)]
  congr 1
  unfold idx
  apply List.ext_getElem
  · simp
  · intro i h1 h2
    simp
theorem impl_ByPairs_is (l : List S31) (hl : l.length ≤ 1048576) : impl_ByPairs.f l = some (if bothOk l = true then byPairsP l else []) := by
  unfold impl_ByPairs.f
  rw [impl_BothOk_is l hl _ (by omega), Option.bind_some]
  by_cases hok : bothOk l = true
  · have h6 := bothOk_len hok
    rw [if_pos hok, if_pos hok, if_pos h6, impl_numbered_is l.length hl _ (by omega), Option.bind_some, if_pos (show idx l.length = (List.range l.length).map (fun i : Nat => (i : Int)) from rfl), sorted_is l hok]
  · rw [if_neg hok, if_neg hok]

/-! johnson -/
theorem sum1_perm {a b : List S31} (h : a.Perm b) : sum1 a = sum1 b := by
  induction h with
  | nil => rfl
  | cons x _ ih => simp only [sum1]; omega
  | swap x y l => simp only [sum1]; omega
  | trans _ _ i1 i2 => omega
/-- Of two neighbours the one of the lesser rank first takes no longer. -/
theorem lw_swap (x y : S31) (Q : List S31) (hm : ∀ b ∈ x :: y :: Q, 1 ≤ b.f0 ∧ b.f0 ≤ 9 ∧ 1 ≤ b.f1 ∧ b.f1 ≤ 9) (hk : bpKey x ≤ bpKey y) : lw (x :: y :: Q) ≤ lw (y :: x :: Q) := by
  have hx := hm x (by simp)
  have hy := hm y (by simp)
  have hQ : ∀ b ∈ Q, 1 ≤ b.f0 ∧ b.f0 ≤ 9 ∧ 1 ≤ b.f1 ∧ b.f1 ≤ 9 := fun b hb => hm b (by simp [hb])
  have h1 : ∀ b ∈ y :: Q, 1 ≤ b.f0 ∧ b.f0 ≤ 9 ∧ 1 ≤ b.f1 ∧ b.f1 ≤ 9 := fun b hb => hm b (List.mem_cons_of_mem _ hb)
  have h2 : ∀ b ∈ x :: Q, 1 ≤ b.f0 ∧ b.f0 ≤ 9 ∧ 1 ≤ b.f1 ∧ b.f1 ≤ 9 := fun b hb => by
    rcases List.mem_cons.1 hb with rfl | hb
    · exact hx
    · exact hQ b hb
  have h3 : ∀ b ∈ y :: x :: Q, 1 ≤ b.f0 ∧ b.f0 ≤ 9 ∧ 1 ≤ b.f1 ∧ b.f1 ≤ 9 := fun b hb => by
    rcases List.mem_cons.1 hb with rfl | hb
    · exact hy
    · exact h2 b hb
  rw [lw_cons x (y :: Q) hm, lw_cons y Q h1, lw_cons y (x :: Q) h3, lw_cons x Q h2]
  simp only [sum1]
  generalize sum1 Q = s
  generalize lw Q = t
  unfold bpKey at hk
  split at hk <;> split at hk <;> omega
/-- One of the least rank may go to the front. -/
theorem lw_front (x : S31) (Q : List S31) : ∀ P : List S31, (∀ b ∈ P ++ x :: Q, 1 ≤ b.f0 ∧ b.f0 ≤ 9 ∧ 1 ≤ b.f1 ∧ b.f1 ≤ 9) → (∀ p ∈ P, bpKey x ≤ bpKey p) → lw (x :: (P ++ Q)) ≤ lw (P ++ x :: Q) := by
  intro P
  induction P with
  | nil => intro _ _; exact Int.le_refl _
  | cons p P ih =>
    intro hm hk
    have hm2 : ∀ b ∈ P ++ x :: Q, 1 ≤ b.f0 ∧ b.f0 ≤ 9 ∧ 1 ≤ b.f1 ∧ b.f1 ≤ 9 := fun b hb => hm b (List.mem_cons_of_mem _ hb)
    have hp := hm p (by simp)
    have hpm : (x :: (P ++ Q)).Perm (P ++ x :: Q) := List.perm_middle.symm
    have hm3 : ∀ b ∈ x :: (P ++ Q), 1 ≤ b.f0 ∧ b.f0 ≤ 9 ∧ 1 ≤ b.f1 ∧ b.f1 ≤ 9 := fun b hb => hm2 b (hpm.mem_iff.1 hb)
    have hm4 : ∀ b ∈ p :: x :: (P ++ Q), 1 ≤ b.f0 ∧ b.f0 ≤ 9 ∧ 1 ≤ b.f1 ∧ b.f1 ≤ 9 := fun b hb => by
      rcases List.mem_cons.1 hb with rfl | hb
      · exact hp
      · exact hm3 b hb
    have hm5 : ∀ b ∈ x :: p :: (P ++ Q), 1 ≤ b.f0 ∧ b.f0 ≤ 9 ∧ 1 ≤ b.f1 ∧ b.f1 ≤ 9 := fun b hb => hm4 b ((List.Perm.swap p x (P ++ Q)).mem_iff.1 hb)
    have h1 := lw_swap x p (P ++ Q) hm5 (hk p (by simp))
    have h2 := ih hm2 (fun q hq => hk q (by simp [hq]))
    have h3 : lw (p :: x :: (P ++ Q)) ≤ lw (p :: (P ++ x :: Q)) := by
      rw [lw_cons p _ hm4, lw_cons p (P ++ x :: Q) (by simpa using hm), sum1_perm hpm]
      omega
    exact Int.le_trans h1 h3
/-- Johnson's rule: a list in ascending rank takes no longer than any of its orders. -/
theorem johnson : ∀ (L L' : List S31), (∀ b ∈ L, 1 ≤ b.f0 ∧ b.f0 ≤ 9 ∧ 1 ≤ b.f1 ∧ b.f1 ≤ 9) → L.Pairwise (fun a b => bpKey a ≤ bpKey b) → L.Perm L' → lw L ≤ lw L' := by
  intro L
  induction L with
  | nil => intro L' _ _ h; rw [List.nil_perm.1 h]; exact Int.le_refl _
  | cons x R ih =>
    intro L' hm hp h
    rw [List.pairwise_cons] at hp
    obtain ⟨P, Q, rfl⟩ := List.append_of_mem (h.mem_iff.1 (by simp) : x ∈ L')
    have h2 : R.Perm (P ++ Q) := (h.trans List.perm_middle).cons_inv
    have hmR : ∀ b ∈ R, 1 ≤ b.f0 ∧ b.f0 ≤ 9 ∧ 1 ≤ b.f1 ∧ b.f1 ≤ 9 := fun b hb => hm b (List.mem_cons_of_mem _ hb)
    have h3 := ih (P ++ Q) hmR hp.2 h2
    have hmL : ∀ b ∈ P ++ x :: Q, 1 ≤ b.f0 ∧ b.f0 ≤ 9 ∧ 1 ≤ b.f1 ∧ b.f1 ≤ 9 := fun b hb => hm b (h.mem_iff.2 hb)
    have h4 := lw_front x Q P hmL (fun p hpP => hp.1 p (h2.mem_iff.2 (by simp [hpP])))
    have hmX : ∀ b ∈ x :: (P ++ Q), 1 ≤ b.f0 ∧ b.f0 ≤ 9 ∧ 1 ≤ b.f1 ∧ b.f1 ≤ 9 := fun b hb => hmL b (List.perm_middle.mem_iff.2 hb)
    have h5 : lw (x :: R) ≤ lw (x :: (P ++ Q)) := by
      rw [lw_cons x R hm, lw_cons x _ hmX, sum1_perm h2]
      omega
    exact Int.le_trans h5 h4

/-! byp_least -/
theorem idx_nodup (n : Nat) : (idx n).Nodup := by
  unfold idx
  rw [List.nodup_iff_pairwise_ne, List.pairwise_map]
  exact List.pairwise_lt_range.imp (fun h e => by omega)
theorem byp_perm (l : List S31) (hok : bothOk l = true) : (byPairsP l).Perm (idx l.length) := bp_perm (keyI l) bpVs bpVs_asc _ (idx l.length) rfl (fun a ha => by
    have := idx_mem ha
    unfold keyI
    exact bpVs_mem _ (bothOk_mem hok _ (getD_mem (by omega) _)))
theorem byp_length (l : List S31) (hok : bothOk l = true) : (byPairsP l).length = l.length := by rw [(byp_perm l hok).length_eq, idx_length]
theorem byp_once (l : List S31) (hok : bothOk l = true) : onceFrom (l.length : Int) [] (byPairsP l) = true := by
  have hp := byp_perm l hok
  exact valid_to (hp.nodup_iff.2 (idx_nodup _)) (fun x hx => by
    have := idx_mem (hp.mem_iff.1 hx)
    exact ⟨this.1, this.2, by simp⟩)
theorem byp_onceP (l : List S31) (hok : bothOk l = true) : onceP (byPairsP l) l.length = true := by
  have h6 := bothOk_len hok
  have hl := byp_length l hok
  unfold onceP
  rw [byp_once l hok, Bool.true_and]
  exact decide_eq_true (by omega)
theorem byp_least (l : List S31) (hok : bothOk l = true) : isLeast l [] (lw (picked l (byPairsP l))) := by
  have ho := byp_once l hok
  have hl := byp_length l hok
  have hpk := bothOk_mem (picked_ok l hok _ (onceFrom_mem ho) hl)
  have hpp := picked_perm l ho hl
  refine ⟨(lw_bound _ hpk).1, ⟨byPairsP l, ho, by simpa using hl, rfl⟩, fun rest h1 h2 => ?_⟩
  simp only [List.nil_append, List.length_nil, Nat.zero_add] at *
  have hp2 := picked_perm l h1 h2
  refine johnson _ _ hpk ?_ (hpp.trans hp2.symm)
  unfold picked
  rw [List.pairwise_map]
  exact bp_key_sorted (keyI l) (idx l.length) bpVs bpVs_asc

/-! law_ByPairs -/
theorem FnByPairs : laws_FnByPairs.Pure := by
  intro l0 hl hl2 hb
  obtain ⟨K, hK⟩ : ∃ K, K = 10000 := ⟨_, rfl⟩
  refine ⟨K, ?_⟩
  unfold laws_FnByPairs.f
  by_cases hbig : (l0.length : Int) > 1048576
  · rw [if_pos hbig]
  · rw [if_neg hbig]
    have hd : ∃ l, spec_DrawByPairs.f K l0 = some l ∧ l.length ≤ 200 := by
      unfold spec_DrawByPairs.f
      obtain ⟨s, e0, hs, hls⟩ := open_ok (bytes_of hb)
      rw [e0, Option.bind_some]; dsimp only
      obtain ⟨l, q, e, h1, h2, h3⟩ := l20Both_ok hs hls 9 (by omega) K (by omega) 0 (by omega) (by omega)
      rw [e, Option.bind_some]
      exact ⟨l, rfl, h1⟩
    obtain ⟨l, e, h1⟩ := hd
    rw [e, Option.bind_some, impl_ByPairs_is l (by omega), Option.bind_some, spec_ByPairs_is l (by omega) K (by omega), Option.bind_some]
    by_cases hok : bothOk l = true
    · have h6 := bothOk_len hok
      have hbl := byp_length l hok
      have hon := byp_onceP l hok
      have hpk := picked_ok l hok _ (onceP_mem hon) hbl
      have hpl : (picked l (byPairsP l)).length = l.length := by unfold picked; rw [List.length_map, hbl]
      obtain ⟨r, er, hr⟩ := impl_LeastWay_is l hok
      have hrr : lw (picked l (byPairsP l)) = r := isLeast_one (byp_least l hok) hr
      rw [if_pos hok, sameInts_is _ (by omega) K (by omega), Option.bind_some, if_pos rfl, if_neg (by omega)]
      rw [impl_InOrder_is l _ (by omega) (by omega) K (by omega), Option.bind_some, show inOrderP l (byPairsP l) = (picked l (byPairsP l), true) from by unfold inOrderP; rw [if_pos ⟨hok, hon⟩]]
      dsimp only
      rw [impl_EachOnce_is _ _ (by omega) K (by omega), Option.bind_some, if_pos hon, if_pos rfl, impl_LongestWay_is _ (by omega) K (by omega), Option.bind_some, er, Option.bind_some, if_pos hpk, hrr]
      exact congrArg some (beq_self_eq_true r)
    · rw [if_neg hok, sameInts_is [] (by simp) K (by simp; omega), Option.bind_some, if_pos rfl, if_pos (by simp), impl_BothOk_is l (by omega) K (by omega), Option.bind_some, if_neg hok, alive_is K (by omega), Option.bind_some]

end Go.Proofs.Ytanmcbjlooknoaa.Pure
