/- The pure part of the proof of FnLeastWay: the printed functions answer true, for every drawn or given argument within the row's own bounds; no further condition. -/
import Derived.Test.YtanmcbjlooknoaaPFnLeastWayx5
import Derived.Laws.BitsLemmas
namespace Go.Proofs.Ytanmcbjlooknoaa.Pure
open Go.RowKit Go.Proofs.Ytanmcbjlooknoaa.PFnLeastWay Go.Proofs.YtanmcbjlooknoaaW.PrintWords Go.Proofs.YtanmcbjlooknoaaW.PrintLast Go.Proofs.YtanmcbjlooknoaaW.PrintMore
set_option linter.unusedVariables false
set_option linter.unusedSimpArgs false
/-! base -/
theorem w64 {x : Int} (h0 : -9223372036854775808 ≤ x) (h1 : x ≤ 9223372036854775807) : wrap64 x = x := by
  unfold wrap64
  omega
theorem w64s (n : Nat) (h : n ≤ 4611686018427387904) : wrap64 ((n : Int) + 1) = ((n + 1 : Nat) : Int) := by
  unfold wrap64
  omega
theorem drop_split {α : Type} {l : List α} {i : Nat} {x : α} {xs : List α} (h : l.drop i = x :: xs) : i < l.length ∧ l.drop (i + 1) = xs ∧ ∀ d, l.getD i d = x := by
  have hi : i < l.length := by
    have h2 : 0 < (l.drop i).length := by rw [h]; simp
    rw [List.length_drop] at h2
    omega
  rw [List.drop_eq_getElem_cons hi] at h
  injection h with h1 h2
  exact ⟨hi, h2, fun d => by rw [List.getD_eq_getElem?_getD, List.getElem?_eq_getElem hi, h1]; rfl⟩
theorem drop_nil {α : Type} {l : List α} {i : Nat} (h : l.drop i = []) : l.length ≤ i := List.drop_eq_nil_iff.1 h
theorem getD_lt {α : Type} {l : List α} {i : Nat} (h : i < l.length) (d : α) : l.getD i d = l[i] := by
  rw [List.getD_eq_getElem?_getD, List.getElem?_eq_getElem h]; rfl
theorem rd_nat (l : List Int) (i : Nat) : rd l (i : Int) = l.getD i 0 := by
  unfold rd
  rw [Int.toNat_natCast]
theorem getD_mem {α : Type} {l : List α} {i : Nat} (h : i < l.length) (d : α) : l.getD i d ∈ l := by
  rw [getD_lt h]; exact List.getElem_mem h
theorem take_succ_getD {α : Type} {l : List α} {i : Nat} (h : i < l.length) (d : α) : l.take (i + 1) = l.take i ++ [l.getD i d] := by
  rw [getD_lt h, List.take_succ_eq_append_getElem h]
theorem mx_max (a b : Int) : mx a b = max a b := by
  unfold mx; omega
theorem mn_min (a b : Int) : mn a b = min a b := by
  unfold mn; omega
theorem bind_of {α β : Type} {o : Option α} {r : α} {f : α → Option β} {s : Option β} (h : o = some r) (h2 : f r = s) : o.bind f = s := by rw [h]; exact h2
theorem getD_snoc_last {α : Type} (l : List α) (x d : α) {i : Nat} (h : l.length = i) : (l ++ [x]).getD i d = x := by
  subst h
  rw [List.getD_eq_getElem?_getD, List.getElem?_append_right (Nat.le_refl _), Nat.sub_self]
  rfl
theorem getD_snoc_lt {α : Type} (l r : List α) (d : α) {i : Nat} (h : i < l.length) : (l ++ r).getD i d = l.getD i d := by
  rw [List.getD_eq_getElem?_getD, List.getElem?_append_left h, List.getD_eq_getElem?_getD]

/-! pick -/
theorem xor_small (a b : Int) (ha : 0 ≤ a) (ha2 : a < 1099511627776) (hb : 0 ≤ b) (hb2 : b < 1099511627776) : 0 ≤ Go.bits .xor .i64 a b ∧ Go.bits .xor .i64 a b < 1099511627776 := by
  obtain ⟨x, rfl⟩ := Int.eq_ofNat_of_zero_le ha
  obtain ⟨y, rfl⟩ := Int.eq_ofNat_of_zero_le hb
  have hx : x < 2 ^ 40 := by have : (x : Int) < 1099511627776 := ha2; omega
  have hy : y < 2 ^ 40 := by have : (y : Int) < 1099511627776 := hb2; omega
  have hz : x ^^^ y < 2 ^ 40 := Nat.xor_lt_two_pow hx hy
  have e : Go.bits .xor .i64 (x : Int) (y : Int) = ((x ^^^ y : Nat) : Int) := by
    have hx' : x % 2 ^ IntKind.i64.bits = x := Nat.mod_eq_of_lt (Nat.lt_of_lt_of_le hx (Nat.pow_le_pow_right (by decide) (by decide)))
    have hy' : y % 2 ^ IntKind.i64.bits = y := Nat.mod_eq_of_lt (Nat.lt_of_lt_of_le hy (Nat.pow_le_pow_right (by decide) (by decide)))
    simp only [bits, BitVec.ofInt_natCast, BitVec.toNat_xor, BitVec.toNat_ofNat, hx', hy']
    rw [IntKind.wrap_i64]
    omega
  rw [e]
  omega
theorem tmod_in (x n : Int) (hx : 0 ≤ x) (hn : 1 ≤ n) : 0 ≤ Int.tmod x n ∧ Int.tmod x n < n := by
  rw [Int.tmod_eq_emod_of_nonneg hx]
  exact ⟨Int.emod_nonneg _ (by omega), Int.emod_lt_of_pos _ (by omega)⟩
theorem rd_byte {s : List Int} (hs : ∀ x ∈ s, 0 ≤ x ∧ x ≤ 255) (i : Int) : 0 ≤ rd s i ∧ rd s i ≤ 255 := by
  unfold rd
  by_cases h : i.toNat < s.length
  · exact hs _ (getD_mem h 0)
  · rw [List.getD_eq_getElem?_getD, List.getElem?_eq_none (by omega)]; simp
/-- The reader: what it draws lies in 0..n-1, and its place goes on by one. -/
theorem pick_ok {k : Nat} (hk : 1 ≤ k) {s : List Int} (hs : ∀ x ∈ s, 0 ≤ x ∧ x ≤ 255) (hl : s.length ≤ 2000) (p : Int) (hp : 0 ≤ p) (hp2 : p ≤ 1000000) (n : Int) :
    ∃ v, spec_l20Rd_pick.f k s p n = some (v, p + 1) ∧ 0 ≤ v ∧ (1 ≤ n → v < n) ∧ (n < 1 → v = 0) := by
  obtain ⟨k, rfl⟩ : ∃ m, k = m + 1 := ⟨k - 1, by omega⟩
  have hw : wrap64 (p + 1) = p + 1 := w64 (by omega) (by omega)
  unfold spec_l20Rd_pick.f
  by_cases hn : n < 1
  · refine ⟨0, ?_, by omega, by omega, fun _ => rfl⟩
    rw [if_pos hn, hw]
    simp only [spec_l20Rd_pick.j0]
    rw [if_pos trivial]
  · rw [if_neg hn, hw]
    simp only [spec_l20Rd_pick.j0]
    by_cases he : (s.length : Int) = 0
    · refine ⟨0, ?_, by omega, by omega, fun _ => rfl⟩
      rw [if_pos (by simpa using he)]
    · have hpp : wrap64 (p + 1 - 1) = p := by rw [w64 (by omega) (by omega)]; omega
      rw [if_neg (by simpa using he), hpp]
      have hn0 : ¬ n = 0 := by omega
      have hb := fun i => rd_byte hs i
      by_cases hlt : p < (s.length : Int)
      · have hr := hb p
        have hwr : wrap64 (rd s p) = rd s p := w64 (by omega) (by omega)
        rw [if_pos hlt, if_pos hp, if_neg hn0, hwr]
        have ht := tmod_in (rd s p) n hr.1 (by omega)
        exact ⟨_, rfl, ht.1, fun _ => ht.2, fun h => absurd h hn⟩
      · have hL : 1 ≤ (s.length : Int) := by omega
        have e7 : wrap64 (p * 7) = p * 7 := w64 (by omega) (by omega)
        have e73 : wrap64 (p * 7 + 3) = p * 7 + 3 := w64 (by omega) (by omega)
        have t1 := tmod_in p (s.length : Int) hp hL
        have t2 := tmod_in (p * 7 + 3) (s.length : Int) (by omega) hL
        have r1 := hb (Int.tmod p (s.length : Int))
        have r2 := hb (Int.tmod (p * 7 + 3) (s.length : Int))
        rw [if_neg hlt, if_neg he, if_pos t1.1, if_pos t1.2, e7, e73, if_pos t2.1, if_pos t2.2, if_neg hn0]
        generalize rd s (Int.tmod p (s.length : Int)) = a at *
        generalize rd s (Int.tmod (p * 7 + 3) (s.length : Int)) = b at *
        have hq : Int.tdiv p (s.length : Int) = p / (s.length : Int) := Int.tdiv_eq_ediv_of_nonneg hp
        have q0 : 0 ≤ p / (s.length : Int) := Int.ediv_nonneg hp (by omega)
        have q1 : p / (s.length : Int) ≤ p := Int.ediv_le_self _ hp
        rw [hq]
        generalize p / (s.length : Int) = q at *
        have ea : wrap64 a = a := w64 (by omega) (by omega)
        have eb : wrap64 b = b := w64 (by omega) (by omega)
        have ea2 : wrap64 (a * 131) = a * 131 := w64 (by omega) (by omega)
        have eb2 : wrap64 (b * 1117) = b * 1117 := w64 (by omega) (by omega)
        have ep : wrap64 (p * 29) = p * 29 := w64 (by omega) (by omega)
        have eq_ : wrap64 q = q := w64 (by omega) (by omega)
        have eq2 : wrap64 (q * 53) = q * 53 := w64 (by omega) (by omega)
        have e1 : wrap64 (a * 131 + b * 1117) = a * 131 + b * 1117 := w64 (by omega) (by omega)
        have e2 : wrap64 (a * 131 + b * 1117 + p * 29) = a * 131 + b * 1117 + p * 29 := w64 (by omega) (by omega)
        have e3 : wrap64 (a * 131 + b * 1117 + p * 29 + q * 53) = a * 131 + b * 1117 + p * 29 + q * 53 := w64 (by omega) (by omega)
        rw [ea, eb, ea2, eb2, ep, eq_, eq2, e1, e2, e3]
        have hX0 : 0 ≤ a * 131 + b * 1117 + p * 29 + q * 53 := by omega
        have hX1 : a * 131 + b * 1117 + p * 29 + q * 53 < 1099511627776 := by omega
        generalize a * 131 + b * 1117 + p * 29 + q * 53 = X at *
        have hd : Int.tdiv X 64 = X / 64 := Int.tdiv_eq_ediv_of_nonneg hX0
        have ed : wrap64 (X / 64) = X / 64 := w64 (by omega) (by omega)
        rw [hd, ed]
        have hx := xor_small X (X / 64) hX0 hX1 (by omega) (by omega)
        have ht := tmod_in (Go.bits .xor .i64 X (X / 64)) n hx.1 (by omega)
        exact ⟨_, rfl, ht.1, fun _ => ht.2, fun h => absurd h hn⟩
theorem odd_ok {k : Nat} (hk : 1 ≤ k) {s : List Int} (hs : ∀ x ∈ s, 0 ≤ x ∧ x ≤ 255) (hl : s.length ≤ 2000) (p : Int) (hp : 0 ≤ p) (hp2 : p ≤ 1000000) (n : Int) (hn : n ≤ 1000) :
    ∃ b q, spec_l20Rd_odd.f k s p n = some (b, q) ∧ p ≤ q ∧ q ≤ p + 1 ∧ (n ≤ 0 → b = false) := by
  unfold spec_l20Rd_odd.f
  by_cases h : n > 0
  · obtain ⟨v, hv, -⟩ := pick_ok hk hs hl p hp hp2 n
    rw [if_pos h, hv]
    exact ⟨_, _, rfl, by simp only; omega, by simp only; omega, fun hh => by omega⟩
  · rw [if_neg h]
    exact ⟨_, _, rfl, by omega, by omega, fun _ => rfl⟩
theorem open_ok {s : List Int} (hs : ∀ x ∈ s, 0 ≤ x ∧ x ≤ 255) : ∃ t, spec_l20Open.f s = some (t, 0) ∧ (∀ x ∈ t, 0 ≤ x ∧ x ≤ 255) ∧ t.length ≤ 2000 := by
  unfold spec_l20Open.f
  by_cases h : (s.length : Int) > 2000
  · rw [if_pos h, if_pos (by omega)]
    exact ⟨_, rfl, fun x hx => hs x (List.mem_of_mem_take hx), by rw [List.length_take]; omega⟩
  · rw [if_neg h]
    exact ⟨_, rfl, hs, by omega⟩
theorem bytes_of {l : List Int} (h : ∀ x ∈ l, (Lit.int .u8 x).wf = true) : ∀ x ∈ l, 0 ≤ x ∧ x ≤ 255 := by
  intro x hx
  have := h x hx
  simp only [Lit.wf, IntKind.min, IntKind.max, IntKind.signed, IntKind.bits, Bool.and_eq_true, decide_eq_true_eq, Bool.false_eq_true, if_false] at this
  omega

/-! drawboth -/
theorem l20Both_loop {s : List Int} (hs : ∀ x ∈ s, 0 ≤ x ∧ x ≤ 255) (hl : s.length ≤ 2000) (m high : Int) (hm : m ≤ 1000) (hh : 1 ≤ high) (hh2 : high ≤ 1000) : ∀ (d : Nat) (k : Nat) (l : List S31) (p : Int), d + 2 ≤ k → 0 ≤ p → p + 2 * d + 3 ≤ 1000000 → l.length + d ≤ 100 → 1 ≤ l.length + d →
    ∃ r q, spec_l20Both.l0 k m l high d s p = some (r, q) ∧ r.length ≤ 200 ∧ 0 ≤ q ∧ q ≤ p + 2 * d + 3 := by
  intro d
  induction d with
  | zero =>
    intro k l p hk hp hp2 hll h0
    obtain ⟨k, rfl⟩ : ∃ m, k = m + 1 := ⟨k - 1, by omega⟩
    simp only [spec_l20Both.l0]
    rw [if_neg (by omega)]
    obtain ⟨b, q, e, hq1, hq2, -⟩ := odd_ok (k := k) (by omega) hs hl p hp (by omega) m hm
    rw [e]; simp only [Option.bind_some]
    cases b with
    | false => rw [if_neg (by simp)]; exact ⟨_, _, rfl, by omega, by omega, by omega⟩
    | true =>
      rw [if_pos rfl]
      obtain ⟨v, e2, hv⟩ := pick_ok (k := k) (by omega) hs hl q (by omega) (by omega) 3
      rw [e2]; simp only [Option.bind_some]
      by_cases v0 : v = 0
      · rw [if_pos v0]; exact ⟨_, _, rfl, by simp, by omega, by omega⟩
      · rw [if_neg v0]
        by_cases v1 : v = 1
        · rw [if_pos v1, if_pos (by omega)]; exact ⟨_, _, rfl, by rw [List.length_set]; omega, by omega, by omega⟩
        · rw [if_neg v1, if_pos (by omega)]; exact ⟨_, _, rfl, by simp, by omega, by omega⟩
  | succ d ih =>
    intro k l p hk hp hp2 hll h0
    obtain ⟨k, rfl⟩ : ∃ m, k = m + 1 := ⟨k - 1, by omega⟩
    simp only [spec_l20Both.l0]
    rw [if_pos (by omega)]
    obtain ⟨v, e, hv0, hv1, -⟩ := pick_ok (k := k) (by omega) hs hl p hp (by omega) high
    rw [e]; simp only [Option.bind_some]
    obtain ⟨v2, e2, hv2, hv3, -⟩ := pick_ok (k := k) (by omega) hs hl (p + 1) (by omega) (by omega) high
    rw [e2]; simp only [Option.bind_some]
    rw [if_pos (by omega), show wrap64 (((d + 1 : Nat) : Int) - 1) = (d : Int) from by rw [w64 (by omega) (by omega)]; omega]
    obtain ⟨r, q, e3, h1, h2, h3⟩ := ih k (l ++ [⟨wrap64 (1 + v), wrap64 (1 + v2)⟩]) (p + 1 + 1) (by omega) (by omega) (by omega) (by rw [List.length_append]; simp; omega) (by rw [List.length_append]; simp; omega)
    exact ⟨r, q, e3, h1, h2, by omega⟩
theorem l20Both_ok {s : List Int} (hs : ∀ x ∈ s, 0 ≤ x ∧ x ≤ 255) (hl : s.length ≤ 2000) (m : Int) (hm : m ≤ 1000) (k : Nat) (hk : 20 ≤ k) (p : Int) (hp : 0 ≤ p) (hp2 : p ≤ 1000) :
    ∃ r q, spec_l20Both.f k s p m = some (r, q) ∧ r.length ≤ 200 ∧ 0 ≤ q ∧ q ≤ p + 20 := by
  unfold spec_l20Both.f
  simp only [Option.bind_some]
  obtain ⟨v, e, hv0, hv1, -⟩ := pick_ok (k := k) (by omega) hs hl p hp (by omega) 2
  have hv1 := hv1 (by omega)
  rw [e]; simp only [Option.bind_some]
  rw [if_pos hv0, if_pos (by simp; omega)]
  obtain ⟨v2, e2, hv2, hv3, -⟩ := pick_ok (k := k) (by omega) hs hl (p + 1) (by omega) (by omega) 5
  have hv3 := hv3 (by omega)
  rw [e2]; simp only [Option.bind_some]
  have hr : 1 ≤ rd [3, 9] v ∧ rd [3, 9] v ≤ 1000 := by
    have : v = 0 ∨ v = 1 := by omega
    rcases this with rfl | rfl <;> decide
  rw [w64 (by omega) (by omega), show (1 + v2) = ((v2.toNat + 1 : Nat) : Int) from by omega]
  obtain ⟨r, q, e3, h1, h2, h3⟩ := l20Both_loop hs hl m (rd [3, 9] v) hm hr.1 hr.2 (v2.toNat + 1) k [] (p + 1 + 1) (by omega) (by omega) (by omega) (by simp only [List.length_nil]; omega) (by simp only [List.length_nil]; omega)
  exact ⟨r, q, e3, h1, h2, by omega⟩

/-! l1in -/
theorem spec_l1In_is (a b c : Int) : spec_l1In.f a b c = some (decide (b ≤ a ∧ a ≤ c)) := by
  unfold spec_l1In.f
  by_cases h : a ≥ b
  · rw [if_pos h]
    congr 1
    apply decide_eq_decide.2
    omega
  · rw [if_neg h]
    congr 1
    symm
    exact decide_eq_false (by omega)

/-! both -/
/-- Customers of two counters, as both texts ask. -/
def bothOk (l : List S31) : Bool := decide ((∀ b ∈ l, 1 ≤ b.f0 ∧ b.f0 ≤ 9 ∧ 1 ≤ b.f1 ∧ b.f1 ≤ 9) ∧ 1 ≤ l.length ∧ l.length ≤ 6)
theorem bothOk_mem {l : List S31} (h : bothOk l = true) : ∀ b ∈ l, 1 ≤ b.f0 ∧ b.f0 ≤ 9 ∧ 1 ≤ b.f1 ∧ b.f1 ≤ 9 := (of_decide_eq_true h).1
theorem bothOk_len {l : List S31} (h : bothOk l = true) : 1 ≤ l.length ∧ l.length ≤ 6 := (of_decide_eq_true h).2
theorem bothOk_take {l : List S31} (h : bothOk l = true) (n : Nat) (hn : 1 ≤ n) : bothOk (l.take n) = true := by
  have h1 := bothOk_mem h
  have h2 := bothOk_len h
  exact decide_eq_true ⟨fun b hb => h1 b (List.mem_of_mem_take hb), by rw [List.length_take]; omega, by rw [List.length_take]; omega⟩
theorem rd_Both_nat (l : List S31) (i : Nat) : rd_T31 l (i : Int) = l.getD i z31 := by
  unfold rd_T31
  rw [Int.toNat_natCast]
theorem impl_BothOk_loop (l : List S31) (hl : l.length ≤ 1048576) : ∀ (suf : List S31) (i k : Nat), l.drop i = suf → suf.length < k → i ≤ l.length →
    impl_BothOk.l0 k l l (l.length : Int) i = some (decide ((∀ b ∈ suf, 1 ≤ b.f0 ∧ b.f0 ≤ 9 ∧ 1 ≤ b.f1 ∧ b.f1 ≤ 9) ∧ 1 ≤ l.length ∧ l.length ≤ 6)) := by
  intro suf
  induction suf with
  | nil =>
    intro i k hd hk hi
    obtain ⟨k, rfl⟩ : ∃ m, k = m + 1 := ⟨k - 1, by omega⟩
    have := drop_nil hd
    simp only [impl_BothOk.l0]
    rw [if_neg (by omega)]
    by_cases h1 : (l.length : Int) ≥ 1
    · rw [if_pos h1]
      congr 1
      apply decide_eq_decide.2
      constructor
      · intro h; exact ⟨by simp, by omega, by omega⟩
      · intro h; omega
    · rw [if_neg h1]
      congr 1
      symm
      exact decide_eq_false (fun h => by omega)
  | cons x xs ih =>
    intro i k hd hk hi
    obtain ⟨k, rfl⟩ : ∃ m, k = m + 1 := ⟨k - 1, by omega⟩
    obtain ⟨hlt, hd2, hx⟩ := drop_split hd
    simp only [impl_BothOk.l0]
    rw [if_pos (by omega), if_pos (by omega), if_pos (by omega), rd_Both_nat, hx, w64s i (by omega), ih (i + 1) k hd2 (by simp at hk; omega) (by omega)]
    repeat' split
    all_goals congr 1
    any_goals
      symm
      apply decide_eq_false
      intro h
      have := h.1 x (by simp)
      omega
    apply decide_eq_decide.2
    constructor
    · intro h
      refine ⟨fun b hb => ?_, h.2⟩
      rcases List.mem_cons.1 hb with rfl | hb
      · omega
      · exact h.1 b hb
    · intro h
      exact ⟨fun b hb => h.1 b (List.mem_cons_of_mem _ hb), h.2⟩
theorem impl_BothOk_is (l : List S31) (hl : l.length ≤ 1048576) (k : Nat) (hk : l.length < k) : impl_BothOk.f k l = some (bothOk l) :=
  impl_BothOk_loop l hl l 0 k rfl hk (by omega)
theorem spec_BothOk_loop (l : List S31) (hl : l.length ≤ 1048576) : ∀ (suf : List S31) (i k : Nat), l.drop i = suf → suf.length < k → i ≤ l.length →
    spec_BothOk.l0 k l i = some (decide ((∀ b ∈ suf, 1 ≤ b.f0 ∧ b.f0 ≤ 9 ∧ 1 ≤ b.f1 ∧ b.f1 ≤ 9) ∧ 1 ≤ l.length ∧ l.length ≤ 6)) := by
  intro suf
  induction suf with
  | nil =>
    intro i k hd hk hi
    obtain ⟨k, rfl⟩ : ∃ m, k = m + 1 := ⟨k - 1, by omega⟩
    have := drop_nil hd
    simp only [spec_BothOk.l0]
    rw [if_neg (by omega), spec_l1In_is]
    simp only [Option.bind_some]
    congr 1
    apply decide_eq_decide.2
    constructor
    · intro h; exact ⟨by simp, by omega, by omega⟩
    · intro h; omega
  | cons x xs ih =>
    intro i k hd hk hi
    obtain ⟨k, rfl⟩ : ∃ m, k = m + 1 := ⟨k - 1, by omega⟩
    obtain ⟨hlt, hd2, hx⟩ := drop_split hd
    simp only [spec_BothOk.l0]
    rw [if_pos (by omega), if_pos (by omega), rd_Both_nat, hx, spec_l1In_is, spec_l1In_is, w64s i (by omega), ih (i + 1) k hd2 (by simp at hk; omega) (by omega)]
    simp only [Option.bind_some, decide_eq_true_eq]
    repeat' split
    all_goals congr 1
    any_goals
      symm
      apply decide_eq_false
      intro h
      have := h.1 x (by simp)
      omega
    apply decide_eq_decide.2
    constructor
    · intro h
      refine ⟨fun b hb => ?_, h.2⟩
      rcases List.mem_cons.1 hb with rfl | hb
      · omega
      · exact h.1 b hb
    · intro h
      exact ⟨fun b hb => h.1 b (List.mem_cons_of_mem _ hb), h.2⟩
theorem spec_BothOk_is (l : List S31) (hl : l.length ≤ 1048576) (k : Nat) (hk : l.length < k) : spec_BothOk.f k l = some (bothOk l) :=
  spec_BothOk_loop l hl l 0 k rfl hk (by omega)

/-! customers -/
/-- Customers, as both texts ask: seen from a place on, with the one ahead. -/
def custFrom : Option S54 → List S54 → Bool
  | _, [] => true
  | none, c :: cs => decide (0 ≤ c.f0 ∧ c.f0 ≤ 60 ∧ 1 ≤ c.f1 ∧ c.f1 ≤ 9) && custFrom (some c) cs
  | some p, c :: cs => decide (0 ≤ c.f0 ∧ c.f0 ≤ 60 ∧ 1 ≤ c.f1 ∧ c.f1 ≤ 9 ∧ p.f0 ≤ c.f0) && custFrom (some c) cs
def custOk (l : List S54) : Bool := custFrom none l && decide (l.length ≤ 8)
theorem rd_Customer_nat (l : List S54) (i : Nat) : rd_T54 l (i : Int) = l.getD i z54 := by
  unfold rd_T54
  rw [Int.toNat_natCast]
theorem cust_bad {p : Option S54} {x : S54} {xs : List S54} (h : ¬ (0 ≤ x.f0 ∧ x.f0 ≤ 60 ∧ 1 ≤ x.f1 ∧ x.f1 ≤ 9)) : custFrom p (x :: xs) = false := by
  cases p with
  | none => simp only [custFrom, decide_eq_false h, Bool.false_and]
  | some q => simp only [custFrom, decide_eq_false (show ¬ (0 ≤ x.f0 ∧ x.f0 ≤ 60 ∧ 1 ≤ x.f1 ∧ x.f1 ≤ 9 ∧ q.f0 ≤ x.f0) from fun hh => h ⟨hh.1, hh.2.1, hh.2.2.1, hh.2.2.2.1⟩), Bool.false_and]
theorem cust_bad2 {p x : S54} {xs : List S54} (h : x.f0 < p.f0) : custFrom (some p) (x :: xs) = false := by
  simp only [custFrom, decide_eq_false (show ¬ (0 ≤ x.f0 ∧ x.f0 ≤ 60 ∧ 1 ≤ x.f1 ∧ x.f1 ≤ 9 ∧ p.f0 ≤ x.f0) from fun hh => by omega), Bool.false_and]
theorem impl_CustomersOk_loop (l : List S54) (hl : l.length ≤ 1048576) : ∀ (suf : List S54) (i k : Nat), l.drop i = suf → suf.length < k → i ≤ l.length →
    impl_CustomersOk.l0 k l l (l.length : Int) i = some (custFrom (if i = 0 then none else some (l.getD (i - 1) z54)) suf && decide (l.length ≤ 8)) := by
  intro suf
  induction suf with
  | nil =>
    intro i k hd hk hi
    obtain ⟨k, rfl⟩ : ∃ m, k = m + 1 := ⟨k - 1, by omega⟩
    have := drop_nil hd
    simp only [impl_CustomersOk.l0]
    rw [if_neg (by omega)]
    congr 1
    have e : (decide ((l.length : Int) ≤ 8)) = decide (l.length ≤ 8) := decide_eq_decide.2 (by omega)
    rw [e]
    split <;> simp [custFrom]
  | cons x xs ih =>
    intro i k hd hk hi
    obtain ⟨k, rfl⟩ : ∃ m, k = m + 1 := ⟨k - 1, by omega⟩
    obtain ⟨hlt, hd2, hx⟩ := drop_split hd
    simp only [impl_CustomersOk.l0]
    rw [if_pos (by omega), if_pos (by omega), if_pos (by omega), rd_Customer_nat, hx, w64s i (by omega), ih (i + 1) k hd2 (by simp at hk; omega) (by omega)]
    rw [if_neg (show ¬ i + 1 = 0 by omega), show i + 1 - 1 = i from rfl, hx]
    by_cases h1 : x.f0 < 0
    · rw [if_pos h1, cust_bad (by omega), Bool.false_and]
    rw [if_neg h1]
    by_cases h2 : x.f0 > 60
    · rw [if_pos h2, cust_bad (by omega), Bool.false_and]
    rw [if_neg h2]
    by_cases hi0 : i = 0
    · subst hi0
      rw [if_neg (by omega)]
      by_cases h3 : x.f1 < 1
      · rw [if_pos h3, cust_bad (by omega), Bool.false_and]
      rw [if_neg h3]
      by_cases h4 : x.f1 > 9
      · rw [if_pos h4, cust_bad (by omega), Bool.false_and]
      rw [if_neg h4, if_pos rfl]
      have e : decide (0 ≤ x.f0 ∧ x.f0 ≤ 60 ∧ 1 ≤ x.f1 ∧ x.f1 ≤ 9) = true := decide_eq_true (by omega)
      simp only [custFrom, e, Bool.true_and]
    · rw [if_pos (by omega), show wrap64 ((i : Int) - 1) = ((i - 1 : Nat) : Int) from by rw [w64 (by omega) (by omega)]; omega, if_pos (by omega), if_pos (by omega), rd_Customer_nat, if_neg hi0]
      by_cases h5 : x.f0 < (l.getD (i - 1) z54).f0
      · rw [if_pos h5, cust_bad2 h5, Bool.false_and]
      rw [if_neg h5]
      by_cases h3 : x.f1 < 1
      · rw [if_pos h3, cust_bad (by omega), Bool.false_and]
      rw [if_neg h3]
      by_cases h4 : x.f1 > 9
      · rw [if_pos h4, cust_bad (by omega), Bool.false_and]
      rw [if_neg h4]
      have e : decide (0 ≤ x.f0 ∧ x.f0 ≤ 60 ∧ 1 ≤ x.f1 ∧ x.f1 ≤ 9 ∧ (l.getD (i - 1) z54).f0 ≤ x.f0) = true := decide_eq_true (by omega)
      simp only [custFrom, e, Bool.true_and]
theorem impl_CustomersOk_is (l : List S54) (hl : l.length ≤ 1048576) (k : Nat) (hk : l.length < k) : impl_CustomersOk.f k l = some (custOk l) := by
  unfold impl_CustomersOk.f
  exact impl_CustomersOk_loop l hl l 0 k rfl hk (by omega)

/-! alive -/
theorem alive_is (k : Nat) (hk : 2 ≤ k) : laws_alive.f k = some true := by
  unfold laws_alive.f
  rw [impl_CustomersOk_is _ (by simp) k (by simp; omega)]
  simp only [Option.bind_some]
  rw [if_pos (by decide), impl_CustomersOk_is _ (by simp) k (by simp; omega)]
  rfl

/-! once_core -/
/-- Each number of a row lies in 0..many-1, and is not among those ahead. -/
def onceFrom (many : Int) : List Int → List Int → Bool
  | _, [] => true
  | seen, x :: xs => decide (0 ≤ x ∧ x < many ∧ ¬ x ∈ seen) && onceFrom many (seen ++ [x]) xs
def onceP (row : List Int) (many : Int) : Bool := onceFrom many [] row && decide (1 ≤ many ∧ many ≤ 6 ∧ (row.length : Int) = many)
theorem once_bad {many x : Int} {seen xs : List Int} (h : ¬ (0 ≤ x ∧ x < many ∧ ¬ x ∈ seen)) : onceFrom many seen (x :: xs) = false := by
  simp only [onceFrom, decide_eq_false h, Bool.false_and]
theorem once_good {many x : Int} {seen xs : List Int} (h : 0 ≤ x ∧ x < many ∧ ¬ x ∈ seen) : onceFrom many seen (x :: xs) = onceFrom many (seen ++ [x]) xs := by
  simp only [onceFrom, decide_eq_true h, Bool.true_and]
theorem index_all (F : List Int) (v : Int) (hF : F.length ≤ 1048576) : ∀ (suf : List Int) (i k : Nat), F.drop i = suf → suf.length < k → i ≤ F.length → ∃ r, slices_Index_int_int.l0 k F v (F.length : Int) i = some r ∧ (r ≥ 0 ↔ v ∈ suf) := by
  intro suf
  induction suf with
  | nil =>
    intro i k hd hk hi
    obtain ⟨k, rfl⟩ : ∃ m, k = m + 1 := ⟨k - 1, by omega⟩
    have := drop_nil hd
    simp only [slices_Index_int_int.l0]
    rw [if_neg (by omega)]
    exact ⟨-1, rfl, by simp⟩
  | cons x xs ih =>
    intro i k hd hk hi
    obtain ⟨k, rfl⟩ : ∃ m, k = m + 1 := ⟨k - 1, by omega⟩
    obtain ⟨hlt, hd2, hx⟩ := drop_split hd
    simp only [slices_Index_int_int.l0]
    rw [if_pos (by omega), if_pos (by omega), if_pos (by omega), rd_nat, hx]
    by_cases hv : v = x
    · rw [if_pos hv]; exact ⟨(i : Int), rfl, by rw [hv]; simp⟩
    · rw [if_neg hv, w64s i (by omega)]
      obtain ⟨r, e, hr⟩ := ih (i + 1) k hd2 (by simp at hk; omega) (by omega)
      exact ⟨r, e, by rw [hr, List.mem_cons]; simp [hv]⟩
theorem contains_is (F : List Int) (v : Int) (hF : F.length ≤ 1048576) (k : Nat) (hk : F.length < k) : slices_Contains_int_int.f k F v = some (decide (v ∈ F)) := by
  unfold slices_Contains_int_int.f slices_Index_int_int.f
  obtain ⟨r, e, hr⟩ := index_all F v hF F 0 k rfl hk (by omega)
  rw [show ((0 : Nat) : Int) = 0 from rfl] at e
  rw [e]
  simp only [Option.bind_some]
  congr 1
  exact decide_eq_decide.2 hr
theorem onceFrom_mem {many : Int} : ∀ {xs seen : List Int}, onceFrom many seen xs = true → ∀ x ∈ xs, 0 ≤ x ∧ x < many := by
  intro xs
  induction xs with
  | nil => intro seen _ x hx; cases hx
  | cons y ys ih =>
    intro seen h x hx
    simp only [onceFrom, Bool.and_eq_true, decide_eq_true_eq] at h
    rcases List.mem_cons.1 hx with rfl | hx
    · exact ⟨h.1.1, h.1.2.1⟩
    · exact ih h.2 x hx
theorem onceP_mem {row : List Int} {many : Int} (h : onceP row many = true) : ∀ x ∈ row, 0 ≤ x ∧ x < many := by
  unfold onceP at h
  rw [Bool.and_eq_true] at h
  exact onceFrom_mem h.1
theorem onceP_len {row : List Int} {many : Int} (h : onceP row many = true) : (row.length : Int) = many ∧ 1 ≤ many ∧ many ≤ 6 := by
  unfold onceP at h
  rw [Bool.and_eq_true, decide_eq_true_eq] at h
  exact ⟨h.2.2.2, h.2.1, h.2.2.1⟩

/-! once_spec -/
theorem spec_EachOnce_inner (row : List Int) (many : Int) (hl : row.length ≤ 1048576) (i : Nat) (hi : i < row.length) (r : Bool) (K : Nat) (hnext : ∀ k, K ≤ k → spec_EachOnce.l0 k row many ((i + 1 : Nat) : Int) = some r) : ∀ (d j k : Nat), j + d = i → K + d + 1 ≤ k →
    spec_EachOnce.l1 k row many i j = some (decide (¬ row.getD i 0 ∈ (row.take i).drop j) && r) := by
  intro d
  induction d with
  | zero =>
    intro j k he hk
    obtain ⟨k, rfl⟩ : ∃ m, k = m + 1 := ⟨k - 1, by omega⟩
    simp only [spec_EachOnce.l1]
    rw [if_neg (by omega), w64s i (by omega), hnext k (by omega), List.drop_eq_nil_of_le (by rw [List.length_take]; omega)]
    simp
  | succ d ih =>
    intro j k he hk
    obtain ⟨k, rfl⟩ : ∃ m, k = m + 1 := ⟨k - 1, by omega⟩
    simp only [spec_EachOnce.l1]
    have hjl : j < (row.take i).length := by rw [List.length_take]; omega
    have hdr : (row.take i).drop j = row.getD j 0 :: (row.take i).drop (j + 1) := by
      rw [List.drop_eq_getElem_cons hjl, List.getElem_take, getD_lt (by omega)]
    rw [if_pos (by omega), if_pos (by omega), if_pos (by omega), if_pos (by omega), if_pos (by omega), rd_nat, rd_nat, hdr]
    by_cases h : row.getD j 0 = row.getD i 0
    · rw [if_pos h, h]; simp
    · rw [if_neg h, w64s j (by omega), ih (j + 1) k (by omega) (by omega)]
      congr 2
      apply decide_eq_decide.2
      rw [List.mem_cons]
      constructor
      · intro hh h2
        rcases h2 with h2 | h2
        · exact h h2.symm
        · exact hh h2
      · intro hh h2; exact hh (.inr h2)
theorem spec_EachOnce_loop (row : List Int) (many : Int) (hl : row.length ≤ 1048576) (hm0 : 0 ≤ many) (hm1 : many ≤ 1048576) : ∀ (suf : List Int) (i k : Nat), row.drop i = suf → (row.length + 2) * suf.length + 1 ≤ k → i ≤ row.length →
    spec_EachOnce.l0 k row many i = some (onceFrom many (row.take i) suf && decide (1 ≤ many ∧ many ≤ 6 ∧ (row.length : Int) = many)) := by
  intro suf
  induction suf with
  | nil =>
    intro i k hd hk hi
    obtain ⟨k, rfl⟩ : ∃ m, k = m + 1 := ⟨k - 1, by omega⟩
    have := drop_nil hd
    simp only [spec_EachOnce.l0]
    rw [if_neg (by omega), spec_l1In_is]
    simp only [onceFrom, Bool.true_and, Option.bind_some, decide_eq_true_eq]
    by_cases h1 : 1 ≤ many ∧ many ≤ 6
    · rw [if_pos h1]
      congr 1
      rw [Bool.eq_iff_iff]
      simp
      omega
    · rw [if_neg h1, decide_eq_false (fun h => h1 ⟨h.1, h.2.1⟩)]
  | cons x xs ih =>
    intro i k hd hk hi
    obtain ⟨k, rfl⟩ : ∃ m, k = m + 1 := ⟨k - 1, by omega⟩
    obtain ⟨hlt, hd2, hx⟩ := drop_split hd
    simp only [List.length_cons, Nat.mul_add, Nat.mul_one] at hk
    simp only [spec_EachOnce.l0]
    rw [if_pos (by omega), if_pos (by omega), rd_nat, hx, spec_l1In_is, show wrap64 (many - 1) = many - 1 from w64 (by omega) (by omega)]
    simp only [Option.bind_some, decide_eq_true_eq]
    by_cases h1 : 0 ≤ x ∧ x ≤ many - 1
    · rw [if_pos h1]
      have hin := spec_EachOnce_inner row many hl i hlt _ ((row.length + 2) * xs.length + 1) (fun k' hk' => ih (i + 1) k' hd2 hk' (by omega)) i 0 k (by omega) (by omega)
      rw [show ((0 : Nat) : Int) = 0 from rfl] at hin
      rw [hin, hx, List.drop_zero]
      by_cases h3 : x ∈ row.take i
      · rw [once_bad (fun h => h.2.2 h3), decide_eq_false (fun h => h h3), Bool.false_and, Bool.false_and]
      · rw [once_good ⟨h1.1, by omega, h3⟩, decide_eq_true h3, Bool.true_and, take_succ_getD hlt 0, hx]
    · rw [if_neg h1, once_bad (by omega), Bool.false_and]
theorem spec_EachOnce_is (row : List Int) (many : Int) (hl : row.length ≤ 1048576) (hm0 : 0 ≤ many) (hm1 : many ≤ 1048576) (k : Nat) (hk : (row.length + 2) * row.length + 1 ≤ k) : spec_EachOnce.f k row many = some (onceP row many) := by
  unfold spec_EachOnce.f onceP
  exact spec_EachOnce_loop row many hl hm0 hm1 row 0 k rfl hk (by omega)

/-! inorder_core -/
/-- The customers in an order. -/
def picked (l : List S31) (row : List Int) : List S31 := row.map fun i => l.getD i.toNat z31
theorem impl_inOrder_loop (l : List S31) (row : List Int) (hl : row.length ≤ 1048576) (hm : ∀ x ∈ row, 0 ≤ x ∧ x < (l.length : Int)) : ∀ (suf : List Int) (i k : Nat) (out : List S31), row.drop i = suf → suf.length < k → i ≤ row.length → out.length ≤ i →
    impl_inOrder.l0 k l out row (row.length : Int) i = some (out ++ picked l suf) := by
  intro suf
  induction suf with
  | nil =>
    intro i k out hd hk hi ho
    obtain ⟨k, rfl⟩ : ∃ m, k = m + 1 := ⟨k - 1, by omega⟩
    have := drop_nil hd
    simp only [impl_inOrder.l0]
    rw [if_neg (by omega)]
    simp [picked]
  | cons x xs ih =>
    intro i k out hd hk hi ho
    obtain ⟨k, rfl⟩ : ∃ m, k = m + 1 := ⟨k - 1, by omega⟩
    obtain ⟨hlt, hd2, hx⟩ := drop_split hd
    have hxm := hm x (by rw [← hx 0]; exact getD_mem hlt _)
    simp only [impl_inOrder.l0]
    rw [if_pos (by omega), if_pos (by omega), if_pos (by omega), rd_nat, hx, if_pos hxm.1, if_pos hxm.2, if_pos (by omega), w64s i (by omega)]
    rw [ih (i + 1) k _ hd2 (by simp at hk; omega) (by omega) (by rw [List.length_append]; simp; omega)]
    simp [picked, rd_T31]
theorem impl_inOrder_is (l : List S31) (row : List Int) (hl : row.length ≤ 1048576) (hm : ∀ x ∈ row, 0 ≤ x ∧ x < (l.length : Int)) (k : Nat) (hk : row.length < k) : impl_inOrder.f k l row = some (picked l row) := by
  unfold impl_inOrder.f
  exact impl_inOrder_loop l row hl hm row 0 k [] rfl hk (by omega) (by simp)
def inOrderP (l : List S31) (row : List Int) : List S31 × Bool := if bothOk l = true ∧ onceP row l.length = true then (picked l row, true) else ([], false)
theorem spec_InOrder_loop (l : List S31) (row : List Int) (hl : row.length ≤ 1048576) (hm : ∀ x ∈ row, 0 ≤ x ∧ x < (l.length : Int)) : ∀ (suf : List Int) (i k : Nat) (out : List S31), row.drop i = suf → suf.length < k → i ≤ row.length → out.length ≤ i →
    spec_InOrder.l0 k l row out i = some (out ++ picked l suf, true) := by
  intro suf
  induction suf with
  | nil =>
    intro i k out hd hk hi ho
    obtain ⟨k, rfl⟩ : ∃ m, k = m + 1 := ⟨k - 1, by omega⟩
    have := drop_nil hd
    simp only [spec_InOrder.l0]
    rw [if_neg (by omega)]
    simp [picked]
  | cons x xs ih =>
    intro i k out hd hk hi ho
    obtain ⟨k, rfl⟩ : ∃ m, k = m + 1 := ⟨k - 1, by omega⟩
    obtain ⟨hlt, hd2, hx⟩ := drop_split hd
    have hxm := hm x (by rw [← hx 0]; exact getD_mem hlt _)
    simp only [spec_InOrder.l0]
    rw [if_pos (by omega), if_pos (by omega), rd_nat, hx, if_pos hxm.1, if_pos hxm.2, if_pos (by omega), w64s i (by omega)]
    rw [ih (i + 1) k _ hd2 (by simp at hk; omega) (by omega) (by rw [List.length_append]; simp; omega)]
    simp [picked, rd_T31]
theorem spec_InOrder_is (l : List S31) (row : List Int) (hl : l.length ≤ 1048576) (hr : row.length ≤ 1048576) (k : Nat) (hk : (row.length + 2) * row.length + row.length + l.length + 3 ≤ k) : spec_InOrder.f k l row = some (inOrderP l row) := by
  obtain ⟨k, rfl⟩ : ∃ m, k = m + 1 := ⟨k - 1, by omega⟩
  have neg : spec_InOrder.j0 (k + 1) l row [] true = some ([], false) := by simp [spec_InOrder.j0]
  unfold spec_InOrder.f inOrderP
  simp only [Option.bind_some]
  rw [spec_BothOk_is l hl (k + 1) (by omega), neg]
  simp only [Option.bind_some]
  by_cases h : bothOk l = true
  · rw [if_pos h, spec_EachOnce_is row _ hr (by omega) (by omega) (k + 1) (by omega)]
    simp only [Option.bind_some]
    by_cases h2 : onceP row (l.length : Int) = true
    · rw [h2, if_pos ⟨h, rfl⟩]
      simp only [spec_InOrder.j0, Bool.not_true]
      rw [if_neg (by simp)]
      exact spec_InOrder_loop l row hr (onceP_mem h2) row 0 k [] rfl (by omega) (by omega) (by simp)
    · rw [if_neg (fun h => h2 h.2), Bool.not_eq_true _ |>.mp h2, Bool.not_false, neg]
  · rw [if_neg h, if_neg (fun hh => h hh.1)]

/-! longest_core -/
def sum0 : List S31 → Int
  | [] => 0
  | x :: xs => x.f0 + sum0 xs
def sum1 : List S31 → Int
  | [] => 0
  | x :: xs => x.f1 + sum1 xs
/-- The longest way, those ahead having needed a at the first counter; at least m. -/
def lwP : List S31 → Int → Int → Int
  | [], _, m => m
  | x :: xs, a, m => lwP xs (a + x.f0) (max m (a + x.f0 + sum1 (x :: xs)))
def lw (l : List S31) : Int := lwP l 0 0
theorem sum0_append (l r : List S31) : sum0 (l ++ r) = sum0 l + sum0 r := by
  induction l with
  | nil => simp [sum0]
  | cons x xs ih => simp [sum0, ih]; omega
theorem sum1_append (l r : List S31) : sum1 (l ++ r) = sum1 l + sum1 r := by
  induction l with
  | nil => simp [sum1]
  | cons x xs ih => simp [sum1, ih]; omega
theorem sum1_bound (l : List S31) (hm : ∀ b ∈ l, 1 ≤ b.f0 ∧ b.f0 ≤ 9 ∧ 1 ≤ b.f1 ∧ b.f1 ≤ 9) : 0 ≤ sum1 l ∧ sum1 l ≤ 9 * l.length := by
  induction l with
  | nil => simp [sum1]
  | cons x xs ih =>
    have := ih (fun b hb => hm b (List.mem_cons_of_mem _ hb))
    have := hm x (by simp)
    simp only [sum1, List.length_cons]
    omega
theorem sum0_bound (l : List S31) (hm : ∀ b ∈ l, 1 ≤ b.f0 ∧ b.f0 ≤ 9 ∧ 1 ≤ b.f1 ∧ b.f1 ≤ 9) : 0 ≤ sum0 l ∧ sum0 l ≤ 9 * l.length := by
  induction l with
  | nil => simp [sum0]
  | cons x xs ih =>
    have := ih (fun b hb => hm b (List.mem_cons_of_mem _ hb))
    have := hm x (by simp)
    simp only [sum0, List.length_cons]
    omega
theorem impl_longestWay_inner (l : List S31) (ys : List S31) (hys : ys.length ≤ 6) (hm : ∀ b ∈ ys, 1 ≤ b.f0 ∧ b.f0 ≤ 9 ∧ 1 ≤ b.f1 ∧ b.f1 ≤ 9) (most first : Int) (r : List S31) (len at_ : Int) : ∀ (suf : List S31) (i k : Nat) (n : Int), ys.drop i = suf → i ≤ ys.length → 0 ≤ n → n ≤ 1000 + 9 * i →
    impl_longestWay.l1 (k + suf.length + 1) l most first n r len at_ ys (ys.length : Int) i = impl_longestWay.l0 k l (max most (n + sum1 suf)) first r len (wrap64 (at_ + 1)) := by
  intro suf
  induction suf with
  | nil =>
    intro i k n hd hi hn0 hn
    have := drop_nil hd
    simp only [List.length_nil, Nat.add_zero, impl_longestWay.l1]
    rw [if_neg (by omega), mx_max]
    simp [sum1]
  | cons x xs ih =>
    intro i k n hd hi hn0 hn
    obtain ⟨hlt, hd2, hx⟩ := drop_split hd
    have hxb := hm x (by rw [← hx z31]; exact getD_mem hlt _)
    rw [show k + (x :: xs).length + 1 = (k + xs.length + 1) + 1 from by simp only [List.length_cons]; omega]
    rw [impl_longestWay.l1]
    rw [if_pos (by omega), if_pos (by omega), if_pos (by omega), rd_Both_nat, hx, w64s i (by omega), show wrap64 (n + x.f1) = n + x.f1 from w64 (by omega) (by omega)]
    rw [ih (i + 1) k _ hd2 (by omega) (by omega) (by omega)]
    simp only [sum1]
    rw [Int.add_assoc]
theorem impl_longestWay_mono : ∀ k, (∀ y0 y1 y2 y3 y4 y5, LeO (impl_longestWay.l0 k y0 y1 y2 y3 y4 y5) (impl_longestWay.l0 (k + 1) y0 y1 y2 y3 y4 y5)) := fun k => (impl_longestWay.mono_l k).1
theorem impl_longestWay_loop (l : List S31) (hl : l.length ≤ 6) (hm : ∀ b ∈ l, 1 ≤ b.f0 ∧ b.f0 ≤ 9 ∧ 1 ≤ b.f1 ∧ b.f1 ≤ 9) : ∀ (suf : List S31) (i k : Nat) (most first : Int), l.drop i = suf → i ≤ l.length → suf.length * 10 + 1 ≤ k → 0 ≤ first → first ≤ 9 * i →
    impl_longestWay.l0 k l most first l (l.length : Int) i = some (lwP suf first most) := by
  intro suf
  induction suf with
  | nil =>
    intro i k most first hd hi hk h0 h1
    obtain ⟨k, rfl⟩ : ∃ m, k = m + 1 := ⟨k - 1, by omega⟩
    have := drop_nil hd
    simp only [impl_longestWay.l0]
    rw [if_neg (by omega)]
    rfl
  | cons x xs ih =>
    intro i k most first hd hi hk h0 h1
    obtain ⟨hlt, hd2, hx⟩ := drop_split hd
    have hxb := hm x (by rw [← hx z31]; exact getD_mem hlt _)
    have hmd : ∀ b ∈ x :: xs, 1 ≤ b.f0 ∧ b.f0 ≤ 9 ∧ 1 ≤ b.f1 ∧ b.f1 ≤ 9 := fun b hb => hm b (by rw [← hd] at hb; exact List.mem_of_mem_drop hb)
    have hlen : (x :: xs).length ≤ 6 := by rw [← hd, List.length_drop]; omega
    simp only [List.length_cons] at hk hlen
    obtain ⟨k, rfl⟩ : ∃ m, k = (m + (x :: xs).length + 1) + 1 := ⟨k - ((x :: xs).length + 2), by simp only [List.length_cons]; omega⟩
    simp only [List.length_cons] at hk
    rw [impl_longestWay.l0]
    rw [if_pos (by omega), if_pos (by omega), if_pos (by omega), if_pos (by omega)]
    simp only [Option.bind_some]
    rw [Int.toNat_natCast, hd, rd_Both_nat, hx, show wrap64 (first + x.f0) = first + x.f0 from w64 (by omega) (by omega)]
    have hi1 := impl_longestWay_inner l (x :: xs) (by simp only [List.length_cons]; omega) hmd most (first + x.f0) l (l.length : Int) i (x :: xs) 0 k (first + x.f0) rfl (by omega) (by omega) (by omega)
    rw [show ((0 : Nat) : Int) = 0 from rfl] at hi1
    rw [hi1, w64s i (by omega), ih (i + 1) k _ _ hd2 (by omega) (by omega) (by omega) (by omega)]
    rfl
theorem impl_longestWay_is (l : List S31) (h : bothOk l = true) (k : Nat) (hk : 61 ≤ k) : impl_longestWay.f k l = some (lw l) := by
  have h1 := bothOk_len h
  unfold impl_longestWay.f
  exact impl_longestWay_loop l h1.2 (bothOk_mem h) l 0 k 0 0 rfl (by omega) (by omega) (by omega) (by omega)
theorem lwP_snoc (l : List S31) (x : S31) : ∀ a m, lwP (l ++ [x]) a (m + x.f1) = max (lwP l a m) (a + sum0 l + x.f0) + x.f1 := by
  induction l with
  | nil => intro a m; simp only [List.nil_append, lwP, sum1, sum0]; omega
  | cons y ys ih =>
    intro a m
    simp only [List.cons_append, lwP, sum0]
    rw [show max (m + x.f1) (a + y.f0 + sum1 (y :: (ys ++ [x]))) = max m (a + y.f0 + sum1 (y :: ys)) + x.f1 from by simp only [sum1, sum1_append]; omega, ih]
    omega
theorem lwP_most (l : List S31) : ∀ a m, 0 ≤ m → lwP l a m = max m (lwP l a 0) := by
  induction l with
  | nil => intro a m hm; simp only [lwP]; omega
  | cons y ys ih =>
    intro a m hm
    simp only [lwP]
    rw [ih (a + y.f0) (max m (a + y.f0 + sum1 (y :: ys))) (by omega), ih (a + y.f0) (max 0 (a + y.f0 + sum1 (y :: ys))) (by omega)]
    omega
theorem lw_snoc (l : List S31) (x : S31) (hx : 1 ≤ x.f0 ∧ 1 ≤ x.f1) (h0 : 0 ≤ sum0 l) : lw (l ++ [x]) = max (lw l) (sum0 l + x.f0) + x.f1 := by
  have h := lwP_snoc l x 0 0
  unfold lw
  rw [lwP_most (l ++ [x]) 0 (0 + x.f1) (by omega)] at h
  omega
theorem lw_bound (l : List S31) (hm : ∀ b ∈ l, 1 ≤ b.f0 ∧ b.f0 ≤ 9 ∧ 1 ≤ b.f1 ∧ b.f1 ≤ 9) : 0 ≤ lw l ∧ lw l ≤ 18 * l.length := by
  induction h : l.length generalizing l with
  | zero => have := List.length_eq_zero_iff.1 h; subst this; simp [lw, lwP]
  | succ n ih =>
    have hne : l ≠ [] := fun e => by rw [e] at h; simp at h
    obtain ⟨ys, x, rfl⟩ : ∃ ys x, l = ys ++ [x] := ⟨l.dropLast, l.getLast hne, (List.dropLast_concat_getLast hne).symm⟩
    have hys : ∀ b ∈ ys, 1 ≤ b.f0 ∧ b.f0 ≤ 9 ∧ 1 ≤ b.f1 ∧ b.f1 ≤ 9 := fun b hb => hm b (List.mem_append_left _ hb)
    have hx := hm x (by simp)
    have hl2 : ys.length = n := by simpa using h
    have i1 := ih ys hys hl2
    have s0 := sum0_bound ys hys
    rw [lw_snoc ys x ⟨hx.1, hx.2.2.1⟩ s0.1]
    omega

/-! longest_spec -/
theorem spec_lw2 (l : List S31) (h6 : l.length ≤ 6) (hm : ∀ b ∈ l, 1 ≤ b.f0 ∧ b.f0 ≤ 9 ∧ 1 ≤ b.f1 ∧ b.f1 ≤ 9) (most : Int) (i : Nat) (hi : i < l.length) (R : Int) (K : Nat) : ∀ (suf : List S31) (j k : Nat) (acc : Int), l.drop j = suf → suf.length + 1 + K ≤ k → 0 ≤ acc → acc ≤ 54 + 9 * j →
    (∀ k', K ≤ k' → spec_LongestWay.l0 k' l (mx most (acc + sum1 suf)) ((i + 1 : Nat) : Int) = some R) → spec_LongestWay.l2 k l most i acc j = some R := by
  intro suf
  induction suf with
  | nil =>
    intro j k acc hd hk h0 h1 hn
    obtain ⟨k, rfl⟩ : ∃ m, k = m + 1 := ⟨k - 1, by omega⟩
    have := drop_nil hd
    simp only [spec_LongestWay.l2]
    rw [if_neg (by omega), w64s i (by omega)]
    have := hn k (by simp at hk; omega)
    simpa [sum1] using this
  | cons x xs ih =>
    intro j k acc hd hk h0 h1 hn
    obtain ⟨k, rfl⟩ : ∃ m, k = m + 1 := ⟨k - 1, by omega⟩
    obtain ⟨hlt, hd2, hx⟩ := drop_split hd
    have hxm := hm x (by rw [← hx z31]; exact getD_mem hlt _)
    simp only [List.length_cons] at hk
    simp only [spec_LongestWay.l2]
    rw [if_pos (by omega), if_pos (by omega), rd_Both_nat, hx, w64s j (by omega), show wrap64 (acc + x.f1) = acc + x.f1 from w64 (by omega) (by omega)]
    refine ih (j + 1) k _ hd2 (by omega) (by omega) (by omega) (fun k' hk' => ?_)
    have := hn k' hk'
    simp only [sum1] at this
    rw [show acc + x.f1 + sum1 xs = acc + (x.f1 + sum1 xs) from by omega]
    exact this
theorem spec_lw1 (l : List S31) (h6 : l.length ≤ 6) (hm : ∀ b ∈ l, 1 ≤ b.f0 ∧ b.f0 ≤ 9 ∧ 1 ≤ b.f1 ∧ b.f1 ≤ 9) (most : Int) (i : Nat) (hi : i < l.length) (R : Int) (K : Nat) (hn : ∀ k', K ≤ k' → spec_LongestWay.l2 k' l most i (sum0 (l.take (i + 1))) i = some R) : ∀ (d j k : Nat), j + d = i + 1 → d + 1 + K ≤ k →
    spec_LongestWay.l1 k l most i (sum0 (l.take j)) j = some R := by
  intro d
  induction d with
  | zero =>
    intro j k hj hk
    obtain ⟨k, rfl⟩ : ∃ m, k = m + 1 := ⟨k - 1, by omega⟩
    simp only [spec_LongestWay.l1]
    rw [if_neg (by omega), show j = i + 1 from by omega]
    exact hn k (by omega)
  | succ d ih =>
    intro j k hj hk
    obtain ⟨k, rfl⟩ : ∃ m, k = m + 1 := ⟨k - 1, by omega⟩
    have hlt : j < l.length := by omega
    have hb := sum0_bound (l.take j) (fun b hb => hm b (List.mem_of_mem_take hb))
    have hbl : (l.take j).length ≤ 6 := by rw [List.length_take]; omega
    have hxm := hm _ (getD_mem hlt z31)
    have e : sum0 (l.take (j + 1)) = sum0 (l.take j) + (l.getD j z31).f0 := by
      rw [take_succ_getD hlt z31, sum0_append]; simp [sum0]
    simp only [spec_LongestWay.l1]
    rw [if_pos (by omega), if_pos (by omega), if_pos (by omega), rd_Both_nat, w64s j (by omega), show wrap64 (sum0 (l.take j) + (l.getD j z31).f0) = sum0 (l.take j) + (l.getD j z31).f0 from w64 (by omega) (by omega), ← e]
    exact ih (j + 1) k (by omega) (by omega)
theorem spec_lw0 (l : List S31) (hok : bothOk l = true) : ∀ (suf : List S31) (i k : Nat) (most : Int), l.drop i = suf → suf.length * 40 + 20 ≤ k → i ≤ l.length → spec_LongestWay.l0 k l most i = some (lwP suf (sum0 (l.take i)) most) := by
  have h6 := (bothOk_len hok).2
  have hm := bothOk_mem hok
  intro suf
  induction suf with
  | nil =>
    intro i k most hd hk hi
    obtain ⟨k, rfl⟩ : ∃ m, k = m + 1 := ⟨k - 1, by omega⟩
    obtain ⟨k, rfl⟩ : ∃ m, k = m + 1 := ⟨k - 1, by omega⟩
    have := drop_nil hd
    simp only [spec_LongestWay.l0, spec_LongestWay.j1]
    rw [if_neg (by omega), if_neg (by simp)]; rfl
  | cons x xs ih =>
    intro i k most hd hk hi
    obtain ⟨k, rfl⟩ : ∃ m, k = m + 1 := ⟨k - 1, by omega⟩
    obtain ⟨k, rfl⟩ : ∃ m, k = m + 1 := ⟨k - 1, by omega⟩
    obtain ⟨hlt, hd2, hx⟩ := drop_split hd
    simp only [List.length_cons] at hk
    have hxl : xs.length + i + 1 = l.length := by have := congrArg List.length hd; simp only [List.length_drop, List.length_cons] at this; omega
    have e : sum0 (l.take (i + 1)) = sum0 (l.take i) + x.f0 := by
      rw [take_succ_getD hlt z31, sum0_append, hx]; simp [sum0]
    have hb := sum0_bound (l.take (i + 1)) (fun b hb => hm b (List.mem_of_mem_take hb))
    have hbl : (l.take (i + 1)).length ≤ 6 := by rw [List.length_take]; omega
    simp only [spec_LongestWay.l0, lwP]
    rw [if_pos (by omega), spec_BothOk_is l (by omega) (k + 1) (by omega), Option.bind_some, hok]
    simp only [spec_LongestWay.j1]
    rw [if_pos trivial]
    have h1 := spec_lw1 l h6 hm most i hlt (lwP xs (sum0 (l.take i) + x.f0) (max most (sum0 (l.take i) + x.f0 + sum1 (x :: xs)))) (xs.length * 40 + 30) (fun k' hk' => spec_lw2 l h6 hm most i hlt _ (xs.length * 40 + 20) (x :: xs) i k' _ hd (by simp only [List.length_cons]; omega) (by omega) (by omega) (fun k2 hk2 => by
      rw [ih (i + 1) k2 _ hd2 hk2 (by omega), e, mx_max])) (i + 1) 0 k (by omega) (by omega)
    have z : sum0 (l.take 0) = 0 := by simp [sum0]
    rw [z] at h1
    exact h1
theorem spec_LongestWay_is (l : List S31) (hok : bothOk l = true) (k : Nat) (hk : 300 ≤ k) : spec_LongestWay.f k l = some (lw l) := by
  have h6 := bothOk_len hok
  have hm := bothOk_mem hok
  unfold spec_LongestWay.f
  have := spec_lw0 l hok l 0 k (-1) rfl (by omega) (by omega)
  rw [show ((0 : Nat) : Int) = 0 from rfl] at this
  rw [this]
  congr 1
  unfold lw
  cases l with
  | nil => simp at h6
  | cons x xs =>
    have hx := hm x (by simp)
    have hs := sum1_bound (x :: xs) hm
    simp only [lwP, List.take_zero, sum0]
    congr 1
    omega

/-! leastway -/
theorem mn_le (a b : Int) : mn a b ≤ a ∧ mn a b ≤ b := by
  rw [mn_min]; omega
theorem clone_int (o : List Int) (h : o.length ≤ 1048576) : slices_Clone_int_int.f o = some o := by
  unfold slices_Clone_int_int.f
  rw [Option.bind_some, if_pos (by simp only [List.length_nil]; omega), List.nil_append]
theorem picked_ok (l : List S31) (hok : bothOk l = true) (o : List Int) (ho : ∀ x ∈ o, 0 ≤ x ∧ x < (l.length : Int)) (hlen : o.length = l.length) : bothOk (picked l o) = true := by
  have h1 := bothOk_mem hok
  have h2 := bothOk_len hok
  refine decide_eq_true ⟨?_, by unfold picked; rw [List.length_map]; omega, by unfold picked; rw [List.length_map]; omega⟩
  intro b hb
  unfold picked at hb
  obtain ⟨x, hx, rfl⟩ := List.mem_map.1 hb
  have := ho x hx
  exact h1 _ (getD_mem (by omega) _)
/-- The least of what is met: no more than m, and than the longest way of each order that goes on o. -/
theorem go_least (l : List S31) (hok : bothOk l = true) (k : Nat) (hk : 100 ≤ k) : ∀ (d : Nat) (o : List Int) (m : Int), (∀ x ∈ o, 0 ≤ x ∧ x < (l.length : Int)) → o.length ≤ l.length → l.length < o.length + d →
    ∃ r, impl_LeastWay.go k l d o m = some r ∧ r ≤ m ∧ ∀ rest, onceFrom l.length o rest = true → o.length + rest.length = l.length → r ≤ lw (picked l (o ++ rest)) := by
  have h6 := bothOk_len hok
  intro d
  induction d with
  | zero => intro o m ho h1 h2; omega
  | succ d ih =>
    intro o m ho h1 h2
    simp only [impl_LeastWay.go]
    by_cases hl : o.length = l.length
    · rw [if_pos hl, impl_inOrder_is l o (by omega) ho k (by omega), Option.bind_some, impl_longestWay_is _ (picked_ok l hok o ho hl) k (by omega), Option.bind_some]
      refine ⟨_, rfl, (mn_le _ _).1, fun rest _ hr => ?_⟩
      have : rest = [] := List.eq_nil_of_length_eq_zero (by omega)
      rw [this, List.append_nil]
      exact (mn_le _ _).2
    · rw [if_neg hl]
      have hr : ∀ (q i : Nat) (m : Int), i + q = l.length + 1 → 1 ≤ q → ∃ r, impl_LeastWay.rounds k (impl_LeastWay.go k l d) o l.length q i m = some r ∧ r ≤ m ∧ ∀ j : Nat, i ≤ j → j < l.length → ¬ (j : Int) ∈ o → ∀ rest, onceFrom l.length (o ++ [(j : Int)]) rest = true → o.length + 1 + rest.length = l.length → r ≤ lw (picked l (o ++ [(j : Int)] ++ rest)) := by
        intro q
        induction q with
        | zero => intro i m _ h; omega
        | succ q ihq =>
          intro i m hi _
          simp only [impl_LeastWay.rounds]
          by_cases hin : i < l.length
          · rw [if_pos hin, contains_is o _ (by omega) k (by omega), Option.bind_some]
            by_cases hc : (i : Int) ∈ o
            · rw [if_pos (decide_eq_true hc)]
              obtain ⟨r, e, hrm, hrr⟩ := ihq (i + 1) m (by omega) (by omega)
              refine ⟨r, e, hrm, fun j hj hjn hjo rest ho1 ho2 => ?_⟩
              have hne : i ≠ j := fun e => hjo (by rw [← e]; exact hc)
              exact hrr j (by omega) hjn hjo rest ho1 ho2
            · rw [if_neg (by simpa using hc), clone_int o (by omega), Option.bind_some]
              have hv : ∀ x ∈ o ++ [(i : Int)], 0 ≤ x ∧ x < (l.length : Int) := by
                intro x hx
                rcases List.mem_append.1 hx with hx | hx
                · exact ho x hx
                · rw [List.mem_singleton.1 hx]; omega
              obtain ⟨m', e, hm', hrest⟩ := ih (o ++ [(i : Int)]) m hv (by rw [List.length_append]; simp; omega) (by rw [List.length_append]; simp; omega)
              rw [e, Option.bind_some]
              obtain ⟨r, e2, hrm, hrr⟩ := ihq (i + 1) m' (by omega) (by omega)
              refine ⟨r, e2, by omega, fun j hj hjn hjo rest ho1 ho2 => ?_⟩
              by_cases hij : i = j
              · subst hij
                have := hrest rest ho1 (by rw [List.length_append]; simp; omega)
                omega
              · exact hrr j (by omega) hjn hjo rest ho1 ho2
          · rw [if_neg hin]
            exact ⟨m, rfl, Int.le_refl _, fun j hj hjn => by omega⟩
      obtain ⟨r, e, hrm, hrr⟩ := hr (l.length + 1) 0 m (by omega) (by omega)
      refine ⟨r, e, hrm, fun rest ho1 ho2 => ?_⟩
      cases rest with
      | nil => simp at ho2; omega
      | cons x xs =>
        by_cases hg : 0 ≤ x ∧ x < (l.length : Int) ∧ ¬ x ∈ o
        · rw [once_good hg] at ho1
          obtain ⟨j, rfl⟩ := Int.eq_ofNat_of_zero_le hg.1
          simp only [List.length_cons] at ho2
          have := hrr j (by omega) (by omega) hg.2.2 xs ho1 (by omega)
          rw [List.append_assoc, List.singleton_append] at this
          exact this
        · rw [once_bad hg] at ho1; cases ho1
theorem impl_LeastWay_le (l : List S31) (hok : bothOk l = true) (order : List Int) (ho : onceP order l.length = true) : ∃ r, impl_LeastWay.f l = some r ∧ r ≤ lw (picked l order) := by
  have h6 := bothOk_len hok
  have hlen := onceP_len ho
  have hof : onceFrom l.length [] order = true := by
    unfold onceP at ho
    simp only [Bool.and_eq_true] at ho
    exact ho.1
  unfold impl_LeastWay.f
  rw [impl_BothOk_is l (by omega) _ (by omega), Option.bind_some, if_pos hok, if_pos (by omega), impl_longestWay_is l hok _ (by omega), Option.bind_some]
  obtain ⟨r, e, -, hr⟩ := go_least l hok (l.length * 100 + 1000) (by omega) (l.length + 2) [] (lw l) (by simp) (by simp) (by simp)
  exact ⟨r, e, by simpa using hr order hof (by simp; omega)⟩

/-! leastway_eq -/
/-- A least longest way of the orders that go on o. -/
def isLeast (l : List S31) (o : List Int) (r : Int) : Prop := 0 ≤ r ∧ (∃ rest, onceFrom l.length o rest = true ∧ o.length + rest.length = l.length ∧ r = lw (picked l (o ++ rest))) ∧ ∀ rest, onceFrom l.length o rest = true → o.length + rest.length = l.length → r ≤ lw (picked l (o ++ rest))
theorem isLeast_one {l : List S31} {o : List Int} {r s : Int} (h1 : isLeast l o r) (h2 : isLeast l o s) : r = s := by
  obtain ⟨-, ⟨a, a1, a2, a3⟩, a4⟩ := h1
  obtain ⟨-, ⟨b, b1, b2, b3⟩, b4⟩ := h2
  have := a4 b b1 b2
  have := b4 a a1 a2
  omega
theorem pigeon : ∀ (n : Nat) (o : List Int), (∀ i : Nat, i < n → (i : Int) ∈ o) → n ≤ o.length := by
  intro n
  induction n with
  | zero => intro o _; omega
  | succ n ih =>
    intro o h
    have hn := h n (by omega)
    have := ih (o.erase (n : Int)) (fun i hi => (List.mem_erase_of_ne (by omega)).2 (h i (by omega)))
    rw [List.length_erase_of_mem hn] at this
    have hp := List.length_pos_of_mem hn
    omega
theorem onceFrom_snoc {many : Int} : ∀ {xs seen : List Int} {x : Int}, onceFrom many seen xs = true → 0 ≤ x → x < many → ¬ x ∈ seen ++ xs → onceFrom many seen (xs ++ [x]) = true := by
  intro xs
  induction xs with
  | nil =>
    intro seen x _ h0 h1 h2
    rw [List.append_nil] at h2
    show onceFrom many seen (x :: []) = true
    rw [once_good ⟨h0, h1, h2⟩]; rfl
  | cons y ys ih =>
    intro seen x h h0 h1 h2
    by_cases hg : 0 ≤ y ∧ y < many ∧ ¬ y ∈ seen
    · rw [once_good hg] at h
      show onceFrom many seen (y :: (ys ++ [x])) = true
      rw [once_good hg]
      exact ih h h0 h1 (by rw [List.append_assoc, List.singleton_append]; exact h2)
    · rw [once_bad hg] at h; cases h
theorem isLeast_cons {l : List S31} {o : List Int} {j : Nat} {r : Int} (hj : j < l.length) (hjo : ¬ (j : Int) ∈ o) {rest : List Int} (h : onceFrom l.length (o ++ [(j : Int)]) rest = true) (hl : (o ++ [(j : Int)]).length + rest.length = l.length) (hr : r = lw (picked l (o ++ [(j : Int)] ++ rest))) :
    ∃ rest, onceFrom l.length o rest = true ∧ o.length + rest.length = l.length ∧ r = lw (picked l (o ++ rest)) := by
  refine ⟨(j : Int) :: rest, ?_, ?_, ?_⟩
  · rw [once_good ⟨by omega, by omega, hjo⟩]; exact h
  · simp only [List.length_append, List.length_cons, List.length_nil] at *; omega
  · rw [hr, List.append_assoc, List.singleton_append]
theorem rest_cons {l : List S31} {o rest : List Int} (h : onceFrom l.length o rest = true) (hl : o.length + rest.length = l.length) (ho : o.length < l.length) : ∃ (j : Nat) (rest' : List Int), rest = (j : Int) :: rest' ∧ j < l.length ∧ ¬ (j : Int) ∈ o ∧ onceFrom l.length (o ++ [(j : Int)]) rest' = true ∧ (o ++ [(j : Int)]).length + rest'.length = l.length := by
  cases rest with
  | nil => simp at hl; omega
  | cons x xs =>
    by_cases hg : 0 ≤ x ∧ x < (l.length : Int) ∧ ¬ x ∈ o
    · rw [once_good hg] at h
      obtain ⟨j, rfl⟩ := Int.eq_ofNat_of_zero_le hg.1
      exact ⟨j, xs, rfl, by omega, hg.2.2, h, by simp only [List.length_append, List.length_cons, List.length_nil] at *; omega⟩
    · rw [once_bad hg] at h; cases h
/-- Is the place there: the text's own loop. -/
theorem spec_there (l : List S31) (o : List Int) (hol : o.length ≤ 10) (best : Int) (i : Nat) (hi : i < l.length) (h6 : l.length ≤ 6) (R : Int) (K : Nat) : ∀ (suf : List Int) (j k : Nat) (t : Bool), o.drop j = suf → suf.length + 1 + K ≤ k →
    (∀ k', K ≤ k' → (if t = true ∨ (i : Int) ∈ suf then spec_l9Least.l0 k' l o best ((i + 1 : Nat) : Int) else ((spec_l9Least.f k' l (o ++ [(i : Int)])).bind fun v => if best < 0 then spec_l9Least.l0 k' l o v ((i + 1 : Nat) : Int) else if v < best then spec_l9Least.l0 k' l o v ((i + 1 : Nat) : Int) else spec_l9Least.l0 k' l o best ((i + 1 : Nat) : Int))) = some R) →
    spec_l9Least.l1 k l o best i t j = some R := by
  intro suf
  induction suf with
  | nil =>
    intro j k t hd hk hn
    obtain ⟨k, rfl⟩ : ∃ m, k = m + 1 := ⟨k - 1, by omega⟩
    have := drop_nil hd
    have hn := hn k (by simp at hk; omega)
    simp only [spec_l9Least.l1]
    rw [if_neg (by omega), w64s i (by omega)]
    by_cases ht : t = true
    · rw [if_pos ht]; rw [if_pos (.inl ht)] at hn; exact hn
    · rw [if_neg ht, Option.bind_some, if_pos (by simp only [List.length_nil]; omega), Option.bind_some, if_pos (by simp only [List.nil_append]; omega), List.nil_append]
      rw [if_neg (by simp [ht])] at hn
      exact hn
  | cons x xs ih =>
    intro j k t hd hk hn
    obtain ⟨k, rfl⟩ : ∃ m, k = m + 1 := ⟨k - 1, by omega⟩
    obtain ⟨hlt, hd2, hx⟩ := drop_split hd
    simp only [List.length_cons] at hk
    simp only [spec_l9Least.l1]
    rw [if_pos (by omega), w64s j (by omega)]
    by_cases ht : t = true
    · rw [if_pos ht]
      refine ih (j + 1) k true hd2 (by omega) (fun k' hk' => ?_)
      have := hn k' hk'
      rw [if_pos (.inl ht)] at this
      rw [if_pos (.inl rfl)]; exact this
    · rw [if_neg ht, if_pos (by omega), rd_nat, hx]
      refine ih (j + 1) k _ hd2 (by omega) (fun k' hk' => ?_)
      have := hn k' hk'
      have e : (t = true ∨ (i : Int) ∈ x :: xs) ↔ ((x == (i : Int)) = true ∨ (i : Int) ∈ xs) := by
        rw [List.mem_cons, beq_iff_eq]
        constructor
        · rintro (h | h | h)
          · exact absurd h ht
          · exact .inl h.symm
          · exact .inr h
        · rintro (h | h)
          · exact .inr (.inl h.symm)
          · exact .inr (.inr h)
      by_cases hc : t = true ∨ (i : Int) ∈ x :: xs
      · rw [if_pos hc] at this; rw [if_pos (e.1 hc)]; exact this
      · rw [if_neg hc] at this; rw [if_neg (fun h => hc (e.2 h))]; exact this
theorem spec_least (l : List S31) (hok : bothOk l = true) : ∀ (d : Nat) (o : List Int) (k : Nat), onceFrom l.length [] o = true → o.length + d = l.length → d * 400 + 1000 ≤ k → ∃ r, spec_l9Least.f k l o = some r ∧ isLeast l o r := by
  have h6 := bothOk_len hok
  intro d
  induction d with
  | zero =>
    intro o k ho hl hk
    obtain ⟨k, rfl⟩ : ∃ m, k = m + 1 := ⟨k - 1, by omega⟩
    have hon : onceP o l.length = true := by unfold onceP; rw [ho]; simp; omega
    have hpk := picked_ok l hok o (onceP_mem hon) (by omega)
    have hq : (o.length + 2) * o.length ≤ 8 * 6 := Nat.mul_le_mul (by omega) (by omega)
    simp only [spec_l9Least.f]
    rw [if_pos (by omega), spec_InOrder_is l o (by omega) (by omega) k (by omega), Option.bind_some, show inOrderP l o = (picked l o, true) from by unfold inOrderP; rw [if_pos ⟨hok, hon⟩]]
    dsimp only
    rw [spec_LongestWay_is _ hpk k (by omega), Option.bind_some]
    refine ⟨_, rfl, (lw_bound _ (bothOk_mem hpk)).1, ⟨[], rfl, by simp; omega, by rw [List.append_nil]⟩, fun rest _ hr => ?_⟩
    have : rest = [] := List.eq_nil_of_length_eq_zero (by omega)
    rw [this, List.append_nil]; exact Int.le_refl _
  | succ d ih =>
    intro o k ho hl hk
    obtain ⟨k, rfl⟩ : ∃ m, k = m + 1 := ⟨k - 1, by omega⟩
    have hmem := onceFrom_mem ho
    simp only [spec_l9Least.f]
    rw [if_neg (by omega)]
    obtain ⟨F, hF⟩ : ∃ F, F = d * 400 + 1010 := ⟨_, rfl⟩
    have hF2 : d * 400 + 1000 ≤ F := by rw [hF]; exact Nat.add_le_add_left (by decide) _
    have hloop : ∀ (q i k : Nat) (best : Int), i + q = l.length → q * 40 + F ≤ k →
        ((best = -1 ∧ ∀ j : Nat, j < i → (j : Int) ∈ o) ∨ (0 ≤ best ∧ (∃ rest, onceFrom l.length o rest = true ∧ o.length + rest.length = l.length ∧ best = lw (picked l (o ++ rest))) ∧ ∀ j : Nat, j < i → ¬ (j : Int) ∈ o → ∀ rest, onceFrom l.length (o ++ [(j : Int)]) rest = true → (o ++ [(j : Int)]).length + rest.length = l.length → best ≤ lw (picked l (o ++ [(j : Int)] ++ rest)))) →
        ∃ r, spec_l9Least.l0 k l o best i = some r ∧ isLeast l o r := by
      intro q
      induction q with
      | zero =>
        intro i k best hi hk hinv
        obtain ⟨k, rfl⟩ : ∃ m, k = m + 1 := ⟨k - 1, by omega⟩
        simp only [spec_l9Least.l0]
        rw [if_neg (by omega)]
        rcases hinv with ⟨-, hall⟩ | ⟨h0, hat, hle⟩
        · have := pigeon l.length o (fun j hj => hall j (by omega)); omega
        · refine ⟨best, rfl, h0, hat, fun rest hr1 hr2 => ?_⟩
          obtain ⟨j, rest', rfl, hj, hjo, h3, h4⟩ := rest_cons hr1 hr2 (by omega)
          have := hle j (by omega) hjo rest' h3 h4
          rw [List.append_assoc, List.singleton_append] at this
          exact this
      | succ q ihq =>
        intro i k best hi hk hinv
        obtain ⟨k, rfl⟩ : ∃ m, k = m + 1 := ⟨k - 1, by omega⟩
        simp only [spec_l9Least.l0]
        rw [if_pos (by omega)]
        by_cases hc : (i : Int) ∈ o
        · have hinv2 : ((best = -1 ∧ ∀ j : Nat, j < i + 1 → (j : Int) ∈ o) ∨ (0 ≤ best ∧ (∃ rest, onceFrom l.length o rest = true ∧ o.length + rest.length = l.length ∧ best = lw (picked l (o ++ rest))) ∧ ∀ j : Nat, j < i + 1 → ¬ (j : Int) ∈ o → ∀ rest, onceFrom l.length (o ++ [(j : Int)]) rest = true → (o ++ [(j : Int)]).length + rest.length = l.length → best ≤ lw (picked l (o ++ [(j : Int)] ++ rest)))) := by
            rcases hinv with ⟨h1, h2⟩ | ⟨h1, h2, h3⟩
            · refine .inl ⟨h1, fun j hj => ?_⟩
              by_cases hji : j = i
              · rw [hji]; exact hc
              · exact h2 j (by omega)
            · refine .inr ⟨h1, h2, fun j hj hjo => ?_⟩
              by_cases hji : j = i
              · exact absurd (by rw [hji]; exact hc) hjo
              · exact h3 j (by omega) hjo
          obtain ⟨r, e, hr⟩ := ihq (i + 1) (q * 40 + F) best (by omega) (by omega) hinv2
          refine ⟨r, ?_, hr⟩
          refine spec_there l o (by omega) best i (by omega) h6.2 r (q * 40 + F) o 0 k false List.drop_zero (by have hlo : o.length ≤ 6 := (by omega); clear hinv; omega) (fun k' hk' => ?_)
          rw [if_pos (.inr hc)]
          obtain ⟨r2, e2, hr2⟩ := ihq (i + 1) k' best (by omega) (by omega) hinv2
          rw [e2, isLeast_one hr2 hr]
        · have hon : onceFrom l.length [] (o ++ [(i : Int)]) = true := onceFrom_snoc ho (by omega) (by omega) (by simpa using hc)
          obtain ⟨v, -, hv⟩ := ih (o ++ [(i : Int)]) (d * 400 + 1000) hon (by rw [List.length_append]; simp; omega) (Nat.le_refl _)
          have hvat : ∃ rest, onceFrom l.length o rest = true ∧ o.length + rest.length = l.length ∧ v = lw (picked l (o ++ rest)) := by
            obtain ⟨-, ⟨rest, h1, h2, h3⟩, -⟩ := hv
            exact isLeast_cons (by omega) hc h1 h2 h3
          have hmk : ∀ b : Int, 0 ≤ b → b ≤ v → (b = v ∨ b = best) → (b = best → 0 ≤ best ∧ (∃ rest, onceFrom l.length o rest = true ∧ o.length + rest.length = l.length ∧ best = lw (picked l (o ++ rest)))) → (0 ≤ best → b ≤ best) →
              ∃ r, (∀ k', q * 40 + F ≤ k' → spec_l9Least.l0 k' l o b ((i + 1 : Nat) : Int) = some r) ∧ isLeast l o r := by
            intro b hb0 hbv hb1 hb2 hb3
            have hinv2 : ((b = -1 ∧ ∀ j : Nat, j < i + 1 → (j : Int) ∈ o) ∨ (0 ≤ b ∧ (∃ rest, onceFrom l.length o rest = true ∧ o.length + rest.length = l.length ∧ b = lw (picked l (o ++ rest))) ∧ ∀ j : Nat, j < i + 1 → ¬ (j : Int) ∈ o → ∀ rest, onceFrom l.length (o ++ [(j : Int)]) rest = true → (o ++ [(j : Int)]).length + rest.length = l.length → b ≤ lw (picked l (o ++ [(j : Int)] ++ rest)))) := by
              refine .inr ⟨hb0, ?_, fun j hj hjo rest h1 h2 => ?_⟩
              · rcases hb1 with h | h
                · rw [h]; exact hvat
                · rw [h]; exact (hb2 h).2
              · by_cases hji : j = i
                · subst hji
                  have := hv.2.2 rest h1 h2
                  omega
                · rcases hinv with ⟨-, h3⟩ | ⟨h3, -, h4⟩
                  · exact absurd (h3 j (by omega)) hjo
                  · have := h4 j (by omega) hjo rest h1 h2
                    have := hb3 h3
                    omega
            obtain ⟨r, e, hr⟩ := ihq (i + 1) (q * 40 + F) b (by omega) (by omega) hinv2
            refine ⟨r, fun k' hk' => ?_, hr⟩
            obtain ⟨r2, e2, hr2⟩ := ihq (i + 1) k' b (by omega) (by omega) hinv2
            rw [e2, isLeast_one hr2 hr]
          have hgo : ∀ k', q * 40 + F ≤ k' → spec_l9Least.f k' l (o ++ [(i : Int)]) = some v := by
            intro k' hk'
            obtain ⟨v2, e2, hv2⟩ := ih (o ++ [(i : Int)]) k' hon (by rw [List.length_append]; simp; omega) (Nat.le_trans hF2 (Nat.le_trans (Nat.le_add_left _ _) hk'))
            rw [e2, isLeast_one hv2 hv]
          have hfin : ∀ b : Int, (∀ k' : Nat, (if best < 0 then spec_l9Least.l0 k' l o v ((i + 1 : Nat) : Int) else if v < best then spec_l9Least.l0 k' l o v ((i + 1 : Nat) : Int) else spec_l9Least.l0 k' l o best ((i + 1 : Nat) : Int)) = spec_l9Least.l0 k' l o b ((i + 1 : Nat) : Int)) → (∃ r, (∀ k', q * 40 + F ≤ k' → spec_l9Least.l0 k' l o b ((i + 1 : Nat) : Int) = some r) ∧ isLeast l o r) →
              ∃ r, spec_l9Least.l1 k l o best i false 0 = some r ∧ isLeast l o r := by
            rintro b hb ⟨r, e, hr⟩
            refine ⟨r, ?_, hr⟩
            refine spec_there l o (by omega) best i (by omega) h6.2 r (q * 40 + F) o 0 k false List.drop_zero (by have hlo : o.length ≤ 6 := (by omega); clear hinv; omega) (fun k' hk' => ?_)
            rw [if_neg (by simp [hc]), hgo k' hk', Option.bind_some, hb k', e k' hk']
          have hv0 := hv.1
          by_cases hb : best < 0
          · exact hfin v (fun k' => by rw [if_pos hb]) (hmk v hv0 (Int.le_refl _) (.inl rfl) (fun e => by omega) (fun h => by omega))
          · by_cases hvb : v < best
            · exact hfin v (fun k' => by rw [if_neg hb, if_pos hvb]) (hmk v hv0 (Int.le_refl _) (.inl rfl) (fun e => by omega) (fun h => by omega))
            · refine hfin best (fun k' => by rw [if_neg hb, if_neg hvb]) (hmk best (by omega) (by omega) (.inr rfl) (fun _ => ?_) (fun h => by omega))
              rcases hinv with ⟨h1, -⟩ | ⟨h1, h2, -⟩
              · omega
              · exact ⟨h1, h2⟩
    obtain ⟨r, e, hr⟩ := hloop l.length 0 k (-1) (by omega) (by omega) (.inl ⟨rfl, fun j hj => by omega⟩)
    exact ⟨r, e, hr⟩
/-- The same of the program's own walk, begun at m. -/
theorem go_least2 (l : List S31) (hok : bothOk l = true) (k : Nat) (hk : 100 ≤ k) : ∀ (d : Nat) (o : List Int) (m : Int), (∀ x ∈ o, 0 ≤ x ∧ x < (l.length : Int)) → o.length ≤ l.length → l.length < o.length + d →
    ∃ r, impl_LeastWay.go k l d o m = some r ∧ (r = m ∨ ∃ rest, onceFrom l.length o rest = true ∧ o.length + rest.length = l.length ∧ r = lw (picked l (o ++ rest))) := by
  have h6 := bothOk_len hok
  intro d
  induction d with
  | zero => intro o m ho h1 h2; omega
  | succ d ih =>
    intro o m ho h1 h2
    simp only [impl_LeastWay.go]
    by_cases hl : o.length = l.length
    · rw [if_pos hl, impl_inOrder_is l o (by omega) ho k (by omega), Option.bind_some, impl_longestWay_is _ (picked_ok l hok o ho hl) k (by omega), Option.bind_some]
      refine ⟨_, rfl, ?_⟩
      unfold mn
      split
      · exact .inr ⟨[], rfl, by simp; omega, by rw [List.append_nil]⟩
      · exact .inl rfl
    · rw [if_neg hl]
      have hr : ∀ (q i : Nat) (m : Int), i + q = l.length + 1 → 1 ≤ q → ∃ r, impl_LeastWay.rounds k (impl_LeastWay.go k l d) o l.length q i m = some r ∧ (r = m ∨ ∃ rest, onceFrom l.length o rest = true ∧ o.length + rest.length = l.length ∧ r = lw (picked l (o ++ rest))) := by
        intro q
        induction q with
        | zero => intro i m _ h; omega
        | succ q ihq =>
          intro i m hi _
          simp only [impl_LeastWay.rounds]
          by_cases hin : i < l.length
          · rw [if_pos hin, contains_is o _ (by omega) k (by omega), Option.bind_some]
            by_cases hc : (i : Int) ∈ o
            · rw [if_pos (decide_eq_true hc)]
              exact ihq (i + 1) m (by omega) (by omega)
            · rw [if_neg (by simpa using hc), clone_int o (by omega), Option.bind_some]
              have hv : ∀ x ∈ o ++ [(i : Int)], 0 ≤ x ∧ x < (l.length : Int) := by
                intro x hx
                rcases List.mem_append.1 hx with hx | hx
                · exact ho x hx
                · rw [List.mem_singleton.1 hx]; omega
              obtain ⟨m', e, hm'⟩ := ih (o ++ [(i : Int)]) m hv (by rw [List.length_append]; simp; omega) (by rw [List.length_append]; simp; omega)
              rw [e, Option.bind_some]
              obtain ⟨r, e2, hr⟩ := ihq (i + 1) m' (by omega) (by omega)
              refine ⟨r, e2, ?_⟩
              rcases hr with rfl | hr
              · rcases hm' with h | ⟨rest, g1, g2, g3⟩
                · exact .inl h
                · exact .inr (isLeast_cons hin hc g1 g2 g3)
              · exact .inr hr
          · rw [if_neg hin]
            exact ⟨m, rfl, .inl rfl⟩
      exact hr (l.length + 1) 0 m (by omega) (by omega)
/-- The customers' own order is one. -/
def idn (n : Nat) : List Int := (List.range n).map Int.ofNat
theorem idn_once (n : Nat) : ∀ j, j ≤ n → onceFrom (n : Int) [] (idn j) = true := by
  intro j
  induction j with
  | zero => intro _; rfl
  | succ j ih =>
    intro hj
    have e : idn (j + 1) = idn j ++ [(j : Int)] := by unfold idn; rw [List.range_succ, List.map_append]; rfl
    rw [e]
    refine onceFrom_snoc (ih (by omega)) (by omega) (by omega) ?_
    intro h
    rw [List.nil_append] at h
    obtain ⟨x, hx, hxe⟩ := List.mem_map.1 h
    have := List.mem_range.1 hx
    have : (x : Int) = j := hxe
    omega
theorem idn_picked (l : List S31) : picked l (idn l.length) = l := by
  unfold picked idn
  rw [List.map_map]
  apply List.ext_getElem
  · simp
  · intro i h1 h2
    simp only [List.getElem_map, List.getElem_range, Function.comp_apply]
    show l.getD ((i : Int)).toNat z31 = l[i]
    rw [Int.toNat_natCast, getD_lt h2]
theorem impl_LeastWay_is (l : List S31) (hok : bothOk l = true) : ∃ r, impl_LeastWay.f l = some r ∧ isLeast l [] r := by
  have h6 := bothOk_len hok
  have hid := idn_once l.length l.length (Nat.le_refl _)
  have hidl : (idn l.length).length = l.length := by unfold idn; simp
  unfold impl_LeastWay.f
  rw [impl_BothOk_is l (by omega) _ (by omega), Option.bind_some, if_pos hok, if_pos (by omega), impl_longestWay_is l hok _ (by omega), Option.bind_some]
  obtain ⟨r, e, hrm, hr⟩ := go_least l hok (l.length * 100 + 1000) (by omega) (l.length + 2) [] (lw l) (by simp) (by simp) (by simp)
  obtain ⟨r2, e2, hr2⟩ := go_least2 l hok (l.length * 100 + 1000) (by omega) (l.length + 2) [] (lw l) (by simp) (by simp) (by simp)
  have : r = r2 := Option.some.inj (e.symm.trans e2)
  subst this
  have hat : ∃ rest, onceFrom l.length [] rest = true ∧ ([] : List Int).length + rest.length = l.length ∧ r = lw (picked l ([] ++ rest)) := by
    rcases hr2 with h | h
    · exact ⟨idn l.length, hid, by rw [hidl]; simp, by rw [h, List.nil_append, idn_picked]⟩
    · exact h
  refine ⟨r, e, ?_, hat, hr⟩
  obtain ⟨rest, g1, g2, g3⟩ := hat
  rw [g3, List.nil_append]
  have hv : ∀ x ∈ rest, 0 ≤ x ∧ x < (l.length : Int) := onceFrom_mem g1
  exact (lw_bound _ (bothOk_mem (picked_ok l hok rest hv (by simpa using g2)))).1
theorem LeastWay_same (l : List S31) (hl : l.length ≤ 1048576) (k : Nat) (hk : l.length + 5000 ≤ k) : ∃ r, impl_LeastWay.f l = some r ∧ spec_LeastWay.f k l = some r := by
  by_cases hok : bothOk l = true
  · have h6 := bothOk_len hok
    obtain ⟨r, e, hr⟩ := impl_LeastWay_is l hok
    obtain ⟨r2, e2, hr2⟩ := spec_least l hok l.length [] k rfl (by simp) (by omega)
    refine ⟨r, e, ?_⟩
    unfold spec_LeastWay.f
    rw [spec_BothOk_is l hl k (by omega), Option.bind_some, if_pos hok, e2, Option.bind_some, isLeast_one hr2 hr]
  · refine ⟨-1, ?_, ?_⟩
    · unfold impl_LeastWay.f
      rw [impl_BothOk_is l hl _ (by omega), Option.bind_some, if_neg hok]
    · unfold spec_LeastWay.f
      rw [spec_BothOk_is l hl k (by omega), Option.bind_some, if_neg hok]

/-! leastway_back -/
theorem valid_of {n : Int} : ∀ {xs seen : List Int}, onceFrom n seen xs = true → xs.Nodup ∧ ∀ x ∈ xs, 0 ≤ x ∧ x < n ∧ ¬ x ∈ seen := by
  intro xs
  induction xs with
  | nil => intro seen _; exact ⟨List.nodup_nil, by simp⟩
  | cons x xs ih =>
    intro seen h
    by_cases hg : 0 ≤ x ∧ x < n ∧ ¬ x ∈ seen
    · rw [once_good hg] at h
      obtain ⟨h1, h2⟩ := ih h
      refine ⟨List.nodup_cons.2 ⟨fun hx => (h2 x hx).2.2 (by simp), h1⟩, fun y hy => ?_⟩
      rcases List.mem_cons.1 hy with rfl | hy
      · exact hg
      · have := h2 y hy
        exact ⟨this.1, this.2.1, fun hs => this.2.2 (List.mem_append_left _ hs)⟩
    · rw [once_bad hg] at h; cases h
theorem valid_to {n : Int} : ∀ {xs seen : List Int}, xs.Nodup → (∀ x ∈ xs, 0 ≤ x ∧ x < n ∧ ¬ x ∈ seen) → onceFrom n seen xs = true := by
  intro xs
  induction xs with
  | nil => intro seen _ _; rfl
  | cons x xs ih =>
    intro seen h1 h2
    rw [once_good (h2 x (by simp))]
    obtain ⟨h3, h4⟩ := List.nodup_cons.1 h1
    refine ih h4 (fun y hy => ?_)
    have := h2 y (by simp [hy])
    refine ⟨this.1, this.2.1, fun hs => ?_⟩
    rcases List.mem_append.1 hs with hs | hs
    · exact this.2.2 hs
    · rw [List.mem_singleton.1 hs] at hy; exact h3 hy
theorem len_le : ∀ (o R : List Int), o.Nodup → (∀ x ∈ o, x ∈ R) → o.length ≤ R.length := by
  intro o
  induction o with
  | nil => intro R _ _; exact Nat.zero_le _
  | cons x xs ih =>
    intro R h1 h2
    obtain ⟨h3, h4⟩ := List.nodup_cons.1 h1
    have hx := h2 x (by simp)
    have := ih (R.erase x) h4 (fun y hy => (List.mem_erase_of_ne (fun e => h3 (by rw [← e]; exact hy))).2 (h2 y (by simp [hy])))
    rw [List.length_erase_of_mem hx] at this
    have := List.length_pos_of_mem hx
    simp only [List.length_cons]; omega
theorem idn_mem (n : Nat) (x : Int) : x ∈ idn n ↔ 0 ≤ x ∧ x < n := by
  unfold idn
  rw [List.mem_map]
  constructor
  · rintro ⟨i, hi, rfl⟩
    have := List.mem_range.1 hi
    show 0 ≤ (i : Int) ∧ (i : Int) < n
    omega
  · rintro ⟨h0, h1⟩
    obtain ⟨i, rfl⟩ := Int.eq_ofNat_of_zero_le h0
    exact ⟨i, List.mem_range.2 (by omega), rfl⟩
theorem perm_idn : ∀ (n : Nat) (o : List Int), o.length = n → (∀ i : Nat, i < n → (i : Int) ∈ o) → o.Perm (idn n) := by
  intro n
  induction n with
  | zero => intro o h _; rw [List.eq_nil_of_length_eq_zero h]; exact List.Perm.refl _
  | succ n ih =>
    intro o h1 h2
    have hn := h2 n (by omega)
    have h3 := ih (o.erase (n : Int)) (by rw [List.length_erase_of_mem hn]; omega) (fun i hi => (List.mem_erase_of_ne (by omega)).2 (h2 i (by omega)))
    have e : idn (n + 1) = idn n ++ [(n : Int)] := by unfold idn; rw [List.range_succ, List.map_append]; rfl
    rw [e]
    exact (List.perm_cons_erase hn).trans ((List.Perm.cons _ h3).trans (List.perm_append_singleton _ _).symm)
theorem valid_perm {n : Nat} {o : List Int} (h : onceFrom (n : Int) [] o = true) (hl : o.length = n) : o.Perm (idn n) := by
  obtain ⟨h1, h2⟩ := valid_of h
  refine perm_idn n o hl (fun i hi => ?_)
  by_cases hc : (i : Int) ∈ o
  · exact hc
  · exfalso
    have hil : (idn n).length = n := by unfold idn; simp
    have := len_le ((i : Int) :: o) (idn n) (List.nodup_cons.2 ⟨hc, h1⟩) (fun x hx => by
      rw [idn_mem]
      rcases List.mem_cons.1 hx with rfl | hx
      · omega
      · have := h2 x hx; omega)
    rw [hil] at this
    simp only [List.length_cons] at this
    omega
theorem sum0_perm {a b : List S31} (h : a.Perm b) : sum0 a = sum0 b := by
  induction h with
  | nil => rfl
  | cons x _ ih => simp only [sum0]; omega
  | swap x y l => simp only [sum0]; omega
  | trans _ _ h1 h2 => omega
theorem picked_perm (l : List S31) {o : List Int} (h : onceFrom (l.length : Int) [] o = true) (hl : o.length = l.length) : (picked l o).Perm l := by
  have := (valid_perm h hl).map (fun i => l.getD i.toNat z31)
  have e := idn_picked l
  unfold picked at *
  rw [e] at this
  exact this
def swp (b : S31) : S31 := ⟨b.f1, b.f0⟩
def backP (l : List S31) : List S31 := (l.map swp).reverse
theorem lwP_shift : ∀ (l : List S31) (a m : Int), (∀ b ∈ l, 1 ≤ b.f0 ∧ b.f0 ≤ 9 ∧ 1 ≤ b.f1 ∧ b.f1 ≤ 9) → 0 ≤ a → l ≠ [] → lwP l a m = max m (a + lw l) := by
  intro l
  induction l with
  | nil => intro a m _ _ h; exact absurd rfl h
  | cons x xs ih =>
    intro a m hm ha _
    have hx := hm x (by simp)
    have hs := sum1_bound (x :: xs) hm
    have hxs : ∀ b ∈ xs, 1 ≤ b.f0 ∧ b.f0 ≤ 9 ∧ 1 ≤ b.f1 ∧ b.f1 ≤ 9 := fun b hb => hm b (by simp [hb])
    unfold lw
    simp only [lwP]
    by_cases hn : xs = []
    · subst hn; simp only [lwP]; omega
    · rw [ih (a + x.f0) _ hxs (by omega) hn, ih (0 + x.f0) _ hxs (by omega) hn]
      omega
theorem lw_cons (x : S31) (xs : List S31) (hm : ∀ b ∈ x :: xs, 1 ≤ b.f0 ∧ b.f0 ≤ 9 ∧ 1 ≤ b.f1 ∧ b.f1 ≤ 9) : lw (x :: xs) = x.f0 + max (x.f1 + sum1 xs) (lw xs) := by
  have hx := hm x (by simp)
  have hs := sum1_bound (x :: xs) hm
  have hxs : ∀ b ∈ xs, 1 ≤ b.f0 ∧ b.f0 ≤ 9 ∧ 1 ≤ b.f1 ∧ b.f1 ≤ 9 := fun b hb => hm b (by simp [hb])
  have e : sum1 (x :: xs) = x.f1 + sum1 xs := rfl
  have h0 := sum1_bound xs hxs
  show lwP xs (0 + x.f0) (max 0 (0 + x.f0 + sum1 (x :: xs))) = _
  by_cases hn : xs = []
  · subst hn; simp only [lwP, lw, sum1]; omega
  · rw [lwP_shift xs _ _ hxs (by omega) hn, e]; omega
theorem back_ok {l : List S31} (hm : ∀ b ∈ l, 1 ≤ b.f0 ∧ b.f0 ≤ 9 ∧ 1 ≤ b.f1 ∧ b.f1 ≤ 9) : ∀ b ∈ backP l, 1 ≤ b.f0 ∧ b.f0 ≤ 9 ∧ 1 ≤ b.f1 ∧ b.f1 ≤ 9 := by
  intro b hb
  unfold backP at hb
  obtain ⟨c, hc, rfl⟩ := List.mem_map.1 (List.mem_reverse.1 hb)
  have := hm c hc
  exact ⟨this.2.2.1, this.2.2.2, this.1, this.2.1⟩
theorem back_sum1 : ∀ l : List S31, sum1 (backP l) = sum0 l := by
  intro l
  induction l with
  | nil => rfl
  | cons x xs ih =>
    unfold backP at *
    rw [List.map_cons, List.reverse_cons, sum1_append, ih]
    simp only [sum1, sum0, swp]; omega
theorem lw_back (l : List S31) (hm : ∀ b ∈ l, 1 ≤ b.f0 ∧ b.f0 ≤ 9 ∧ 1 ≤ b.f1 ∧ b.f1 ≤ 9) : lw (backP l) = lw l := by
  induction h : l.length generalizing l with
  | zero => have := List.length_eq_zero_iff.1 h; subst this; rfl
  | succ n ih =>
    have hne : l ≠ [] := fun e => by rw [e] at h; simp at h
    obtain ⟨ys, x, rfl⟩ : ∃ ys x, l = ys ++ [x] := ⟨l.dropLast, l.getLast hne, (List.dropLast_concat_getLast hne).symm⟩
    have hys : ∀ b ∈ ys, 1 ≤ b.f0 ∧ b.f0 ≤ 9 ∧ 1 ≤ b.f1 ∧ b.f1 ≤ 9 := fun b hb => hm b (List.mem_append_left _ hb)
    have hx := hm x (by simp)
    have i1 := ih ys hys (by simpa using h)
    have s0 := sum0_bound ys hys
    have e : backP (ys ++ [x]) = swp x :: backP ys := by unfold backP; simp
    have hbk := back_ok hm
    rw [e] at hbk
    rw [e, lw_cons _ _ hbk, lw_snoc ys x ⟨hx.1, hx.2.2.1⟩ s0.1, back_sum1, i1]
    simp only [swp]
    omega
theorem back_get (l : List S31) (x : Int) (h0 : 0 ≤ x) (h1 : x < l.length) : (backP l).getD x.toNat z31 = swp (l.getD ((l.length : Int) - 1 - x).toNat z31) := by
  have hl : (backP l).length = l.length := by unfold backP; simp
  rw [getD_lt (by omega), getD_lt (by omega)]
  unfold backP
  rw [List.getElem_reverse, List.getElem_map]
  congr 2
  simp only [List.length_map]
  omega
def backO (n : Nat) (o : List Int) : List Int := (o.map (fun x => (n : Int) - 1 - x)).reverse
theorem backO_valid {n : Nat} {o : List Int} (h : onceFrom (n : Int) [] o = true) : onceFrom (n : Int) [] (backO n o) = true := by
  obtain ⟨h1, h2⟩ := valid_of h
  refine valid_to ?_ (fun x hx => ?_)
  · unfold backO
    rw [List.nodup_iff_pairwise_ne, List.pairwise_reverse, List.pairwise_map]
    exact (List.nodup_iff_pairwise_ne.1 h1).imp (fun hne he => hne (by omega))
  · unfold backO at hx
    obtain ⟨y, hy, rfl⟩ := List.mem_map.1 (List.mem_reverse.1 hx)
    have := h2 y hy
    exact ⟨by omega, by omega, by simp⟩
theorem picked_back (l : List S31) (o : List Int) (h : ∀ x ∈ o, 0 ≤ x ∧ x < (l.length : Int)) : picked (backP l) o = backP (picked l (backO l.length o)) := by
  unfold picked backO
  show _ = (List.map swp _).reverse
  rw [List.map_reverse, List.map_reverse, List.reverse_reverse, List.map_map, List.map_map]
  apply List.map_congr_left
  intro x hx
  have := h x hx
  rw [back_get l x this.1 this.2]; rfl
theorem back_back (l : List S31) : backP (backP l) = l := by
  unfold backP
  rw [List.map_reverse, List.reverse_reverse, List.map_map]
  have : (swp ∘ swp) = id := by funext b; rfl
  rw [this, List.map_id]
/-- The least way of the turned list is the least way. -/
theorem isLeast_back {l : List S31} (hok : bothOk l = true) {r : Int} (h : isLeast l [] r) : isLeast (backP l) [] r := by
  have hm := bothOk_mem hok
  have hbl : (backP l).length = l.length := by unfold backP; simp
  have key : ∀ o : List Int, onceFrom (l.length : Int) [] o = true → o.length = l.length → lw (picked (backP l) o) = lw (picked l (backO l.length o)) := by
    intro o h1 h2
    have hv := valid_of (backO_valid h1)
    rw [picked_back l o (onceFrom_mem h1), lw_back _ (bothOk_mem (picked_ok l hok _ (fun x hx => by have := hv.2 x hx; omega) (by unfold backO; simp; omega)))]
  obtain ⟨h0, ⟨o, o1, o2, o3⟩, h2⟩ := h
  simp only [List.nil_append, List.length_nil, Nat.zero_add] at *
  refine ⟨h0, ⟨backO l.length o, ?_, ?_, ?_⟩, fun rest g1 g2 => ?_⟩
  · rw [hbl]; exact backO_valid o1
  · rw [hbl]; unfold backO; simp; omega
  · rw [List.nil_append, key _ (backO_valid o1) (by unfold backO; simp; omega), o3]
    have : backO l.length (backO l.length o) = o := by
      unfold backO
      rw [List.map_reverse, List.reverse_reverse, List.map_map]
      conv => rhs; rw [← List.map_id o]
      apply List.map_congr_left
      intro x _
      show (l.length : Int) - 1 - ((l.length : Int) - 1 - x) = x
      omega
    rw [this]
  · rw [hbl] at g1 g2
    simp only [List.length_nil, Nat.zero_add] at g2
    rw [List.nil_append, key rest g1 g2]
    exact h2 _ (backO_valid g1) (by unfold backO; simp; omega)

/-! law_LeastWay -/
theorem BackOf_loop (l : List S31) (h6 : l.length ≤ 6) : ∀ (i k : Nat) (out : List S31), i ≤ l.length → i + 1 ≤ k → out.length ≤ 10 - i → impl_BackOf.l0 k l out ((i : Int) - 1) = some (out ++ backP (l.take i)) := by
  intro i
  induction i with
  | zero =>
    intro k out hi hk ho
    obtain ⟨k, rfl⟩ : ∃ m, k = m + 1 := ⟨k - 1, by omega⟩
    simp only [impl_BackOf.l0]
    rw [if_neg (by omega)]
    simp [backP]
  | succ i ih =>
    intro k out hi hk ho
    obtain ⟨k, rfl⟩ : ∃ m, k = m + 1 := ⟨k - 1, by omega⟩
    simp only [impl_BackOf.l0]
    rw [show ((i + 1 : Nat) : Int) - 1 = (i : Int) from by omega, if_pos (by omega), if_pos (by omega), if_pos (by omega), if_pos (by omega), rd_Both_nat, show wrap64 ((i : Int) - 1) = (i : Int) - 1 from w64 (by omega) (by omega), ih k _ (by omega) (by omega) (by rw [List.length_append]; simp; omega), take_succ_getD (show i < l.length by omega) z31]
    unfold backP
    simp [swp]
theorem BackOf_is (l : List S31) (hok : bothOk l = true) (k : Nat) (hk : 10 ≤ k) : impl_BackOf.f k l = some (backP l) := by
  have h6 := bothOk_len hok
  unfold impl_BackOf.f
  rw [impl_BothOk_is l (by omega) k (by omega), Option.bind_some, if_pos hok, show wrap64 ((l.length : Int) - 1) = (l.length : Int) - 1 from w64 (by omega) (by omega), BackOf_loop l h6.2 l.length k [] (Nat.le_refl _) (by omega) (by simp), List.take_of_length_le (Nat.le_refl _), List.nil_append]
theorem least_low {l : List S31} (hok : bothOk l = true) {r low : Int} (h : isLeast l [] r) (hlow : ∀ b ∈ l, low ≤ b.f1) : sum0 l + low ≤ r := by
  obtain ⟨-, ⟨o, o1, o2, o3⟩, -⟩ := h
  simp only [List.nil_append, List.length_nil, Nat.zero_add] at *
  have h6 := bothOk_len hok
  have hp := picked_perm l o1 o2
  have hpk := picked_ok l hok o (onceFrom_mem o1) o2
  have hm := bothOk_mem hpk
  have hne : picked l o ≠ [] := fun e => by have := bothOk_len hpk; rw [e] at this; simp at this
  have hs := sum0_perm hp
  obtain ⟨ys, x, e⟩ : ∃ ys x, picked l o = ys ++ [x] := ⟨(picked l o).dropLast, (picked l o).getLast hne, (List.dropLast_concat_getLast hne).symm⟩
  rw [e] at hm hs o3 hp
  have hx := hm x (by simp)
  have s0 := sum0_bound ys (fun b hb => hm b (List.mem_append_left _ hb))
  have hxl := hlow x (hp.mem_iff.1 (by simp))
  rw [lw_snoc ys x ⟨hx.1, hx.2.2.1⟩ s0.1] at o3
  rw [sum0_append] at hs
  simp only [sum0] at hs
  omega
theorem LeastWay_loop (l : List S31) (hok : bothOk l = true) (r : Int) (hr : isLeast l [] r) : ∀ (suf : List S31) (i k : Nat) (low : Int), l.drop i = suf → suf.length + 20 ≤ k → i ≤ l.length → 1 ≤ low → low ≤ 9 → (∀ b ∈ l.take i, low ≤ b.f1) →
    laws_FnLeastWay.l0 k l r (sum0 (l.take i)) low i = some true := by
  have h6 := bothOk_len hok
  have hm := bothOk_mem hok
  intro suf
  induction suf with
  | nil =>
    intro i k low hd hk hi h1 h2 h3
    obtain ⟨k, rfl⟩ : ∃ m, k = m + 1 := ⟨k - 1, by omega⟩
    have hil := drop_nil hd
    have hbok : bothOk (backP l) = true := decide_eq_true ⟨back_ok hm, by unfold backP; simp; omega, by unfold backP; simp; omega⟩
    obtain ⟨r2, e2, hr2⟩ := impl_LeastWay_is (backP l) hbok
    have hrr : r2 = r := isLeast_one hr2 (isLeast_back hok hr)
    rw [List.take_of_length_le hil] at h3 ⊢
    have hs := sum0_bound l hm
    have hlo := least_low hok hr h3
    simp only [laws_FnLeastWay.l0]
    rw [if_neg (by omega), BackOf_is l hok k (by omega), Option.bind_some, e2, Option.bind_some, if_pos hrr, show wrap64 (sum0 l + low) = sum0 l + low from w64 (by omega) (by omega)]
    exact congrArg some (decide_eq_true hlo)
  | cons x xs ih =>
    intro i k low hd hk hi h1 h2 h3
    obtain ⟨k, rfl⟩ : ∃ m, k = m + 1 := ⟨k - 1, by omega⟩
    obtain ⟨hlt, hd2, hx⟩ := drop_split hd
    have hxm := hm x (by rw [← hx z31]; exact getD_mem hlt _)
    have e : sum0 (l.take (i + 1)) = sum0 (l.take i) + x.f0 := by
      rw [take_succ_getD hlt z31, sum0_append, hx]; simp [sum0]
    have hb := sum0_bound (l.take i) (fun b hb => hm b (List.mem_of_mem_take hb))
    have hbl : (l.take i).length ≤ 6 := by rw [List.length_take]; omega
    simp only [List.length_cons] at hk
    simp only [laws_FnLeastWay.l0]
    rw [if_pos (by omega), if_pos (by omega), rd_Both_nat, hx, w64s i (by omega), show wrap64 (sum0 (l.take i) + x.f0) = sum0 (l.take i) + x.f0 from w64 (by omega) (by omega), ← e]
    have hmn := mn_le low x.f1
    refine ih (i + 1) k (mn low x.f1) hd2 (by omega) (by omega) (by rw [mn_min]; omega) (by omega) (fun b hb => ?_)
    rw [take_succ_getD hlt z31, hx] at hb
    rcases List.mem_append.1 hb with hb | hb
    · have := h3 b hb; omega
    · rw [List.mem_singleton.1 hb]; omega
theorem FnLeastWay : laws_FnLeastWay.Pure := by
  intro l0 hl hl2 hb
  obtain ⟨K, hK⟩ : ∃ K, K = 10000 := ⟨_, rfl⟩
  refine ⟨K, ?_⟩
  unfold laws_FnLeastWay.f
  by_cases hbig : (l0.length : Int) > 1048576
  · rw [if_pos hbig]
  · rw [if_neg hbig]
    have hd : ∃ l, spec_DrawLeastWay.f K l0 = some l ∧ l.length ≤ 200 := by
      unfold spec_DrawLeastWay.f
      obtain ⟨s, e0, hs, hls⟩ := open_ok (bytes_of hb)
      rw [e0, Option.bind_some]; dsimp only
      obtain ⟨l, q, e, h1, h2, h3⟩ := l20Both_ok hs hls 9 (by omega) K (by omega) 0 (by omega) (by omega)
      rw [e, Option.bind_some]
      exact ⟨l, rfl, h1⟩
    obtain ⟨l, e, h1⟩ := hd
    rw [e, Option.bind_some]
    obtain ⟨r, e1, e2⟩ := LeastWay_same l (by omega) K (by omega)
    rw [e1, Option.bind_some, e2, Option.bind_some, if_pos rfl]
    by_cases hok : bothOk l = true
    · obtain ⟨r2, e3, hr⟩ := impl_LeastWay_is l hok
      have : r = r2 := Option.some.inj (e1.symm.trans e3)
      subst this
      have h0 := hr.1
      rw [if_neg (by omega)]
      have := LeastWay_loop l hok r hr l 0 K 9 rfl (by omega) (by omega) (by omega) (by omega) (by simp)
      exact this
    · have hr : r = -1 := by
        unfold impl_LeastWay.f at e1
        rw [impl_BothOk_is l (by omega) _ (by omega), Option.bind_some, if_neg hok] at e1
        exact (Option.some.inj e1).symm
      rw [if_pos (by omega), if_pos hr, alive_is K (by omega), Option.bind_some]

end Go.Proofs.Ytanmcbjlooknoaa.Pure
