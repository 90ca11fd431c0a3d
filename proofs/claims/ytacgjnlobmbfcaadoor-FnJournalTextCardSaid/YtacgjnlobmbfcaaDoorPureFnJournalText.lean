/- The pure part of the proof of FnJournalText: the printed functions answer true, for every drawn or given argument within the row's own bounds; no further condition. -/
import Derived.Test.YtacgjnlobmbfcaaDoorPFnJournalTextx8
import Derived.Laws.BitsLemmas
namespace Go.Proofs.YtacgjnlobmbfcaaDoor.Pure
open Go.RowKit Go.Proofs.YtacgjnlobmbfcaaDoor.PFnJournalText Go.Proofs.YtacgjnlobmbfcaaDoorW.PrintWords Go.Proofs.YtacgjnlobmbfcaaDoorW.PrintLast Go.Proofs.YtacgjnlobmbfcaaDoorW.PrintMore
set_option linter.unusedVariables false
set_option linter.unusedSimpArgs false
/-! base -/
theorem w64 {x : Int} (h0 : -9223372036854775808 ≤ x) (h1 : x ≤ 9223372036854775807) : wrap64 x = x := by
  unfold wrap64
  omega
theorem w64s (n : Nat) (h : n ≤ 4611686018427387904) : wrap64 ((n : Int) + 1) = ((n + 1 : Nat) : Int) := by
  unfold wrap64
  omega
theorem drop_split {α : Type} {l : List α} {i : Nat} {x : α} {xs : List α} (h : l.drop i = x :: xs) : i < l.length ∧ l.drop (i + 1) = xs ∧ ∀ d, l.getD i d = x := by
  have hi : i < l.length := by
    have h2 : 0 < (l.drop i).length := by rw [h]; simp
    rw [List.length_drop] at h2
    omega
  rw [List.drop_eq_getElem_cons hi] at h
  injection h with h1 h2
  exact ⟨hi, h2, fun d => by rw [List.getD_eq_getElem?_getD, List.getElem?_eq_getElem hi, h1]; rfl⟩
theorem drop_nil {α : Type} {l : List α} {i : Nat} (h : l.drop i = []) : l.length ≤ i := List.drop_eq_nil_iff.1 h
theorem getD_lt {α : Type} {l : List α} {i : Nat} (h : i < l.length) (d : α) : l.getD i d = l[i] := by
  rw [List.getD_eq_getElem?_getD, List.getElem?_eq_getElem h]; rfl
theorem rd_nat (l : List Int) (i : Nat) : rd l (i : Int) = l.getD i 0 := by
  unfold rd
  rw [Int.toNat_natCast]
theorem getD_mem {α : Type} {l : List α} {i : Nat} (h : i < l.length) (d : α) : l.getD i d ∈ l := by
  rw [getD_lt h]; exact List.getElem_mem h
theorem take_succ_getD {α : Type} {l : List α} {i : Nat} (h : i < l.length) (d : α) : l.take (i + 1) = l.take i ++ [l.getD i d] := by
  rw [getD_lt h, List.take_succ_eq_append_getElem h]
theorem mx_max (a b : Int) : mx a b = max a b := by
  unfold mx; omega
theorem mn_min (a b : Int) : mn a b = min a b := by
  unfold mn; omega
theorem bind_of {α β : Type} {o : Option α} {r : α} {f : α → Option β} {s : Option β} (h : o = some r) (h2 : f r = s) : o.bind f = s := by rw [h]; exact h2
theorem getD_snoc_last {α : Type} (l : List α) (x d : α) {i : Nat} (h : l.length = i) : (l ++ [x]).getD i d = x := by
  subst h
  rw [List.getD_eq_getElem?_getD, List.getElem?_append_right (Nat.le_refl _), Nat.sub_self]
  rfl
theorem getD_snoc_lt {α : Type} (l r : List α) (d : α) {i : Nat} (h : i < l.length) : (l ++ r).getD i d = l.getD i d := by
  rw [List.getD_eq_getElem?_getD, List.getElem?_append_left h, List.getD_eq_getElem?_getD]

/-! pick -/
theorem xor_small (a b : Int) (ha : 0 ≤ a) (ha2 : a < 1099511627776) (hb : 0 ≤ b) (hb2 : b < 1099511627776) : 0 ≤ Go.bits .xor .i64 a b ∧ Go.bits .xor .i64 a b < 1099511627776 := by
  obtain ⟨x, rfl⟩ := Int.eq_ofNat_of_zero_le ha
  obtain ⟨y, rfl⟩ := Int.eq_ofNat_of_zero_le hb
  have hx : x < 2 ^ 40 := by have : (x : Int) < 1099511627776 := ha2; omega
  have hy : y < 2 ^ 40 := by have : (y : Int) < 1099511627776 := hb2; omega
  have hz : x ^^^ y < 2 ^ 40 := Nat.xor_lt_two_pow hx hy
  have e : Go.bits .xor .i64 (x : Int) (y : Int) = ((x ^^^ y : Nat) : Int) := by
    have hx' : x % 2 ^ IntKind.i64.bits = x := Nat.mod_eq_of_lt (Nat.lt_of_lt_of_le hx (Nat.pow_le_pow_right (by decide) (by decide)))
    have hy' : y % 2 ^ IntKind.i64.bits = y := Nat.mod_eq_of_lt (Nat.lt_of_lt_of_le hy (Nat.pow_le_pow_right (by decide) (by decide)))
    simp only [bits, BitVec.ofInt_natCast, BitVec.toNat_xor, BitVec.toNat_ofNat, hx', hy']
    rw [IntKind.wrap_i64]
    omega
  rw [e]
  omega
theorem tmod_in (x n : Int) (hx : 0 ≤ x) (hn : 1 ≤ n) : 0 ≤ Int.tmod x n ∧ Int.tmod x n < n := by
  rw [Int.tmod_eq_emod_of_nonneg hx]
  exact ⟨Int.emod_nonneg _ (by omega), Int.emod_lt_of_pos _ (by omega)⟩
theorem rd_byte {s : List Int} (hs : ∀ x ∈ s, 0 ≤ x ∧ x ≤ 255) (i : Int) : 0 ≤ rd s i ∧ rd s i ≤ 255 := by
  unfold rd
  by_cases h : i.toNat < s.length
  · exact hs _ (getD_mem h 0)
  · rw [List.getD_eq_getElem?_getD, List.getElem?_eq_none (by omega)]; simp
/-- The reader: what it draws lies in 0..n-1, and its place goes on by one. -/
theorem pick_ok {k : Nat} (hk : 1 ≤ k) {s : List Int} (hs : ∀ x ∈ s, 0 ≤ x ∧ x ≤ 255) (hl : s.length ≤ 2000) (p : Int) (hp : 0 ≤ p) (hp2 : p ≤ 1000000) (n : Int) :
    ∃ v, spec_l20Rd_pick.f k s p n = some (v, p + 1) ∧ 0 ≤ v ∧ (1 ≤ n → v < n) ∧ (n < 1 → v = 0) := by
  obtain ⟨k, rfl⟩ : ∃ m, k = m + 1 := ⟨k - 1, by omega⟩
  have hw : wrap64 (p + 1) = p + 1 := w64 (by omega) (by omega)
  unfold spec_l20Rd_pick.f
  by_cases hn : n < 1
  · refine ⟨0, ?_, by omega, by omega, fun _ => rfl⟩
    rw [if_pos hn, hw]
    simp only [spec_l20Rd_pick.j0]
    rw [if_pos trivial]
  · rw [if_neg hn, hw]
    simp only [spec_l20Rd_pick.j0]
    by_cases he : (s.length : Int) = 0
    · refine ⟨0, ?_, by omega, by omega, fun _ => rfl⟩
      rw [if_pos (by simpa using he)]
    · have hpp : wrap64 (p + 1 - 1) = p := by rw [w64 (by omega) (by omega)]; omega
      rw [if_neg (by simpa using he), hpp]
      have hn0 : ¬ n = 0 := by omega
      have hb := fun i => rd_byte hs i
      by_cases hlt : p < (s.length : Int)
      · have hr := hb p
        have hwr : wrap64 (rd s p) = rd s p := w64 (by omega) (by omega)
        rw [if_pos hlt, if_pos hp, if_neg hn0, hwr]
        have ht := tmod_in (rd s p) n hr.1 (by omega)
        exact ⟨_, rfl, ht.1, fun _ => ht.2, fun h => absurd h hn⟩
      · have hL : 1 ≤ (s.length : Int) := by omega
        have e7 : wrap64 (p * 7) = p * 7 := w64 (by omega) (by omega)
        have e73 : wrap64 (p * 7 + 3) = p * 7 + 3 := w64 (by omega) (by omega)
        have t1 := tmod_in p (s.length : Int) hp hL
        have t2 := tmod_in (p * 7 + 3) (s.length : Int) (by omega) hL
        have r1 := hb (Int.tmod p (s.length : Int))
        have r2 := hb (Int.tmod (p * 7 + 3) (s.length : Int))
        rw [if_neg hlt, if_neg he, if_pos t1.1, if_pos t1.2, e7, e73, if_pos t2.1, if_pos t2.2, if_neg hn0]
        generalize rd s (Int.tmod p (s.length : Int)) = a at *
        generalize rd s (Int.tmod (p * 7 + 3) (s.length : Int)) = b at *
        have hq : Int.tdiv p (s.length : Int) = p / (s.length : Int) := Int.tdiv_eq_ediv_of_nonneg hp
        have q0 : 0 ≤ p / (s.length : Int) := Int.ediv_nonneg hp (by omega)
        have q1 : p / (s.length : Int) ≤ p := Int.ediv_le_self _ hp
        rw [hq]
        generalize p / (s.length : Int) = q at *
        have ea : wrap64 a = a := w64 (by omega) (by omega)
        have eb : wrap64 b = b := w64 (by omega) (by omega)
        have ea2 : wrap64 (a * 131) = a * 131 := w64 (by omega) (by omega)
        have eb2 : wrap64 (b * 1117) = b * 1117 := w64 (by omega) (by omega)
        have ep : wrap64 (p * 29) = p * 29 := w64 (by omega) (by omega)
        have eq_ : wrap64 q = q := w64 (by omega) (by omega)
        have eq2 : wrap64 (q * 53) = q * 53 := w64 (by omega) (by omega)
        have e1 : wrap64 (a * 131 + b * 1117) = a * 131 + b * 1117 := w64 (by omega) (by omega)
        have e2 : wrap64 (a * 131 + b * 1117 + p * 29) = a * 131 + b * 1117 + p * 29 := w64 (by omega) (by omega)
        have e3 : wrap64 (a * 131 + b * 1117 + p * 29 + q * 53) = a * 131 + b * 1117 + p * 29 + q * 53 := w64 (by omega) (by omega)
        rw [ea, eb, ea2, eb2, ep, eq_, eq2, e1, e2, e3]
        have hX0 : 0 ≤ a * 131 + b * 1117 + p * 29 + q * 53 := by omega
        have hX1 : a * 131 + b * 1117 + p * 29 + q * 53 < 1099511627776 := by omega
        generalize a * 131 + b * 1117 + p * 29 + q * 53 = X at *
        have hd : Int.tdiv X 64 = X / 64 := Int.tdiv_eq_ediv_of_nonneg hX0
        have ed : wrap64 (X / 64) = X / 64 := w64 (by omega) (by omega)
        rw [hd, ed]
        have hx := xor_small X (X / 64) hX0 hX1 (by omega) (by omega)
        have ht := tmod_in (Go.bits .xor .i64 X (X / 64)) n hx.1 (by omega)
        exact ⟨_, rfl, ht.1, fun _ => ht.2, fun h => absurd h hn⟩
theorem odd_ok {k : Nat} (hk : 1 ≤ k) {s : List Int} (hs : ∀ x ∈ s, 0 ≤ x ∧ x ≤ 255) (hl : s.length ≤ 2000) (p : Int) (hp : 0 ≤ p) (hp2 : p ≤ 1000000) (n : Int) (hn : n ≤ 1000) :
    ∃ b q, spec_l20Rd_odd.f k s p n = some (b, q) ∧ p ≤ q ∧ q ≤ p + 1 ∧ (n ≤ 0 → b = false) := by
  unfold spec_l20Rd_odd.f
  by_cases h : n > 0
  · obtain ⟨v, hv, -⟩ := pick_ok hk hs hl p hp hp2 n
    rw [if_pos h, hv]
    exact ⟨_, _, rfl, by simp only; omega, by simp only; omega, fun hh => by omega⟩
  · rw [if_neg h]
    exact ⟨_, _, rfl, by omega, by omega, fun _ => rfl⟩
theorem open_ok {s : List Int} (hs : ∀ x ∈ s, 0 ≤ x ∧ x ≤ 255) : ∃ t, spec_l20Open.f s = some (t, 0) ∧ (∀ x ∈ t, 0 ≤ x ∧ x ≤ 255) ∧ t.length ≤ 2000 := by
  unfold spec_l20Open.f
  by_cases h : (s.length : Int) > 2000
  · rw [if_pos h, if_pos (by omega)]
    exact ⟨_, rfl, fun x hx => hs x (List.mem_of_mem_take hx), by rw [List.length_take]; omega⟩
  · rw [if_neg h]
    exact ⟨_, rfl, hs, by omega⟩
theorem bytes_of {l : List Int} (h : ∀ x ∈ l, (Lit.int .u8 x).wf = true) : ∀ x ∈ l, 0 ≤ x ∧ x ≤ 255 := by
  intro x hx
  have := h x hx
  simp only [Lit.wf, IntKind.min, IntKind.max, IntKind.signed, IntKind.bits, Bool.and_eq_true, decide_eq_true_eq, Bool.false_eq_true, if_false] at this
  omega

/-! l1in -/
theorem spec_l1In_is (a b c : Int) : spec_l1In.f a b c = some (decide (b ≤ a ∧ a ≤ c)) := by
  unfold spec_l1In.f
  by_cases h : a ≥ b
  · rw [if_pos h]
    congr 1
    apply decide_eq_decide.2
    omega
  · rw [if_neg h]
    congr 1
    symm
    exact decide_eq_false (by omega)

/-! customers -/
/-- Customers, as both texts ask: seen from a place on, with the one ahead. -/
def custFrom : Option S67 → List S67 → Bool
  | _, [] => true
  | none, c :: cs => decide (0 ≤ c.f0 ∧ c.f0 ≤ 60 ∧ 1 ≤ c.f1 ∧ c.f1 ≤ 9) && custFrom (some c) cs
  | some p, c :: cs => decide (0 ≤ c.f0 ∧ c.f0 ≤ 60 ∧ 1 ≤ c.f1 ∧ c.f1 ≤ 9 ∧ p.f0 ≤ c.f0) && custFrom (some c) cs
def custOk (l : List S67) : Bool := custFrom none l && decide (l.length ≤ 8)
theorem rd_Customer_nat (l : List S67) (i : Nat) : rd_T67 l (i : Int) = l.getD i z67 := by
  unfold rd_T67
  rw [Int.toNat_natCast]
theorem cust_bad {p : Option S67} {x : S67} {xs : List S67} (h : ¬ (0 ≤ x.f0 ∧ x.f0 ≤ 60 ∧ 1 ≤ x.f1 ∧ x.f1 ≤ 9)) : custFrom p (x :: xs) = false := by
  cases p with
  | none => simp only [custFrom, decide_eq_false h, Bool.false_and]
  | some q => simp only [custFrom, decide_eq_false (show ¬ (0 ≤ x.f0 ∧ x.f0 ≤ 60 ∧ 1 ≤ x.f1 ∧ x.f1 ≤ 9 ∧ q.f0 ≤ x.f0) from fun hh => h ⟨hh.1, hh.2.1, hh.2.2.1, hh.2.2.2.1⟩), Bool.false_and]
theorem cust_bad2 {p x : S67} {xs : List S67} (h : x.f0 < p.f0) : custFrom (some p) (x :: xs) = false := by
  simp only [custFrom, decide_eq_false (show ¬ (0 ≤ x.f0 ∧ x.f0 ≤ 60 ∧ 1 ≤ x.f1 ∧ x.f1 ≤ 9 ∧ p.f0 ≤ x.f0) from fun hh => by omega), Bool.false_and]
theorem impl_CustomersOk_loop (l : List S67) (hl : l.length ≤ 1048576) : ∀ (suf : List S67) (i k : Nat), l.drop i = suf → suf.length < k → i ≤ l.length →
    impl_CustomersOk.l0 k l l (l.length : Int) i = some (custFrom (if i = 0 then none else some (l.getD (i - 1) z67)) suf && decide (l.length ≤ 8)) := by
  intro suf
  induction suf with
  | nil =>
    intro i k hd hk hi
    obtain ⟨k, rfl⟩ : ∃ m, k = m + 1 := ⟨k - 1, by omega⟩
    have := drop_nil hd
    simp only [impl_CustomersOk.l0]
    rw [if_neg (by omega)]
    congr 1
    have e : (decide ((l.length : Int) ≤ 8)) = decide (l.length ≤ 8) := decide_eq_decide.2 (by omega)
    rw [e]
    split <;> simp [custFrom]
  | cons x xs ih =>
    intro i k hd hk hi
    obtain ⟨k, rfl⟩ : ∃ m, k = m + 1 := ⟨k - 1, by omega⟩
    obtain ⟨hlt, hd2, hx⟩ := drop_split hd
    simp only [impl_CustomersOk.l0]
    rw [if_pos (by omega), if_pos (by omega), if_pos (by omega), rd_Customer_nat, hx, w64s i (by omega), ih (i + 1) k hd2 (by simp at hk; omega) (by omega)]
    rw [if_neg (show ¬ i + 1 = 0 by omega), show i + 1 - 1 = i from rfl, hx]
    by_cases h1 : x.f0 < 0
    · rw [if_pos h1, cust_bad (by omega), Bool.false_and]
    rw [if_neg h1]
    by_cases h2 : x.f0 > 60
    · rw [if_pos h2, cust_bad (by omega), Bool.false_and]
    rw [if_neg h2]
    by_cases hi0 : i = 0
    · subst hi0
      rw [if_neg (by omega)]
      by_cases h3 : x.f1 < 1
      · rw [if_pos h3, cust_bad (by omega), Bool.false_and]
      rw [if_neg h3]
      by_cases h4 : x.f1 > 9
      · rw [if_pos h4, cust_bad (by omega), Bool.false_and]
      rw [if_neg h4, if_pos rfl]
      have e : decide (0 ≤ x.f0 ∧ x.f0 ≤ 60 ∧ 1 ≤ x.f1 ∧ x.f1 ≤ 9) = true := decide_eq_true (by omega)
      simp only [custFrom, e, Bool.true_and]
    · rw [if_pos (by omega), show wrap64 ((i : Int) - 1) = ((i - 1 : Nat) : Int) from by rw [w64 (by omega) (by omega)]; omega, if_pos (by omega), if_pos (by omega), rd_Customer_nat, if_neg hi0]
      by_cases h5 : x.f0 < (l.getD (i - 1) z67).f0
      · rw [if_pos h5, cust_bad2 h5, Bool.false_and]
      rw [if_neg h5]
      by_cases h3 : x.f1 < 1
      · rw [if_pos h3, cust_bad (by omega), Bool.false_and]
      rw [if_neg h3]
      by_cases h4 : x.f1 > 9
      · rw [if_pos h4, cust_bad (by omega), Bool.false_and]
      rw [if_neg h4]
      have e : decide (0 ≤ x.f0 ∧ x.f0 ≤ 60 ∧ 1 ≤ x.f1 ∧ x.f1 ≤ 9 ∧ (l.getD (i - 1) z67).f0 ≤ x.f0) = true := decide_eq_true (by omega)
      simp only [custFrom, e, Bool.true_and]
theorem impl_CustomersOk_is (l : List S67) (hl : l.length ≤ 1048576) (k : Nat) (hk : l.length < k) : impl_CustomersOk.f k l = some (custOk l) := by
  unfold impl_CustomersOk.f
  exact impl_CustomersOk_loop l hl l 0 k rfl hk (by omega)

/-! alive -/
theorem alive_is (k : Nat) (hk : 2 ≤ k) : laws_alive.f k = some true := by
  unfold laws_alive.f
  rw [impl_CustomersOk_is _ (by simp) k (by simp; omega)]
  simp only [Option.bind_some]
  rw [if_pos (by decide), impl_CustomersOk_is _ (by simp) k (by simp; omega)]
  rfl

/-! drawcust -/
theorem l20Customers_loop {s : List Int} (hs : ∀ x ∈ s, 0 ≤ x ∧ x ≤ 255) (hl : s.length ≤ 2000) (m wide high : Int) (hm : m ≤ 1000) : ∀ (d : Nat) (k : Nat) (l : List S67) (t p : Int), d + 2 ≤ k → 0 ≤ p → p + 2 * d + 4 ≤ 1000000 → l.length + d ≤ 100 →
    ∃ r q, spec_l20Customers.l0 k m l t wide high d s p = some (r, q) ∧ r.length ≤ 200 ∧ p ≤ q ∧ q ≤ p + 2 * d + 4 := by
  intro d
  induction d with
  | zero =>
    intro k l t p hk hp hp2 hll
    obtain ⟨k, rfl⟩ : ∃ m, k = m + 1 := ⟨k - 1, by omega⟩
    simp only [spec_l20Customers.l0]
    rw [if_neg (by omega)]
    obtain ⟨b, q, e, hq1, hq2, -⟩ := odd_ok (k := k) (by omega) hs hl p hp (by omega) m hm
    rw [e]; simp only [Option.bind_some]
    cases b with
    | false => rw [if_neg (by simp)]; exact ⟨_, _, rfl, by omega, by omega, by omega⟩
    | true =>
      rw [if_pos rfl]
      obtain ⟨v, e2, hv⟩ := pick_ok (k := k) (by omega) hs hl q (by omega) (by omega) 3
      rw [e2]; simp only [Option.bind_some]
      by_cases v0 : v = 0
      · rw [if_pos v0]; exact ⟨_, _, rfl, by simp, by omega, by omega⟩
      · rw [if_neg v0]
        by_cases v1 : v = 1
        · rw [if_pos v1, if_pos (by omega)]; exact ⟨_, _, rfl, by rw [List.length_append]; simp; omega, by omega, by omega⟩
        · rw [if_neg v1]
          obtain ⟨v2, e3, hv2, hv3, -⟩ := pick_ok (k := k) (by omega) hs hl (q + 1) (by omega) (by omega) 2
          have hv3 := hv3 (by omega)
          rw [e3]; simp only [Option.bind_some]
          rw [if_pos hv2, if_pos (by simp; omega)]
          exact ⟨_, _, rfl, by simp, by omega, by omega⟩
  | succ d ih =>
    intro k l t p hk hp hp2 hll
    obtain ⟨k, rfl⟩ : ∃ m, k = m + 1 := ⟨k - 1, by omega⟩
    simp only [spec_l20Customers.l0]
    rw [if_pos (by omega)]
    obtain ⟨v, e, -⟩ := pick_ok (k := k) (by omega) hs hl p hp (by omega) high
    rw [e]; simp only [Option.bind_some]
    rw [if_pos (by omega)]
    obtain ⟨v2, e2, -⟩ := pick_ok (k := k) (by omega) hs hl (p + 1) (by omega) (by omega) (wrap64 (wide + 1))
    rw [e2]; simp only [Option.bind_some]
    rw [show wrap64 (((d + 1 : Nat) : Int) - 1) = (d : Int) from by rw [w64 (by omega) (by omega)]; omega]
    obtain ⟨r, q, e3, h1, h2, h3⟩ := ih k (l ++ [⟨t, wrap64 (1 + v)⟩]) (wrap64 (t + v2)) (p + 1 + 1) (by omega) (by omega) (by omega) (by rw [List.length_append]; simp; omega)
    exact ⟨r, q, e3, h1, by omega, by omega⟩
theorem l20Customers_ok {s : List Int} (hs : ∀ x ∈ s, 0 ≤ x ∧ x ≤ 255) (hl : s.length ≤ 2000) (m : Int) (hm : m ≤ 1000) (k : Nat) (hk : 20 ≤ k) (p : Int) (hp : 0 ≤ p) (hp2 : p ≤ 100000) :
    ∃ r q, spec_l20Customers.f k s p m = some (r, q) ∧ r.length ≤ 200 ∧ p ≤ q ∧ q ≤ p + 30 := by
  unfold spec_l20Customers.f
  obtain ⟨v0, e0, -⟩ := pick_ok (k := k) (by omega) hs hl p hp (by omega) 3
  rw [e0]; simp only [Option.bind_some]
  obtain ⟨v, e, -⟩ := pick_ok (k := k) (by omega) hs hl (p + 1) (by omega) (by omega) 5
  rw [e]; simp only [Option.bind_some]
  obtain ⟨v1, e1, h10, h11, -⟩ := pick_ok (k := k) (by omega) hs hl (p + 1 + 1) (by omega) (by omega) 2
  have h11 := h11 (by omega)
  rw [e1]; simp only [Option.bind_some]
  rw [if_pos h10, if_pos (by simp; omega)]
  obtain ⟨v2, e2, hv2, hv3, -⟩ := pick_ok (k := k) (by omega) hs hl (p + 1 + 1 + 1) (by omega) (by omega) 9
  have hv3 := hv3 (by omega)
  rw [e2]; simp only [Option.bind_some]
  obtain ⟨r, q, e3, h1, h2, h3⟩ := l20Customers_loop hs hl m (wrap64 (1 + v)) (rd [3, 9] v1) hm v2.toNat k [] v0 (p + 1 + 1 + 1 + 1) (by omega) (by omega) (by omega) (by simp only [List.length_nil]; omega)
  rw [show ((v2.toNat : Nat) : Int) = v2 from by omega] at e3
  exact ⟨r, q, e3, h1, by omega, by omega⟩

/-! deedtext -/
/-! The text of a number in 0..99. -/
def numP (n : Int) : ByteArray := ⟨(Lib.decDigits n.toNat).toArray⟩
theorem itoa_is (n : Int) (h0 : 0 ≤ n) (h1 : n ≤ 99) : strconv_Itoa_32.f n = some (numP n) := by
  unfold strconv_Itoa_32.f
  rw [if_pos h0, if_pos (by omega)]; rfl
theorem bytes_app (a b : List UInt8) : (⟨a.toArray⟩ : ByteArray) ++ ⟨b.toArray⟩ = ⟨(a ++ b).toArray⟩ := by
  apply ByteArray.ext
  simp
theorem dec_small (u : Nat) (h : u < 10) : Lib.decDigits u = [UInt8.ofNat (48 + u)] := by rw [Lib.decDigits, dif_pos h]
theorem dec_big (u : Nat) (h : ¬ u < 10) : Lib.decDigits u = Lib.decDigits (u / 10) ++ [UInt8.ofNat (48 + u % 10)] := by rw [Lib.decDigits, dif_neg h]
theorem numP_small (n : Int) (h0 : 0 ≤ n) (h1 : n < 10) : numP n = strOfNums [48 + n] := by
  unfold numP strOfNums
  rw [dec_small n.toNat (by omega)]
  simp only [List.map_cons, List.map_nil]
  rw [show (48 + n).toNat = 48 + n.toNat from by omega]
theorem numP_big (n : Int) (h0 : 10 ≤ n) : numP n = numP (n / 10) ++ strOfNums [48 + n % 10] := by
  unfold numP strOfNums
  rw [dec_big n.toNat (by omega), bytes_app]
  simp only [List.map_cons, List.map_nil]
  rw [show (48 + n % 10).toNat = 48 + n.toNat % 10 from by omega, show (n / 10).toNat = n.toNat / 10 from by omega]
theorem numP_size (n : Int) (h0 : 0 ≤ n) (h1 : n ≤ 99) : 1 ≤ (numP n).size ∧ (numP n).size ≤ 2 := by
  have hs : ∀ u : Nat, (numP (u : Int)).size = (Lib.decDigits u).length := fun u => by
    unfold numP
    rw [Int.toNat_natCast]; rfl
  rw [show n = ((n.toNat : Nat) : Int) from by omega, hs]
  by_cases h : n.toNat < 10
  · rw [dec_small _ h]; simp
  · rw [dec_big _ h, dec_small _ (by omega)]; simp
theorem number_is (n : Int) (h0 : 0 ≤ n) (h1 : n ≤ 99) (k : Nat) (hk : 2 ≤ k) : spec_l1Number.f k n = some (numP n) := by
  obtain ⟨k, rfl⟩ : ∃ m, k = m + 1 := ⟨k - 1, by omega⟩
  obtain ⟨k, rfl⟩ : ∃ m, k = m + 1 := ⟨k - 1, by omega⟩
  have small : ∀ (k : Nat) (m : Int), 0 ≤ m → m < 10 → spec_l1Number.f (k + 1) m = some (numP m) := by
    intro k m m0 m1
    simp only [spec_l1Number.f]
    rw [if_pos m1, numP_small m m0 m1]
    have e : mx m 0 = m := by rw [mx_max]; omega
    rw [e, w64 (x := 48 + m) (by omega) (by omega), show (48 + m) % 256 = 48 + m from by omega]
  by_cases h : n < 10
  · exact small _ n h0 h
  · rw [spec_l1Number.f, if_neg h]
    have e1 : wrap64 (Int.tdiv n 10) = n / 10 := by rw [Int.tdiv_eq_ediv_of_nonneg h0, w64 (by omega) (by omega)]
    have e2 : wrap64 (48 + Int.tmod n 10) % 256 = 48 + n % 10 := by rw [Int.tmod_eq_emod_of_nonneg h0, w64 (by omega) (by omega)]; omega
    rw [e1, e2, small k (n / 10) (by omega) (by omega), Option.bind_some, Option.bind_some]
    have := numP_size (n / 10) (by omega) (by omega)
    have hs : (strOfNums [48 + n % 10]).size = 1 := rfl
    rw [if_pos (by omega), numP_big n (by omega)]
def strP (l : List UInt8) : ByteArray := ⟨l.toArray⟩
/-- The text of a deed. -/
def deedP (kind a b : Int) : ByteArray :=
  if (0 ≤ a ∧ a ≤ 99) ∧ (0 ≤ b ∧ b ≤ 99) then
    if kind = 0 then (((⟨#[99, 111, 109, 101, 32]⟩ : ByteArray) ++ numP a) ++ (⟨#[32]⟩ : ByteArray)) ++ numP b
    else if b = 0 then
      if kind = 2 then (⟨#[110, 101, 101, 100, 32]⟩ : ByteArray) ++ numP a
      else if kind = 3 then (⟨#[108, 97, 116, 101, 114, 32]⟩ : ByteArray) ++ numP a
      else if a = 0 then (if kind = 1 then ⟨#[103, 111]⟩ else if kind = 4 then ⟨#[98, 97, 99, 107]⟩ else ⟨#[]⟩)
      else ⟨#[]⟩
    else ⟨#[]⟩
  else ⟨#[]⟩
theorem impl_DeedText_is (kind a b : Int) (k : Nat) (hk : 5 ≤ k) : impl_DeedText.f k kind a b = some (deedP kind a b) := by
  obtain ⟨k, rfl⟩ : ∃ m, k = m + 1 := ⟨k - 1, by omega⟩
  unfold impl_DeedText.f deedP
  by_cases h : (0 ≤ a ∧ a ≤ 99) ∧ (0 ≤ b ∧ b ≤ 99)
  · obtain ⟨⟨a0, a1⟩, b0, b1⟩ := h
    have sa := numP_size a a0 a1
    have sb := numP_size b b0 b1
    rw [if_neg (by omega), if_neg (by omega), if_neg (by omega), if_pos ⟨⟨a0, a1⟩, b0, b1⟩, decide_eq_false (show ¬ b > 99 by omega)]
    simp only [impl_DeedText.j0]
    rw [if_neg (by simp), itoa_is a a0 a1, Option.bind_some, itoa_is b b0 b1]
    have e1 : ((⟨#[32]⟩ : ByteArray) ++ numP a).size = 1 + (numP a).size := by rw [ByteArray.size_append]; rfl
    have e2 : ((⟨#[99, 111, 109, 101]⟩ : ByteArray) ++ ((⟨#[32]⟩ : ByteArray) ++ numP a)).size = 4 + (1 + (numP a).size) := by rw [ByteArray.size_append, e1]; rfl
    have e3 : (((⟨#[99, 111, 109, 101]⟩ : ByteArray) ++ ((⟨#[32]⟩ : ByteArray) ++ numP a)) ++ (⟨#[32]⟩ : ByteArray)).size = 4 + (1 + (numP a).size) + 1 := by rw [ByteArray.size_append, e2]; rfl
    rw [if_pos (by omega), Option.bind_some, e1, e2, e3]
    by_cases k0 : kind = 0
    · rw [if_pos k0, if_pos (by omega), if_pos (by omega), if_pos (by omega), if_pos k0, ← ByteArray.append_assoc]; rfl
    · rw [if_neg k0, if_neg k0]
      by_cases hb : b = 0
      · rw [if_pos hb, if_pos hb]
        by_cases k2 : kind = 2
        · rw [if_pos k2, if_pos (by omega), if_pos k2, ← ByteArray.append_assoc]; rfl
        · rw [if_neg k2, if_neg k2]
          by_cases k3 : kind = 3
          · rw [if_pos k3, if_pos (by omega), if_pos k3, ← ByteArray.append_assoc]; rfl
          · rw [if_neg k3, if_neg k3]
            split
            · split
              · rfl
              · split <;> rfl
            · rfl
      · rw [if_neg hb, if_neg hb]
  · rw [if_neg h]
    have j : ∀ x, x = true → impl_DeedText.j0 (k + 1) x kind a b = some ⟨#[]⟩ := fun x hx => by
      simp only [impl_DeedText.j0]
      rw [if_pos hx]
    by_cases h1 : a < 0
    · rw [if_pos h1]; exact j _ rfl
    · rw [if_neg h1]
      by_cases h2 : a > 99
      · rw [if_pos h2]; exact j _ rfl
      · rw [if_neg h2]
        by_cases h3 : b < 0
        · rw [if_pos h3]; exact j _ rfl
        · rw [if_neg h3]; exact j _ (decide_eq_true (by omega))
theorem spec_DeedText_is (kind a b : Int) (k : Nat) (hk : 9 ≤ k) : spec_DeedText.f k kind a b = some (deedP kind a b) := by
  obtain ⟨k, rfl⟩ : ∃ m, k = m + 1 := ⟨k - 1, by omega⟩
  obtain ⟨k, rfl⟩ : ∃ m, k = m + 1 := ⟨k - 1, by omega⟩
  obtain ⟨k, rfl⟩ : ∃ m, k = m + 1 := ⟨k - 1, by omega⟩
  have sa := fun (h : 0 ≤ a ∧ a ≤ 99) => numP_size a h.1 h.2
  have sb := fun (h : 0 ≤ b ∧ b ≤ 99) => numP_size b h.1 h.2
  have j2 : ∀ x : Bool, kind ≠ 0 → kind ≠ 2 → (x = true ↔ kind = 3 ∧ (0 ≤ a ∧ a ≤ 99) ∧ b = 0) → spec_DeedText.j2 (k + 1) x kind a b = some (deedP kind a b) := by
    intro x k0 k2 hx
    simp only [spec_DeedText.j2]
    by_cases h : x = true
    · obtain ⟨k3, ha, hb⟩ := hx.1 h
      have := sa ha
      rw [if_pos h, number_is a ha.1 ha.2 k (by omega), Option.bind_some, if_pos (by omega)]
      unfold deedP
      rw [if_pos ⟨ha, by omega⟩, if_neg k0, if_pos hb, if_neg k2, if_pos k3]
    · rw [if_neg h]
      have h3 : ¬ (kind = 3 ∧ (0 ≤ a ∧ a ≤ 99) ∧ b = 0) := fun g => h (hx.2 g)
      by_cases hz : a = 0 ∧ b = 0
      · obtain ⟨rfl, rfl⟩ := hz
        have e : deedP kind 0 0 = (if kind = 1 then ⟨#[103, 111]⟩ else if kind = 4 then ⟨#[98, 97, 99, 107]⟩ else ⟨#[]⟩) := by
          unfold deedP
          rw [if_pos ⟨⟨by omega, by omega⟩, by omega, by omega⟩, if_neg k0, if_pos rfl, if_neg k2, if_neg (fun g => h3 ⟨g, by omega, rfl⟩), if_pos rfl]
        rw [e]
        by_cases k1 : kind = 1
        · rw [if_pos (by simp [k1]), if_pos k1]
        · rw [if_neg (by simp [k1]), if_neg k1]
          by_cases k4 : kind = 4
          · rw [if_pos (by simp [k4]), if_pos k4]
          · rw [if_neg (by simp [k4]), if_neg k4]
      · have f1 : ∀ c : Int, ¬ ((kind == c && (a == 0 && (b == 0))) = true) := fun c g => by
          simp only [Bool.and_eq_true, beq_iff_eq] at g
          exact hz g.2
        have e : deedP kind a b = ⟨#[]⟩ := by
          unfold deedP
          by_cases hab : (0 ≤ a ∧ a ≤ 99) ∧ (0 ≤ b ∧ b ≤ 99)
          · rw [if_pos hab, if_neg k0]
            by_cases hb : b = 0
            · rw [if_pos hb, if_neg k2, if_neg (fun g => h3 ⟨g, hab.1, hb⟩), if_neg (fun g => hz ⟨g, hb⟩)]
            · rw [if_neg hb]
          · rw [if_neg hab]
        rw [if_neg (f1 1), if_neg (f1 4), e]
  have j1 : ∀ x : Bool, kind ≠ 0 → (x = true ↔ kind = 2 ∧ (0 ≤ a ∧ a ≤ 99) ∧ b = 0) → spec_DeedText.j1 (k + 1 + 1) x kind a b = some (deedP kind a b) := by
    intro x k0 hx
    simp only [spec_DeedText.j1]
    by_cases h : x = true
    · obtain ⟨k2, ha, hb⟩ := hx.1 h
      have := sa ha
      rw [if_pos h, number_is a ha.1 ha.2 _ (by omega), Option.bind_some, if_pos (by omega)]
      unfold deedP
      rw [if_pos ⟨ha, by omega⟩, if_neg k0, if_pos hb, if_pos k2]
    · rw [if_neg h]
      have h2 : ¬ (kind = 2 ∧ (0 ≤ a ∧ a ≤ 99) ∧ b = 0) := fun g => h (hx.2 g)
      by_cases k2 : kind = 2
      · have hn : ¬ ((0 ≤ a ∧ a ≤ 99) ∧ b = 0) := fun g => h2 ⟨k2, g⟩
        have e : deedP kind a b = ⟨#[]⟩ := by
          unfold deedP
          by_cases hab : (0 ≤ a ∧ a ≤ 99) ∧ (0 ≤ b ∧ b ≤ 99)
          · rw [if_pos hab, if_neg k0, if_neg (fun g => hn ⟨hab.1, g⟩)]
          · rw [if_neg hab]
        rw [e, if_neg (by omega)]
        simp only [spec_DeedText.j2]
        rw [if_neg (by simp), if_neg (by simp [k2]), if_neg (by simp [k2])]
      · by_cases k3 : kind = 3
        · rw [if_pos k3, spec_l1In_is, Option.bind_some]
          by_cases ha : 0 ≤ a ∧ a ≤ 99
          · rw [if_pos (decide_eq_true ha)]
            exact j2 _ k0 k2 ⟨fun g => ⟨k3, ha, by rw [beq_iff_eq] at g; exact g⟩, fun g => by rw [beq_iff_eq]; exact g.2.2⟩
          · rw [if_neg (fun g => ha (of_decide_eq_true g))]
            exact j2 _ k0 k2 ⟨fun g => by simp at g, fun g => absurd g.2.1 ha⟩
        · rw [if_neg k3]
          exact j2 _ k0 k2 ⟨fun g => by simp at g, fun g => absurd g.1 k3⟩
  have j0 : ∀ x : Bool, (x = true ↔ kind = 0 ∧ (0 ≤ a ∧ a ≤ 99) ∧ (0 ≤ b ∧ b ≤ 99)) → spec_DeedText.j0 (k + 1 + 1 + 1) x kind a b = some (deedP kind a b) := by
    intro x hx
    simp only [spec_DeedText.j0]
    by_cases h : x = true
    · obtain ⟨k0, ha, hb⟩ := hx.1 h
      have s1 := sa ha
      have s2 := sb hb
      have e1 : ((⟨#[99, 111, 109, 101, 32]⟩ : ByteArray) ++ numP a).size = 5 + (numP a).size := by rw [ByteArray.size_append]; rfl
      have e2 : (((⟨#[99, 111, 109, 101, 32]⟩ : ByteArray) ++ numP a) ++ (⟨#[32]⟩ : ByteArray)).size = 5 + (numP a).size + 1 := by rw [ByteArray.size_append, e1]; rfl
      rw [if_pos h, number_is a ha.1 ha.2 _ (by omega), Option.bind_some, if_pos (by omega), if_pos (by omega), number_is b hb.1 hb.2 _ (by omega), Option.bind_some, if_pos (by omega)]
      unfold deedP
      rw [if_pos ⟨ha, hb⟩, if_pos k0]
    · rw [if_neg h]
      by_cases k0 : kind = 0
      · have e : deedP kind a b = ⟨#[]⟩ := by
          unfold deedP
          rw [if_neg (fun g => h (hx.2 ⟨k0, g⟩))]
        rw [e, if_neg (by omega)]
        simp only [spec_DeedText.j1]
        rw [if_neg (by simp), if_neg (by omega)]
        simp only [spec_DeedText.j2]
        rw [if_neg (by simp), if_neg (by simp [k0]), if_neg (by simp [k0])]
      · by_cases k2 : kind = 2
        · rw [if_pos k2, spec_l1In_is, Option.bind_some]
          by_cases ha : 0 ≤ a ∧ a ≤ 99
          · rw [if_pos (decide_eq_true ha)]
            exact j1 _ k0 ⟨fun g => ⟨k2, ha, by rw [beq_iff_eq] at g; exact g⟩, fun g => by rw [beq_iff_eq]; exact g.2.2⟩
          · rw [if_neg (fun g => ha (of_decide_eq_true g))]
            exact j1 _ k0 ⟨fun g => by simp at g, fun g => absurd g.2.1 ha⟩
        · rw [if_neg k2]
          exact j1 _ k0 ⟨fun g => by simp at g, fun g => absurd g.1 k2⟩
  unfold spec_DeedText.f
  by_cases k0 : kind = 0
  · rw [if_pos k0, spec_l1In_is, Option.bind_some]
    by_cases ha : 0 ≤ a ∧ a ≤ 99
    · rw [if_pos (decide_eq_true ha), spec_l1In_is, Option.bind_some]
      exact j0 _ ⟨fun g => ⟨k0, ha, of_decide_eq_true g⟩, fun g => decide_eq_true g.2.2⟩
    · rw [if_neg (fun g => ha (of_decide_eq_true g))]
      exact j0 _ ⟨fun g => by simp at g, fun g => absurd g.2.1 ha⟩
  · rw [if_neg k0]
    exact j0 _ ⟨fun g => by simp at g, fun g => absurd g.1 k0⟩

/-! readdeed -/
/-! Reading deeds: what both texts come to. -/
theorem strP_list (l : List UInt8) : (strP l).data.toList = l := rfl
theorem strP_eq (s : ByteArray) : strP s.data.toList = s := by
  apply ByteArray.ext
  simp [strP]
theorem strP_size (l : List UInt8) : (strP l).size = l.length := rfl
theorem str_ext {a b : ByteArray} (h : a.data.toList = b.data.toList) : a = b := by rw [← strP_eq a, ← strP_eq b, h]
theorem toList_iff (a b : ByteArray) : a.toList = b.toList ↔ a = b := by
  have := Lib.bytes_beq_iff a b
  rw [beq_iff_eq] at this
  exact this
theorem extract_str (s : ByteArray) (a b : Nat) : s.extract a b = strP ((s.data.toList.drop a).take (b - a)) := by
  apply str_ext
  rw [Lib.extract_data, strP_list]
theorem empty_toList : (ByteArray.mk #[]).toList = [] := by
  unfold ByteArray.toList
  unfold ByteArray.toList.loop
  rfl
theorem indexByte_at (w rest : List UInt8) (h : ∀ c ∈ w, c ≠ 32) : Lib.indexByte (w ++ 32 :: rest) 32 = w.length := by
  induction w with
  | nil => simp [Lib.indexByte]
  | cons c cs ih =>
    have h1 := h c (by simp)
    have h2 := ih (fun x hx => h x (by simp [hx]))
    simp only [List.cons_append, Lib.indexByte]
    rw [if_neg (by simpa using h1), h2, if_neg (by simp)]
    simp
theorem indexByte_no (w : List UInt8) (h : ∀ c ∈ w, c ≠ 32) : Lib.indexByte w 32 = -1 := by
  induction w with
  | nil => rfl
  | cons c cs ih =>
    have h1 := h c (by simp)
    have h2 := ih (fun x hx => h x (by simp [hx]))
    simp only [Lib.indexByte]
    rw [if_neg (by simpa using h1), h2, if_pos (by rfl)]
theorem indexB_eq (l : List UInt8) : Lib.indexB (strP l) ⟨#[32]⟩ = Lib.indexByte l 32 := Lib.index_one l 32
theorem parts_hit (w rest : List UInt8) (h : ∀ c ∈ w, c ≠ 32) : impl_ReadDeed.parts (strP (w ++ 32 :: rest)) = strP w :: impl_ReadDeed.parts (strP rest) := by
  have hi : Lib.indexB (strP (w ++ 32 :: rest)) ⟨#[32]⟩ = ((w.length : Nat) : Int) := by rw [indexB_eq, indexByte_at w rest h]
  have hc := Lib.countB_hit _ ⟨#[32]⟩ w.length (by decide) hi
  have e2 : (strP (w ++ 32 :: rest)).extract (w.length + (⟨#[32]⟩ : ByteArray).size) (strP (w ++ 32 :: rest)).size = strP rest := by
    apply str_ext
    rw [Lib.extract_to_end, strP_list, strP_list]
    show (w ++ 32 :: rest).drop (w.length + 1) = rest
    rw [← List.drop_drop, List.drop_left]; rfl
  have e1 : (strP (w ++ 32 :: rest)).extract 0 (w.length + 0) = strP w := by
    apply str_ext
    rw [Lib.extract_data, strP_list, strP_list]
    simp
  unfold impl_ReadDeed.parts
  rw [hc, e2, Nat.add_comm 1 _, Lib.splitB_hit _ 0 _ _ w.length hi, e1, e2]
theorem parts_last (w : List UInt8) (h : ∀ c ∈ w, c ≠ 32) : impl_ReadDeed.parts (strP w) = [strP w] := by
  unfold impl_ReadDeed.parts
  exact Lib.splitB_miss _ 0 _ _ (by rw [indexB_eq, indexByte_no w h])
theorem splitB_small (sep : ByteArray) : ∀ (k : Nat) (s : ByteArray), ∀ p ∈ Lib.splitB sep 0 k s, p.size ≤ s.size := by
  intro k
  induction k with
  | zero => intro s p hp; rw [Lib.splitB_zero, List.mem_singleton] at hp; rw [hp]; exact Nat.le_refl _
  | succ k ih =>
    intro s p hp
    rcases Lib.indexB_cases s sep with hix | ⟨i, hix, -⟩
    · rw [Lib.splitB_miss _ _ _ _ hix, List.mem_singleton] at hp; rw [hp]; exact Nat.le_refl _
    · rw [Lib.splitB_hit _ _ _ _ i hix] at hp
      rcases List.mem_cons.1 hp with hp | hp
      · rw [hp, ByteArray.size_extract]; omega
      · have := ih _ p hp
        rw [ByteArray.size_extract] at this; omega
/-- The digits of a number in 0..99. -/
def digs (n : Int) : List UInt8 := if n < 10 then [UInt8.ofNat (48 + n.toNat)] else [UInt8.ofNat (48 + n.toNat / 10), UInt8.ofNat (48 + n.toNat % 10)]
theorem numP_digs (n : Int) (h0 : 0 ≤ n) (h1 : n ≤ 99) : numP n = strP (digs n) := by
  unfold numP digs strP
  by_cases h : n < 10
  · rw [if_pos h, dec_small n.toNat (by omega)]
  · rw [if_neg h, dec_big n.toNat (by omega), dec_small (n.toNat / 10) (by omega)]; rfl
theorem of_nat_toNat (u : Nat) (h : u < 256) : (UInt8.ofNat u).toNat = u := by
  rw [UInt8.toNat_ofNat']; omega
theorem digs_no (n : Int) (h0 : 0 ≤ n) (h1 : n ≤ 99) : ∀ c ∈ digs n, 48 ≤ c.toNat ∧ c.toNat ≤ 57 := by
  intro c hc
  unfold digs at hc
  split at hc
  · rw [List.mem_singleton] at hc
    rw [hc, of_nat_toNat _ (by omega)]; omega
  · rcases List.mem_cons.1 hc with hc | hc
    · rw [hc, of_nat_toNat _ (by omega)]; omega
    · rw [List.mem_singleton] at hc
      rw [hc, of_nat_toNat _ (by omega)]; omega
theorem no_space {c : UInt8} (h : 48 ≤ c.toNat ∧ c.toNat ≤ 57) : c ≠ 32 := by
  intro e
  rw [e] at h
  exact absurd h.1 (by decide)
theorem atoi_digs (n : Int) (h0 : 0 ≤ n) (h1 : n ≤ 99) : impl_ReadDeed.atoi (numP n) = n := by
  rw [numP_digs n h0 h1]
  unfold impl_ReadDeed.atoi
  rw [strP_list]
  have key : Lib.atoiAll (digs n) = .ok n := by
    unfold digs
    by_cases h : n < 10
    · rw [if_pos h]
      have hc := of_nat_toNat (48 + n.toNat) (by omega)
      simp only [Lib.atoiAll, hc]
      rw [if_neg (by omega)]
      simp only [Lib.parseMag]
      rw [if_neg (by simp)]
      simp only [Lib.parseUint10, hc]
      rw [if_pos (by omega), if_neg (by omega), if_neg (by omega)]
      simp only [Nat.zero_mul, Nat.zero_add]
      rw [if_neg (by omega), if_neg (by omega)]
      have : ¬ (48 + n.toNat = 45) := by omega
      simp only [this, if_false]
      congr 1
      omega
    · rw [if_neg h]
      have hc := of_nat_toNat (48 + n.toNat / 10) (by omega)
      have hd := of_nat_toNat (48 + n.toNat % 10) (by omega)
      simp only [Lib.atoiAll, hc]
      rw [if_neg (by omega)]
      simp only [Lib.parseMag]
      rw [if_neg (by simp)]
      simp only [Lib.parseUint10, hc, hd]
      rw [if_pos (by omega), if_neg (by omega), if_neg (by omega), if_pos (by omega), if_neg (by omega), if_neg (by omega)]
      simp only [Nat.zero_mul, Nat.zero_add]
      rw [if_neg (by omega), if_neg (by omega)]
      have : ¬ (48 + n.toNat / 10 = 45) := by omega
      simp only [this, if_false]
      congr 1
      omega
  rw [key]
/-- What is read. -/
def readP (s : ByteArray) : Int × Int × Int × Bool :=
  if impl_ReadDeed.kind s < 0 ∨ 3 < (impl_ReadDeed.parts s).length then (0, 0, 0, false)
  else if deedP (impl_ReadDeed.kind s) (impl_ReadDeed.numA s) (impl_ReadDeed.numB s) = s then (impl_ReadDeed.kind s, impl_ReadDeed.numA s, impl_ReadDeed.numB s, true) else (0, 0, 0, false)
theorem idx_lt (x : ByteArray) : ∀ (zs : List ByteArray) (i : Nat), Lib.idxFromS zs x i = -1 ∨ Lib.idxFromS zs x i < ((i + zs.length : Nat) : Int) := by
  intro zs
  induction zs with
  | nil => intro i; left; rfl
  | cons z zs ih =>
    intro i
    simp only [Lib.idxFromS]
    split
    · right; simp only [List.length_cons]; omega
    · rcases ih (i + 1) with h | h
      · exact .inl h
      · right; simp only [List.length_cons]; omega
theorem kind_lt (s : ByteArray) : impl_ReadDeed.kind s < 5 := by
  rcases idx_lt (impl_ReadDeed.part s 0) impl_ReadDeed.kinds 0 with h | h
  · show Lib.idxFromS _ _ _ < 5
    rw [h]; omega
  · exact h
theorem impl_ReadDeed_is (s : ByteArray) (hs : s.size ≤ 4294967280) (k : Nat) (hk : 5 ≤ k) : impl_ReadDeed.f k s = some (readP s) := by
  unfold impl_ReadDeed.f readP
  have hall : (impl_ReadDeed.parts s).all (fun p => decide (p.size ≤ 4294967281)) = true := by
    rw [List.all_eq_true]
    intro p hp
    have := splitB_small _ _ s p hp
    exact decide_eq_true (by omega)
  rw [if_pos (by omega), if_pos hall]
  by_cases h1 : impl_ReadDeed.kind s < 0
  · rw [if_pos h1, if_pos (.inl h1)]
  · rw [if_neg h1]
    by_cases h2 : 3 < (impl_ReadDeed.parts s).length
    · rw [if_pos h2, if_pos (.inr h2)]
    · rw [if_neg h2, if_pos (kind_lt s), if_neg (show ¬ (impl_ReadDeed.kind s < 0 ∨ 3 < (impl_ReadDeed.parts s).length) from fun h => Or.elim h h1 h2), impl_DeedText_is _ _ _ k hk, Option.bind_some]
      by_cases h3 : deedP (impl_ReadDeed.kind s) (impl_ReadDeed.numA s) (impl_ReadDeed.numB s) = s
      · rw [if_pos ((toList_iff _ _).2 h3), if_pos h3]
      · rw [if_neg (fun h => h3 ((toList_iff _ _).1 h)), if_neg h3]
/-- A deed that has a text is one of five. -/
theorem deedP_cases {kind a b : Int} {s : ByteArray} (h : deedP kind a b = s) (hs : s ≠ ⟨#[]⟩) :
    (kind = 0 ∧ (0 ≤ a ∧ a ≤ 99) ∧ (0 ≤ b ∧ b ≤ 99) ∧ s = strP ([99, 111, 109, 101] ++ 32 :: (digs a ++ 32 :: digs b))) ∨ (kind = 2 ∧ (0 ≤ a ∧ a ≤ 99) ∧ b = 0 ∧ s = strP ([110, 101, 101, 100] ++ 32 :: digs a)) ∨
      (kind = 3 ∧ (0 ≤ a ∧ a ≤ 99) ∧ b = 0 ∧ s = strP ([108, 97, 116, 101, 114] ++ 32 :: digs a)) ∨ (kind = 1 ∧ a = 0 ∧ b = 0 ∧ s = strP [103, 111]) ∨ (kind = 4 ∧ a = 0 ∧ b = 0 ∧ s = strP [98, 97, 99, 107]) := by
  unfold deedP at h
  by_cases hab : (0 ≤ a ∧ a ≤ 99) ∧ (0 ≤ b ∧ b ≤ 99)
  · rw [if_pos hab] at h
    obtain ⟨ha, hb⟩ := hab
    by_cases k0 : kind = 0
    · rw [if_pos k0, numP_digs a ha.1 ha.2, numP_digs b hb.1 hb.2] at h
      refine .inl ⟨k0, ha, hb, ?_⟩
      rw [← h]
      apply str_ext
      simp [strP, ByteArray.data_append]
    · rw [if_neg k0] at h
      by_cases hz : b = 0
      · rw [if_pos hz] at h
        by_cases k2 : kind = 2
        · rw [if_pos k2, numP_digs a ha.1 ha.2] at h
          refine .inr (.inl ⟨k2, ha, hz, ?_⟩)
          rw [← h]
          apply str_ext
          simp [strP, ByteArray.data_append]
        · rw [if_neg k2] at h
          by_cases k3 : kind = 3
          · rw [if_pos k3, numP_digs a ha.1 ha.2] at h
            refine .inr (.inr (.inl ⟨k3, ha, hz, ?_⟩))
            rw [← h]
            apply str_ext
            simp [strP, ByteArray.data_append]
          · rw [if_neg k3] at h
            by_cases az : a = 0
            · rw [if_pos az] at h
              by_cases k1 : kind = 1
              · rw [if_pos k1] at h
                exact .inr (.inr (.inr (.inl ⟨k1, az, hz, h.symm⟩)))
              · rw [if_neg k1] at h
                by_cases k4 : kind = 4
                · rw [if_pos k4] at h
                  exact .inr (.inr (.inr (.inr ⟨k4, az, hz, h.symm⟩)))
                · rw [if_neg k4] at h; exact absurd h.symm hs
            · rw [if_neg az] at h; exact absurd h.symm hs
      · rw [if_neg hz] at h; exact absurd h.symm hs
  · rw [if_neg hab] at h; exact absurd h.symm hs
theorem digs_sp (n : Int) (h0 : 0 ≤ n) (h1 : n ≤ 99) : ∀ c ∈ digs n, c ≠ 32 := fun c hc => no_space (digs_no n h0 h1 c hc)
theorem read_of_parts {s : ByteArray} {kind a b : Int} {ps : List ByteArray} (hp : impl_ReadDeed.parts s = ps) (hl : ps.length ≤ 3) (hk : Lib.idxOfS impl_ReadDeed.kinds (ps.getD 0 ByteArray.empty) = kind) (hk0 : 0 ≤ kind) (ha : (if 1 < ps.length then impl_ReadDeed.atoi (ps.getD 1 ByteArray.empty) else 0) = a) (hb : (if 2 < ps.length then impl_ReadDeed.atoi (ps.getD 2 ByteArray.empty) else 0) = b) (h : deedP kind a b = s) : readP s = (kind, a, b, true) := by
  have e1 : impl_ReadDeed.kind s = kind := by unfold impl_ReadDeed.kind impl_ReadDeed.part; rw [hp]; exact hk
  have e2 : impl_ReadDeed.numA s = a := by unfold impl_ReadDeed.numA impl_ReadDeed.part; rw [hp]; exact ha
  have e3 : impl_ReadDeed.numB s = b := by unfold impl_ReadDeed.numB impl_ReadDeed.part; rw [hp]; exact hb
  unfold readP
  rw [e1, e2, e3, hp, if_neg (by omega), if_pos h]
theorem read_text {kind a b : Int} {s : ByteArray} (h : deedP kind a b = s) (hs : s ≠ ⟨#[]⟩) : readP s = (kind, a, b, true) := by
  rcases deedP_cases h hs with ⟨rfl, ha, hb, e⟩ | ⟨rfl, ha, rfl, e⟩ | ⟨rfl, ha, rfl, e⟩ | ⟨rfl, rfl, rfl, e⟩ | ⟨rfl, rfl, rfl, e⟩
  · have hp : impl_ReadDeed.parts s = [strP [99, 111, 109, 101], strP (digs a), strP (digs b)] := by
      rw [e, parts_hit _ _ (by decide), parts_hit _ _ (digs_sp a ha.1 ha.2), parts_last _ (digs_sp b hb.1 hb.2)]
    refine read_of_parts hp (by simp) (show Lib.idxOfS impl_ReadDeed.kinds (strP [99, 111, 109, 101]) = 0 by decide) (by decide) ?_ ?_ h
    · rw [if_pos (by simp)]
      show impl_ReadDeed.atoi (strP (digs a)) = a
      rw [← numP_digs a ha.1 ha.2, atoi_digs a ha.1 ha.2]
    · rw [if_pos (by simp)]
      show impl_ReadDeed.atoi (strP (digs b)) = b
      rw [← numP_digs b hb.1 hb.2, atoi_digs b hb.1 hb.2]
  · have hp : impl_ReadDeed.parts s = [strP [110, 101, 101, 100], strP (digs a)] := by
      rw [e, parts_hit _ _ (by decide), parts_last _ (digs_sp a ha.1 ha.2)]
    refine read_of_parts hp (by simp) (show Lib.idxOfS impl_ReadDeed.kinds (strP [110, 101, 101, 100]) = 2 by decide) (by decide) ?_ (by simp) h
    rw [if_pos (by simp)]
    show impl_ReadDeed.atoi (strP (digs a)) = a
    rw [← numP_digs a ha.1 ha.2, atoi_digs a ha.1 ha.2]
  · have hp : impl_ReadDeed.parts s = [strP [108, 97, 116, 101, 114], strP (digs a)] := by
      rw [e, parts_hit _ _ (by decide), parts_last _ (digs_sp a ha.1 ha.2)]
    refine read_of_parts hp (by simp) (show Lib.idxOfS impl_ReadDeed.kinds (strP [108, 97, 116, 101, 114]) = 3 by decide) (by decide) ?_ (by simp) h
    rw [if_pos (by simp)]
    show impl_ReadDeed.atoi (strP (digs a)) = a
    rw [← numP_digs a ha.1 ha.2, atoi_digs a ha.1 ha.2]
  · exact read_of_parts (ps := [strP [103, 111]]) (by rw [e]; exact parts_last _ (by decide)) (by simp) (by decide) (by decide) (by simp) (by simp) h
  · exact read_of_parts (ps := [strP [98, 97, 99, 107]]) (by rw [e]; exact parts_last _ (by decide)) (by simp) (by decide) (by decide) (by simp) (by simp) h
theorem read_empty : readP ⟨#[]⟩ = (0, 0, 0, false) := by
  have hp : impl_ReadDeed.parts ⟨#[]⟩ = [⟨#[]⟩] := parts_last [] (by simp)
  have hk : impl_ReadDeed.kind ⟨#[]⟩ = -1 := by
    unfold impl_ReadDeed.kind impl_ReadDeed.part
    rw [hp]; decide
  unfold readP
  rw [if_pos (.inl (by rw [hk]; decide))]
theorem read_cases (s : ByteArray) : (∃ kind a b, deedP kind a b = s ∧ s ≠ ⟨#[]⟩ ∧ readP s = (kind, a, b, true)) ∨ ((∀ kind a b, deedP kind a b = s → s = ⟨#[]⟩) ∧ readP s = (0, 0, 0, false)) := by
  by_cases h0 : s = ⟨#[]⟩
  · right
    rw [h0]
    exact ⟨fun _ _ _ _ => rfl, read_empty⟩
  · by_cases h : ∃ kind a b, deedP kind a b = s
    · obtain ⟨kind, a, b, h⟩ := h
      exact .inl ⟨kind, a, b, h, h0, read_text h h0⟩
    · refine .inr ⟨fun kind a b e => absurd ⟨kind, a, b, e⟩ h, ?_⟩
      unfold readP
      split
      · rfl
      · rw [if_neg (fun e => h ⟨_, _, _, e⟩)]

/-! drawdeed -/
theorem l20Deed_end {s : List Int} (hs : ∀ x ∈ s, 0 ≤ x ∧ x ≤ 255) (hl : s.length ≤ 2000) (k : Nat) (hk : 3 ≤ k) (p : Int) (hp : 0 ≤ p) (hp2 : p ≤ 900000) (kd a b : Int) :
    ∃ a' q, spec_l20Deed.j1 k s p kd a b = some (kd, a', b, q) ∧ p ≤ q ∧ q ≤ p + 2 := by
  obtain ⟨k, rfl⟩ : ∃ m, k = m + 1 := ⟨k - 1, by omega⟩
  simp only [spec_l20Deed.j1]
  obtain ⟨o, q, e, h1, h2, -⟩ := odd_ok (k := k) (by omega) hs hl p hp (by omega) 40 (by omega)
  rw [e, Option.bind_some]; dsimp only
  by_cases ho : o = true
  · rw [if_pos ho, Option.bind_some]
    obtain ⟨v, e2, h3, h4, -⟩ := pick_ok (k := k) (by omega) hs hl q (by omega) (by omega) 3
    rw [e2, Option.bind_some]; dsimp only
    have := h4 (by omega)
    rw [if_pos h3, if_pos (by simp only [List.length_cons, List.length_nil]; omega)]
    exact ⟨_, _, rfl, by omega, by omega⟩
  · rw [if_neg ho]
    exact ⟨_, _, rfl, by omega, by omega⟩
theorem l20Deed_come {s : List Int} (hs : ∀ x ∈ s, 0 ≤ x ∧ x ≤ 255) (hl : s.length ≤ 2000) (k : Nat) (hk : 4 ≤ k) (p : Int) (hp : 0 ≤ p) (hp2 : p ≤ 800000) (x kd a b : Int) :
    ∃ a' b' q, spec_l20Deed.j0 k x s p kd a b = some (kd, a', b', q) ∧ p ≤ q ∧ q ≤ p + 6 := by
  obtain ⟨k, rfl⟩ : ∃ m, k = m + 1 := ⟨k - 1, by omega⟩
  simp only [spec_l20Deed.j0]
  obtain ⟨v1, e1, -⟩ := pick_ok (k := k) (by omega) hs hl p hp (by omega) 6
  rw [e1, Option.bind_some]; dsimp only
  obtain ⟨v2, e2, -⟩ := pick_ok (k := k) (by omega) hs hl (p + 1) (by omega) (by omega) 10
  rw [e2, Option.bind_some]; dsimp only
  obtain ⟨v3, e3, -⟩ := pick_ok (k := k) (by omega) hs hl (p + 1 + 1) (by omega) (by omega) 9
  rw [e3, Option.bind_some]; dsimp only
  obtain ⟨v4, e4, -⟩ := pick_ok (k := k) (by omega) hs hl (p + 1 + 1 + 1) (by omega) (by omega) 20
  rw [e4, Option.bind_some]; dsimp only
  obtain ⟨a', q, e, h1, h2⟩ := l20Deed_end hs hl k (by omega) (p + 1 + 1 + 1 + 1) (by omega) (by omega) kd (mx (wrap64 ((wrap64 (x + v1)) - (wrap64 (Int.tdiv v2 9)))) 0) (wrap64 ((wrap64 (1 + v3)) - (wrap64 (Int.tdiv v4 19))))
  exact ⟨_, _, _, e, by omega, by omega⟩
theorem l20Deed_ok {s : List Int} (hs : ∀ x ∈ s, 0 ≤ x ∧ x ≤ 255) (hl : s.length ≤ 2000) (k : Nat) (hk : 4 ≤ k) (p : Int) (hp : 0 ≤ p) (hp2 : p ≤ 700000) (l : List S67) (hll : l.length ≤ 1000) :
    ∃ kd a b q, spec_l20Deed.f k s p l = some (kd, a, b, q) ∧ p ≤ q ∧ q ≤ p + 10 := by
  unfold spec_l20Deed.f
  obtain ⟨v1, e1, h1, h2, -⟩ := pick_ok (k := k) (by omega) hs hl p hp (by omega) 7
  rw [Option.bind_some, e1, Option.bind_some]; dsimp only
  have := h2 (by omega)
  rw [if_pos h1, if_pos (by simp only [List.length_cons, List.length_nil]; omega)]
  obtain ⟨v2, e2, -⟩ := pick_ok (k := k) (by omega) hs hl (p + 1) (by omega) (by omega) 60
  rw [e2, Option.bind_some]; dsimp only
  generalize wrap64 ((rd [0, 0, 0, 1, 2, 3, 4] v1) + (wrap64 ((wrap64 (Int.tdiv v2 59)) * 5))) = kd
  have hw : 0 < (l.length : Int) → wrap64 ((l.length : Int) - 1) = (l.length : Int) - 1 := fun _ => w64 (by omega) (by omega)
  by_cases c0 : kd = 0
  · rw [if_pos c0]
    have hj : ∀ x : Int, ∃ kd' a b q, spec_l20Deed.j0 k x s (p + 1 + 1) kd 0 0 = some (kd', a, b, q) ∧ p ≤ q ∧ q ≤ p + 10 := by
      intro x
      obtain ⟨a', b', q, e, g1, g2⟩ := l20Deed_come hs hl k hk (p + 1 + 1) (by omega) (by omega) x kd 0 0
      exact ⟨_, _, _, _, e, by omega, by omega⟩
    by_cases c1 : (l.length : Int) > 0
    · rw [if_pos c1, hw c1, if_pos (by omega), if_pos (by omega)]; exact hj _
    · rw [if_neg c1]; exact hj _
  · rw [if_neg c0]
    by_cases c2 : kd = 2
    · rw [if_pos c2]
      obtain ⟨v3, e3, -⟩ := pick_ok (k := k) (by omega) hs hl (p + 1 + 1) (by omega) (by omega) (mx (l.length : Int) 1)
      rw [e3, Option.bind_some]; dsimp only
      obtain ⟨a', q, e, g1, g2⟩ := l20Deed_end hs hl k (by omega) (p + 1 + 1 + 1) (by omega) (by omega) kd v3 0
      exact ⟨_, _, _, _, e, by omega, by omega⟩
    · rw [if_neg c2]
      by_cases c3 : kd = 3
      · rw [if_pos c3]
        obtain ⟨v3, e3, -⟩ := pick_ok (k := k) (by omega) hs hl (p + 1 + 1) (by omega) (by omega) 6
        rw [e3, Option.bind_some]; dsimp only
        obtain ⟨a', q, e, g1, g2⟩ := l20Deed_end hs hl k (by omega) (p + 1 + 1 + 1) (by omega) (by omega) kd v3 0
        exact ⟨_, _, _, _, e, by omega, by omega⟩
      · rw [if_neg c3]
        obtain ⟨a', q, e, g1, g2⟩ := l20Deed_end hs hl k (by omega) (p + 1 + 1) (by omega) (by omega) kd 0 0
        exact ⟨_, _, _, _, e, by omega, by omega⟩
theorem deedP_size100 (kind a b : Int) : (deedP kind a b).size ≤ 100 := by
  by_cases h : deedP kind a b = ⟨#[]⟩
  · rw [h]; show 0 ≤ 100; omega
  · have hd : ∀ n : Int, (digs n).length ≤ 2 := by intro n; unfold digs; split <;> simp
    have ha := hd a
    have hb := hd b
    rcases deedP_cases rfl h with ⟨-, -, -, e⟩ | ⟨-, -, -, e⟩ | ⟨-, -, -, e⟩ | ⟨-, -, -, e⟩ | ⟨-, -, -, e⟩ <;> rw [e] <;> simp [strP_size] <;> omega

/-! journal -/
/-! The text of a journal. -/
theorem deedP_size (kind a b : Int) : (deedP kind a b).size ≤ 12 := by
  unfold deedP
  have e0 : ∀ l : ByteArray, l = ⟨#[]⟩ → l.size ≤ 12 := fun l h => by rw [h]; decide
  by_cases h : (0 ≤ a ∧ a ≤ 99) ∧ (0 ≤ b ∧ b ≤ 99)
  · rw [if_pos h]
    have sa := numP_size a h.1.1 h.1.2
    have sb := numP_size b h.2.1 h.2.2
    by_cases k0 : kind = 0
    · rw [if_pos k0, ByteArray.size_append, ByteArray.size_append, ByteArray.size_append]
      show 5 + _ + 1 + _ ≤ 12
      omega
    · rw [if_neg k0]
      by_cases hb : b = 0
      · rw [if_pos hb]
        by_cases k2 : kind = 2
        · rw [if_pos k2, ByteArray.size_append]
          show 5 + _ ≤ 12
          omega
        · rw [if_neg k2]
          by_cases k3 : kind = 3
          · rw [if_pos k3, ByteArray.size_append]
            show 6 + _ ≤ 12
            omega
          · rw [if_neg k3]
            split
            · split
              · decide
              · split <;> decide
            · decide
      · rw [if_neg hb]; decide
  · rw [if_neg h]; decide
def journalP : ByteArray → List S25 → ByteArray
  | acc, [] => acc
  | acc, d :: ds => if (deedP d.f0 d.f1 d.f2).toList = ([] : List UInt8) then ⟨#[]⟩ else journalP ((acc ++ deedP d.f0 d.f1 d.f2) ++ (⟨#[10]⟩ : ByteArray)) ds
theorem rd_Deed_nat (l : List S25) (i : Nat) : rd_T25 l (i : Int) = l.getD i z25 := by
  unfold rd_T25
  rw [Int.toNat_natCast]
theorem acc_size (acc t : ByteArray) : ((acc ++ t) ++ (⟨#[10]⟩ : ByteArray)).size = acc.size + t.size + 1 := by
  rw [ByteArray.size_append, ByteArray.size_append]; rfl
theorem impl_Journal_loop (l : List S25) (hl : l.length ≤ 1048576) : ∀ (suf : List S25) (i k : Nat) (acc : ByteArray), l.drop i = suf → suf.length + 20 < k → i ≤ l.length → acc.size ≤ 13 * i → impl_JournalText.l0 k acc l (l.length : Int) (i : Int) = some (journalP acc suf) := by
  intro suf
  induction suf with
  | nil =>
    intro i k acc hd hk hi ha
    obtain ⟨k, rfl⟩ : ∃ m, k = m + 1 := ⟨k - 1, by omega⟩
    have := drop_nil hd
    simp only [impl_JournalText.l0]
    rw [if_neg (by omega)]; rfl
  | cons x xs ih =>
    intro i k acc hd hk hi ha
    obtain ⟨k, rfl⟩ : ∃ m, k = m + 1 := ⟨k - 1, by omega⟩
    obtain ⟨hlt, hd2, hx⟩ := drop_split hd
    have hs := deedP_size x.f0 x.f1 x.f2
    have e1 : (deedP x.f0 x.f1 x.f2 ++ (⟨#[10]⟩ : ByteArray)).size = (deedP x.f0 x.f1 x.f2).size + 1 := by rw [ByteArray.size_append]; rfl
    simp only [List.length_cons] at hk
    simp only [impl_JournalText.l0, journalP]
    rw [if_pos (by omega), if_pos (by omega), if_pos (by omega), rd_Deed_nat, hx, impl_DeedText_is _ _ _ k (by omega), Option.bind_some]
    by_cases hn : (deedP x.f0 x.f1 x.f2).toList = ([] : List UInt8)
    · rw [if_pos hn, if_pos hn]
    · rw [if_neg hn, if_neg hn, if_pos (by omega), if_pos (by omega), w64s i (by omega), ← ByteArray.append_assoc]
      exact ih (i + 1) k _ hd2 (by omega) (by omega) (by rw [acc_size]; omega)
theorem impl_JournalText_is (l : List S25) (hl : l.length ≤ 1048576) (k : Nat) (hk : l.length + 20 < k) : impl_JournalText.f k l = some (journalP ⟨#[]⟩ l) := by
  unfold impl_JournalText.f
  exact impl_Journal_loop l hl l 0 k _ rfl hk (by omega) (by decide)
theorem spec_Journal_loop (l : List S25) (hl : l.length ≤ 1048576) : ∀ (suf : List S25) (i k : Nat) (acc : ByteArray), l.drop i = suf → suf.length + 20 < k → i ≤ l.length → acc.size ≤ 13 * i → spec_JournalText.l0 k l acc (i : Int) = some (journalP acc suf) := by
  intro suf
  induction suf with
  | nil =>
    intro i k acc hd hk hi ha
    obtain ⟨k, rfl⟩ : ∃ m, k = m + 1 := ⟨k - 1, by omega⟩
    have := drop_nil hd
    simp only [spec_JournalText.l0]
    rw [if_neg (by omega)]; rfl
  | cons x xs ih =>
    intro i k acc hd hk hi ha
    obtain ⟨k, rfl⟩ : ∃ m, k = m + 1 := ⟨k - 1, by omega⟩
    obtain ⟨hlt, hd2, hx⟩ := drop_split hd
    have hs := deedP_size x.f0 x.f1 x.f2
    have e1 : (acc ++ deedP x.f0 x.f1 x.f2).size = acc.size + (deedP x.f0 x.f1 x.f2).size := ByteArray.size_append
    simp only [List.length_cons] at hk
    simp only [spec_JournalText.l0, journalP]
    rw [if_pos (by omega), if_pos (by omega), rd_Deed_nat, hx, spec_DeedText_is _ _ _ k (by omega), Option.bind_some]
    by_cases hn : (deedP x.f0 x.f1 x.f2).toList = ([] : List UInt8)
    · rw [if_pos hn, if_pos hn]
    · rw [if_neg hn, if_neg hn, Option.bind_some, if_pos (by omega), if_pos (by omega), w64s i (by omega)]
      exact ih (i + 1) k _ hd2 (by omega) (by omega) (by rw [acc_size]; omega)
theorem spec_JournalText_is (l : List S25) (hl : l.length ≤ 1048576) (k : Nat) (hk : l.length + 20 < k) : spec_JournalText.f k l = some (journalP ⟨#[]⟩ l) := by
  unfold spec_JournalText.f
  exact spec_Journal_loop l hl l 0 k _ rfl hk (by omega) (by decide)

/-! drawwritten -/
theorem l20Deeds_loop {s : List Int} (hs : ∀ x ∈ s, 0 ≤ x ∧ x ≤ 255) (hl : s.length ≤ 2000) (l : List S67) (hll : l.length ≤ 1000) : ∀ (d k : Nat) (out : List S25) (p : Int), d + 10 ≤ k → 0 ≤ p → p + 10 * d ≤ 600000 → out.length + d ≤ 1000 →
    ∃ r q, spec_l20Deeds.l0 k l out (d : Int) s p = some (r, q) ∧ r.length ≤ 1000 ∧ p ≤ q ∧ q ≤ p + 10 * d := by
  intro d
  induction d with
  | zero =>
    intro k out p hk hp hp2 ho
    obtain ⟨k, rfl⟩ : ∃ m, k = m + 1 := ⟨k - 1, by omega⟩
    simp only [spec_l20Deeds.l0]
    rw [if_neg (by omega)]
    exact ⟨_, _, rfl, by omega, by omega, by omega⟩
  | succ d ih =>
    intro k out p hk hp hp2 ho
    obtain ⟨k, rfl⟩ : ∃ m, k = m + 1 := ⟨k - 1, by omega⟩
    simp only [spec_l20Deeds.l0]
    obtain ⟨kd, a, b, q, e, h1, h2⟩ := l20Deed_ok hs hl k (by omega) p hp (by omega) l hll
    rw [if_pos (by omega), e, Option.bind_some]; dsimp only
    rw [if_pos (by omega), show wrap64 (((d + 1 : Nat) : Int) - 1) = (d : Int) from by rw [w64 (by omega) (by omega)]; omega]
    obtain ⟨r, q2, e2, g1, g2, g3⟩ := ih k (out ++ [⟨kd, a, b⟩]) q (by omega) (by omega) (by omega) (by rw [List.length_append]; simp; omega)
    exact ⟨r, q2, e2, g1, by omega, by omega⟩
theorem l20Deeds_ok {s : List Int} (hs : ∀ x ∈ s, 0 ≤ x ∧ x ≤ 255) (hl : s.length ≤ 2000) (l : List S67) (hll : l.length ≤ 1000) (k : Nat) (hk : 20 ≤ k) (p : Int) (hp : 0 ≤ p) (hp2 : p ≤ 500000) :
    ∃ r q, spec_l20Deeds.f k s p l = some (r, q) ∧ r.length ≤ 1000 ∧ p ≤ q ∧ q ≤ p + 100 := by
  unfold spec_l20Deeds.f
  obtain ⟨v, e, h1, h2, -⟩ := pick_ok (k := k) (by omega) hs hl p hp (by omega) 6
  have h2' := h2 (by omega)
  obtain ⟨n, rfl⟩ := Int.eq_ofNat_of_zero_le h1
  rw [e, Option.bind_some]; dsimp only
  obtain ⟨r, q, e2, g1, g2, g3⟩ := l20Deeds_loop hs hl l hll n k [] (p + 1) (by omega) (by omega) (by omega) (by simp; omega)
  exact ⟨r, q, e2, g1, by omega, by omega⟩
theorem l20Written_loop (L : List S25) (hL : L.length ≤ 1000) (s : List Int) (q : Int) : ∀ (suf : List S25) (i k : Nat) (out : List S25), L.drop i = suf → suf.length + 20 < k → i ≤ L.length → out.length ≤ i →
    ∃ r, spec_l20Written.l0 k out L i s q = some (r, q) ∧ r.length ≤ 1000 := by
  intro suf
  induction suf with
  | nil =>
    intro i k out hd hk hi ho
    obtain ⟨k, rfl⟩ : ∃ m, k = m + 1 := ⟨k - 1, by omega⟩
    have := drop_nil hd
    simp only [spec_l20Written.l0]
    rw [if_neg (by omega)]
    exact ⟨_, rfl, by omega⟩
  | cons x xs ih =>
    intro i k out hd hk hi ho
    obtain ⟨k, rfl⟩ : ∃ m, k = m + 1 := ⟨k - 1, by omega⟩
    obtain ⟨hlt, hd2, hx⟩ := drop_split hd
    simp only [List.length_cons] at hk
    simp only [spec_l20Written.l0]
    rw [if_pos (by omega), if_pos (by omega), rd_Deed_nat, hx, spec_DeedText_is _ _ _ k (by omega), Option.bind_some, w64s i (by omega)]
    split
    · exact ih (i + 1) k out hd2 (by omega) (by omega) (by omega)
    · rw [if_pos (by omega)]
      exact ih (i + 1) k _ hd2 (by omega) (by omega) (by rw [List.length_append]; simp; omega)
theorem l20Written_ok {s : List Int} (hs : ∀ x ∈ s, 0 ≤ x ∧ x ≤ 255) (hl : s.length ≤ 2000) (k : Nat) (hk : 2000 ≤ k) : ∃ r q, spec_l20Written.f k s 0 = some (r, q) ∧ r.length ≤ 1000 ∧ 0 ≤ q ∧ q ≤ 1000 := by
  unfold spec_l20Written.f
  obtain ⟨c, q, e, h1, h2, h3⟩ := l20Customers_ok hs hl 0 (by omega) k (by omega) 0 (by omega) (by omega)
  rw [e, Option.bind_some]; dsimp only
  obtain ⟨L, q2, e2, g1, g2, g3⟩ := l20Deeds_ok hs hl c (by omega) k (by omega) q (by omega) (by omega)
  rw [e2, Option.bind_some]; dsimp only
  obtain ⟨r, e3, g4⟩ := l20Written_loop L g1 s q2 L 0 k [] rfl (by omega) (by omega) (by simp)
  exact ⟨r, q2, e3, g4, by omega, by omega⟩

/-! readjournal -/
/-- A journal is read line by line: deeds so far, where the line began, the line so far, the bytes to come. -/
def jrP (out : List S25) (frm : Nat) (acc : List UInt8) : List UInt8 → List S25 × Nat
  | [] => (out, frm)
  | c :: cs => if c = 10 then (if (readP (strP acc)).2.2.2 = true then jrP (out ++ [⟨(readP (strP acc)).1, (readP (strP acc)).2.1, (readP (strP acc)).2.2.1⟩]) (frm + acc.length + 1) [] cs else (out, frm)) else jrP out frm (acc ++ [c]) cs
theorem jrP_hit : ∀ (w acc rest : List UInt8) (out : List S25) (frm : Nat), (∀ c ∈ w, c ≠ 10) →
    jrP out frm acc (w ++ 10 :: rest) = (if (readP (strP (acc ++ w))).2.2.2 = true then jrP (out ++ [⟨(readP (strP (acc ++ w))).1, (readP (strP (acc ++ w))).2.1, (readP (strP (acc ++ w))).2.2.1⟩]) (frm + (acc ++ w).length + 1) [] rest else (out, frm)) := by
  intro w
  induction w with
  | nil => intro acc rest out frm _; simp [jrP]
  | cons c cs ih =>
    intro acc rest out frm h
    simp only [List.cons_append, jrP]
    rw [if_neg (h c (by simp)), ih _ _ _ _ (fun x hx => h x (by simp [hx])), List.append_assoc, List.singleton_append]
theorem jrP_last : ∀ (w acc : List UInt8) (out : List S25) (frm : Nat), (∀ c ∈ w, c ≠ 10) → jrP out frm acc w = (out, frm) := by
  intro w
  induction w with
  | nil => intro acc out frm _; rfl
  | cons c cs ih =>
    intro acc out frm h
    simp only [jrP]
    rw [if_neg (h c (by simp)), ih _ _ _ (fun x hx => h x (by simp [hx]))]
theorem jrP_size : ∀ (l acc : List UInt8) (out : List S25) (frm : Nat), out.length ≤ frm → (jrP out frm acc l).1.length ≤ (jrP out frm acc l).2 ∧ (jrP out frm acc l).2 ≤ frm + acc.length + l.length := by
  intro l
  induction l with
  | nil => intro acc out frm h; exact ⟨h, by show frm ≤ _; omega⟩
  | cons c cs ih =>
    intro acc out frm h
    simp only [jrP]
    split
    · split
      · have := ih [] (out ++ [⟨(readP (strP acc)).1, (readP (strP acc)).2.1, (readP (strP acc)).2.2.1⟩]) (frm + acc.length + 1) (by rw [List.length_append]; simp; omega)
        simp only [List.length_cons, List.length_nil] at *; omega
      · simp only [List.length_cons]; omega
    · have := ih (acc ++ [c]) out frm h
      simp only [List.length_cons, List.length_append, List.length_nil] at *; omega
theorem split10 : ∀ l : List UInt8, (∃ w rest, l = w ++ 10 :: rest ∧ (∀ c ∈ w, c ≠ 10)) ∨ (∀ c ∈ l, c ≠ 10) := by
  intro l
  induction l with
  | nil => right; simp
  | cons c cs ih =>
    by_cases h : c = 10
    · left; exact ⟨[], cs, by rw [h]; rfl, by simp⟩
    · rcases ih with ⟨w, rest, e, hw⟩ | hw
      · left
        refine ⟨c :: w, rest, by rw [e]; rfl, ?_⟩
        intro x hx
        rcases List.mem_cons.1 hx with rfl | hx
        · exact h
        · exact hw x hx
      · right
        intro x hx
        rcases List.mem_cons.1 hx with rfl | hx
        · exact h
        · exact hw x hx
theorem index10_at (w rest : List UInt8) (h : ∀ c ∈ w, c ≠ 10) : Lib.indexByte (w ++ 10 :: rest) 10 = w.length := by
  induction w with
  | nil => simp [Lib.indexByte]
  | cons c cs ih =>
    have h1 := h c (by simp)
    have h2 := ih (fun x hx => h x (by simp [hx]))
    simp only [List.cons_append, Lib.indexByte]
    rw [if_neg (by simpa using h1), h2, if_neg (by simp)]
    simp
theorem index10_no (w : List UInt8) (h : ∀ c ∈ w, c ≠ 10) : Lib.indexByte w 10 = -1 := by
  induction w with
  | nil => rfl
  | cons c cs ih =>
    simp only [Lib.indexByte]
    rw [if_neg (by simp [h c (by simp)]), ih (fun x hx => h x (by simp [hx]))]
    rfl
theorem cut10_at (w rest : List UInt8) (h : ∀ c ∈ w, c ≠ 10) : Lib.cut (w ++ 10 :: rest) [10] = (w, rest, true) := by
  have e : Lib.index (w ++ 10 :: rest) [10] = w.length := (Lib.index_one _ 10).trans (index10_at w rest h)
  unfold Lib.cut
  rw [e, if_pos (by omega), Int.toNat_natCast]
  simp
theorem cut10_no (w : List UInt8) (h : ∀ c ∈ w, c ≠ 10) : Lib.cut w [10] = (w, [], false) := by
  have e : Lib.index w [10] = -1 := (Lib.index_one _ 10).trans (index10_no w h)
  unfold Lib.cut
  rw [e, if_neg (by omega)]
theorem impl_ReadJournal_loop (s : ByteArray) (hs : s.size ≤ 1048577) : ∀ (n frm k : Nat) (out : List S25), s.size - frm ≤ n → n + 10 < k → frm ≤ s.size → out.length ≤ frm →
    impl_ReadJournal.l0 k s out frm = some ((jrP out frm [] (s.data.toList.drop frm)).1, ((jrP out frm [] (s.data.toList.drop frm)).2 : Int)) := by
  have hsz : s.data.toList.length = s.size := by rw [Array.length_toList]; rfl
  intro n
  induction n with
  | zero =>
    intro frm k out hn hk hf ho
    obtain ⟨k, rfl⟩ : ∃ m, k = m + 1 := ⟨k - 1, by omega⟩
    have ez : (s.data.toList.drop frm) = [] := List.drop_eq_nil_iff.2 (by omega)
    have ex : s.extract frm s.size = strP [] := by rw [extract_str, ez, List.take_nil]
    simp only [impl_ReadJournal.l0]
    rw [if_pos (by omega), if_pos (by omega), Int.toNat_natCast, ex, ez]
    unfold strings_Cut.f
    rw [if_pos (by rw [strP_size]; simp), Option.bind_some, strP_list, show ((⟨#[10]⟩ : ByteArray)).data.toList = [10] from rfl, cut10_no [] (by simp)]
    dsimp only
    rw [impl_ReadDeed_is _ (by show 0 ≤ _; omega) k (by omega), Option.bind_some, if_neg (by simp)]
    rfl
  | succ n ih =>
    intro frm k out hn hk hf ho
    obtain ⟨k, rfl⟩ : ∃ m, k = m + 1 := ⟨k - 1, by omega⟩
    have hdl : (s.data.toList.drop frm).length = s.size - frm := by rw [List.length_drop]; omega
    have ex : s.extract frm s.size = strP (s.data.toList.drop frm) := by rw [extract_str, List.take_of_length_le (by omega)]
    simp only [impl_ReadJournal.l0]
    rw [if_pos (by omega), if_pos (by omega), Int.toNat_natCast, ex]
    unfold strings_Cut.f
    rw [if_pos (by rw [strP_size]; omega), Option.bind_some, strP_list, show ((⟨#[10]⟩ : ByteArray)).data.toList = [10] from rfl]
    dsimp only
    rcases split10 (s.data.toList.drop frm) with ⟨w, rest, e, hw⟩ | hw
    · have hwl : w.length + rest.length + 1 = s.size - frm := by rw [← hdl, e]; simp; omega
      rw [e, cut10_at w rest hw, jrP_hit w [] rest out frm hw, List.nil_append]
      dsimp only
      rw [show (⟨w.toArray⟩ : ByteArray) = strP w from rfl, impl_ReadDeed_is _ (by rw [strP_size]; omega) k (by omega), Option.bind_some, if_pos rfl]
      by_cases h2 : (readP (strP w)).2.2.2 = true
      · have er : s.data.toList.drop (frm + w.length + 1) = rest := by
          rw [show frm + w.length + 1 = frm + (w.length + 1) from by omega, ← List.drop_drop, e, show w ++ 10 :: rest = (w ++ [10]) ++ rest from by simp, List.drop_left' (by simp)]
        have p1 := ih (frm + w.length + 1) k (out ++ [⟨(readP (strP w)).1, (readP (strP w)).2.1, (readP (strP w)).2.2.1⟩]) (by omega) (by omega) (by omega) (by rw [List.length_append]; simp; omega)
        have hol : out.length < 5864062014805 := by omega
        have ew : wrap64 ((frm : Int) + wrap64 (((strP w).size : Int) + 1)) = ((frm + w.length + 1 : Nat) : Int) := by
          rw [strP_size, w64 (x := (w.length : Int) + 1) (by omega) (by omega), w64 (by omega) (by omega)]; omega
        rw [if_pos h2, if_pos h2, if_pos hol, ew, p1, er]
      · rw [if_neg h2, if_neg h2]
    · rw [cut10_no _ hw, jrP_last _ [] out frm hw]
      dsimp only
      rw [show (⟨(s.data.toList.drop frm).toArray⟩ : ByteArray) = strP (s.data.toList.drop frm) from rfl, impl_ReadDeed_is _ (by rw [strP_size]; omega) k (by omega), Option.bind_some, if_neg (by simp)]
theorem impl_ReadJournal_is (s : ByteArray) (hs : s.size ≤ 1048577) (k : Nat) (hk : s.size + 10 < k) : impl_ReadJournal.f k s = some ((jrP [] 0 [] s.data.toList).1, ((jrP [] 0 [] s.data.toList).2 : Int)) := by
  unfold impl_ReadJournal.f
  have := impl_ReadJournal_loop s hs s.size 0 k [] (by omega) (by omega) (by omega) (by simp)
  rw [show ((0 : Nat) : Int) = 0 from rfl] at this
  rw [this]; rfl

/-! jrtext -/
def textL : List S25 → List UInt8
  | [] => []
  | d :: ds => (deedP d.f0 d.f1 d.f2).data.toList ++ 10 :: textL ds
theorem toList_nil_iff (s : ByteArray) : s.toList = ([] : List UInt8) ↔ s = ⟨#[]⟩ := by
  rw [← toList_iff]; exact ⟨fun e => e.trans empty_toList.symm, fun e => e.trans empty_toList⟩
theorem journalP_text : ∀ (l : List S25) (acc : ByteArray), journalP acc l = ⟨#[]⟩ ∨ ((∀ d ∈ l, deedP d.f0 d.f1 d.f2 ≠ ⟨#[]⟩) ∧ (journalP acc l).data.toList = acc.data.toList ++ textL l) := by
  intro l
  induction l with
  | nil => intro acc; right; exact ⟨by simp, by simp [journalP, textL]⟩
  | cons d ds ih =>
    intro acc
    simp only [journalP]
    by_cases h : (deedP d.f0 d.f1 d.f2).toList = ([] : List UInt8)
    · rw [if_pos h]; left; rfl
    · rw [if_neg h]
      rcases ih ((acc ++ deedP d.f0 d.f1 d.f2) ++ (⟨#[10]⟩ : ByteArray)) with e | ⟨h1, e⟩
      · left; exact e
      · right
        refine ⟨?_, ?_⟩
        · intro x hx
          rcases List.mem_cons.1 hx with rfl | hx
          · exact fun e => h ((toList_nil_iff _).2 e)
          · exact h1 x hx
        · rw [e]; simp [textL]
theorem deed_no10 (kind a b : Int) (h : deedP kind a b ≠ ⟨#[]⟩) : ∀ c ∈ (deedP kind a b).data.toList, c ≠ 10 := by
  have hn : ∀ n : Int, 0 ≤ n → n ≤ 99 → ∀ c ∈ digs n, c ≠ 10 := by
    intro n h0 h1 c hc e
    have := digs_no n h0 h1 c hc
    rw [e] at this
    exact absurd this.1 (by decide)
  rcases deedP_cases rfl h with ⟨-, ha, hb, e⟩ | ⟨-, ha, -, e⟩ | ⟨-, ha, -, e⟩ | ⟨-, -, -, e⟩ | ⟨-, -, -, e⟩ <;> rw [e, strP_list] <;> intro c hc
  · have h1 := hn a ha.1 ha.2 c
    have h2 := hn b hb.1 hb.2 c
    simp only [List.mem_append, List.mem_cons, List.not_mem_nil, or_false] at hc
    rcases hc with (rfl | rfl | rfl | rfl) | rfl | hc | rfl | hc
    · decide
    · decide
    · decide
    · decide
    · decide
    · exact h1 hc
    · decide
    · exact h2 hc
  · have h1 := hn a ha.1 ha.2 c
    simp only [List.mem_append, List.mem_cons, List.not_mem_nil, or_false] at hc
    rcases hc with (rfl | rfl | rfl | rfl) | rfl | hc
    · decide
    · decide
    · decide
    · decide
    · decide
    · exact h1 hc
  · have h1 := hn a ha.1 ha.2 c
    simp only [List.mem_append, List.mem_cons, List.not_mem_nil, or_false] at hc
    rcases hc with (rfl | rfl | rfl | rfl | rfl) | rfl | hc
    · decide
    · decide
    · decide
    · decide
    · decide
    · decide
    · exact h1 hc
  · simp only [List.mem_cons, List.not_mem_nil, or_false] at hc
    rcases hc with rfl | rfl <;> decide
  · simp only [List.mem_cons, List.not_mem_nil, or_false] at hc
    rcases hc with rfl | rfl | rfl | rfl <;> decide
theorem jrP_text : ∀ (l out : List S25) (frm : Nat), (∀ d ∈ l, deedP d.f0 d.f1 d.f2 ≠ ⟨#[]⟩) → jrP out frm [] (textL l) = (out ++ l, frm + (textL l).length) := by
  intro l
  induction l with
  | nil => intro out frm _; simp [jrP, textL]
  | cons d ds ih =>
    intro out frm h
    have h0 := h d (by simp)
    simp only [textL]
    rw [jrP_hit _ _ _ _ _ (deed_no10 _ _ _ h0), List.nil_append, strP_eq, read_text rfl h0, if_pos rfl, ih _ _ (fun x hx => h x (by simp [hx]))]
    simp only [List.append_assoc, List.singleton_append, List.length_append, List.length_cons]
    congr 1
    omega
theorem sameDeeds_loop (a : List S25) (ha : a.length ≤ 1048577) : ∀ (suf : List S25) (i k : Nat), a.drop i = suf → suf.length < k → laws_sameDeeds.l0 k a a i = some true := by
  intro suf
  induction suf with
  | nil =>
    intro i k hd hk
    obtain ⟨k, rfl⟩ : ∃ m, k = m + 1 := ⟨k - 1, by omega⟩
    have := drop_nil hd
    simp only [laws_sameDeeds.l0]
    rw [if_neg (by omega)]
  | cons x xs ih =>
    intro i k hd hk
    obtain ⟨k, rfl⟩ : ∃ m, k = m + 1 := ⟨k - 1, by omega⟩
    obtain ⟨hlt, hd2, hx⟩ := drop_split hd
    simp only [laws_sameDeeds.l0]
    rw [if_pos (by omega), if_pos (by omega), if_pos (by omega), if_neg (by simp), w64s i (by omega), ih (i + 1) k hd2 (by simp at hk; omega)]
theorem sameDeeds_is (a : List S25) (ha : a.length ≤ 1048577) (k : Nat) (hk : a.length < k) : laws_sameDeeds.f k a a = some true := by
  unfold laws_sameDeeds.f
  rw [if_pos rfl]
  exact sameDeeds_loop a ha a 0 k rfl hk
theorem journalP_size : ∀ (l : List S25) (acc : ByteArray), (journalP acc l).size ≤ acc.size + 13 * l.length := by
  intro l
  induction l with
  | nil => intro acc; simp [journalP]
  | cons d ds ih =>
    intro acc
    simp only [journalP]
    have hd := deedP_size d.f0 d.f1 d.f2
    split
    · show 0 ≤ _; omega
    · have := ih ((acc ++ deedP d.f0 d.f1 d.f2) ++ (⟨#[10]⟩ : ByteArray))
      rw [acc_size] at this
      simp only [List.length_cons]; omega

/-! law_JournalText -/
theorem FnJournalText : laws_FnJournalText.Pure := by
  intro l0 hl hl2 hb
  obtain ⟨K, hK⟩ : ∃ K, K = 30000 := ⟨_, rfl⟩
  refine ⟨K, ?_⟩
  unfold laws_FnJournalText.f
  by_cases hbig : (l0.length : Int) > 1048576
  · rw [if_pos hbig]
  · rw [if_neg hbig]
    have hd : ∃ L, spec_DrawJournalText.f K l0 = some L ∧ L.length ≤ 1001 := by
      unfold spec_DrawJournalText.f
      obtain ⟨s, e0, hs, hls⟩ := open_ok (bytes_of hb)
      rw [e0, Option.bind_some]; dsimp only
      obtain ⟨r, q, e, h1, h2, h3⟩ := l20Written_ok hs hls K (by omega)
      rw [e, Option.bind_some]; dsimp only
      obtain ⟨o, q2, e2, -⟩ := odd_ok (k := K) (by omega) hs hls q h2 (by omega) 12 (by omega)
      rw [e2, Option.bind_some]; dsimp only
      split
      · rw [if_pos (by omega)]
        exact ⟨_, rfl, by rw [List.length_append]; simp; omega⟩
      · exact ⟨_, rfl, by omega⟩
    obtain ⟨L, e, h1⟩ := hd
    rw [e, Option.bind_some, impl_JournalText_is L (by omega) K (by omega), Option.bind_some, spec_JournalText_is L (by omega) K (by omega), Option.bind_some, if_pos rfl]
    have hz := journalP_size L ⟨#[]⟩
    have hz0 : (⟨#[]⟩ : ByteArray).size = 0 := rfl
    by_cases h : (journalP ⟨#[]⟩ L).toList = []
    · rw [if_pos h, alive_is K (by omega), Option.bind_some]
    · rw [if_neg h, impl_ReadJournal_is _ (by omega) K (by omega), Option.bind_some]
      rcases journalP_text L ⟨#[]⟩ with h2 | ⟨h2, h3⟩
      · exact absurd ((toList_nil_iff _).2 h2) h
      · have h4 : (journalP ⟨#[]⟩ L).data.toList = textL L := by rw [h3]; rfl
        have h5 : (textL L).length = (journalP ⟨#[]⟩ L).size := by rw [← h4, Array.length_toList]; rfl
        rw [h4, jrP_text L [] 0 h2, List.nil_append]
        dsimp only
        rw [sameDeeds_is L (by omega) K (by omega), Option.bind_some, if_pos rfl, h5]
        simp

end Go.Proofs.YtacgjnlobmbfcaaDoor.Pure
