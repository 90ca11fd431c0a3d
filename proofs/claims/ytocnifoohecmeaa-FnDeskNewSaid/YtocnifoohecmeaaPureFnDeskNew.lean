/- The pure part of the proof of FnDeskNew: the printed functions answer true, for every drawn or given argument within the row's own bounds; no further condition. -/
import Derived.Test.YtocnifoohecmeaaPFnDeskNewx6
import Derived.Laws.BitsLemmas
namespace Go.Proofs.Ytocnifoohecmeaa.Pure
open Go.RowKit Go.Proofs.Ytocnifoohecmeaa.PFnDeskNew Go.Proofs.YtocnifoohecmeaaW.PrintWords Go.Proofs.YtocnifoohecmeaaW.PrintLast Go.Proofs.YtocnifoohecmeaaW.PrintMore
set_option linter.unusedVariables false
set_option linter.unusedSimpArgs false
/-! base -/
theorem w64 {x : Int} (h0 : -9223372036854775808 ≤ x) (h1 : x ≤ 9223372036854775807) : wrap64 x = x := by
  unfold wrap64
  omega
theorem w64s (n : Nat) (h : n ≤ 4611686018427387904) : wrap64 ((n : Int) + 1) = ((n + 1 : Nat) : Int) := by
  unfold wrap64
  omega
theorem drop_split {α : Type} {l : List α} {i : Nat} {x : α} {xs : List α} (h : l.drop i = x :: xs) : i < l.length ∧ l.drop (i + 1) = xs ∧ ∀ d, l.getD i d = x := by
  have hi : i < l.length := by
    have h2 : 0 < (l.drop i).length := by rw [h]; simp
    rw [List.length_drop] at h2
    omega
  rw [List.drop_eq_getElem_cons hi] at h
  injection h with h1 h2
  exact ⟨hi, h2, fun d => by rw [List.getD_eq_getElem?_getD, List.getElem?_eq_getElem hi, h1]; rfl⟩
theorem drop_nil {α : Type} {l : List α} {i : Nat} (h : l.drop i = []) : l.length ≤ i := List.drop_eq_nil_iff.1 h
theorem getD_lt {α : Type} {l : List α} {i : Nat} (h : i < l.length) (d : α) : l.getD i d = l[i] := by
  rw [List.getD_eq_getElem?_getD, List.getElem?_eq_getElem h]; rfl
theorem rd_nat (l : List Int) (i : Nat) : rd l (i : Int) = l.getD i 0 := by
  unfold rd
  rw [Int.toNat_natCast]
theorem getD_mem {α : Type} {l : List α} {i : Nat} (h : i < l.length) (d : α) : l.getD i d ∈ l := by
  rw [getD_lt h]; exact List.getElem_mem h
theorem take_succ_getD {α : Type} {l : List α} {i : Nat} (h : i < l.length) (d : α) : l.take (i + 1) = l.take i ++ [l.getD i d] := by
  rw [getD_lt h, List.take_succ_eq_append_getElem h]
theorem mx_max (a b : Int) : mx a b = max a b := by
  unfold mx; omega
theorem mn_min (a b : Int) : mn a b = min a b := by
  unfold mn; omega
theorem bind_of {α β : Type} {o : Option α} {r : α} {f : α → Option β} {s : Option β} (h : o = some r) (h2 : f r = s) : o.bind f = s := by rw [h]; exact h2
theorem getD_snoc_last {α : Type} (l : List α) (x d : α) {i : Nat} (h : l.length = i) : (l ++ [x]).getD i d = x := by
  subst h
  rw [List.getD_eq_getElem?_getD, List.getElem?_append_right (Nat.le_refl _), Nat.sub_self]
  rfl
theorem getD_snoc_lt {α : Type} (l r : List α) (d : α) {i : Nat} (h : i < l.length) : (l ++ r).getD i d = l.getD i d := by
  rw [List.getD_eq_getElem?_getD, List.getElem?_append_left h, List.getD_eq_getElem?_getD]

/-! pick -/
theorem xor_small (a b : Int) (ha : 0 ≤ a) (ha2 : a < 1099511627776) (hb : 0 ≤ b) (hb2 : b < 1099511627776) : 0 ≤ Go.bits .xor .i64 a b ∧ Go.bits .xor .i64 a b < 1099511627776 := by
  obtain ⟨x, rfl⟩ := Int.eq_ofNat_of_zero_le ha
  obtain ⟨y, rfl⟩ := Int.eq_ofNat_of_zero_le hb
  have hx : x < 2 ^ 40 := by have : (x : Int) < 1099511627776 := ha2; omega
  have hy : y < 2 ^ 40 := by have : (y : Int) < 1099511627776 := hb2; omega
  have hz : x ^^^ y < 2 ^ 40 := Nat.xor_lt_two_pow hx hy
  have e : Go.bits .xor .i64 (x : Int) (y : Int) = ((x ^^^ y : Nat) : Int) := by
    have hx' : x % 2 ^ IntKind.i64.bits = x := Nat.mod_eq_of_lt (Nat.lt_of_lt_of_le hx (Nat.pow_le_pow_right (by decide) (by decide)))
    have hy' : y % 2 ^ IntKind.i64.bits = y := Nat.mod_eq_of_lt (Nat.lt_of_lt_of_le hy (Nat.pow_le_pow_right (by decide) (by decide)))
    simp only [bits, BitVec.ofInt_natCast, BitVec.toNat_xor, BitVec.toNat_ofNat, hx', hy']
    rw [IntKind.wrap_i64]
    omega
  rw [e]
  omega
theorem tmod_in (x n : Int) (hx : 0 ≤ x) (hn : 1 ≤ n) : 0 ≤ Int.tmod x n ∧ Int.tmod x n < n := by
  rw [Int.tmod_eq_emod_of_nonneg hx]
  exact ⟨Int.emod_nonneg _ (by omega), Int.emod_lt_of_pos _ (by omega)⟩
theorem rd_byte {s : List Int} (hs : ∀ x ∈ s, 0 ≤ x ∧ x ≤ 255) (i : Int) : 0 ≤ rd s i ∧ rd s i ≤ 255 := by
  unfold rd
  by_cases h : i.toNat < s.length
  · exact hs _ (getD_mem h 0)
  · rw [List.getD_eq_getElem?_getD, List.getElem?_eq_none (by omega)]; simp
/-- The reader: what it draws lies in 0..n-1, and its place goes on by one. -/
theorem pick_ok {k : Nat} (hk : 1 ≤ k) {s : List Int} (hs : ∀ x ∈ s, 0 ≤ x ∧ x ≤ 255) (hl : s.length ≤ 2000) (p : Int) (hp : 0 ≤ p) (hp2 : p ≤ 1000000) (n : Int) :
    ∃ v, spec_l20Rd_pick.f k s p n = some (v, p + 1) ∧ 0 ≤ v ∧ (1 ≤ n → v < n) ∧ (n < 1 → v = 0) := by
  obtain ⟨k, rfl⟩ : ∃ m, k = m + 1 := ⟨k - 1, by omega⟩
  have hw : wrap64 (p + 1) = p + 1 := w64 (by omega) (by omega)
  unfold spec_l20Rd_pick.f
  by_cases hn : n < 1
  · refine ⟨0, ?_, by omega, by omega, fun _ => rfl⟩
    rw [if_pos hn, hw]
    simp only [spec_l20Rd_pick.j0]
    rw [if_pos trivial]
  · rw [if_neg hn, hw]
    simp only [spec_l20Rd_pick.j0]
    by_cases he : (s.length : Int) = 0
    · refine ⟨0, ?_, by omega, by omega, fun _ => rfl⟩
      rw [if_pos (by simpa using he)]
    · have hpp : wrap64 (p + 1 - 1) = p := by rw [w64 (by omega) (by omega)]; omega
      rw [if_neg (by simpa using he), hpp]
      have hn0 : ¬ n = 0 := by omega
      have hb := fun i => rd_byte hs i
      by_cases hlt : p < (s.length : Int)
      · have hr := hb p
        have hwr : wrap64 (rd s p) = rd s p := w64 (by omega) (by omega)
        rw [if_pos hlt, if_pos hp, if_neg hn0, hwr]
        have ht := tmod_in (rd s p) n hr.1 (by omega)
        exact ⟨_, rfl, ht.1, fun _ => ht.2, fun h => absurd h hn⟩
      · have hL : 1 ≤ (s.length : Int) := by omega
        have e7 : wrap64 (p * 7) = p * 7 := w64 (by omega) (by omega)
        have e73 : wrap64 (p * 7 + 3) = p * 7 + 3 := w64 (by omega) (by omega)
        have t1 := tmod_in p (s.length : Int) hp hL
        have t2 := tmod_in (p * 7 + 3) (s.length : Int) (by omega) hL
        have r1 := hb (Int.tmod p (s.length : Int))
        have r2 := hb (Int.tmod (p * 7 + 3) (s.length : Int))
        rw [if_neg hlt, if_neg he, if_pos t1.1, if_pos t1.2, e7, e73, if_pos t2.1, if_pos t2.2, if_neg hn0]
        generalize rd s (Int.tmod p (s.length : Int)) = a at *
        generalize rd s (Int.tmod (p * 7 + 3) (s.length : Int)) = b at *
        have hq : Int.tdiv p (s.length : Int) = p / (s.length : Int) := Int.tdiv_eq_ediv_of_nonneg hp
        have q0 : 0 ≤ p / (s.length : Int) := Int.ediv_nonneg hp (by omega)
        have q1 : p / (s.length : Int) ≤ p := Int.ediv_le_self _ hp
        rw [hq]
        generalize p / (s.length : Int) = q at *
        have ea : wrap64 a = a := w64 (by omega) (by omega)
        have eb : wrap64 b = b := w64 (by omega) (by omega)
        have ea2 : wrap64 (a * 131) = a * 131 := w64 (by omega) (by omega)
        have eb2 : wrap64 (b * 1117) = b * 1117 := w64 (by omega) (by omega)
        have ep : wrap64 (p * 29) = p * 29 := w64 (by omega) (by omega)
        have eq_ : wrap64 q = q := w64 (by omega) (by omega)
        have eq2 : wrap64 (q * 53) = q * 53 := w64 (by omega) (by omega)
        have e1 : wrap64 (a * 131 + b * 1117) = a * 131 + b * 1117 := w64 (by omega) (by omega)
        have e2 : wrap64 (a * 131 + b * 1117 + p * 29) = a * 131 + b * 1117 + p * 29 := w64 (by omega) (by omega)
        have e3 : wrap64 (a * 131 + b * 1117 + p * 29 + q * 53) = a * 131 + b * 1117 + p * 29 + q * 53 := w64 (by omega) (by omega)
        rw [ea, eb, ea2, eb2, ep, eq_, eq2, e1, e2, e3]
        have hX0 : 0 ≤ a * 131 + b * 1117 + p * 29 + q * 53 := by omega
        have hX1 : a * 131 + b * 1117 + p * 29 + q * 53 < 1099511627776 := by omega
        generalize a * 131 + b * 1117 + p * 29 + q * 53 = X at *
        have hd : Int.tdiv X 64 = X / 64 := Int.tdiv_eq_ediv_of_nonneg hX0
        have ed : wrap64 (X / 64) = X / 64 := w64 (by omega) (by omega)
        rw [hd, ed]
        have hx := xor_small X (X / 64) hX0 hX1 (by omega) (by omega)
        have ht := tmod_in (Go.bits .xor .i64 X (X / 64)) n hx.1 (by omega)
        exact ⟨_, rfl, ht.1, fun _ => ht.2, fun h => absurd h hn⟩
theorem odd_ok {k : Nat} (hk : 1 ≤ k) {s : List Int} (hs : ∀ x ∈ s, 0 ≤ x ∧ x ≤ 255) (hl : s.length ≤ 2000) (p : Int) (hp : 0 ≤ p) (hp2 : p ≤ 1000000) (n : Int) (hn : n ≤ 1000) :
    ∃ b q, spec_l20Rd_odd.f k s p n = some (b, q) ∧ p ≤ q ∧ q ≤ p + 1 ∧ (n ≤ 0 → b = false) := by
  unfold spec_l20Rd_odd.f
  by_cases h : n > 0
  · obtain ⟨v, hv, -⟩ := pick_ok hk hs hl p hp hp2 n
    rw [if_pos h, hv]
    exact ⟨_, _, rfl, by simp only; omega, by simp only; omega, fun hh => by omega⟩
  · rw [if_neg h]
    exact ⟨_, _, rfl, by omega, by omega, fun _ => rfl⟩
theorem open_ok {s : List Int} (hs : ∀ x ∈ s, 0 ≤ x ∧ x ≤ 255) : ∃ t, spec_l20Open.f s = some (t, 0) ∧ (∀ x ∈ t, 0 ≤ x ∧ x ≤ 255) ∧ t.length ≤ 2000 := by
  unfold spec_l20Open.f
  by_cases h : (s.length : Int) > 2000
  · rw [if_pos h, if_pos (by omega)]
    exact ⟨_, rfl, fun x hx => hs x (List.mem_of_mem_take hx), by rw [List.length_take]; omega⟩
  · rw [if_neg h]
    exact ⟨_, rfl, hs, by omega⟩
theorem bytes_of {l : List Int} (h : ∀ x ∈ l, (Lit.int .u8 x).wf = true) : ∀ x ∈ l, 0 ≤ x ∧ x ≤ 255 := by
  intro x hx
  have := h x hx
  simp only [Lit.wf, IntKind.min, IntKind.max, IntKind.signed, IntKind.bits, Bool.and_eq_true, decide_eq_true_eq, Bool.false_eq_true, if_false] at this
  omega

/-! l1in -/
theorem spec_l1In_is (a b c : Int) : spec_l1In.f a b c = some (decide (b ≤ a ∧ a ≤ c)) := by
  unfold spec_l1In.f
  by_cases h : a ≥ b
  · rw [if_pos h]
    congr 1
    apply decide_eq_decide.2
    omega
  · rw [if_neg h]
    congr 1
    symm
    exact decide_eq_false (by omega)

/-! customers -/
/-- Customers, as both texts ask: seen from a place on, with the one ahead. -/
def custFrom : Option S50 → List S50 → Bool
  | _, [] => true
  | none, c :: cs => decide (0 ≤ c.f0 ∧ c.f0 ≤ 60 ∧ 1 ≤ c.f1 ∧ c.f1 ≤ 9) && custFrom (some c) cs
  | some p, c :: cs => decide (0 ≤ c.f0 ∧ c.f0 ≤ 60 ∧ 1 ≤ c.f1 ∧ c.f1 ≤ 9 ∧ p.f0 ≤ c.f0) && custFrom (some c) cs
def custOk (l : List S50) : Bool := custFrom none l && decide (l.length ≤ 8)
theorem rd_Customer_nat (l : List S50) (i : Nat) : rd_T50 l (i : Int) = l.getD i z50 := by
  unfold rd_T50
  rw [Int.toNat_natCast]
theorem cust_bad {p : Option S50} {x : S50} {xs : List S50} (h : ¬ (0 ≤ x.f0 ∧ x.f0 ≤ 60 ∧ 1 ≤ x.f1 ∧ x.f1 ≤ 9)) : custFrom p (x :: xs) = false := by
  cases p with
  | none => simp only [custFrom, decide_eq_false h, Bool.false_and]
  | some q => simp only [custFrom, decide_eq_false (show ¬ (0 ≤ x.f0 ∧ x.f0 ≤ 60 ∧ 1 ≤ x.f1 ∧ x.f1 ≤ 9 ∧ q.f0 ≤ x.f0) from fun hh => h ⟨hh.1, hh.2.1, hh.2.2.1, hh.2.2.2.1⟩), Bool.false_and]
theorem cust_bad2 {p x : S50} {xs : List S50} (h : x.f0 < p.f0) : custFrom (some p) (x :: xs) = false := by
  simp only [custFrom, decide_eq_false (show ¬ (0 ≤ x.f0 ∧ x.f0 ≤ 60 ∧ 1 ≤ x.f1 ∧ x.f1 ≤ 9 ∧ p.f0 ≤ x.f0) from fun hh => by omega), Bool.false_and]
theorem impl_CustomersOk_loop (l : List S50) (hl : l.length ≤ 1048576) : ∀ (suf : List S50) (i k : Nat), l.drop i = suf → suf.length < k → i ≤ l.length →
    impl_CustomersOk.l0 k l l (l.length : Int) i = some (custFrom (if i = 0 then none else some (l.getD (i - 1) z50)) suf && decide (l.length ≤ 8)) := by
  intro suf
  induction suf with
  | nil =>
    intro i k hd hk hi
    obtain ⟨k, rfl⟩ : ∃ m, k = m + 1 := ⟨k - 1, by omega⟩
    have := drop_nil hd
    simp only [impl_CustomersOk.l0]
    rw [if_neg (by omega)]
    congr 1
    have e : (decide ((l.length : Int) ≤ 8)) = decide (l.length ≤ 8) := decide_eq_decide.2 (by omega)
    rw [e]
    split <;> simp [custFrom]
  | cons x xs ih =>
    intro i k hd hk hi
    obtain ⟨k, rfl⟩ : ∃ m, k = m + 1 := ⟨k - 1, by omega⟩
    obtain ⟨hlt, hd2, hx⟩ := drop_split hd
    simp only [impl_CustomersOk.l0]
    rw [if_pos (by omega), if_pos (by omega), if_pos (by omega), rd_Customer_nat, hx, w64s i (by omega), ih (i + 1) k hd2 (by simp at hk; omega) (by omega)]
    rw [if_neg (show ¬ i + 1 = 0 by omega), show i + 1 - 1 = i from rfl, hx]
    by_cases h1 : x.f0 < 0
    · rw [if_pos h1, cust_bad (by omega), Bool.false_and]
    rw [if_neg h1]
    by_cases h2 : x.f0 > 60
    · rw [if_pos h2, cust_bad (by omega), Bool.false_and]
    rw [if_neg h2]
    by_cases hi0 : i = 0
    · subst hi0
      rw [if_neg (by omega)]
      by_cases h3 : x.f1 < 1
      · rw [if_pos h3, cust_bad (by omega), Bool.false_and]
      rw [if_neg h3]
      by_cases h4 : x.f1 > 9
      · rw [if_pos h4, cust_bad (by omega), Bool.false_and]
      rw [if_neg h4, if_pos rfl]
      have e : decide (0 ≤ x.f0 ∧ x.f0 ≤ 60 ∧ 1 ≤ x.f1 ∧ x.f1 ≤ 9) = true := decide_eq_true (by omega)
      simp only [custFrom, e, Bool.true_and]
    · rw [if_pos (by omega), show wrap64 ((i : Int) - 1) = ((i - 1 : Nat) : Int) from by rw [w64 (by omega) (by omega)]; omega, if_pos (by omega), if_pos (by omega), rd_Customer_nat, if_neg hi0]
      by_cases h5 : x.f0 < (l.getD (i - 1) z50).f0
      · rw [if_pos h5, cust_bad2 h5, Bool.false_and]
      rw [if_neg h5]
      by_cases h3 : x.f1 < 1
      · rw [if_pos h3, cust_bad (by omega), Bool.false_and]
      rw [if_neg h3]
      by_cases h4 : x.f1 > 9
      · rw [if_pos h4, cust_bad (by omega), Bool.false_and]
      rw [if_neg h4]
      have e : decide (0 ≤ x.f0 ∧ x.f0 ≤ 60 ∧ 1 ≤ x.f1 ∧ x.f1 ≤ 9 ∧ (l.getD (i - 1) z50).f0 ≤ x.f0) = true := decide_eq_true (by omega)
      simp only [custFrom, e, Bool.true_and]
theorem impl_CustomersOk_is (l : List S50) (hl : l.length ≤ 1048576) (k : Nat) (hk : l.length < k) : impl_CustomersOk.f k l = some (custOk l) := by
  unfold impl_CustomersOk.f
  exact impl_CustomersOk_loop l hl l 0 k rfl hk (by omega)

/-! custspec -/
theorem spec_CustomersOk_loop (l : List S50) (hl : l.length ≤ 1048576) : ∀ (suf : List S50) (i k : Nat), l.drop i = suf → suf.length < k → i ≤ l.length →
    spec_CustomersOk.l0 k l i = some (custFrom (if i = 0 then none else some (l.getD (i - 1) z50)) suf && decide (l.length ≤ 8)) := by
  intro suf
  induction suf with
  | nil =>
    intro i k hd hk hi
    obtain ⟨k, rfl⟩ : ∃ m, k = m + 1 := ⟨k - 1, by omega⟩
    have := drop_nil hd
    simp only [spec_CustomersOk.l0]
    rw [if_neg (by omega)]
    congr 1
    have e : (decide ((l.length : Int) ≤ 8)) = decide (l.length ≤ 8) := decide_eq_decide.2 (by omega)
    rw [e]
    split <;> simp [custFrom]
  | cons x xs ih =>
    intro i k hd hk hi
    obtain ⟨k, rfl⟩ : ∃ m, k = m + 1 := ⟨k - 1, by omega⟩
    obtain ⟨hlt, hd2, hx⟩ := drop_split hd
    simp only [spec_CustomersOk.l0]
    rw [if_pos (by omega), if_pos (by omega), rd_Customer_nat, hx, spec_l1In_is, spec_l1In_is, w64s i (by omega), ih (i + 1) k hd2 (by simp at hk; omega) (by omega)]
    simp only [Option.bind_some, decide_eq_true_eq]
    rw [if_neg (show ¬ i + 1 = 0 by omega), show i + 1 - 1 = i from rfl, hx]
    by_cases h1 : 0 ≤ x.f0 ∧ x.f0 ≤ 60
    · rw [if_pos h1]
      by_cases h2 : 1 ≤ x.f1 ∧ x.f1 ≤ 9
      · rw [if_pos h2]
        by_cases hi0 : i = 0
        · subst hi0
          rw [if_neg (by omega), if_pos rfl]
          have e : decide (0 ≤ x.f0 ∧ x.f0 ≤ 60 ∧ 1 ≤ x.f1 ∧ x.f1 ≤ 9) = true := decide_eq_true (by omega)
          simp only [custFrom, e, Bool.true_and]
        · rw [if_pos (by omega), show wrap64 ((i : Int) - 1) = ((i - 1 : Nat) : Int) from by rw [w64 (by omega) (by omega)]; omega, if_pos (by omega), if_pos (by omega), rd_Customer_nat, if_neg hi0]
          by_cases h5 : x.f0 < (l.getD (i - 1) z50).f0
          · rw [if_pos h5, cust_bad2 h5, Bool.false_and]
          rw [if_neg h5]
          have e : decide (0 ≤ x.f0 ∧ x.f0 ≤ 60 ∧ 1 ≤ x.f1 ∧ x.f1 ≤ 9 ∧ (l.getD (i - 1) z50).f0 ≤ x.f0) = true := decide_eq_true (by omega)
          simp only [custFrom, e, Bool.true_and]
      · rw [if_neg h2, cust_bad (by omega), Bool.false_and]
    · rw [if_neg h1, cust_bad (by omega), Bool.false_and]
theorem spec_CustomersOk_is (l : List S50) (hl : l.length ≤ 1048576) (k : Nat) (hk : l.length < k) : spec_CustomersOk.f k l = some (custOk l) := by
  unfold spec_CustomersOk.f
  exact spec_CustomersOk_loop l hl l 0 k rfl hk (by omega)

/-! custfacts -/
theorem custFrom_tail {p : Option S50} {x : S50} {xs : List S50} (h : custFrom p (x :: xs) = true) : (0 ≤ x.f0 ∧ x.f0 ≤ 60 ∧ 1 ≤ x.f1 ∧ x.f1 ≤ 9) ∧ custFrom (some x) xs = true ∧ ∀ q, p = some q → q.f0 ≤ x.f0 := by
  cases p with
  | none =>
    simp only [custFrom, Bool.and_eq_true, decide_eq_true_eq] at h
    exact ⟨h.1, h.2, fun q e => by cases e⟩
  | some q =>
    simp only [custFrom, Bool.and_eq_true, decide_eq_true_eq] at h
    exact ⟨⟨h.1.1, h.1.2.1, h.1.2.2.1, h.1.2.2.2.1⟩, h.2, fun q' e => by cases e; exact h.1.2.2.2.2⟩
theorem custFrom_mem {l : List S50} : ∀ {p : Option S50}, custFrom p l = true → ∀ c ∈ l, 0 ≤ c.f0 ∧ c.f0 ≤ 60 ∧ 1 ≤ c.f1 ∧ c.f1 ≤ 9 := by
  induction l with
  | nil => intro p _ c hc; cases hc
  | cons x xs ih =>
    intro p h c hc
    obtain ⟨h1, h2, -⟩ := custFrom_tail h
    rcases List.mem_cons.1 hc with rfl | hc
    · exact h1
    · exact ih h2 c hc
theorem custFrom_le {l : List S50} : ∀ {p : S50}, custFrom (some p) l = true → ∀ c ∈ l, p.f0 ≤ c.f0 := by
  induction l with
  | nil => intro p _ c hc; cases hc
  | cons x xs ih =>
    intro p h c hc
    obtain ⟨h1, h2, h3⟩ := custFrom_tail h
    have hp := h3 p rfl
    rcases List.mem_cons.1 hc with rfl | hc
    · exact hp
    · have := ih h2 c hc; omega
theorem custOk_from {l : List S50} (h : custOk l = true) : custFrom none l = true := by
  unfold custOk at h
  rw [Bool.and_eq_true] at h
  exact h.1
theorem custOk_len {l : List S50} (h : custOk l = true) : l.length ≤ 8 := by
  unfold custOk at h
  rw [Bool.and_eq_true] at h
  exact of_decide_eq_true h.2
theorem custOk_mem {l : List S50} (h : custOk l = true) : ∀ c ∈ l, 0 ≤ c.f0 ∧ c.f0 ≤ 60 ∧ 1 ≤ c.f1 ∧ c.f1 ≤ 9 := custFrom_mem (custOk_from h)
theorem custFrom_adj {l : List S50} : ∀ {p : Option S50}, custFrom p l = true → ∀ i, i + 1 < l.length → (l.getD i z50).f0 ≤ (l.getD (i + 1) z50).f0 := by
  induction l with
  | nil => intro p _ i h; simp at h
  | cons x xs ih =>
    intro p h i hi
    obtain ⟨h1, h2, -⟩ := custFrom_tail h
    cases i with
    | zero => exact custFrom_le h2 (xs.getD 0 z50) (getD_mem (by simpa using hi) _)
    | succ i => exact ih h2 i (by simpa using hi)

/-! alive -/
theorem alive_is (k : Nat) (hk : 2 ≤ k) : laws_alive.f k = some true := by
  unfold laws_alive.f
  rw [impl_CustomersOk_is _ (by simp) k (by simp; omega)]
  simp only [Option.bind_some]
  rw [if_pos (by decide), impl_CustomersOk_is _ (by simp) k (by simp; omega)]
  rfl

/-! drawcust -/
theorem l20Customers_loop {s : List Int} (hs : ∀ x ∈ s, 0 ≤ x ∧ x ≤ 255) (hl : s.length ≤ 2000) (m wide high : Int) (hm : m ≤ 1000) : ∀ (d : Nat) (k : Nat) (l : List S50) (t p : Int), d + 2 ≤ k → 0 ≤ p → p + 2 * d + 4 ≤ 1000000 → l.length + d ≤ 100 →
    ∃ r q, spec_l20Customers.l0 k m l t wide high d s p = some (r, q) ∧ r.length ≤ 200 ∧ p ≤ q ∧ q ≤ p + 2 * d + 4 := by
  intro d
  induction d with
  | zero =>
    intro k l t p hk hp hp2 hll
    obtain ⟨k, rfl⟩ : ∃ m, k = m + 1 := ⟨k - 1, by omega⟩
    simp only [spec_l20Customers.l0]
    rw [if_neg (by omega)]
    obtain ⟨b, q, e, hq1, hq2, -⟩ := odd_ok (k := k) (by omega) hs hl p hp (by omega) m hm
    rw [e]; simp only [Option.bind_some]
    cases b with
    | false => rw [if_neg (by simp)]; exact ⟨_, _, rfl, by omega, by omega, by omega⟩
    | true =>
      rw [if_pos rfl]
      obtain ⟨v, e2, hv⟩ := pick_ok (k := k) (by omega) hs hl q (by omega) (by omega) 3
      rw [e2]; simp only [Option.bind_some]
      by_cases v0 : v = 0
      · rw [if_pos v0]; exact ⟨_, _, rfl, by simp, by omega, by omega⟩
      · rw [if_neg v0]
        by_cases v1 : v = 1
        · rw [if_pos v1, if_pos (by omega)]; exact ⟨_, _, rfl, by rw [List.length_append]; simp; omega, by omega, by omega⟩
        · rw [if_neg v1]
          obtain ⟨v2, e3, hv2, hv3, -⟩ := pick_ok (k := k) (by omega) hs hl (q + 1) (by omega) (by omega) 2
          have hv3 := hv3 (by omega)
          rw [e3]; simp only [Option.bind_some]
          rw [if_pos hv2, if_pos (by simp; omega)]
          exact ⟨_, _, rfl, by simp, by omega, by omega⟩
  | succ d ih =>
    intro k l t p hk hp hp2 hll
    obtain ⟨k, rfl⟩ : ∃ m, k = m + 1 := ⟨k - 1, by omega⟩
    simp only [spec_l20Customers.l0]
    rw [if_pos (by omega)]
    obtain ⟨v, e, -⟩ := pick_ok (k := k) (by omega) hs hl p hp (by omega) high
    rw [e]; simp only [Option.bind_some]
    rw [if_pos (by omega)]
    obtain ⟨v2, e2, -⟩ := pick_ok (k := k) (by omega) hs hl (p + 1) (by omega) (by omega) (wrap64 (wide + 1))
    rw [e2]; simp only [Option.bind_some]
    rw [show wrap64 (((d + 1 : Nat) : Int) - 1) = (d : Int) from by rw [w64 (by omega) (by omega)]; omega]
    obtain ⟨r, q, e3, h1, h2, h3⟩ := ih k (l ++ [⟨t, wrap64 (1 + v)⟩]) (wrap64 (t + v2)) (p + 1 + 1) (by omega) (by omega) (by omega) (by rw [List.length_append]; simp; omega)
    exact ⟨r, q, e3, h1, by omega, by omega⟩
theorem l20Customers_ok {s : List Int} (hs : ∀ x ∈ s, 0 ≤ x ∧ x ≤ 255) (hl : s.length ≤ 2000) (m : Int) (hm : m ≤ 1000) (k : Nat) (hk : 20 ≤ k) (p : Int) (hp : 0 ≤ p) (hp2 : p ≤ 100000) :
    ∃ r q, spec_l20Customers.f k s p m = some (r, q) ∧ r.length ≤ 200 ∧ p ≤ q ∧ q ≤ p + 30 := by
  unfold spec_l20Customers.f
  obtain ⟨v0, e0, -⟩ := pick_ok (k := k) (by omega) hs hl p hp (by omega) 3
  rw [e0]; simp only [Option.bind_some]
  obtain ⟨v, e, -⟩ := pick_ok (k := k) (by omega) hs hl (p + 1) (by omega) (by omega) 5
  rw [e]; simp only [Option.bind_some]
  obtain ⟨v1, e1, h10, h11, -⟩ := pick_ok (k := k) (by omega) hs hl (p + 1 + 1) (by omega) (by omega) 2
  have h11 := h11 (by omega)
  rw [e1]; simp only [Option.bind_some]
  rw [if_pos h10, if_pos (by simp; omega)]
  obtain ⟨v2, e2, hv2, hv3, -⟩ := pick_ok (k := k) (by omega) hs hl (p + 1 + 1 + 1) (by omega) (by omega) 9
  have hv3 := hv3 (by omega)
  rw [e2]; simp only [Option.bind_some]
  obtain ⟨r, q, e3, h1, h2, h3⟩ := l20Customers_loop hs hl m (wrap64 (1 + v)) (rd [3, 9] v1) hm v2.toNat k [] v0 (p + 1 + 1 + 1 + 1) (by omega) (by omega) (by omega) (by simp only [List.length_nil]; omega)
  rw [show ((v2.toNat : Nat) : Int) = v2 from by omega] at e3
  exact ⟨r, q, e3, h1, by omega, by omega⟩

/-! rdd -/
theorem rdd_nat (l : List (List S50)) (i : Nat) : rd_L3 l (i : Int) = l.getD i [] := by
  unfold rd_L3
  rw [Int.toNat_natCast]

/-! deskimpl -/
/-- A desk, as both texts ask. -/
def deskOk (now : List S50) (past : List (List S50)) : Bool := past.all custOk && (custOk now && decide (past.length ≤ 8))
theorem impl_DeskOk_loop (now : List S50) (past : List (List S50)) (hn : now.length ≤ 1048576) (hp : past.length ≤ 1048576) (hm : ∀ x ∈ past, x.length ≤ 1048576) : ∀ (suf : List (List S50)) (i k : Nat), past.drop i = suf → suf.length + 1048577 < k → i ≤ past.length →
    impl_DeskOk.l0 k past (past.length : Int) i now past = some (suf.all custOk && (custOk now && decide (past.length ≤ 8))) := by
  intro suf
  induction suf with
  | nil =>
    intro i k hd hk hi
    obtain ⟨k, rfl⟩ : ∃ m, k = m + 1 := ⟨k - 1, by omega⟩
    have := drop_nil hd
    simp only [impl_DeskOk.l0]
    rw [if_neg (by omega), impl_CustomersOk_is now hn k (by omega)]
    simp only [Option.bind_some]
    have e : (decide ((past.length : Int) ≤ 8)) = decide (past.length ≤ 8) := decide_eq_decide.2 (by omega)
    rw [e]
    by_cases h : custOk now = true
    · rw [if_pos h]; simp [h]
    · rw [if_neg h]; simp [h]
  | cons x xs ih =>
    intro i k hd hk hi
    obtain ⟨k, rfl⟩ : ∃ m, k = m + 1 := ⟨k - 1, by omega⟩
    obtain ⟨hlt, hd2, hx⟩ := drop_split hd
    have hxl := hm x (by rw [← hx []]; exact getD_mem hlt _)
    simp only [impl_DeskOk.l0]
    simp only [List.length_cons] at hk
    rw [if_pos (by omega), if_pos (by omega), if_pos (by omega), rdd_nat, hx, impl_CustomersOk_is x hxl k (by omega), w64s i (by omega), ih (i + 1) k hd2 (by omega) (by omega)]
    simp only [Option.bind_some]
    by_cases h : custOk x = true
    · rw [if_pos h]; simp [h]
    · rw [if_neg h]; simp [h]
theorem impl_DeskOk_is (now : List S50) (past : List (List S50)) (hn : now.length ≤ 1048576) (hp : past.length ≤ 1048576) (hm : ∀ x ∈ past, x.length ≤ 1048576) (k : Nat) (hk : 3000000 ≤ k) : impl_DeskOk.f k now past = some (deskOk now past) := by
  unfold impl_DeskOk.f
  exact impl_DeskOk_loop now past hn hp hm past 0 k rfl (by omega) (by omega)

/-! samecust -/
theorem sameCustomers_loop (a : List S50) (ha : a.length ≤ 1048576) : ∀ (suf : List S50) (i k : Nat), a.drop i = suf → suf.length < k → laws_sameCustomers.l0 k a a (i : Int) = some true := by
  intro suf
  induction suf with
  | nil =>
    intro i k hd hk
    obtain ⟨k, rfl⟩ : ∃ m, k = m + 1 := ⟨k - 1, by omega⟩
    have := drop_nil hd
    simp only [laws_sameCustomers.l0]
    rw [if_neg (by omega)]
  | cons x xs ih =>
    intro i k hd hk
    obtain ⟨k, rfl⟩ : ∃ m, k = m + 1 := ⟨k - 1, by omega⟩
    obtain ⟨hlt, hd2, hx⟩ := drop_split hd
    simp only [laws_sameCustomers.l0]
    simp only [List.length_cons] at hk
    rw [if_pos (by omega), if_pos (by omega), if_pos (by omega), if_neg (by simp), w64s i (by omega)]
    exact ih (i + 1) k hd2 (by omega)
theorem sameCustomers_is (a : List S50) (ha : a.length ≤ 1048576) (k : Nat) (hk : a.length < k) : laws_sameCustomers.f k a a = some true := by
  unfold laws_sameCustomers.f
  rw [if_pos rfl]
  exact sameCustomers_loop a ha a 0 k rfl hk

/-! samedesk -/
theorem sameDesk_loop (now now2 : List S50) (p : List (List S50)) (hp : p.length ≤ 1048576) (hm : ∀ x ∈ p, x.length ≤ 1048576) : ∀ (suf : List (List S50)) (i k : Nat), p.drop i = suf → suf.length + 1048577 < k → laws_sameDesk.l0 k (i : Int) now p now2 p = some true := by
  intro suf
  induction suf with
  | nil =>
    intro i k hd hk
    obtain ⟨k, rfl⟩ : ∃ m, k = m + 1 := ⟨k - 1, by omega⟩
    have := drop_nil hd
    simp only [laws_sameDesk.l0]
    rw [if_neg (by omega)]
  | cons x xs ih =>
    intro i k hd hk
    obtain ⟨k, rfl⟩ : ∃ m, k = m + 1 := ⟨k - 1, by omega⟩
    obtain ⟨hlt, hd2, hx⟩ := drop_split hd
    have hxl := hm x (by rw [← hx []]; exact getD_mem hlt _)
    simp only [laws_sameDesk.l0]
    simp only [List.length_cons] at hk
    rw [if_pos (by omega), if_pos (by omega), if_pos (by omega), rdd_nat, hx, sameCustomers_is x hxl k (by omega), Option.bind_some, if_pos rfl, w64s i (by omega)]
    exact ih (i + 1) k hd2 (by omega)
theorem sameDesk_is (now : List S50) (p : List (List S50)) (hn : now.length ≤ 1048576) (hp : p.length ≤ 1048576) (hm : ∀ x ∈ p, x.length ≤ 1048576) (k : Nat) (hk : 3000000 ≤ k) : laws_sameDesk.f k now p now p = some true := by
  unfold laws_sameDesk.f
  obtain ⟨k, rfl⟩ : ∃ m, k = m + 1 := ⟨k - 1, by omega⟩
  rw [sameCustomers_is now hn _ (by omega), Option.bind_some, if_pos rfl]
  simp only [laws_sameDesk.j0]
  rw [if_neg (by simp)]
  exact sameDesk_loop now now p hp hm p 0 k rfl (by omega)

/-! desknew -/
theorem clone_is (l : List S50) (hl : l.length ≤ 1048576) : impl_Customer.f l = some l := by
  unfold impl_Customer.f
  simp only [Option.bind_some]
  rw [if_pos (by simp only [List.length_nil]; omega), List.nil_append]
def deskNewP (l : List S50) : List S50 := if custOk l = true then l else []
theorem impl_DeskNew_is (l : List S50) (hl : l.length ≤ 1048576) (k : Nat) (hk : l.length < k) : impl_DeskNew.f k l = some (deskNewP l, [], custOk l) := by
  unfold impl_DeskNew.f deskNewP
  rw [impl_CustomersOk_is l hl k hk, Option.bind_some]
  by_cases h : custOk l = true
  · rw [if_pos h, clone_is l hl, Option.bind_some, if_pos h, h]
  · rw [if_neg h, if_neg h, Bool.eq_false_iff.2 h]
theorem spec_DeskNew_is (l : List S50) (hl : l.length ≤ 1048576) (k : Nat) (hk : l.length < k) : spec_DeskNew.f k l = some (deskNewP l, [], custOk l) := by
  unfold spec_DeskNew.f deskNewP
  rw [spec_CustomersOk_is l hl k hk, Option.bind_some]
  simp only [Option.bind_some]
  by_cases h : custOk l = true
  · rw [if_pos h, if_pos (by simp only [List.length_nil]; omega), if_pos h, h, List.nil_append]
  · rw [if_neg h, if_neg h, Bool.eq_false_iff.2 h]

/-! law_DeskNew -/
theorem FnDeskNew : laws_FnDeskNew.Pure := by
  intro l0 hl hl2 hb
  obtain ⟨K, hK⟩ : ∃ K, K = 3000010 := ⟨_, rfl⟩
  refine ⟨K + 1, ?_⟩
  unfold laws_FnDeskNew.f
  by_cases hbig : (l0.length : Int) > 1048576
  · rw [if_pos hbig]
  · rw [if_neg hbig]
    have hd : ∃ r, spec_DrawDeskNew.f (K + 1) l0 = some r ∧ r.length ≤ 200 := by
      unfold spec_DrawDeskNew.f
      obtain ⟨s, e0, hs, hls⟩ := open_ok (bytes_of hb)
      rw [e0, Option.bind_some]; dsimp only
      obtain ⟨r, q, e, h1, h2, h3⟩ := l20Customers_ok hs hls 3 (by omega) (K + 1) (by omega) 0 (by omega) (by omega)
      rw [e, Option.bind_some]
      exact ⟨r, rfl, h1⟩
    obtain ⟨r, e, h1⟩ := hd
    have hn : (deskNewP r).length ≤ 200 := by
      unfold deskNewP
      split
      · omega
      · simp
    rw [e, Option.bind_some, impl_DeskNew_is r (by omega) _ (by omega), Option.bind_some, spec_DeskNew_is r (by omega) _ (by omega), Option.bind_some]
    dsimp only
    rw [sameDesk_is _ [] (by omega) (by simp) (by simp) _ (by omega), Option.bind_some, if_pos rfl]
    simp only [laws_FnDeskNew.j0]
    rw [if_neg (by simp)]
    by_cases h : custOk r = true
    · have h8 := custOk_len h
      rw [if_pos h]
      have hd : deskNewP r = r := by unfold deskNewP; rw [if_pos h]
      rw [hd, impl_DeskOk_is r [] (by omega) (by simp) (by simp) K (by omega), Option.bind_some]
      have hok : deskOk r [] = true := by unfold deskOk; rw [h]; simp
      rw [if_pos hok, sameCustomers_is r (by omega) K (by omega), Option.bind_some, if_pos rfl, if_pos (by simp), alive_is K (by omega)]; rfl
    · rw [if_neg h]
      have hd : deskNewP r = [] := by unfold deskNewP; rw [if_neg h]
      unfold laws_noDesk.f
      rw [hd, sameDesk_is [] [] (by simp) (by simp) (by simp) K (by omega), Option.bind_some, Option.bind_some, if_pos rfl, impl_CustomersOk_is r (by omega) K (by omega), Option.bind_some, if_neg h, alive_is K (by omega)]; rfl

end Go.Proofs.Ytocnifoohecmeaa.Pure
