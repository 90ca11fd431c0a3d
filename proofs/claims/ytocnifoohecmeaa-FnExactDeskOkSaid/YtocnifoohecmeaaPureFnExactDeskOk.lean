/- The pure part of the proof of FnExactDeskOk: the printed functions answer true, for every drawn or given argument within the row's own bounds; no further condition. -/
import Derived.Test.YtocnifoohecmeaaPFnExactDeskOkx5
import Derived.Laws.BitsLemmas
namespace Go.Proofs.Ytocnifoohecmeaa.Pure
open Go.RowKit Go.Proofs.Ytocnifoohecmeaa.PFnExactDeskOk Go.Proofs.YtocnifoohecmeaaW.PrintWords Go.Proofs.YtocnifoohecmeaaW.PrintLast Go.Proofs.YtocnifoohecmeaaW.PrintMore
set_option linter.unusedVariables false
set_option linter.unusedSimpArgs false
/-! base -/
theorem w64 {x : Int} (h0 : -9223372036854775808 ≤ x) (h1 : x ≤ 9223372036854775807) : wrap64 x = x := by
  unfold wrap64
  omega
theorem w64s (n : Nat) (h : n ≤ 4611686018427387904) : wrap64 ((n : Int) + 1) = ((n + 1 : Nat) : Int) := by
  unfold wrap64
  omega
theorem drop_split {α : Type} {l : List α} {i : Nat} {x : α} {xs : List α} (h : l.drop i = x :: xs) : i < l.length ∧ l.drop (i + 1) = xs ∧ ∀ d, l.getD i d = x := by
  have hi : i < l.length := by
    have h2 : 0 < (l.drop i).length := by rw [h]; simp
    rw [List.length_drop] at h2
    omega
  rw [List.drop_eq_getElem_cons hi] at h
  injection h with h1 h2
  exact ⟨hi, h2, fun d => by rw [List.getD_eq_getElem?_getD, List.getElem?_eq_getElem hi, h1]; rfl⟩
theorem drop_nil {α : Type} {l : List α} {i : Nat} (h : l.drop i = []) : l.length ≤ i := List.drop_eq_nil_iff.1 h
theorem getD_lt {α : Type} {l : List α} {i : Nat} (h : i < l.length) (d : α) : l.getD i d = l[i] := by
  rw [List.getD_eq_getElem?_getD, List.getElem?_eq_getElem h]; rfl
theorem rd_nat (l : List Int) (i : Nat) : rd l (i : Int) = l.getD i 0 := by
  unfold rd
  rw [Int.toNat_natCast]
theorem getD_mem {α : Type} {l : List α} {i : Nat} (h : i < l.length) (d : α) : l.getD i d ∈ l := by
  rw [getD_lt h]; exact List.getElem_mem h
theorem take_succ_getD {α : Type} {l : List α} {i : Nat} (h : i < l.length) (d : α) : l.take (i + 1) = l.take i ++ [l.getD i d] := by
  rw [getD_lt h, List.take_succ_eq_append_getElem h]
theorem mx_max (a b : Int) : mx a b = max a b := by
  unfold mx; omega
theorem mn_min (a b : Int) : mn a b = min a b := by
  unfold mn; omega
theorem bind_of {α β : Type} {o : Option α} {r : α} {f : α → Option β} {s : Option β} (h : o = some r) (h2 : f r = s) : o.bind f = s := by rw [h]; exact h2
theorem getD_snoc_last {α : Type} (l : List α) (x d : α) {i : Nat} (h : l.length = i) : (l ++ [x]).getD i d = x := by
  subst h
  rw [List.getD_eq_getElem?_getD, List.getElem?_append_right (Nat.le_refl _), Nat.sub_self]
  rfl
theorem getD_snoc_lt {α : Type} (l r : List α) (d : α) {i : Nat} (h : i < l.length) : (l ++ r).getD i d = l.getD i d := by
  rw [List.getD_eq_getElem?_getD, List.getElem?_append_left h, List.getD_eq_getElem?_getD]

/-! l1in -/
theorem spec_l1In_is (a b c : Int) : spec_l1In.f a b c = some (decide (b ≤ a ∧ a ≤ c)) := by
  unfold spec_l1In.f
  by_cases h : a ≥ b
  · rw [if_pos h]
    congr 1
    apply decide_eq_decide.2
    omega
  · rw [if_neg h]
    congr 1
    symm
    exact decide_eq_false (by omega)

/-! customers -/
/-- Customers, as both texts ask: seen from a place on, with the one ahead. -/
def custFrom : Option S50 → List S50 → Bool
  | _, [] => true
  | none, c :: cs => decide (0 ≤ c.f0 ∧ c.f0 ≤ 60 ∧ 1 ≤ c.f1 ∧ c.f1 ≤ 9) && custFrom (some c) cs
  | some p, c :: cs => decide (0 ≤ c.f0 ∧ c.f0 ≤ 60 ∧ 1 ≤ c.f1 ∧ c.f1 ≤ 9 ∧ p.f0 ≤ c.f0) && custFrom (some c) cs
def custOk (l : List S50) : Bool := custFrom none l && decide (l.length ≤ 8)
theorem rd_Customer_nat (l : List S50) (i : Nat) : rd_T50 l (i : Int) = l.getD i z50 := by
  unfold rd_T50
  rw [Int.toNat_natCast]
theorem cust_bad {p : Option S50} {x : S50} {xs : List S50} (h : ¬ (0 ≤ x.f0 ∧ x.f0 ≤ 60 ∧ 1 ≤ x.f1 ∧ x.f1 ≤ 9)) : custFrom p (x :: xs) = false := by
  cases p with
  | none => simp only [custFrom, decide_eq_false h, Bool.false_and]
  | some q => simp only [custFrom, decide_eq_false (show ¬ (0 ≤ x.f0 ∧ x.f0 ≤ 60 ∧ 1 ≤ x.f1 ∧ x.f1 ≤ 9 ∧ q.f0 ≤ x.f0) from fun hh => h ⟨hh.1, hh.2.1, hh.2.2.1, hh.2.2.2.1⟩), Bool.false_and]
theorem cust_bad2 {p x : S50} {xs : List S50} (h : x.f0 < p.f0) : custFrom (some p) (x :: xs) = false := by
  simp only [custFrom, decide_eq_false (show ¬ (0 ≤ x.f0 ∧ x.f0 ≤ 60 ∧ 1 ≤ x.f1 ∧ x.f1 ≤ 9 ∧ p.f0 ≤ x.f0) from fun hh => by omega), Bool.false_and]
theorem impl_CustomersOk_loop (l : List S50) (hl : l.length ≤ 1048576) : ∀ (suf : List S50) (i k : Nat), l.drop i = suf → suf.length < k → i ≤ l.length →
    impl_CustomersOk.l0 k l l (l.length : Int) i = some (custFrom (if i = 0 then none else some (l.getD (i - 1) z50)) suf && decide (l.length ≤ 8)) := by
  intro suf
  induction suf with
  | nil =>
    intro i k hd hk hi
    obtain ⟨k, rfl⟩ : ∃ m, k = m + 1 := ⟨k - 1, by omega⟩
    have := drop_nil hd
    simp only [impl_CustomersOk.l0]
    rw [if_neg (by omega)]
    congr 1
    have e : (decide ((l.length : Int) ≤ 8)) = decide (l.length ≤ 8) := decide_eq_decide.2 (by omega)
    rw [e]
    split <;> simp [custFrom]
  | cons x xs ih =>
    intro i k hd hk hi
    obtain ⟨k, rfl⟩ : ∃ m, k = m + 1 := ⟨k - 1, by omega⟩
    obtain ⟨hlt, hd2, hx⟩ := drop_split hd
    simp only [impl_CustomersOk.l0]
    rw [if_pos (by omega), if_pos (by omega), if_pos (by omega), rd_Customer_nat, hx, w64s i (by omega), ih (i + 1) k hd2 (by simp at hk; omega) (by omega)]
    rw [if_neg (show ¬ i + 1 = 0 by omega), show i + 1 - 1 = i from rfl, hx]
    by_cases h1 : x.f0 < 0
    · rw [if_pos h1, cust_bad (by omega), Bool.false_and]
    rw [if_neg h1]
    by_cases h2 : x.f0 > 60
    · rw [if_pos h2, cust_bad (by omega), Bool.false_and]
    rw [if_neg h2]
    by_cases hi0 : i = 0
    · subst hi0
      rw [if_neg (by omega)]
      by_cases h3 : x.f1 < 1
      · rw [if_pos h3, cust_bad (by omega), Bool.false_and]
      rw [if_neg h3]
      by_cases h4 : x.f1 > 9
      · rw [if_pos h4, cust_bad (by omega), Bool.false_and]
      rw [if_neg h4, if_pos rfl]
      have e : decide (0 ≤ x.f0 ∧ x.f0 ≤ 60 ∧ 1 ≤ x.f1 ∧ x.f1 ≤ 9) = true := decide_eq_true (by omega)
      simp only [custFrom, e, Bool.true_and]
    · rw [if_pos (by omega), show wrap64 ((i : Int) - 1) = ((i - 1 : Nat) : Int) from by rw [w64 (by omega) (by omega)]; omega, if_pos (by omega), if_pos (by omega), rd_Customer_nat, if_neg hi0]
      by_cases h5 : x.f0 < (l.getD (i - 1) z50).f0
      · rw [if_pos h5, cust_bad2 h5, Bool.false_and]
      rw [if_neg h5]
      by_cases h3 : x.f1 < 1
      · rw [if_pos h3, cust_bad (by omega), Bool.false_and]
      rw [if_neg h3]
      by_cases h4 : x.f1 > 9
      · rw [if_pos h4, cust_bad (by omega), Bool.false_and]
      rw [if_neg h4]
      have e : decide (0 ≤ x.f0 ∧ x.f0 ≤ 60 ∧ 1 ≤ x.f1 ∧ x.f1 ≤ 9 ∧ (l.getD (i - 1) z50).f0 ≤ x.f0) = true := decide_eq_true (by omega)
      simp only [custFrom, e, Bool.true_and]
theorem impl_CustomersOk_is (l : List S50) (hl : l.length ≤ 1048576) (k : Nat) (hk : l.length < k) : impl_CustomersOk.f k l = some (custOk l) := by
  unfold impl_CustomersOk.f
  exact impl_CustomersOk_loop l hl l 0 k rfl hk (by omega)

/-! custspec -/
theorem spec_CustomersOk_loop (l : List S50) (hl : l.length ≤ 1048576) : ∀ (suf : List S50) (i k : Nat), l.drop i = suf → suf.length < k → i ≤ l.length →
    spec_CustomersOk.l0 k l i = some (custFrom (if i = 0 then none else some (l.getD (i - 1) z50)) suf && decide (l.length ≤ 8)) := by
  intro suf
  induction suf with
  | nil =>
    intro i k hd hk hi
    obtain ⟨k, rfl⟩ : ∃ m, k = m + 1 := ⟨k - 1, by omega⟩
    have := drop_nil hd
    simp only [spec_CustomersOk.l0]
    rw [if_neg (by omega)]
    congr 1
    have e : (decide ((l.length : Int) ≤ 8)) = decide (l.length ≤ 8) := decide_eq_decide.2 (by omega)
    rw [e]
    split <;> simp [custFrom]
  | cons x xs ih =>
    intro i k hd hk hi
    obtain ⟨k, rfl⟩ : ∃ m, k = m + 1 := ⟨k - 1, by omega⟩
    obtain ⟨hlt, hd2, hx⟩ := drop_split hd
    simp only [spec_CustomersOk.l0]
    rw [if_pos (by omega), if_pos (by omega), rd_Customer_nat, hx, spec_l1In_is, spec_l1In_is, w64s i (by omega), ih (i + 1) k hd2 (by simp at hk; omega) (by omega)]
    simp only [Option.bind_some, decide_eq_true_eq]
    rw [if_neg (show ¬ i + 1 = 0 by omega), show i + 1 - 1 = i from rfl, hx]
    by_cases h1 : 0 ≤ x.f0 ∧ x.f0 ≤ 60
    · rw [if_pos h1]
      by_cases h2 : 1 ≤ x.f1 ∧ x.f1 ≤ 9
      · rw [if_pos h2]
        by_cases hi0 : i = 0
        · subst hi0
          rw [if_neg (by omega), if_pos rfl]
          have e : decide (0 ≤ x.f0 ∧ x.f0 ≤ 60 ∧ 1 ≤ x.f1 ∧ x.f1 ≤ 9) = true := decide_eq_true (by omega)
          simp only [custFrom, e, Bool.true_and]
        · rw [if_pos (by omega), show wrap64 ((i : Int) - 1) = ((i - 1 : Nat) : Int) from by rw [w64 (by omega) (by omega)]; omega, if_pos (by omega), if_pos (by omega), rd_Customer_nat, if_neg hi0]
          by_cases h5 : x.f0 < (l.getD (i - 1) z50).f0
          · rw [if_pos h5, cust_bad2 h5, Bool.false_and]
          rw [if_neg h5]
          have e : decide (0 ≤ x.f0 ∧ x.f0 ≤ 60 ∧ 1 ≤ x.f1 ∧ x.f1 ≤ 9 ∧ (l.getD (i - 1) z50).f0 ≤ x.f0) = true := decide_eq_true (by omega)
          simp only [custFrom, e, Bool.true_and]
      · rw [if_neg h2, cust_bad (by omega), Bool.false_and]
    · rw [if_neg h1, cust_bad (by omega), Bool.false_and]
theorem spec_CustomersOk_is (l : List S50) (hl : l.length ≤ 1048576) (k : Nat) (hk : l.length < k) : spec_CustomersOk.f k l = some (custOk l) := by
  unfold spec_CustomersOk.f
  exact spec_CustomersOk_loop l hl l 0 k rfl hk (by omega)

/-! setdrop -/
theorem set_append_drop {α : Type} (X : List α) (v : α) {i : Nat} (h : i < X.length) : (X.set i v).take (i + 1) = X.take i ++ [v] ∧ (X.set i v).drop (i + 1) = X.drop (i + 1) := by
  constructor
  · rw [List.take_succ_eq_append_getElem (by rw [List.length_set]; exact h), List.take_set_of_le (Nat.le_refl _), List.getElem_set_self]
  · rw [List.drop_set_of_lt (by omega)]

/-! exactcust -/
theorem szCustomerS_is (l : List S79) (hl : l.length ≤ maxLen) (a : Int) (h0 : 0 ≤ a) (h1 : a ≤ 1048576) : laws_szCustomerS.f l a = some (if (l.length : Int) ≤ a then a - l.length else -1) := by
  unfold maxLen at hl
  unfold laws_szCustomerS.f
  rw [show wrap64 (a - (l.length : Int)) = a - l.length from w64 (by omega) (by omega)]
  by_cases h : (l.length : Int) ≤ a
  · rw [if_neg (by omega), if_pos h]
  · rw [if_pos (by omega), if_neg h]
def toC (c : S79) : S50 := ⟨c.f0, c.f1⟩
theorem rd_LCustomer_nat (l : List S79) (i : Nat) : rd_T79 l (i : Int) = l.getD i z79 := by
  unfold rd_T79
  rw [Int.toNat_natCast]
theorem toCustomerS_loop (l : List S79) (hl : l.length ≤ 1048576) : ∀ (suf : List S79) (i k : Nat) (X : List S50), l.drop i = suf → suf.length < k → i ≤ l.length → X.length = l.length →
    laws_toCustomerS.l0 k l X i = some (X.take i ++ suf.map toC) := by
  intro suf
  induction suf with
  | nil =>
    intro i k X hd hk hi hX
    obtain ⟨k, rfl⟩ : ∃ m, k = m + 1 := ⟨k - 1, by omega⟩
    have := drop_nil hd
    simp only [laws_toCustomerS.l0]
    rw [if_neg (by omega), List.take_of_length_le (by omega)]
    simp
  | cons x xs ih =>
    intro i k X hd hk hi hX
    obtain ⟨k, rfl⟩ : ∃ m, k = m + 1 := ⟨k - 1, by omega⟩
    obtain ⟨hlt, hd2, hx⟩ := drop_split hd
    simp only [laws_toCustomerS.l0, laws_toCustomer.f, Option.bind_some]
    rw [if_pos (by omega), if_pos (by omega), if_pos (by omega), rd_LCustomer_nat, hx, w64s i (by omega), Int.toNat_natCast]
    obtain ⟨e1, -⟩ := set_append_drop X (⟨x.f0, x.f1⟩ : S50) (i := i) (by omega)
    rw [ih (i + 1) k _ hd2 (by simp at hk; omega) (by omega) (by rw [List.length_set]; exact hX), e1]
    simp [toC]
theorem toCustomerS_is (l : List S79) (hl : l.length ≤ 1048576) (k : Nat) (hk : l.length < k) : laws_toCustomerS.f k l = some (l.map toC) := by
  unfold laws_toCustomerS.f
  rw [if_pos (by omega), if_pos (by omega)]
  exact toCustomerS_loop l hl l 0 k _ rfl hk (by omega) (by simp)
theorem eqCustomerS_loop (a : List S50) (ha : a.length ≤ 1048576) : ∀ (suf : List S50) (i k : Nat), a.drop i = suf → suf.length < k → laws_eqCustomerS.l0 k a a i = some true := by
  intro suf
  induction suf with
  | nil =>
    intro i k hd hk
    obtain ⟨k, rfl⟩ : ∃ m, k = m + 1 := ⟨k - 1, by omega⟩
    have := drop_nil hd
    simp only [laws_eqCustomerS.l0]
    rw [if_neg (by omega)]
  | cons x xs ih =>
    intro i k hd hk
    obtain ⟨k, rfl⟩ : ∃ m, k = m + 1 := ⟨k - 1, by omega⟩
    obtain ⟨hlt, hd2, hx⟩ := drop_split hd
    have e : ∀ p q, laws_eqCustomer.f p q p q = some true := by intro p q; unfold laws_eqCustomer.f; rw [if_pos rfl, if_pos rfl]
    simp only [laws_eqCustomerS.l0]
    rw [if_pos (by omega), if_pos (by omega), if_pos (by omega), e]
    simp only [Option.bind_some]
    rw [if_pos trivial, w64s i (by omega), ih (i + 1) k hd2 (by simp at hk; omega)]
theorem eqCustomerS_is (a : List S50) (ha : a.length ≤ 1048576) (k : Nat) (hk : a.length < k) : laws_eqCustomerS.f k a a = some true := by
  unfold laws_eqCustomerS.f
  rw [if_pos rfl]
  exact eqCustomerS_loop a ha a 0 k rfl hk

/-! exactdesk -/
def small (past : List (List S79)) : Nat := (past.map List.length).foldr (· + ·) 0
theorem rdd_L_nat (l : List (List S79)) (i : Nat) : rd_L4 l (i : Int) = l.getD i [] := by
  unfold rd_L4
  rw [Int.toNat_natCast]
theorem rdd_nat (l : List (List S50)) (i : Nat) : rd_L2 l (i : Int) = l.getD i [] := by
  unfold rd_L2
  rw [Int.toNat_natCast]
/-- What is left is told, or too much came in. -/
theorem szSS_loop (l : List (List S79)) (hl : l.length ≤ 1048576) (hm : ∀ x ∈ l, x.length ≤ maxLen) : ∀ (suf : List (List S79)) (i k : Nat) (a : Int), l.drop i = suf → suf.length < k → i ≤ l.length → 0 ≤ a → a ≤ 1048576 →
    ∃ r, laws_szCustomerSS.l0 k l a i = some r ∧ (r < 0 ∨ (r ≤ a ∧ ∀ x ∈ suf, x.length ≤ 1048576)) := by
  intro suf
  induction suf with
  | nil =>
    intro i k a hd hk hi h0 h1
    obtain ⟨k, rfl⟩ : ∃ m, k = m + 1 := ⟨k - 1, by omega⟩
    have := drop_nil hd
    simp only [laws_szCustomerSS.l0]
    rw [if_neg (by omega)]
    exact ⟨a, rfl, .inr ⟨Int.le_refl _, fun x hx => by cases hx⟩⟩
  | cons x xs ih =>
    intro i k a hd hk hi h0 h1
    obtain ⟨k, rfl⟩ : ∃ m, k = m + 1 := ⟨k - 1, by omega⟩
    obtain ⟨hlt, hd2, hx⟩ := drop_split hd
    have hxl := hm x (by rw [← hx []]; exact getD_mem hlt _)
    simp only [laws_szCustomerSS.l0]
    rw [if_pos (by omega), if_pos (by omega), rdd_L_nat, hx, szCustomerS_is x hxl a h0 h1]
    simp only [Option.bind_some]
    by_cases h : (x.length : Int) ≤ a
    · rw [if_pos h, if_neg (by omega), w64s i (by omega)]
      obtain ⟨r, e, hr⟩ := ih (i + 1) k (a - x.length) hd2 (by simp at hk; omega) (by omega) (by omega) (by omega)
      refine ⟨r, e, ?_⟩
      rcases hr with hr | ⟨hr, hs⟩
      · exact .inl hr
      · refine .inr ⟨by omega, fun y hy => ?_⟩
        rcases List.mem_cons.1 hy with rfl | hy
        · omega
        · exact hs y hy
    · rw [if_neg h, if_pos (by decide)]
      exact ⟨-1, rfl, .inl (by decide)⟩
theorem szDesk_is (now : List S79) (past : List (List S79)) (hn : now.length ≤ maxLen) (hp : past.length ≤ maxLen) (hm : ∀ x ∈ past, x.length ≤ maxLen) (k : Nat) (hk : (past.length ≤ 1048576 → past.length < k)) :
    ∃ r, laws_szDesk.f k now past 1048576 = some r ∧ (r < 0 ∨ (now.length ≤ 1048576 ∧ past.length ≤ 1048576 ∧ ∀ x ∈ past, x.length ≤ 1048576)) := by
  unfold laws_szDesk.f
  rw [szCustomerS_is now hn 1048576 (by omega) (by omega)]
  simp only [Option.bind_some]
  by_cases h : (now.length : Int) ≤ 1048576
  · rw [if_pos h, if_neg (by omega)]
    unfold laws_szCustomerSS.f
    unfold maxLen at hp
    rw [show wrap64 (1048576 - (now.length : Int) - (past.length : Int)) = 1048576 - now.length - past.length from w64 (by omega) (by omega)]
    by_cases h2 : 1048576 - (now.length : Int) - past.length < 0
    · rw [if_pos h2]
      simp only [Option.bind_some]
      rw [if_pos (by decide)]
      exact ⟨-1, rfl, .inl (by decide)⟩
    · rw [if_neg h2]
      obtain ⟨r, e, hr⟩ := szSS_loop past (by omega) hm past 0 k (1048576 - now.length - past.length) rfl (hk (by omega)) (by omega) (by omega) (by omega)
      rw [show ((0 : Nat) : Int) = 0 from rfl] at e
      rw [e]
      simp only [Option.bind_some]
      by_cases h3 : r < 0
      · rw [if_pos h3]; exact ⟨-1, rfl, .inl (by decide)⟩
      · rw [if_neg h3]
        rcases hr with hr | ⟨hr, hs⟩
        · exact absurd hr h3
        · exact ⟨r, rfl, .inr ⟨by omega, by omega, hs⟩⟩
  · rw [if_neg h, if_pos (by decide)]
    exact ⟨-1, rfl, .inl (by decide)⟩
theorem toCustomerSS_loop (l : List (List S79)) (hl : l.length ≤ 1048576) (hm : ∀ x ∈ l, x.length ≤ 1048576) : ∀ (suf : List (List S79)) (i k : Nat) (X : List (List S50)), l.drop i = suf → suf.length + 1048577 < k → i ≤ l.length → X.length = l.length →
    laws_toCustomerSS.l0 k l X i = some (X.take i ++ suf.map (List.map toC)) := by
  intro suf
  induction suf with
  | nil =>
    intro i k X hd hk hi hX
    obtain ⟨k, rfl⟩ : ∃ m, k = m + 1 := ⟨k - 1, by omega⟩
    have := drop_nil hd
    simp only [laws_toCustomerSS.l0]
    rw [if_neg (by omega), List.take_of_length_le (by omega)]
    simp
  | cons x xs ih =>
    intro i k X hd hk hi hX
    obtain ⟨k, rfl⟩ : ∃ m, k = m + 1 := ⟨k - 1, by omega⟩
    obtain ⟨hlt, hd2, hx⟩ := drop_split hd
    have hxl := hm x (by rw [← hx []]; exact getD_mem hlt _)
    simp only [laws_toCustomerSS.l0]
    simp only [List.length_cons] at hk
    rw [if_pos (by omega), if_pos (by omega), rdd_L_nat, hx, toCustomerS_is x hxl k (by omega)]
    simp only [Option.bind_some]
    rw [if_pos (by omega), w64s i (by omega), Int.toNat_natCast]
    obtain ⟨e1, -⟩ := set_append_drop X (x.map toC) (i := i) (by omega)
    rw [ih (i + 1) k _ hd2 (by omega) (by omega) (by rw [List.length_set]; exact hX), e1]
    simp
theorem toDesk_is (now : List S79) (past : List (List S79)) (hn : now.length ≤ 1048576) (hp : past.length ≤ 1048576) (hm : ∀ x ∈ past, x.length ≤ 1048576) (k : Nat) (hk : 3000000 ≤ k) : laws_toDesk.f k now past = some (now.map toC, past.map (List.map toC)) := by
  unfold laws_toDesk.f laws_toCustomerSS.f
  rw [toCustomerS_is now hn k (by omega)]
  simp only [Option.bind_some]
  rw [if_pos (by omega), if_pos (by omega)]
  have h := toCustomerSS_loop past hp hm past 0 k (List.replicate ((past.length : Int)).toNat []) rfl (by omega) (by omega) (by simp)
  rw [show ((0 : Nat) : Int) = 0 from rfl] at h
  rw [h]
  rfl
theorem eqCustomerSS_loop (a : List (List S50)) (ha : a.length ≤ 1048576) (hm : ∀ x ∈ a, x.length ≤ 1048576) : ∀ (suf : List (List S50)) (i k : Nat), a.drop i = suf → suf.length + 1048577 < k → laws_eqCustomerSS.l0 k a a i = some true := by
  intro suf
  induction suf with
  | nil =>
    intro i k hd hk
    obtain ⟨k, rfl⟩ : ∃ m, k = m + 1 := ⟨k - 1, by omega⟩
    have := drop_nil hd
    simp only [laws_eqCustomerSS.l0]
    rw [if_neg (by omega)]
  | cons x xs ih =>
    intro i k hd hk
    obtain ⟨k, rfl⟩ : ∃ m, k = m + 1 := ⟨k - 1, by omega⟩
    obtain ⟨hlt, hd2, hx⟩ := drop_split hd
    have hxl := hm x (by rw [← hx []]; exact getD_mem hlt _)
    simp only [laws_eqCustomerSS.l0]
    simp only [List.length_cons] at hk
    rw [if_pos (by omega), if_pos (by omega), if_pos (by omega), rdd_nat, hx, eqCustomerS_is x hxl k (by omega)]
    simp only [Option.bind_some]
    rw [if_pos trivial, w64s i (by omega), ih (i + 1) k hd2 (by omega)]
theorem eqDesk_is (now : List S50) (past : List (List S50)) (hn : now.length ≤ 1048576) (hp : past.length ≤ 1048576) (hm : ∀ x ∈ past, x.length ≤ 1048576) (k : Nat) (hk : 3000000 ≤ k) : laws_eqDesk.f k now past now past = some true := by
  unfold laws_eqDesk.f laws_eqCustomerSS.f
  rw [eqCustomerS_is now hn k (by omega)]
  simp only [Option.bind_some]
  rw [if_pos trivial, if_pos trivial]
  have h := eqCustomerSS_loop past hp hm past 0 k rfl (by omega)
  rw [show ((0 : Nat) : Int) = 0 from rfl] at h
  rw [h]
  rfl

/-! deskok -/
/-- A desk, as both texts ask. -/
def deskOk (now : List S50) (past : List (List S50)) : Bool := past.all custOk && (custOk now && decide (past.length ≤ 8))
theorem impl_DeskOk_loop (now : List S50) (past : List (List S50)) (hn : now.length ≤ 1048576) (hp : past.length ≤ 1048576) (hm : ∀ x ∈ past, x.length ≤ 1048576) : ∀ (suf : List (List S50)) (i k : Nat), past.drop i = suf → suf.length + 1048577 < k → i ≤ past.length →
    impl_DeskOk.l0 k past (past.length : Int) i now past = some (suf.all custOk && (custOk now && decide (past.length ≤ 8))) := by
  intro suf
  induction suf with
  | nil =>
    intro i k hd hk hi
    obtain ⟨k, rfl⟩ : ∃ m, k = m + 1 := ⟨k - 1, by omega⟩
    have := drop_nil hd
    simp only [impl_DeskOk.l0]
    rw [if_neg (by omega), impl_CustomersOk_is now hn k (by omega)]
    simp only [Option.bind_some]
    have e : (decide ((past.length : Int) ≤ 8)) = decide (past.length ≤ 8) := decide_eq_decide.2 (by omega)
    rw [e]
    by_cases h : custOk now = true
    · rw [if_pos h]; simp [h]
    · rw [if_neg h]; simp [h]
  | cons x xs ih =>
    intro i k hd hk hi
    obtain ⟨k, rfl⟩ : ∃ m, k = m + 1 := ⟨k - 1, by omega⟩
    obtain ⟨hlt, hd2, hx⟩ := drop_split hd
    have hxl := hm x (by rw [← hx []]; exact getD_mem hlt _)
    simp only [impl_DeskOk.l0]
    simp only [List.length_cons] at hk
    rw [if_pos (by omega), if_pos (by omega), if_pos (by omega), rdd_nat, hx, impl_CustomersOk_is x hxl k (by omega), w64s i (by omega), ih (i + 1) k hd2 (by omega) (by omega)]
    simp only [Option.bind_some]
    by_cases h : custOk x = true
    · rw [if_pos h]; simp [h]
    · rw [if_neg h]; simp [h]
theorem impl_DeskOk_is (now : List S50) (past : List (List S50)) (hn : now.length ≤ 1048576) (hp : past.length ≤ 1048576) (hm : ∀ x ∈ past, x.length ≤ 1048576) (k : Nat) (hk : 3000000 ≤ k) : impl_DeskOk.f k now past = some (deskOk now past) := by
  unfold impl_DeskOk.f
  exact impl_DeskOk_loop now past hn hp hm past 0 k rfl (by omega) (by omega)
theorem spec_DeskOk_loop (now : List S50) (past : List (List S50)) (hn : now.length ≤ 1048576) (hp : past.length ≤ 1048576) (hm : ∀ x ∈ past, x.length ≤ 1048576) : ∀ (suf : List (List S50)) (i k : Nat), past.drop i = suf → suf.length + 1048577 < k → i ≤ past.length →
    spec_DeskOk.l0 k i now past = some (suf.all custOk && (custOk now && decide (past.length ≤ 8))) := by
  intro suf
  induction suf with
  | nil =>
    intro i k hd hk hi
    obtain ⟨k, rfl⟩ : ∃ m, k = m + 1 := ⟨k - 1, by omega⟩
    have := drop_nil hd
    simp only [spec_DeskOk.l0]
    rw [if_neg (by omega), spec_CustomersOk_is now hn k (by omega)]
    simp only [Option.bind_some]
    have e : (decide ((past.length : Int) ≤ 8)) = decide (past.length ≤ 8) := decide_eq_decide.2 (by omega)
    rw [e]
    by_cases h : custOk now = true
    · rw [if_pos h]; simp [h]
    · rw [if_neg h]; simp [h]
  | cons x xs ih =>
    intro i k hd hk hi
    obtain ⟨k, rfl⟩ : ∃ m, k = m + 1 := ⟨k - 1, by omega⟩
    obtain ⟨hlt, hd2, hx⟩ := drop_split hd
    have hxl := hm x (by rw [← hx []]; exact getD_mem hlt _)
    simp only [spec_DeskOk.l0]
    simp only [List.length_cons] at hk
    rw [if_pos (by omega), if_pos (by omega), rdd_nat, hx, spec_CustomersOk_is x hxl k (by omega), w64s i (by omega), ih (i + 1) k hd2 (by omega) (by omega)]
    simp only [Option.bind_some]
    by_cases h : custOk x = true
    · rw [if_pos h]; simp [h]
    · rw [if_neg h]; simp [h]
theorem spec_DeskOk_is (now : List S50) (past : List (List S50)) (hn : now.length ≤ 1048576) (hp : past.length ≤ 1048576) (hm : ∀ x ∈ past, x.length ≤ 1048576) (k : Nat) (hk : 3000000 ≤ k) : spec_DeskOk.f k now past = some (deskOk now past) := by
  unfold spec_DeskOk.f
  exact spec_DeskOk_loop now past hn hp hm past 0 k rfl (by omega) (by omega)

/-! law_ExactDeskOk -/
theorem FnExactDeskOk : laws_FnExactDeskOk.Pure := by
  intro now past hn hp
  refine ⟨3000000, ?_⟩
  unfold laws_FnExactDeskOk.f
  obtain ⟨r, e, hr⟩ := szDesk_is now past hn.1 hp.1 (fun x hx => (hp.2 x hx).1) 3000000 (fun h => by omega)
  rw [e]; simp only [Option.bind_some]
  by_cases h0 : r < 0
  · rw [if_pos h0]
  · rw [if_neg h0]
    obtain ⟨h1, h2, h3⟩ := hr.resolve_left h0
    have g1 : (now.map toC).length ≤ 1048576 := by rw [List.length_map]; exact h1
    have g2 : (past.map (List.map toC)).length ≤ 1048576 := by rw [List.length_map]; exact h2
    have g3 : ∀ x ∈ past.map (List.map toC), x.length ≤ 1048576 := by
      intro x hx
      obtain ⟨y, hy, rfl⟩ := List.mem_map.1 hx
      rw [List.length_map]; exact h3 y hy
    rw [toDesk_is now past h1 h2 h3 _ (by omega)]; simp only [Option.bind_some]
    rw [spec_DeskOk_is _ _ g1 g2 g3 _ (by omega)]; simp only [Option.bind_some]
    rw [impl_DeskOk_is _ _ g1 g2 g3 _ (by omega)]; simp only [Option.bind_some]
    rw [if_neg (by simp), eqDesk_is _ _ g1 g2 g3 _ (by omega)]; rfl

end Go.Proofs.Ytocnifoohecmeaa.Pure
