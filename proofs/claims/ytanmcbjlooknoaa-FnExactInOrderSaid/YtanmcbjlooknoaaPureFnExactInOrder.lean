/- The pure part of the proof of FnExactInOrder: the printed functions answer true, for every drawn or given argument within the row's own bounds; no further condition. -/
import Derived.Test.YtanmcbjlooknoaaPFnExactInOrderx4
import Derived.Laws.BitsLemmas
namespace Go.Proofs.Ytanmcbjlooknoaa.Pure
open Go.RowKit Go.Proofs.Ytanmcbjlooknoaa.PFnExactInOrder Go.Proofs.YtanmcbjlooknoaaW.PrintWords Go.Proofs.YtanmcbjlooknoaaW.PrintLast Go.Proofs.YtanmcbjlooknoaaW.PrintMore
set_option linter.unusedVariables false
set_option linter.unusedSimpArgs false
/-! base -/
theorem w64 {x : Int} (h0 : -9223372036854775808 ≤ x) (h1 : x ≤ 9223372036854775807) : wrap64 x = x := by
  unfold wrap64
  omega
theorem w64s (n : Nat) (h : n ≤ 4611686018427387904) : wrap64 ((n : Int) + 1) = ((n + 1 : Nat) : Int) := by
  unfold wrap64
  omega
theorem drop_split {α : Type} {l : List α} {i : Nat} {x : α} {xs : List α} (h : l.drop i = x :: xs) : i < l.length ∧ l.drop (i + 1) = xs ∧ ∀ d, l.getD i d = x := by
  have hi : i < l.length := by
    have h2 : 0 < (l.drop i).length := by rw [h]; simp
    rw [List.length_drop] at h2
    omega
  rw [List.drop_eq_getElem_cons hi] at h
  injection h with h1 h2
  exact ⟨hi, h2, fun d => by rw [List.getD_eq_getElem?_getD, List.getElem?_eq_getElem hi, h1]; rfl⟩
theorem drop_nil {α : Type} {l : List α} {i : Nat} (h : l.drop i = []) : l.length ≤ i := List.drop_eq_nil_iff.1 h
theorem getD_lt {α : Type} {l : List α} {i : Nat} (h : i < l.length) (d : α) : l.getD i d = l[i] := by
  rw [List.getD_eq_getElem?_getD, List.getElem?_eq_getElem h]; rfl
theorem rd_nat (l : List Int) (i : Nat) : rd l (i : Int) = l.getD i 0 := by
  unfold rd
  rw [Int.toNat_natCast]
theorem getD_mem {α : Type} {l : List α} {i : Nat} (h : i < l.length) (d : α) : l.getD i d ∈ l := by
  rw [getD_lt h]; exact List.getElem_mem h
theorem take_succ_getD {α : Type} {l : List α} {i : Nat} (h : i < l.length) (d : α) : l.take (i + 1) = l.take i ++ [l.getD i d] := by
  rw [getD_lt h, List.take_succ_eq_append_getElem h]
theorem mx_max (a b : Int) : mx a b = max a b := by
  unfold mx; omega
theorem mn_min (a b : Int) : mn a b = min a b := by
  unfold mn; omega
theorem bind_of {α β : Type} {o : Option α} {r : α} {f : α → Option β} {s : Option β} (h : o = some r) (h2 : f r = s) : o.bind f = s := by rw [h]; exact h2
theorem getD_snoc_last {α : Type} (l : List α) (x d : α) {i : Nat} (h : l.length = i) : (l ++ [x]).getD i d = x := by
  subst h
  rw [List.getD_eq_getElem?_getD, List.getElem?_append_right (Nat.le_refl _), Nat.sub_self]
  rfl
theorem getD_snoc_lt {α : Type} (l r : List α) (d : α) {i : Nat} (h : i < l.length) : (l ++ r).getD i d = l.getD i d := by
  rw [List.getD_eq_getElem?_getD, List.getElem?_append_left h, List.getD_eq_getElem?_getD]

/-! l1in -/
theorem spec_l1In_is (a b c : Int) : spec_l1In.f a b c = some (decide (b ≤ a ∧ a ≤ c)) := by
  unfold spec_l1In.f
  by_cases h : a ≥ b
  · rw [if_pos h]
    congr 1
    apply decide_eq_decide.2
    omega
  · rw [if_neg h]
    congr 1
    symm
    exact decide_eq_false (by omega)

/-! both -/
/-- Customers of two counters, as both texts ask. -/
def bothOk (l : List S31) : Bool := decide ((∀ b ∈ l, 1 ≤ b.f0 ∧ b.f0 ≤ 9 ∧ 1 ≤ b.f1 ∧ b.f1 ≤ 9) ∧ 1 ≤ l.length ∧ l.length ≤ 6)
theorem bothOk_mem {l : List S31} (h : bothOk l = true) : ∀ b ∈ l, 1 ≤ b.f0 ∧ b.f0 ≤ 9 ∧ 1 ≤ b.f1 ∧ b.f1 ≤ 9 := (of_decide_eq_true h).1
theorem bothOk_len {l : List S31} (h : bothOk l = true) : 1 ≤ l.length ∧ l.length ≤ 6 := (of_decide_eq_true h).2
theorem bothOk_take {l : List S31} (h : bothOk l = true) (n : Nat) (hn : 1 ≤ n) : bothOk (l.take n) = true := by
  have h1 := bothOk_mem h
  have h2 := bothOk_len h
  exact decide_eq_true ⟨fun b hb => h1 b (List.mem_of_mem_take hb), by rw [List.length_take]; omega, by rw [List.length_take]; omega⟩
theorem rd_Both_nat (l : List S31) (i : Nat) : rd_T31 l (i : Int) = l.getD i z31 := by
  unfold rd_T31
  rw [Int.toNat_natCast]
theorem impl_BothOk_loop (l : List S31) (hl : l.length ≤ 1048576) : ∀ (suf : List S31) (i k : Nat), l.drop i = suf → suf.length < k → i ≤ l.length →
    impl_BothOk.l0 k l l (l.length : Int) i = some (decide ((∀ b ∈ suf, 1 ≤ b.f0 ∧ b.f0 ≤ 9 ∧ 1 ≤ b.f1 ∧ b.f1 ≤ 9) ∧ 1 ≤ l.length ∧ l.length ≤ 6)) := by
  intro suf
  induction suf with
  | nil =>
    intro i k hd hk hi
    obtain ⟨k, rfl⟩ : ∃ m, k = m + 1 := ⟨k - 1, by omega⟩
    have := drop_nil hd
    simp only [impl_BothOk.l0]
    rw [if_neg (by omega)]
    by_cases h1 : (l.length : Int) ≥ 1
    · rw [if_pos h1]
      congr 1
      apply decide_eq_decide.2
      constructor
      · intro h; exact ⟨by simp, by omega, by omega⟩
      · intro h; omega
    · rw [if_neg h1]
      congr 1
      symm
      exact decide_eq_false (fun h => by omega)
  | cons x xs ih =>
    intro i k hd hk hi
    obtain ⟨k, rfl⟩ : ∃ m, k = m + 1 := ⟨k - 1, by omega⟩
    obtain ⟨hlt, hd2, hx⟩ := drop_split hd
    simp only [impl_BothOk.l0]
    rw [if_pos (by omega), if_pos (by omega), if_pos (by omega), rd_Both_nat, hx, w64s i (by omega), ih (i + 1) k hd2 (by simp at hk; omega) (by omega)]
    repeat' split
    all_goals congr 1
    any_goals
      symm
      apply decide_eq_false
      intro h
      have := h.1 x (by simp)
      omega
    apply decide_eq_decide.2
    constructor
    · intro h
      refine ⟨fun b hb => ?_, h.2⟩
      rcases List.mem_cons.1 hb with rfl | hb
      · omega
      · exact h.1 b hb
    · intro h
      exact ⟨fun b hb => h.1 b (List.mem_cons_of_mem _ hb), h.2⟩
theorem impl_BothOk_is (l : List S31) (hl : l.length ≤ 1048576) (k : Nat) (hk : l.length < k) : impl_BothOk.f k l = some (bothOk l) :=
  impl_BothOk_loop l hl l 0 k rfl hk (by omega)
theorem spec_BothOk_loop (l : List S31) (hl : l.length ≤ 1048576) : ∀ (suf : List S31) (i k : Nat), l.drop i = suf → suf.length < k → i ≤ l.length →
    spec_BothOk.l0 k l i = some (decide ((∀ b ∈ suf, 1 ≤ b.f0 ∧ b.f0 ≤ 9 ∧ 1 ≤ b.f1 ∧ b.f1 ≤ 9) ∧ 1 ≤ l.length ∧ l.length ≤ 6)) := by
  intro suf
  induction suf with
  | nil =>
    intro i k hd hk hi
    obtain ⟨k, rfl⟩ : ∃ m, k = m + 1 := ⟨k - 1, by omega⟩
    have := drop_nil hd
    simp only [spec_BothOk.l0]
    rw [if_neg (by omega), spec_l1In_is]
    simp only [Option.bind_some]
    congr 1
    apply decide_eq_decide.2
    constructor
    · intro h; exact ⟨by simp, by omega, by omega⟩
    · intro h; omega
  | cons x xs ih =>
    intro i k hd hk hi
    obtain ⟨k, rfl⟩ : ∃ m, k = m + 1 := ⟨k - 1, by omega⟩
    obtain ⟨hlt, hd2, hx⟩ := drop_split hd
    simp only [spec_BothOk.l0]
    rw [if_pos (by omega), if_pos (by omega), rd_Both_nat, hx, spec_l1In_is, spec_l1In_is, w64s i (by omega), ih (i + 1) k hd2 (by simp at hk; omega) (by omega)]
    simp only [Option.bind_some, decide_eq_true_eq]
    repeat' split
    all_goals congr 1
    any_goals
      symm
      apply decide_eq_false
      intro h
      have := h.1 x (by simp)
      omega
    apply decide_eq_decide.2
    constructor
    · intro h
      refine ⟨fun b hb => ?_, h.2⟩
      rcases List.mem_cons.1 hb with rfl | hb
      · omega
      · exact h.1 b hb
    · intro h
      exact ⟨fun b hb => h.1 b (List.mem_cons_of_mem _ hb), h.2⟩
theorem spec_BothOk_is (l : List S31) (hl : l.length ≤ 1048576) (k : Nat) (hk : l.length < k) : spec_BothOk.f k l = some (bothOk l) :=
  spec_BothOk_loop l hl l 0 k rfl hk (by omega)

/-! once_impl -/
/-- Each number of a row lies in 0..many-1, and is not among those ahead. -/
def onceFrom (many : Int) : List Int → List Int → Bool
  | _, [] => true
  | seen, x :: xs => decide (0 ≤ x ∧ x < many ∧ ¬ x ∈ seen) && onceFrom many (seen ++ [x]) xs
def onceP (row : List Int) (many : Int) : Bool := onceFrom many [] row && decide (1 ≤ many ∧ many ≤ 6 ∧ (row.length : Int) = many)
theorem once_bad {many x : Int} {seen xs : List Int} (h : ¬ (0 ≤ x ∧ x < many ∧ ¬ x ∈ seen)) : onceFrom many seen (x :: xs) = false := by
  simp only [onceFrom, decide_eq_false h, Bool.false_and]
theorem once_good {many x : Int} {seen xs : List Int} (h : 0 ≤ x ∧ x < many ∧ ¬ x ∈ seen) : onceFrom many seen (x :: xs) = onceFrom many (seen ++ [x]) xs := by
  simp only [onceFrom, decide_eq_true h, Bool.true_and]
theorem index_all (F : List Int) (v : Int) (hF : F.length ≤ 1048576) : ∀ (suf : List Int) (i k : Nat), F.drop i = suf → suf.length < k → i ≤ F.length → ∃ r, slices_Index_int_int.l0 k F v (F.length : Int) i = some r ∧ (r ≥ 0 ↔ v ∈ suf) := by
  intro suf
  induction suf with
  | nil =>
    intro i k hd hk hi
    obtain ⟨k, rfl⟩ : ∃ m, k = m + 1 := ⟨k - 1, by omega⟩
    have := drop_nil hd
    simp only [slices_Index_int_int.l0]
    rw [if_neg (by omega)]
    exact ⟨-1, rfl, by simp⟩
  | cons x xs ih =>
    intro i k hd hk hi
    obtain ⟨k, rfl⟩ : ∃ m, k = m + 1 := ⟨k - 1, by omega⟩
    obtain ⟨hlt, hd2, hx⟩ := drop_split hd
    simp only [slices_Index_int_int.l0]
    rw [if_pos (by omega), if_pos (by omega), if_pos (by omega), rd_nat, hx]
    by_cases hv : v = x
    · rw [if_pos hv]; exact ⟨(i : Int), rfl, by rw [hv]; simp⟩
    · rw [if_neg hv, w64s i (by omega)]
      obtain ⟨r, e, hr⟩ := ih (i + 1) k hd2 (by simp at hk; omega) (by omega)
      exact ⟨r, e, by rw [hr, List.mem_cons]; simp [hv]⟩
theorem contains_is (F : List Int) (v : Int) (hF : F.length ≤ 1048576) (k : Nat) (hk : F.length < k) : slices_Contains_int_int.f k F v = some (decide (v ∈ F)) := by
  unfold slices_Contains_int_int.f slices_Index_int_int.f
  obtain ⟨r, e, hr⟩ := index_all F v hF F 0 k rfl hk (by omega)
  rw [show ((0 : Nat) : Int) = 0 from rfl] at e
  rw [e]
  simp only [Option.bind_some]
  congr 1
  exact decide_eq_decide.2 hr
theorem impl_EachOnce_loop (row : List Int) (many : Int) (hl : row.length ≤ 1048576) : ∀ (suf : List Int) (i k : Nat), row.drop i = suf → row.length + suf.length + 2 < k → i ≤ row.length →
    impl_EachOnce.l0 k row many row (row.length : Int) i = some (onceFrom many (row.take i) suf && decide (1 ≤ many ∧ many ≤ 6 ∧ (row.length : Int) = many)) := by
  intro suf
  induction suf with
  | nil =>
    intro i k hd hk hi
    obtain ⟨k, rfl⟩ : ∃ m, k = m + 1 := ⟨k - 1, by omega⟩
    have := drop_nil hd
    simp only [impl_EachOnce.l0]
    rw [if_neg (by omega)]
    simp only [onceFrom, Bool.true_and]
    by_cases h1 : many ≥ 1
    · rw [if_pos h1]
      by_cases h2 : many ≤ 6
      · rw [if_pos h2]
        congr 1
        rw [Bool.eq_iff_iff]
        simp
        omega
      · rw [if_neg h2, decide_eq_false (by omega)]
    · rw [if_neg h1, decide_eq_false (by omega)]
  | cons x xs ih =>
    intro i k hd hk hi
    obtain ⟨k, rfl⟩ : ∃ m, k = m + 1 := ⟨k - 1, by omega⟩
    obtain ⟨hlt, hd2, hx⟩ := drop_split hd
    simp only [List.length_cons] at hk
    simp only [impl_EachOnce.l0]
    rw [if_pos (by omega), if_pos (by omega), if_pos (by omega), rd_nat, hx]
    by_cases h1 : x < 0
    · rw [if_pos h1, once_bad (by omega), Bool.false_and]
    rw [if_neg h1]
    by_cases h2 : x ≥ many
    · rw [if_pos h2, once_bad (by omega), Bool.false_and]
    rw [if_neg h2, if_pos (by omega), Int.toNat_natCast, contains_is (row.take i) x (by rw [List.length_take]; omega) k (by rw [List.length_take]; omega)]
    simp only [Option.bind_some, decide_eq_true_eq]
    by_cases h3 : x ∈ row.take i
    · rw [if_pos h3, once_bad (fun h => h.2.2 h3), Bool.false_and]
    rw [if_neg h3, w64s i (by omega), ih (i + 1) k hd2 (by omega) (by omega), once_good ⟨by omega, by omega, h3⟩]
    rw [take_succ_getD hlt 0, hx]
theorem impl_EachOnce_is (row : List Int) (many : Int) (hl : row.length ≤ 1048576) (k : Nat) (hk : 2 * row.length + 2 < k) : impl_EachOnce.f k row many = some (onceP row many) := by
  unfold impl_EachOnce.f onceP
  have h := impl_EachOnce_loop row many hl row 0 k rfl (by omega) (by omega)
  exact h
theorem onceFrom_mem {many : Int} : ∀ {xs seen : List Int}, onceFrom many seen xs = true → ∀ x ∈ xs, 0 ≤ x ∧ x < many := by
  intro xs
  induction xs with
  | nil => intro seen _ x hx; cases hx
  | cons y ys ih =>
    intro seen h x hx
    simp only [onceFrom, Bool.and_eq_true, decide_eq_true_eq] at h
    rcases List.mem_cons.1 hx with rfl | hx
    · exact ⟨h.1.1, h.1.2.1⟩
    · exact ih h.2 x hx
theorem onceP_mem {row : List Int} {many : Int} (h : onceP row many = true) : ∀ x ∈ row, 0 ≤ x ∧ x < many := by
  unfold onceP at h
  rw [Bool.and_eq_true] at h
  exact onceFrom_mem h.1
theorem onceP_len {row : List Int} {many : Int} (h : onceP row many = true) : (row.length : Int) = many ∧ 1 ≤ many ∧ many ≤ 6 := by
  unfold onceP at h
  rw [Bool.and_eq_true, decide_eq_true_eq] at h
  exact ⟨h.2.2.2, h.2.1, h.2.2.1⟩

/-! once_spec -/
theorem spec_EachOnce_inner (row : List Int) (many : Int) (hl : row.length ≤ 1048576) (i : Nat) (hi : i < row.length) (r : Bool) (K : Nat) (hnext : ∀ k, K ≤ k → spec_EachOnce.l0 k row many ((i + 1 : Nat) : Int) = some r) : ∀ (d j k : Nat), j + d = i → K + d + 1 ≤ k →
    spec_EachOnce.l1 k row many i j = some (decide (¬ row.getD i 0 ∈ (row.take i).drop j) && r) := by
  intro d
  induction d with
  | zero =>
    intro j k he hk
    obtain ⟨k, rfl⟩ : ∃ m, k = m + 1 := ⟨k - 1, by omega⟩
    simp only [spec_EachOnce.l1]
    rw [if_neg (by omega), w64s i (by omega), hnext k (by omega), List.drop_eq_nil_of_le (by rw [List.length_take]; omega)]
    simp
  | succ d ih =>
    intro j k he hk
    obtain ⟨k, rfl⟩ : ∃ m, k = m + 1 := ⟨k - 1, by omega⟩
    simp only [spec_EachOnce.l1]
    have hjl : j < (row.take i).length := by rw [List.length_take]; omega
    have hdr : (row.take i).drop j = row.getD j 0 :: (row.take i).drop (j + 1) := by
      rw [List.drop_eq_getElem_cons hjl, List.getElem_take, getD_lt (by omega)]
    rw [if_pos (by omega), if_pos (by omega), if_pos (by omega), if_pos (by omega), if_pos (by omega), rd_nat, rd_nat, hdr]
    by_cases h : row.getD j 0 = row.getD i 0
    · rw [if_pos h, h]; simp
    · rw [if_neg h, w64s j (by omega), ih (j + 1) k (by omega) (by omega)]
      congr 2
      apply decide_eq_decide.2
      rw [List.mem_cons]
      constructor
      · intro hh h2
        rcases h2 with h2 | h2
        · exact h h2.symm
        · exact hh h2
      · intro hh h2; exact hh (.inr h2)
theorem spec_EachOnce_loop (row : List Int) (many : Int) (hl : row.length ≤ 1048576) (hm0 : 0 ≤ many) (hm1 : many ≤ 1048576) : ∀ (suf : List Int) (i k : Nat), row.drop i = suf → (row.length + 2) * suf.length + 1 ≤ k → i ≤ row.length →
    spec_EachOnce.l0 k row many i = some (onceFrom many (row.take i) suf && decide (1 ≤ many ∧ many ≤ 6 ∧ (row.length : Int) = many)) := by
  intro suf
  induction suf with
  | nil =>
    intro i k hd hk hi
    obtain ⟨k, rfl⟩ : ∃ m, k = m + 1 := ⟨k - 1, by omega⟩
    have := drop_nil hd
    simp only [spec_EachOnce.l0]
    rw [if_neg (by omega), spec_l1In_is]
    simp only [onceFrom, Bool.true_and, Option.bind_some, decide_eq_true_eq]
    by_cases h1 : 1 ≤ many ∧ many ≤ 6
    · rw [if_pos h1]
      congr 1
      rw [Bool.eq_iff_iff]
      simp
      omega
    · rw [if_neg h1, decide_eq_false (fun h => h1 ⟨h.1, h.2.1⟩)]
  | cons x xs ih =>
    intro i k hd hk hi
    obtain ⟨k, rfl⟩ : ∃ m, k = m + 1 := ⟨k - 1, by omega⟩
    obtain ⟨hlt, hd2, hx⟩ := drop_split hd
    simp only [List.length_cons, Nat.mul_add, Nat.mul_one] at hk
    simp only [spec_EachOnce.l0]
    rw [if_pos (by omega), if_pos (by omega), rd_nat, hx, spec_l1In_is, show wrap64 (many - 1) = many - 1 from w64 (by omega) (by omega)]
    simp only [Option.bind_some, decide_eq_true_eq]
    by_cases h1 : 0 ≤ x ∧ x ≤ many - 1
    · rw [if_pos h1]
      have hin := spec_EachOnce_inner row many hl i hlt _ ((row.length + 2) * xs.length + 1) (fun k' hk' => ih (i + 1) k' hd2 hk' (by omega)) i 0 k (by omega) (by omega)
      rw [show ((0 : Nat) : Int) = 0 from rfl] at hin
      rw [hin, hx, List.drop_zero]
      by_cases h3 : x ∈ row.take i
      · rw [once_bad (fun h => h.2.2 h3), decide_eq_false (fun h => h h3), Bool.false_and, Bool.false_and]
      · rw [once_good ⟨h1.1, by omega, h3⟩, decide_eq_true h3, Bool.true_and, take_succ_getD hlt 0, hx]
    · rw [if_neg h1, once_bad (by omega), Bool.false_and]
theorem spec_EachOnce_is (row : List Int) (many : Int) (hl : row.length ≤ 1048576) (hm0 : 0 ≤ many) (hm1 : many ≤ 1048576) (k : Nat) (hk : (row.length + 2) * row.length + 1 ≤ k) : spec_EachOnce.f k row many = some (onceP row many) := by
  unfold spec_EachOnce.f onceP
  exact spec_EachOnce_loop row many hl hm0 hm1 row 0 k rfl hk (by omega)

/-! inorder -/
/-- The customers in an order. -/
def picked (l : List S31) (row : List Int) : List S31 := row.map fun i => l.getD i.toNat z31
theorem impl_inOrder_loop (l : List S31) (row : List Int) (hl : row.length ≤ 1048576) (hm : ∀ x ∈ row, 0 ≤ x ∧ x < (l.length : Int)) : ∀ (suf : List Int) (i k : Nat) (out : List S31), row.drop i = suf → suf.length < k → i ≤ row.length → out.length ≤ i →
    impl_inOrder.l0 k l out row (row.length : Int) i = some (out ++ picked l suf) := by
  intro suf
  induction suf with
  | nil =>
    intro i k out hd hk hi ho
    obtain ⟨k, rfl⟩ : ∃ m, k = m + 1 := ⟨k - 1, by omega⟩
    have := drop_nil hd
    simp only [impl_inOrder.l0]
    rw [if_neg (by omega)]
    simp [picked]
  | cons x xs ih =>
    intro i k out hd hk hi ho
    obtain ⟨k, rfl⟩ : ∃ m, k = m + 1 := ⟨k - 1, by omega⟩
    obtain ⟨hlt, hd2, hx⟩ := drop_split hd
    have hxm := hm x (by rw [← hx 0]; exact getD_mem hlt _)
    simp only [impl_inOrder.l0]
    rw [if_pos (by omega), if_pos (by omega), if_pos (by omega), rd_nat, hx, if_pos hxm.1, if_pos hxm.2, if_pos (by omega), w64s i (by omega)]
    rw [ih (i + 1) k _ hd2 (by simp at hk; omega) (by omega) (by rw [List.length_append]; simp; omega)]
    simp [picked, rd_T31]
theorem impl_inOrder_is (l : List S31) (row : List Int) (hl : row.length ≤ 1048576) (hm : ∀ x ∈ row, 0 ≤ x ∧ x < (l.length : Int)) (k : Nat) (hk : row.length < k) : impl_inOrder.f k l row = some (picked l row) := by
  unfold impl_inOrder.f
  exact impl_inOrder_loop l row hl hm row 0 k [] rfl hk (by omega) (by simp)
def inOrderP (l : List S31) (row : List Int) : List S31 × Bool := if bothOk l = true ∧ onceP row l.length = true then (picked l row, true) else ([], false)
theorem impl_InOrder_is (l : List S31) (row : List Int) (hl : l.length ≤ 1048576) (hr : row.length ≤ 1048576) (k : Nat) (hk : 2 * row.length + l.length + 2 < k) : impl_InOrder.f k l row = some (inOrderP l row) := by
  unfold impl_InOrder.f inOrderP
  rw [impl_BothOk_is l hl k (by omega)]
  simp only [Option.bind_some]
  by_cases h : bothOk l = true
  · rw [if_pos h, impl_EachOnce_is row _ hr k (by omega)]
    simp only [Option.bind_some]
    by_cases h2 : onceP row (l.length : Int) = true
    · rw [if_pos h2, if_pos ⟨h, h2⟩, impl_inOrder_is l row hr (onceP_mem h2) k (by omega)]
      rfl
    · rw [if_neg h2, if_neg (fun h => h2 h.2)]
  · rw [if_neg h, if_neg (fun hh => h hh.1)]
theorem spec_InOrder_loop (l : List S31) (row : List Int) (hl : row.length ≤ 1048576) (hm : ∀ x ∈ row, 0 ≤ x ∧ x < (l.length : Int)) : ∀ (suf : List Int) (i k : Nat) (out : List S31), row.drop i = suf → suf.length < k → i ≤ row.length → out.length ≤ i →
    spec_InOrder.l0 k l row out i = some (out ++ picked l suf, true) := by
  intro suf
  induction suf with
  | nil =>
    intro i k out hd hk hi ho
    obtain ⟨k, rfl⟩ : ∃ m, k = m + 1 := ⟨k - 1, by omega⟩
    have := drop_nil hd
    simp only [spec_InOrder.l0]
    rw [if_neg (by omega)]
    simp [picked]
  | cons x xs ih =>
    intro i k out hd hk hi ho
    obtain ⟨k, rfl⟩ : ∃ m, k = m + 1 := ⟨k - 1, by omega⟩
    obtain ⟨hlt, hd2, hx⟩ := drop_split hd
    have hxm := hm x (by rw [← hx 0]; exact getD_mem hlt _)
    simp only [spec_InOrder.l0]
    rw [if_pos (by omega), if_pos (by omega), rd_nat, hx, if_pos hxm.1, if_pos hxm.2, if_pos (by omega), w64s i (by omega)]
    rw [ih (i + 1) k _ hd2 (by simp at hk; omega) (by omega) (by rw [List.length_append]; simp; omega)]
    simp [picked, rd_T31]
theorem spec_InOrder_is (l : List S31) (row : List Int) (hl : l.length ≤ 1048576) (hr : row.length ≤ 1048576) (k : Nat) (hk : (row.length + 2) * row.length + row.length + l.length + 3 ≤ k) : spec_InOrder.f k l row = some (inOrderP l row) := by
  obtain ⟨k, rfl⟩ : ∃ m, k = m + 1 := ⟨k - 1, by omega⟩
  have neg : spec_InOrder.j0 (k + 1) l row [] true = some ([], false) := by simp [spec_InOrder.j0]
  unfold spec_InOrder.f inOrderP
  simp only [Option.bind_some]
  rw [spec_BothOk_is l hl (k + 1) (by omega), neg]
  simp only [Option.bind_some]
  by_cases h : bothOk l = true
  · rw [if_pos h, spec_EachOnce_is row _ hr (by omega) (by omega) (k + 1) (by omega)]
    simp only [Option.bind_some]
    by_cases h2 : onceP row (l.length : Int) = true
    · rw [h2, if_pos ⟨h, rfl⟩]
      simp only [spec_InOrder.j0, Bool.not_true]
      rw [if_neg (by simp)]
      exact spec_InOrder_loop l row hr (onceP_mem h2) row 0 k [] rfl (by omega) (by omega) (by simp)
    · rw [if_neg (fun h => h2 h.2), Bool.not_eq_true _ |>.mp h2, Bool.not_false, neg]
  · rw [if_neg h, if_neg (fun hh => h hh.1)]

/-! setdrop -/
theorem set_append_drop {α : Type} (X : List α) (v : α) {i : Nat} (h : i < X.length) : (X.set i v).take (i + 1) = X.take i ++ [v] ∧ (X.set i v).drop (i + 1) = X.drop (i + 1) := by
  constructor
  · rw [List.take_succ_eq_append_getElem (by rw [List.length_set]; exact h), List.take_set_of_le (Nat.le_refl _), List.getElem_set_self]
  · rw [List.drop_set_of_lt (by omega)]

/-! exactboth -/
theorem szBothS_is (l : List S57) (hl : l.length ≤ maxLen) (a : Int) (h0 : 0 ≤ a) (h1 : a ≤ 1048576) : laws_szBothS.f l a = some (if (l.length : Int) ≤ a then a - l.length else -1) := by
  unfold maxLen at hl
  unfold laws_szBothS.f
  rw [show wrap64 (a - (l.length : Int)) = a - l.length from w64 (by omega) (by omega)]
  by_cases h : (l.length : Int) ≤ a
  · rw [if_neg (by omega), if_pos h]
  · rw [if_pos (by omega), if_neg h]
def toB (c : S57) : S31 := ⟨c.f0, c.f1⟩
theorem rd_LBoth_nat (l : List S57) (i : Nat) : rd_T57 l (i : Int) = l.getD i z57 := by
  unfold rd_T57
  rw [Int.toNat_natCast]
theorem toBothS_loop (l : List S57) (hl : l.length ≤ 1048576) : ∀ (suf : List S57) (i k : Nat) (X : List S31), l.drop i = suf → suf.length < k → i ≤ l.length → X.length = l.length →
    laws_toBothS.l0 k l X i = some (X.take i ++ suf.map toB) := by
  intro suf
  induction suf with
  | nil =>
    intro i k X hd hk hi hX
    obtain ⟨k, rfl⟩ : ∃ m, k = m + 1 := ⟨k - 1, by omega⟩
    have := drop_nil hd
    simp only [laws_toBothS.l0]
    rw [if_neg (by omega), List.take_of_length_le (by omega)]
    simp
  | cons x xs ih =>
    intro i k X hd hk hi hX
    obtain ⟨k, rfl⟩ : ∃ m, k = m + 1 := ⟨k - 1, by omega⟩
    obtain ⟨hlt, hd2, hx⟩ := drop_split hd
    simp only [laws_toBothS.l0, laws_toBoth.f, Option.bind_some]
    rw [if_pos (by omega), if_pos (by omega), if_pos (by omega), rd_LBoth_nat, hx, w64s i (by omega), Int.toNat_natCast]
    obtain ⟨e1, -⟩ := set_append_drop X (⟨x.f0, x.f1⟩ : S31) (i := i) (by omega)
    rw [ih (i + 1) k _ hd2 (by simp at hk; omega) (by omega) (by rw [List.length_set]; exact hX), e1]
    simp [toB]
theorem toBothS_is (l : List S57) (hl : l.length ≤ 1048576) (k : Nat) (hk : l.length < k) : laws_toBothS.f k l = some (l.map toB) := by
  unfold laws_toBothS.f
  rw [if_pos (by omega), if_pos (by omega)]
  exact toBothS_loop l hl l 0 k _ rfl hk (by omega) (by simp)
theorem eqBothS_loop (a : List S31) (ha : a.length ≤ 1048576) : ∀ (suf : List S31) (i k : Nat), a.drop i = suf → suf.length < k → laws_eqBothS.l0 k a a i = some true := by
  intro suf
  induction suf with
  | nil =>
    intro i k hd hk
    obtain ⟨k, rfl⟩ : ∃ m, k = m + 1 := ⟨k - 1, by omega⟩
    have := drop_nil hd
    simp only [laws_eqBothS.l0]
    rw [if_neg (by omega)]
  | cons x xs ih =>
    intro i k hd hk
    obtain ⟨k, rfl⟩ : ∃ m, k = m + 1 := ⟨k - 1, by omega⟩
    obtain ⟨hlt, hd2, hx⟩ := drop_split hd
    have e : ∀ p q, laws_eqBoth.f p q p q = some true := by intro p q; unfold laws_eqBoth.f; rw [if_pos rfl, if_pos rfl]
    simp only [laws_eqBothS.l0]
    rw [if_pos (by omega), if_pos (by omega), if_pos (by omega), e]
    simp only [Option.bind_some]
    rw [if_pos trivial, w64s i (by omega), ih (i + 1) k hd2 (by simp at hk; omega)]
theorem eqBothS_is (a : List S31) (ha : a.length ≤ 1048576) (k : Nat) (hk : a.length < k) : laws_eqBothS.f k a a = some true := by
  unfold laws_eqBothS.f
  rw [if_pos rfl]
  exact eqBothS_loop a ha a 0 k rfl hk

/-! toint -/
theorem toIntS_loop (l : List Int) (hl : l.length ≤ 1048576) : ∀ (suf : List Int) (i k : Nat) (X : List Int), l.drop i = suf → suf.length < k → i ≤ l.length → X.length = l.length →
    laws_toIntS.l0 k l X i = some (X.take i ++ suf) := by
  intro suf
  induction suf with
  | nil =>
    intro i k X hd hk hi hX
    obtain ⟨k, rfl⟩ : ∃ m, k = m + 1 := ⟨k - 1, by omega⟩
    have := drop_nil hd
    simp only [laws_toIntS.l0]
    rw [if_neg (by omega), List.take_of_length_le (by omega)]
    simp
  | cons x xs ih =>
    intro i k X hd hk hi hX
    obtain ⟨k, rfl⟩ : ∃ m, k = m + 1 := ⟨k - 1, by omega⟩
    obtain ⟨hlt, hd2, hx⟩ := drop_split hd
    simp only [laws_toIntS.l0]
    rw [if_pos (by omega), if_pos (by omega), if_pos (by omega), rd_nat, hx, w64s i (by omega), Int.toNat_natCast]
    obtain ⟨e1, -⟩ := set_append_drop X x (i := i) (by omega)
    rw [ih (i + 1) k _ hd2 (by simp at hk; omega) (by omega) (by rw [List.length_set]; exact hX), e1]
    simp
theorem toIntS_is (l : List Int) (hl : l.length ≤ 1048576) (k : Nat) (hk : l.length < k) : laws_toIntS.f k l = some l := by
  unfold laws_toIntS.f
  rw [if_pos (by omega), if_pos (by omega)]
  exact toIntS_loop l hl l 0 k _ rfl hk (by omega) (by simp)

/-! markboth -/
def seqB : Int → Nat → List S31
  | _, 0 => []
  | m, n + 1 => ⟨m, m + 1⟩ :: seqB (m + 2) n
theorem seqB_length : ∀ (n : Nat) (m : Int), (seqB m n).length = n := by
  intro n
  induction n with
  | zero => intro m; rfl
  | succ n ih => intro m; simp [seqB, ih]
theorem markBothS_loop : ∀ (d i k : Nat) (X : List S31) (m : Int), i + d = X.length → X.length ≤ 1048576 → d < k → 0 ≤ m → m + 2 * d ≤ 1000000000 → laws_markBothS.l0 k X m i = some (m + 2 * (d : Int), X.take i ++ seqB m d) := by
  intro d
  induction d with
  | zero =>
    intro i k X m he hl hk h0 h1
    obtain ⟨k, rfl⟩ : ∃ m, k = m + 1 := ⟨k - 1, by omega⟩
    simp only [laws_markBothS.l0]
    rw [if_neg (by omega), List.take_of_length_le (by omega)]
    simp [seqB]
  | succ d ih =>
    intro i k X m he hl hk h0 h1
    obtain ⟨k, rfl⟩ : ∃ m, k = m + 1 := ⟨k - 1, by omega⟩
    simp only [laws_markBothS.l0, Option.bind_some]
    rw [if_pos (by omega), if_pos (by omega), show wrap64 (m + 1) = m + 1 from w64 (by omega) (by omega), show wrap64 (m + 1 + 1) = m + 2 from by rw [w64 (by omega) (by omega)]; omega, w64s i (by omega), Int.toNat_natCast, rd_Both_nat, rd_Both_nat]
    have key : ∀ Y : List S31, Y.length = X.length → Y.take (i + 1) = X.take i ++ [⟨m, m + 1⟩] → laws_markBothS.l0 k Y (m + 2) ((i + 1 : Nat) : Int) = some (m + 2 * ((d + 1 : Nat) : Int), X.take i ++ seqB m (d + 1)) := by
      intro Y hY hT
      rw [ih (i + 1) k Y (m + 2) (by omega) (by omega) (by omega) (by omega) (by omega), hT]
      simp only [seqB, List.append_assoc, List.singleton_append]
      congr 2
      omega
    refine key _ (by rw [List.length_set, List.length_set]) ?_
    obtain ⟨e1, -⟩ := set_append_drop (X.set i (⟨m, (X.getD i z31).f1⟩ : S31)) (⟨((X.set i (⟨m, (X.getD i z31).f1⟩ : S31)).getD i z31).f0, m + 1⟩ : S31) (i := i) (by rw [List.length_set]; omega)
    rw [e1, List.take_set_of_le (Nat.le_refl _), getD_lt (by rw [List.length_set]; omega), List.getElem_set_self]
theorem markBothS_is (l : List S31) (hl : l.length ≤ 1048576) (k : Nat) (hk : l.length < k) : laws_markBothS.f k l 1 = some (1 + 2 * (l.length : Int), seqB 1 l.length) := by
  unfold laws_markBothS.f
  exact markBothS_loop l.length 0 k l 1 (by omega) hl hk (by omega) (by omega)
theorem heldBothS_loop (X : List S31) (hl : X.length ≤ 1048576) : ∀ (d i k : Nat) (m : Int), i + d = X.length → d < k → 0 ≤ m → m + 2 * d ≤ 1000000000 → X.drop i = seqB m d → laws_heldBothS.l0 k X m i = some (m + 2 * (d : Int)) := by
  intro d
  induction d with
  | zero =>
    intro i k m he hk h0 h1 hX
    obtain ⟨k, rfl⟩ : ∃ m, k = m + 1 := ⟨k - 1, by omega⟩
    simp only [laws_heldBothS.l0]
    rw [if_neg (by omega)]
    simp
  | succ d ih =>
    intro i k m he hk h0 h1 hX
    obtain ⟨k, rfl⟩ : ∃ m, k = m + 1 := ⟨k - 1, by omega⟩
    obtain ⟨hlt, hd2, hx⟩ := drop_split (show X.drop i = ⟨m, m + 1⟩ :: seqB (m + 2) d from hX)
    simp only [laws_heldBothS.l0]
    rw [if_pos (by omega), if_pos (by omega), rd_Both_nat, hx, show wrap64 (m + 1) = m + 1 from w64 (by omega) (by omega), show wrap64 (m + 1 + 1) = m + 2 from by rw [w64 (by omega) (by omega)]; omega, if_pos rfl, if_pos rfl, w64s i (by omega), ih (i + 1) k (m + 2) (by omega) (by omega) (by omega) (by omega) hd2]
    congr 1
    omega
theorem heldBothS_is (n : Nat) (hn : n ≤ 1048576) (k : Nat) (hk : n < k) : laws_heldBothS.f k (seqB 1 n) 1 = some (1 + 2 * (n : Int)) := by
  unfold laws_heldBothS.f
  exact heldBothS_loop _ (by rw [seqB_length]; exact hn) n 0 k 1 (by rw [seqB_length]; omega) hk (by omega) (by omega) rfl

/-! markint -/
def seqFrom : Int → Nat → List Int
  | _, 0 => []
  | m, n + 1 => m :: seqFrom (m + 1) n
theorem seqFrom_length : ∀ (n : Nat) (m : Int), (seqFrom m n).length = n := by
  intro n
  induction n with
  | zero => intro m; rfl
  | succ n ih => intro m; simp [seqFrom, ih]
theorem markIntS_loop : ∀ (d i k : Nat) (X : List Int) (m : Int), i + d = X.length → X.length ≤ 1048576 → d < k → 0 ≤ m → m + d ≤ 1000000000 → laws_markIntS.l0 k X m i = some (m + d, X.take i ++ seqFrom m d) := by
  intro d
  induction d with
  | zero =>
    intro i k X m he hl hk h0 h1
    obtain ⟨k, rfl⟩ : ∃ m, k = m + 1 := ⟨k - 1, by omega⟩
    simp only [laws_markIntS.l0]
    rw [if_neg (by omega), List.take_of_length_le (by omega)]
    simp [seqFrom]
  | succ d ih =>
    intro i k X m he hl hk h0 h1
    obtain ⟨k, rfl⟩ : ∃ m, k = m + 1 := ⟨k - 1, by omega⟩
    simp only [laws_markIntS.l0]
    rw [if_pos (by omega), if_pos (by omega), show wrap64 (m + 1) = m + 1 from w64 (by omega) (by omega), w64s i (by omega), Int.toNat_natCast]
    obtain ⟨e1, -⟩ := set_append_drop X m (i := i) (by omega)
    rw [ih (i + 1) k _ (m + 1) (by rw [List.length_set]; omega) (by rw [List.length_set]; omega) (by omega) (by omega) (by omega), e1]
    simp only [seqFrom, List.append_assoc, List.singleton_append]
    congr 2
    omega
theorem markIntS_is (l : List Int) (hl : l.length ≤ 1048576) (k : Nat) (hk : l.length < k) : laws_markIntS.f k l 1 = some (1 + (l.length : Int), seqFrom 1 l.length) := by
  unfold laws_markIntS.f
  exact markIntS_loop l.length 0 k l 1 (by omega) hl hk (by omega) (by omega)

/-! eqint -/
theorem eqIntS_loop (a : List Int) (ha : a.length ≤ 1048576) : ∀ (suf : List Int) (i k : Nat), a.drop i = suf → suf.length < k → laws_eqIntS.l0 k a a i = some true := by
  intro suf
  induction suf with
  | nil =>
    intro i k hd hk
    obtain ⟨k, rfl⟩ : ∃ m, k = m + 1 := ⟨k - 1, by omega⟩
    have := drop_nil hd
    simp only [laws_eqIntS.l0]
    rw [if_neg (by omega)]
  | cons x xs ih =>
    intro i k hd hk
    obtain ⟨k, rfl⟩ : ∃ m, k = m + 1 := ⟨k - 1, by omega⟩
    obtain ⟨hlt, hd2, hx⟩ := drop_split hd
    simp only [laws_eqIntS.l0]
    rw [if_pos (by omega), if_pos (by omega), if_pos (by omega), if_pos trivial, w64s i (by omega), ih (i + 1) k hd2 (by simp at hk; omega)]
theorem eqIntS_is (a : List Int) (ha : a.length ≤ 1048576) (k : Nat) (hk : a.length < k) : laws_eqIntS.f k a a = some true := by
  unfold laws_eqIntS.f
  rw [if_pos rfl]
  exact eqIntS_loop a ha a 0 k rfl hk

/-! law_ExactInOrder -/
theorem FnExactInOrder : laws_FnExactInOrder.Pure := by
  intro l0 row hl hr
  by_cases hrb : (row.length : Int) > 1048576
  · refine ⟨0, ?_⟩
    unfold laws_FnExactInOrder.f
    rw [if_pos hrb]
  by_cases hb : (l0.length : Int) ≤ 1048576
  · have hm : (l0.map toB).length ≤ 1048576 := by rw [List.length_map]; omega
    have hm2 : (l0.map toB).length = l0.length := by rw [List.length_map]
    obtain ⟨K, hK⟩ : ∃ K, K = (row.length + 2) * row.length + 4 * row.length + 4 * l0.length + 100 := ⟨_, rfl⟩
    generalize hR : inOrderP (l0.map toB) row = R
    have hRl : R.1.length ≤ 1048576 ∧ R.1.length ≤ row.length := by
      rw [← hR]
      unfold inOrderP
      split
      · unfold picked; rw [List.length_map]; omega
      · simp
    have e1 : ∀ k, K ≤ k → impl_InOrder.f k (l0.map toB) row = some R := fun k hk => by rw [impl_InOrder_is _ row hm (by omega) k (by omega), hR]
    have e2 : ∀ k, K ≤ k → spec_InOrder.f k (l0.map toB) row = some R := fun k hk => by rw [spec_InOrder_is _ row hm (by omega) k (by omega), hR]
    refine ⟨K + 3, ?_⟩
    unfold laws_FnExactInOrder.f
    rw [if_neg hrb, szBothS_is l0 hl.1 1048576 (by omega) (by omega), if_pos hb]; simp only [Option.bind_some]
    rw [if_neg (by omega), toBothS_is l0 (by omega) _ (by omega), toIntS_is row (by omega) _ (by omega)]; simp only [Option.bind_some]
    rw [e1 _ (by omega), e2 _ (by omega)]; simp only [Option.bind_some]
    rw [eqBothS_is R.1 hRl.1 _ (by omega)]; simp only [Option.bind_some]
    rw [if_pos trivial]
    simp only [laws_FnExactInOrder.j0]
    rw [if_neg (by simp), toBothS_is l0 (by omega) _ (by omega), toIntS_is row (by omega) _ (by omega)]; simp only [Option.bind_some]
    rw [eqBothS_is _ hm _ (by omega), eqIntS_is row (by omega) _ (by omega), markBothS_is _ hm _ (by omega), eqBothS_is R.1 hRl.1 _ (by omega)]; simp only [Option.bind_some]
    rw [if_pos trivial, if_pos trivial]
    unfold laws_markIntS.f
    rw [show laws_markIntS.l0 (K + 2) row (1 + 2 * ((l0.map toB).length : Int)) 0 = some _ from markIntS_loop row.length 0 (K + 2) row (1 + 2 * ((l0.map toB).length : Int)) (by omega) (by omega) (by omega) (by omega) (by omega)]
    simp only [Option.bind_some]
    rw [if_neg (by omega), if_pos trivial]
    simp only [laws_FnExactInOrder.j1]
    rw [if_neg (by simp), markBothS_is R.1 hRl.1 _ (by omega)]; simp only [Option.bind_some]
    rw [heldBothS_is R.1.length hRl.1 _ (by omega)]; simp only [Option.bind_some]
    rw [if_neg (by omega), if_pos trivial, toBothS_is l0 (by omega) _ (by omega), toIntS_is row (by omega) _ (by omega)]; simp only [Option.bind_some]
    rw [e1 _ (by omega)]; simp only [Option.bind_some]
    rw [eqBothS_is R.1 hRl.1 _ (by omega)]; simp only [Option.bind_some]
    rw [if_pos trivial]
    simp only [laws_FnExactInOrder.j2]
    rw [if_neg (by simp), heldBothS_is R.1.length hRl.1 _ (by omega)]; simp only [Option.bind_some]
    rw [if_neg (by omega), if_pos trivial]
  · refine ⟨0, ?_⟩
    unfold laws_FnExactInOrder.f
    rw [if_neg hrb, szBothS_is l0 hl.1 1048576 (by omega) (by omega), if_neg hb]; rfl

end Go.Proofs.Ytanmcbjlooknoaa.Pure
