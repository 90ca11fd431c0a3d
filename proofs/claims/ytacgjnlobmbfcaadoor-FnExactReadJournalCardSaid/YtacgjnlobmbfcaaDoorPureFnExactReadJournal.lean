/- The pure part of the proof of FnExactReadJournal: the printed functions answer true, for every drawn or given argument within the row's own bounds; no further condition. -/
import Derived.Test.YtacgjnlobmbfcaaDoorPFnExactReadJournalx7
import Derived.Laws.BitsLemmas
namespace Go.Proofs.YtacgjnlobmbfcaaDoor.Pure
open Go.RowKit Go.Proofs.YtacgjnlobmbfcaaDoor.PFnExactReadJournal Go.Proofs.YtacgjnlobmbfcaaDoorW.PrintWords Go.Proofs.YtacgjnlobmbfcaaDoorW.PrintLast Go.Proofs.YtacgjnlobmbfcaaDoorW.PrintMore
set_option linter.unusedVariables false
set_option linter.unusedSimpArgs false
/-! base -/
theorem w64 {x : Int} (h0 : -9223372036854775808 ≤ x) (h1 : x ≤ 9223372036854775807) : wrap64 x = x := by
  unfold wrap64
  omega
theorem w64s (n : Nat) (h : n ≤ 4611686018427387904) : wrap64 ((n : Int) + 1) = ((n + 1 : Nat) : Int) := by
  unfold wrap64
  omega
theorem drop_split {α : Type} {l : List α} {i : Nat} {x : α} {xs : List α} (h : l.drop i = x :: xs) : i < l.length ∧ l.drop (i + 1) = xs ∧ ∀ d, l.getD i d = x := by
  have hi : i < l.length := by
    have h2 : 0 < (l.drop i).length := by rw [h]; simp
    rw [List.length_drop] at h2
    omega
  rw [List.drop_eq_getElem_cons hi] at h
  injection h with h1 h2
  exact ⟨hi, h2, fun d => by rw [List.getD_eq_getElem?_getD, List.getElem?_eq_getElem hi, h1]; rfl⟩
theorem drop_nil {α : Type} {l : List α} {i : Nat} (h : l.drop i = []) : l.length ≤ i := List.drop_eq_nil_iff.1 h
theorem getD_lt {α : Type} {l : List α} {i : Nat} (h : i < l.length) (d : α) : l.getD i d = l[i] := by
  rw [List.getD_eq_getElem?_getD, List.getElem?_eq_getElem h]; rfl
theorem rd_nat (l : List Int) (i : Nat) : rd l (i : Int) = l.getD i 0 := by
  unfold rd
  rw [Int.toNat_natCast]
theorem getD_mem {α : Type} {l : List α} {i : Nat} (h : i < l.length) (d : α) : l.getD i d ∈ l := by
  rw [getD_lt h]; exact List.getElem_mem h
theorem take_succ_getD {α : Type} {l : List α} {i : Nat} (h : i < l.length) (d : α) : l.take (i + 1) = l.take i ++ [l.getD i d] := by
  rw [getD_lt h, List.take_succ_eq_append_getElem h]
theorem mx_max (a b : Int) : mx a b = max a b := by
  unfold mx; omega
theorem mn_min (a b : Int) : mn a b = min a b := by
  unfold mn; omega
theorem bind_of {α β : Type} {o : Option α} {r : α} {f : α → Option β} {s : Option β} (h : o = some r) (h2 : f r = s) : o.bind f = s := by rw [h]; exact h2
theorem getD_snoc_last {α : Type} (l : List α) (x d : α) {i : Nat} (h : l.length = i) : (l ++ [x]).getD i d = x := by
  subst h
  rw [List.getD_eq_getElem?_getD, List.getElem?_append_right (Nat.le_refl _), Nat.sub_self]
  rfl
theorem getD_snoc_lt {α : Type} (l r : List α) (d : α) {i : Nat} (h : i < l.length) : (l ++ r).getD i d = l.getD i d := by
  rw [List.getD_eq_getElem?_getD, List.getElem?_append_left h, List.getD_eq_getElem?_getD]

/-! l1in -/
theorem spec_l1In_is (a b c : Int) : spec_l1In.f a b c = some (decide (b ≤ a ∧ a ≤ c)) := by
  unfold spec_l1In.f
  by_cases h : a ≥ b
  · rw [if_pos h]
    congr 1
    apply decide_eq_decide.2
    omega
  · rw [if_neg h]
    congr 1
    symm
    exact decide_eq_false (by omega)

/-! deedtext -/
/-! The text of a number in 0..99. -/
def numP (n : Int) : ByteArray := ⟨(Lib.decDigits n.toNat).toArray⟩
theorem itoa_is (n : Int) (h0 : 0 ≤ n) (h1 : n ≤ 99) : strconv_Itoa_32.f n = some (numP n) := by
  unfold strconv_Itoa_32.f
  rw [if_pos h0, if_pos (by omega)]; rfl
theorem bytes_app (a b : List UInt8) : (⟨a.toArray⟩ : ByteArray) ++ ⟨b.toArray⟩ = ⟨(a ++ b).toArray⟩ := by
  apply ByteArray.ext
  simp
theorem dec_small (u : Nat) (h : u < 10) : Lib.decDigits u = [UInt8.ofNat (48 + u)] := by rw [Lib.decDigits, dif_pos h]
theorem dec_big (u : Nat) (h : ¬ u < 10) : Lib.decDigits u = Lib.decDigits (u / 10) ++ [UInt8.ofNat (48 + u % 10)] := by rw [Lib.decDigits, dif_neg h]
theorem numP_small (n : Int) (h0 : 0 ≤ n) (h1 : n < 10) : numP n = strOfNums [48 + n] := by
  unfold numP strOfNums
  rw [dec_small n.toNat (by omega)]
  simp only [List.map_cons, List.map_nil]
  rw [show (48 + n).toNat = 48 + n.toNat from by omega]
theorem numP_big (n : Int) (h0 : 10 ≤ n) : numP n = numP (n / 10) ++ strOfNums [48 + n % 10] := by
  unfold numP strOfNums
  rw [dec_big n.toNat (by omega), bytes_app]
  simp only [List.map_cons, List.map_nil]
  rw [show (48 + n % 10).toNat = 48 + n.toNat % 10 from by omega, show (n / 10).toNat = n.toNat / 10 from by omega]
theorem numP_size (n : Int) (h0 : 0 ≤ n) (h1 : n ≤ 99) : 1 ≤ (numP n).size ∧ (numP n).size ≤ 2 := by
  have hs : ∀ u : Nat, (numP (u : Int)).size = (Lib.decDigits u).length := fun u => by
    unfold numP
    rw [Int.toNat_natCast]; rfl
  rw [show n = ((n.toNat : Nat) : Int) from by omega, hs]
  by_cases h : n.toNat < 10
  · rw [dec_small _ h]; simp
  · rw [dec_big _ h, dec_small _ (by omega)]; simp
theorem number_is (n : Int) (h0 : 0 ≤ n) (h1 : n ≤ 99) (k : Nat) (hk : 2 ≤ k) : spec_l1Number.f k n = some (numP n) := by
  obtain ⟨k, rfl⟩ : ∃ m, k = m + 1 := ⟨k - 1, by omega⟩
  obtain ⟨k, rfl⟩ : ∃ m, k = m + 1 := ⟨k - 1, by omega⟩
  have small : ∀ (k : Nat) (m : Int), 0 ≤ m → m < 10 → spec_l1Number.f (k + 1) m = some (numP m) := by
    intro k m m0 m1
    simp only [spec_l1Number.f]
    rw [if_pos m1, numP_small m m0 m1]
    have e : mx m 0 = m := by rw [mx_max]; omega
    rw [e, w64 (x := 48 + m) (by omega) (by omega), show (48 + m) % 256 = 48 + m from by omega]
  by_cases h : n < 10
  · exact small _ n h0 h
  · rw [spec_l1Number.f, if_neg h]
    have e1 : wrap64 (Int.tdiv n 10) = n / 10 := by rw [Int.tdiv_eq_ediv_of_nonneg h0, w64 (by omega) (by omega)]
    have e2 : wrap64 (48 + Int.tmod n 10) % 256 = 48 + n % 10 := by rw [Int.tmod_eq_emod_of_nonneg h0, w64 (by omega) (by omega)]; omega
    rw [e1, e2, small k (n / 10) (by omega) (by omega), Option.bind_some, Option.bind_some]
    have := numP_size (n / 10) (by omega) (by omega)
    have hs : (strOfNums [48 + n % 10]).size = 1 := rfl
    rw [if_pos (by omega), numP_big n (by omega)]
def strP (l : List UInt8) : ByteArray := ⟨l.toArray⟩
/-- The text of a deed. -/
def deedP (kind a b : Int) : ByteArray :=
  if (0 ≤ a ∧ a ≤ 99) ∧ (0 ≤ b ∧ b ≤ 99) then
    if kind = 0 then (((⟨#[99, 111, 109, 101, 32]⟩ : ByteArray) ++ numP a) ++ (⟨#[32]⟩ : ByteArray)) ++ numP b
    else if b = 0 then
      if kind = 2 then (⟨#[110, 101, 101, 100, 32]⟩ : ByteArray) ++ numP a
      else if kind = 3 then (⟨#[108, 97, 116, 101, 114, 32]⟩ : ByteArray) ++ numP a
      else if a = 0 then (if kind = 1 then ⟨#[103, 111]⟩ else if kind = 4 then ⟨#[98, 97, 99, 107]⟩ else ⟨#[]⟩)
      else ⟨#[]⟩
    else ⟨#[]⟩
  else ⟨#[]⟩
theorem impl_DeedText_is (kind a b : Int) (k : Nat) (hk : 5 ≤ k) : impl_DeedText.f k kind a b = some (deedP kind a b) := by
  obtain ⟨k, rfl⟩ : ∃ m, k = m + 1 := ⟨k - 1, by omega⟩
  unfold impl_DeedText.f deedP
  by_cases h : (0 ≤ a ∧ a ≤ 99) ∧ (0 ≤ b ∧ b ≤ 99)
  · obtain ⟨⟨a0, a1⟩, b0, b1⟩ := h
    have sa := numP_size a a0 a1
    have sb := numP_size b b0 b1
    rw [if_neg (by omega), if_neg (by omega), if_neg (by omega), if_pos ⟨⟨a0, a1⟩, b0, b1⟩, decide_eq_false (show ¬ b > 99 by omega)]
    simp only [impl_DeedText.j0]
    rw [if_neg (by simp), itoa_is a a0 a1, Option.bind_some, itoa_is b b0 b1]
    have e1 : ((⟨#[32]⟩ : ByteArray) ++ numP a).size = 1 + (numP a).size := by rw [ByteArray.size_append]; rfl
    have e2 : ((⟨#[99, 111, 109, 101]⟩ : ByteArray) ++ ((⟨#[32]⟩ : ByteArray) ++ numP a)).size = 4 + (1 + (numP a).size) := by rw [ByteArray.size_append, e1]; rfl
    have e3 : (((⟨#[99, 111, 109, 101]⟩ : ByteArray) ++ ((⟨#[32]⟩ : ByteArray) ++ numP a)) ++ (⟨#[32]⟩ : ByteArray)).size = 4 + (1 + (numP a).size) + 1 := by rw [ByteArray.size_append, e2]; rfl
    rw [if_pos (by omega), Option.bind_some, e1, e2, e3]
    by_cases k0 : kind = 0
    · rw [if_pos k0, if_pos (by omega), if_pos (by omega), if_pos (by omega), if_pos k0, ← ByteArray.append_assoc]; rfl
    · rw [if_neg k0, if_neg k0]
      by_cases hb : b = 0
      · rw [if_pos hb, if_pos hb]
        by_cases k2 : kind = 2
        · rw [if_pos k2, if_pos (by omega), if_pos k2, ← ByteArray.append_assoc]; rfl
        · rw [if_neg k2, if_neg k2]
          by_cases k3 : kind = 3
          · rw [if_pos k3, if_pos (by omega), if_pos k3, ← ByteArray.append_assoc]; rfl
          · rw [if_neg k3, if_neg k3]
            split
            · split
              · rfl
              · split <;> rfl
            · rfl
      · rw [if_neg hb, if_neg hb]
  · rw [if_neg h]
    have j : ∀ x, x = true → impl_DeedText.j0 (k + 1) x kind a b = some ⟨#[]⟩ := fun x hx => by
      simp only [impl_DeedText.j0]
      rw [if_pos hx]
    by_cases h1 : a < 0
    · rw [if_pos h1]; exact j _ rfl
    · rw [if_neg h1]
      by_cases h2 : a > 99
      · rw [if_pos h2]; exact j _ rfl
      · rw [if_neg h2]
        by_cases h3 : b < 0
        · rw [if_pos h3]; exact j _ rfl
        · rw [if_neg h3]; exact j _ (decide_eq_true (by omega))
theorem spec_DeedText_is (kind a b : Int) (k : Nat) (hk : 9 ≤ k) : spec_DeedText.f k kind a b = some (deedP kind a b) := by
  obtain ⟨k, rfl⟩ : ∃ m, k = m + 1 := ⟨k - 1, by omega⟩
  obtain ⟨k, rfl⟩ : ∃ m, k = m + 1 := ⟨k - 1, by omega⟩
  obtain ⟨k, rfl⟩ : ∃ m, k = m + 1 := ⟨k - 1, by omega⟩
  have sa := fun (h : 0 ≤ a ∧ a ≤ 99) => numP_size a h.1 h.2
  have sb := fun (h : 0 ≤ b ∧ b ≤ 99) => numP_size b h.1 h.2
  have j2 : ∀ x : Bool, kind ≠ 0 → kind ≠ 2 → (x = true ↔ kind = 3 ∧ (0 ≤ a ∧ a ≤ 99) ∧ b = 0) → spec_DeedText.j2 (k + 1) x kind a b = some (deedP kind a b) := by
    intro x k0 k2 hx
    simp only [spec_DeedText.j2]
    by_cases h : x = true
    · obtain ⟨k3, ha, hb⟩ := hx.1 h
      have := sa ha
      rw [if_pos h, number_is a ha.1 ha.2 k (by omega), Option.bind_some, if_pos (by omega)]
      unfold deedP
      rw [if_pos ⟨ha, by omega⟩, if_neg k0, if_pos hb, if_neg k2, if_pos k3]
    · rw [if_neg h]
      have h3 : ¬ (kind = 3 ∧ (0 ≤ a ∧ a ≤ 99) ∧ b = 0) := fun g => h (hx.2 g)
      by_cases hz : a = 0 ∧ b = 0
      · obtain ⟨rfl, rfl⟩ := hz
        have e : deedP kind 0 0 = (if kind = 1 then ⟨#[103, 111]⟩ else if kind = 4 then ⟨#[98, 97, 99, 107]⟩ else ⟨#[]⟩) := by
          unfold deedP
          rw [if_pos ⟨⟨by omega, by omega⟩, by omega, by omega⟩, if_neg k0, if_pos rfl, if_neg k2, if_neg (fun g => h3 ⟨g, by omega, rfl⟩), if_pos rfl]
        rw [e]
        by_cases k1 : kind = 1
        · rw [if_pos (by simp [k1]), if_pos k1]
        · rw [if_neg (by simp [k1]), if_neg k1]
          by_cases k4 : kind = 4
          · rw [if_pos (by simp [k4]), if_pos k4]
          · rw [if_neg (by simp [k4]), if_neg k4]
      · have f1 : ∀ c : Int, ¬ ((kind == c && (a == 0 && (b == 0))) = true) := fun c g => by
          simp only [Bool.and_eq_true, beq_iff_eq] at g
          exact hz g.2
        have e : deedP kind a b = ⟨#[]⟩ := by
          unfold deedP
          by_cases hab : (0 ≤ a ∧ a ≤ 99) ∧ (0 ≤ b ∧ b ≤ 99)
          · rw [if_pos hab, if_neg k0]
            by_cases hb : b = 0
            · rw [if_pos hb, if_neg k2, if_neg (fun g => h3 ⟨g, hab.1, hb⟩), if_neg (fun g => hz ⟨g, hb⟩)]
            · rw [if_neg hb]
          · rw [if_neg hab]
        rw [if_neg (f1 1), if_neg (f1 4), e]
  have j1 : ∀ x : Bool, kind ≠ 0 → (x = true ↔ kind = 2 ∧ (0 ≤ a ∧ a ≤ 99) ∧ b = 0) → spec_DeedText.j1 (k + 1 + 1) x kind a b = some (deedP kind a b) := by
    intro x k0 hx
    simp only [spec_DeedText.j1]
    by_cases h : x = true
    · obtain ⟨k2, ha, hb⟩ := hx.1 h
      have := sa ha
      rw [if_pos h, number_is a ha.1 ha.2 _ (by omega), Option.bind_some, if_pos (by omega)]
      unfold deedP
      rw [if_pos ⟨ha, by omega⟩, if_neg k0, if_pos hb, if_pos k2]
    · rw [if_neg h]
      have h2 : ¬ (kind = 2 ∧ (0 ≤ a ∧ a ≤ 99) ∧ b = 0) := fun g => h (hx.2 g)
      by_cases k2 : kind = 2
      · have hn : ¬ ((0 ≤ a ∧ a ≤ 99) ∧ b = 0) := fun g => h2 ⟨k2, g⟩
        have e : deedP kind a b = ⟨#[]⟩ := by
          unfold deedP
          by_cases hab : (0 ≤ a ∧ a ≤ 99) ∧ (0 ≤ b ∧ b ≤ 99)
          · rw [if_pos hab, if_neg k0, if_neg (fun g => hn ⟨hab.1, g⟩)]
          · rw [if_neg hab]
        rw [e, if_neg (by omega)]
        simp only [spec_DeedText.j2]
        rw [if_neg (by simp), if_neg (by simp [k2]), if_neg (by simp [k2])]
      · by_cases k3 : kind = 3
        · rw [if_pos k3, spec_l1In_is, Option.bind_some]
          by_cases ha : 0 ≤ a ∧ a ≤ 99
          · rw [if_pos (decide_eq_true ha)]
            exact j2 _ k0 k2 ⟨fun g => ⟨k3, ha, by rw [beq_iff_eq] at g; exact g⟩, fun g => by rw [beq_iff_eq]; exact g.2.2⟩
          · rw [if_neg (fun g => ha (of_decide_eq_true g))]
            exact j2 _ k0 k2 ⟨fun g => by simp at g, fun g => absurd g.2.1 ha⟩
        · rw [if_neg k3]
          exact j2 _ k0 k2 ⟨fun g => by simp at g, fun g => absurd g.1 k3⟩
  have j0 : ∀ x : Bool, (x = true ↔ kind = 0 ∧ (0 ≤ a ∧ a ≤ 99) ∧ (0 ≤ b ∧ b ≤ 99)) → spec_DeedText.j0 (k + 1 + 1 + 1) x kind a b = some (deedP kind a b) := by
    intro x hx
    simp only [spec_DeedText.j0]
    by_cases h : x = true
    · obtain ⟨k0, ha, hb⟩ := hx.1 h
      have s1 := sa ha
      have s2 := sb hb
      have e1 : ((⟨#[99, 111, 109, 101, 32]⟩ : ByteArray) ++ numP a).size = 5 + (numP a).size := by rw [ByteArray.size_append]; rfl
      have e2 : (((⟨#[99, 111, 109, 101, 32]⟩ : ByteArray) ++ numP a) ++ (⟨#[32]⟩ : ByteArray)).size = 5 + (numP a).size + 1 := by rw [ByteArray.size_append, e1]; rfl
      rw [if_pos h, number_is a ha.1 ha.2 _ (by omega), Option.bind_some, if_pos (by omega), if_pos (by omega), number_is b hb.1 hb.2 _ (by omega), Option.bind_some, if_pos (by omega)]
      unfold deedP
      rw [if_pos ⟨ha, hb⟩, if_pos k0]
    · rw [if_neg h]
      by_cases k0 : kind = 0
      · have e : deedP kind a b = ⟨#[]⟩ := by
          unfold deedP
          rw [if_neg (fun g => h (hx.2 ⟨k0, g⟩))]
        rw [e, if_neg (by omega)]
        simp only [spec_DeedText.j1]
        rw [if_neg (by simp), if_neg (by omega)]
        simp only [spec_DeedText.j2]
        rw [if_neg (by simp), if_neg (by simp [k0]), if_neg (by simp [k0])]
      · by_cases k2 : kind = 2
        · rw [if_pos k2, spec_l1In_is, Option.bind_some]
          by_cases ha : 0 ≤ a ∧ a ≤ 99
          · rw [if_pos (decide_eq_true ha)]
            exact j1 _ k0 ⟨fun g => ⟨k2, ha, by rw [beq_iff_eq] at g; exact g⟩, fun g => by rw [beq_iff_eq]; exact g.2.2⟩
          · rw [if_neg (fun g => ha (of_decide_eq_true g))]
            exact j1 _ k0 ⟨fun g => by simp at g, fun g => absurd g.2.1 ha⟩
        · rw [if_neg k2]
          exact j1 _ k0 ⟨fun g => by simp at g, fun g => absurd g.1 k2⟩
  unfold spec_DeedText.f
  by_cases k0 : kind = 0
  · rw [if_pos k0, spec_l1In_is, Option.bind_some]
    by_cases ha : 0 ≤ a ∧ a ≤ 99
    · rw [if_pos (decide_eq_true ha), spec_l1In_is, Option.bind_some]
      exact j0 _ ⟨fun g => ⟨k0, ha, of_decide_eq_true g⟩, fun g => decide_eq_true g.2.2⟩
    · rw [if_neg (fun g => ha (of_decide_eq_true g))]
      exact j0 _ ⟨fun g => by simp at g, fun g => absurd g.2.1 ha⟩
  · rw [if_neg k0]
    exact j0 _ ⟨fun g => by simp at g, fun g => absurd g.1 k0⟩

/-! readdeed -/
/-! Reading deeds: what both texts come to. -/
theorem strP_list (l : List UInt8) : (strP l).data.toList = l := rfl
theorem strP_eq (s : ByteArray) : strP s.data.toList = s := by
  apply ByteArray.ext
  simp [strP]
theorem strP_size (l : List UInt8) : (strP l).size = l.length := rfl
theorem str_ext {a b : ByteArray} (h : a.data.toList = b.data.toList) : a = b := by rw [← strP_eq a, ← strP_eq b, h]
theorem toList_iff (a b : ByteArray) : a.toList = b.toList ↔ a = b := by
  have := Lib.bytes_beq_iff a b
  rw [beq_iff_eq] at this
  exact this
theorem extract_str (s : ByteArray) (a b : Nat) : s.extract a b = strP ((s.data.toList.drop a).take (b - a)) := by
  apply str_ext
  rw [Lib.extract_data, strP_list]
theorem empty_toList : (ByteArray.mk #[]).toList = [] := by
  unfold ByteArray.toList
  unfold ByteArray.toList.loop
  rfl
theorem indexByte_at (w rest : List UInt8) (h : ∀ c ∈ w, c ≠ 32) : Lib.indexByte (w ++ 32 :: rest) 32 = w.length := by
  induction w with
  | nil => simp [Lib.indexByte]
  | cons c cs ih =>
    have h1 := h c (by simp)
    have h2 := ih (fun x hx => h x (by simp [hx]))
    simp only [List.cons_append, Lib.indexByte]
    rw [if_neg (by simpa using h1), h2, if_neg (by simp)]
    simp
theorem indexByte_no (w : List UInt8) (h : ∀ c ∈ w, c ≠ 32) : Lib.indexByte w 32 = -1 := by
  induction w with
  | nil => rfl
  | cons c cs ih =>
    have h1 := h c (by simp)
    have h2 := ih (fun x hx => h x (by simp [hx]))
    simp only [Lib.indexByte]
    rw [if_neg (by simpa using h1), h2, if_pos (by rfl)]
theorem indexB_eq (l : List UInt8) : Lib.indexB (strP l) ⟨#[32]⟩ = Lib.indexByte l 32 := Lib.index_one l 32
theorem parts_hit (w rest : List UInt8) (h : ∀ c ∈ w, c ≠ 32) : impl_ReadDeed.parts (strP (w ++ 32 :: rest)) = strP w :: impl_ReadDeed.parts (strP rest) := by
  have hi : Lib.indexB (strP (w ++ 32 :: rest)) ⟨#[32]⟩ = ((w.length : Nat) : Int) := by rw [indexB_eq, indexByte_at w rest h]
  have hc := Lib.countB_hit _ ⟨#[32]⟩ w.length (by decide) hi
  have e2 : (strP (w ++ 32 :: rest)).extract (w.length + (⟨#[32]⟩ : ByteArray).size) (strP (w ++ 32 :: rest)).size = strP rest := by
    apply str_ext
    rw [Lib.extract_to_end, strP_list, strP_list]
    show (w ++ 32 :: rest).drop (w.length + 1) = rest
    rw [← List.drop_drop, List.drop_left]; rfl
  have e1 : (strP (w ++ 32 :: rest)).extract 0 (w.length + 0) = strP w := by
    apply str_ext
    rw [Lib.extract_data, strP_list, strP_list]
    simp
  unfold impl_ReadDeed.parts
  rw [hc, e2, Nat.add_comm 1 _, Lib.splitB_hit _ 0 _ _ w.length hi, e1, e2]
theorem parts_last (w : List UInt8) (h : ∀ c ∈ w, c ≠ 32) : impl_ReadDeed.parts (strP w) = [strP w] := by
  unfold impl_ReadDeed.parts
  exact Lib.splitB_miss _ 0 _ _ (by rw [indexB_eq, indexByte_no w h])
theorem splitB_small (sep : ByteArray) : ∀ (k : Nat) (s : ByteArray), ∀ p ∈ Lib.splitB sep 0 k s, p.size ≤ s.size := by
  intro k
  induction k with
  | zero => intro s p hp; rw [Lib.splitB_zero, List.mem_singleton] at hp; rw [hp]; exact Nat.le_refl _
  | succ k ih =>
    intro s p hp
    rcases Lib.indexB_cases s sep with hix | ⟨i, hix, -⟩
    · rw [Lib.splitB_miss _ _ _ _ hix, List.mem_singleton] at hp; rw [hp]; exact Nat.le_refl _
    · rw [Lib.splitB_hit _ _ _ _ i hix] at hp
      rcases List.mem_cons.1 hp with hp | hp
      · rw [hp, ByteArray.size_extract]; omega
      · have := ih _ p hp
        rw [ByteArray.size_extract] at this; omega
/-- The digits of a number in 0..99. -/
def digs (n : Int) : List UInt8 := if n < 10 then [UInt8.ofNat (48 + n.toNat)] else [UInt8.ofNat (48 + n.toNat / 10), UInt8.ofNat (48 + n.toNat % 10)]
theorem numP_digs (n : Int) (h0 : 0 ≤ n) (h1 : n ≤ 99) : numP n = strP (digs n) := by
  unfold numP digs strP
  by_cases h : n < 10
  · rw [if_pos h, dec_small n.toNat (by omega)]
  · rw [if_neg h, dec_big n.toNat (by omega), dec_small (n.toNat / 10) (by omega)]; rfl
theorem of_nat_toNat (u : Nat) (h : u < 256) : (UInt8.ofNat u).toNat = u := by
  rw [UInt8.toNat_ofNat']; omega
theorem digs_no (n : Int) (h0 : 0 ≤ n) (h1 : n ≤ 99) : ∀ c ∈ digs n, 48 ≤ c.toNat ∧ c.toNat ≤ 57 := by
  intro c hc
  unfold digs at hc
  split at hc
  · rw [List.mem_singleton] at hc
    rw [hc, of_nat_toNat _ (by omega)]; omega
  · rcases List.mem_cons.1 hc with hc | hc
    · rw [hc, of_nat_toNat _ (by omega)]; omega
    · rw [List.mem_singleton] at hc
      rw [hc, of_nat_toNat _ (by omega)]; omega
theorem no_space {c : UInt8} (h : 48 ≤ c.toNat ∧ c.toNat ≤ 57) : c ≠ 32 := by
  intro e
  rw [e] at h
  exact absurd h.1 (by decide)
theorem atoi_digs (n : Int) (h0 : 0 ≤ n) (h1 : n ≤ 99) : impl_ReadDeed.atoi (numP n) = n := by
  rw [numP_digs n h0 h1]
  unfold impl_ReadDeed.atoi
  rw [strP_list]
  have key : Lib.atoiAll (digs n) = .ok n := by
    unfold digs
    by_cases h : n < 10
    · rw [if_pos h]
      have hc := of_nat_toNat (48 + n.toNat) (by omega)
      simp only [Lib.atoiAll, hc]
      rw [if_neg (by omega)]
      simp only [Lib.parseMag]
      rw [if_neg (by simp)]
      simp only [Lib.parseUint10, hc]
      rw [if_pos (by omega), if_neg (by omega), if_neg (by omega)]
      simp only [Nat.zero_mul, Nat.zero_add]
      rw [if_neg (by omega), if_neg (by omega)]
      have : ¬ (48 + n.toNat = 45) := by omega
      simp only [this, if_false]
      congr 1
      omega
    · rw [if_neg h]
      have hc := of_nat_toNat (48 + n.toNat / 10) (by omega)
      have hd := of_nat_toNat (48 + n.toNat % 10) (by omega)
      simp only [Lib.atoiAll, hc]
      rw [if_neg (by omega)]
      simp only [Lib.parseMag]
      rw [if_neg (by simp)]
      simp only [Lib.parseUint10, hc, hd]
      rw [if_pos (by omega), if_neg (by omega), if_neg (by omega), if_pos (by omega), if_neg (by omega), if_neg (by omega)]
      simp only [Nat.zero_mul, Nat.zero_add]
      rw [if_neg (by omega), if_neg (by omega)]
      have : ¬ (48 + n.toNat / 10 = 45) := by omega
      simp only [this, if_false]
      congr 1
      omega
  rw [key]
/-- What is read. -/
def readP (s : ByteArray) : Int × Int × Int × Bool :=
  if impl_ReadDeed.kind s < 0 ∨ 3 < (impl_ReadDeed.parts s).length then (0, 0, 0, false)
  else if deedP (impl_ReadDeed.kind s) (impl_ReadDeed.numA s) (impl_ReadDeed.numB s) = s then (impl_ReadDeed.kind s, impl_ReadDeed.numA s, impl_ReadDeed.numB s, true) else (0, 0, 0, false)
theorem idx_lt (x : ByteArray) : ∀ (zs : List ByteArray) (i : Nat), Lib.idxFromS zs x i = -1 ∨ Lib.idxFromS zs x i < ((i + zs.length : Nat) : Int) := by
  intro zs
  induction zs with
  | nil => intro i; left; rfl
  | cons z zs ih =>
    intro i
    simp only [Lib.idxFromS]
    split
    · right; simp only [List.length_cons]; omega
    · rcases ih (i + 1) with h | h
      · exact .inl h
      · right; simp only [List.length_cons]; omega
theorem kind_lt (s : ByteArray) : impl_ReadDeed.kind s < 5 := by
  rcases idx_lt (impl_ReadDeed.part s 0) impl_ReadDeed.kinds 0 with h | h
  · show Lib.idxFromS _ _ _ < 5
    rw [h]; omega
  · exact h
theorem impl_ReadDeed_is (s : ByteArray) (hs : s.size ≤ 4294967280) (k : Nat) (hk : 5 ≤ k) : impl_ReadDeed.f k s = some (readP s) := by
  unfold impl_ReadDeed.f readP
  have hall : (impl_ReadDeed.parts s).all (fun p => decide (p.size ≤ 4294967281)) = true := by
    rw [List.all_eq_true]
    intro p hp
    have := splitB_small _ _ s p hp
    exact decide_eq_true (by omega)
  rw [if_pos (by omega), if_pos hall]
  by_cases h1 : impl_ReadDeed.kind s < 0
  · rw [if_pos h1, if_pos (.inl h1)]
  · rw [if_neg h1]
    by_cases h2 : 3 < (impl_ReadDeed.parts s).length
    · rw [if_pos h2, if_pos (.inr h2)]
    · rw [if_neg h2, if_pos (kind_lt s), if_neg (show ¬ (impl_ReadDeed.kind s < 0 ∨ 3 < (impl_ReadDeed.parts s).length) from fun h => Or.elim h h1 h2), impl_DeedText_is _ _ _ k hk, Option.bind_some]
      by_cases h3 : deedP (impl_ReadDeed.kind s) (impl_ReadDeed.numA s) (impl_ReadDeed.numB s) = s
      · rw [if_pos ((toList_iff _ _).2 h3), if_pos h3]
      · rw [if_neg (fun h => h3 ((toList_iff _ _).1 h)), if_neg h3]
/-- A deed that has a text is one of five. -/
theorem deedP_cases {kind a b : Int} {s : ByteArray} (h : deedP kind a b = s) (hs : s ≠ ⟨#[]⟩) :
    (kind = 0 ∧ (0 ≤ a ∧ a ≤ 99) ∧ (0 ≤ b ∧ b ≤ 99) ∧ s = strP ([99, 111, 109, 101] ++ 32 :: (digs a ++ 32 :: digs b))) ∨ (kind = 2 ∧ (0 ≤ a ∧ a ≤ 99) ∧ b = 0 ∧ s = strP ([110, 101, 101, 100] ++ 32 :: digs a)) ∨
      (kind = 3 ∧ (0 ≤ a ∧ a ≤ 99) ∧ b = 0 ∧ s = strP ([108, 97, 116, 101, 114] ++ 32 :: digs a)) ∨ (kind = 1 ∧ a = 0 ∧ b = 0 ∧ s = strP [103, 111]) ∨ (kind = 4 ∧ a = 0 ∧ b = 0 ∧ s = strP [98, 97, 99, 107]) := by
  unfold deedP at h
  by_cases hab : (0 ≤ a ∧ a ≤ 99) ∧ (0 ≤ b ∧ b ≤ 99)
  · rw [if_pos hab] at h
    obtain ⟨ha, hb⟩ := hab
    by_cases k0 : kind = 0
    · rw [if_pos k0, numP_digs a ha.1 ha.2, numP_digs b hb.1 hb.2] at h
      refine .inl ⟨k0, ha, hb, ?_⟩
      rw [← h]
      apply str_ext
      simp [strP, ByteArray.data_append]
    · rw [if_neg k0] at h
      by_cases hz : b = 0
      · rw [if_pos hz] at h
        by_cases k2 : kind = 2
        · rw [if_pos k2, numP_digs a ha.1 ha.2] at h
          refine .inr (.inl ⟨k2, ha, hz, ?_⟩)
          rw [← h]
          apply str_ext
          simp [strP, ByteArray.data_append]
        · rw [if_neg k2] at h
          by_cases k3 : kind = 3
          · rw [if_pos k3, numP_digs a ha.1 ha.2] at h
            refine .inr (.inr (.inl ⟨k3, ha, hz, ?_⟩))
            rw [← h]
            apply str_ext
            simp [strP, ByteArray.data_append]
          · rw [if_neg k3] at h
            by_cases az : a = 0
            · rw [if_pos az] at h
              by_cases k1 : kind = 1
              · rw [if_pos k1] at h
                exact .inr (.inr (.inr (.inl ⟨k1, az, hz, h.symm⟩)))
              · rw [if_neg k1] at h
                by_cases k4 : kind = 4
                · rw [if_pos k4] at h
                  exact .inr (.inr (.inr (.inr ⟨k4, az, hz, h.symm⟩)))
                · rw [if_neg k4] at h; exact absurd h.symm hs
            · rw [if_neg az] at h; exact absurd h.symm hs
      · rw [if_neg hz] at h; exact absurd h.symm hs
  · rw [if_neg hab] at h; exact absurd h.symm hs
theorem digs_sp (n : Int) (h0 : 0 ≤ n) (h1 : n ≤ 99) : ∀ c ∈ digs n, c ≠ 32 := fun c hc => no_space (digs_no n h0 h1 c hc)
theorem read_of_parts {s : ByteArray} {kind a b : Int} {ps : List ByteArray} (hp : impl_ReadDeed.parts s = ps) (hl : ps.length ≤ 3) (hk : Lib.idxOfS impl_ReadDeed.kinds (ps.getD 0 ByteArray.empty) = kind) (hk0 : 0 ≤ kind) (ha : (if 1 < ps.length then impl_ReadDeed.atoi (ps.getD 1 ByteArray.empty) else 0) = a) (hb : (if 2 < ps.length then impl_ReadDeed.atoi (ps.getD 2 ByteArray.empty) else 0) = b) (h : deedP kind a b = s) : readP s = (kind, a, b, true) := by
  have e1 : impl_ReadDeed.kind s = kind := by unfold impl_ReadDeed.kind impl_ReadDeed.part; rw [hp]; exact hk
  have e2 : impl_ReadDeed.numA s = a := by unfold impl_ReadDeed.numA impl_ReadDeed.part; rw [hp]; exact ha
  have e3 : impl_ReadDeed.numB s = b := by unfold impl_ReadDeed.numB impl_ReadDeed.part; rw [hp]; exact hb
  unfold readP
  rw [e1, e2, e3, hp, if_neg (by omega), if_pos h]
theorem read_text {kind a b : Int} {s : ByteArray} (h : deedP kind a b = s) (hs : s ≠ ⟨#[]⟩) : readP s = (kind, a, b, true) := by
  rcases deedP_cases h hs with ⟨rfl, ha, hb, e⟩ | ⟨rfl, ha, rfl, e⟩ | ⟨rfl, ha, rfl, e⟩ | ⟨rfl, rfl, rfl, e⟩ | ⟨rfl, rfl, rfl, e⟩
  · have hp : impl_ReadDeed.parts s = [strP [99, 111, 109, 101], strP (digs a), strP (digs b)] := by
      rw [e, parts_hit _ _ (by decide), parts_hit _ _ (digs_sp a ha.1 ha.2), parts_last _ (digs_sp b hb.1 hb.2)]
    refine read_of_parts hp (by simp) (show Lib.idxOfS impl_ReadDeed.kinds (strP [99, 111, 109, 101]) = 0 by decide) (by decide) ?_ ?_ h
    · rw [if_pos (by simp)]
      show impl_ReadDeed.atoi (strP (digs a)) = a
      rw [← numP_digs a ha.1 ha.2, atoi_digs a ha.1 ha.2]
    · rw [if_pos (by simp)]
      show impl_ReadDeed.atoi (strP (digs b)) = b
      rw [← numP_digs b hb.1 hb.2, atoi_digs b hb.1 hb.2]
  · have hp : impl_ReadDeed.parts s = [strP [110, 101, 101, 100], strP (digs a)] := by
      rw [e, parts_hit _ _ (by decide), parts_last _ (digs_sp a ha.1 ha.2)]
    refine read_of_parts hp (by simp) (show Lib.idxOfS impl_ReadDeed.kinds (strP [110, 101, 101, 100]) = 2 by decide) (by decide) ?_ (by simp) h
    rw [if_pos (by simp)]
    show impl_ReadDeed.atoi (strP (digs a)) = a
    rw [← numP_digs a ha.1 ha.2, atoi_digs a ha.1 ha.2]
  · have hp : impl_ReadDeed.parts s = [strP [108, 97, 116, 101, 114], strP (digs a)] := by
      rw [e, parts_hit _ _ (by decide), parts_last _ (digs_sp a ha.1 ha.2)]
    refine read_of_parts hp (by simp) (show Lib.idxOfS impl_ReadDeed.kinds (strP [108, 97, 116, 101, 114]) = 3 by decide) (by decide) ?_ (by simp) h
    rw [if_pos (by simp)]
    show impl_ReadDeed.atoi (strP (digs a)) = a
    rw [← numP_digs a ha.1 ha.2, atoi_digs a ha.1 ha.2]
  · exact read_of_parts (ps := [strP [103, 111]]) (by rw [e]; exact parts_last _ (by decide)) (by simp) (by decide) (by decide) (by simp) (by simp) h
  · exact read_of_parts (ps := [strP [98, 97, 99, 107]]) (by rw [e]; exact parts_last _ (by decide)) (by simp) (by decide) (by decide) (by simp) (by simp) h
theorem read_empty : readP ⟨#[]⟩ = (0, 0, 0, false) := by
  have hp : impl_ReadDeed.parts ⟨#[]⟩ = [⟨#[]⟩] := parts_last [] (by simp)
  have hk : impl_ReadDeed.kind ⟨#[]⟩ = -1 := by
    unfold impl_ReadDeed.kind impl_ReadDeed.part
    rw [hp]; decide
  unfold readP
  rw [if_pos (.inl (by rw [hk]; decide))]
theorem read_cases (s : ByteArray) : (∃ kind a b, deedP kind a b = s ∧ s ≠ ⟨#[]⟩ ∧ readP s = (kind, a, b, true)) ∨ ((∀ kind a b, deedP kind a b = s → s = ⟨#[]⟩) ∧ readP s = (0, 0, 0, false)) := by
  by_cases h0 : s = ⟨#[]⟩
  · right
    rw [h0]
    exact ⟨fun _ _ _ _ => rfl, read_empty⟩
  · by_cases h : ∃ kind a b, deedP kind a b = s
    · obtain ⟨kind, a, b, h⟩ := h
      exact .inl ⟨kind, a, b, h, h0, read_text h h0⟩
    · refine .inr ⟨fun kind a b e => absurd ⟨kind, a, b, e⟩ h, ?_⟩
      unfold readP
      split
      · rfl
      · rw [if_neg (fun e => h ⟨_, _, _, e⟩)]

/-! readdeed_spec -/
theorem bt_nat (s : ByteArray) (i : Nat) (h : i < s.size) : bt s (i : Int) = ((s.data.toList.getD i 0).toNat : Int) := by
  have h2 : i < s.data.toList.length := by rw [Array.length_toList]; exact h
  unfold bt
  rw [dif_pos (by rw [Int.toNat_natCast]; exact h), getD_lt h2]
  rfl
theorem of32 (c : UInt8) : ((c.toNat : Int) = 32) ↔ c = 32 := by
  constructor
  · intro h
    apply UInt8.toNat_inj.1
    have : c.toNat = 32 := by omega
    rw [this]; rfl
  · intro h; rw [h]; rfl
/-- What stands between the spaces. -/
def cutP : List UInt8 → List UInt8 → List ByteArray
  | acc, [] => [strP acc]
  | acc, c :: cs => if c = 32 then strP acc :: cutP [] cs else cutP (acc ++ [c]) cs
theorem cutP_length : ∀ (l acc : List UInt8), (cutP acc l).length ≤ l.length + 1 := by
  intro l
  induction l with
  | nil => intro acc; simp [cutP]
  | cons c cs ih =>
    intro acc
    simp only [cutP]
    split
    · have := ih []; simp only [List.length_cons]; omega
    · have := ih (acc ++ [c]); simp only [List.length_cons]; omega
theorem cutP_hit : ∀ (w acc rest : List UInt8), (∀ c ∈ w, c ≠ 32) → cutP acc (w ++ 32 :: rest) = strP (acc ++ w) :: cutP [] rest := by
  intro w
  induction w with
  | nil => intro acc rest _; simp [cutP]
  | cons c cs ih =>
    intro acc rest h
    simp only [List.cons_append, cutP]
    rw [if_neg (h c (by simp)), ih _ _ (fun x hx => h x (by simp [hx]))]
    simp
theorem cutP_last : ∀ (w acc : List UInt8), (∀ c ∈ w, c ≠ 32) → cutP acc w = [strP (acc ++ w)] := by
  intro w
  induction w with
  | nil => intro acc _; simp [cutP]
  | cons c cs ih =>
    intro acc h
    simp only [cutP]
    rw [if_neg (h c (by simp)), ih _ (fun x hx => h x (by simp [hx]))]
    simp
theorem spec_l1Cut_loop (s : ByteArray) (hs : s.size ≤ 1048577) : ∀ (suf : List UInt8) (i frm k : Nat) (out : List ByteArray), s.data.toList.drop i = suf → suf.length < k → i ≤ s.size → frm ≤ i → out.length ≤ i →
    spec_l1Cut.l0 k s 32 out frm i = some (out ++ cutP ((s.data.toList.drop frm).take (i - frm)) suf) := by
  have hsz : s.data.toList.length = s.size := by rw [Array.length_toList]; rfl
  intro suf
  induction suf with
  | nil =>
    intro i frm k out hd hk hi hf ho
    obtain ⟨k, rfl⟩ : ∃ m, k = m + 1 := ⟨k - 1, by omega⟩
    have := drop_nil hd
    simp only [spec_l1Cut.l0]
    rw [if_neg (by omega), if_pos (by omega), if_pos (by omega), if_pos (by omega), Int.toNat_natCast, extract_str]
    simp only [cutP]
    rw [show i = s.size from by omega]
  | cons c cs ih =>
    intro i frm k out hd hk hi hf ho
    obtain ⟨k, rfl⟩ : ∃ m, k = m + 1 := ⟨k - 1, by omega⟩
    obtain ⟨hlt, hd2, hx⟩ := drop_split hd
    simp only [List.length_cons] at hk
    simp only [spec_l1Cut.l0]
    rw [if_pos (by omega), if_pos (by omega), bt_nat s i (by omega), hx 0, w64s i (by omega)]
    simp only [cutP]
    by_cases h : c = 32
    · rw [if_pos ((of32 c).2 h), if_pos (by omega), if_pos (by omega), if_pos (by omega), if_pos (by omega), if_pos h, Int.toNat_natCast, Int.toNat_natCast, extract_str, ih (i + 1) (i + 1) k _ hd2 (by omega) (by omega) (by omega) (by rw [List.length_append]; simp; omega)]
      simp
    · rw [if_neg (fun e => h ((of32 c).1 e)), if_neg h, ih (i + 1) frm k out hd2 (by omega) (by omega) (by omega) (by omega)]
      congr 3
      rw [show i + 1 - frm = (i - frm) + 1 from by omega, List.take_succ_eq_append_getElem (by rw [List.length_drop]; omega)]
      congr 1
      have e1 := hx 0
      rw [getD_lt hlt] at e1
      rw [List.getElem_drop, ← e1]
      congr 2
      omega
theorem spec_l1Cut_is (s : ByteArray) (hs : s.size ≤ 1048577) (k : Nat) (hk : s.size < k) : spec_l1Cut.f k s 32 = some (cutP [] s.data.toList) := by
  have hsz : s.data.toList.length = s.size := by rw [Array.length_toList]; rfl
  unfold spec_l1Cut.f
  have := spec_l1Cut_loop s hs s.data.toList 0 0 k [] rfl (by omega) (by omega) (by omega) (by simp)
  rw [show ((0 : Nat) : Int) = 0 from rfl] at this
  rw [this]; rfl
/-- Digits are some number or none, of whatever text. -/
theorem l1Digits_loop (s : ByteArray) (h6 : s.size ≤ 6) : ∀ (d i k : Nat) (n : Int), i + d = s.size → d < k → 0 ≤ n → n < 10 ^ i → ∃ v, spec_l1Digits.l0 k s n i = some v := by
  intro d
  induction d with
  | zero =>
    intro i k n hi hk h0 h1
    obtain ⟨k, rfl⟩ : ∃ m, k = m + 1 := ⟨k - 1, by omega⟩
    simp only [spec_l1Digits.l0]
    rw [if_neg (by omega)]
    exact ⟨n, rfl⟩
  | succ d ih =>
    intro i k n hi hk h0 h1
    obtain ⟨k, rfl⟩ : ∃ m, k = m + 1 := ⟨k - 1, by omega⟩
    simp only [spec_l1Digits.l0]
    have hb := bt_range s (i : Int)
    have hp : (10 : Int) ^ i ≤ 10 ^ 6 := by
      have : (10 : Nat) ^ i ≤ 10 ^ 6 := Nat.pow_le_pow_right (by omega) (by omega)
      exact_mod_cast this
    rw [if_pos (by omega), if_pos (by omega)]
    by_cases h2 : bt s (i : Int) < 48
    · rw [if_pos h2]; exact ⟨_, rfl⟩
    · rw [if_neg h2]
      by_cases h3 : bt s (i : Int) > 57
      · rw [if_pos h3]; exact ⟨_, rfl⟩
      · have e10 : (10 : Int) ^ 6 = 1000000 := by decide
        rw [if_neg h3, w64s i (by omega), show wrap64 (10 * n) = 10 * n from w64 (by omega) (by omega), show wrap64 (10 * n + (bt s (i : Int) - 48) % 256) = 10 * n + (bt s (i : Int) - 48) % 256 from w64 (by omega) (by omega)]
        refine ih (i + 1) k _ (by omega) (by omega) (by omega) ?_
        rw [Int.pow_succ]; omega
theorem l1Digits_some (s : ByteArray) (k : Nat) (hk : 9 ≤ k) : ∃ v, spec_l1Digits.f k s = some v := by
  obtain ⟨k, rfl⟩ : ∃ m, k = m + 1 := ⟨k - 1, by omega⟩
  unfold spec_l1Digits.f
  rw [spec_l1In_is, Option.bind_some]
  have hj : ∀ x : Bool, s.size ≤ 6 → ∃ v, spec_l1Digits.j0 (k + 1) s x = some v := by
    intro x h6
    simp only [spec_l1Digits.j0]
    cases x with
    | true => rw [if_pos rfl]; exact ⟨_, rfl⟩
    | false =>
      rw [if_neg (by simp)]
      exact l1Digits_loop s h6 s.size 0 k 0 (by omega) (by omega) (by omega) (by simp)
  by_cases h : (1 : Int) ≤ (s.size : Int) ∧ (s.size : Int) ≤ 6
  · rw [if_pos (decide_eq_true h)]
    split
    · rw [if_pos (by omega)]; exact hj _ (by omega)
    · exact hj _ (by omega)
  · rw [if_neg (by rw [decide_eq_false h]; simp)]
    simp only [spec_l1Digits.j0]
    exact ⟨_, rfl⟩
theorem l1Digits_num (n : Int) (h0 : 0 ≤ n) (h1 : n ≤ 99) (k : Nat) (hk : 9 ≤ k) : spec_l1Digits.f k (strP (digs n)) = some n := by
  obtain ⟨k, rfl⟩ : ∃ m, k = m + 1 := ⟨k - 1, by omega⟩
  obtain ⟨k, rfl⟩ : ∃ m, k = m + 1 := ⟨k - 1, by omega⟩
  obtain ⟨k, rfl⟩ : ∃ m, k = m + 1 := ⟨k - 1, by omega⟩
  obtain ⟨k, rfl⟩ : ∃ m, k = m + 1 := ⟨k - 1, by omega⟩
  unfold spec_l1Digits.f
  rw [spec_l1In_is, Option.bind_some]
  have z0 : wrap64 (10 * 0) = 0 := w64 (by omega) (by omega)
  have z1 : wrap64 (0 + 1) = 1 := w64 (by omega) (by omega)
  have z2 : wrap64 (1 + 1) = 2 := w64 (by omega) (by omega)
  by_cases h : n < 10
  · have e : digs n = [UInt8.ofNat (48 + n.toNat)] := by unfold digs; rw [if_pos h]
    have hc := of_nat_toNat (48 + n.toNat) (by omega)
    have hsz : (strP (digs n)).size = 1 := by rw [e]; rfl
    have hb : bt (strP (digs n)) 0 = 48 + n := by
      have := bt_nat (strP (digs n)) 0 (by omega)
      rw [show ((0 : Nat) : Int) = 0 from rfl] at this
      rw [this, strP_list, e]
      show ((UInt8.ofNat (48 + n.toNat)).toNat : Int) = 48 + n
      rw [hc]; omega
    rw [hsz, if_pos (by decide), if_neg (by decide)]
    simp only [spec_l1Digits.j0, spec_l1Digits.l0]
    rw [if_neg (by simp), hsz, hb, z1, if_pos (by decide), if_pos (by decide), if_neg (by omega), if_neg (by omega), if_neg (by decide), z0, show wrap64 (0 + (48 + n - 48) % 256) = n from by rw [w64 (by omega) (by omega)]; omega]
  · have e : digs n = [UInt8.ofNat (48 + n.toNat / 10), UInt8.ofNat (48 + n.toNat % 10)] := by unfold digs; rw [if_neg h]
    have hc := of_nat_toNat (48 + n.toNat / 10) (by omega)
    have hd := of_nat_toNat (48 + n.toNat % 10) (by omega)
    have hsz : (strP (digs n)).size = 2 := by rw [e]; rfl
    have hb : bt (strP (digs n)) 0 = 48 + n / 10 := by
      have := bt_nat (strP (digs n)) 0 (by omega)
      rw [show ((0 : Nat) : Int) = 0 from rfl] at this
      rw [this, strP_list, e]
      show ((UInt8.ofNat (48 + n.toNat / 10)).toNat : Int) = 48 + n / 10
      rw [hc]; omega
    have hb2 : bt (strP (digs n)) 1 = 48 + n % 10 := by
      have := bt_nat (strP (digs n)) 1 (by omega)
      rw [show ((1 : Nat) : Int) = 1 from rfl] at this
      rw [this, strP_list, e]
      show ((UInt8.ofNat (48 + n.toNat % 10)).toNat : Int) = 48 + n % 10
      rw [hd]; omega
    rw [hsz, if_pos (by decide), if_pos (by decide), if_pos (by decide), hb, show ((48 + n / 10 == (48 : Int)) : Bool) = false from beq_eq_false_iff_ne.2 (by omega)]
    simp only [spec_l1Digits.j0, spec_l1Digits.l0]
    rw [if_neg (by simp), hsz, hb, z1, z2, hb2, if_pos (by decide), if_pos (by decide), if_neg (by omega), if_neg (by omega), if_pos (by decide), if_pos (by decide), if_neg (by omega), if_neg (by omega), if_neg (by decide), z0, show wrap64 (0 + (48 + n / 10 - 48) % 256) = n / 10 from by rw [w64 (by omega) (by omega)]; omega, show wrap64 (10 * (n / 10)) = 10 * (n / 10) from w64 (by omega) (by omega), show wrap64 (10 * (n / 10) + (48 + n % 10 - 48) % 256) = n from by rw [w64 (by omega) (by omega)]; omega]
theorem rd_Deed_nat (l : List S25) (i : Nat) : rd_T25 l (i : Int) = l.getD i z25 := by
  unfold rd_T25
  rw [Int.toNat_natCast]
/-- The loop over what a text may be: the first that has this text, if the text isn't empty. -/
theorem spec_find (s : ByteArray) (L : List S25) (hL : L.length ≤ 10) : ∀ (suf : List S25) (i k : Nat), L.drop i = suf → suf.length + 12 < k → i ≤ L.length →
    spec_ReadDeed.l0 k s L i = some (match suf.find? (fun d => decide (s ≠ ⟨#[]⟩ ∧ deedP d.f0 d.f1 d.f2 = s)) with | some d => (d.f0, d.f1, d.f2, true) | none => (0, 0, 0, false)) := by
  intro suf
  induction suf with
  | nil =>
    intro i k hd hk hi
    obtain ⟨k, rfl⟩ : ∃ m, k = m + 1 := ⟨k - 1, by omega⟩
    have := drop_nil hd
    simp only [spec_ReadDeed.l0]
    rw [if_neg (by omega)]; rfl
  | cons d ds ih =>
    intro i k hd hk hi
    obtain ⟨k, rfl⟩ : ∃ m, k = m + 1 := ⟨k - 1, by omega⟩
    obtain ⟨hlt, hd2, hx⟩ := drop_split hd
    simp only [List.length_cons] at hk
    simp only [spec_ReadDeed.l0]
    have hnil : s.toList = ([] : List UInt8) ↔ s = ⟨#[]⟩ := by rw [← toList_iff]; exact ⟨fun e => e.trans empty_toList.symm, fun e => e.trans empty_toList⟩
    rw [if_pos (by omega), w64s i (by omega), ih (i + 1) k hd2 (by omega) (by omega)]
    by_cases h0 : s = ⟨#[]⟩
    · rw [if_pos (hnil.2 h0), List.find?_cons_of_neg (by simp [h0])]
    · rw [if_neg (fun e => h0 (hnil.1 e)), if_pos (by omega), rd_Deed_nat, hx, spec_DeedText_is _ _ _ k (by omega), Option.bind_some]
      by_cases h1 : deedP d.f0 d.f1 d.f2 = s
      · rw [if_pos ((toList_iff _ _).2 h1), List.find?_cons_of_pos (by simp [h0, h1])]
      · rw [if_neg (fun e => h1 ((toList_iff _ _).1 e)), List.find?_cons_of_neg (by simp [h1])]
theorem find_read (s : ByteArray) (L : List S25) (hL : ∀ kind a b, deedP kind a b = s → s ≠ ⟨#[]⟩ → (⟨kind, a, b⟩ : S25) ∈ L) :
    (match L.find? (fun d => decide (s ≠ ⟨#[]⟩ ∧ deedP d.f0 d.f1 d.f2 = s)) with | some d => (d.f0, d.f1, d.f2, true) | none => (0, 0, 0, false)) = readP s := by
  cases hf : L.find? (fun d => decide (s ≠ ⟨#[]⟩ ∧ deedP d.f0 d.f1 d.f2 = s)) with
  | some d =>
    have h := List.find?_some hf
    rw [decide_eq_true_eq] at h
    exact (read_text h.2 h.1).symm
  | none =>
    rcases read_cases s with ⟨kind, a, b, h, h0, -⟩ | ⟨-, h⟩
    · have := List.find?_eq_none.1 hf _ (hL kind a b h h0)
      exact absurd (decide_eq_true (show s ≠ ⟨#[]⟩ ∧ deedP kind a b = s from ⟨h0, h⟩)) this
    · exact h.symm
theorem spec_ReadDeed_is (s : ByteArray) (hs : s.size ≤ 1048577) (k : Nat) (hk : s.size + 40 ≤ k) : spec_ReadDeed.f k s = some (readP s) := by
  obtain ⟨k, rfl⟩ : ∃ m, k = m + 1 := ⟨k - 1, by omega⟩
  obtain ⟨k, rfl⟩ : ∃ m, k = m + 1 := ⟨k - 1, by omega⟩
  unfold spec_ReadDeed.f
  rw [spec_l1Cut_is s hs _ (by omega), Option.bind_some, Option.bind_some]
  generalize hW : cutP [] s.data.toList = W
  have hgo : ∀ L : List S25, L.length ≤ 10 → (∀ kind a b, deedP kind a b = s → s ≠ ⟨#[]⟩ → (⟨kind, a, b⟩ : S25) ∈ L) → spec_ReadDeed.j1 (k + 1) s L = some (readP s) := by
    intro L h10 hL
    simp only [spec_ReadDeed.j1]
    have := spec_find s L h10 L 0 k rfl (by omega) (by omega)
    rw [show ((0 : Nat) : Int) = 0 from rfl] at this
    rw [this, find_read s L hL]
  have words : ∀ kind a b, deedP kind a b = s → s ≠ ⟨#[]⟩ → (kind = 0 ∧ W.length = 3 ∧ (0 ≤ a ∧ a ≤ 99) ∧ (0 ≤ b ∧ b ≤ 99) ∧ W.getD 1 ByteArray.empty = strP (digs a) ∧ W.getD 2 ByteArray.empty = strP (digs b)) ∨ ((kind = 2 ∨ kind = 3) ∧ W.length = 2 ∧ (0 ≤ a ∧ a ≤ 99) ∧ b = 0 ∧ W.getD 1 ByteArray.empty = strP (digs a)) ∨ ((kind = 1 ∨ kind = 4) ∧ a = 0 ∧ b = 0) := by
    intro kind a b h h0
    rcases deedP_cases h h0 with ⟨hk, ha, hb, e⟩ | ⟨hk, ha, hb, e⟩ | ⟨hk, ha, hb, e⟩ | ⟨hk, ha, hb, e⟩ | ⟨hk, ha, hb, e⟩
    · have hw : W = [strP [99, 111, 109, 101], strP (digs a), strP (digs b)] := by
        rw [← hW, e, strP_list, cutP_hit _ _ _ (by decide), cutP_hit _ _ _ (digs_sp a ha.1 ha.2), cutP_last _ _ (digs_sp b hb.1 hb.2)]; rfl
      exact .inl ⟨hk, by rw [hw]; rfl, ha, hb, by rw [hw]; rfl, by rw [hw]; rfl⟩
    · have hw : W = [strP [110, 101, 101, 100], strP (digs a)] := by
        rw [← hW, e, strP_list, cutP_hit _ _ _ (by decide), cutP_last _ _ (digs_sp a ha.1 ha.2)]; rfl
      exact .inr (.inl ⟨.inl hk, by rw [hw]; rfl, ha, hb, by rw [hw]; rfl⟩)
    · have hw : W = [strP [108, 97, 116, 101, 114], strP (digs a)] := by
        rw [← hW, e, strP_list, cutP_hit _ _ _ (by decide), cutP_last _ _ (digs_sp a ha.1 ha.2)]; rfl
      exact .inr (.inl ⟨.inr hk, by rw [hw]; rfl, ha, hb, by rw [hw]; rfl⟩)
    · exact .inr (.inr ⟨.inl hk, ha, hb⟩)
    · exact .inr (.inr ⟨.inr hk, ha, hb⟩)
  have e1 : rdOf ByteArray.empty W 1 = W.getD 1 ByteArray.empty := rfl
  have e2 : rdOf ByteArray.empty W 2 = W.getD 2 ByteArray.empty := rfl
  have hgb : ∀ kind : Int, (kind = 1 ∨ kind = 4) → (⟨kind, 0, 0⟩ : S25) ∈ [(⟨1, 0, 0⟩ : S25), ⟨4, 0, 0⟩] := by
    rintro kind (rfl | rfl) <;> simp
  by_cases h3 : (W.length : Int) = 3
  · obtain ⟨da, hda⟩ := l1Digits_some (W.getD 1 ByteArray.empty) (k + 2) (by omega)
    obtain ⟨db, hdb⟩ := l1Digits_some (W.getD 2 ByteArray.empty) (k + 2) (by omega)
    rw [if_pos h3, if_pos (by omega), e1, hda, Option.bind_some, if_pos (by omega), e2, hdb, Option.bind_some, if_pos (by simp)]
    simp only [spec_ReadDeed.j0]
    rw [if_neg (by omega)]
    refine hgo _ (by simp) (fun kind a b h h0 => ?_)
    rcases words kind a b h h0 with ⟨hk0, -, ha, hb, g1, g2⟩ | ⟨-, hl, -⟩ | ⟨hk1, ha, hb⟩
    · rw [g1, l1Digits_num a ha.1 ha.2 _ (by omega)] at hda
      rw [g2, l1Digits_num b hb.1 hb.2 _ (by omega)] at hdb
      rw [hk0, Option.some.inj hda, Option.some.inj hdb]; simp
    · omega
    · rw [ha, hb]; exact List.mem_append_left _ (hgb kind hk1)
  · rw [if_neg h3]
    simp only [spec_ReadDeed.j0]
    by_cases h2 : (W.length : Int) = 2
    · obtain ⟨da, hda⟩ := l1Digits_some (W.getD 1 ByteArray.empty) (k + 1) (by omega)
      rw [if_pos h2, if_pos (by omega), e1, hda, Option.bind_some, Option.bind_some, if_pos (by simp)]
      refine hgo _ (by simp) (fun kind a b h h0 => ?_)
      rcases words kind a b h h0 with ⟨-, hl, -⟩ | ⟨hk2, -, ha, hb, g1⟩ | ⟨hk1, ha, hb⟩
      · omega
      · rw [g1, l1Digits_num a ha.1 ha.2 _ (by omega)] at hda
        have := Option.some.inj hda
        subst this
        rw [hb]
        rcases hk2 with rfl | rfl <;> simp
      · rw [ha, hb]; exact List.mem_append_left _ (hgb kind hk1)
    · rw [if_neg h2]
      refine hgo _ (by simp) (fun kind a b h h0 => ?_)
      rcases words kind a b h h0 with ⟨-, hl, -⟩ | ⟨-, hl, -⟩ | ⟨hk1, ha, hb⟩
      · omega
      · omega
      · rw [ha, hb]; exact hgb kind hk1

/-! setdrop -/
theorem set_append_drop {α : Type} (X : List α) (v : α) {i : Nat} (h : i < X.length) : (X.set i v).take (i + 1) = X.take i ++ [v] ∧ (X.set i v).drop (i + 1) = X.drop (i + 1) := by
  constructor
  · rw [List.take_succ_eq_append_getElem (by rw [List.length_set]; exact h), List.take_set_of_le (Nat.le_refl _), List.getElem_set_self]
  · rw [List.drop_set_of_lt (by omega)]

/-! eqdeed -/
theorem eqDeedS_loop (a : List S25) (ha : a.length ≤ 1048577) : ∀ (suf : List S25) (i k : Nat), a.drop i = suf → suf.length < k → laws_eqDeedS.l0 k a a i = some true := by
  intro suf
  induction suf with
  | nil =>
    intro i k hd hk
    obtain ⟨k, rfl⟩ : ∃ m, k = m + 1 := ⟨k - 1, by omega⟩
    have := drop_nil hd
    simp only [laws_eqDeedS.l0]
    rw [if_neg (by omega)]
  | cons x xs ih =>
    intro i k hd hk
    obtain ⟨k, rfl⟩ : ∃ m, k = m + 1 := ⟨k - 1, by omega⟩
    obtain ⟨hlt, hd2, hx⟩ := drop_split hd
    have e : ∀ p q r, laws_eqDeed.f p q r p q r = some true := by intro p q r; unfold laws_eqDeed.f; rw [if_pos rfl, if_pos rfl, if_pos rfl]
    simp only [laws_eqDeedS.l0]
    rw [if_pos (by omega), if_pos (by omega), if_pos (by omega), e]
    simp only [Option.bind_some]
    rw [if_pos trivial, w64s i (by omega), ih (i + 1) k hd2 (by simp at hk; omega)]
theorem eqDeedS_is (a : List S25) (ha : a.length ≤ 1048577) (k : Nat) (hk : a.length < k) : laws_eqDeedS.f k a a = some true := by
  unfold laws_eqDeedS.f
  rw [if_pos rfl]
  exact eqDeedS_loop a ha a 0 k rfl hk

/-! markdeedx -/
/-- The marks of deeds from m on. -/
def seqD (m : Int) : Nat → List S25
  | 0 => []
  | d + 1 => ⟨m, m + 1, m + 2⟩ :: seqD (m + 3) d
theorem seqD_length : ∀ (d : Nat) (m : Int), (seqD m d).length = d := by
  intro d
  induction d with
  | zero => intro m; rfl
  | succ d ih => intro m; simp only [seqD, List.length_cons, ih]
theorem markDeedS_exact : ∀ (d i k : Nat) (X : List S25) (m : Int), i + d = X.length → X.length ≤ 1048577 → d < k → 0 ≤ m → m + 3 * d ≤ 1000000000 → laws_markDeedS.l0 k X m i = some (m + 3 * d, X.take i ++ seqD m d) := by
  intro d
  induction d with
  | zero =>
    intro i k X m he hl hk h0 h1
    obtain ⟨k, rfl⟩ : ∃ m, k = m + 1 := ⟨k - 1, by omega⟩
    simp only [laws_markDeedS.l0]
    rw [if_neg (by omega), List.take_of_length_le (by omega)]
    simp [seqD]
  | succ d ih =>
    intro i k X m he hl hk h0 h1
    obtain ⟨k, rfl⟩ : ∃ m, k = m + 1 := ⟨k - 1, by omega⟩
    simp only [laws_markDeedS.l0, Option.bind_some]
    have hi : i < X.length := by omega
    rw [if_pos (by omega), if_pos (by omega), show wrap64 (m + 1) = m + 1 from w64 (by omega) (by omega), show wrap64 (m + 1 + 1) = m + 2 from by rw [w64 (by omega) (by omega)]; omega, show wrap64 (m + 2 + 1) = m + 3 from by rw [w64 (by omega) (by omega)]; omega, w64s i (by omega), Int.toNat_natCast, rd_Deed_nat, rd_Deed_nat, rd_Deed_nat]
    have e0 : (X.set i (⟨m, (X.getD i z25).f1, (X.getD i z25).f2⟩ : S25)).getD i z25 = ⟨m, (X.getD i z25).f1, (X.getD i z25).f2⟩ := by
      rw [getD_lt (by rw [List.length_set]; exact hi), List.getElem_set_self]
    rw [e0]
    dsimp only
    rw [show (X.set i (⟨m, (X.getD i z25).f1, (X.getD i z25).f2⟩ : S25)).set i (⟨m, m + 1, (X.getD i z25).f2⟩ : S25) = X.set i (⟨m, m + 1, (X.getD i z25).f2⟩ : S25) from List.set_set ..]
    have e2 : (X.set i (⟨m, m + 1, (X.getD i z25).f2⟩ : S25)).getD i z25 = ⟨m, m + 1, (X.getD i z25).f2⟩ := by
      rw [getD_lt (by rw [List.length_set]; exact hi), List.getElem_set_self]
    rw [e2, List.set_set]
    dsimp only
    obtain ⟨e1, -⟩ := set_append_drop X (⟨m, m + 1, m + 2⟩ : S25) (i := i) hi
    rw [ih (i + 1) k _ (m + 3) (by rw [List.length_set]; omega) (by rw [List.length_set]; exact hl) (by omega) (by omega) (by omega), e1]
    simp only [seqD, List.append_assoc, List.singleton_append]
    congr 2
    omega
theorem markDeedS_ex (l : List S25) (hl : l.length ≤ 1048577) (k : Nat) (hk : l.length < k) (m : Int) (h0 : 0 ≤ m) (h1 : m ≤ 100000000) : laws_markDeedS.f k l m = some (m + 3 * l.length, seqD m l.length) := by
  unfold laws_markDeedS.f
  have := markDeedS_exact l.length 0 k l m (by omega) hl hk h0 (by omega)
  rw [show ((0 : Nat) : Int) = 0 from rfl] at this
  rw [this]
  simp
theorem heldDeedS_loop (X : List S25) (hl : X.length ≤ 1048577) : ∀ (d i k : Nat) (m : Int), i + d = X.length → d < k → 0 ≤ m → m + 3 * d ≤ 1000000000 → X.drop i = seqD m d → laws_heldDeedS.l0 k X m i = some (m + 3 * d) := by
  intro d
  induction d with
  | zero =>
    intro i k m he hk h0 h1 hX
    obtain ⟨k, rfl⟩ : ∃ m, k = m + 1 := ⟨k - 1, by omega⟩
    simp only [laws_heldDeedS.l0]
    rw [if_neg (by omega)]
    simp
  | succ d ih =>
    intro i k m he hk h0 h1 hX
    obtain ⟨k, rfl⟩ : ∃ m, k = m + 1 := ⟨k - 1, by omega⟩
    obtain ⟨hlt, hd2, hx⟩ := drop_split (show X.drop i = ⟨m, m + 1, m + 2⟩ :: seqD (m + 3) d from hX)
    simp only [laws_heldDeedS.l0]
    rw [if_pos (by omega), if_pos (by omega), rd_Deed_nat, hx, if_pos rfl, show wrap64 (m + 1) = m + 1 from w64 (by omega) (by omega), if_pos rfl, show wrap64 (m + 1 + 1) = m + 2 from by rw [w64 (by omega) (by omega)]; omega, if_pos rfl, show wrap64 (m + 2 + 1) = m + 3 from by rw [w64 (by omega) (by omega)]; omega, w64s i (by omega), ih (i + 1) k (m + 3) (by omega) (by omega) (by omega) (by omega) hd2]
    congr 1
    omega
theorem heldDeedS_is (n : Nat) (hn : n ≤ 1048577) (k : Nat) (hk : n < k) (m : Int) (h0 : 0 ≤ m) (h1 : m ≤ 100000000) : laws_heldDeedS.f k (seqD m n) m = some (m + 3 * n) := by
  unfold laws_heldDeedS.f
  exact heldDeedS_loop _ (by rw [seqD_length]; exact hn) n 0 k m (by rw [seqD_length]; omega) hk h0 (by omega) rfl

/-! readjournal -/
/-- A journal is read line by line: deeds so far, where the line began, the line so far, the bytes to come. -/
def jrP (out : List S25) (frm : Nat) (acc : List UInt8) : List UInt8 → List S25 × Nat
  | [] => (out, frm)
  | c :: cs => if c = 10 then (if (readP (strP acc)).2.2.2 = true then jrP (out ++ [⟨(readP (strP acc)).1, (readP (strP acc)).2.1, (readP (strP acc)).2.2.1⟩]) (frm + acc.length + 1) [] cs else (out, frm)) else jrP out frm (acc ++ [c]) cs
theorem jrP_hit : ∀ (w acc rest : List UInt8) (out : List S25) (frm : Nat), (∀ c ∈ w, c ≠ 10) →
    jrP out frm acc (w ++ 10 :: rest) = (if (readP (strP (acc ++ w))).2.2.2 = true then jrP (out ++ [⟨(readP (strP (acc ++ w))).1, (readP (strP (acc ++ w))).2.1, (readP (strP (acc ++ w))).2.2.1⟩]) (frm + (acc ++ w).length + 1) [] rest else (out, frm)) := by
  intro w
  induction w with
  | nil => intro acc rest out frm _; simp [jrP]
  | cons c cs ih =>
    intro acc rest out frm h
    simp only [List.cons_append, jrP]
    rw [if_neg (h c (by simp)), ih _ _ _ _ (fun x hx => h x (by simp [hx])), List.append_assoc, List.singleton_append]
theorem jrP_last : ∀ (w acc : List UInt8) (out : List S25) (frm : Nat), (∀ c ∈ w, c ≠ 10) → jrP out frm acc w = (out, frm) := by
  intro w
  induction w with
  | nil => intro acc out frm _; rfl
  | cons c cs ih =>
    intro acc out frm h
    simp only [jrP]
    rw [if_neg (h c (by simp)), ih _ _ _ (fun x hx => h x (by simp [hx]))]
theorem jrP_size : ∀ (l acc : List UInt8) (out : List S25) (frm : Nat), out.length ≤ frm → (jrP out frm acc l).1.length ≤ (jrP out frm acc l).2 ∧ (jrP out frm acc l).2 ≤ frm + acc.length + l.length := by
  intro l
  induction l with
  | nil => intro acc out frm h; exact ⟨h, by show frm ≤ _; omega⟩
  | cons c cs ih =>
    intro acc out frm h
    simp only [jrP]
    split
    · split
      · have := ih [] (out ++ [⟨(readP (strP acc)).1, (readP (strP acc)).2.1, (readP (strP acc)).2.2.1⟩]) (frm + acc.length + 1) (by rw [List.length_append]; simp; omega)
        simp only [List.length_cons, List.length_nil] at *; omega
      · simp only [List.length_cons]; omega
    · have := ih (acc ++ [c]) out frm h
      simp only [List.length_cons, List.length_append, List.length_nil] at *; omega
theorem split10 : ∀ l : List UInt8, (∃ w rest, l = w ++ 10 :: rest ∧ (∀ c ∈ w, c ≠ 10)) ∨ (∀ c ∈ l, c ≠ 10) := by
  intro l
  induction l with
  | nil => right; simp
  | cons c cs ih =>
    by_cases h : c = 10
    · left; exact ⟨[], cs, by rw [h]; rfl, by simp⟩
    · rcases ih with ⟨w, rest, e, hw⟩ | hw
      · left
        refine ⟨c :: w, rest, by rw [e]; rfl, ?_⟩
        intro x hx
        rcases List.mem_cons.1 hx with rfl | hx
        · exact h
        · exact hw x hx
      · right
        intro x hx
        rcases List.mem_cons.1 hx with rfl | hx
        · exact h
        · exact hw x hx
theorem index10_at (w rest : List UInt8) (h : ∀ c ∈ w, c ≠ 10) : Lib.indexByte (w ++ 10 :: rest) 10 = w.length := by
  induction w with
  | nil => simp [Lib.indexByte]
  | cons c cs ih =>
    have h1 := h c (by simp)
    have h2 := ih (fun x hx => h x (by simp [hx]))
    simp only [List.cons_append, Lib.indexByte]
    rw [if_neg (by simpa using h1), h2, if_neg (by simp)]
    simp
theorem index10_no (w : List UInt8) (h : ∀ c ∈ w, c ≠ 10) : Lib.indexByte w 10 = -1 := by
  induction w with
  | nil => rfl
  | cons c cs ih =>
    simp only [Lib.indexByte]
    rw [if_neg (by simp [h c (by simp)]), ih (fun x hx => h x (by simp [hx]))]
    rfl
theorem cut10_at (w rest : List UInt8) (h : ∀ c ∈ w, c ≠ 10) : Lib.cut (w ++ 10 :: rest) [10] = (w, rest, true) := by
  have e : Lib.index (w ++ 10 :: rest) [10] = w.length := (Lib.index_one _ 10).trans (index10_at w rest h)
  unfold Lib.cut
  rw [e, if_pos (by omega), Int.toNat_natCast]
  simp
theorem cut10_no (w : List UInt8) (h : ∀ c ∈ w, c ≠ 10) : Lib.cut w [10] = (w, [], false) := by
  have e : Lib.index w [10] = -1 := (Lib.index_one _ 10).trans (index10_no w h)
  unfold Lib.cut
  rw [e, if_neg (by omega)]
theorem impl_ReadJournal_loop (s : ByteArray) (hs : s.size ≤ 1048577) : ∀ (n frm k : Nat) (out : List S25), s.size - frm ≤ n → n + 10 < k → frm ≤ s.size → out.length ≤ frm →
    impl_ReadJournal.l0 k s out frm = some ((jrP out frm [] (s.data.toList.drop frm)).1, ((jrP out frm [] (s.data.toList.drop frm)).2 : Int)) := by
  have hsz : s.data.toList.length = s.size := by rw [Array.length_toList]; rfl
  intro n
  induction n with
  | zero =>
    intro frm k out hn hk hf ho
    obtain ⟨k, rfl⟩ : ∃ m, k = m + 1 := ⟨k - 1, by omega⟩
    have ez : (s.data.toList.drop frm) = [] := List.drop_eq_nil_iff.2 (by omega)
    have ex : s.extract frm s.size = strP [] := by rw [extract_str, ez, List.take_nil]
    simp only [impl_ReadJournal.l0]
    rw [if_pos (by omega), if_pos (by omega), Int.toNat_natCast, ex, ez]
    unfold strings_Cut.f
    rw [if_pos (by rw [strP_size]; simp), Option.bind_some, strP_list, show ((⟨#[10]⟩ : ByteArray)).data.toList = [10] from rfl, cut10_no [] (by simp)]
    dsimp only
    rw [impl_ReadDeed_is _ (by show 0 ≤ _; omega) k (by omega), Option.bind_some, if_neg (by simp)]
    rfl
  | succ n ih =>
    intro frm k out hn hk hf ho
    obtain ⟨k, rfl⟩ : ∃ m, k = m + 1 := ⟨k - 1, by omega⟩
    have hdl : (s.data.toList.drop frm).length = s.size - frm := by rw [List.length_drop]; omega
    have ex : s.extract frm s.size = strP (s.data.toList.drop frm) := by rw [extract_str, List.take_of_length_le (by omega)]
    simp only [impl_ReadJournal.l0]
    rw [if_pos (by omega), if_pos (by omega), Int.toNat_natCast, ex]
    unfold strings_Cut.f
    rw [if_pos (by rw [strP_size]; omega), Option.bind_some, strP_list, show ((⟨#[10]⟩ : ByteArray)).data.toList = [10] from rfl]
    dsimp only
    rcases split10 (s.data.toList.drop frm) with ⟨w, rest, e, hw⟩ | hw
    · have hwl : w.length + rest.length + 1 = s.size - frm := by rw [← hdl, e]; simp; omega
      rw [e, cut10_at w rest hw, jrP_hit w [] rest out frm hw, List.nil_append]
      dsimp only
      rw [show (⟨w.toArray⟩ : ByteArray) = strP w from rfl, impl_ReadDeed_is _ (by rw [strP_size]; omega) k (by omega), Option.bind_some, if_pos rfl]
      by_cases h2 : (readP (strP w)).2.2.2 = true
      · have er : s.data.toList.drop (frm + w.length + 1) = rest := by
          rw [show frm + w.length + 1 = frm + (w.length + 1) from by omega, ← List.drop_drop, e, show w ++ 10 :: rest = (w ++ [10]) ++ rest from by simp, List.drop_left' (by simp)]
        have p1 := ih (frm + w.length + 1) k (out ++ [⟨(readP (strP w)).1, (readP (strP w)).2.1, (readP (strP w)).2.2.1⟩]) (by omega) (by omega) (by omega) (by rw [List.length_append]; simp; omega)
        have hol : out.length < 5864062014805 := by omega
        have ew : wrap64 ((frm : Int) + wrap64 (((strP w).size : Int) + 1)) = ((frm + w.length + 1 : Nat) : Int) := by
          rw [strP_size, w64 (x := (w.length : Int) + 1) (by omega) (by omega), w64 (by omega) (by omega)]; omega
        rw [if_pos h2, if_pos h2, if_pos hol, ew, p1, er]
      · rw [if_neg h2, if_neg h2]
    · rw [cut10_no _ hw, jrP_last _ [] out frm hw]
      dsimp only
      rw [show (⟨(s.data.toList.drop frm).toArray⟩ : ByteArray) = strP (s.data.toList.drop frm) from rfl, impl_ReadDeed_is _ (by rw [strP_size]; omega) k (by omega), Option.bind_some, if_neg (by simp)]
theorem impl_ReadJournal_is (s : ByteArray) (hs : s.size ≤ 1048577) (k : Nat) (hk : s.size + 10 < k) : impl_ReadJournal.f k s = some ((jrP [] 0 [] s.data.toList).1, ((jrP [] 0 [] s.data.toList).2 : Int)) := by
  unfold impl_ReadJournal.f
  have := impl_ReadJournal_loop s hs s.size 0 k [] (by omega) (by omega) (by omega) (by simp)
  rw [show ((0 : Nat) : Int) = 0 from rfl] at this
  rw [this]; rfl

/-! readjournal_spec -/
theorem of10 (c : UInt8) : ((c.toNat : Int) = 10) ↔ c = 10 := by
  constructor
  · intro h
    apply UInt8.toNat_inj.1
    have : c.toNat = 10 := by omega
    rw [this]; rfl
  · intro h; rw [h]; rfl
theorem spec_ReadJournal_loop (s : ByteArray) (hs : s.size ≤ 1048577) : ∀ (suf : List UInt8) (i frm k : Nat) (out : List S25), s.data.toList.drop i = suf → suf.length + s.size + 50 < k → i ≤ s.size → frm ≤ i → out.length ≤ frm →
    spec_ReadJournal.l0 k s out frm i = some ((jrP out frm ((s.data.toList.drop frm).take (i - frm)) suf).1, ((jrP out frm ((s.data.toList.drop frm).take (i - frm)) suf).2 : Int)) := by
  have hsz : s.data.toList.length = s.size := by rw [Array.length_toList]; rfl
  intro suf
  induction suf with
  | nil =>
    intro i frm k out hd hk hi hf ho
    obtain ⟨k, rfl⟩ : ∃ m, k = m + 1 := ⟨k - 1, by omega⟩
    have := drop_nil hd
    simp only [spec_ReadJournal.l0]
    rw [if_neg (by omega)]
    rfl
  | cons c cs ih =>
    intro i frm k out hd hk hi hf ho
    obtain ⟨k, rfl⟩ : ∃ m, k = m + 1 := ⟨k - 1, by omega⟩
    obtain ⟨hlt, hd2, hx⟩ := drop_split hd
    simp only [List.length_cons] at hk
    simp only [spec_ReadJournal.l0]
    rw [if_pos (by omega), if_pos (by omega), bt_nat s i (by omega), hx 0, w64s i (by omega)]
    simp only [jrP]
    by_cases h : c = 10
    · have hal : ((s.data.toList.drop frm).take (i - frm)).length = i - frm := by rw [List.length_take, List.length_drop]; omega
      have hlz : (strP ((s.data.toList.drop frm).take (i - frm))).size ≤ s.size := by rw [strP_size, hal]; omega
      rw [if_pos ((of10 c).2 h), if_pos (by omega), if_pos (by omega), if_pos (by omega), Int.toNat_natCast, Int.toNat_natCast, extract_str, spec_ReadDeed_is _ (by omega) k (by omega), Option.bind_some, if_pos h]
      by_cases h2 : (readP (strP ((s.data.toList.drop frm).take (i - frm)))).2.2.2 = true
      · rw [if_pos h2, if_pos h2, if_pos (by omega), ih (i + 1) (i + 1) k _ hd2 (by omega) (by omega) (by omega) (by rw [List.length_append]; simp; omega), hal]
        rw [show frm + (i - frm) + 1 = i + 1 from by omega]
        simp
      · rw [if_neg h2, if_neg h2]
    · rw [if_neg (fun e => h ((of10 c).1 e)), if_neg h, ih (i + 1) frm k out hd2 (by omega) (by omega) (by omega) (by omega)]
      have e : List.take (i + 1 - frm) (List.drop frm s.data.toList) = List.take (i - frm) (List.drop frm s.data.toList) ++ [c] := by
        rw [show i + 1 - frm = (i - frm) + 1 from by omega, List.take_succ_eq_append_getElem (by rw [List.length_drop]; omega)]
        congr 1
        have e1 := hx 0
        rw [getD_lt hlt] at e1
        rw [List.getElem_drop, ← e1]
        congr 2
        omega
      rw [e]
theorem spec_ReadJournal_is (s : ByteArray) (hs : s.size ≤ 1048577) (k : Nat) (hk : 2 * s.size + 50 < k) : spec_ReadJournal.f k s = some ((jrP [] 0 [] s.data.toList).1, ((jrP [] 0 [] s.data.toList).2 : Int)) := by
  have hsz : s.data.toList.length = s.size := by rw [Array.length_toList]; rfl
  unfold spec_ReadJournal.f
  have := spec_ReadJournal_loop s hs s.data.toList 0 0 k [] rfl (by omega) (by omega) (by omega) (by simp)
  rw [show ((0 : Nat) : Int) = 0 from rfl] at this
  rw [this]; rfl

/-! law_ExactReadJournal -/
theorem FnExactReadJournal : laws_FnExactReadJournal.Pure := by
  intro s hs
  obtain ⟨K, hK⟩ : ∃ K, K = 2 * s.size + 100 := ⟨_, rfl⟩
  refine ⟨K + 2, ?_⟩
  unfold laws_FnExactReadJournal.f
  by_cases hb : (s.size : Int) > 1048576
  · rw [if_pos hb]
  · have hsz : s.data.toList.length = s.size := by rw [Array.length_toList]; rfl
    have hj := jrP_size s.data.toList [] [] 0 (by simp)
    simp only [List.length_nil] at hj
    rw [if_neg hb, spec_ReadJournal_is s (by omega) (K + 2) (by omega), Option.bind_some, impl_ReadJournal_is s (by omega) (K + 2) (by omega), Option.bind_some]
    generalize hR : (jrP [] 0 [] s.data.toList).1 = R at *
    have hRl : R.length ≤ 1048577 := by omega
    dsimp only
    rw [eqDeedS_is R hRl (K + 2) (by omega), Option.bind_some, if_pos rfl, bne_self_eq_false]
    simp only [laws_FnExactReadJournal.j0]
    rw [if_neg (by simp), markDeedS_ex R hRl (K + 1) (by omega) 1 (by omega) (by omega), Option.bind_some]
    dsimp only
    rw [heldDeedS_is R.length hRl (K + 1) (by omega) 1 (by omega) (by omega), Option.bind_some, if_neg (by omega), if_pos rfl, impl_ReadJournal_is s (by omega) (K + 1) (by omega), Option.bind_some, hR]
    dsimp only
    rw [eqDeedS_is R hRl (K + 1) (by omega), Option.bind_some, if_pos rfl, bne_self_eq_false]
    simp only [laws_FnExactReadJournal.j1]
    rw [if_neg (by simp), heldDeedS_is R.length hRl K (by omega) 1 (by omega) (by omega), Option.bind_some, if_neg (by omega), if_pos rfl]

end Go.Proofs.YtacgjnlobmbfcaaDoor.Pure
