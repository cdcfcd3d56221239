/- Partitions, in plain Lean: numbers by the first that is alike. -/
import Derived.Test.YtbajgbkkbabmlaaGreatDoorPp
set_option linter.unusedVariables false
set_option linter.unusedSectionVars false
namespace Go.Vc

/-- The first that is alike. -/
def fstK (R : Nat → Nat → Bool) (i : Nat) : Nat := ((List.range i).find? fun k => R k i).getD i
/-- How many are the first of theirs, ahead of m. -/
def cntK (R : Nat → Nat → Bool) (m : Nat) : Nat := ((List.range m).filter fun k => fstK R k == k).length
/-- Each one's number. -/
def plainK (R : Nat → Nat → Bool) (n : Nat) : List Int := (List.range n).map fun i => (cntK R (fstK R i) : Int)
structure Eqv (R : Nat → Nat → Bool) : Prop where
  refl : ∀ i, R i i = true
  symm : ∀ i k, R i k = true → R k i = true
  trans : ∀ i j k, R i j = true → R j k = true → R i k = true
section
variable {R R' : Nat → Nat → Bool} {n : Nat}
theorem fst_le (R : Nat → Nat → Bool) (i : Nat) : fstK R i ≤ i := by
  unfold fstK
  cases h : (List.range i).find? (fun k => R k i) with
  | none => simp
  | some k => have := List.mem_of_find?_eq_some h; simp at this ⊢; omega
theorem fst_R (e : Eqv R) (i : Nat) : R (fstK R i) i = true := by
  unfold fstK
  cases h : (List.range i).find? (fun k => R k i) with
  | none => exact e.refl i
  | some k => exact List.find?_some (p := fun k => R k i) h
theorem find_least {p : Nat → Bool} : ∀ (n k j : Nat), (List.range n).find? p = some k → j < k → p j = false := by
  intro n
  induction n with
  | zero => intro k j h; simp at h
  | succ n ih =>
    intro k j h hj
    rw [List.range_succ, List.find?_append] at h
    cases h2 : (List.range n).find? p with
    | some k' => rw [h2] at h; simp at h; subst h; exact ih _ _ h2 hj
    | none =>
      rw [h2] at h
      have hk : k = n := by
        have := List.mem_of_find?_eq_some (by simpa using h : List.find? p [n] = some k)
        simpa using this
      subst hk
      rw [List.find?_eq_none] at h2
      simpa using h2 j (List.mem_range.2 hj)
theorem fst_min {i k : Nat} (h : k < fstK R i) : R k i = false := by
  unfold fstK at h
  cases h2 : (List.range i).find? (fun k => R k i) with
  | some k' => rw [h2] at h; exact find_least (p := fun k => R k i) _ _ _ h2 (by simpa using h)
  | none => rw [h2] at h; rw [List.find?_eq_none] at h2; simpa using h2 k (List.mem_range.2 (by simpa using h))
theorem fst_unique (e : Eqv R) {i k : Nat} (h1 : R k i = true) (h2 : ∀ j, j < k → R j i = false) (hk : k ≤ i) : fstK R i = k := by
  rcases Nat.lt_trichotomy (fstK R i) k with h | h | h
  · have := h2 _ h; rw [fst_R e] at this; cases this
  · exact h
  · have := fst_min h; rw [h1] at this; cases this
theorem fst_eq_of (e : Eqv R) {i k : Nat} (h : R i k = true) : fstK R i = fstK R k := by
  rcases Nat.lt_trichotomy (fstK R i) (fstK R k) with h1 | h1 | h1
  · have := fst_min h1; rw [e.trans _ _ _ (fst_R e i) h] at this; cases this
  · exact h1
  · have := fst_min h1; rw [e.trans _ _ _ (fst_R e k) (e.symm _ _ h)] at this; cases this
theorem R_of_fst (e : Eqv R) {i k : Nat} (h : fstK R i = fstK R k) : R i k = true :=
  e.trans _ _ _ (e.symm _ _ (fst_R e i)) (h ▸ fst_R e k)
theorem fst_idem (e : Eqv R) (i : Nat) : fstK R (fstK R i) = fstK R i := fst_eq_of e (fst_R e i)
theorem fst_congr {m : Nat} (h : ∀ i k, i ≤ m → k ≤ m → R i k = R' i k) {i : Nat} (hi : i ≤ m) : fstK R i = fstK R' i := by
  unfold fstK
  have : (List.range i).find? (fun k => R k i) = (List.range i).find? (fun k => R' k i) := by
    have key : ∀ (l : List Nat), (∀ k ∈ l, k ≤ m) → l.find? (fun k => R k i) = l.find? (fun k => R' k i) := by
      intro l
      induction l with
      | nil => intro _; rfl
      | cons a l ih => intro hl; simp only [List.find?_cons]; rw [h a i (hl a (by simp)) hi, ih fun k hk => hl k (by simp [hk])]
    exact key _ fun k hk => by have := List.mem_range.1 hk; omega
  rw [this]
theorem cnt_succ (R : Nat → Nat → Bool) (m : Nat) : cntK R (m + 1) = cntK R m + (if fstK R m = m then 1 else 0) := by
  unfold cntK
  rw [List.range_succ, List.filter_append, List.length_append]
  by_cases h : fstK R m = m <;> simp [h]
theorem cnt_congr {m : Nat} (h : ∀ i k, i < m → k < m → R i k = R' i k) : ∀ j, j ≤ m → cntK R j = cntK R' j
  | 0, _ => rfl
  | j + 1, hj => by
    rw [cnt_succ, cnt_succ, cnt_congr h j (by omega), fst_congr (m := m - 1) (fun i k hi hk => h i k (by omega) (by omega)) (by omega)]
theorem cnt_mono (R : Nat → Nat → Bool) : ∀ {a b : Nat}, a ≤ b → cntK R a ≤ cntK R b := by
  intro a b h
  induction h with
  | refl => exact Nat.le_refl _
  | step _ ih => rw [cnt_succ]; omega
theorem cnt_le (R : Nat → Nat → Bool) : ∀ m, cntK R m ≤ m
  | 0 => Nat.le_refl _
  | m + 1 => by rw [cnt_succ]; have := cnt_le R m; split <;> omega
theorem cnt_pos (R : Nat → Nat → Bool) {m : Nat} (h : 1 ≤ m) : 1 ≤ cntK R m :=
  Nat.le_trans (by rw [cnt_succ]; simp [fstK, cntK]) (cnt_mono R h)
theorem cnt_inj {a b : Nat} (ha : fstK R a = a) (hb : fstK R b = b) (h : cntK R a = cntK R b) : a = b := by
  rcases Nat.lt_trichotomy a b with h1 | h1 | h1
  · have := cnt_mono R (show a + 1 ≤ b from h1); rw [cnt_succ, if_pos ha] at this; omega
  · exact h1
  · have := cnt_mono R (show b + 1 ≤ a from h1); rw [cnt_succ, if_pos hb] at this; omega
theorem cnt_lt {a m : Nat} (ha : fstK R a = a) (h : a < m) : cntK R a < cntK R m := by
  have := cnt_mono R (show a + 1 ≤ m from h); rw [cnt_succ, if_pos ha] at this; omega
theorem plainK_len (R : Nat → Nat → Bool) (n : Nat) : (plainK R n).length = n := by simp [plainK]
theorem plainK_at {i : Nat} (hi : i < n) : (plainK R n).getD i 0 = (cntK R (fstK R i) : Int) := by
  simp [plainK, List.getD_eq_getElem?_getD, hi]
theorem plainK_eq (e : Eqv R) {i k : Nat} (hi : i < n) (hk : k < n) : (plainK R n).getD i 0 = (plainK R n).getD k 0 ↔ R i k = true := by
  rw [plainK_at hi, plainK_at hk]
  constructor
  · intro h
    exact R_of_fst e (cnt_inj (fst_idem e i) (fst_idem e k) (by omega))
  · intro h; rw [fst_eq_of e h]
theorem plainK_congr (h : ∀ i k, i < n → k < n → R i k = R' i k) : plainK R n = plainK R' n := by
  unfold plainK
  refine List.map_congr_left fun i hi => ?_
  have hi := List.mem_range.1 hi
  have e1 : fstK R i = fstK R' i := fst_congr (m := n - 1) (fun a b ha hb => h a b (by omega) (by omega)) (by omega)
  rw [e1, cnt_congr h _ (by have := fst_le R' i; omega)]
theorem plainK_range (e : Eqv R) {i : Nat} (hi : i < n) : 0 ≤ (plainK R n).getD i 0 ∧ (plainK R n).getD i 0 < cntK R n := by
  rw [plainK_at hi]
  have := cnt_lt (R := R) (fst_idem e i) (Nat.lt_of_le_of_lt (fst_le R i) hi)
  omega
theorem plainK_snoc (R : Nat → Nat → Bool) (n : Nat) : plainK R (n + 1) = plainK R n ++ [(cntK R (fstK R n) : Int)] := by
  simp [plainK, List.range_succ]

theorem filter_le {α : Type} {p q : α → Bool} : ∀ (l : List α), (∀ x ∈ l, p x = true → q x = true) → (l.filter p).length ≤ (l.filter q).length
  | [], _ => Nat.le_refl _
  | x :: l, h => by
    have ih := filter_le l fun y hy => h y (by simp [hy])
    have hx := h x (by simp)
    rw [List.filter_cons, List.filter_cons]
    cases hp : p x <;> cases hq : q x <;> simp_all <;> omega
theorem filter_eq {α : Type} {p q : α → Bool} : ∀ (l : List α), (∀ x ∈ l, p x = true → q x = true) → (l.filter p).length = (l.filter q).length → ∀ x ∈ l, q x = true → p x = true
  | [], _, _, x, hx, _ => by simp at hx
  | y :: l, h, hl, x, hx, hq => by
    have h1 := filter_le l fun z hz => h z (by simp [hz])
    have hy := h y (by simp)
    have ih := filter_eq l fun z hz => h z (by simp [hz])
    rw [List.filter_cons, List.filter_cons] at hl
    rcases List.mem_cons.1 hx with rfl | hx
    · cases hp : p x with
      | true => rfl
      | false => rw [hp, hq] at hl; simp at hl; omega
    · cases hp : p y with
      | true => rw [hp, hy hp] at hl; simp at hl; exact ih hl x hx hq
      | false =>
        cases hq2 : q y with
        | true => rw [hp, hq2] at hl; simp at hl; omega
        | false => rw [hp, hq2] at hl; simp at hl; exact ih hl x hx hq
/-- R is finer: who is alike by it, is by R', too. -/
def FinK (R R' : Nat → Nat → Bool) (n : Nat) : Prop := ∀ i k, i < n → k < n → R i k = true → R' i k = true
theorem fst_fin (e : Eqv R) (e' : Eqv R') (hf : FinK R R' n) {i : Nat} (hi : i < n) (h : fstK R' i = i) : fstK R i = i := by
  have h1 := hf _ _ (Nat.lt_of_le_of_lt (fst_le R i) hi) hi (fst_R e i)
  rcases Nat.lt_or_ge (fstK R i) i with h2 | h2
  · have := fst_min (R := R') (i := i) (k := fstK R i) (by omega); rw [h1] at this; cases this
  · have := fst_le R i; omega
theorem cnt_fin (e : Eqv R) (e' : Eqv R') (hf : FinK R R' n) : cntK R' n ≤ cntK R n :=
  filter_le _ fun i hi h => by simp only [beq_iff_eq] at *; exact fst_fin e e' hf (List.mem_range.1 hi) h
theorem fin_of_cnt (e : Eqv R) (e' : Eqv R') (hf : FinK R R' n) (hc : cntK R' n = cntK R n) : FinK R' R n := by
  have key := filter_eq (p := fun k => fstK R' k == k) (q := fun k => fstK R k == k) (List.range n) (fun i hi h => by simp only [beq_iff_eq] at *; exact fst_fin e e' hf (List.mem_range.1 hi) h) hc
  have key2 : ∀ i, i < n → fstK R i = fstK R' i := fun i hi => by
    have hlt := Nat.lt_of_le_of_lt (fst_le R i) hi
    have h1 := key (fstK R i) (List.mem_range.2 hlt) (by simp only [beq_iff_eq]; exact fst_idem e i)
    simp only [beq_iff_eq] at h1
    rw [← h1]
    exact fst_eq_of e' (hf _ _ hlt hi (fst_R e i))
  intro i k hi hk h
  exact R_of_fst e (by rw [key2 i hi, key2 k hk, fst_eq_of e' h])
theorem plainK_fin (e : Eqv R) (e' : Eqv R') (hf : FinK R R' n) (hc : cntK R' n = cntK R n) : plainK R n = plainK R' n :=
  plainK_congr fun i k hi hk => by
    rw [Bool.eq_iff_iff]; exact ⟨hf i k hi hk, fin_of_cnt e e' hf hc i k hi hk⟩
end

/-! ### Lists -/
section
variable {κ : Type} [DecidableEq κ]
/-- Whether two places hold the same. -/
def kerL (p : List κ) (i k : Nat) : Bool := decide (p[i]? = p[k]?)
theorem kerL_eqv (p : List κ) : Eqv (kerL p) := ⟨by simp [kerL], by simp [kerL]; intro i k h; exact h.symm, by simp [kerL]; intro i j k h1 h2; exact h1.trans h2⟩
theorem kerL_snoc (xs : List κ) (x : κ) : ∀ i k, i < xs.length → k < xs.length → kerL (xs ++ [x]) i k = kerL xs i k := fun i k hi hk => by
  unfold kerL; rw [List.getElem?_append_left hi, List.getElem?_append_left hk]
theorem idx_snoc (x y : κ) (ks : List κ) : idx x (ks ++ [y]) = match idx x ks with | some i => some i | none => if y = x then some ks.length else none := by
  unfold idx
  rw [List.findIdx?_append]
  cases h : List.findIdx? (fun z => decide (z = x)) ks with
  | some i => simp
  | none => by_cases e : y = x <;> simp [e]
/-- Numbering keys one after the other is numbering by the first that is alike. -/
theorem numF_spec (xs : List κ) : (numF xs).2 = plainK (kerL xs) xs.length ∧ (numF xs).1.length = cntK (kerL xs) xs.length ∧ (∀ x, x ∉ xs → idx x (numF xs).1 = none) ∧
    ∀ i x, xs[i]? = some x → idx x (numF xs).1 = some (cntK (kerL xs) (fstK (kerL xs) i)) := by
  induction xs using snocRec with
  | h0 => exact ⟨rfl, rfl, fun x _ => rfl, fun i x h => by simp at h⟩
  | hs xs x ih =>
    obtain ⟨h1, h2, h3, h4⟩ := ih
    have hks := kerL_snoc xs x
    have hcc := cnt_congr (fun i k hi hk => (hks i k hi hk).symm)
    have hfc : ∀ i, i < xs.length → fstK (kerL xs) i = fstK (kerL (xs ++ [x])) i := fun i hi => fst_congr (m := xs.length - 1) (fun a b ha hb => (hks a b (by omega) (by omega)).symm) (by omega)
    have hpl : plainK (kerL (xs ++ [x])) xs.length = plainK (kerL xs) xs.length := plainK_congr hks
    have hE := kerL_eqv (xs ++ [x])
    have hcf : ∀ i, i < xs.length → cntK (kerL xs) (fstK (kerL xs) i) = cntK (kerL (xs ++ [x])) (fstK (kerL (xs ++ [x])) i) := fun i hi => by
      rw [hcc _ (by have := fst_le (kerL xs) i; omega), hfc i hi]
    have hlen : (xs ++ [x]).length = xs.length + 1 := by simp
    rw [hlen, plainK_snoc, hpl, ← h1, numF_snoc]
    unfold numStep
    cases hx : idx x (numF xs).1 with
    | some j =>
      have hmem : x ∈ xs := by
        rcases Classical.em (x ∈ xs) with h | h
        · exact h
        · rw [h3 x h] at hx; cases hx
      obtain ⟨i, hi, hix⟩ := List.getElem_of_mem hmem
      have hxi : xs[i]? = some x := by rw [List.getElem?_eq_getElem hi, hix]
      have hj := h4 i x hxi
      rw [hx] at hj
      have hRi : kerL (xs ++ [x]) i xs.length = true := by
        unfold kerL; rw [List.getElem?_append_left hi, hxi]; simp
      have hfe := fst_eq_of hE hRi
      have hfn : ¬ fstK (kerL (xs ++ [x])) xs.length = xs.length := by
        have := fst_le (kerL (xs ++ [x])) i; omega
      refine ⟨?_, ?_, ?_, ?_⟩
      · simp only
        rw [← hfe, ← hcf i hi, ← Option.some.inj hj]
      · simp only
        rw [h2, cnt_succ, if_neg hfn, hcc _ (Nat.le_refl _)]; omega
      · intro y hy
        exact h3 y fun hh => hy (by simp [hh])
      · intro i' y hy
        simp only
        rcases Nat.lt_trichotomy i' xs.length with h | h | h
        · rw [List.getElem?_append_left h] at hy
          rw [h4 i' y hy, hcf i' h]
        · subst h
          have hyx : y = x := by simpa using hy.symm
          subst hyx
          rw [hx, ← hfe, ← hcf i hi]; exact hj
        · rw [List.getElem?_eq_none (by simp; omega)] at hy; cases hy
    | none =>
      have hmem : x ∉ xs := fun h => by
        obtain ⟨i, hi, hix⟩ := List.getElem_of_mem h
        rw [h4 i x (by rw [List.getElem?_eq_getElem hi, hix])] at hx; cases hx
      have hfn : fstK (kerL (xs ++ [x])) xs.length = xs.length := by
        refine fst_unique hE (hE.refl _) (fun j hj => ?_) (Nat.le_refl _)
        unfold kerL
        rw [List.getElem?_append_left hj]
        simp
        intro hh
        exact hmem (List.mem_of_getElem? hh)
      refine ⟨?_, ?_, ?_, ?_⟩
      · simp only
        rw [hfn, ← hcc _ (Nat.le_refl _), h2]
      · simp only [List.length_append, List.length_cons, List.length_nil]
        rw [h2, cnt_succ, if_pos hfn, hcc _ (Nat.le_refl _)]
      · intro y hy
        simp only
        have hyx : ¬ x = y := fun e => hy (by simp [e])
        rw [idx_snoc, h3 y fun hh => hy (by simp [hh])]
        simp [hyx]
      · intro i' y hy
        simp only
        rw [idx_snoc]
        rcases Nat.lt_trichotomy i' xs.length with h | h | h
        · rw [List.getElem?_append_left h] at hy
          rw [h4 i' y hy, hcf i' h]
        · subst h
          have hyx : y = x := by simpa using hy.symm
          subst hyx
          rw [hx, hfn, ← hcc _ (Nat.le_refl _), h2]; simp
        · rw [List.getElem?_eq_none (by simp; omega)] at hy; cases hy
end
/-- A partition's plain form. -/
def plainL (p : List Int) : List Int := plainK (kerL p) p.length
/-- How many blocks there are. -/
def cntL (p : List Int) : Nat := cntK (kerL p) p.length
theorem numF_plain (p : List Int) : (numF p).2 = plainL p := (numF_spec p).1
theorem plainL_len (p : List Int) : (plainL p).length = p.length := plainK_len _ _
theorem getD_eq_iff {p : List Int} {i k : Nat} (hi : i < p.length) (hk : k < p.length) : p.getD i 0 = p.getD k 0 ↔ kerL p i k = true := by
  simp [kerL, List.getD_eq_getElem?_getD, hi, hk]
theorem kerL_plainK {R : Nat → Nat → Bool} (e : Eqv R) (n : Nat) {i k : Nat} (hi : i < n) (hk : k < n) : kerL (plainK R n) i k = R i k := by
  rw [Bool.eq_iff_iff, ← getD_eq_iff (by rw [plainK_len]; exact hi) (by rw [plainK_len]; exact hk), plainK_eq e hi hk]
theorem plain_plainK {R : Nat → Nat → Bool} (e : Eqv R) (n : Nat) : plainL (plainK R n) = plainK R n := by
  unfold plainL; rw [plainK_len]; exact plainK_congr fun i k hi hk => kerL_plainK e n hi hk
theorem cnt_plainK {R : Nat → Nat → Bool} (e : Eqv R) (n : Nat) : cntL (plainK R n) = cntK R n := by
  unfold cntL; rw [plainK_len]; exact cnt_congr (fun i k hi hk => kerL_plainK e n hi hk) _ (Nat.le_refl _)
theorem plain_plain (p : List Int) : plainL (plainL p) = plainL p := plain_plainK (kerL_eqv p) _
theorem cnt_plain (p : List Int) : cntL (plainL p) = cntL p := cnt_plainK (kerL_eqv p) _
theorem rd_nat (p : List Int) (i : Nat) : rd p (i : Int) = p.getD i 0 := by simp [rd]
end Go.Vc
