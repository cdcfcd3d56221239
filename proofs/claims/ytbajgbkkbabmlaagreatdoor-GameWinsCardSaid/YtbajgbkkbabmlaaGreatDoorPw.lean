/- Ways, steps, levels, in plain Lean. -/
import Derived.Test.YtbajgbkkbabmlaaGreatDoorPq
import Derived.Lib.ItoaNum
set_option linter.unusedVariables false
set_option linter.unusedSectionVars false
namespace Go.Vc

/-! ### Lists in order, each once -/
structure STO {α : Type} (lt : α → α → Bool) : Prop where
  irrefl : ∀ x, lt x x = false
  trans : ∀ x y z, lt x y = true → lt y z = true → lt x z = true
  tri : ∀ x y, lt x y = false → lt y x = false → x = y
section
variable {α : Type} [DecidableEq α] {lt : α → α → Bool}
/-- Runs of equal ones are one. -/
def compL (xs : List α) : List α := xs.foldl (fun acc x => if acc.getLast? = some x then acc else acc ++ [x]) []
theorem compL_last (xs : List α) : (compL xs).getLast? = xs.getLast? := by
  induction xs using snocRec with
  | h0 => rfl
  | hs xs x ih =>
    unfold compL at *
    rw [List.foldl_append]
    simp only [List.foldl_cons, List.foldl_nil]
    split
    · rename_i h; rw [h]; simp
    · simp
theorem compL_snoc (xs : List α) (x : α) : compL (xs ++ [x]) = if xs.getLast? = some x then compL xs else compL xs ++ [x] := by
  rw [← compL_last]
  conv => lhs; unfold compL; rw [List.foldl_append]
  rfl
theorem compL_mem (xs : List α) (x : α) : x ∈ compL xs ↔ x ∈ xs := by
  induction xs using snocRec with
  | h0 => rfl
  | hs xs y ih =>
    rw [compL_snoc]
    split
    · rename_i h
      have hy : y ∈ xs := List.mem_of_getLast? h
      rw [ih]; simp only [List.mem_append, List.mem_singleton]
      exact ⟨Or.inl, fun hh => hh.elim id fun e => e ▸ hy⟩
    · simp [ih]
theorem compL_len (xs : List α) : (compL xs).length ≤ xs.length := by
  induction xs using snocRec with
  | h0 => exact Nat.le_refl _
  | hs xs y ih => rw [compL_snoc]; split <;> simp <;> omega
theorem compL_sorted (o : STO lt) (xs : List α) (h : xs.Pairwise fun x y => lt y x = false) : (compL xs).Pairwise fun x y => lt x y = true := by
  induction xs using snocRec with
  | h0 => exact List.Pairwise.nil
  | hs xs x ih =>
    rw [List.pairwise_append] at h
    obtain ⟨h1, _, h3⟩ := h
    rw [compL_snoc]
    split
    · exact ih h1
    · rename_i hl
      rw [List.pairwise_append]
      refine ⟨ih h1, List.pairwise_singleton _ _, fun y hy z hz => ?_⟩
      simp only [List.mem_singleton] at hz
      subst hz
      have hyx := (compL_mem xs y).1 hy
      have hyz := h3 y hyx z (by simp)
      cases hlt : lt y z with
      | true => rfl
      | false =>
        have e := o.tri y z hlt hyz
        subst e
        exfalso
        obtain ⟨i, hi, hix⟩ := List.getElem_of_mem hyx
        have hne : xs ≠ [] := by rintro rfl; simp at hyx
        have hlast : xs.getLast? = some (xs.getLast hne) := List.getLast?_eq_some_getLast hne
        apply hl
        rw [hlast]
        congr 1
        have ha := h3 (xs.getLast hne) (List.getLast_mem hne) y (by simp)
        refine o.tri _ _ ?_ ha
        rcases Nat.lt_or_ge i (xs.length - 1) with hlt2 | hge
        · have := List.pairwise_iff_getElem.1 h1 i (xs.length - 1) hi (by omega) hlt2
          rw [hix] at this
          rw [List.getLast_eq_getElem]; exact this
        · have : xs.getLast hne = y := by rw [List.getLast_eq_getElem, ← hix]; congr 1; omega
          rw [this]; exact o.irrefl y
/-- In order, each once: then they are told by who is in. -/
theorem sorted_ext (o : STO lt) : ∀ (xs ys : List α), (xs.Pairwise fun x y => lt x y = true) → (ys.Pairwise fun x y => lt x y = true) → (∀ x, x ∈ xs ↔ x ∈ ys) → xs = ys
  | [], [], _, _, _ => rfl
  | [], y :: ys, _, _, h => by have := (h y).2 (by simp); simp at this
  | x :: xs, [], _, _, h => by have := (h x).1 (by simp); simp at this
  | x :: xs, y :: ys, h1, h2, h => by
    rw [List.pairwise_cons] at h1 h2
    have hno : ∀ a b, lt a b = true → lt b a = true → False := fun a b u v => by have := o.trans _ _ _ u v; rw [o.irrefl] at this; cases this
    have hxy : x = y := by
      rcases List.mem_cons.1 ((h x).1 (by simp)) with e | hx
      · exact e
      · rcases List.mem_cons.1 ((h y).2 (by simp)) with e | hy
        · exact e.symm
        · exact (hno _ _ (h2.1 x hx) (h1.1 y hy)).elim
    subst hxy
    congr 1
    refine sorted_ext o xs ys h1.2 h2.2 fun z => ⟨fun hz => ?_, fun hz => ?_⟩
    · rcases List.mem_cons.1 ((h z).1 (by simp [hz])) with e | hz2
      · subst e; have := h1.1 z hz; rw [o.irrefl] at this; cases this
      · exact hz2
    · rcases List.mem_cons.1 ((h z).2 (by simp [hz])) with e | hz2
      · subst e; have := h2.1 z hz; rw [o.irrefl] at this; cases this
      · exact hz2
theorem sort_sorted (o : STO lt) (xs : List α) : (xs.mergeSort fun x y => !(lt y x)).Pairwise fun x y => lt y x = false := by
  have := List.pairwise_mergeSort (le := fun x y => !(lt y x)) (fun a b c h1 h2 => by
      simp only [Bool.not_eq_true'] at *
      cases h : lt c a with
      | false => rfl
      | true =>
        cases h3 : lt a b with
        | true => rw [o.trans _ _ _ h h3] at h2; cases h2
        | false => have := o.tri _ _ h3 h1; subst this; rw [h] at h2; cases h2)
    (fun a b => by
      cases h : lt a b with
      | false => simp
      | true =>
        cases h2 : lt b a with
        | false => simp
        | true => have := o.trans _ _ _ h h2; rw [o.irrefl] at this; cases this) xs
  exact this.imp fun h => by simpa using h
end

/-! ### Ways -/
/-- A way: label, block. -/
abbrev Wy := Int × Int
def encW (x : Wy) : List Value := [.int .i64 x.1, .int .i64 x.2]
abbrev Wys (h : Heap) (A : Option Addr) (ws : List Wy) (c : Nat) := RowK h A 2 encW (0, 0) ws c
def ltW (x y : Wy) : Bool := decide (x.1 < y.1 ∨ (x.1 = y.1 ∧ x.2 < y.2))
theorem stoW : STO ltW where
  irrefl x := by unfold ltW; simp
  trans x y z h1 h2 := by unfold ltW at *; simp only [decide_eq_true_eq] at *; omega
  tri x y h1 h2 := by unfold ltW at *; simp only [decide_eq_false_iff_not] at *; exact Prod.ext (by omega) (by omega)
/-- A node's ways, as they stand. -/
def rawW (es : List Ed) (p : List Int) (i : Int) : List Wy := (es.filter fun e => decide (e.1 = i)).map fun e => (e.2.1, rd p e.2.2)
def srtW (ws : List Wy) : List Wy := ws.mergeSort fun x y => !(ltW y x)
/-- A node's ways, in order. -/
def waysOf (es : List Ed) (p : List Int) (i : Int) : List Wy := compL (srtW (rawW es p i))
theorem rawW_snoc (es : List Ed) (e : Ed) (p : List Int) (i : Int) : rawW (es ++ [e]) p i = if e.1 = i then rawW es p i ++ [(e.2.1, rd p e.2.2)] else rawW es p i := by
  unfold rawW
  rw [List.filter_append, List.map_append]
  by_cases h : e.1 = i <;> simp [h]
theorem mem_rawW {es : List Ed} {p : List Int} {i : Int} {w : Wy} : w ∈ rawW es p i ↔ ∃ e ∈ es, e.1 = i ∧ e.2.1 = w.1 ∧ rd p e.2.2 = w.2 := by
  unfold rawW
  simp only [List.mem_map, List.mem_filter, decide_eq_true_eq]
  constructor
  · rintro ⟨e, ⟨h1, h2⟩, rfl⟩; exact ⟨e, h1, h2, rfl, rfl⟩
  · rintro ⟨e, h1, h2, h3, h4⟩; exact ⟨e, ⟨h1, h2⟩, Prod.ext h3 h4⟩
theorem waysOf_sorted (es : List Ed) (p : List Int) (i : Int) : (waysOf es p i).Pairwise fun x y => ltW x y = true := compL_sorted stoW _ (sort_sorted stoW _)
theorem mem_waysOf {es : List Ed} {p : List Int} {i : Int} {w : Wy} : w ∈ waysOf es p i ↔ w ∈ rawW es p i := by
  unfold waysOf srtW
  rw [compL_mem, List.mem_mergeSort]
theorem waysOf_unique {es : List Ed} {p : List Int} {i : Int} {ws : List Wy} (h1 : ws.Pairwise fun x y => ltW x y = true) (h2 : ∀ w, w ∈ ws ↔ w ∈ rawW es p i) : ws = waysOf es p i :=
  sorted_ext stoW _ _ h1 (waysOf_sorted es p i) fun x => (h2 x).trans mem_waysOf.symm
theorem waysOf_eq {es : List Ed} {p q : List Int} {i k : Int} : waysOf es p i = waysOf es q k ↔ ∀ w, w ∈ rawW es p i ↔ w ∈ rawW es q k := by
  constructor
  · intro h w; rw [← mem_waysOf, h, mem_waysOf]
  · intro h; exact waysOf_unique (waysOf_sorted es p i) fun w => mem_waysOf.trans (h w)
theorem rawW_len (es : List Ed) (p : List Int) (i : Int) : (rawW es p i).length ≤ es.length := by
  unfold rawW; rw [List.length_map]; exact List.length_filter_le _ _
theorem waysOf_len (es : List Ed) (p : List Int) (i : Int) : (waysOf es p i).length ≤ es.length := by
  refine Nat.le_trans (compL_len _) ?_
  unfold srtW
  rw [List.length_mergeSort]; exact rawW_len es p i

/-! ### Walking ways -/
def wd (ws : List Wy) (i : Nat) : Wy := ws.getD i (0, 0)
theorem encW_len (x : Wy) : (encW x).length = 2 := rfl
theorem eqWy (a b : Wy) : (a.1 == b.1 && (a.2 == b.2 && true)) = decide (a = b) := by
  rw [Bool.eq_iff_iff]
  simp [Prod.ext_iff]
theorem compL_short {α : Type} [DecidableEq α] {xs : List α} (h : xs.length < 2) : compL xs = xs := by
  match xs, h with
  | [], _ => rfl
  | [x], _ => rfl
theorem last_take {α : Type} (d : α) (xs : List α) (m : Nat) (h0 : 0 < m) (hm : m ≤ xs.length) : (xs.take m).getLast? = some (xs.getD (m - 1) d) := by
  rw [List.getLast?_eq_getElem?, List.length_take, Nat.min_eq_left hm, List.getElem?_take, if_pos (by omega), List.getD_eq_getElem?_getD, List.getElem?_eq_getElem (by omega)]
  rfl
theorem compL_take {α : Type} [DecidableEq α] (d : α) (xs : List α) (m : Nat) (h0 : 0 < m) (hm : m < xs.length) :
    compL (xs.take (m + 1)) = if xs.getD (m - 1) d = xs.getD m d then compL (xs.take m) else compL (xs.take m) ++ [xs.getD m d] := by
  have e : xs.take (m + 1) = xs.take m ++ [xs.getD m d] := by
    rw [List.take_succ_eq_append_getElem hm, List.getD_eq_getElem?_getD, List.getElem?_eq_getElem hm]; rfl
  rw [e, compL_snoc, last_take d xs m h0 (by omega)]
  simp only [Option.some.injEq]

/-! ### Keys -/
open Go.Lib in
/-- A block and ways as a text. -/
def keyB (b : Int) (ws : List Wy) : List UInt8 := itoa b ++ ws.flatMap fun w => 32 :: itoa w.1 ++ 32 :: itoa w.2
theorem keyB_snoc (b : Int) (ws : List Wy) (w : Wy) : keyB b (ws ++ [w]) = keyB b ws ++ 32 :: Go.Lib.itoa w.1 ++ 32 :: Go.Lib.itoa w.2 := by
  unfold keyB; simp
open Go.Lib in
def valD (l : List UInt8) : Nat := l.foldl (fun a d => 10 * a + (d.toNat - 48)) 0
open Go.Lib in
theorem dig_ok {d : Nat} (h : d < 10) : (UInt8.ofNat (48 + d)).toNat = 48 + d := by
  simp only [UInt8.toNat_ofNat']; omega
open Go.Lib in
theorem valD_dec (u : Nat) : valD (decDigits u) = u := by
  induction u using Nat.strongRecOn with
  | _ u ih =>
    rw [decDigits]
    split
    · rename_i h; simp [valD]; omega
    · rename_i h
      have := ih (u / 10) (by omega)
      unfold valD at *
      rw [List.foldl_append, this]
      simp only [List.foldl_cons, List.foldl_nil, dig_ok (Nat.mod_lt u (by decide))]
      omega
open Go.Lib in
theorem dec_mem (u : Nat) : ∀ b ∈ decDigits u, 48 ≤ b.toNat := by
  induction u using Nat.strongRecOn with
  | _ u ih =>
    rw [decDigits]
    split
    · rename_i h
      intro b hb
      simp only [List.mem_singleton] at hb
      subst hb
      rw [dig_ok h]; omega
    · rename_i h
      intro b hb
      rcases List.mem_append.1 hb with hb | hb
      · exact ih (u / 10) (by omega) b hb
      · simp only [List.mem_singleton] at hb
        subst hb
        rw [dig_ok (Nat.mod_lt u (by decide))]; omega
open Go.Lib in
theorem itoa_no32 (i : Int) : ∀ b ∈ itoa i, b ≠ 32 := by
  unfold itoa
  split
  · intro b hb
    rcases List.mem_cons.1 hb with rfl | hb
    · decide
    · intro e; have := dec_mem _ b hb; rw [e] at this; exact absurd this (by decide)
  · intro b hb e; have := dec_mem _ b hb; rw [e] at this; exact absurd this (by decide)
open Go.Lib in
theorem itoa_inj {i k : Int} (h : itoa i = itoa k) : i = k := by
  unfold itoa at h
  have h45 : ∀ u, ∀ l, 45 :: l ≠ decDigits u := fun u l e => by
    have := dec_mem u 45 (by rw [← e]; simp); exact absurd this (by decide)
  split at h <;> split at h
  · have h := (List.cons.inj h).2
    have := congrArg valD h
    rw [valD_dec, valD_dec] at this
    omega
  · exact absurd h (h45 _ _)
  · exact absurd h.symm (h45 _ _)
  · have := congrArg valD h
    rw [valD_dec, valD_dec] at this
    omega
theorem split32 : ∀ (a b : List UInt8) (r t : List UInt8), (∀ x ∈ a, x ≠ 32) → (∀ x ∈ b, x ≠ 32) → (r = [] ∨ r.head? = some 32) → (t = [] ∨ t.head? = some 32) → a ++ r = b ++ t → a = b ∧ r = t
  | [], [], r, t, _, _, _, _, h => ⟨rfl, h⟩
  | [], y :: b, r, t, _, hb, hr, _, h => by
    exfalso
    simp only [List.nil_append, List.cons_append] at h
    subst h
    rcases hr with e | e
    · cases e
    · exact hb y (by simp) (by simpa using e)
  | x :: a, [], r, t, ha, _, _, ht, h => by
    exfalso
    simp only [List.nil_append, List.cons_append] at h
    subst h
    rcases ht with e | e
    · cases e
    · exact ha x (by simp) (by simpa using e)
  | x :: a, y :: b, r, t, ha, hb, hr, ht, h => by
    simp only [List.cons_append, List.cons.injEq] at h
    obtain ⟨e1, e2⟩ := split32 a b r t (fun z hz => ha z (by simp [hz])) (fun z hz => hb z (by simp [hz])) hr ht h.2
    exact ⟨by rw [h.1, e1], e2⟩
theorem tail32 (ws : List Wy) : (ws.flatMap fun w => 32 :: Go.Lib.itoa w.1 ++ 32 :: Go.Lib.itoa w.2) = [] ∨ (ws.flatMap fun w => 32 :: Go.Lib.itoa w.1 ++ 32 :: Go.Lib.itoa w.2).head? = some 32 := by
  cases ws with
  | nil => left; rfl
  | cons w ws => right; simp
open Go.Lib in
theorem ways_inj : ∀ (vs ws : List Wy), (vs.flatMap fun w => 32 :: itoa w.1 ++ 32 :: itoa w.2) = (ws.flatMap fun w => 32 :: itoa w.1 ++ 32 :: itoa w.2) → vs = ws
  | [], [], _ => rfl
  | [], w :: ws, h => by simp at h
  | v :: vs, [], h => by simp at h
  | v :: vs, w :: ws, h => by
    simp only [List.flatMap_cons, List.cons_append, List.append_assoc, List.cons.injEq, true_and] at h
    obtain ⟨e1, h⟩ := split32 _ _ _ _ (itoa_no32 _) (itoa_no32 _) (.inr (by simp)) (.inr (by simp)) h
    simp only [List.cons.injEq, true_and] at h
    obtain ⟨e2, h⟩ := split32 _ _ _ _ (itoa_no32 _) (itoa_no32 _) (tail32 vs) (tail32 ws) h
    rw [ways_inj vs ws h, Prod.ext (itoa_inj e1) (itoa_inj e2)]
theorem keyB_inj {a b : Int} {vs ws : List Wy} (h : keyB a vs = keyB b ws) : a = b ∧ vs = ws := by
  unfold keyB at h
  obtain ⟨e1, h⟩ := split32 _ _ _ _ (itoa_no32 _) (itoa_no32 _) (tail32 vs) (tail32 ws) h
  exact ⟨itoa_inj e1, ways_inj vs ws h⟩

/-! ### Steps -/
/-- Together, and with the same ways. -/
def stepR (es : List Ed) (p : List Int) (i k : Nat) : Bool := kerL p i k && decide (waysOf es p i = waysOf es p k)
theorem stepR_eqv (es : List Ed) (p : List Int) : Eqv (stepR es p) where
  refl i := by simp [stepR, (kerL_eqv p).refl]
  symm i k h := by
    simp only [stepR, Bool.and_eq_true, decide_eq_true_eq] at *
    exact ⟨(kerL_eqv p).symm _ _ h.1, h.2.symm⟩
  trans i j k h1 h2 := by
    simp only [stepR, Bool.and_eq_true, decide_eq_true_eq] at *
    exact ⟨(kerL_eqv p).trans _ _ _ h1.1 h2.1, h1.2.trans h2.2⟩
/-- A partition's step. -/
def stepL (es : List Ed) (p : List Int) : List Int := plainK (stepR es (plainL p)) p.length
theorem stepL_len (es : List Ed) (p : List Int) : (stepL es p).length = p.length := plainK_len _ _
theorem plain_step (es : List Ed) (p : List Int) : plainL (stepL es p) = stepL es p := plain_plainK (stepR_eqv _ _) _
theorem step_fin (es : List Ed) (p : List Int) (n : Nat) : FinK (stepR es p) (kerL p) n := fun i k _ _ h => by simp only [stepR, Bool.and_eq_true] at h; exact h.1
/-- Is a partition stable? -/
def StableP (es : List Ed) (p : List Int) : Prop := ∀ i k : Nat, i < p.length → k < p.length → rd (plainL p) i = rd (plainL p) k → waysOf es (plainL p) i = waysOf es (plainL p) k
theorem kerL_plain (p : List Int) {i k : Nat} (hi : i < p.length) (hk : k < p.length) : kerL (plainL p) i k = kerL p i k := kerL_plainK (kerL_eqv p) _ hi hk
theorem rd_ker {p : List Int} {i k : Nat} (hi : i < p.length) (hk : k < p.length) : rd p i = rd p k ↔ kerL p i k = true := by
  rw [rd_nat, rd_nat]; exact getD_eq_iff hi hk
theorem stable_iff (es : List Ed) (p : List Int) : StableP es p ↔ cntL (stepL es p) = cntL p := by
  have hl := plainL_len p
  have hc : cntL (stepL es p) = cntK (stepR es (plainL p)) p.length := cnt_plainK (stepR_eqv _ _) _
  have hc2 : cntL p = cntK (kerL (plainL p)) p.length := by rw [← cnt_plain]; unfold cntL; rw [hl]
  rw [hc, hc2]
  constructor
  · intro h
    refine cnt_congr (fun i k hi hk => ?_) _ (Nat.le_refl _)
    rw [Bool.eq_iff_iff]
    refine ⟨step_fin es _ p.length i k hi hk, fun hh => ?_⟩
    simp only [stepR, Bool.and_eq_true, decide_eq_true_eq]
    exact ⟨hh, h i k hi hk ((rd_ker (by omega) (by omega)).2 hh)⟩
  · intro h i k hi hk e
    have := fin_of_cnt (stepR_eqv es (plainL p)) (kerL_eqv _) (step_fin es _ p.length) h.symm i k hi hk ((rd_ker (by omega) (by omega)).1 e)
    simp only [stepR, Bool.and_eq_true, decide_eq_true_eq] at this
    exact this.2
theorem stable_step (es : List Ed) (p : List Int) : StableP es p ↔ stepL es p = plainL p := by
  rw [stable_iff]
  have hl := plainL_len p
  have hc : cntL (stepL es p) = cntK (stepR es (plainL p)) p.length := cnt_plainK (stepR_eqv _ _) _
  have hc2 : cntL p = cntK (kerL (plainL p)) p.length := by rw [← cnt_plain]; unfold cntL; rw [hl]
  constructor
  · intro h
    rw [hc, hc2] at h
    have := plainK_fin (stepR_eqv es (plainL p)) (kerL_eqv _) (step_fin es _ p.length) h.symm
    unfold stepL
    rw [this]
    have := plain_plain p
    unfold plainL at this ⊢
    rw [plainK_len] at this
    exact this
  · intro h; rw [h, cnt_plain]
/-- The keys' numbers are the step. -/
theorem step_keys (es : List Ed) (p : List Int) (keys : List ByteArray) (hl : keys.length = p.length)
    (hk : ∀ i, i < p.length → keys.getD i ByteArray.empty = ⟨(keyB (rd (plainL p) i) (waysOf es (plainL p) i)).toArray⟩) : (numF keys).2 = stepL es p := by
  rw [(numF_spec keys).1]
  unfold stepL
  rw [hl]
  refine plainK_congr fun i k hi hk2 => ?_
  have hpl := plainL_len p
  have h1 := hk i hi
  have h2 := hk k hk2
  rw [List.getD_eq_getElem?_getD, List.getElem?_eq_getElem (by omega)] at h1 h2
  simp only [Option.getD_some] at h1 h2
  unfold kerL stepR
  rw [List.getElem?_eq_getElem (by omega), List.getElem?_eq_getElem (by omega), h1, h2, Bool.eq_iff_iff]
  simp only [decide_eq_true_eq, Bool.and_eq_true, Option.some.injEq]
  rw [← rd_ker (by omega) (by omega)]
  constructor
  · intro h
    have h := congrArg (fun b : ByteArray => b.data.toList) h
    simp only at h
    exact keyB_inj h
  · rintro ⟨h1, h2⟩; rw [h1, h2]

/-! ### Where each node has at most one way -/
theorem waysOf_short {es : List Ed} {p : List Int} {i : Int} (h : (rawW es p i).length ≤ 1) : waysOf es p i = rawW es p i := by
  refine (waysOf_unique ?_ fun w => Iff.rfl).symm
  match hx : rawW es p i, h with
  | [], _ => exact List.Pairwise.nil
  | [x], _ => exact List.pairwise_singleton _ _
def stepC (es : List Ed) (p : List Int) : List Int := plainK (fun i k => kerL (plainL p) i k && decide (rawW es (plainL p) i = rawW es (plainL p) k)) p.length
theorem stepL_short {es : List Ed} {p : List Int} (h : ∀ i : Nat, i < p.length → (rawW es (plainL p) i).length ≤ 1) : stepL es p = stepC es p := by
  unfold stepL stepC
  refine plainK_congr fun i k hi hk => ?_
  unfold stepR
  rw [waysOf_short (h i hi), waysOf_short (h k hk)]

/-! ### Levels -/
def lev (es : List Ed) (n : Nat) : Nat → List Int
  | 0 => List.replicate n 0
  | k + 1 => stepL es (lev es n k)
theorem lev_len (es : List Ed) (n : Nat) : ∀ k, (lev es n k).length = n
  | 0 => by simp [lev]
  | k + 1 => by rw [lev, stepL_len, lev_len es n k]
theorem rd_zeros (n i : Nat) : rd (List.replicate n 0) i = 0 := by
  rw [rd_nat, List.getD_eq_getElem?_getD, List.getElem?_replicate]
  split <;> rfl
theorem plain_zeros (n : Nat) : plainL (List.replicate n 0) = List.replicate n 0 := by
  apply List.ext_getElem
  · rw [plainL_len]
  · intro i h1 h2
    have hi : i < n := by simpa using h2
    have h := plainK_at (R := kerL (List.replicate n (0 : Int))) hi
    have h0 : fstK (kerL (List.replicate n (0 : Int))) i = 0 := by
      refine fst_unique (kerL_eqv _) ?_ (fun j hj => by omega) (Nat.zero_le _)
      simp [kerL, hi, show 0 < n by omega]
    rw [h0] at h
    have h2 : (plainL (List.replicate n 0)).getD i 0 = 0 := by
      unfold plainL; rw [List.length_replicate, h]; rfl
    rw [List.getD_eq_getElem?_getD, List.getElem?_eq_getElem h1] at h2
    simpa using h2
theorem lev_plain (es : List Ed) (n : Nat) : ∀ k, plainL (lev es n k) = lev es n k
  | 0 => plain_zeros n
  | k + 1 => plain_step es _
theorem lev_cnt (es : List Ed) (n k : Nat) : cntL (lev es n k) ≤ n := by
  unfold cntL; rw [lev_len]; exact cnt_le _ _
theorem lev_mono (es : List Ed) (n k : Nat) : cntL (lev es n k) ≤ cntL (lev es n (k + 1)) := by
  have hc : cntL (lev es n (k + 1)) = cntK (stepR es (lev es n k)) n := by
    show cntL (stepL es (lev es n k)) = _
    unfold stepL
    rw [lev_plain, lev_len]; exact cnt_plainK (stepR_eqv _ _) _
  rw [hc]
  unfold cntL
  rw [lev_len]
  exact cnt_fin (stepR_eqv es _) (kerL_eqv _) (step_fin es _ n)
theorem lev_same (es : List Ed) (n k : Nat) : lev es n (k + 1) = lev es n k ↔ cntL (lev es n (k + 1)) = cntL (lev es n k) := by
  have := stable_step es (lev es n k)
  rw [stable_iff, lev_plain] at this
  exact this.symm
/-- At m the levels stand still, and not ahead of it. -/
structure Stop (es : List Ed) (n m : Nat) : Prop where
  at_ : cntL (lev es n (m + 1)) = cntL (lev es n m)
  first : ∀ j, j < m → cntL (lev es n (j + 1)) ≠ cntL (lev es n j)
theorem Stop.unique {es : List Ed} {n a b : Nat} (ha : Stop es n a) (hb : Stop es n b) : a = b := by
  rcases Nat.lt_trichotomy a b with h | h | h
  · exact absurd ha.at_ (hb.first a h)
  · exact h
  · exact absurd hb.at_ (ha.first b h)
theorem lev_grow {es : List Ed} {n m : Nat} (hf : ∀ j, j < m → cntL (lev es n (j + 1)) ≠ cntL (lev es n j)) (hn : 1 ≤ n) : ∀ j, j ≤ m → j + 1 ≤ cntL (lev es n j)
  | 0, _ => by unfold cntL; rw [lev_len]; exact cnt_pos _ hn
  | j + 1, hj => by
    have := lev_grow hf hn j (by omega)
    have := lev_mono es n j
    have := hf j (by omega)
    omega
theorem Stop.lt {es : List Ed} {n m : Nat} (h : Stop es n m) (hn : 1 ≤ n) : m < n := by
  have := lev_grow h.first hn m (Nat.le_refl _)
  have := lev_cnt es n m
  omega
theorem exists_stop (es : List Ed) (n : Nat) (hn : 1 ≤ n) : ∃ m, Stop es n m := by
  have hex : ∃ m, cntL (lev es n (m + 1)) = cntL (lev es n m) := by
    rcases Classical.em (∃ m, cntL (lev es n (m + 1)) = cntL (lev es n m)) with h | h
    · exact h
    · exfalso
      have := lev_grow (m := n) (fun j _ e => h ⟨j, e⟩) hn n (Nat.le_refl _)
      have := lev_cnt es n n
      omega
  obtain ⟨m, hm⟩ := hex
  induction m using Nat.strongRecOn with
  | _ m ih =>
    rcases Classical.em (∃ j, j < m ∧ cntL (lev es n (j + 1)) = cntL (lev es n j)) with ⟨j, hj, e⟩ | h
    · exact ih j hj e
    · exact ⟨m, hm, fun j hj e => h ⟨j, hj, e⟩⟩
/-- A system's levels. -/
def levs (es : List Ed) (n m : Nat) : List (List Int) := (List.range (m + 1)).map (lev es n)
theorem levs_len (es : List Ed) (n m : Nat) : (levs es n m).length = m + 1 := by simp [levs]
theorem levs_at {es : List Ed} {n m k : Nat} (h : k ≤ m) : (levs es n m).getD k [] = lev es n k := by
  simp [levs, List.getD_eq_getElem?_getD, show k < m + 1 by omega]
/-- Does each edge from a node have one of the same label from another node, that leads to the same block? -/
def Matched (es : List Ed) (p : List Int) (s t : Int) : Prop := ∀ e ∈ es, e.1 = s → ∃ e' ∈ es, e'.1 = t ∧ e'.2.1 = e.2.1 ∧ rd p e'.2.2 = rd p e.2.2
theorem matched_iff (es : List Ed) (p : List Int) (s t : Int) : waysOf es p s = waysOf es p t ↔ Matched es p s t ∧ Matched es p t s := by
  rw [waysOf_eq]
  constructor
  · intro h
    exact ⟨fun e he hs => mem_rawW.1 ((h (e.2.1, rd p e.2.2)).1 (mem_rawW.2 ⟨e, he, hs, rfl, rfl⟩)), fun e he hs => mem_rawW.1 ((h (e.2.1, rd p e.2.2)).2 (mem_rawW.2 ⟨e, he, hs, rfl, rfl⟩))⟩
  · rintro ⟨h1, h2⟩ w
    constructor
    · intro hw
      obtain ⟨e, he, a, b, c⟩ := mem_rawW.1 hw
      obtain ⟨e', he', a', b', c'⟩ := h1 e he a
      exact mem_rawW.2 ⟨e', he', a', b'.trans b, c'.trans c⟩
    · intro hw
      obtain ⟨e, he, a, b, c⟩ := mem_rawW.1 hw
      obtain ⟨e', he', a', b', c'⟩ := h2 e he a
      exact mem_rawW.2 ⟨e', he', a', b'.trans b, c'.trans c⟩
/-- Together in a level just if in the one ahead, and matched both ways. -/
theorem lev_together (es : List Ed) (n k : Nat) {i j : Nat} (hi : i < n) (hj : j < n) :
    rd (lev es n (k + 1)) i = rd (lev es n (k + 1)) j ↔ rd (lev es n k) i = rd (lev es n k) j ∧ Matched es (lev es n k) i j ∧ Matched es (lev es n k) j i := by
  have hl := lev_len es n k
  rw [rd_ker (by rw [lev_len]; exact hi) (by rw [lev_len]; exact hj), rd_ker (p := lev es n k) (by omega) (by omega), ← matched_iff]
  have : kerL (lev es n (k + 1)) i j = stepR es (lev es n k) i j := by
    show kerL (stepL es (lev es n k)) i j = _
    unfold stepL
    rw [lev_plain, lev_len]
    exact kerL_plainK (stepR_eqv _ _) n hi hj
  rw [this]
  simp [stepR]
/-- Each stable partition is finer than each level. -/
theorem stable_finer {es : List Ed} {n : Nat} {q : List Int} (hq : q.length = n) (hs : StableP es q) (hes : ∀ e ∈ es, 0 ≤ e.2.2 ∧ e.2.2 < n) :
    ∀ k, ∀ i j : Nat, i < n → j < n → rd q i = rd q j → rd (lev es n k) i = rd (lev es n k) j
  | 0, i, j, _, _, _ => by simp only [lev]; rw [rd_zeros, rd_zeros]
  | k + 1, i, j, hi, hj, e => by
    have ih := stable_finer hq hs hes k
    have hpl : ∀ {a b : Nat}, a < n → b < n → (rd (plainL q) a = rd (plainL q) b ↔ rd q a = rd q b) := fun {a b} ha hb => by
      rw [rd_ker (by rw [plainL_len]; omega) (by rw [plainL_len]; omega), rd_ker (by omega) (by omega), kerL_plain q (by omega) (by omega)]
    rw [lev_together es n k hi hj]
    have hM := (matched_iff es (plainL q) i j).1 (hs i j (by omega) (by omega) ((hpl hi hj).2 e))
    have key : ∀ a b : Nat, Matched es (plainL q) a b → Matched es (lev es n k) a b := fun a b hm x hx hxa => by
      obtain ⟨y, hy, h1, h2, h3⟩ := hm x hx hxa
      obtain ⟨a0, a1⟩ := hes x hx
      obtain ⟨b0, b1⟩ := hes y hy
      refine ⟨y, hy, h1, h2, ?_⟩
      have := ih y.2.2.toNat x.2.2.toNat (by omega) (by omega) (by
        refine (hpl (by omega) (by omega)).1 ?_
        rw [Int.toNat_of_nonneg b0, Int.toNat_of_nonneg a0]; exact h3)
      rw [Int.toNat_of_nonneg b0, Int.toNat_of_nonneg a0] at this
      exact this
    exact ⟨ih i j hi hj e, key _ _ hM.1, key _ _ hM.2⟩
theorem stop_stable {es : List Ed} {n m : Nat} (h : Stop es n m) : StableP es (lev es n m) := (stable_iff es _).2 h.at_
end Go.Vc
