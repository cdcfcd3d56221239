/- The plain law of the greatest bisimulation. -/
import Derived.Test.YtbajgbkkbabmlaaGreatDoorO16
set_option linter.unusedVariables false
namespace Go.Proofs.YtbajgbkkbabmlaaGreatDoor
open Go.Vc

/-- Are nodes together in a level? -/
def Tog (l : Lt) (n m : Nat) (k : Int × Int) : Prop := 0 ≤ k.1 ∧ k.1 < n ∧ 0 ≤ k.2 ∧ k.2 < n ∧ rd (lev l.es n m) k.1 = rd (lev l.es n m) k.2
section
variable {l : Lt} {n m : Nat}
theorem tog_match (hm : May l) (hn : l.n = (n : Int)) (hS : Stop l.es n m) {a b : Int} (h : Tog l n m (a, b)) : Matched l.es (lev l.es n m) a b ∧ Matched l.es (lev l.es n m) b a := by
  obtain ⟨h1, h2, h3, h4, h5⟩ := h
  simp only at h1 h2 h3 h4 h5
  obtain ⟨a, rfl⟩ := Int.eq_ofNat_of_zero_le h1
  obtain ⟨b, rfl⟩ := Int.eq_ofNat_of_zero_le h3
  have hw := stop_stable hS a b (by rw [lev_len]; omega) (by rw [lev_len]; omega) (by rw [lev_plain]; exact h5)
  rw [lev_plain, matched_iff] at hw
  exact hw
theorem mem_outL {es : List Ed} {a : Int} {e : Ed} : e ∈ outL es a ↔ e ∈ es ∧ e.1 = a := by
  unfold outL; rw [List.mem_filter, decide_eq_true_eq]
/-- What is together follows each other, in any map that has all such pairs. -/
theorem tog_foll (hm : May l) (hn : l.n = (n : Int)) (hS : Stop l.es n m) {M : Pm} (hM : ∀ k, Tog l n m k → InM M k) {a b : Int} (h : Tog l n m (a, b)) : FollP l M false a b ∧ FollP l M true b a := by
  obtain ⟨m1, m2⟩ := tog_match hm hn hS h
  constructor
  · intro e he
    obtain ⟨he1, he2⟩ := mem_outL.1 he
    obtain ⟨f, hf, f1, f2, f3⟩ := m1 e he1 he2
    have hem := may_edge hm he1
    have hfm := may_edge hm hf
    unfold EdgeMay at hem hfm
    refine ⟨f, mem_outL.2 ⟨hf, f1⟩, f2.symm, hM _ ?_⟩
    simp only [Bool.false_eq_true, if_false]
    exact ⟨hem.2.2.1, by simp only; omega, hfm.2.2.1, by simp only; omega, f3.symm⟩
  · intro e he
    obtain ⟨he1, he2⟩ := mem_outL.1 he
    obtain ⟨f, hf, f1, f2, f3⟩ := m2 e he1 he2
    have hem := may_edge hm he1
    have hfm := may_edge hm hf
    unfold EdgeMay at hem hfm
    refine ⟨f, mem_outL.2 ⟨hf, f1⟩, f2.symm, hM _ ?_⟩
    simp only [if_true]
    exact ⟨hfm.2.2.1, by simp only; omega, hem.2.2.1, by simp only; omega, f3⟩
/-- Each pair of a bisimulation is together in each level. -/
theorem bisim_tog (hm : May l) (hn : l.n = (n : Int)) {M : Pm} (hin : ∀ k, InM M k → 0 ≤ k.1 ∧ k.1 < n ∧ 0 ≤ k.2 ∧ k.2 < n) (hf : ∀ k, InM M k → FollP l M false k.1 k.2 ∧ FollP l M true k.2 k.1) :
    ∀ (q : Nat) (k : Int × Int), InM M k → rd (lev l.es n q) k.1 = rd (lev l.es n q) k.2
  | 0, k, hk => by
    obtain ⟨h1, h2, h3, h4⟩ := hin k hk
    obtain ⟨a, ha⟩ := Int.eq_ofNat_of_zero_le h1
    obtain ⟨b, hb⟩ := Int.eq_ofNat_of_zero_le h3
    rw [ha, hb]
    simp only [lev]
    rw [rd_zeros, rd_zeros]
  | q + 1, k, hk => by
    have ih := bisim_tog hm hn hin hf q
    obtain ⟨h1, h2, h3, h4⟩ := hin k hk
    obtain ⟨f1, f2⟩ := hf k hk
    have ihk := ih k hk
    obtain ⟨a, ha⟩ := Int.eq_ofNat_of_zero_le h1
    obtain ⟨b, hb⟩ := Int.eq_ofNat_of_zero_le h3
    rw [ha, hb] at f1 f2 ihk ⊢
    rw [lev_together l.es n q (by omega) (by omega)]
    refine ⟨ihk, fun e he hea => ?_, fun e he heb => ?_⟩
    · obtain ⟨f, hf1, g1, g2⟩ := f1 e (mem_outL.2 ⟨he, hea⟩)
      obtain ⟨hf2, hf3⟩ := mem_outL.1 hf1
      simp only [Bool.false_eq_true, if_false] at g2
      exact ⟨f, hf2, hf3, g1.symm, (ih _ g2).symm⟩
    · obtain ⟨f, hf1, g1, g2⟩ := f2 e (mem_outL.2 ⟨he, heb⟩)
      obtain ⟨hf2, hf3⟩ := mem_outL.1 hf1
      simp only [if_true] at g2
      exact ⟨f, hf2, hf3, g1.symm, ih _ g2⟩
/-- Together in the last level just if never apart. -/
theorem tog_apart (hm : May l) (hn : l.n = (n : Int)) {s t : Int} (hs : 0 ≤ s ∧ s < n) (ht : 0 ≤ t ∧ t < n) : Tog l n m (s, t) ↔ apartI (levs l.es n m) s t < 0 := by
  obtain ⟨s, rfl⟩ := Int.eq_ofNat_of_zero_le hs.1
  obtain ⟨t, rfl⟩ := Int.eq_ofNat_of_zero_le ht.1
  obtain ⟨k, b1, b2, b3, b4, b5, b6⟩ := late_nat (l := l) (n := n) (m := m) (s := s) (t := t) (by omega) (by omega)
  constructor
  · rintro ⟨-, -, -, -, h⟩
    rw [b6, if_neg]
    · decide
    · intro hk
      exact b5 hk (lev_down (by omega) (by omega) hk h)
  · intro h
    have hk : ¬ k ≤ m := fun hk => by rw [b6, if_pos hk] at h; omega
    exact ⟨hs.1, hs.2, ht.1, ht.2, b4 m (by omega)⟩
end
/-- All pairs of so many nodes. -/
def rowP (n s : Nat) : List Wy := (List.range n).map fun t : Nat => ((s : Int), (t : Int))
def allP (n i : Nat) : List Wy := (List.range i).flatMap (rowP n)
theorem allP_snoc (n i : Nat) : allP n (i + 1) = allP n i ++ rowP n i := by unfold allP; rw [List.range_succ, List.flatMap_append]; simp
theorem rowP_snoc (j s : Nat) : rowP (j + 1) s = rowP j s ++ [((s : Int), (j : Int))] := by unfold rowP; rw [List.range_succ, List.map_append]; rfl
theorem mem_allP {n i : Nat} {k : Wy} : k ∈ allP n i ↔ 0 ≤ k.1 ∧ k.1 < i ∧ 0 ≤ k.2 ∧ k.2 < n := by
  unfold allP rowP
  simp only [List.mem_flatMap, List.mem_range, List.mem_map]
  constructor
  · rintro ⟨s, hs, t, ht, rfl⟩; simp only; omega
  · rintro ⟨h1, h2, h3, h4⟩
    exact ⟨k.1.toNat, by omega, k.2.toNat, by omega, by apply Prod.ext <;> simp only <;> omega⟩
theorem allP_len (n : Nat) : ∀ i, (allP n i).length = i * n
  | 0 => by simp [allP]
  | i + 1 => by rw [allP_snoc, List.length_append, allP_len n i, Nat.succ_mul]; simp [rowP]
end Go.Proofs.YtbajgbkkbabmlaaGreatDoor
