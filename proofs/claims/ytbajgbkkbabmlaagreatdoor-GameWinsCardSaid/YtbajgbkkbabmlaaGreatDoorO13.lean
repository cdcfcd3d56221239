/- The plain law of the game's length. -/
import Derived.Test.YtbajgbkkbabmlaaGreatDoorO12
set_option linter.unusedVariables false
namespace Go.Proofs.YtbajgbkkbabmlaaGreatDoor
open Go.Vc

section
variable {l : Lt} {n m : Nat}
/-- What a move without right reply leads to. -/
theorem hit_next (hm : May l) (hn : l.n = (n : Int)) {x y k : Nat} (hx : x < n) (hy : y < n) (hk : lateI (levs l.es n m) x y = k) (hkm : k ≤ m) {e : Ed} (he : e ∈ l.es) (hex : e.1 = (x : Int)) (hh : hitB l (levs l.es n m) y k e = true) :
    (k = 1 ∧ bestL (levs l.es n m) e.2.2 (succL l.es y e.2.1) < 0) ∨ (2 ≤ k ∧ 0 ≤ bestL (levs l.es n m) e.2.2 (succL l.es y e.2.1) ∧ bestL (levs l.es n m) e.2.2 (succL l.es y e.2.1) < n ∧ lateI (levs l.es n m) e.2.2 (bestL (levs l.es n m) e.2.2 (succL l.es y e.2.1)) = ((k - 1 : Nat) : Int)) := by
  have hem := may_edge hm he
  unfold EdgeMay at hem
  obtain ⟨q, a1, a2, a3, a4, a5, -⟩ := late_nat (l := l) (n := n) (m := m) (s := x) (t := y) hx hy
  obtain rfl : q = k := by omega
  obtain ⟨to, hto⟩ := Int.eq_ofNat_of_zero_le hem.2.2.1
  unfold hitB at hh
  rw [decide_eq_true_eq] at hh
  by_cases h1 : q = 1
  · left
    refine ⟨h1, ?_⟩
    rcases hh with hh | hh
    · exact hh
    · rcases best_range hm hn (levs l.es n m) e.2.2 y e.2.1 with h | ⟨h, h'⟩
      · omega
      · obtain ⟨r, hr⟩ := Int.eq_ofNat_of_zero_le h
        rw [hr, hto] at hh
        obtain ⟨z, b1, b2, -⟩ := late_nat (l := l) (n := n) (m := m) (s := to) (t := r) (by omega) (by omega)
        omega
  · right
    obtain ⟨p, rfl⟩ : ∃ p, q = p + 2 := ⟨q - 2, by omega⟩
    have hm1 := ((lev_together l.es n p hx hy).1 (a4 (p + 1) (by omega))).2.1
    obtain ⟨e', c1, c2, c3, c4⟩ := hm1 e he hex
    have hv : e'.2.2 ∈ succL l.es y e.2.1 := mem_succL.2 ⟨e', c1, c2, c3, rfl⟩
    have hvr := suc_range hm hn hv
    obtain ⟨v, hve⟩ := Int.eq_ofNat_of_zero_le hvr.1
    rcases best_spec (levs l.es n m) e.2.2 (succL l.es y e.2.1) (fun v hv => (suc_range hm hn hv).1) with ⟨d1, _⟩ | ⟨d1, d2, d3⟩
    · rw [d1] at hv; simp at hv
    · have hbr := suc_range hm hn d1
      have hd := d3 _ hv
      rw [hve, hto] at c4
      have hlv : (p : Int) < lateI (levs l.es n m) to v := (late_ge (l := l) (n := n) (m := m) (by omega) (by omega) (by omega)).2 c4.symm
      rw [hve, hto] at hd
      rw [hto] at hbr d2 hh ⊢
      refine ⟨by omega, d2, hbr.2, ?_⟩
      rcases hh with hh | hh <;> omega
/-- A game has as many rounds as there are levels till its nodes are apart; the last one alone has no reply. -/
theorem play_rounds (hm : May l) (hn : l.n = (n : Int)) : ∀ (k f : Nat) (s t : Nat), s < n → t < n → lateI (levs l.es n m) s t = k → k ≤ m → k ≤ f →
    (playL l (levs l.es n m) f s t).length = k ∧ ∀ i : Nat, i < k → (((playL l (levs l.es n m) f s t).getD i (0, ByteArray.empty, 0, 0)).2.2.2 < 0 ↔ i = k - 1)
  | 0, f, s, t, hs, ht, hk, _, _ => by
    obtain ⟨q, a1, a2, -⟩ := late_nat (l := l) (n := n) (m := m) (s := s) (t := t) hs ht
    omega
  | k + 1, 0, s, t, _, _, _, _, hf => by omega
  | k + 1, f + 1, s, t, hs, ht, hk, hkm, hf => by
    have ho : On (levs l.es n m) s t := ⟨by omega, by omega, by rw [hk, levs_len]; omega⟩
    have hor := on_or hm hn (s := s) (t := t) (by unfold InN; omega) (by unfold InN; omega) ho
    rw [playL_on ho]
    have key : ∀ (x y : Nat) (e : Ed), x < n → y < n → lateI (levs l.es n m) x y = ((k + 1 : Nat) : Int) → attackL l (levs l.es n m) x y ((k + 1 : Nat) : Int) = some e → ∀ (s2 t2 : Int) (R : Rd), R.2.2.2 = bestL (levs l.es n m) e.2.2 (succL l.es y e.2.1) →
        ((s2 = e.2.2 ∧ t2 = bestL (levs l.es n m) e.2.2 (succL l.es y e.2.1)) ∨ (t2 = e.2.2 ∧ s2 = bestL (levs l.es n m) e.2.2 (succL l.es y e.2.1))) →
        (R :: playL l (levs l.es n m) f s2 t2).length = k + 1 ∧ ∀ i : Nat, i < k + 1 → (((R :: playL l (levs l.es n m) f s2 t2).getD i (0, ByteArray.empty, 0, 0)).2.2.2 < 0 ↔ i = k + 1 - 1) := fun x y e hx hy hxy hat s2 t2 R hR hst => by
      obtain ⟨b1, b2, b3⟩ := attack_some hat
      have hem := may_edge hm b1
      unfold EdgeMay at hem
      rcases hit_next hm hn hx hy hxy hkm b1 b2 b3 with ⟨h1, h2⟩ | ⟨h1, h2, h3, h4⟩
      · have hoff : playL l (levs l.es n m) f s2 t2 = [] := playL_off (fun hh => by
          unfold On at hh
          rcases hst with ⟨_, e2⟩ | ⟨_, e2⟩ <;> omega)
        rw [hoff]
        refine ⟨by simp; omega, fun i hi => ?_⟩
        obtain rfl : i = 0 := by omega
        simp only [List.getD_cons_zero]
        rw [hR]
        exact ⟨fun _ => by omega, fun _ => h2⟩
      · obtain ⟨to, hto⟩ := Int.eq_ofNat_of_zero_le hem.2.2.1
        obtain ⟨r, hr⟩ := Int.eq_ofNat_of_zero_le h2
        have hl2 : lateI (levs l.es n m) s2 t2 = (k : Int) := by
          rw [show k + 1 - 1 = k by omega] at h4
          rcases hst with ⟨e1, e2⟩ | ⟨e1, e2⟩
          · rw [e1, e2]; exact h4
          · rw [e1, e2, lateI_comm]; exact h4
        have hs2 : ∃ s' t' : Nat, s2 = s' ∧ t2 = t' ∧ s' < n ∧ t' < n := by
          rcases hst with ⟨e1, e2⟩ | ⟨e1, e2⟩
          · exact ⟨to, r, by omega, by omega, by omega, by omega⟩
          · exact ⟨r, to, by omega, by omega, by omega, by omega⟩
        obtain ⟨s', t', rfl, rfl, q1, q2⟩ := hs2
        obtain ⟨i1, i2⟩ := play_rounds hm hn k f s' t' q1 q2 hl2 (by omega) (by omega)
        refine ⟨by simp only [List.length_cons]; omega, fun i hi => ?_⟩
        cases i with
        | zero =>
          simp only [List.getD_cons_zero]
          rw [hR]
          exact ⟨fun h => by omega, fun h => by omega⟩
        | succ i =>
          simp only [List.getD_cons_succ]
          rw [i2 i (by omega)]
          omega
    cases hat : attackL l (levs l.es n m) s t ((k + 1 : Nat) : Int) with
    | some e =>
      have hrk : roundL l (levs l.es n m) s t = ((1, sd l.ls e.2.1, e.2.2, bestL (levs l.es n m) e.2.2 (succL l.es t e.2.1)), e.2.2, bestL (levs l.es n m) e.2.2 (succL l.es t e.2.1)) := by
        unfold roundL; rw [hk, hat]
      rw [hrk]
      exact key s t e hs ht hk hat _ _ _ rfl (.inl ⟨rfl, rfl⟩)
    | none =>
      cases hat2 : attackL l (levs l.es n m) t s ((k + 1 : Nat) : Int) with
      | none => rw [hk] at hor; exact absurd (hor hat hat2) (by simp)
      | some e =>
        have hrk : roundL l (levs l.es n m) s t = ((2, sd l.ls e.2.1, e.2.2, bestL (levs l.es n m) e.2.2 (succL l.es s e.2.1)), bestL (levs l.es n m) e.2.2 (succL l.es s e.2.1), e.2.2) := by
          unfold roundL; rw [hk, hat]; simp only [hat2]
        rw [hrk]
        exact key t s e ht hs (by rw [lateI_comm]; exact hk) hat2 _ _ _ rfl (.inr ⟨rfl, rfl⟩)
end
end Go.Proofs.YtbajgbkkbabmlaaGreatDoor
