/- The plain law of the game. -/
import Derived.Test.YtbajgbkkbabmlaaGreatDoorO3
set_option linter.unusedVariables false
namespace Go.Proofs.YtbajgbkkbabmlaaGreatDoor
open Go.Vc

theorem ApartIn.comm {xs : List Int} {s t : Int} (h : ApartIn xs s t) : ApartIn xs t s := ⟨h.2.1, h.1, h.2.2.2.1, h.2.2.1, fun e => h.2.2.2.2 e.symm⟩
theorem apartI_comm (xss : List (List Int)) (s t : Int) : apartI xss s t = apartI xss t s := by
  refine apartI_eq ?_
  rcases apartI_is xss t s with ⟨h1, h2⟩ | ⟨i, h1, h2, h3, h4⟩
  · exact .inl ⟨h1, fun i hi hh => h2 i hi hh.comm⟩
  · exact .inr ⟨i, h1, h2, h3.comm, fun j hj hh => h4 j hj hh.comm⟩
theorem lateI_comm (xss : List (List Int)) (s t : Int) : lateI xss s t = lateI xss t s := by unfold lateI; rw [apartI_comm]
theorem mem_succL {es : List Ed} {a b t : Int} : t ∈ succL es a b ↔ ∃ e ∈ es, e.1 = a ∧ e.2.1 = b ∧ e.2.2 = t := by
  unfold succL
  simp only [List.mem_map, List.mem_filter, decide_eq_true_eq]
  constructor
  · rintro ⟨e, ⟨h1, h2, h3⟩, h4⟩; exact ⟨e, h1, h2, h3, h4⟩
  · rintro ⟨e, h1, h2, h3, h4⟩; exact ⟨e, ⟨h1, h2, h3⟩, h4⟩
theorem may_edge {l : Lt} (hm : May l) {e : Ed} (he : e ∈ l.es) : EdgeMay l.n l.ls.length e := by
  obtain ⟨j, h0, h1, rfl⟩ := (mem_iff (0, 0, 0) _ _).1 he
  exact (hm.es j h0 h1).1
theorem lev_down {es : List Ed} {n : Nat} {i j : Nat} (hi : i < n) (hj : j < n) : ∀ {k q : Nat}, q ≤ k → rd (lev es n k) i = rd (lev es n k) j → rd (lev es n q) i = rd (lev es n q) j := by
  intro k
  induction k with
  | zero => intro q hq h; obtain rfl : q = 0 := by omega
            exact h
  | succ k ih =>
    intro q hq h
    by_cases e : q = k + 1
    · subst e; exact h
    · exact ih (by omega) ((lev_together es n k hi hj).1 h).1
section
variable {l : Lt} {n m : Nat}
theorem in_lev {k : Nat} {s t : Nat} (hk : k ≤ m) (hs : s < n) (ht : t < n) : ApartIn (rd2 (levs l.es n m) (k : Int)) s t ↔ rd (lev l.es n k) s ≠ rd (lev l.es n k) t := by
  rw [show rd2 (levs l.es n m) (k : Int) = lev l.es n k from levs_at hk]
  unfold ApartIn
  rw [lev_len]
  constructor
  · exact fun h => h.2.2.2.2
  · exact fun h => ⟨by omega, by omega, by omega, by omega, h⟩
/-- When two nodes are first apart. -/
theorem late_nat {s t : Nat} (hs : s < n) (ht : t < n) : ∃ k : Nat, lateI (levs l.es n m) s t = k ∧ 1 ≤ k ∧ k ≤ m + 1 ∧ (∀ j, j < k → rd (lev l.es n j) s = rd (lev l.es n j) t) ∧ (k ≤ m → rd (lev l.es n k) s ≠ rd (lev l.es n k) t) ∧ apartI (levs l.es n m) s t = if k ≤ m then (k : Int) else -1 := by
  have hl := levs_len l.es n m
  rcases apartI_is (levs l.es n m) s t with ⟨h1, h2⟩ | ⟨k, h1, h2, h3, h4⟩
  · refine ⟨m + 1, ?_, by omega, Nat.le_refl _, fun j hj => ?_, fun hh => by omega, ?_⟩
    · unfold lateI; rw [if_neg (by omega)]; omega
    · have := h2 j (by omega)
      rw [in_lev (by omega) hs ht] at this
      exact Decidable.not_not.1 this
    · rw [if_neg (by omega)]; exact h1
  · rw [in_lev (by omega) hs ht] at h3
    have hk0 : k ≠ 0 := fun e => by
      subst e
      apply h3
      simp only [lev]
      rw [rd_zeros, rd_zeros]
    refine ⟨k, ?_, by omega, by omega, fun j hj => ?_, fun _ => h3, ?_⟩
    · unfold lateI; rw [if_pos (by omega)]; exact h1
    · have := h4 j hj
      rw [in_lev (by omega) hs ht] at this
      exact Decidable.not_not.1 this
    · rw [if_pos (by omega)]; exact h1
theorem late_ge {s t j : Nat} (hs : s < n) (ht : t < n) (hj : j ≤ m) : ((j : Int) < lateI (levs l.es n m) s t) ↔ rd (lev l.es n j) s = rd (lev l.es n j) t := by
  obtain ⟨k, h1, h2, h3, h4, h5, -⟩ := late_nat (l := l) (m := m) hs ht
  rw [h1]
  constructor
  · exact fun h => h4 j (by omega)
  · intro h
    rcases Nat.lt_or_ge j k with h6 | h6
    · omega
    · exact absurd (lev_down hs ht h6 h) (h5 (by omega))
theorem best_fold (xss : List (List Int)) (to : Int) : ∀ (vs : List Int) (b : Int), (∀ v ∈ vs, 0 ≤ v) →
    (b < 0 ∧ vs = [] ∧ vs.foldl (bestS xss to) b = b) ∨ ((vs.foldl (bestS xss to) b = b ∧ 0 ≤ b ∨ vs.foldl (bestS xss to) b ∈ vs) ∧ 0 ≤ vs.foldl (bestS xss to) b ∧ (0 ≤ b → lateI xss to b ≤ lateI xss to (vs.foldl (bestS xss to) b)) ∧ ∀ v ∈ vs, lateI xss to v ≤ lateI xss to (vs.foldl (bestS xss to) b))
  | [], b, _ => by
    by_cases h : b < 0
    · exact .inl ⟨h, rfl, rfl⟩
    · exact .inr ⟨.inl ⟨rfl, by omega⟩, by simp only [List.foldl_nil]; omega, fun _ => Int.le_refl _, fun v hv => by simp at hv⟩
  | v :: vs, b, hv => by
    have hv0 := hv v (by simp)
    rw [List.foldl_cons]
    have hb : 0 ≤ bestS xss to b v ∧ (bestS xss to b v = b ∧ 0 ≤ b ∨ bestS xss to b v = v) ∧ lateI xss to v ≤ lateI xss to (bestS xss to b v) ∧ (0 ≤ b → lateI xss to b ≤ lateI xss to (bestS xss to b v)) := by
      unfold bestS
      split
      · rename_i h; exact ⟨hv0, .inr rfl, Int.le_refl _, fun h0 => by rcases h with h | h <;> omega⟩
      · rename_i h; exact ⟨by omega, .inl ⟨rfl, by omega⟩, by omega, fun _ => Int.le_refl _⟩
    obtain ⟨hb0, hb1, hb2, hb3⟩ := hb
    rcases best_fold xss to vs (bestS xss to b v) (fun x hx => hv x (by simp [hx])) with ⟨h1, _⟩ | ⟨h1, h2, h3, h4⟩
    · omega
    · right
      have h3' := h3 hb0
      refine ⟨?_, h2, fun h0 => Int.le_trans (hb3 h0) h3', fun x hx => ?_⟩
      · rcases h1 with ⟨h1, _⟩ | h1
        · rcases hb1 with ⟨hb1, hb1'⟩ | hb1
          · exact .inl ⟨h1.trans hb1, hb1'⟩
          · right; rw [h1, hb1]; simp
        · right; simp [h1]
      · rcases List.mem_cons.1 hx with rfl | hx
        · exact Int.le_trans hb2 h3'
        · exact h4 x hx
theorem best_spec (xss : List (List Int)) (to : Int) (vs : List Int) (h : ∀ v ∈ vs, 0 ≤ v) : (vs = [] ∧ bestL xss to vs = -1) ∨ (bestL xss to vs ∈ vs ∧ 0 ≤ bestL xss to vs ∧ ∀ v ∈ vs, lateI xss to v ≤ lateI xss to (bestL xss to vs)) := by
  rcases best_fold xss to vs (-1) h with ⟨_, h1, h2⟩ | ⟨h1, h2, _, h3⟩
  · exact .inl ⟨h1, h2⟩
  · rcases h1 with ⟨_, h1⟩ | h1
    · omega
    · exact .inr ⟨h1, h2, h3⟩
theorem suc_range (hm : May l) (hn : l.n = (n : Int)) {a b v : Int} (hv : v ∈ succL l.es a b) : 0 ≤ v ∧ v < n := by
  obtain ⟨e, he, _, _, rfl⟩ := mem_succL.1 hv
  have := may_edge hm he
  unfold EdgeMay at this
  omega
theorem best_range (hm : May l) (hn : l.n = (n : Int)) (xss : List (List Int)) (to a b : Int) : bestL xss to (succL l.es a b) = -1 ∨ (0 ≤ bestL xss to (succL l.es a b) ∧ bestL xss to (succL l.es a b) < n) := by
  rcases best_spec xss to (succL l.es a b) (fun v hv => (suc_range hm hn hv).1) with ⟨_, h⟩ | ⟨h1, h2, _⟩
  · exact .inl h
  · exact .inr (suc_range hm hn h1)
/-- A move has no right reply just if no node is together with its end. -/
theorem hit_iff (hm : May l) (hn : l.n = (n : Int)) {e : Ed} (he : e ∈ l.es) {t : Int} {k : Nat} (hk : k ≤ m) :
    hitB l (levs l.es n m) t ((k + 1 : Nat) : Int) e = true ↔ ∀ v ∈ succL l.es t e.2.1, rd (lev l.es n k) v ≠ rd (lev l.es n k) e.2.2 := by
  have hem := may_edge hm he
  unfold EdgeMay at hem
  obtain ⟨to, hto⟩ := Int.eq_ofNat_of_zero_le (show 0 ≤ e.2.2 by omega)
  have key : ∀ v ∈ succL l.es t e.2.1, (((k : Int) < lateI (levs l.es n m) e.2.2 v) ↔ rd (lev l.es n k) v = rd (lev l.es n k) e.2.2) := fun v hv => by
    have := suc_range hm hn hv
    obtain ⟨v, rfl⟩ := Int.eq_ofNat_of_zero_le this.1
    rw [hto, late_ge (by omega) (by omega) hk]
    exact eq_comm
  unfold hitB
  rw [decide_eq_true_eq]
  rcases best_spec (levs l.es n m) e.2.2 (succL l.es t e.2.1) (fun v hv => (suc_range hm hn hv).1) with ⟨h1, h2⟩ | ⟨h1, h2, h3⟩
  · rw [h1]; rw [h1] at h2; simp [h2]
  · constructor
    · rintro (h | h) v hv hh
      · omega
      · have := (key v hv).2 hh
        have := h3 v hv
        omega
    · intro h
      right
      have := h _ h1
      rw [ne_eq, ← key _ h1] at this
      omega
theorem attack_some {xss : List (List Int)} {s t k : Int} {e : Ed} (h : attackL l xss s t k = some e) : e ∈ l.es ∧ e.1 = s ∧ hitB l xss t k e = true := by
  unfold attackL at h
  have h1 := List.find?_some h
  have h2 := List.mem_of_find?_eq_some h
  unfold outL at h2
  rw [List.mem_filter, decide_eq_true_eq] at h2
  exact ⟨h2.1, h2.2, h1⟩
theorem attack_none (hm : May l) (hn : l.n = (n : Int)) {s t : Int} {k : Nat} (hk : k ≤ m) (h : attackL l (levs l.es n m) s t ((k + 1 : Nat) : Int) = none) : Matched l.es (lev l.es n k) s t := by
  unfold attackL at h
  rw [List.find?_eq_none] at h
  intro e he hes
  have h1 := h e (by unfold outL; rw [List.mem_filter, decide_eq_true_eq]; exact ⟨he, hes⟩)
  rw [hit_iff hm hn he hk] at h1
  obtain ⟨v, h2⟩ := Classical.not_forall.1 h1
  obtain ⟨h2, h3⟩ := Classical.not_imp.1 h2
  obtain ⟨e', a, b, c, rfl⟩ := mem_succL.1 h2
  exact ⟨e', a, b, c, Decidable.not_not.1 h3⟩
/-- Of two nodes that are apart one has an attack. -/
theorem attack_or (hm : May l) (hn : l.n = (n : Int)) {s t k : Nat} (hs : s < n) (ht : t < n) (hk : lateI (levs l.es n m) s t = k) (hkm : k ≤ m)
    (h1 : attackL l (levs l.es n m) s t k = none) (h2 : attackL l (levs l.es n m) t s k = none) : False := by
  obtain ⟨q, a1, a2, a3, a4, a5, -⟩ := late_nat (l := l) (m := m) hs ht
  obtain rfl : q = k := by omega
  obtain ⟨j, rfl⟩ : ∃ j, q = j + 1 := ⟨q - 1, by omega⟩
  exact a5 hkm ((lev_together l.es n j hs ht).2 ⟨a4 j (by omega), attack_none hm hn (by omega) h1, attack_none hm hn (by omega) h2⟩)
end
abbrev Rd := Int × ByteArray × Int × Int
def encR (r : Rd) : List Value := [.int .i64 r.1, .string r.2.1, .int .i64 r.2.2.1, .int .i64 r.2.2.2]
theorem encR_len (r : Rd) : (encR r).length = 4 := rfl
/-- A round at two nodes that are apart; the new nodes. -/
noncomputable def roundL (l : Lt) (xss : List (List Int)) (s t : Int) : Rd × Int × Int :=
  match attackL l xss s t (lateI xss s t) with
  | some e => ((1, sd l.ls e.2.1, e.2.2, bestL xss e.2.2 (succL l.es t e.2.1)), e.2.2, bestL xss e.2.2 (succL l.es t e.2.1))
  | none => match attackL l xss t s (lateI xss s t) with
    | some e => ((2, sd l.ls e.2.1, e.2.2, bestL xss e.2.2 (succL l.es s e.2.1)), bestL xss e.2.2 (succL l.es s e.2.1), e.2.2)
    | none => ((0, ByteArray.empty, 0, 0), 0, 0)
/-- Does the game go on? -/
def On (xss : List (List Int)) (s t : Int) : Prop := 0 ≤ s ∧ 0 ≤ t ∧ lateI xss s t < xss.length
open Classical in
/-- A game's rounds. -/
noncomputable def playL (l : Lt) (xss : List (List Int)) : Nat → Int → Int → List Rd
  | 0, _, _ => []
  | f + 1, s, t => if On xss s t then (roundL l xss s t).1 :: playL l xss f (roundL l xss s t).2.1 (roundL l xss s t).2.2 else []
open Classical in
/-- How many rounds there are at most. -/
noncomputable def mu (xss : List (List Int)) (s t : Int) : Nat := if 0 ≤ s ∧ 0 ≤ t then (lateI xss s t).toNat else 0
theorem mu_comm (xss : List (List Int)) (s t : Int) : mu xss s t = mu xss t s := by
  unfold mu
  rw [lateI_comm xss s t]
  by_cases h : 0 ≤ s ∧ 0 ≤ t
  · rw [if_pos h, if_pos ⟨h.2, h.1⟩]
  · rw [if_neg h, if_neg (fun hh => h ⟨hh.2, hh.1⟩)]
/-- There are such nodes, or none. -/
def InN (n : Nat) (s : Int) : Prop := -1 ≤ s ∧ s < n
section
variable {l : Lt} {n m : Nat}
theorem playL_on {xss : List (List Int)} {f : Nat} {s t : Int} (h : On xss s t) : playL l xss (f + 1) s t = (roundL l xss s t).1 :: playL l xss f (roundL l xss s t).2.1 (roundL l xss s t).2.2 := if_pos h
theorem playL_off {xss : List (List Int)} {f : Nat} {s t : Int} (h : ¬ On xss s t) : playL l xss f s t = [] := by
  cases f with
  | zero => rfl
  | succ f => exact if_neg h
/-- A round that there is. -/
theorem round_step (hm : May l) (hn : l.n = (n : Int)) {s t : Int} (hs : InN n s) (ht : InN n t) (ho : On (levs l.es n m) s t) :
    1 ≤ mu (levs l.es n m) s t ∧ InN n (roundL l (levs l.es n m) s t).2.1 ∧ InN n (roundL l (levs l.es n m) s t).2.2 ∧ mu (levs l.es n m) (roundL l (levs l.es n m) s t).2.1 (roundL l (levs l.es n m) s t).2.2 < mu (levs l.es n m) s t := by
  obtain ⟨h0, h1, h2⟩ := ho
  unfold InN at hs ht
  obtain ⟨s, rfl⟩ := Int.eq_ofNat_of_zero_le h0
  obtain ⟨t, rfl⟩ := Int.eq_ofNat_of_zero_le h1
  obtain ⟨k, a1, a2, a3, a4, a5, -⟩ := late_nat (l := l) (n := n) (m := m) (s := s) (t := t) (by omega) (by omega)
  have hmu : mu (levs l.es n m) s t = k := by unfold mu; rw [if_pos ⟨h0, h1⟩, a1]; rfl
  rw [levs_len, a1] at h2
  refine ⟨by omega, ?_⟩
  have fin : ∀ (e : Ed) (z : Int), e ∈ l.es → hitB l (levs l.es n m) z k e = true → InN n e.2.2 ∧ InN n (bestL (levs l.es n m) e.2.2 (succL l.es z e.2.1)) ∧ mu (levs l.es n m) e.2.2 (bestL (levs l.es n m) e.2.2 (succL l.es z e.2.1)) < k := fun e z he hh => by
    have hem := may_edge hm he
    unfold EdgeMay at hem
    have hb := best_range hm hn (levs l.es n m) e.2.2 z e.2.1
    unfold hitB at hh
    rw [decide_eq_true_eq] at hh
    refine ⟨by unfold InN; omega, by unfold InN; omega, ?_⟩
    unfold mu
    split
    · rename_i hr
      rcases hh with hh | hh <;> omega
    · omega
  unfold roundL
  rw [a1]
  split
  · rename_i e he
    obtain ⟨b1, b2, b3⟩ := attack_some he
    obtain ⟨c1, c2, c3⟩ := fin e _ b1 b3
    rw [hmu]; exact ⟨c1, c2, c3⟩
  · rename_i he
    split
    · rename_i e he2
      obtain ⟨b1, b2, b3⟩ := attack_some he2
      obtain ⟨c1, c2, c3⟩ := fin e _ b1 b3
      rw [hmu]
      refine ⟨c2, c1, ?_⟩
      rw [mu_comm]; exact c3
    · rename_i he2
      exact absurd (attack_or hm hn (s := s) (t := t) (k := k) (by omega) (by omega) a1 (by omega) he he2) (by simp)
theorem mu_le {s t : Int} (hs : InN n s) (ht : InN n t) : mu (levs l.es n m) s t ≤ (levs l.es n m).length := by
  unfold mu
  split
  · rename_i h
    unfold InN at hs ht
    obtain ⟨s, rfl⟩ := Int.eq_ofNat_of_zero_le h.1
    obtain ⟨t, rfl⟩ := Int.eq_ofNat_of_zero_le h.2
    obtain ⟨k, a1, a2, a3, -⟩ := late_nat (l := l) (n := n) (m := m) (s := s) (t := t) (by omega) (by omega)
    rw [a1, levs_len]; omega
  · omega
end
end Go.Proofs.YtbajgbkkbabmlaaGreatDoor
