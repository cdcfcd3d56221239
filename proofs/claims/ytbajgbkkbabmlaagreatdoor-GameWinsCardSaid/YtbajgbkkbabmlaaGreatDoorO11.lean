/- The reference's game, walked. -/
import Derived.Test.YtbajgbkkbabmlaaGreatDoorProg
import Derived.Test.YtbajgbkkbabmlaaGreatDoorO10
set_option linter.unusedVariables false
namespace Go.Proofs.YtbajgbkkbabmlaaGreatDoor
open Go.Vc

theorem playL_mu {l : Lt} {n m : Nat} (hm : May l) (hn : l.n = (n : Int)) : ∀ (f : Nat) (s t : Int), InN n s → InN n t → (playL l (levs l.es n m) f s t).length ≤ mu (levs l.es n m) s t
  | 0, _, _, _, _ => Nat.zero_le _
  | f + 1, s, t, hs, ht => by
    by_cases ho : On (levs l.es n m) s t
    · obtain ⟨h1, h2, h3, h4⟩ := round_step hm hn hs ht ho
      rw [playL_on ho, List.length_cons]
      have := playL_mu (m := m) hm hn f _ _ h2 h3
      omega
    · rw [playL_off ho]; exact Nat.zero_le _
set_option maxHeartbeats 4000000 in
theorem refPlay_ct (A1 A2 A : Option Addr) (c1 c2 c n m : Nat) (l : Lt) (hm : May l) (hn : l.n = (n : Int)) (hmn : m < n) : ∀ (f : Nat) (s t : Int) (h : Heap), LtAt h l A1 c1 A2 c2 → Rows2 h A (levs l.es n m) c → InN n s → InN n t → mu (levs l.es n m) s t ≤ f →
    Ct Tryz.prog 27 #[.agg #[.int .i64 l.n, .slice A1 l.ls.length c1, .slice A2 l.es.length c2], .slice A (levs l.es n m).length c, .int .i64 s, .int .i64 t] h
      (fun v h' => ∃ A' c', v = .slice A' (playL l (levs l.es n m) f s t).length c' ∧ Rds h' A' (playL l (levs l.es n m) f s t) c' ∧ Ext h h') := by
  have hn2 := hm.n2
  have hll := levs_len l.es n m
  intro f
  induction f with
  | zero =>
    intro s t h hx hr hs ht hf
    have ho : ¬ On (levs l.es n m) s t := fun ho => by have := (round_step hm hn hs ht ho).1; omega
    by_cases e1 : s < 0
    · refine Ct.enter (args := [.agg #[.int .i64 l.n, .slice A1 l.ls.length c1, .slice A2 l.es.length c2], .slice A (levs l.es n m).length c, .int .i64 s, .int .i64 t]) Tryz.func27 rfl Tryz.ntmps27 (by simp) fun w hw => ?_
      -- at 080
      refine Run.adv 2 [] (at_ Tryz.f27 [0,8,0]) [(0, .agg #[.int .i64 l.n, .slice A1 l.ls.length c1, .slice A2 l.es.length c2]), (1, .slice A ((levs l.es n m).length) c), (2, .int .i64 s), (3, .int .i64 t)]
        (True)
        (by as_aux_lemma => kernel_rfl) trivial fun s_ => ?_
      refine Run.new #[.int .i64 l.n, .slice A1 l.ls.length c1, .slice A2 l.es.length c2] 25 (fun g_ => .pointer (some ⟨g_, 0, none⟩)) (some 4) (at_ Tryz.f27 [0,8,1]) (by as_aux_lemma => kernel_rfl) fun g4 h1 hng4 hEg4 hBg4 => ?_
      -- at 10141
      refine Run.adv 24 [.dec true, .lit, .lit, .lit, .lit, .lit, .lit, .lit] (at_ Tryz.f27 [1,0,1,4,1]) [(8, .slice none 0 0)]
        ((decide (s < 0)) = true)
        (by as_aux_lemma => kernel_rfl) (by first | assumption | exact decide_eq_true (by first | omega | assumption)) fun s_ => ?_
      refine Run.ret [] (.slice none 0 0) (True) Tryz.func27 (by as_aux_lemma => kernel_rfl) (by as_aux_lemma => kernel_rfl) trivial ?_
      rw [playL_off ho]
      exact ⟨none, 0, rfl, ⟨by simp, by simp, fun hp => by simp at hp⟩, hEg4⟩
    by_cases e2 : t < 0
    · refine Ct.enter (args := [.agg #[.int .i64 l.n, .slice A1 l.ls.length c1, .slice A2 l.es.length c2], .slice A (levs l.es n m).length c, .int .i64 s, .int .i64 t]) Tryz.func27 rfl Tryz.ntmps27 (by simp) fun w hw => ?_
      -- at 080
      refine Run.adv 2 [] (at_ Tryz.f27 [0,8,0]) [(0, .agg #[.int .i64 l.n, .slice A1 l.ls.length c1, .slice A2 l.es.length c2]), (1, .slice A ((levs l.es n m).length) c), (2, .int .i64 s), (3, .int .i64 t)]
        (True)
        (by as_aux_lemma => kernel_rfl) trivial fun s_ => ?_
      refine Run.new #[.int .i64 l.n, .slice A1 l.ls.length c1, .slice A2 l.es.length c2] 25 (fun g_ => .pointer (some ⟨g_, 0, none⟩)) (some 4) (at_ Tryz.f27 [0,8,1]) (by as_aux_lemma => kernel_rfl) fun g4 h1 hng4 hEg4 hBg4 => ?_
      -- at 10141
      refine Run.adv 24 [.dec false, .lit, .dec true, .lit, .lit, .lit, .lit, .lit] (at_ Tryz.f27 [1,0,1,4,1]) [(8, .slice none 0 0)]
        ((decide (s < 0)) = false ∧ (decide (t < 0)) = true)
        (by as_aux_lemma => kernel_rfl) ⟨(by first | assumption | exact decide_eq_false (by first | omega | assumption)), (by first | assumption | exact decide_eq_true (by first | omega | assumption))⟩ fun s_ => ?_
      refine Run.ret [] (.slice none 0 0) (True) Tryz.func27 (by as_aux_lemma => kernel_rfl) (by as_aux_lemma => kernel_rfl) trivial ?_
      rw [playL_off ho]
      exact ⟨none, 0, rfl, ⟨by simp, by simp, fun hp => by simp at hp⟩, hEg4⟩
    have hap : apartI (levs l.es n m) s t = -1 := by
      unfold InN at hs ht
      obtain ⟨s, rfl⟩ := Int.eq_ofNat_of_zero_le (show 0 ≤ s by omega)
      obtain ⟨t, rfl⟩ := Int.eq_ofNat_of_zero_le (show 0 ≤ t by omega)
      obtain ⟨k, b1, b2, b3, b4, b5, b6⟩ := late_nat (l := l) (n := n) (m := m) (s := s) (t := t) (by omega) (by omega)
      rw [b6, if_neg]
      exact fun hk => ho ⟨by omega, by omega, by rw [b1, hll]; omega⟩
    unfold InN at hs ht
    refine Ct.enter (args := [.agg #[.int .i64 l.n, .slice A1 l.ls.length c1, .slice A2 l.es.length c2], .slice A (levs l.es n m).length c, .int .i64 s, .int .i64 t]) Tryz.func27 rfl Tryz.ntmps27 (by simp) fun w hw => ?_
    -- at 080
    refine Run.adv 2 [] (at_ Tryz.f27 [0,8,0]) [(0, .agg #[.int .i64 l.n, .slice A1 l.ls.length c1, .slice A2 l.es.length c2]), (1, .slice A ((levs l.es n m).length) c), (2, .int .i64 s), (3, .int .i64 t)]
      (True)
      (by as_aux_lemma => kernel_rfl) trivial fun s_ => ?_
    refine Run.new #[.int .i64 l.n, .slice A1 l.ls.length c1, .slice A2 l.es.length c2] 25 (fun g_ => .pointer (some ⟨g_, 0, none⟩)) (some 4) (at_ Tryz.f27 [0,8,1]) (by as_aux_lemma => kernel_rfl) fun g4 h1 hng4 hEg4 hBg4 => ?_
    -- at 10141
    refine Run.adv 24 [.dec false, .lit, .dec false, .lit, .lit, .lit, .val (.int .i64 (-1)), .lit, .lit] (at_ Tryz.f27 [1,0,1,4,1]) [(8, .slice none 0 0)]
      ((decide (s < 0)) = false ∧ (decide (t < 0)) = false ∧ (Ct Tryz.prog 15 #[.slice A ((levs l.es n m).length) c, .int .i64 s, .int .i64 t] h1 (fun v_ h_ => v_ = .int .i64 (-1) ∧ h_ = h1)))
      (by as_aux_lemma => kernel_rfl) ⟨(by first | assumption | exact decide_eq_false (by first | omega | assumption)), (by first | assumption | exact decide_eq_false (by first | omega | assumption)), ((refApart_ct A c n (levs l.es n m) s t _ (hr.ext hEg4) levs_rows (by omega) (by omega)).is (by rw [hap]))⟩ fun s_ => ?_
    refine Run.ret [] (.slice none 0 0) (True) Tryz.func27 (by as_aux_lemma => kernel_rfl) (by as_aux_lemma => kernel_rfl) trivial ?_
    rw [playL_off ho]
    exact ⟨none, 0, rfl, ⟨by simp, by simp, fun hp => by simp at hp⟩, hEg4⟩
  | succ f ih =>
    intro s t h hx hr hs ht hf
    by_cases ho : On (levs l.es n m) s t
    rotate_left
    · by_cases e1 : s < 0
      · refine Ct.enter (args := [.agg #[.int .i64 l.n, .slice A1 l.ls.length c1, .slice A2 l.es.length c2], .slice A (levs l.es n m).length c, .int .i64 s, .int .i64 t]) Tryz.func27 rfl Tryz.ntmps27 (by simp) fun w hw => ?_
        -- at 080
        refine Run.adv 2 [] (at_ Tryz.f27 [0,8,0]) [(0, .agg #[.int .i64 l.n, .slice A1 l.ls.length c1, .slice A2 l.es.length c2]), (1, .slice A ((levs l.es n m).length) c), (2, .int .i64 s), (3, .int .i64 t)]
          (True)
          (by as_aux_lemma => kernel_rfl) trivial fun s_ => ?_
        refine Run.new #[.int .i64 l.n, .slice A1 l.ls.length c1, .slice A2 l.es.length c2] 25 (fun g_ => .pointer (some ⟨g_, 0, none⟩)) (some 4) (at_ Tryz.f27 [0,8,1]) (by as_aux_lemma => kernel_rfl) fun g4 h1 hng4 hEg4 hBg4 => ?_
        -- at 10141
        refine Run.adv 24 [.dec true, .lit, .lit, .lit, .lit, .lit, .lit, .lit] (at_ Tryz.f27 [1,0,1,4,1]) [(8, .slice none 0 0)]
          ((decide (s < 0)) = true)
          (by as_aux_lemma => kernel_rfl) (by first | assumption | exact decide_eq_true (by first | omega | assumption)) fun s_ => ?_
        refine Run.ret [] (.slice none 0 0) (True) Tryz.func27 (by as_aux_lemma => kernel_rfl) (by as_aux_lemma => kernel_rfl) trivial ?_
        rw [playL_off ho]
        exact ⟨none, 0, rfl, ⟨by simp, by simp, fun hp => by simp at hp⟩, hEg4⟩
      by_cases e2 : t < 0
      · refine Ct.enter (args := [.agg #[.int .i64 l.n, .slice A1 l.ls.length c1, .slice A2 l.es.length c2], .slice A (levs l.es n m).length c, .int .i64 s, .int .i64 t]) Tryz.func27 rfl Tryz.ntmps27 (by simp) fun w hw => ?_
        -- at 080
        refine Run.adv 2 [] (at_ Tryz.f27 [0,8,0]) [(0, .agg #[.int .i64 l.n, .slice A1 l.ls.length c1, .slice A2 l.es.length c2]), (1, .slice A ((levs l.es n m).length) c), (2, .int .i64 s), (3, .int .i64 t)]
          (True)
          (by as_aux_lemma => kernel_rfl) trivial fun s_ => ?_
        refine Run.new #[.int .i64 l.n, .slice A1 l.ls.length c1, .slice A2 l.es.length c2] 25 (fun g_ => .pointer (some ⟨g_, 0, none⟩)) (some 4) (at_ Tryz.f27 [0,8,1]) (by as_aux_lemma => kernel_rfl) fun g4 h1 hng4 hEg4 hBg4 => ?_
        -- at 10141
        refine Run.adv 24 [.dec false, .lit, .dec true, .lit, .lit, .lit, .lit, .lit] (at_ Tryz.f27 [1,0,1,4,1]) [(8, .slice none 0 0)]
          ((decide (s < 0)) = false ∧ (decide (t < 0)) = true)
          (by as_aux_lemma => kernel_rfl) ⟨(by first | assumption | exact decide_eq_false (by first | omega | assumption)), (by first | assumption | exact decide_eq_true (by first | omega | assumption))⟩ fun s_ => ?_
        refine Run.ret [] (.slice none 0 0) (True) Tryz.func27 (by as_aux_lemma => kernel_rfl) (by as_aux_lemma => kernel_rfl) trivial ?_
        rw [playL_off ho]
        exact ⟨none, 0, rfl, ⟨by simp, by simp, fun hp => by simp at hp⟩, hEg4⟩
      have hap : apartI (levs l.es n m) s t = -1 := by
        unfold InN at hs ht
        obtain ⟨s, rfl⟩ := Int.eq_ofNat_of_zero_le (show 0 ≤ s by omega)
        obtain ⟨t, rfl⟩ := Int.eq_ofNat_of_zero_le (show 0 ≤ t by omega)
        obtain ⟨k, b1, b2, b3, b4, b5, b6⟩ := late_nat (l := l) (n := n) (m := m) (s := s) (t := t) (by omega) (by omega)
        rw [b6, if_neg]
        exact fun hk => ho ⟨by omega, by omega, by rw [b1, hll]; omega⟩
      unfold InN at hs ht
      refine Ct.enter (args := [.agg #[.int .i64 l.n, .slice A1 l.ls.length c1, .slice A2 l.es.length c2], .slice A (levs l.es n m).length c, .int .i64 s, .int .i64 t]) Tryz.func27 rfl Tryz.ntmps27 (by simp) fun w hw => ?_
      -- at 080
      refine Run.adv 2 [] (at_ Tryz.f27 [0,8,0]) [(0, .agg #[.int .i64 l.n, .slice A1 l.ls.length c1, .slice A2 l.es.length c2]), (1, .slice A ((levs l.es n m).length) c), (2, .int .i64 s), (3, .int .i64 t)]
        (True)
        (by as_aux_lemma => kernel_rfl) trivial fun s_ => ?_
      refine Run.new #[.int .i64 l.n, .slice A1 l.ls.length c1, .slice A2 l.es.length c2] 25 (fun g_ => .pointer (some ⟨g_, 0, none⟩)) (some 4) (at_ Tryz.f27 [0,8,1]) (by as_aux_lemma => kernel_rfl) fun g4 h1 hng4 hEg4 hBg4 => ?_
      -- at 10141
      refine Run.adv 24 [.dec false, .lit, .dec false, .lit, .lit, .lit, .val (.int .i64 (-1)), .lit, .lit] (at_ Tryz.f27 [1,0,1,4,1]) [(8, .slice none 0 0)]
        ((decide (s < 0)) = false ∧ (decide (t < 0)) = false ∧ (Ct Tryz.prog 15 #[.slice A ((levs l.es n m).length) c, .int .i64 s, .int .i64 t] h1 (fun v_ h_ => v_ = .int .i64 (-1) ∧ h_ = h1)))
        (by as_aux_lemma => kernel_rfl) ⟨(by first | assumption | exact decide_eq_false (by first | omega | assumption)), (by first | assumption | exact decide_eq_false (by first | omega | assumption)), ((refApart_ct A c n (levs l.es n m) s t _ (hr.ext hEg4) levs_rows (by omega) (by omega)).is (by rw [hap]))⟩ fun s_ => ?_
      refine Run.ret [] (.slice none 0 0) (True) Tryz.func27 (by as_aux_lemma => kernel_rfl) (by as_aux_lemma => kernel_rfl) trivial ?_
      rw [playL_off ho]
      exact ⟨none, 0, rfl, ⟨by simp, by simp, fun hp => by simp at hp⟩, hEg4⟩
    obtain ⟨m1, hs2, ht2, hmu2⟩ := round_step hm hn hs ht ho
    have hor := on_or hm hn hs ht ho
    have hpl0 := playL_on (l := l) (f := f) ho
    obtain ⟨o1, o2, o3⟩ := ho
    unfold InN at hs ht
    obtain ⟨s, rfl⟩ := Int.eq_ofNat_of_zero_le o1
    obtain ⟨t, rfl⟩ := Int.eq_ofNat_of_zero_le o2
    obtain ⟨k, b1, b2, b3, b4, b5, b6⟩ := late_nat (l := l) (n := n) (m := m) (s := s) (t := t) (by omega) (by omega)
    rw [hll, b1] at o3
    rw [if_pos (by omega)] at b6
    have hplb : ∀ a b : Int, InN n a → InN n b → (playL l (levs l.es n m) f a b).length ≤ n := fun a b ha hb => by
      have h1 := playL_mu (l := l) (m := m) hm hn f a b ha hb
      have h2 := mu_le (l := l) (m := m) ha hb
      omega
    have hrk : roundL l (levs l.es n m) s t = (match attackL l (levs l.es n m) s t k with
      | some e => ((1, sd l.ls e.2.1, e.2.2, bestL (levs l.es n m) e.2.2 (succL l.es t e.2.1)), e.2.2, bestL (levs l.es n m) e.2.2 (succL l.es t e.2.1))
      | none => match attackL l (levs l.es n m) t s k with
        | some e => ((2, sd l.ls e.2.1, e.2.2, bestL (levs l.es n m) e.2.2 (succL l.es s e.2.1)), bestL (levs l.es n m) e.2.2 (succL l.es s e.2.1), e.2.2)
        | none => ((0, ByteArray.empty, 0, 0), 0, 0)) := by rw [← b1]; rfl
    rw [b1] at hor
    have hkk : ((k : Int) - 1) = ((k - 1 : Nat) : Int) := by omega
    have hqe : rd2 (levs l.es n m) ((k : Int) - 1) = lev l.es n (k - 1) := by rw [hkk]; exact levs_at (by omega)
    have haq : ∀ a b : Int, attackQ l (rd2 (levs l.es n m) ((k : Int) - 1)) a b = attackL l (levs l.es n m) a b k := fun a b => by
      rw [hqe, attackQ_eq hm hn (show k - 1 ≤ m by omega), show k - 1 + 1 = k by omega]
    obtain ⟨b0, o0, hA, hc, hAe, hrr⟩ := hr.open_
    obtain rfl := hAe (by omega)
    obtain ⟨r1, r2⟩ := hrr _ (Ext.refl _) ((k : Int) - 1) (by omega) (by omega)
    have hqn : (rd2 (levs l.es n m) ((k : Int) - 1)).length = n := by rw [hqe, lev_len]
    refine Ct.enter (args := [.agg #[.int .i64 l.n, .slice A1 l.ls.length c1, .slice A2 l.es.length c2], .slice (some ⟨b0, o0, none⟩) (levs l.es n m).length c, .int .i64 (s : Int), .int .i64 (t : Int)]) Tryz.func27 rfl Tryz.ntmps27 (by simp) fun w hw => ?_
    -- at 080
    refine Run.adv 2 [] (at_ Tryz.f27 [0,8,0]) [(0, .agg #[.int .i64 l.n, .slice A1 l.ls.length c1, .slice A2 l.es.length c2]), (1, .slice (some ⟨b0, o0, none⟩) ((levs l.es n m).length) c), (2, .int .i64 (s : Int)), (3, .int .i64 (t : Int))]
      (True)
      (by as_aux_lemma => kernel_rfl) trivial fun s_ => ?_
    refine Run.new #[.int .i64 l.n, .slice A1 l.ls.length c1, .slice A2 l.es.length c2] 25 (fun g_ => .pointer (some ⟨g_, 0, none⟩)) (some 4) (at_ Tryz.f27 [0,8,1]) (by as_aux_lemma => kernel_rfl) fun g4 h1 hng4 hEg4 hBg4 => ?_
    have hgl4 := hBg4.lt
    -- at 111084
    refine Run.adv 39 [.dec false, .lit, .dec false, .lit, .lit, .lit, .val (.int .i64 (k : Int)), .lit, .dec false, .val (.int .i64 (k : Int)), .val (.slice (hA ((k : Int) - 1)) ((rd2 (levs l.es n m) ((k : Int) - 1)).length) (hc ((k : Int) - 1))), .val (.agg #[.int .i64 l.n, .slice A1 l.ls.length c1, .slice A2 l.es.length c2])] (at_ Tryz.f27 [1,1,1,0,8,4]) [(1, .slice (some ⟨b0, o0, none⟩) ((levs l.es n m).length) c), (2, .int .i64 (s : Int)), (3, .int .i64 (t : Int)), (4, .pointer (some ⟨g4, 0, none⟩)), (9, .slice (hA ((k : Int) - 1)) ((rd2 (levs l.es n m) ((k : Int) - 1)).length) (hc ((k : Int) - 1))), (36, .agg #[.int .i64 l.n, .slice A1 l.ls.length c1, .slice A2 l.es.length c2]), (37, .slice (hA ((k : Int) - 1)) ((rd2 (levs l.es n m) ((k : Int) - 1)).length) (hc ((k : Int) - 1))), (38, .int .i64 (s : Int)), (39, .int .i64 (t : Int))]
      ((decide ((s : Int) < 0)) = false ∧ (decide ((t : Int) < 0)) = false ∧ (Ct Tryz.prog 15 #[.slice (some ⟨b0, o0, none⟩) ((levs l.es n m).length) c, .int .i64 (s : Int), .int .i64 (t : Int)] h1 (fun v_ h_ => v_ = .int .i64 (k : Int) ∧ h_ = h1)) ∧ (decide ((k : Int) < 0)) = false ∧ (Ct Tryz.prog 15 #[.slice (some ⟨b0, o0, none⟩) ((levs l.es n m).length) c, .int .i64 (s : Int), .int .i64 (t : Int)] h1 (fun v_ h_ => v_ = .int .i64 (k : Int) ∧ h_ = h1)) ∧ (-9223372036854775808 ≤ (k : Int) - 1 ∧ (k : Int) - 1 ≤ 9223372036854775807) ∧ (0 ≤ (k : Int) - 1 ∧ (k : Int) - 1 < ((levs l.es n m).length : Int)) ∧ cellH h1 ⟨b0, o0 + ((k : Int) - 1).toNat, none⟩ = some (.slice (hA ((k : Int) - 1)) ((rd2 (levs l.es n m) ((k : Int) - 1)).length) (hc ((k : Int) - 1))) ∧ cellsAt h1 ⟨g4, 0, none⟩ [.int .i64 l.n, .slice A1 l.ls.length c1, .slice A2 l.es.length c2] 0)
      (by as_aux_lemma => kernel_rfl) ⟨(by first | assumption | exact decide_eq_false (by first | omega | assumption)), (by first | assumption | exact decide_eq_false (by first | omega | assumption)), ((refApart_ct (some ⟨b0, o0, none⟩) c n (levs l.es n m) s t _ (hr.ext hEg4) levs_rows (by omega) (by omega)).is (by rw [b6])), (by first | assumption | exact decide_eq_false (by first | omega | assumption)), ((refApart_ct (some ⟨b0, o0, none⟩) c n (levs l.es n m) s t _ (hr.ext hEg4) levs_rows (by omega) (by omega)).is (by rw [b6])), ⟨by omega, by omega⟩, ⟨by omega, by omega⟩, ((hrr _ hEg4 ((k : Int) - 1) (by omega) (by omega)).1), (hBg4.all (Ext.refl _))⟩ fun s_ => ?_
    cases hat : attackL l (levs l.es n m) s t k with
    | some e =>
    rw [hat] at hrk
    simp only at hrk
    obtain ⟨he, -, -⟩ := attack_some hat
    have hem := may_edge hm he
    unfold EdgeMay at hem
    refine Run.call 53 #[.agg #[.int .i64 l.n, .slice A1 l.ls.length c1, .slice A2 l.es.length c2], .slice (hA ((k : Int) - 1)) ((rd2 (levs l.es n m) ((k : Int) - 1)).length) (hc ((k : Int) - 1)), .int .i64 (s : Int), .int .i64 (t : Int)] (some 40) (at_ Tryz.f27 [1,1,1,0,8,5]) (by as_aux_lemma => kernel_rfl) ((refAttack_ct A1 A2 (hA ((k : Int) - 1)) c1 c2 (hc ((k : Int) - 1)) n l (rd2 (levs l.es n m) ((k : Int) - 1)) s t _ (hx.ext hEg4) (r2.ext hEg4) hm hn hqn).is (by rw [haq, hat, attV])) ?_
    rintro _ h2 ⟨rfl, hE2⟩
    -- at 111088
    refine Run.adv 3 [] (at_ Tryz.f27 [1,1,1,0,8,8]) [(1, .slice (some ⟨b0, o0, none⟩) ((levs l.es n m).length) c), (2, .int .i64 (s : Int)), (3, .int .i64 (t : Int)), (4, .pointer (some ⟨g4, 0, none⟩)), (9, .slice (hA ((k : Int) - 1)) ((rd2 (levs l.es n m) ((k : Int) - 1)).length) (hc ((k : Int) - 1))), (35, .tuple #[.agg #[.int .i64 e.1, .int .i64 e.2.1, .int .i64 e.2.2], .bool true]), (36, .agg #[.int .i64 l.n, .slice A1 l.ls.length c1, .slice A2 l.es.length c2]), (37, .slice (hA ((k : Int) - 1)) ((rd2 (levs l.es n m) ((k : Int) - 1)).length) (hc ((k : Int) - 1))), (38, .int .i64 (s : Int)), (39, .int .i64 (t : Int)), (40, .tuple #[.agg #[.int .i64 e.1, .int .i64 e.2.1, .int .i64 e.2.2], .bool true]), (41, .agg #[.int .i64 e.1, .int .i64 e.2.1, .int .i64 e.2.2]), (42, .bool true)]
      (True)
      (by as_aux_lemma => kernel_rfl) trivial fun s_ => ?_
    refine Run.new #[.int .i64 0, .int .i64 0, .int .i64 0] 64 (fun g_ => .pointer (some ⟨g_, 0, none⟩)) (some 10) (at_ Tryz.f27 [1,1,1,0,8,9]) (by as_aux_lemma => kernel_rfl) fun g10 h3 hng10 hEg10 hBg10 => ?_
    refine Run.store g10 0 [.int .i64 e.1, .int .i64 e.2.1, .int .i64 e.2.2] (at_ Tryz.f27 [1,1,1,0,8,10]) (by as_aux_lemma => kernel_rfl) (hBg10.ext (Ext.refl _)) (by simp) rfl fun h4 hMh4 hzh4 (hBg10_h4 : Blk h4 g10 #[.int .i64 e.1, .int .i64 e.2.1, .int .i64 e.2.2] 64) => ?_
    have hE24 := (hMh4.ext_new hEg10 hng10 (Ext.refl _))
    have hE04 := (hEg4.trans hE2).trans hE24
    obtain ⟨b, off, hA1, hpl⟩ := hx.ls.open_ (by omega)
    subst hA1
    -- at 1111014087
    refine Run.adv 17 [.lit, .val (.agg #[.int .i64 l.n, .slice (some ⟨b, off, none⟩) l.ls.length c1, .slice A2 l.es.length c2]), .val (.int .i64 e.2.1), .val (.int .i64 e.2.2)] (at_ Tryz.f27 [1,1,1,1,0,1,4,0,8,7]) [(1, .slice (some ⟨b0, o0, none⟩) ((levs l.es n m).length) c), (4, .pointer (some ⟨g4, 0, none⟩)), (10, .pointer (some ⟨g10, 0, none⟩)), (44, .agg #[.int .i64 l.n, .slice (some ⟨b, off, none⟩) l.ls.length c1, .slice A2 l.es.length c2]), (45, .slice (some ⟨b0, o0, none⟩) ((levs l.es n m).length) c), (46, .int .i64 (t : Int)), (48, .int .i64 e.2.1), (50, .int .i64 e.2.2)]
      (cellsAt h4 ⟨g4, 0, none⟩ [.int .i64 l.n, .slice (some ⟨b, off, none⟩) l.ls.length c1, .slice A2 l.es.length c2] 0 ∧ cellH h4 ⟨g10, 1, none⟩ = some (.int .i64 e.2.1) ∧ cellH h4 ⟨g10, 2, none⟩ = some (.int .i64 e.2.2))
      (by as_aux_lemma => kernel_rfl) ⟨(hBg4.all (hE2.trans hE24)), (hBg10_h4.at (Ext.refl _) 1 rfl), (hBg10_h4.at (Ext.refl _) 2 rfl)⟩ fun s_ => ?_
    refine Run.call 30 #[.agg #[.int .i64 l.n, .slice (some ⟨b, off, none⟩) l.ls.length c1, .slice A2 l.es.length c2], .slice (some ⟨b0, o0, none⟩) ((levs l.es n m).length) c, .int .i64 (t : Int), .int .i64 e.2.1, .int .i64 e.2.2] (some 51) (at_ Tryz.f27 [1,1,1,1,0,1,4,0,8,8]) (by as_aux_lemma => kernel_rfl) (refReply_ct (some ⟨b, off, none⟩) A2 (some ⟨b0, o0, none⟩) c1 c2 c n l (levs l.es n m) t e.2.1 e.2.2 _ (hx.ext hE04) (hr.ext hE04) hm hn levs_rows (by omega)) ?_
    rintro _ h5 ⟨rfl, hE5⟩
    have hE0H := hE04.trans hE5
    have hB4 := hBg4.ext ((hE2.trans hE24).trans hE5)
    have hB10 := hBg10_h4.ext hE5
    rw [hrk] at hs2 ht2 hmu2
    simp only at hs2 ht2 hmu2
    have hmu2 : mu (levs l.es n m) e.2.2 (bestL (levs l.es n m) e.2.2 (succL l.es t e.2.1)) ≤ f := by omega
    have hpl1 : playL l (levs l.es n m) (f + 1) s t = [(1, sd l.ls e.2.1, e.2.2, bestL (levs l.es n m) e.2.2 (succL l.es t e.2.1))] ++ playL l (levs l.es n m) f e.2.2 (bestL (levs l.es n m) e.2.2 (succL l.es t e.2.1)) := by rw [hpl0, hrk]; rfl
    generalize bestL (levs l.es n m) e.2.2 (succL l.es t e.2.1) = r at *
    have hpb : (playL l (levs l.es n m) f (e.2.2) (r)).length ≤ n := by
      have := hplb _ _ hs2 ht2
      omega
    have fin : ∀ (A6 : Option Addr) (c6 : Nat) (h' : Heap) (og6 : Option Nat), Own h' 51 4 (.slice A6 (1 + (playL l (levs l.es n m) f (e.2.2) (r)).length) c6) (1 + (playL l (levs l.es n m) f (e.2.2) (r)).length) ([.int .i64 1, .string (sd l.ls e.2.1), .int .i64 e.2.2, .int .i64 r] ++ (playL l (levs l.es n m) f (e.2.2) (r)).flatMap encR) og6 → Ext h h' → ∃ A' c', Value.slice A6 (1 + (playL l (levs l.es n m) f (e.2.2) (r)).length) c6 = .slice A' (playL l (levs l.es n m) (f + 1) s t).length c' ∧ Rds h' A' (playL l (levs l.es n m) (f + 1) s t) c' ∧ Ext h h' := fun A6 c6 h' og6 hO hE => by
      have hpl2 : (playL l (levs l.es n m) (f + 1) s t).length = 1 + (playL l (levs l.es n m) f (e.2.2) (r)).length := by rw [hpl1, List.length_append]; rfl
      have hfm : (playL l (levs l.es n m) (f + 1) s t).flatMap encR = [.int .i64 1, .string (sd l.ls e.2.1), .int .i64 e.2.2, .int .i64 r] ++ (playL l (levs l.es n m) f (e.2.2) (r)).flatMap encR := by rw [hpl1, List.flatMap_append]; rfl
      rw [← hpl2, ← hfm] at hO
      obtain ⟨A7, c7, hv, hr7⟩ := hO.rowK (d := (0, ByteArray.empty, 0, 0)) encR_len (by omega)
      rw [← hpl2]
      exact ⟨A7, c7, hv, hr7, hE⟩
    -- at 111101410
    refine Run.adv 3 [] (at_ Tryz.f27 [1,1,1,1,0,1,4,1,0]) [(1, .slice (some ⟨b0, o0, none⟩) ((levs l.es n m).length) c), (4, .pointer (some ⟨g4, 0, none⟩)), (10, .pointer (some ⟨g10, 0, none⟩)), (12, .int .i64 r)]
      (True)
      (by as_aux_lemma => kernel_rfl) trivial fun s_ => ?_
    refine Run.any (opsAt (at_ Tryz.f27 [1,1,1,1,0,1,4,1,0])) (at_ Tryz.f27 [1,1,1,1,0,1,4,1,1]) (fun H => Ext h5 H) [0, 1, 2, 3, 4, 5, 6, 7, 8, 9, 11, 12, 13, 14, 15, 18] [0, 1, 2, 3, 4, 5, 6, 7, 8, 9, 11, 12, 13, 14, 15] [.val (.slice (some ⟨b, off, none⟩) l.ls.length c1), .val (.int .i64 e.2.1), .val (.string (sd l.ls e.2.1)), .val (.int .i64 e.2.2), .val (.agg #[.int .i64 l.n, .slice (some ⟨b, off, none⟩) l.ls.length c1, .slice A2 l.es.length c2]), .val (.int .i64 e.2.2)] #[true, true, true, true, true, true, true, true, true, true, false, true, true, true, true, true, false, false, false] [(1, .slice (some ⟨b0, o0, none⟩) ((levs l.es n m).length) c), (4, .pointer (some ⟨g4, 0, none⟩)), (10, .pointer (some ⟨g10, 0, none⟩)), (12, .int .i64 r), (52, .pointer (some ⟨g4, 1, none⟩)), (53, .slice (some ⟨b, off, none⟩) l.ls.length c1), (54, .pointer (some ⟨g10, 1, none⟩)), (55, .int .i64 e.2.1), (56, .pointer (some ⟨b, off + e.2.1.toNat, none⟩)), (57, .string (sd l.ls e.2.1)), (58, .pointer (some ⟨g10, 2, none⟩)), (59, .int .i64 e.2.2), (60, .int .i64 r), (61, .agg #[.int .i64 1, .string (sd l.ls e.2.1), .int .i64 e.2.2, .int .i64 r]), (63, .agg #[.int .i64 l.n, .slice (some ⟨b, off, none⟩) l.ls.length c1, .slice A2 l.es.length c2]), (64, .slice (some ⟨b0, o0, none⟩) ((levs l.es n m).length) c), (65, .pointer (some ⟨g10, 2, none⟩)), (66, .int .i64 e.2.2), (67, .int .i64 r)]
      (fun H => cellH H ⟨g4, 1, none⟩ = some (.slice (some ⟨b, off, none⟩) l.ls.length c1) ∧ cellH H ⟨g10, 1, none⟩ = some (.int .i64 e.2.1) ∧ (0 ≤ e.2.1 ∧ e.2.1 < (l.ls.length : Int)) ∧ cellH H ⟨b, off + e.2.1.toNat, none⟩ = some (.string (sd l.ls e.2.1)) ∧ cellH H ⟨g10, 2, none⟩ = some (.int .i64 e.2.2) ∧ cellsAt H ⟨g4, 0, none⟩ [.int .i64 l.n, .slice (some ⟨b, off, none⟩) l.ls.length c1, .slice A2 l.es.length c2] 0 ∧ cellH H ⟨g10, 2, none⟩ = some (.int .i64 e.2.2)) 4 (by as_aux_lemma => kernel_rfl) (by as_aux_lemma => kernel_rfl) (Ext.refl _)
      (by as_aux_lemma => kernel_rfl) (fun H hC => ⟨(hB4.at hC 1 rfl), (hB10.at hC 1 rfl), ⟨by omega, by omega⟩, (hpl _ (hE0H.trans hC) e.2.1 (by omega) (by omega)), (hB10.at hC 2 rfl), (hB4.all hC), (hB10.at hC 2 rfl)⟩) fun s_ => ?_
    refine RunA.fork2 3 10 16 (by as_aux_lemma => kernel_rfl) ?_ ?_
    · refine RunJ.new 10 3 #[.int .i64 1, .string (sd l.ls e.2.1), .int .i64 e.2.2, .int .i64 r] 51 (fun g_ => .slice (some ⟨g_, 0, none⟩) 1 1) (some 62) false #[true, true, true, true, true, true, true, true, true, true, true, true, true, true, true, true, false, false, false] (by as_aux_lemma => kernel_rfl) fun g5 k1 hng5 hEg5 hBg5 => ⟨fun _ => hEg5, ?_⟩
      refine RunA.call 2 27 #[.agg #[.int .i64 l.n, .slice (some ⟨b, off, none⟩) l.ls.length c1, .slice A2 l.es.length c2], .slice (some ⟨b0, o0, none⟩) ((levs l.es n m).length) c, .int .i64 e.2.2, .int .i64 r] (some 68) false #[true, true, true, true, true, true, true, true, true, true, true, true, true, true, true, true, true, false, false] (by as_aux_lemma => kernel_rfl) (ih (e.2.2) (r) _ (hx.ext (hE0H.trans hEg5)) (hr.ext (hE0H.trans hEg5)) hs2 ht2 hmu2) ?_
      rintro v k2 ⟨A5, c5, rfl, hr5, hE5⟩
      refine ⟨fun _ => hEg5.trans hE5, ?_⟩
      have hO5 := (Own.of_blk (sz := 4) (n := 1) hBg5 rfl).ext hE5
      have hzz := hE5.size
      refine RunA.append 1 (.slice (some ⟨g5, 0, none⟩) 1 1) (.slice A5 ((playL l (levs l.es n m) f (e.2.2) (r)).length) c5) 51 (some 69) false #[true, true, true, true, true, true, true, true, true, true, true, true, true, true, true, true, true, true, false] 4 40 (by as_aux_lemma => kernel_rfl) (by as_aux_lemma => kernel_rfl) (by decide) hO5 (hr5.src encR_len (Ext.refl _)) (by rw [flatMap_length encR_len]) (by simp [encR, Vc.one]) (by omega) fun A6 c6 k3 og6 hOA6 hMk3 hgA6 => ⟨fun _ => hMk3.ext_new (hEg5.trans hE5) hng5 (Ext.refl _), ?_⟩
      refine RunA.adv [18] [] #[true, true, true, true, true, true, true, true, true, true, true, true, true, true, true, true, true, true, true] [(1, .slice (some ⟨b0, o0, none⟩) ((levs l.es n m).length) c), (4, .pointer (some ⟨g4, 0, none⟩)), (8, .slice A6 (1 + ((playL l (levs l.es n m) f (e.2.2) (r)).length)) c6), (10, .pointer (some ⟨g10, 0, none⟩)), (12, .int .i64 r), (52, .pointer (some ⟨g4, 1, none⟩)), (53, .slice (some ⟨b, off, none⟩) l.ls.length c1), (54, .pointer (some ⟨g10, 1, none⟩)), (55, .int .i64 e.2.1), (56, .pointer (some ⟨b, off + e.2.1.toNat, none⟩)), (57, .string (sd l.ls e.2.1)), (58, .pointer (some ⟨g10, 2, none⟩)), (59, .int .i64 e.2.2), (60, .int .i64 r), (61, .agg #[.int .i64 1, .string (sd l.ls e.2.1), .int .i64 e.2.2, .int .i64 r]), (62, .slice (some ⟨g5, 0, none⟩) 1 1), (63, .agg #[.int .i64 l.n, .slice (some ⟨b, off, none⟩) l.ls.length c1, .slice A2 l.es.length c2]), (64, .slice (some ⟨b0, o0, none⟩) ((levs l.es n m).length) c), (65, .pointer (some ⟨g10, 2, none⟩)), (66, .int .i64 e.2.2), (67, .int .i64 r), (68, .slice A5 ((playL l (levs l.es n m) f (e.2.2) (r)).length) c5), (69, .slice A6 (1 + ((playL l (levs l.es n m) f (e.2.2) (r)).length)) c6)]
        (fun H => True) 0 (by as_aux_lemma => kernel_rfl) (hMk3.ext_new (hEg5.trans hE5) hng5 (Ext.refl _))
        (by as_aux_lemma => kernel_rfl) (fun H hC => trivial) fun s_ => ?_
      refine RunA.done [(1, .slice (some ⟨b0, o0, none⟩) ((levs l.es n m).length) c), (4, .pointer (some ⟨g4, 0, none⟩)), (8, .slice A6 (1 + ((playL l (levs l.es n m) f (e.2.2) (r)).length)) c6), (10, .pointer (some ⟨g10, 0, none⟩)), (12, .int .i64 r), (52, .pointer (some ⟨g4, 1, none⟩)), (53, .slice (some ⟨b, off, none⟩) l.ls.length c1), (54, .pointer (some ⟨g10, 1, none⟩)), (55, .int .i64 e.2.1), (56, .pointer (some ⟨b, off + e.2.1.toNat, none⟩)), (57, .string (sd l.ls e.2.1)), (58, .pointer (some ⟨g10, 2, none⟩)), (59, .int .i64 e.2.2), (60, .int .i64 r), (61, .agg #[.int .i64 1, .string (sd l.ls e.2.1), .int .i64 e.2.2, .int .i64 r]), (62, .slice (some ⟨g5, 0, none⟩) 1 1), (63, .agg #[.int .i64 l.n, .slice (some ⟨b, off, none⟩) l.ls.length c1, .slice A2 l.es.length c2]), (64, .slice (some ⟨b0, o0, none⟩) ((levs l.es n m).length) c), (65, .pointer (some ⟨g10, 2, none⟩)), (66, .int .i64 e.2.2), (67, .int .i64 r), (68, .slice A5 ((playL l (levs l.es n m) f (e.2.2) (r)).length) c5), (69, .slice A6 (1 + ((playL l (levs l.es n m) f (e.2.2) (r)).length)) c6)] (by as_aux_lemma => kernel_rfl) (by as_aux_lemma => kernel_rfl) fun s_ => ?_
      refine Run.ret [] (.slice A6 (1 + ((playL l (levs l.es n m) f (e.2.2) (r)).length)) c6) (True) Tryz.func27 (by as_aux_lemma => kernel_rfl) (by as_aux_lemma => kernel_rfl) trivial ?_
      have hO := hOA6
      exact fin A6 c6 k3 og6 hO (hMk3.ext_new ((hE0H.trans hEg5).trans hE5) hng5 hE0H)
    · refine RunJ.call 16 3 27 #[.agg #[.int .i64 l.n, .slice (some ⟨b, off, none⟩) l.ls.length c1, .slice A2 l.es.length c2], .slice (some ⟨b0, o0, none⟩) ((levs l.es n m).length) c, .int .i64 e.2.2, .int .i64 r] (some 68) false #[true, true, true, true, true, true, true, true, true, true, false, true, true, true, true, true, true, false, false] (by as_aux_lemma => kernel_rfl) (ih (e.2.2) (r) _ (hx.ext hE0H) (hr.ext hE0H) hs2 ht2 hmu2) ?_
      rintro v k2 ⟨A5, c5, rfl, hr5, hE5⟩
      refine ⟨fun _ => hE5, ?_⟩
      refine RunA.new 2 #[.int .i64 1, .string (sd l.ls e.2.1), .int .i64 e.2.2, .int .i64 r] 51 (fun g_ => .slice (some ⟨g_, 0, none⟩) 1 1) (some 62) false #[true, true, true, true, true, true, true, true, true, true, true, true, true, true, true, true, true, false, false] (by as_aux_lemma => kernel_rfl) fun g5 k1 hng5 hEg5 hBg5 => ⟨fun _ => hE5.trans hEg5, ?_⟩
      have hO5 := Own.of_blk (sz := 4) (n := 1) hBg5 rfl
      have hzz := hE5.size
      refine RunA.append 1 (.slice (some ⟨g5, 0, none⟩) 1 1) (.slice A5 ((playL l (levs l.es n m) f (e.2.2) (r)).length) c5) 51 (some 69) false #[true, true, true, true, true, true, true, true, true, true, true, true, true, true, true, true, true, true, false] 4 40 (by as_aux_lemma => kernel_rfl) (by as_aux_lemma => kernel_rfl) (by decide) hO5 (hr5.src encR_len hEg5) (by rw [flatMap_length encR_len]) (by simp [encR, Vc.one]) (by omega) fun A6 c6 k3 og6 hOA6 hMk3 hgA6 => ⟨fun _ => hMk3.ext_new (hE5.trans hEg5) hng5 hE5, ?_⟩
      refine RunA.adv [18] [] #[true, true, true, true, true, true, true, true, true, true, true, true, true, true, true, true, true, true, true] [(1, .slice (some ⟨b0, o0, none⟩) ((levs l.es n m).length) c), (4, .pointer (some ⟨g4, 0, none⟩)), (8, .slice A6 (1 + ((playL l (levs l.es n m) f (e.2.2) (r)).length)) c6), (10, .pointer (some ⟨g10, 0, none⟩)), (12, .int .i64 r), (52, .pointer (some ⟨g4, 1, none⟩)), (53, .slice (some ⟨b, off, none⟩) l.ls.length c1), (54, .pointer (some ⟨g10, 1, none⟩)), (55, .int .i64 e.2.1), (56, .pointer (some ⟨b, off + e.2.1.toNat, none⟩)), (57, .string (sd l.ls e.2.1)), (58, .pointer (some ⟨g10, 2, none⟩)), (59, .int .i64 e.2.2), (60, .int .i64 r), (61, .agg #[.int .i64 1, .string (sd l.ls e.2.1), .int .i64 e.2.2, .int .i64 r]), (62, .slice (some ⟨g5, 0, none⟩) 1 1), (63, .agg #[.int .i64 l.n, .slice (some ⟨b, off, none⟩) l.ls.length c1, .slice A2 l.es.length c2]), (64, .slice (some ⟨b0, o0, none⟩) ((levs l.es n m).length) c), (65, .pointer (some ⟨g10, 2, none⟩)), (66, .int .i64 e.2.2), (67, .int .i64 r), (68, .slice A5 ((playL l (levs l.es n m) f (e.2.2) (r)).length) c5), (69, .slice A6 (1 + ((playL l (levs l.es n m) f (e.2.2) (r)).length)) c6)]
        (fun H => True) 0 (by as_aux_lemma => kernel_rfl) (hMk3.ext_new (hE5.trans hEg5) hng5 hE5)
        (by as_aux_lemma => kernel_rfl) (fun H hC => trivial) fun s_ => ?_
      refine RunA.done [(1, .slice (some ⟨b0, o0, none⟩) ((levs l.es n m).length) c), (4, .pointer (some ⟨g4, 0, none⟩)), (8, .slice A6 (1 + ((playL l (levs l.es n m) f (e.2.2) (r)).length)) c6), (10, .pointer (some ⟨g10, 0, none⟩)), (12, .int .i64 r), (52, .pointer (some ⟨g4, 1, none⟩)), (53, .slice (some ⟨b, off, none⟩) l.ls.length c1), (54, .pointer (some ⟨g10, 1, none⟩)), (55, .int .i64 e.2.1), (56, .pointer (some ⟨b, off + e.2.1.toNat, none⟩)), (57, .string (sd l.ls e.2.1)), (58, .pointer (some ⟨g10, 2, none⟩)), (59, .int .i64 e.2.2), (60, .int .i64 r), (61, .agg #[.int .i64 1, .string (sd l.ls e.2.1), .int .i64 e.2.2, .int .i64 r]), (62, .slice (some ⟨g5, 0, none⟩) 1 1), (63, .agg #[.int .i64 l.n, .slice (some ⟨b, off, none⟩) l.ls.length c1, .slice A2 l.es.length c2]), (64, .slice (some ⟨b0, o0, none⟩) ((levs l.es n m).length) c), (65, .pointer (some ⟨g10, 2, none⟩)), (66, .int .i64 e.2.2), (67, .int .i64 r), (68, .slice A5 ((playL l (levs l.es n m) f (e.2.2) (r)).length) c5), (69, .slice A6 (1 + ((playL l (levs l.es n m) f (e.2.2) (r)).length)) c6)] (by as_aux_lemma => kernel_rfl) (by as_aux_lemma => kernel_rfl) fun s_ => ?_
      refine Run.ret [] (.slice A6 (1 + ((playL l (levs l.es n m) f (e.2.2) (r)).length)) c6) (True) Tryz.func27 (by as_aux_lemma => kernel_rfl) (by as_aux_lemma => kernel_rfl) trivial ?_
      have hO := hOA6
      exact fin A6 c6 k3 og6 hO (hMk3.ext_new ((hE0H.trans hE5).trans hEg5) hng5 (hE0H.trans hE5))
    | none =>
    cases hat2 : attackL l (levs l.es n m) t s k with
    | none => exact absurd (hor hat hat2) (by simp)
    | some e =>
    rw [hat] at hrk
    simp only [hat2] at hrk
    obtain ⟨he, -, -⟩ := attack_some hat2
    have hem := may_edge hm he
    unfold EdgeMay at hem
    refine Run.call 53 #[.agg #[.int .i64 l.n, .slice A1 l.ls.length c1, .slice A2 l.es.length c2], .slice (hA ((k : Int) - 1)) ((rd2 (levs l.es n m) ((k : Int) - 1)).length) (hc ((k : Int) - 1)), .int .i64 (s : Int), .int .i64 (t : Int)] (some 40) (at_ Tryz.f27 [1,1,1,0,8,5]) (by as_aux_lemma => kernel_rfl) ((refAttack_ct A1 A2 (hA ((k : Int) - 1)) c1 c2 (hc ((k : Int) - 1)) n l (rd2 (levs l.es n m) ((k : Int) - 1)) s t _ (hx.ext hEg4) (r2.ext hEg4) hm hn hqn).is (by rw [haq, hat, attV])) ?_
    rintro _ h2 ⟨rfl, hE2⟩
    -- at 111088
    refine Run.adv 3 [] (at_ Tryz.f27 [1,1,1,0,8,8]) [(1, .slice (some ⟨b0, o0, none⟩) ((levs l.es n m).length) c), (2, .int .i64 (s : Int)), (3, .int .i64 (t : Int)), (4, .pointer (some ⟨g4, 0, none⟩)), (9, .slice (hA ((k : Int) - 1)) ((rd2 (levs l.es n m) ((k : Int) - 1)).length) (hc ((k : Int) - 1))), (35, .tuple #[.agg #[.int .i64 0, .int .i64 0, .int .i64 0], .bool false]), (36, .agg #[.int .i64 l.n, .slice A1 l.ls.length c1, .slice A2 l.es.length c2]), (37, .slice (hA ((k : Int) - 1)) ((rd2 (levs l.es n m) ((k : Int) - 1)).length) (hc ((k : Int) - 1))), (38, .int .i64 (s : Int)), (39, .int .i64 (t : Int)), (40, .tuple #[.agg #[.int .i64 0, .int .i64 0, .int .i64 0], .bool false]), (41, .agg #[.int .i64 0, .int .i64 0, .int .i64 0]), (42, .bool false)]
      (True)
      (by as_aux_lemma => kernel_rfl) trivial fun s_ => ?_
    refine Run.new #[.int .i64 0, .int .i64 0, .int .i64 0] 64 (fun g_ => .pointer (some ⟨g_, 0, none⟩)) (some 10) (at_ Tryz.f27 [1,1,1,0,8,9]) (by as_aux_lemma => kernel_rfl) fun g10 h3 hng10 hEg10 hBg10 => ?_
    refine Run.store g10 0 [.int .i64 0, .int .i64 0, .int .i64 0] (at_ Tryz.f27 [1,1,1,0,8,10]) (by as_aux_lemma => kernel_rfl) (hBg10.ext (Ext.refl _)) (by simp) rfl fun h4 hMh4 hzh4 (hBg10_h4 : Blk h4 g10 #[.int .i64 0, .int .i64 0, .int .i64 0] 64) => ?_
    have hE24 := (hMh4.ext_new hEg10 hng10 (Ext.refl _))
    have hE04 := (hEg4.trans hE2).trans hE24
    -- at 11111084
    refine Run.adv 15 [.lit, .val (.agg #[.int .i64 l.n, .slice A1 l.ls.length c1, .slice A2 l.es.length c2])] (at_ Tryz.f27 [1,1,1,1,1,0,8,4]) [(1, .slice (some ⟨b0, o0, none⟩) ((levs l.es n m).length) c), (2, .int .i64 (s : Int)), (3, .int .i64 (t : Int)), (4, .pointer (some ⟨g4, 0, none⟩)), (10, .pointer (some ⟨g10, 0, none⟩)), (71, .agg #[.int .i64 l.n, .slice A1 l.ls.length c1, .slice A2 l.es.length c2]), (72, .slice (hA ((k : Int) - 1)) ((rd2 (levs l.es n m) ((k : Int) - 1)).length) (hc ((k : Int) - 1))), (73, .int .i64 (t : Int)), (74, .int .i64 (s : Int))]
      (cellsAt h4 ⟨g4, 0, none⟩ [.int .i64 l.n, .slice A1 l.ls.length c1, .slice A2 l.es.length c2] 0)
      (by as_aux_lemma => kernel_rfl) (hBg4.all (hMh4.ext_new (hE2.trans hEg10) hng10 hE2)) fun s_ => ?_
    refine Run.call 53 #[.agg #[.int .i64 l.n, .slice A1 l.ls.length c1, .slice A2 l.es.length c2], .slice (hA ((k : Int) - 1)) ((rd2 (levs l.es n m) ((k : Int) - 1)).length) (hc ((k : Int) - 1)), .int .i64 (t : Int), .int .i64 (s : Int)] (some 75) (at_ Tryz.f27 [1,1,1,1,1,0,8,5]) (by as_aux_lemma => kernel_rfl) ((refAttack_ct A1 A2 (hA ((k : Int) - 1)) c1 c2 (hc ((k : Int) - 1)) n l (rd2 (levs l.es n m) ((k : Int) - 1)) t s _ (hx.ext hE04) (r2.ext hE04) hm hn hqn).is (by rw [haq, hat2, attV])) ?_
    rintro _ h5 ⟨rfl, hE5⟩
    have hs45 := hE5.size
    have hs04 := hE04.size
    have hlg10 := hBg10_h4.lt
    have hz23 := hEg10.size
    have hz1 := hE2.size
    -- at 11111088
    refine Run.adv 3 [] (at_ Tryz.f27 [1,1,1,1,1,0,8,8]) [(1, .slice (some ⟨b0, o0, none⟩) ((levs l.es n m).length) c), (2, .int .i64 (s : Int)), (3, .int .i64 (t : Int)), (4, .pointer (some ⟨g4, 0, none⟩)), (10, .pointer (some ⟨g10, 0, none⟩)), (76, .agg #[.int .i64 e.1, .int .i64 e.2.1, .int .i64 e.2.2])]
      (True)
      (by as_aux_lemma => kernel_rfl) trivial fun s_ => ?_
    refine Run.store g10 0 [.int .i64 e.1, .int .i64 e.2.1, .int .i64 e.2.2] (at_ Tryz.f27 [1,1,1,1,1,0,8,9]) (by as_aux_lemma => kernel_rfl) (hBg10_h4.ext hE5) (by simp) rfl fun h6 hMh6 hzh6 (hBg10_h6 : Blk h6 g10 #[.int .i64 e.1, .int .i64 e.2.1, .int .i64 e.2.2] 64) => ?_
    have hM56 := hMh6
    have hE26 := hMh6.ext_new (hE24.trans hE5) hng10 (Ext.refl _)
    have hE06 := (hEg4.trans hE2).trans hE26
    obtain ⟨b, off, hA1, hpl⟩ := hx.ls.open_ (by omega)
    subst hA1
    -- at 111111087
    refine Run.adv 10 [.val (.agg #[.int .i64 l.n, .slice (some ⟨b, off, none⟩) l.ls.length c1, .slice A2 l.es.length c2]), .val (.int .i64 e.2.1), .val (.int .i64 e.2.2)] (at_ Tryz.f27 [1,1,1,1,1,1,0,8,7]) [(1, .slice (some ⟨b0, o0, none⟩) ((levs l.es n m).length) c), (4, .pointer (some ⟨g4, 0, none⟩)), (10, .pointer (some ⟨g10, 0, none⟩)), (78, .agg #[.int .i64 l.n, .slice (some ⟨b, off, none⟩) l.ls.length c1, .slice A2 l.es.length c2]), (79, .slice (some ⟨b0, o0, none⟩) ((levs l.es n m).length) c), (80, .int .i64 (s : Int)), (82, .int .i64 e.2.1), (84, .int .i64 e.2.2)]
      (cellsAt h6 ⟨g4, 0, none⟩ [.int .i64 l.n, .slice (some ⟨b, off, none⟩) l.ls.length c1, .slice A2 l.es.length c2] 0 ∧ cellH h6 ⟨g10, 1, none⟩ = some (.int .i64 e.2.1) ∧ cellH h6 ⟨g10, 2, none⟩ = some (.int .i64 e.2.2))
      (by as_aux_lemma => kernel_rfl) ⟨(hBg4.all (hE2.trans hE26)), (hBg10_h6.at (Ext.refl _) 1 rfl), (hBg10_h6.at (Ext.refl _) 2 rfl)⟩ fun s_ => ?_
    refine Run.call 30 #[.agg #[.int .i64 l.n, .slice (some ⟨b, off, none⟩) l.ls.length c1, .slice A2 l.es.length c2], .slice (some ⟨b0, o0, none⟩) ((levs l.es n m).length) c, .int .i64 (s : Int), .int .i64 e.2.1, .int .i64 e.2.2] (some 85) (at_ Tryz.f27 [1,1,1,1,1,1,0,8,8]) (by as_aux_lemma => kernel_rfl) (refReply_ct (some ⟨b, off, none⟩) A2 (some ⟨b0, o0, none⟩) c1 c2 c n l (levs l.es n m) s e.2.1 e.2.2 _ (hx.ext hE06) (hr.ext hE06) hm hn levs_rows (by omega)) ?_
    rintro _ h7 ⟨rfl, hE7⟩
    have hE0H := hE06.trans hE7
    have hB4 := hBg4.ext ((hE2.trans hE26).trans hE7)
    have hB10 := hBg10_h6.ext hE7
    rw [hrk] at hs2 ht2 hmu2
    simp only at hs2 ht2 hmu2
    have hmu2 : mu (levs l.es n m) (bestL (levs l.es n m) e.2.2 (succL l.es s e.2.1)) e.2.2 ≤ f := by omega
    have hpl1 : playL l (levs l.es n m) (f + 1) s t = [(2, sd l.ls e.2.1, e.2.2, bestL (levs l.es n m) e.2.2 (succL l.es s e.2.1))] ++ playL l (levs l.es n m) f (bestL (levs l.es n m) e.2.2 (succL l.es s e.2.1)) e.2.2 := by rw [hpl0, hrk]; rfl
    generalize bestL (levs l.es n m) e.2.2 (succL l.es s e.2.1) = r at *
    have hpb : (playL l (levs l.es n m) f (r) (e.2.2)).length ≤ n := by
      have := hplb _ _ hs2 ht2
      omega
    have fin : ∀ (A6 : Option Addr) (c6 : Nat) (h' : Heap) (og6 : Option Nat), Own h' 51 4 (.slice A6 (1 + (playL l (levs l.es n m) f (r) (e.2.2)).length) c6) (1 + (playL l (levs l.es n m) f (r) (e.2.2)).length) ([.int .i64 2, .string (sd l.ls e.2.1), .int .i64 e.2.2, .int .i64 r] ++ (playL l (levs l.es n m) f (r) (e.2.2)).flatMap encR) og6 → Ext h h' → ∃ A' c', Value.slice A6 (1 + (playL l (levs l.es n m) f (r) (e.2.2)).length) c6 = .slice A' (playL l (levs l.es n m) (f + 1) s t).length c' ∧ Rds h' A' (playL l (levs l.es n m) (f + 1) s t) c' ∧ Ext h h' := fun A6 c6 h' og6 hO hE => by
      have hpl2 : (playL l (levs l.es n m) (f + 1) s t).length = 1 + (playL l (levs l.es n m) f (r) (e.2.2)).length := by rw [hpl1, List.length_append]; rfl
      have hfm : (playL l (levs l.es n m) (f + 1) s t).flatMap encR = [.int .i64 2, .string (sd l.ls e.2.1), .int .i64 e.2.2, .int .i64 r] ++ (playL l (levs l.es n m) f (r) (e.2.2)).flatMap encR := by rw [hpl1, List.flatMap_append]; rfl
      rw [← hpl2, ← hfm] at hO
      obtain ⟨A7, c7, hv, hr7⟩ := hO.rowK (d := (0, ByteArray.empty, 0, 0)) encR_len (by omega)
      rw [← hpl2]
      exact ⟨A7, c7, hv, hr7, hE⟩
    -- at 11111110
    refine Run.adv 3 [] (at_ Tryz.f27 [1,1,1,1,1,1,1,0]) [(1, .slice (some ⟨b0, o0, none⟩) ((levs l.es n m).length) c), (4, .pointer (some ⟨g4, 0, none⟩)), (10, .pointer (some ⟨g10, 0, none⟩)), (13, .int .i64 r)]
      (True)
      (by as_aux_lemma => kernel_rfl) trivial fun s_ => ?_
    refine Run.any (opsAt (at_ Tryz.f27 [1,1,1,1,1,1,1,0])) (at_ Tryz.f27 [1,1,1,1,1,1,1,1]) (fun H => Ext h7 H) [0, 1, 2, 3, 4, 5, 6, 7, 8, 9, 11, 12, 13, 14, 15, 18] [0, 1, 2, 3, 4, 5, 6, 7, 8, 9, 11, 12, 13, 14, 15] [.val (.slice (some ⟨b, off, none⟩) l.ls.length c1), .val (.int .i64 e.2.1), .val (.string (sd l.ls e.2.1)), .val (.int .i64 e.2.2), .val (.agg #[.int .i64 l.n, .slice (some ⟨b, off, none⟩) l.ls.length c1, .slice A2 l.es.length c2]), .val (.int .i64 e.2.2)] #[true, true, true, true, true, true, true, true, true, true, false, true, true, true, true, true, false, false, false] [(1, .slice (some ⟨b0, o0, none⟩) ((levs l.es n m).length) c), (4, .pointer (some ⟨g4, 0, none⟩)), (10, .pointer (some ⟨g10, 0, none⟩)), (13, .int .i64 r), (86, .pointer (some ⟨g4, 1, none⟩)), (87, .slice (some ⟨b, off, none⟩) l.ls.length c1), (88, .pointer (some ⟨g10, 1, none⟩)), (89, .int .i64 e.2.1), (90, .pointer (some ⟨b, off + e.2.1.toNat, none⟩)), (91, .string (sd l.ls e.2.1)), (92, .pointer (some ⟨g10, 2, none⟩)), (93, .int .i64 e.2.2), (94, .int .i64 r), (95, .agg #[.int .i64 2, .string (sd l.ls e.2.1), .int .i64 e.2.2, .int .i64 r]), (97, .agg #[.int .i64 l.n, .slice (some ⟨b, off, none⟩) l.ls.length c1, .slice A2 l.es.length c2]), (98, .slice (some ⟨b0, o0, none⟩) ((levs l.es n m).length) c), (99, .int .i64 r), (100, .pointer (some ⟨g10, 2, none⟩)), (101, .int .i64 e.2.2)]
      (fun H => cellH H ⟨g4, 1, none⟩ = some (.slice (some ⟨b, off, none⟩) l.ls.length c1) ∧ cellH H ⟨g10, 1, none⟩ = some (.int .i64 e.2.1) ∧ (0 ≤ e.2.1 ∧ e.2.1 < (l.ls.length : Int)) ∧ cellH H ⟨b, off + e.2.1.toNat, none⟩ = some (.string (sd l.ls e.2.1)) ∧ cellH H ⟨g10, 2, none⟩ = some (.int .i64 e.2.2) ∧ cellsAt H ⟨g4, 0, none⟩ [.int .i64 l.n, .slice (some ⟨b, off, none⟩) l.ls.length c1, .slice A2 l.es.length c2] 0 ∧ cellH H ⟨g10, 2, none⟩ = some (.int .i64 e.2.2)) 4 (by as_aux_lemma => kernel_rfl) (by as_aux_lemma => kernel_rfl) (Ext.refl _)
      (by as_aux_lemma => kernel_rfl) (fun H hC => ⟨(hB4.at hC 1 rfl), (hB10.at hC 1 rfl), ⟨by omega, by omega⟩, (hpl _ (hE0H.trans hC) e.2.1 (by omega) (by omega)), (hB10.at hC 2 rfl), (hB4.all hC), (hB10.at hC 2 rfl)⟩) fun s_ => ?_
    refine RunA.fork2 3 10 16 (by as_aux_lemma => kernel_rfl) ?_ ?_
    · refine RunJ.new 10 3 #[.int .i64 2, .string (sd l.ls e.2.1), .int .i64 e.2.2, .int .i64 r] 51 (fun g_ => .slice (some ⟨g_, 0, none⟩) 1 1) (some 96) false #[true, true, true, true, true, true, true, true, true, true, true, true, true, true, true, true, false, false, false] (by as_aux_lemma => kernel_rfl) fun g5 k1 hng5 hEg5 hBg5 => ⟨fun _ => hEg5, ?_⟩
      refine RunA.call 2 27 #[.agg #[.int .i64 l.n, .slice (some ⟨b, off, none⟩) l.ls.length c1, .slice A2 l.es.length c2], .slice (some ⟨b0, o0, none⟩) ((levs l.es n m).length) c, .int .i64 r, .int .i64 e.2.2] (some 102) false #[true, true, true, true, true, true, true, true, true, true, true, true, true, true, true, true, true, false, false] (by as_aux_lemma => kernel_rfl) (ih (r) (e.2.2) _ (hx.ext (hE0H.trans hEg5)) (hr.ext (hE0H.trans hEg5)) hs2 ht2 hmu2) ?_
      rintro v k2 ⟨A5, c5, rfl, hr5, hE5⟩
      refine ⟨fun _ => hEg5.trans hE5, ?_⟩
      have hO5 := (Own.of_blk (sz := 4) (n := 1) hBg5 rfl).ext hE5
      have hzz := hE5.size
      refine RunA.append 1 (.slice (some ⟨g5, 0, none⟩) 1 1) (.slice A5 ((playL l (levs l.es n m) f (r) (e.2.2)).length) c5) 51 (some 103) false #[true, true, true, true, true, true, true, true, true, true, true, true, true, true, true, true, true, true, false] 4 40 (by as_aux_lemma => kernel_rfl) (by as_aux_lemma => kernel_rfl) (by decide) hO5 (hr5.src encR_len (Ext.refl _)) (by rw [flatMap_length encR_len]) (by simp [encR, Vc.one]) (by omega) fun A6 c6 k3 og6 hOA6 hMk3 hgA6 => ⟨fun _ => hMk3.ext_new (hEg5.trans hE5) hng5 (Ext.refl _), ?_⟩
      refine RunA.adv [18] [] #[true, true, true, true, true, true, true, true, true, true, true, true, true, true, true, true, true, true, true] [(1, .slice (some ⟨b0, o0, none⟩) ((levs l.es n m).length) c), (4, .pointer (some ⟨g4, 0, none⟩)), (8, .slice A6 (1 + ((playL l (levs l.es n m) f (r) (e.2.2)).length)) c6), (10, .pointer (some ⟨g10, 0, none⟩)), (13, .int .i64 r), (86, .pointer (some ⟨g4, 1, none⟩)), (87, .slice (some ⟨b, off, none⟩) l.ls.length c1), (88, .pointer (some ⟨g10, 1, none⟩)), (89, .int .i64 e.2.1), (90, .pointer (some ⟨b, off + e.2.1.toNat, none⟩)), (91, .string (sd l.ls e.2.1)), (92, .pointer (some ⟨g10, 2, none⟩)), (93, .int .i64 e.2.2), (94, .int .i64 r), (95, .agg #[.int .i64 2, .string (sd l.ls e.2.1), .int .i64 e.2.2, .int .i64 r]), (96, .slice (some ⟨g5, 0, none⟩) 1 1), (97, .agg #[.int .i64 l.n, .slice (some ⟨b, off, none⟩) l.ls.length c1, .slice A2 l.es.length c2]), (98, .slice (some ⟨b0, o0, none⟩) ((levs l.es n m).length) c), (99, .int .i64 r), (100, .pointer (some ⟨g10, 2, none⟩)), (101, .int .i64 e.2.2), (102, .slice A5 ((playL l (levs l.es n m) f (r) (e.2.2)).length) c5), (103, .slice A6 (1 + ((playL l (levs l.es n m) f (r) (e.2.2)).length)) c6)]
        (fun H => True) 0 (by as_aux_lemma => kernel_rfl) (hMk3.ext_new (hEg5.trans hE5) hng5 (Ext.refl _))
        (by as_aux_lemma => kernel_rfl) (fun H hC => trivial) fun s_ => ?_
      refine RunA.done [(1, .slice (some ⟨b0, o0, none⟩) ((levs l.es n m).length) c), (4, .pointer (some ⟨g4, 0, none⟩)), (8, .slice A6 (1 + ((playL l (levs l.es n m) f (r) (e.2.2)).length)) c6), (10, .pointer (some ⟨g10, 0, none⟩)), (13, .int .i64 r), (86, .pointer (some ⟨g4, 1, none⟩)), (87, .slice (some ⟨b, off, none⟩) l.ls.length c1), (88, .pointer (some ⟨g10, 1, none⟩)), (89, .int .i64 e.2.1), (90, .pointer (some ⟨b, off + e.2.1.toNat, none⟩)), (91, .string (sd l.ls e.2.1)), (92, .pointer (some ⟨g10, 2, none⟩)), (93, .int .i64 e.2.2), (94, .int .i64 r), (95, .agg #[.int .i64 2, .string (sd l.ls e.2.1), .int .i64 e.2.2, .int .i64 r]), (96, .slice (some ⟨g5, 0, none⟩) 1 1), (97, .agg #[.int .i64 l.n, .slice (some ⟨b, off, none⟩) l.ls.length c1, .slice A2 l.es.length c2]), (98, .slice (some ⟨b0, o0, none⟩) ((levs l.es n m).length) c), (99, .int .i64 r), (100, .pointer (some ⟨g10, 2, none⟩)), (101, .int .i64 e.2.2), (102, .slice A5 ((playL l (levs l.es n m) f (r) (e.2.2)).length) c5), (103, .slice A6 (1 + ((playL l (levs l.es n m) f (r) (e.2.2)).length)) c6)] (by as_aux_lemma => kernel_rfl) (by as_aux_lemma => kernel_rfl) fun s_ => ?_
      refine Run.ret [] (.slice A6 (1 + ((playL l (levs l.es n m) f (r) (e.2.2)).length)) c6) (True) Tryz.func27 (by as_aux_lemma => kernel_rfl) (by as_aux_lemma => kernel_rfl) trivial ?_
      have hO := hOA6
      exact fin A6 c6 k3 og6 hO (hMk3.ext_new ((hE0H.trans hEg5).trans hE5) hng5 hE0H)
    · refine RunJ.call 16 3 27 #[.agg #[.int .i64 l.n, .slice (some ⟨b, off, none⟩) l.ls.length c1, .slice A2 l.es.length c2], .slice (some ⟨b0, o0, none⟩) ((levs l.es n m).length) c, .int .i64 r, .int .i64 e.2.2] (some 102) false #[true, true, true, true, true, true, true, true, true, true, false, true, true, true, true, true, true, false, false] (by as_aux_lemma => kernel_rfl) (ih (r) (e.2.2) _ (hx.ext hE0H) (hr.ext hE0H) hs2 ht2 hmu2) ?_
      rintro v k2 ⟨A5, c5, rfl, hr5, hE5⟩
      refine ⟨fun _ => hE5, ?_⟩
      refine RunA.new 2 #[.int .i64 2, .string (sd l.ls e.2.1), .int .i64 e.2.2, .int .i64 r] 51 (fun g_ => .slice (some ⟨g_, 0, none⟩) 1 1) (some 96) false #[true, true, true, true, true, true, true, true, true, true, true, true, true, true, true, true, true, false, false] (by as_aux_lemma => kernel_rfl) fun g5 k1 hng5 hEg5 hBg5 => ⟨fun _ => hE5.trans hEg5, ?_⟩
      have hO5 := Own.of_blk (sz := 4) (n := 1) hBg5 rfl
      have hzz := hE5.size
      refine RunA.append 1 (.slice (some ⟨g5, 0, none⟩) 1 1) (.slice A5 ((playL l (levs l.es n m) f (r) (e.2.2)).length) c5) 51 (some 103) false #[true, true, true, true, true, true, true, true, true, true, true, true, true, true, true, true, true, true, false] 4 40 (by as_aux_lemma => kernel_rfl) (by as_aux_lemma => kernel_rfl) (by decide) hO5 (hr5.src encR_len hEg5) (by rw [flatMap_length encR_len]) (by simp [encR, Vc.one]) (by omega) fun A6 c6 k3 og6 hOA6 hMk3 hgA6 => ⟨fun _ => hMk3.ext_new (hE5.trans hEg5) hng5 hE5, ?_⟩
      refine RunA.adv [18] [] #[true, true, true, true, true, true, true, true, true, true, true, true, true, true, true, true, true, true, true] [(1, .slice (some ⟨b0, o0, none⟩) ((levs l.es n m).length) c), (4, .pointer (some ⟨g4, 0, none⟩)), (8, .slice A6 (1 + ((playL l (levs l.es n m) f (r) (e.2.2)).length)) c6), (10, .pointer (some ⟨g10, 0, none⟩)), (13, .int .i64 r), (86, .pointer (some ⟨g4, 1, none⟩)), (87, .slice (some ⟨b, off, none⟩) l.ls.length c1), (88, .pointer (some ⟨g10, 1, none⟩)), (89, .int .i64 e.2.1), (90, .pointer (some ⟨b, off + e.2.1.toNat, none⟩)), (91, .string (sd l.ls e.2.1)), (92, .pointer (some ⟨g10, 2, none⟩)), (93, .int .i64 e.2.2), (94, .int .i64 r), (95, .agg #[.int .i64 2, .string (sd l.ls e.2.1), .int .i64 e.2.2, .int .i64 r]), (96, .slice (some ⟨g5, 0, none⟩) 1 1), (97, .agg #[.int .i64 l.n, .slice (some ⟨b, off, none⟩) l.ls.length c1, .slice A2 l.es.length c2]), (98, .slice (some ⟨b0, o0, none⟩) ((levs l.es n m).length) c), (99, .int .i64 r), (100, .pointer (some ⟨g10, 2, none⟩)), (101, .int .i64 e.2.2), (102, .slice A5 ((playL l (levs l.es n m) f (r) (e.2.2)).length) c5), (103, .slice A6 (1 + ((playL l (levs l.es n m) f (r) (e.2.2)).length)) c6)]
        (fun H => True) 0 (by as_aux_lemma => kernel_rfl) (hMk3.ext_new (hE5.trans hEg5) hng5 hE5)
        (by as_aux_lemma => kernel_rfl) (fun H hC => trivial) fun s_ => ?_
      refine RunA.done [(1, .slice (some ⟨b0, o0, none⟩) ((levs l.es n m).length) c), (4, .pointer (some ⟨g4, 0, none⟩)), (8, .slice A6 (1 + ((playL l (levs l.es n m) f (r) (e.2.2)).length)) c6), (10, .pointer (some ⟨g10, 0, none⟩)), (13, .int .i64 r), (86, .pointer (some ⟨g4, 1, none⟩)), (87, .slice (some ⟨b, off, none⟩) l.ls.length c1), (88, .pointer (some ⟨g10, 1, none⟩)), (89, .int .i64 e.2.1), (90, .pointer (some ⟨b, off + e.2.1.toNat, none⟩)), (91, .string (sd l.ls e.2.1)), (92, .pointer (some ⟨g10, 2, none⟩)), (93, .int .i64 e.2.2), (94, .int .i64 r), (95, .agg #[.int .i64 2, .string (sd l.ls e.2.1), .int .i64 e.2.2, .int .i64 r]), (96, .slice (some ⟨g5, 0, none⟩) 1 1), (97, .agg #[.int .i64 l.n, .slice (some ⟨b, off, none⟩) l.ls.length c1, .slice A2 l.es.length c2]), (98, .slice (some ⟨b0, o0, none⟩) ((levs l.es n m).length) c), (99, .int .i64 r), (100, .pointer (some ⟨g10, 2, none⟩)), (101, .int .i64 e.2.2), (102, .slice A5 ((playL l (levs l.es n m) f (r) (e.2.2)).length) c5), (103, .slice A6 (1 + ((playL l (levs l.es n m) f (r) (e.2.2)).length)) c6)] (by as_aux_lemma => kernel_rfl) (by as_aux_lemma => kernel_rfl) fun s_ => ?_
      refine Run.ret [] (.slice A6 (1 + ((playL l (levs l.es n m) f (r) (e.2.2)).length)) c6) (True) Tryz.func27 (by as_aux_lemma => kernel_rfl) (by as_aux_lemma => kernel_rfl) trivial ?_
      have hO := hOA6
      exact fin A6 c6 k3 og6 hO (hMk3.ext_new ((hE0H.trans hE5).trans hEg5) hng5 (hE0H.trans hE5))
end Go.Proofs.YtbajgbkkbabmlaaGreatDoor
